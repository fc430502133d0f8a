/- Plain facts on what is shown and read of rests and authenticators, without any program; for all inputs. -/
import Derived.Test.YtaldemgfndmmlaaRounds
import Derived.Test.YtaldemgfndmmlaaRests
namespace Go.Proofs.Ytaldemgfndmmlaa.Base
open Go.RowKit Go.Proofs.YtaldemgfndmmlaaW.PrintWords Go.Proofs.YtaldemgfndmmlaaW.PrintLast Go.Proofs.YtaldemgfndmmlaaW.PrintMore
set_option linter.unusedVariables false
set_option linter.unusedSimpArgs false
noncomputable def srS (s o e : Int) : ByteArray := if restB s o e = true then numsS [s, o, e] else ⟨#[]⟩
noncomputable def rrS (s : ByteArray) : Int × Int × Int × Bool := match (rnsS s).1, (rnsS s).2 with
  | [a, b, c], true => if restB a b c = true then (a, b, c, true) else (0, 0, 0, false)
  | _, _ => (0, 0, 0, false)
def authB (c t q : Int) : Bool := decide ((0 ≤ c ∧ c < 6) ∧ (0 ≤ t ∧ t ≤ 100000) ∧ (0 ≤ q ∧ q ≤ 1000000))
noncomputable def saS (c t q key : Int) : ByteArray := if authB c t q = true then sealS key (numsS [7, c, t, q]) else ⟨#[]⟩
noncomputable def rauS (s : ByteArray) (key : Int) : Int × Int × Int × Bool := match (rnsS (opS s key).1).1, (rnsS (opS s key).1).2 with
  | [z, a, b, c], true => if z = 7 ∧ authB a b c = true then (a, b, c, true) else (0, 0, 0, false)
  | _, _ => (0, 0, 0, false)
theorem numsS_size (l : List Int) : (numsS l).size ≤ 900 := by
  unfold numsS; split
  · unfold listS; split
    · exact termS_le _
    · decide
  · decide
theorem sealS_size (k : Int) (t : ByteArray) : (sealS k t).size ≤ 900 := by
  unfold sealS; split
  · exact termS_le _
  · decide
theorem listS_size (ps : List ByteArray) : (listS ps).size ≤ 900 := by
  unfold listS; split
  · exact termS_le _
  · decide
theorem keyS_size (k : Int) : (keyS k).size ≤ 900 := by
  unfold keyS; split
  · rw [ByteArray.size_append]
    have := @var_size k
    have h1 : (⟨#[107]⟩ : ByteArray).size = 1 := rfl
    omega
  · decide
theorem srS_size (s o e : Int) : (srS s o e).size ≤ 900 := by unfold srS; split; exact numsS_size _; decide
theorem saS_size (c t q k : Int) : (saS c t q k).size ≤ 900 := by unfold saS; split; exact sealS_size _ _; decide
theorem opS_size (s : ByteArray) (k : Int) : (opS s k).1.size ≤ s.size := by
  unfold opS; split
  · rw [ByteArray.size_extract]; omega
  · show (⟨#[]⟩ : ByteArray).size ≤ _
    have : (⟨#[]⟩ : ByteArray).size = 0 := rfl
    omega
theorem numS_le (n : Int) (h : 0 ≤ n ∧ n ≤ 1000000) : (numS n).size ≤ 6 := by
  rw [(numS_in (by omega)).1, ByteArray.size_append, ByteArray.size_append]
  obtain ⟨m, rfl⟩ := Int.eq_ofNat_of_zero_le h.1
  have hm : m ≤ MAXV := by unfold MAXV; omega
  have h1 : (⟨#[97]⟩ : ByteArray).size = 1 := rfl
  have h2 : (varS (m : Int)).size ≤ 3 := by rw [varS_in hm, ofB_size]; exact var_len m 2 (by omega)
  have h3 : (varS ((varS (m : Int)).size : Int)).size ≤ 1 := by
    rw [varS_in (by unfold MAXV; omega), ofB_size]; exact var_len _ 0 (by omega)
  omega
/-- A list of few terms is one. -/
theorem list_ok {ps : List ByteArray} (h : ps.length ≤ 12) (hk : ∀ p ∈ ps, okS p = true ∧ parse 7 (bl p) = some (bl p).length) (hz : (cat ps).size ≤ 800) : okS (rawL ps) = true := by
  have hm : ps.length ≤ MAXV := by unfold MAXV; omega
  have hb : bl (rawL ps) = 108 :: (var ps.length ++ bl (cat ps)) := bl_head ⟨#[108]⟩ 108 ps.length rfl hm (cat ps)
  have hmany : ∀ (qs : List ByteArray), (∀ p ∈ qs, parse 7 (bl p) = some (bl p).length) → ∀ r, many (parse 7) qs.length (bl (cat qs) ++ r) = some (cat qs).size := by
    intro qs
    induction qs with
    | nil => intro _ r; simp [many]; rfl
    | cons p qs ih =>
      intro hq r
      rw [List.length_cons, many_succ, cat_cons, bl_append, List.append_assoc, parse_app (hq p (by simp))]
      simp only []
      rw [List.drop_left, ih (fun q hq' => hq q (List.mem_cons_of_mem _ hq')) r]
      rw [ByteArray.size_append, bl_len]; rfl
  have h7 := var_len ps.length 6 (by unfold MAXV at hm; omega)
  have hmm := hmany ps (fun p hp => (hk p hp).2) []
  rw [List.append_nil] at hmm
  have hr := rv_var ps.length hm (bl (cat ps))
  unfold okS
  rw [termB_iff, hb]
  have hl : (108 :: (var ps.length ++ bl (cat ps))).length = 1 + (var ps.length).length + (cat ps).size := by rw [List.length_cons, List.length_append, bl_len]; omega
  rw [hl]
  refine ⟨by omega, by omega, ?_⟩
  exact parse_list hr h (by rw [List.drop_left]; exact hmm)
theorem atom_parse (d : Nat) {x : ByteArray} (h : x.size ≤ 40) : parse (d + 1) (bl (((⟨#[97]⟩ : ByteArray) ++ varS (x.size : Int)) ++ x)) = some (bl (((⟨#[97]⟩ : ByteArray) ++ varS (x.size : Int)) ++ x)).length := by
  have hm : x.size ≤ MAXV := by unfold MAXV; omega
  have hb := bl_head ⟨#[97]⟩ 97 x.size rfl hm x
  have hr := rv_var x.size hm (bl x)
  rw [hb]
  have := parse_atom (d := d) hr h (by rw [List.length_append, bl_len]; omega)
  rw [this, List.length_cons, List.length_append, bl_len]
  congr 1; omega
theorem num_parse (d : Nat) {n : Int} (h : 0 ≤ n ∧ n ≤ 562949953421311) : parse (d + 1) (bl (numS n)) = some (bl (numS n)).length := by
  have h7 := @var_size n
  rw [(numS_in h).1]
  exact atom_parse d (by omega)
/-- Few numbers, none too great, are shown. -/
theorem nums_ok {l : List Int} (h : l.length ≤ 12) (hn : ∀ n ∈ l, 0 ≤ n ∧ n ≤ 1000000) : numsS l ≠ (⟨#[]⟩ : ByteArray) ∧ okS (numsS l) = true ∧ (numsS l).size ≤ 2 + 6 * l.length ∧ (∀ d, parse (d + 2) (bl (numsS l)) = some (bl (numsS l)).length) := by
  have hall : ∀ n ∈ l, 0 ≤ n ∧ n ≤ 562949953421311 := fun n hm => by have := hn n hm; omega
  have hcat : ∀ qs : List Int, (∀ n ∈ qs, 0 ≤ n ∧ n ≤ 1000000) → (cat (qs.map numS)).size ≤ 6 * qs.length := by
    intro qs
    induction qs with
    | nil => intro _; decide
    | cons n qs ih =>
      intro hq
      rw [List.map_cons, cat_cons, ByteArray.size_append, List.length_cons]
      have h1 := numS_le n (hq n (by simp))
      have h2 := ih (fun m hm => hq m (List.mem_cons_of_mem _ hm))
      omega
  have hc := hcat l hn
  have hraw : okS (rawL (l.map numS)) = true := list_ok (by rw [List.length_map]; exact h) (fun p hp => by
    obtain ⟨n, hm, rfl⟩ := List.mem_map.mp hp
    exact ⟨(numS_in (hall n hm)).2.1, num_parse 6 (hall n hm)⟩) (by omega)
  have e : numsS l = rawL (l.map numS) := by
    unfold numsS
    rw [if_pos ⟨h, by rw [List.all_eq_true]; intro n hm; exact decide_eq_true (hall n hm)⟩]
    unfold listS termS
    rw [if_pos ⟨by rw [List.length_map]; exact h, by rw [List.all_eq_true]; intro p hp; obtain ⟨n, hm, rfl⟩ := List.mem_map.mp hp; exact (numS_in (hall n hm)).2.1⟩, if_pos hraw]
  have hsz : (rawL (l.map numS)).size ≤ 2 + 6 * l.length := by
    unfold rawL
    rw [ByteArray.size_append, ByteArray.size_append]
    have h1 : (⟨#[108]⟩ : ByteArray).size = 1 := rfl
    have h2 : (varS ((l.map numS).length : Int)).size ≤ 1 := by
      rw [varS_in (by rw [List.length_map]; unfold MAXV; omega), ofB_size]; exact var_len _ 0 (by rw [List.length_map]; omega)
    omega
  rw [e]
  refine ⟨fun e2 => ?_, hraw, hsz, fun d => ?_⟩
  · rw [e2, empty_not_ok] at hraw; cases hraw
  · have hm : (l.map numS).length ≤ MAXV := by rw [List.length_map]; unfold MAXV; omega
    have hb : bl (rawL (l.map numS)) = 108 :: (var (l.map numS).length ++ bl (cat (l.map numS))) := bl_head ⟨#[108]⟩ 108 _ rfl hm _
    have hr := rv_var (l.map numS).length hm (bl (cat (l.map numS)))
    have hmany : ∀ (qs : List ByteArray), (∀ p ∈ qs, parse (d + 1) (bl p) = some (bl p).length) → many (parse (d + 1)) qs.length (bl (cat qs)) = some (cat qs).size := by
      intro qs
      induction qs with
      | nil => intro _; simp [many]; rfl
      | cons p qs ih =>
        intro hq
        rw [List.length_cons, many_succ, cat_cons, bl_append, parse_app (hq p (by simp))]
        simp only []
        rw [List.drop_left, ih (fun q hq' => hq q (List.mem_cons_of_mem _ hq'))]
        rw [ByteArray.size_append, bl_len]; rfl
    rw [hb]
    have := parse_list (d := d + 1) hr (by rw [List.length_map]; exact h) (q := (cat (l.map numS)).size) (by
      rw [List.drop_left]
      refine hmany _ (fun p hp => ?_)
      obtain ⟨n, hm', rfl⟩ := List.mem_map.mp hp
      exact num_parse d (hall n hm'))
    rw [this, List.length_cons, List.length_append, bl_len]
    congr 1; omega
/-- A sealed term that is not too long or deep is one. -/
theorem seal_ok {k : Int} {t : ByteArray} (hk : 1 ≤ k ∧ k ≤ 1000000) (ho : okS t = true) (hp : parse 7 (bl t) = some (bl t).length) (hz : t.size ≤ 800) : sealS k t ≠ (⟨#[]⟩ : ByteArray) ∧ okS (sealS k t) = true := by
  obtain ⟨n, rfl⟩ := Int.eq_ofNat_of_zero_le (show 0 ≤ k by omega)
  have hm : n ≤ MAXV := by unfold MAXV; omega
  have hb := bl_head ⟨#[115]⟩ 115 n rfl hm t
  have hr := rv_var n hm (bl t)
  have h7 := var_len n 6 (by omega)
  have hraw : okS (((⟨#[115]⟩ : ByteArray) ++ varS (n : Int)) ++ t) = true := by
    unfold okS
    rw [termB_iff, hb]
    have hl : (115 :: (var n ++ bl t)).length = 1 + (var n).length + t.size := by rw [List.length_cons, List.length_append, bl_len]; omega
    rw [hl]
    refine ⟨by omega, by omega, ?_⟩
    have := parse_seal (d := 7) hr (by omega) (by omega) (q := (bl t).length) (by rw [List.drop_left]; exact hp)
    rw [this, bl_len]
  have e : sealS (n : Int) t = ((⟨#[115]⟩ : ByteArray) ++ varS (n : Int)) ++ t := by
    unfold sealS termS
    rw [if_pos ⟨ho, hk⟩, if_pos hraw]
  rw [e]
  refine ⟨fun e2 => ?_, hraw⟩
  rw [e2, empty_not_ok] at hraw; cases hraw
theorem rnsS_empty : rnsS (⟨#[]⟩ : ByteArray) = ([], false) := by
  have : partsS (⟨#[]⟩ : ByteArray) = ([], false) := by
    unfold partsS isK
    rw [empty_not_ok]; rfl
  unfold rnsS
  rw [this]; rfl
end Go.Proofs.Ytaldemgfndmmlaa.Base
