/- The program's ShowTicket returns what the reference's returns, for all arguments. -/
import Derived.Test.YtmhjpnjolgigmaaOFnExactShowTicketx9
import Derived.Test.YtmhjpnjolgigmaaBase
import Derived.Test.YtmhjpnjolgigmaaRests
import Derived.Test.YtmhjpnjolgigmaaTerms
import Derived.Test.YtmhjpnjolgigmaaRounds
import Derived.Test.YtmhjpnjolgigmaaBaseTick
namespace Go.Proofs.Ytmhjpnjolgigmaa.Pure
open Go.RowKit Go.Proofs.Ytmhjpnjolgigmaa.OFnExactShowTicket Go.Proofs.YtmhjpnjolgigmaaW.PrintWords Go.Proofs.YtmhjpnjolgigmaaW.PrintLast Go.Proofs.YtmhjpnjolgigmaaW.PrintMore Go.Proofs.Ytmhjpnjolgigmaa.Base
set_option linter.unusedVariables false
set_option linter.unusedSimpArgs false
theorem laws_szIntS_eq (l : List Int) (a : Int) (ha0 : 0 ≤ a) (ha : a ≤ 1048576) (hl : l.length ≤ maxLen) : ∃ r, laws_szIntS.f l a = some r ∧ r ≤ a ∧ (¬ r < 0 → (l.length : Int) ≤ a) := by
  have hl' : l.length ≤ 9223372036854775807 := hl
  have e : wrap64 (a - (l.length : Int)) = a - (l.length : Int) := w64 (by omega) (by omega)
  unfold laws_szIntS.f
  by_cases h : a - (l.length : Int) < 0
  · exact ⟨-1, by rw [e, if_pos h], by omega, fun hh => absurd (by decide) hh⟩
  · exact ⟨a - (l.length : Int), by rw [e, if_neg h], by omega, fun _ => by omega⟩

theorem laws_szTicket_eq (c f i s o e : Int) (p v : List Int) (hp : p.length ≤ maxLen) (hv : v.length ≤ maxLen) : ∃ r, laws_szTicket.f c f i s o e p v 1048576 = some r ∧ (¬ r < 0 → p.length ≤ 1048576 ∧ v.length ≤ 1048576) := by
  unfold laws_szTicket.f
  obtain ⟨r1, e1, p1, q1⟩ := laws_szIntS_eq p 1048576 (by decide) (by decide) hp
  rw [e1, Option.bind_some]
  by_cases n1 : r1 < 0
  · exact ⟨-1, by rw [if_pos n1], fun h => absurd (by decide) h⟩
  · rw [if_neg n1]
    obtain ⟨r2, e2, p2, q2⟩ := laws_szIntS_eq v r1 (by omega) (by omega) hv
    rw [e2, Option.bind_some]
    by_cases n2 : r2 < 0
    · exact ⟨-1, by rw [if_pos n2], fun h => absurd (by decide) h⟩
    · have := q1 n1; have := q2 n2
      exact ⟨r2, by rw [if_neg n2], fun _ => ⟨by omega, by omega⟩⟩

theorem spec_l1In_eq (a lo hi : Int) : spec_l1In.f a lo hi = some (decide (lo ≤ a ∧ a ≤ hi)) := by
  unfold spec_l1In.f
  by_cases h : a ≥ lo
  · rw [if_pos h]; congr 1; simp [show lo ≤ a from h]
  · rw [if_neg h]; congr 1; simp [show ¬ lo ≤ a from h]

theorem spec_RestOk_eq (s o e : Int) : spec_RestOk.f s o e = some (restB s o e) := by
  unfold spec_RestOk.f restB
  simp only [spec_l1In_eq, Option.bind_some]
  by_cases h1 : 0 ≤ s ∧ s ≤ 7 <;> by_cases h2 : 0 ≤ o ∧ o ≤ 255 <;> simp [h1, h2]

/-- At most so many numbers, all of a kind. -/
def allP (ok : Int → Prop) (l : List Int) (most : Int) : Prop := (l.length : Int) ≤ most ∧ ∀ i, i < l.length → ok (rd l (i : Int))
noncomputable def allB (ok : Int → Prop) (l : List Int) (most : Int) : Bool := @decide (allP ok l most) (Classical.propDecidable _)
theorem allB_t {ok : Int → Prop} {l : List Int} {most : Int} (h : allP ok l most) : allB ok l most = true := @decide_eq_true _ (Classical.propDecidable _) h
theorem allB_f {ok : Int → Prop} {l : List Int} {most : Int} (h : ¬ allP ok l most) : allB ok l most = false := @decide_eq_false _ (Classical.propDecidable _) h
theorem allB_out {ok : Int → Prop} {l : List Int} {most : Int} (h : allB ok l most = true) : allP ok l most := by
  by_cases hp : allP ok l most
  · exact hp
  · rw [allB_f hp] at h; cases h
def ok3 (x : Int) : Prop := 0 ≤ x ∧ x < 3

theorem spec_l5All_ev (l : List Int) (most : Int) (hl : l.length ≤ 1048576) : Ev (fun k => spec_l5All.f k l most 3) (allB ok3 l most) := by
  unfold spec_l5All.f
  by_cases h6 : (l.length : Int) > most
  · rw [allB_f (fun hp => by have := hp.1; omega)]
    simp only [h6, if_true]
    exact Ev.now _
  · simp only [h6, if_false]
    have loop : ∀ d i : Nat, i + d = l.length → (∀ j, j < i → ok3 (rd l (j : Int))) → Ev (fun k => spec_l5All.l0 k l 3 (i : Int)) (allB ok3 l most) := by
      intro d
      induction d with
      | zero =>
        intro i hi hj
        refine Ev.step (f := fun _ => some true) (fun k => ?_) (ev_eq (Ev.now _) (allB_t ⟨by omega, fun j h => hj j (by omega)⟩).symm)
        simp only [spec_l5All.l0]
        rw [if_neg (by omega)]
      | succ d ih =>
        intro i hi hj
        have hlt : i < l.length := by omega
        have e2 : wrap64 ((i : Int) + 1) = ((i + 1 : Nat) : Int) := by rw [w64 (x := (i : Int) + 1) (by omega) (by omega)]; omega
        have c1 : (i : Int) < (l.length : Int) := by omega
        have c2 : 0 ≤ (i : Int) := by omega
        by_cases a1 : rd l (i : Int) < 0
        · refine Ev.step (f := fun _ => some false) (fun k => ?_) (ev_eq (Ev.now _) (allB_f (fun hp => by have := hp.2 i hlt; unfold ok3 at this; omega)).symm)
          simp only [spec_l5All.l0, c1, c2, if_true, a1]
        · by_cases a2 : rd l (i : Int) ≥ 3
          · refine Ev.step (f := fun _ => some false) (fun k => ?_) (ev_eq (Ev.now _) (allB_f (fun hp => by have := hp.2 i hlt; unfold ok3 at this; omega)).symm)
            simp only [spec_l5All.l0, c1, c2, if_true, a1, if_false, a2]
          · refine Ev.step (fun k => ?_) (ih (i + 1) (by omega) (fun j h => ?_))
            · simp only [spec_l5All.l0, c1, c2, if_true, a1, if_false, a2, e2]
            · by_cases hji : j = i
              · subst hji; unfold ok3; omega
              · exact hj j (by omega)
    exact loop l.length 0 (by omega) (fun j h => by omega)

theorem spec_l5Principal_eq (a : Int) : spec_l5Principal.f a = some (decide (0 ≤ a ∧ a < 6)) := by
  unfold spec_l5Principal.f
  by_cases h : a ≥ 0
  · rw [if_pos h]; congr 1; simp [show 0 ≤ a from h]
  · rw [if_neg h]; congr 1; simp [show ¬ 0 ≤ a from h]

def forB (a : Int) : Bool := decide ((0 ≤ a ∧ a ≤ 2) ∨ (10 ≤ a ∧ a ≤ 12))
theorem wrap_for {a : Int} (h0 : -9223372036854775808 ≤ a) (h1 : a ≤ 9223372036854775807) : (0 ≤ wrap64 (a - 10) ∧ wrap64 (a - 10) < 3) ↔ (10 ≤ a ∧ a ≤ 12) := by
  by_cases h : -9223372036854775798 ≤ a
  · rw [w64 (x := a - 10) (by omega) (by omega)]; omega
  · have : wrap64 (a - 10) = a - 10 + 18446744073709551616 := by unfold wrap64; omega
    rw [this]; omega

theorem spec_l5Service_eq (a : Int) : spec_l5Service.f a = some (forB a) := by
  unfold spec_l5Service.f forB
  simp only [spec_l1In_eq, Option.bind_some]
  by_cases h1 : 0 ≤ a ∧ a ≤ 2 <;> simp [h1]

noncomputable def ticketB (c f i s o e : Int) (p v : List Int) : Bool := decide (0 ≤ c ∧ c < 6) && (forB f && (decide (1 ≤ i ∧ i ≤ 1000000) && (restB s o e && (allB ok3 p 6 && allB ok3 v 4))))
noncomputable def stS (c f i s o e : Int) (p v : List Int) (key : Int) : ByteArray := if ticketB c f i s o e p v = true then sealS key (listS [numsS [c, f], keyS i, srS s o e, numsS p, numsS v]) else ⟨#[]⟩
theorem ticketB_out {c f i s o e : Int} {p v : List Int} (h : ticketB c f i s o e p v = true) : (0 ≤ c ∧ c < 6) ∧ forB f = true ∧ (1 ≤ i ∧ i ≤ 1000000) ∧ restB s o e = true ∧ allP ok3 p 6 ∧ allP ok3 v 4 := by
  unfold ticketB at h
  simp only [Bool.and_eq_true, decide_eq_true_eq] at h
  exact ⟨h.1, h.2.1, h.2.2.1, h.2.2.2.1, allB_out h.2.2.2.2.1, allB_out h.2.2.2.2.2⟩
theorem stS_size (c f i s o e : Int) (p v : List Int) (k : Int) : (stS c f i s o e p v k).size ≤ 900 := by
  unfold stS; split
  · exact sealS_size _ _
  · decide

theorem spec_l5TicketOk_ev (c f i s o e : Int) (p v : List Int) (hp : p.length ≤ 1048576) (hv : v.length ≤ 1048576) : Ev (fun k => spec_l5TicketOk.f k c f i s o e p v) (ticketB c f i s o e p v) := by
  unfold spec_l5TicketOk.f ticketB
  simp only [spec_l5Principal_eq, spec_l5Service_eq, spec_l1In_eq, spec_RestOk_eq, Option.bind_some]
  by_cases g1 : 0 ≤ c ∧ c < 6
  · rw [decide_eq_true g1]
    simp only [if_true, Bool.true_and]
    cases forB f with
    | false => simp only [Bool.false_and, Bool.false_eq_true, if_false]; exact Ev.now _
    | true =>
      simp only [if_true, Bool.true_and]
      by_cases g2 : 1 ≤ i ∧ i ≤ 1000000
      · rw [decide_eq_true g2]
        simp only [if_true, Bool.true_and]
        cases restB s o e with
        | false => simp only [Bool.false_and, Bool.false_eq_true, if_false]; exact Ev.now _
        | true =>
          simp only [if_true, Bool.true_and]
          refine Ev.bind (spec_l5All_ev p 6 hp) ?_
          cases allB ok3 p 6 with
          | false => simp only [Bool.false_and, Bool.false_eq_true, if_false]; exact Ev.now _
          | true =>
            simp only [if_true, Bool.true_and]
            exact Ev.bind (spec_l5All_ev v 4 hv) (Ev.now _)
      · rw [decide_eq_false g2]
        simp only [Bool.false_and, Bool.false_eq_true, if_false]; exact Ev.now _
  · rw [decide_eq_false g1]
    simp only [Bool.false_and, Bool.false_eq_true, if_false]; exact Ev.now _

theorem spec_Var_loop (j : Nat) : ∀ (n : Nat) (acc : List Int), n < 128 ^ (j + 1) → n ≤ MAXV → acc.length + j < 1000 →
    Ev (fun k => spec_Var.l0 k (n : Int) acc) (strOfNums (acc ++ (var n).map fun (m : Nat) => (m : Int))) := by
  have e128 : ((128 : Nat) : Int) = 128 := rfl
  induction j with
  | zero =>
    intro n acc hn hm ha
    have hn' : n < 128 := by simpa using hn
    refine Ev.step (f := fun _ => some (strOfNums (acc ++ (var n).map fun (m : Nat) => (m : Int)))) (fun k => ?_) (Ev.now _)
    simp only [spec_Var.l0]
    rw [if_neg (by omega), if_pos (by omega), var_small hn', show (n : Int) % 256 = (n : Int) by omega]; rfl
  | succ j ih =>
    intro n acc hn hm ha
    unfold MAXV at hm
    by_cases h : n < 128
    · refine Ev.step (f := fun _ => some (strOfNums (acc ++ (var n).map fun (m : Nat) => (m : Int)))) (fun k => ?_) (Ev.now _)
      simp only [spec_Var.l0]
      rw [if_neg (by omega), if_pos (by omega), var_small h, show (n : Int) % 256 = (n : Int) by omega]; rfl
    · have hd : n / 128 < 128 ^ (j + 1) := Nat.div_lt_of_lt_mul (by rw [Nat.pow_succ] at hn; omega)
      have hr := ih (n / 128) (acc ++ [((n % 128 + 128 : Nat) : Int)]) hd (by unfold MAXV; omega) (by simp; omega)
      refine Ev.step (f := fun k => spec_Var.l0 k ((n / 128 : Nat) : Int) (acc ++ [((n % 128 + 128 : Nat) : Int)])) (fun k => ?_) (ev_eq hr ?_)
      · simp only [spec_Var.l0]
        rw [if_pos (by omega), if_pos (by omega), ← e128, tdivN, tmodN, w64 (by omega) (by omega), w64 (by omega) (by omega)]
        have e : (((128 : Nat) : Int) + ((n % 128 : Nat) : Int)) % 256 = ((n % 128 + 128 : Nat) : Int) := by omega
        rw [e]
      · rw [var_big h, List.map_cons, List.append_assoc]; rfl
theorem spec_Var_ev (n : Int) : Ev (fun k => spec_Var.f k n) (varS n) := by
  unfold spec_Var.f
  simp only [spec_l1In_eq, Option.bind_some]
  by_cases h : 0 ≤ n ∧ n ≤ 562949953421311
  · simp only [h, decide_true, if_true]
    obtain ⟨m, rfl⟩ := Int.eq_ofNat_of_zero_le h.1
    have hm : m ≤ MAXV := by unfold MAXV; omega
    refine ev_eq (spec_Var_loop 6 m [] (by unfold MAXV at hm; omega) hm (by simp)) ?_
    rw [varS_in hm]; rfl
  · simp only [h, decide_false]
    rw [varS_out h]
    exact Ev.now _

theorem spec_ReadVar_inner (s : ByteArray) (hs : s.size ≤ 140737488355327) (kk : Nat) (h1 : 1 ≤ kk) (h7 : kk ≤ 7) (hkl : kk ≤ (bl s).length) {q : Int × Int} (hq : Ev (fun k => (spec_Var.f k ((val ((bl s).take kk) : Nat) : Int)).bind fun t111 => (if 0 ≤ (kk : Int) then (if (kk : Int) ≤ (s.size : Int) then (if t111.toList = (s.extract 0 (kk : Int).toNat).toList then (some (((val ((bl s).take kk) : Nat) : Int), (kk : Int))) else (spec_ReadVar.l0 k s (wrap64 ((kk : Int) + 1)))) else (none)) else (none))) q) (d : Nat) : ∀ (x : Int), d ≤ kk → x = (d : Int) - 1 →
    Ev (fun k => spec_ReadVar.l1 k s (kk : Int) ((val (((bl s).take kk).drop d) : Nat) : Int) x) q := by
  have hl := bl_len s
  induction d with
  | zero =>
    intro x hd hx
    subst hx
    rw [List.drop_zero]
    refine Ev.step (fun k => ?_) hq
    simp only [spec_ReadVar.l1]
    rw [if_neg (by omega)]
  | succ d ih =>
    intro x hd hx
    have hd' : d < (bl s).length := by omega
    have hb : bt s (d : Int) = (((bl s)[d] : Nat) : Int) := bt_get s d hd'
    have hb256 : (bl s)[d] < 256 := bl_lt s _ (List.getElem_mem hd')
    have hx' : x = (d : Int) := by omega
    subst hx'
    have hlen : ((bl s).take kk).length = kk := by rw [List.length_take]; omega
    have hdrop : ((bl s).take kk).drop d = (bl s)[d] :: ((bl s).take kk).drop (d + 1) := by
      rw [List.drop_eq_getElem_cons (by omega), List.getElem_take]
    have hval : val (((bl s).take kk).drop d) = (bl s)[d] % 128 + 128 * val (((bl s).take kk).drop (d + 1)) := by rw [hdrop]; rfl
    have hlt := val_lt (((bl s).take kk).drop (d + 1))
    rw [List.length_drop, hlen] at hlt
    have hp := pow_le7 (kk - (d + 1)) (by omega)
    have e128 : ((128 : Nat) : Int) = 128 := rfl
    refine Ev.step (fun k => ?_) (ih ((d : Int) - 1) (by omega) rfl)
    simp only [spec_ReadVar.l1]
    rw [if_pos (by omega), if_pos (by omega), if_pos (by omega), hb, w64 (x := (((bl s)[d] : Nat) : Int)) (by omega) (by omega), ← e128, tmodN, w64 (x := _ * ((128 : Nat) : Int)) (by omega) (by omega), w64 (x := _ + _) (by omega) (by omega), w64 (x := _ - 1) (by omega) (by omega)]
    rw [hval]
    congr 1
    omega
theorem spec_ReadVar_loop (s : ByteArray) (hs : s.size ≤ 140737488355327) (d : Nat) : ∀ (kk : Nat), kk + d = 8 → 1 ≤ kk → (∀ n j, j < kk → ¬ R (bl s) n j) →
    Ev (fun k => spec_ReadVar.l0 k s (kk : Int)) (rvI (bl s)) := by
  have hl := bl_len s
  induction d with
  | zero =>
    intro kk hk h1 hno
    have e : rvI (bl s) = (0, 0) := rvI_none (fun n k hR => hno n k (by have := R_seven hR; omega) hR)
    rw [e]
    refine Ev.step (f := fun k => spec_ReadVar.j1 k s (kk : Int) false) (fun k => ?_) (Ev.step (f := fun _ => some (0, 0)) (fun k => ?_) (Ev.now _))
    · simp only [spec_ReadVar.l0]; rw [if_neg (by omega)]
    · simp [spec_ReadVar.j1]
  | succ d ih =>
    intro kk hk h1 hno
    by_cases h : kk ≤ (bl s).length
    · have hmax : val ((bl s).take kk) ≤ MAXV := by
        have := val_lt ((bl s).take kk)
        rw [List.length_take, Nat.min_eq_left h] at this
        have hp : 128 ^ kk ≤ 128 ^ 7 := Nat.pow_le_pow_right (by decide) (by omega)
        have : (128 : Nat) ^ 7 = 562949953421312 := by decide
        unfold MAXV; omega
      have hin : Ev (fun k => (spec_Var.f k ((val ((bl s).take kk) : Nat) : Int)).bind fun t111 => (if 0 ≤ (kk : Int) then (if (kk : Int) ≤ (s.size : Int) then (if t111.toList = (s.extract 0 (kk : Int).toNat).toList then (some (((val ((bl s).take kk) : Nat) : Int), (kk : Int))) else (spec_ReadVar.l0 k s (wrap64 ((kk : Int) + 1)))) else (none)) else (none))) (rvI (bl s)) := by
        refine Ev.bind (spec_Var_ev _) ?_
        simp only [show (0 : Int) ≤ (kk : Int) by omega, show (kk : Int) ≤ (s.size : Int) by omega, if_true, toList_iff, Int.toNat_natCast]
        by_cases hR : R (bl s) (val ((bl s).take kk)) kk
        · have := (R_iff s _ kk hmax (by omega)).2 hR
          simp only [this, if_true]
          rw [rvI_some hR]
          exact Ev.now _
        · have hne : ¬ varS ((val ((bl s).take kk) : Nat) : Int) = s.extract 0 kk := fun e => hR ((R_iff s _ kk hmax (by omega)).1 e)
          simp only [hne, if_false]
          have hw : Aside0 (wrap64 ((kk : Int) + 1) = ((kk + 1 : Nat) : Int)) := ⟨by rw [w64 (by omega) (by omega)]; omega⟩
          rw [hw.out]
          refine ih (kk + 1) (by omega) (by omega) (fun n j hj hRj => ?_)
          by_cases hjk : j < kk
          · exact hno n j hjk hRj
          · have : j = kk := by omega
            subst this
            rw [← R_val hRj] at hRj
            exact hR hRj
      have hout := spec_ReadVar_inner s hs kk h1 (by omega) h hin kk ((kk : Int) - 1) (Nat.le_refl _) rfl
      rw [List.drop_of_length_le (by rw [List.length_take]; omega)] at hout
      refine Ev.step (f := fun k => spec_ReadVar.j1 k s (kk : Int) true) (fun k => ?_) (Ev.step (fun k => ?_) hout)
      · simp only [spec_ReadVar.l0]; rw [if_pos (by omega), decide_eq_true (by omega)]
      · simp only [spec_ReadVar.j1, if_true]; rw [w64 (by omega) (by omega)]; rfl
    · have e : rvI (bl s) = (0, 0) := rvI_none (fun n k hR => hno n k (by have := R_le hR; omega) hR)
      rw [e]
      refine Ev.step (f := fun k => spec_ReadVar.j1 k s (kk : Int) false) (fun k => ?_) (Ev.step (f := fun _ => some (0, 0)) (fun k => ?_) (Ev.now _))
      · simp only [spec_ReadVar.l0]
        by_cases h7 : (kk : Int) ≤ 7
        · rw [if_pos h7, decide_eq_false (by omega)]
        · rw [if_neg h7]
      · simp [spec_ReadVar.j1]
theorem spec_ReadVar_ev (s : ByteArray) (hs : s.size ≤ 140737488355327) : Ev (fun k => spec_ReadVar.f k s) (rvI (bl s)) := by
  unfold spec_ReadVar.f
  exact spec_ReadVar_loop s hs 7 1 (by omega) (by omega) (fun n j hj hR => by have := R_pos hR; omega)

theorem spec_l2Term_list (s : ByteArray) (hs : s.size ≤ 140737488355327) (d : Nat) (hd : d ≤ 100) (n : Nat) (hn : n ≤ 12) (a0 : Nat) (ha0 : a0 ≤ s.size)
    (hf : ∀ a, a ≤ s.size → ∃ dp : Int, Ev (fun k => spec_l2Term.f k s (a : Int) (d : Int)) (pI (parse d ((bl s).drop a)), dp) ∧ 0 ≤ dp ∧ dp ≤ d) (r : Nat) : ∀ (i a : Nat) (deep : Int), i + r = n → a ≤ s.size → a0 ≤ a → 0 ≤ deep → deep ≤ d →
    ∃ dp : Int, Ev (fun k => spec_l2Term.l0 k s (a0 : Int) ((d + 1 : Nat) : Int) (n : Int) (a : Int) deep (i : Int)) (eI a0 a (many (parse d) r ((bl s).drop a)), dp) ∧ 0 ≤ dp ∧ dp ≤ d + 1 := by
  have hw : Aside0 (wrap64 (((d + 1 : Nat) : Int) - 1) = (d : Int)) := ⟨by rw [w64 (by omega) (by omega)]; omega⟩
  induction r with
  | zero =>
    intro i a deep hi ha haa h0 h1
    refine ⟨1 + deep, Ev.step (f := fun _ => some (((a - a0 : Nat) : Int), 1 + deep)) (fun k => ?_) (ev_eq (Ev.now _) ?_), by omega, by omega⟩
    · simp only [spec_l2Term.l0]
      rw [if_neg (by omega), w64 (x := _ - _) (by omega) (by omega), w64 (x := 1 + _) (by omega) (by omega)]
      congr 2; omega
    · rfl
  | succ r ih =>
    intro i a deep hi ha haa h0 h1
    have hi1 : Aside0 (wrap64 ((i : Int) + 1) = ((i + 1 : Nat) : Int)) := ⟨by rw [w64 (by omega) (by omega)]; omega⟩
    obtain ⟨dp, hdp, hd0, hd1⟩ := hf a ha
    have hstep : ∀ k, spec_l2Term.l0 (k + 1) s (a0 : Int) ((d + 1 : Nat) : Int) (n : Int) (a : Int) deep (i : Int) = (spec_l2Term.f k s (a : Int) (d : Int)).bind fun bt118 => (if bt118.1 = 0 then (some (0, 0)) else (if bt118.2 > deep then (spec_l2Term.l0 k s (a0 : Int) ((d + 1 : Nat) : Int) (n : Int) (wrap64 ((a : Int) + bt118.1)) bt118.2 ((i + 1 : Nat) : Int)) else (spec_l2Term.l0 k s (a0 : Int) ((d + 1 : Nat) : Int) (n : Int) (wrap64 ((a : Int) + bt118.1)) deep ((i + 1 : Nat) : Int)))) := by
      intro k
      simp only [spec_l2Term.l0]; rw [if_pos (by omega), hw.out, hi1.out]
    rw [many_succ]
    cases hp : parse d ((bl s).drop a) with
    | none =>
      rw [hp] at hdp
      refine ⟨0, Ev.step hstep (Ev.bind hdp ?_), by omega, by omega⟩
      simp only [pI, if_true]
      exact Ev.now _
    | some m =>
      rw [hp] at hdp
      have hle := parse_le d _ _ hp
      rw [List.length_drop, bl_len] at hle
      have hm : ¬ ((m : Int) = 0) := by omega
      have hw2 : Aside0 (wrap64 ((a : Int) + (m : Int)) = ((a + m : Nat) : Int)) := ⟨by rw [w64 (by omega) (by omega)]; omega⟩
      have tail : ∀ deep', 0 ≤ deep' → deep' ≤ (d : Int) → ∃ dp : Int, Ev (fun k => spec_l2Term.l0 k s (a0 : Int) ((d + 1 : Nat) : Int) (n : Int) ((a + m : Nat) : Int) deep' ((i + 1 : Nat) : Int)) (eI a0 a (addO m (many (parse d) r (((bl s).drop a).drop m))), dp) ∧ 0 ≤ dp ∧ dp ≤ d + 1 := by
        intro deep' h0' h1'
        obtain ⟨dp', he, h⟩ := ih (i + 1) (a + m) deep' (by omega) (by omega) (by omega) h0' h1'
        rw [← List.drop_drop, eI_add] at he
        exact ⟨dp', he, h⟩
      by_cases hc : dp > deep
      · obtain ⟨dp', he, h⟩ := tail dp hd0 hd1
        refine ⟨dp', Ev.step hstep (Ev.bind hdp ?_), h⟩
        simp only [pI, hm, if_false, hc, if_true, hw2.out]
        exact he
      · obtain ⟨dp', he, h⟩ := tail deep h0 h1
        refine ⟨dp', Ev.step hstep (Ev.bind hdp ?_), h⟩
        simp only [pI, hm, if_false, hc, hw2.out]
        exact he
theorem spec_l2Term_ev (s : ByteArray) (hs : s.size ≤ 140737488355327) (d : Nat) : ∀ (a : Nat), d ≤ 100 → a ≤ s.size → ∃ dp : Int, Ev (fun k => spec_l2Term.f k s (a : Int) (d : Int)) (pI (parse d ((bl s).drop a)), dp) ∧ 0 ≤ dp ∧ dp ≤ d := by
  have hl := bl_len s
  have dead : ∀ (a d : Int), Ev (fun k => spec_l2Term.j0 k s a d true) (0, 0) := by
    intro a d
    refine Ev.step (f := fun _ => some (0, 0)) (fun k => ?_) (Ev.now _)
    simp [spec_l2Term.j0]
  induction d with
  | zero =>
    intro a hd ha
    by_cases h : (a : Int) ≥ (s.size : Int)
    · refine ⟨0, Ev.step (fun k => ?_) (ev_eq (dead (a : Int) ((0 : Nat) : Int)) (by simp [parse, pI])), by omega, by omega⟩
      simp only [spec_l2Term.f]; rw [if_pos h]
    · refine ⟨0, Ev.step (fun k => ?_) (ev_eq (dead (a : Int) ((0 : Nat) : Int)) (by simp [parse, pI])), by omega, by omega⟩
      simp only [spec_l2Term.f]; rw [if_neg h, decide_eq_true (by decide)]
  | succ d ih =>
    intro a hd ha
    by_cases h : (a : Int) ≥ (s.size : Int)
    · refine ⟨0, Ev.step (fun k => ?_) (ev_eq (dead (a : Int) ((d + 1 : Nat) : Int)) ?_), by omega, by omega⟩
      · simp only [spec_l2Term.f]; rw [if_pos h]
      · rw [List.drop_of_length_le (by omega), parse_nil]; rfl
    · have hlt : a < (bl s).length := by omega
      have hs1 : 0 ≤ (a : Int) := by omega
      have hs2 : (a : Int) < (s.size : Int) := by omega
      have ha1 : Aside0 (wrap64 ((a : Int) + 1) = ((a + 1 : Nat) : Int)) := ⟨by rw [w64 (by omega) (by omega)]; omega⟩
      have ha0 : 0 ≤ ((a + 1 : Nat) : Int) := by omega
      have ha2 : ((a + 1 : Nat) : Int) ≤ (s.size : Int) := by omega
      have hd1 : Aside0 (wrap64 (((d + 1 : Nat) : Int) - 1) = (d : Int)) := ⟨by rw [w64 (by omega) (by omega)]; omega⟩
      have hsz : (s.extract (a + 1) s.size).size ≤ 140737488355327 := by rw [ByteArray.size_extract]; omega
      have hv := spec_ReadVar_ev (s.extract (a + 1) s.size) hsz
      rw [bl_from] at hv
      have hcons : (bl s).drop a = (bl s)[a] :: (bl s).drop (a + 1) := List.drop_eq_getElem_cons hlt
      have hstep : ∀ k, spec_l2Term.f (k + 1) s (a : Int) ((d + 1 : Nat) : Int) = spec_l2Term.j0 k s (a : Int) ((d + 1 : Nat) : Int) false := by
        intro k; simp only [spec_l2Term.f]; rw [if_neg h, decide_eq_false (by omega)]
      suffices hh : ∃ dp : Int, Ev (fun k => spec_l2Term.j0 k s (a : Int) ((d + 1 : Nat) : Int) false) (pI (parse (d + 1) ((bl s).drop a)), dp) ∧ 0 ≤ dp ∧ dp ≤ ((d + 1 : Nat) : Int) by
        obtain ⟨dp, he, h⟩ := hh
        exact ⟨dp, Ev.step hstep he, h⟩
      have hbind : ∀ (q : Int × Int) (F : Nat → Int × Int → Option (Int × Int)), (∀ k, spec_l2Term.j0 (k + 1) s (a : Int) ((d + 1 : Nat) : Int) false = (spec_ReadVar.f k (s.extract (a + 1) s.size)).bind (F k)) → Ev (fun k => F k (rvI ((bl s).drop (a + 1)))) q → Ev (fun k => spec_l2Term.j0 k s (a : Int) ((d + 1 : Nat) : Int) false) q :=
        fun q F h1 h2 => Ev.step h1 (Ev.bind hv h2)
      rw [hcons]
      have hbt := bt_get s a hlt
      generalize hcc : (bl s)[a] = c at hbt
      rw [parse]
      cases hr : rv ((bl s).drop (a + 1)) with
      | none =>
        refine ⟨0, hbind _ _ (fun k => by simp only [spec_l2Term.j0]; rw [if_neg (by decide), ha1.out, if_pos ha0, if_pos ha2]; rfl) ?_, by omega, by omega⟩
        unfold rvI; rw [hr]
        simp only [if_true]
        exact Ev.now _
      | some p =>
        obtain ⟨n, k'⟩ := p
        have hR := rv_R hr
        have hk := R_le hR
        have hk0 := R_pos hR
        have hn9 := hR.1
        unfold MAXV at hn9
        simp only at hk hn9 hk0
        rw [List.length_drop, hl] at hk
        have hk0' : ¬ ((k' : Int) = 0) := by omega
        simp only []
        have hwk : Aside0 (wrap64 (((a + 1 : Nat) : Int) + (k' : Int)) = ((a + 1 + k' : Nat) : Int)) := ⟨by rw [w64 (by omega) (by omega)]; omega⟩
        by_cases c1 : c = 97
        · subst c1
          rw [if_pos rfl, List.length_drop, hl]
          by_cases c2 : n ≤ 40
          · by_cases c3 : n ≤ s.size - (a + 1) - k'
            · rw [if_pos ⟨c2, c3⟩]
              refine ⟨1, hbind _ _ (fun k => by simp only [spec_l2Term.j0]; rw [if_neg (by decide), ha1.out, if_pos ha0, if_pos ha2]; rfl) ?_, by omega, by omega⟩
              unfold rvI; rw [hr]
              simp only [hk0', hs1, hs2, hbt, if_true, if_false, hwk.out]
              have c2' : ¬ ((n : Int) > 40) := by omega
              have c3' : ¬ ((n : Int) > wrap64 ((s.size : Int) - ((a + 1 + k' : Nat) : Int))) := by rw [w64 (by omega) (by omega)]; omega
              have e : Aside0 (wrap64 (wrap64 (1 + (k' : Int)) + (n : Int)) = ((1 + k' + n : Nat) : Int)) := ⟨by rw [w64 (x := 1 + (k' : Int)) (by omega) (by omega), w64 (by omega) (by omega)]; omega⟩
              simp only [c2', c3', if_false, e.out, show (((97 : Nat) : Int) = 97) from rfl, if_true]
              exact Ev.now _
            · rw [if_neg (fun e => c3 e.2)]
              refine ⟨0, hbind _ _ (fun k => by simp only [spec_l2Term.j0]; rw [if_neg (by decide), ha1.out, if_pos ha0, if_pos ha2]; rfl) ?_, by omega, by omega⟩
              unfold rvI; rw [hr]
              simp only [hk0', hs1, hs2, hbt, if_true, if_false, hwk.out]
              have c2' : ¬ ((n : Int) > 40) := by omega
              have c3' : ((n : Int) > wrap64 ((s.size : Int) - ((a + 1 + k' : Nat) : Int))) := by rw [w64 (by omega) (by omega)]; omega
              simp only [c2', c3', if_false, show (((97 : Nat) : Int) = 97) from rfl, if_true]
              exact Ev.now _
          · rw [if_neg (fun e => c2 e.1)]
            refine ⟨0, hbind _ _ (fun k => by simp only [spec_l2Term.j0]; rw [if_neg (by decide), ha1.out, if_pos ha0, if_pos ha2]; rfl) ?_, by omega, by omega⟩
            unfold rvI; rw [hr]
            simp only [hk0', hs1, hs2, hbt, if_true, if_false]
            have c2' : ((n : Int) > 40) := by omega
            simp only [c2', show (((97 : Nat) : Int) = 97) from rfl, if_true]
            exact Ev.now _
        · have c1' : ¬ ((c : Int) = 97) := by omega
          rw [if_neg c1]
          by_cases c4 : c = 107
          · subst c4
            rw [if_pos rfl]
            by_cases c5 : 1 ≤ n ∧ n ≤ 1000000
            · have c5' : 1 ≤ (n : Int) ∧ (n : Int) ≤ 1000000 := by omega
              refine ⟨1, hbind _ _ (fun k => by simp only [spec_l2Term.j0]; rw [if_neg (by decide), ha1.out, if_pos ha0, if_pos ha2]; rfl) ?_, by omega, by omega⟩
              unfold rvI; rw [hr, if_pos c5]
              have e : Aside0 (wrap64 (1 + (k' : Int)) = ((1 + k' : Nat) : Int)) := ⟨by rw [w64 (by omega) (by omega)]; omega⟩
              simp only [hk0', hs1, hs2, hbt, if_true, if_false, c1', show (((107 : Nat) : Int) = 107) from rfl, spec_l1In_eq, Option.bind_some, c5', decide_true, e.out, and_self]
              exact Ev.now _
            · have c5' : ¬ (1 ≤ (n : Int) ∧ (n : Int) ≤ 1000000) := by omega
              refine ⟨0, hbind _ _ (fun k => by simp only [spec_l2Term.j0]; rw [if_neg (by decide), ha1.out, if_pos ha0, if_pos ha2]; rfl) ?_, by omega, by omega⟩
              unfold rvI; rw [hr, if_neg c5]
              simp only [hk0', hs1, hs2, hbt, if_true, if_false, c1', show (((107 : Nat) : Int) = 107) from rfl, spec_l1In_eq, Option.bind_some, c5', decide_false]
              exact Ev.now _
          · have c4' : ¬ ((c : Int) = 107) := by omega
            rw [if_neg c4]
            by_cases c6 : c = 108
            · subst c6
              rw [if_pos rfl]
              by_cases c7 : n ≤ 12
              · have c7' : ¬ ((n : Int) > 12) := by omega
                obtain ⟨dp, hL, h0, h1⟩ := spec_l2Term_list s hs d (by omega) n c7 a ha (fun a ha => ih a (by omega) ha) n 0 (a + 1 + k') 0 (by omega) (by omega) (by omega) (by omega) (by omega)
                rw [← List.drop_drop] at hL
                refine ⟨dp, hbind _ _ (fun k => by simp only [spec_l2Term.j0]; rw [if_neg (by decide), ha1.out, if_pos ha0, if_pos ha2]; rfl) ?_, h0, by omega⟩
                unfold rvI; rw [hr, if_pos c7]
                simp only [hk0', hs1, hs2, hbt, if_true, if_false, c1', c4', c7', show (((108 : Nat) : Int) = 108) from rfl, show ¬ (((108 : Nat) : Int) = 115) by omega, hwk.out]
                refine ev_eq hL ?_
                cases hq : many (parse d) n (((bl s).drop (a + 1)).drop k') with
                | none => rfl
                | some q =>
                  simp only [eI, pI]
                  rw [show a + 1 + k' + q - a = 1 + k' + q by omega]
              · have c7' : ((n : Int) > 12) := by omega
                refine ⟨0, hbind _ _ (fun k => by simp only [spec_l2Term.j0]; rw [if_neg (by decide), ha1.out, if_pos ha0, if_pos ha2]; rfl) ?_, by omega, by omega⟩
                unfold rvI; rw [hr, if_neg c7]
                simp only [hk0', hs1, hs2, hbt, if_true, if_false, c1', c4', c7', show (((108 : Nat) : Int) = 108) from rfl, show ¬ (((108 : Nat) : Int) = 115) by omega]
                exact Ev.now _
            · have c6' : ¬ ((c : Int) = 108) := by omega
              rw [if_neg c6]
              by_cases c8 : c = 115
              · subst c8
                rw [if_pos rfl]
                obtain ⟨dp, hL, h0, h1⟩ := ih (a + 1 + k') (by omega) (by omega)
                rw [← List.drop_drop] at hL
                have hk1 : ∀ F : Nat → Int × Int → Option (Int × Int), True := fun _ => trivial
                cases hq : parse d (((bl s).drop (a + 1)).drop k') with
                | none =>
                  rw [hq] at hL
                  refine ⟨0, hbind _ _ (fun k => by simp only [spec_l2Term.j0]; rw [if_neg (by decide), ha1.out, if_pos ha0, if_pos ha2]; rfl) ?_, by omega, by omega⟩
                  unfold rvI; rw [hr]
                  simp only [hk0', hs1, hs2, hbt, if_true, if_false, c1', c4', show (((115 : Nat) : Int) = 115) from rfl, hwk.out, hd1.out]
                  refine Ev.bind hL ?_
                  simp only [pI, if_true]
                  refine ev_eq (Ev.now _) ?_
                  simp [pI]
                | some q =>
                  rw [hq] at hL
                  have hle := parse_le d _ _ hq
                  rw [List.length_drop, List.length_drop, hl] at hle
                  have hq0 : ¬ ((q : Int) = 0) := by omega
                  by_cases c5 : 1 ≤ n ∧ n ≤ 1000000
                  · have c5' : 1 ≤ (n : Int) ∧ (n : Int) ≤ 1000000 := by omega
                    refine ⟨1 + dp, hbind _ _ (fun k => by simp only [spec_l2Term.j0]; rw [if_neg (by decide), ha1.out, if_pos ha0, if_pos ha2]; rfl) ?_, by omega, by omega⟩
                    unfold rvI; rw [hr, if_pos c5]
                    simp only [hk0', hs1, hs2, hbt, if_true, if_false, c1', c4', show (((115 : Nat) : Int) = 115) from rfl, hwk.out, hd1.out]
                    refine Ev.bind hL ?_
                    have e : Aside0 (wrap64 (wrap64 (1 + (k' : Int)) + (q : Int)) = ((1 + k' + q : Nat) : Int)) := ⟨by rw [w64 (x := 1 + (k' : Int)) (by omega) (by omega), w64 (by omega) (by omega)]; omega⟩
                    have e2 : wrap64 (1 + dp) = 1 + dp := w64 (by omega) (by omega)
                    simp only [pI, hq0, if_false, spec_l1In_eq, Option.bind_some, c5', decide_true, and_self, if_true, e.out, e2]
                    exact Ev.now _
                  · have c5' : ¬ (1 ≤ (n : Int) ∧ (n : Int) ≤ 1000000) := by omega
                    refine ⟨0, hbind _ _ (fun k => by simp only [spec_l2Term.j0]; rw [if_neg (by decide), ha1.out, if_pos ha0, if_pos ha2]; rfl) ?_, by omega, by omega⟩
                    unfold rvI; rw [hr, if_neg c5]
                    simp only [hk0', hs1, hs2, hbt, if_true, if_false, c1', c4', show (((115 : Nat) : Int) = 115) from rfl, hwk.out, hd1.out]
                    refine Ev.bind hL ?_
                    simp only [pI, hq0, if_false, spec_l1In_eq, Option.bind_some, c5', decide_false]
                    exact Ev.now _
              · have c8' : ¬ ((c : Int) = 115) := by omega
                rw [if_neg c8]
                refine ⟨0, hbind _ _ (fun k => by simp only [spec_l2Term.j0]; rw [if_neg (by decide), ha1.out, if_pos ha0, if_pos ha2]; rfl) ?_, by omega, by omega⟩
                unfold rvI; rw [hr]
                simp only [hk0', hs1, hs2, hbt, if_true, if_false, c1', c4', c6', c8']
                exact Ev.now _

theorem spec_TermOk_ev (s : ByteArray) (hs : s.size ≤ 140737488355327) : Ev (fun k => spec_TermOk.f k s) (termB (bl s)) := by
  have hl := bl_len s
  unfold spec_TermOk.f
  obtain ⟨dp, ht, _, _⟩ := spec_l2Term_ev s hs 8 0 (by decide) (by omega)
  refine Ev.bind ht ?_
  rw [List.drop_zero]
  unfold termB
  rw [hl]
  cases hp : parse 8 (bl s) with
  | none =>
    refine ev_eq (Ev.now _) ?_
    simp
  | some m =>
    have hle := parse_le 8 _ _ hp
    rw [hl] at hle
    have h1 : ((m : Int) > 0) := by omega
    simp only [pI, h1, if_true]
    by_cases hm : m = s.size
    · subst hm
      simp only [if_true]
      refine ev_eq (Ev.now _) ?_
      exact decide_eq_decide.mpr ⟨fun h => ⟨by omega, by omega, trivial⟩, fun h => by omega⟩
    · have hm' : ¬ ((m : Int) = (s.size : Int)) := by omega
      simp only [hm', if_false]
      refine ev_eq (Ev.now _) ?_
      rw [decide_eq_false]
      intro h
      exact hm (Option.some.inj h.2.2)

theorem spec_l2Ok_ev (s : ByteArray) (hs : s.size ≤ 140737488355327) : Ev (fun k => spec_l2Ok.f k s) (termS s) := by
  unfold spec_l2Ok.f
  refine Ev.bind (spec_TermOk_ev s hs) ?_
  unfold termS okS
  by_cases h : termB (bl s) = true
  · simp only [h, if_true]; exact Ev.now _
  · simp only [h]; exact Ev.now _

theorem spec_Seal_ev (n : Int) (t : ByteArray) (ht : t.size ≤ 1000000000) : Ev (fun k => spec_Seal.f k n t) (sealS n t) := by
  have dead : Ev (fun k => spec_Seal.j0 k n t true) (⟨#[]⟩ : ByteArray) := by
    refine Ev.step (f := fun _ => some (⟨#[]⟩ : ByteArray)) (fun k => ?_) (Ev.now _)
    simp [spec_Seal.j0]
  unfold spec_Seal.f
  simp only [spec_l1In_eq, Option.bind_some]
  have ho : termB (bl t) = okS t := rfl
  unfold sealS
  by_cases h2 : 1 ≤ n ∧ n ≤ 1000000
  · simp only [h2, decide_true, if_true, and_self, and_true]
    refine Ev.bind (spec_TermOk_ev t (by omega)) ?_
    rw [ho]
    by_cases h1 : okS t = true
    · rw [if_pos h1, h1]
      have h7 := @var_size n
      have h1 : (⟨#[115]⟩ : ByteArray).size = 1 := rfl
      have a1 : 1 + (varS n).size ≤ 9223372036854775807 := by omega
      have a2 : ((⟨#[115]⟩ : ByteArray) ++ varS n).size + t.size ≤ 9223372036854775807 := by rw [ByteArray.size_append]; omega
      refine Ev.step (fun k => by simp only [spec_Seal.j0]; rw [if_neg (by decide)]) (Ev.bind (spec_Var_ev n) ?_)
      simp only [a1, a2, if_true]
      exact Ev.bind (spec_l2Ok_ev _ (by rw [ByteArray.size_append, ByteArray.size_append]; omega)) (ev_eq (Ev.now _) rfl)
    · rw [if_neg h1, Bool.eq_false_iff.mpr h1]
      exact dead
  · have h2' : ¬ (okS t = true ∧ 1 ≤ n ∧ n ≤ 1000000) := fun e => h2 e.2
    rw [if_neg h2']
    simp only [h2, decide_false, Bool.false_eq_true, if_false]
    exact dead

theorem spec_List_loop (ps : List ByteArray) (hl : ps.length ≤ 12) (d : Nat) : ∀ (i : Nat) (acc : ByteArray), i + d = ps.length → acc.size ≤ 1000 + 900 * i → (∀ p ∈ ps, p.size ≤ 1099511627776) →
    Ev (fun k => spec_List.l0 k ps acc (i : Int)) (if (ps.drop i).all okS = true then termS (acc ++ cat (ps.drop i)) else ⟨#[]⟩) := by
  induction d with
  | zero =>
    intro i acc hi ha hp
    rw [List.drop_of_length_le (by omega)]
    have e : acc ++ cat [] = acc := ByteArray.append_empty
    simp only [List.all_nil, if_true, e]
    refine Ev.step (f := fun k => (spec_l2Ok.f k acc).bind fun t => some t) (fun k => ?_) (Ev.bind (spec_l2Ok_ev acc (by omega)) (Ev.now _))
    simp only [spec_List.l0]; rw [if_neg (by omega)]
  | succ d ih =>
    intro i acc hi ha hp
    have hlt : i < ps.length := by omega
    have hcons : ps.drop i = ps[i] :: ps.drop (i + 1) := List.drop_eq_getElem_cons hlt
    have hsz := hp _ (List.getElem_mem hlt)
    have hw : Aside0 (wrap64 ((i : Int) + 1) = ((i + 1 : Nat) : Int)) := ⟨by rw [w64 (by omega) (by omega)]; omega⟩
    refine Ev.step (f := fun k => (spec_TermOk.f k ps[i]).bind fun t => (if t = true then (if acc.size + ps[i].size ≤ 9223372036854775807 then spec_List.l0 k ps (acc ++ ps[i]) ((i + 1 : Nat) : Int) else none) else some (⟨#[]⟩ : ByteArray))) (fun k => ?_) (Ev.bind (spec_TermOk_ev ps[i] (by omega)) ?_)
    · simp only [spec_List.l0]; rw [if_pos (by omega), if_pos (by omega), rdOf_get ps i hlt, hw.out]
    · have ho : termB (bl ps[i]) = okS ps[i] := rfl
      rw [ho, hcons, List.all_cons, cat_cons]
      by_cases h : okS ps[i] = true
      · have h9 := (okS_size h).2
        have hr := ih (i + 1) (acc ++ ps[i]) (by omega) (by rw [ByteArray.size_append]; omega) hp
        have hle : acc.size + ps[i].size ≤ 9223372036854775807 := by omega
        rw [ByteArray.append_assoc] at hr
        simp only [h, hle, if_true, Bool.true_and]
        exact hr
      · have h' := Bool.eq_false_iff.mpr h
        rw [h', Bool.false_and]
        simp only [Bool.false_eq_true, if_false]
        exact Ev.now _
theorem spec_List_ev (ps : List ByteArray) (hp : ∀ p ∈ ps, p.size ≤ 1099511627776) : Ev (fun k => spec_List.f k ps) (listS ps) := by
  unfold spec_List.f
  by_cases h12 : ps.length ≤ 12
  · have h12' : ¬ ((ps.length : Int) > 12) := by omega
    simp only [h12', if_false]
    refine Ev.bind (spec_Var_ev _) ?_
    have h7 := @var_size (ps.length : Int)
    have h1 : (⟨#[108]⟩ : ByteArray).size = 1 := rfl
    have a1 : 1 + (varS (ps.length : Int)).size ≤ 9223372036854775807 := by omega
    simp only [a1, if_true]
    refine ev_eq (spec_List_loop ps h12 ps.length 0 ((⟨#[108]⟩ : ByteArray) ++ varS (ps.length : Int)) (by omega) (by rw [ByteArray.size_append]; omega) hp) ?_
    unfold listS rawL
    rw [List.drop_zero]
    by_cases h : ps.all okS = true
    · rw [if_pos h, if_pos ⟨h12, h⟩]
    · rw [if_neg h, if_neg (fun e => h e.2)]
  · have h12' : ((ps.length : Int) > 12) := by omega
    simp only [h12', if_true]
    refine ev_eq (Ev.now _) ?_
    unfold listS; rw [if_neg (fun e => h12 e.1)]

theorem spec_Atom_ev (d : ByteArray) (hd : d.size ≤ 1000000000) : Ev (fun k => spec_Atom.f k d) (atomS d) := by
  unfold spec_Atom.f
  by_cases h : (d.size : Int) > 40
  · simp only [h, if_true]
    refine ev_eq (Ev.now _) ?_
    unfold atomS termS
    rw [atom_long (by omega) (by unfold MAXV; omega), if_neg (by decide)]
  · simp only [h, if_false]
    refine Ev.bind (spec_Var_ev _) ?_
    have h7 := @var_size (d.size : Int)
    have h1 : (⟨#[97]⟩ : ByteArray).size = 1 := rfl
    have a1 : 1 + (varS (d.size : Int)).size ≤ 9223372036854775807 := by omega
    have a2 : ((⟨#[97]⟩ : ByteArray) ++ varS (d.size : Int)).size + d.size ≤ 9223372036854775807 := by rw [ByteArray.size_append]; omega
    simp only [a1, a2, if_true]
    refine Ev.bind (spec_l2Ok_ev _ (by rw [ByteArray.size_append, ByteArray.size_append]; omega)) (ev_eq (Ev.now _) rfl)

theorem toList_nil (s : ByteArray) : s.toList = ([] : List UInt8) ↔ s = (⟨#[]⟩ : ByteArray) := by
  have h := toList_iff s (⟨#[]⟩ : ByteArray)
  have e : (⟨#[]⟩ : ByteArray).toList = [] := by rw [ByteArray.toList_eq]
  rw [e] at h
  exact h

theorem spec_Num_ev (n : Int) : Ev (fun k => spec_Num.f k n) (numS n) := by
  unfold spec_Num.f
  refine Ev.bind (spec_Var_ev n) ?_
  unfold numS
  simp only [toList_nil]
  by_cases h : varS n = (⟨#[]⟩ : ByteArray)
  · simp only [h, if_true]; exact Ev.now _
  · simp only [h, if_false]
    have := @var_size n
    exact Ev.bind (spec_Atom_ev _ (by omega)) (ev_eq (Ev.now _) rfl)

theorem listS_long2 {ps : List ByteArray} (h : 12 < ps.length) : listS ps = (⟨#[]⟩ : ByteArray) := by unfold listS; rw [if_neg (fun e => by omega)]
theorem spec_Nums_loop (l : List Int) (hl : l.length ≤ 1073741824) (d : Nat) : ∀ (i : Nat), i + d = min 13 l.length →
    Ev (fun k => spec_Nums.l0 k l ((l.take i).map numS) (i : Int)) (if (((l.take (min 13 l.length)).drop i).all fun n => decide (0 ≤ n ∧ n ≤ 562949953421311)) = true then listS ((l.take (min 13 l.length)).map numS) else ⟨#[]⟩) := by
  induction d with
  | zero =>
    intro i hi
    rw [List.drop_of_length_le (by rw [List.length_take]; omega), show i = min 13 l.length by omega]
    simp only [List.all_nil, if_true]
    refine Ev.step (f := fun k => spec_Nums.j1 k l ((l.take (min 13 l.length)).map numS) ((min 13 l.length : Nat) : Int) false) (fun k => ?_) (Ev.step (f := fun k => (spec_List.f k ((l.take (min 13 l.length)).map numS)).bind fun t => some t) (fun k => ?_) (Ev.bind (spec_List_ev _ (fun p hp => ?_)) (Ev.now _)))
    · simp only [spec_Nums.l0]
      by_cases hh : ((min 13 l.length : Nat) : Int) < (l.length : Int)
      · rw [if_pos hh, decide_eq_false (by omega)]
      · rw [if_neg hh]
    · simp only [spec_Nums.j1]; rw [if_neg (by decide)]
    · obtain ⟨n, _, rfl⟩ := List.mem_map.mp hp
      have := numS_size n; omega
  | succ d ih =>
    intro i hi
    have hlt : i < l.length := by omega
    have hlt2 : i < (l.take (min 13 l.length)).length := by rw [List.length_take]; omega
    have hcons : (l.take (min 13 l.length)).drop i = l[i] :: (l.take (min 13 l.length)).drop (i + 1) := by
      rw [List.drop_eq_getElem_cons hlt2, List.getElem_take]
    have hw : Aside0 (wrap64 ((i : Int) + 1) = ((i + 1 : Nat) : Int)) := ⟨by rw [w64 (by omega) (by omega)]; omega⟩
    refine Ev.step (f := fun k => spec_Nums.j1 k l ((l.take i).map numS) (i : Int) true) (fun k => ?_) (Ev.step (f := fun k => (spec_Num.f k l[i]).bind fun t => (if t.toList = ([] : List UInt8) then some (⟨#[]⟩ : ByteArray) else (if ((l.take i).map numS).length < 8796093022208 then spec_Nums.l0 k l ((l.take i).map numS ++ [t]) ((i + 1 : Nat) : Int) else none))) (fun k => ?_) (Ev.bind (spec_Num_ev l[i]) ?_))
    · simp only [spec_Nums.l0]; rw [if_pos (by omega), decide_eq_true (by omega)]
    · simp only [spec_Nums.j1]; rw [if_pos trivial, if_pos (by omega), if_pos (by omega), rd_get l i hlt, hw.out]
    · simp only [toList_nil]
      rw [hcons, List.all_cons]
      by_cases h : 0 ≤ l[i] ∧ l[i] ≤ 562949953421311
      · have hne := (numS_in h).2.2
        have hr := ih (i + 1) (by omega)
        have hlen : ((l.take i).map numS).length < 8796093022208 := by rw [List.length_map, List.length_take]; omega
        simp only [hne, hlen, if_false, if_true]
        rw [decide_eq_true h, Bool.true_and]
        rw [List.take_succ_eq_append_getElem hlt, List.map_append] at hr
        exact hr
      · rw [decide_eq_false h, Bool.false_and, numS_out h]
        simp only [Bool.false_eq_true, if_true, if_false]
        exact Ev.now _
theorem spec_Nums_ev (l : List Int) (hl : l.length ≤ 1073741824) : Ev (fun k => spec_Nums.f k l) (numsS l) := by
  unfold spec_Nums.f
  refine ev_eq (spec_Nums_loop l hl (min 13 l.length) 0 (by omega)) ?_
  unfold numsS
  rw [List.drop_zero]
  by_cases h12 : l.length ≤ 12
  · have e : l.take (min 13 l.length) = l := List.take_of_length_le (by omega)
    rw [e]
    by_cases h : (l.all fun n => decide (0 ≤ n ∧ n ≤ 562949953421311)) = true
    · rw [if_pos h, if_pos ⟨h12, h⟩]
    · rw [if_neg h, if_neg (fun e => h e.2)]
  · have e2 : ¬ (l.length ≤ 12 ∧ (l.all fun n => decide (0 ≤ n ∧ n ≤ 562949953421311)) = true) := fun e => h12 e.1
    rw [if_neg e2]
    split
    · rw [listS_long2]; rw [List.length_map, List.length_take]; omega
    · rfl

theorem spec_KeyTerm_ev (n : Int) : Ev (fun k => spec_KeyTerm.f k n) (keyS n) := by
  unfold spec_KeyTerm.f keyS
  simp only [spec_l1In_eq, Option.bind_some]
  by_cases h : 1 ≤ n ∧ n ≤ 1000000
  · simp only [h, decide_true, if_true, and_self]
    refine Ev.bind (spec_Var_ev n) ?_
    have h7 := @var_size n
    have hle : 1 + (varS n).size ≤ 9223372036854775807 := by omega
    simp only [hle, if_true]
    exact Ev.now _
  · simp only [h, decide_false, if_false]
    exact Ev.now _

theorem spec_ShowRest_ev (s o e : Int) : Ev (fun k => spec_ShowRest.f k s o e) (srS s o e) := by
  unfold spec_ShowRest.f srS
  simp only [spec_RestOk_eq, Option.bind_some]
  by_cases h : restB s o e = true
  · simp only [h, if_true]
    exact Ev.bind (spec_Nums_ev _ (by simp)) (Ev.now _)
  · simp only [h]
    exact Ev.now _

theorem spec_ShowTicket_ev (c f i s o e : Int) (p v : List Int) (key : Int) (hp : p.length ≤ 1048576) (hv : v.length ≤ 1048576) : Ev (fun k => spec_ShowTicket.f k c f i s o e p v key) (stS c f i s o e p v key) := by
  unfold spec_ShowTicket.f stS
  refine Ev.bind (spec_l5TicketOk_ev c f i s o e p v hp hv) ?_
  by_cases h : ticketB c f i s o e p v = true
  · simp only [h, if_true]
    have s1 := numsS_size [c, f]
    have s2 := keyS_size i
    have s3 := srS_size s o e
    have s4 := numsS_size p
    have s5 := numsS_size v
    have s6 := listS_size [numsS [c, f], keyS i, srS s o e, numsS p, numsS v]
    refine Ev.bind (spec_Nums_ev _ (by simp)) (Ev.bind (spec_KeyTerm_ev i) (Ev.bind (spec_ShowRest_ev s o e) (Ev.bind (spec_Nums_ev p (by omega)) (Ev.bind (spec_Nums_ev v (by omega)) (Ev.bind (spec_List_ev _ (fun q hq => ?_)) (Ev.bind (spec_Seal_ev _ _ (by omega)) (Ev.now _)))))))
    simp only [List.mem_cons, List.not_mem_nil, or_false] at hq
    rcases hq with rfl | rfl | rfl | rfl | rfl <;> omega
  · simp only [h, Bool.false_eq_true, if_false]
    exact Ev.now _

theorem laws_toIntS_ev (l : List Int) (hl : l.length ≤ 1073741824) : Ev (fun k => laws_toIntS.f k l) l := by
  have loop : ∀ (d i : Nat) (rest : List Int), i + d = l.length → rest.length = d → Ev (fun k => laws_toIntS.l0 k l (l.take i ++ rest) (i : Int)) l := by
    intro d
    induction d with
    | zero =>
      intro i rest hi hr
      have : rest = [] := List.eq_nil_of_length_eq_zero hr
      subst this
      refine Ev.step (f := fun _ => some l) (fun k => ?_) (Ev.now _)
      simp only [laws_toIntS.l0]
      rw [if_neg (by omega), List.take_of_length_le (by omega), List.append_nil]
    | succ d ih =>
      intro i rest hi hr
      match rest, hr with
      | x :: rest, hr =>
        have hlt : i < l.length := by omega
        have hti : (l.take i).length = i := by rw [List.length_take]; omega
        have hr' := ih (i + 1) rest (by omega) (by simpa using hr)
        rw [List.take_succ_eq_append_getElem hlt, List.append_assoc] at hr'
        refine Ev.step (fun k => ?_) hr'
        simp only [laws_toIntS.l0]
        rw [if_pos (by omega), if_pos (by omega), if_pos (by rw [List.length_append, hti, List.length_cons]; omega), w64 (by omega) (by omega), rd_get l i hlt, Int.toNat_natCast]
        rw [List.set_append_right _ _ (by omega), hti, Nat.sub_self, List.set_cons_zero]
        rfl
  unfold laws_toIntS.f
  have a1 : 0 ≤ (l.length : Int) := by omega
  have a2 : l.length ≤ 35184372088832 := by omega
  simp only [a1, a2, if_true, Int.toNat_natCast]
  exact loop l.length 0 (List.replicate l.length 0) (by omega) (by simp)

theorem laws_toRest_eq (a b c : Int) : laws_toRest.f a b c = some (a, b, c) := rfl

theorem laws_toTicket_ev (c f i s o e : Int) (p v : List Int) (hp : p.length ≤ 1048576) (hv : v.length ≤ 1048576) : Ev (fun k => laws_toTicket.f k c f i s o e p v) (c, f, i, s, o, e, p, v) := by
  unfold laws_toTicket.f
  simp only [laws_toRest_eq, Option.bind_some]
  exact Ev.bind (laws_toIntS_ev p (by omega)) (Ev.bind (laws_toIntS_ev v (by omega)) (Ev.now _))

theorem impl_within_eq (a lo hi : Int) : impl_within.f a lo hi = some (decide (lo ≤ a ∧ a ≤ hi)) := by
  unfold impl_within.f
  by_cases h : a ≥ lo
  · rw [if_pos h]; congr 1; simp [show lo ≤ a from h]
  · rw [if_neg h]; congr 1; simp [show ¬ lo ≤ a from h]

theorem impl_isKey_eq (a : Int) : impl_isKey.f a = some (decide (1 ≤ a ∧ a ≤ 1000000)) := by
  unfold impl_isKey.f; rw [impl_within_eq, Option.bind_some]

theorem impl_Var_loop (j : Nat) : ∀ (n : Nat) (acc : List Int), n < 128 ^ (j + 1) → n ≤ MAXV → acc.length + j < 1000 →
    Ev (fun k => impl_Var.l0 k (n : Int) acc) (strOfNums (acc ++ (var n).map fun (m : Nat) => (m : Int))) := by
  induction j with
  | zero =>
    intro n acc hn hm ha
    have hn' : n < 128 := by simpa using hn
    refine Ev.step (f := fun _ => some (strOfNums (acc ++ (var n).map fun (m : Nat) => (m : Int)))) (fun k => ?_) (Ev.now _)
    simp only [impl_Var.l0]
    rw [if_neg (by omega), if_pos (by omega), var_small hn', show (n : Int) % 256 = (n : Int) by omega]; rfl
  | succ j ih =>
    intro n acc hn hm ha
    by_cases h : n < 128
    · refine Ev.step (f := fun _ => some (strOfNums (acc ++ (var n).map fun (m : Nat) => (m : Int)))) (fun k => ?_) (Ev.now _)
      simp only [impl_Var.l0]
      rw [if_neg (by omega), if_pos (by omega), var_small h, show (n : Int) % 256 = (n : Int) by omega]; rfl
    · have hd : n / 128 < 128 ^ (j + 1) := Nat.div_lt_of_lt_mul (by rw [Nat.pow_succ] at hn; omega)
      have hr := ih (n / 128) (acc ++ [((n % 128 + 128 : Nat) : Int)]) hd (by omega) (by simp; omega)
      refine Ev.step (f := fun k => impl_Var.l0 k ((n / 128 : Nat) : Int) (acc ++ [((n % 128 + 128 : Nat) : Int)])) (fun k => ?_) (ev_eq hr ?_)
      · simp only [impl_Var.l0]
        rw [if_pos (by omega), if_pos (by omega), or_and n (by unfold MAXV at hm; omega)]
        congr 1
      · rw [var_big h, List.map_cons, List.append_assoc]; rfl
theorem impl_Var_ev (n : Int) : Ev (fun k => impl_Var.f k n) (varS n) := by
  unfold impl_Var.f
  simp only [impl_within_eq, Option.bind_some]
  by_cases h : 0 ≤ n ∧ n ≤ 562949953421311
  · simp only [h, decide_true, if_true]
    obtain ⟨m, rfl⟩ := Int.eq_ofNat_of_zero_le h.1
    have hm : m ≤ MAXV := by unfold MAXV; omega
    refine ev_eq (impl_Var_loop 6 m [] (by unfold MAXV at hm; omega) hm (by simp)) ?_
    rw [varS_in hm]; rfl
  · simp only [h, decide_false]
    rw [varS_out h]
    exact Ev.now _

theorem impl_ReadVar_loop (s : ByteArray) (hs : s.size ≤ 140737488355327) (d : Nat) : ∀ (i n : Nat), i + d = 7 → i ≤ (bl s).length → (∀ j, j < i → 128 ≤ (bl s).getD j 0) → n = val ((bl s).take i) →
    Ev (fun k => impl_ReadVar.l0 k s (n : Int) (i : Int)) (rvI (bl s)) := by
  have hl := bl_len s
  induction d with
  | zero =>
    intro i n hi hle hc hn
    have e : rvI (bl s) = (0, 0) := rvI_none (fun n k hR => R_far (bl s) i hc (Or.inr (by omega)) hR)
    rw [e]
    refine Ev.step (f := fun k => impl_ReadVar.j1 k s (n : Int) (i : Int) false) (fun k => ?_) (Ev.step (f := fun _ => some (0, 0)) (fun k => ?_) (Ev.now _))
    · simp only [impl_ReadVar.l0]
      by_cases h : (i : Int) < (s.size : Int)
      · rw [if_pos h, decide_eq_false (by omega)]
      · rw [if_neg h]
    · simp [impl_ReadVar.j1]
  | succ d ih =>
    intro i n hi hle hc hn
    by_cases h : i < (bl s).length
    · have is_ : (i : Int) < (s.size : Int) := by omega
      have i7 : (i : Int) < 7 := by omega
      have i0 : 0 ≤ (i : Int) := by omega
      have i1s : ((i + 1 : Nat) : Int) ≤ (s.size : Int) := by omega
      have i10 : 0 ≤ ((i + 1 : Nat) : Int) := by omega
      have i1S : i + 1 ≤ s.size := by omega
      have hw1 : Aside0 (wrap64 ((i : Int) + 1) = ((i + 1 : Nat) : Int)) := ⟨by rw [w64 (by omega) (by omega)]; omega⟩
      have hw7 : Aside0 (0 ≤ wrap64 (7 * (i : Int))) := ⟨by rw [w64 (by omega) (by omega)]; omega⟩
      have hj : ∀ k, impl_ReadVar.l0 (k + 1) s (n : Int) (i : Int) = impl_ReadVar.j1 k s (n : Int) (i : Int) true := by
        intro k
        simp only [impl_ReadVar.l0]
        rw [if_pos is_, decide_eq_true i7]
      have hb : bt s (i : Int) = (((bl s)[i] : Nat) : Int) := bt_get s i h
      have hb256 : (bl s)[i] < 256 := bl_lt s _ (List.getElem_mem h)
      have hnlt : n < 128 ^ i := by
        have := val_lt ((bl s).take i)
        rw [List.length_take, Nat.min_eq_left hle] at this
        omega
      have ho := or_shl n i (bl s)[i] hnlt (by omega) hb256
      have hv := val_take (bl s) i h
      have hnn : n + 128 ^ i * ((bl s)[i] % 128) = val ((bl s).take (i + 1)) := by rw [hv, hn]
      have hsum := val_lt ((bl s).take (i + 1))
      rw [List.length_take, Nat.min_eq_left (by omega)] at hsum
      have hp : 128 ^ (i + 1) ≤ 128 ^ 7 := Nat.pow_le_pow_right (by decide) (by omega)
      have hmax : n + 128 ^ i * ((bl s)[i] % 128) ≤ MAXV := by
        have h7 : (128 : Nat) ^ 7 = 562949953421312 := by decide
        rw [hnn]; unfold MAXV; omega
      have hg : (bl s).getD i 0 = (bl s)[i] := by rw [List.getD_eq_getElem?_getD, List.getElem?_eq_getElem h]; rfl
      by_cases hlt : (bl s)[i] < 128
      · have hvar := impl_Var_ev ((n + 128 ^ i * ((bl s)[i] % 128) : Nat) : Int)
        refine Ev.step hj (Ev.step (f := fun k => (impl_Var.f k ((n + 128 ^ i * ((bl s)[i] % 128) : Nat) : Int)).bind fun t => (if t.toList = (s.extract 0 (i + 1)).toList then some (((n + 128 ^ i * ((bl s)[i] % 128) : Nat) : Int), ((i + 1 : Nat) : Int)) else some (0, 0))) (fun k => ?_) (Ev.bind hvar ?_))
        · simp only [impl_ReadVar.j1, if_true]
          rw [if_pos i0, if_pos is_, if_pos hw7.out, hb, if_pos (show (((bl s)[i] : Nat) : Int) < 128 from Int.ofNat_lt.mpr hlt), ho, hw1.out]
          congr 1
          funext t
          rw [if_pos i10, if_pos i1s]
          rfl
        · by_cases hR : R (bl s) (n + 128 ^ i * ((bl s)[i] % 128)) (i + 1)
          · rw [rvI_some hR]
            have := (R_iff s _ (i + 1) hmax i1S).2 hR
            simp only [this, if_true]
            exact Ev.now _
          · have hne : ¬ varS ((n + 128 ^ i * ((bl s)[i] % 128) : Nat) : Int) = s.extract 0 (i + 1) := fun e => hR ((R_iff s _ (i + 1) hmax i1S).1 e)
            have hnone : rvI (bl s) = (0, 0) := rvI_none (fun n' k' hR' => by
              have hk := R_upto (bl s) i h (by omega) hc hlt hR'
              subst hk
              have hv' := R_val hR'
              rw [← hnn] at hv'
              rw [← hv'] at hR'
              exact hR hR')
            rw [hnone]
            simp only [toList_iff, hne, if_false]
            exact Ev.now _
      · have hr := ih (i + 1) (n + 128 ^ i * ((bl s)[i] % 128)) (by omega) (by omega) (fun j hj => by
          by_cases he : j < i
          · exact hc j he
          · have : j = i := by omega
            rw [this, hg]; omega) hnn
        refine Ev.step hj (Ev.step (f := fun k => impl_ReadVar.l0 k s ((n + 128 ^ i * ((bl s)[i] % 128) : Nat) : Int) ((i + 1 : Nat) : Int)) (fun k => ?_) hr)
        simp only [impl_ReadVar.j1, if_true]
        rw [if_pos i0, if_pos is_, if_pos hw7.out, hb, if_neg (show ¬ (((bl s)[i] : Nat) : Int) < 128 from fun e => hlt (Int.ofNat_lt.mp e)), ho, hw1.out]
    · have e : rvI (bl s) = (0, 0) := rvI_none (fun n k hR => R_far (bl s) i hc (Or.inl (by omega)) hR)
      rw [e]
      refine Ev.step (f := fun k => impl_ReadVar.j1 k s (n : Int) (i : Int) false) (fun k => ?_) (Ev.step (f := fun _ => some (0, 0)) (fun k => ?_) (Ev.now _))
      · simp only [impl_ReadVar.l0]
        rw [if_neg (by omega)]
      · simp [impl_ReadVar.j1]
theorem impl_ReadVar_ev (s : ByteArray) (hs : s.size ≤ 140737488355327) : Ev (fun k => impl_ReadVar.f k s) (rvI (bl s)) := by
  unfold impl_ReadVar.f
  exact impl_ReadVar_loop s hs 7 0 0 (by omega) (by omega) (by intro j hj; omega) (by simp [val])

theorem impl_varAt_ev (s : ByteArray) (hs : s.size ≤ 140737488355327) (a : Nat) (ha : a ≤ s.size) : Ev (fun k => impl_varAt.f k s (a : Int)) (vA (bl s) a) := by
  unfold impl_varAt.f
  have h1 : 0 ≤ (a : Int) := by omega
  have h2 : (a : Int) ≤ (s.size : Int) := by omega
  simp only [h1, h2, if_true, Int.toNat_natCast]
  have hsz : (s.extract a s.size).size ≤ 140737488355327 := by rw [ByteArray.size_extract]; omega
  refine Ev.bind (impl_ReadVar_ev _ hsz) ?_
  rw [bl_from]
  unfold vA rvI
  cases hr : rv ((bl s).drop a) with
  | none => simp only [if_true]; exact Ev.now _
  | some p =>
    obtain ⟨n, k⟩ := p
    have hp := R_pos (rv_R hr)
    have hl := R_le (rv_R hr)
    simp only at hp hl
    rw [List.length_drop, bl_len] at hl
    have hne : ¬ ((k : Int) = 0) := by omega
    simp only [hne, if_false]
    rw [w64 (by omega) (by omega)]
    exact Ev.now _

theorem impl_termAt_list (s : ByteArray) (hs : s.size ≤ 140737488355327) (d : Nat) (hd : d ≤ 100) (n : Nat) (hn : n ≤ 12)
    (hf : ∀ a, a ≤ s.size → Ev (fun k => impl_termAt.f k s (a : Int) (d : Int)) (tA a (parse d ((bl s).drop a)))) (r : Nat) : ∀ (i a : Nat), i + r = n → a ≤ s.size →
    Ev (fun k => impl_termAt.l0 k s ((d + 1 : Nat) : Int) (n : Int) (a : Int) (i : Int)) (tA a (many (parse d) r ((bl s).drop a))) := by
  have hw : Aside0 (wrap64 (((d + 1 : Nat) : Int) - 1) = (d : Int)) := ⟨by rw [w64 (by omega) (by omega)]; omega⟩
  have bad : ∀ i : Int, Ev (fun k => impl_termAt.l0 k s ((d + 1 : Nat) : Int) (n : Int) (-1) i) (-1) := by
    intro i
    refine Ev.step (f := fun _ => some (-1)) (fun k => ?_) (Ev.now _)
    simp only [impl_termAt.l0]
    by_cases h : i < (n : Int)
    · rw [if_pos h, if_neg (by decide)]
    · rw [if_neg h]
  induction r with
  | zero =>
    intro i a hi ha
    refine Ev.step (f := fun _ => some ((a : Int))) (fun k => ?_) (ev_eq (Ev.now _) ?_)
    · simp only [impl_termAt.l0]; rw [if_neg (by omega)]
    · simp [many, tA]
  | succ r ih =>
    intro i a hi ha
    have hi1 : Aside0 (wrap64 ((i : Int) + 1) = ((i + 1 : Nat) : Int)) := ⟨by rw [w64 (by omega) (by omega)]; omega⟩
    refine Ev.step (f := fun k => (impl_termAt.f k s (a : Int) (d : Int)).bind fun t => impl_termAt.l0 k s ((d + 1 : Nat) : Int) (n : Int) t ((i + 1 : Nat) : Int)) (fun k => ?_) (Ev.bind (hf a ha) ?_)
    · simp only [impl_termAt.l0]; rw [if_pos (by omega), if_pos (by omega), hw.out, hi1.out]
    · rw [many_succ]
      cases hp : parse d ((bl s).drop a) with
      | none => exact bad _
      | some m =>
        have hle := (parse_le d _ _ hp).2
        rw [List.length_drop, bl_len] at hle
        have := ih (i + 1) (a + m) (by omega) (by omega)
        rw [← List.drop_drop, tA_add] at this
        exact this
theorem impl_termAt_ev (s : ByteArray) (hs : s.size ≤ 140737488355327) (d : Nat) : ∀ (a : Nat), d ≤ 100 → a ≤ s.size → Ev (fun k => impl_termAt.f k s (a : Int) (d : Int)) (tA a (parse d ((bl s).drop a))) := by
  have hl := bl_len s
  have dead : ∀ (a d : Int), Ev (fun k => impl_termAt.j0 k s a d true) (-1) := by
    intro a d
    refine Ev.step (f := fun _ => some (-1)) (fun k => ?_) (Ev.now _)
    simp [impl_termAt.j0]
  induction d with
  | zero =>
    intro a hd ha
    by_cases h : (a : Int) ≥ (s.size : Int)
    · refine Ev.step (fun k => ?_) (ev_eq (dead (a : Int) ((0 : Nat) : Int)) (by simp [parse, tA]))
      simp only [impl_termAt.f]; rw [if_pos h]
    · refine Ev.step (fun k => ?_) (ev_eq (dead (a : Int) ((0 : Nat) : Int)) (by simp [parse, tA]))
      simp only [impl_termAt.f]; rw [if_neg h, decide_eq_true (by decide)]
  | succ d ih =>
    intro a hd ha
    by_cases h : (a : Int) ≥ (s.size : Int)
    · refine Ev.step (fun k => ?_) (ev_eq (dead (a : Int) ((d + 1 : Nat) : Int)) ?_)
      · simp only [impl_termAt.f]; rw [if_pos h]
      · rw [List.drop_of_length_le (by omega), parse_nil]; rfl
    · have hlt : a < (bl s).length := by omega
      have hs1 : 0 ≤ (a : Int) := by omega
      have hs2 : (a : Int) < (s.size : Int) := by omega
      have ha1 : Aside0 (wrap64 ((a : Int) + 1) = ((a + 1 : Nat) : Int)) := ⟨by rw [w64 (by omega) (by omega)]; omega⟩
      have hd1 : Aside0 (wrap64 (((d + 1 : Nat) : Int) - 1) = (d : Int)) := ⟨by rw [w64 (by omega) (by omega)]; omega⟩
      have hv := impl_varAt_ev s hs (a + 1) (by omega)
      have hcons : (bl s).drop a = (bl s)[a] :: (bl s).drop (a + 1) := List.drop_eq_getElem_cons hlt
      have hstep : ∀ k, impl_termAt.f (k + 1) s (a : Int) ((d + 1 : Nat) : Int) = impl_termAt.j0 k s (a : Int) ((d + 1 : Nat) : Int) false := by
        intro k; simp only [impl_termAt.f]; rw [if_neg h, decide_eq_false (by omega)]
      refine Ev.step hstep ?_
      refine Ev.step (fun k => by simp only [impl_termAt.j0]; rw [if_neg (by decide), ha1.out]) (Ev.bind hv ?_)
      simp only [hs1, hs2, if_true, bt_get s a hlt, impl_within_eq, impl_isKey_eq, Option.bind_some]
      rw [hcons]
      generalize (bl s)[a] = c
      rw [parse]
      unfold vA
      cases hr : rv ((bl s).drop (a + 1)) with
      | none =>
        refine ev_of (fun k => ?_)
        simp [tA]
      | some p =>
        obtain ⟨n, k'⟩ := p
        have hR := rv_R hr
        have hk := R_le hR
        have hn9 := hR.1
        unfold MAXV at hn9
        simp only at hk hn9
        rw [List.length_drop, hl] at hk
        simp only []
        by_cases c1 : c = 97
        · subst c1
          simp only [if_true, List.length_drop, hl]
          by_cases c2 : n ≤ 40
          · have c2' : 0 ≤ (n : Int) ∧ (n : Int) ≤ 40 := by omega
            simp only [c2', decide_true, if_true, c2, true_and]
            rw [w64 (by omega) (by omega)]
            by_cases c3 : n ≤ s.size - (a + 1) - k'
            · rw [if_pos c3]
              have c3' : ¬ ((n : Int) > (s.size : Int) - ((a + 1 + k' : Nat) : Int)) := by omega
              simp only [c3', if_false]
              rw [w64 (by omega) (by omega)]
              refine ev_eq (Ev.now _) ?_
              simp [tA]; omega
            · rw [if_neg c3]
              have c3' : ((n : Int) > (s.size : Int) - ((a + 1 + k' : Nat) : Int)) := by omega
              simp only [c3', if_true]
              exact Ev.now _
          · have c2' : ¬ (0 ≤ (n : Int) ∧ (n : Int) ≤ 40) := by omega
            simp only [c2', decide_false, c2, false_and, if_false]
            exact Ev.now _
        · have c1' : ¬ ((c : Int) = 97) := by omega
          simp only [c1', c1, if_false]
          by_cases c4 : c = 107
          · subst c4
            simp only [if_true]
            by_cases c5 : 1 ≤ n ∧ n ≤ 1000000
            · have c5' : 1 ≤ (n : Int) ∧ (n : Int) ≤ 1000000 := by omega
              simp only [c5', c5, decide_true, if_true, and_self]
              refine ev_eq (Ev.now _) ?_
              simp [tA]; omega
            · have c5' : ¬ (1 ≤ (n : Int) ∧ (n : Int) ≤ 1000000) := by omega
              simp only [c5', c5, decide_false, if_false]
              exact Ev.now _
          · have c4' : ¬ ((c : Int) = 107) := by omega
            simp only [c4', c4, if_false]
            by_cases c6 : c = 108
            · subst c6
              simp only [if_true]
              by_cases c7 : n ≤ 12
              · have c7' : 0 ≤ (n : Int) ∧ (n : Int) ≤ 12 := by omega
                simp only [c7', decide_true, if_true, c7]
                have hL := impl_termAt_list s hs d (by omega) n c7 (fun a ha => ih a (by omega) ha) n 0 (a + 1 + k') (by omega) (by omega)
                rw [← List.drop_drop] at hL
                refine ev_eq hL ?_
                cases hq : many (parse d) n (((bl s).drop (a + 1)).drop k') with
                | none => rfl
                | some q => simp [tA]; omega
              · have c7' : ¬ (0 ≤ (n : Int) ∧ (n : Int) ≤ 12) := by omega
                simp only [c7', c7, decide_false, if_false]
                exact Ev.now _
            · have c6' : ¬ ((c : Int) = 108) := by omega
              simp only [c6', c6, if_false]
              by_cases c8 : c = 115
              · subst c8
                simp only [if_true]
                by_cases c5 : 1 ≤ n ∧ n ≤ 1000000
                · have c5' : 1 ≤ (n : Int) ∧ (n : Int) ≤ 1000000 := by omega
                  simp only [c5', c5, decide_true, if_true, and_self, hd1.out]
                  refine Ev.bind (ih (a + 1 + k') (by omega) (by omega)) ?_
                  rw [← List.drop_drop]
                  refine ev_eq (Ev.now _) ?_
                  cases hq : parse d (((bl s).drop (a + 1)).drop k') with
                  | none => rfl
                  | some q => simp [tA]; omega
                · have c5' : ¬ (1 ≤ (n : Int) ∧ (n : Int) ≤ 1000000) := by omega
                  simp only [c5', c5, decide_false, if_false]
                  exact Ev.now _
              · have c8' : ¬ ((c : Int) = 115) := by omega
                simp only [c8', c8, if_false]
                exact Ev.now _

theorem impl_TermOk_ev (s : ByteArray) (hs : s.size ≤ 140737488355327) : Ev (fun k => impl_TermOk.f k s) (termB (bl s)) := by
  have hl := bl_len s
  unfold impl_TermOk.f
  simp only [impl_within_eq, Option.bind_some]
  unfold termB
  by_cases h : 1 ≤ (s.size : Int) ∧ (s.size : Int) ≤ 900
  · simp only [h, decide_true, if_true, and_self]
    have ht := impl_termAt_ev s hs 8 0 (by decide) (by omega)
    refine Ev.bind ht (ev_eq (Ev.now _) ?_)
    rw [List.drop_zero, hl]
    have h1 : 1 ≤ s.size := by omega
    have h2 : s.size ≤ 900 := by omega
    cases hp : parse 8 (bl s) with
    | none => simp [tA]
    | some m => simp [tA, h1, h2]; rw [Bool.eq_iff_iff]; simp; omega
  · simp only [h, decide_false]
    refine ev_eq (Ev.now _) ?_
    rw [decide_eq_false]; rw [hl]; omega

theorem impl_term_ev (s : ByteArray) (hs : s.size ≤ 140737488355327) : Ev (fun k => impl_term.f k s) (termS s) := by
  unfold impl_term.f
  refine Ev.bind (impl_TermOk_ev s hs) ?_
  unfold termS okS
  by_cases h : termB (bl s) = true
  · simp only [h, if_true]; exact Ev.now _
  · simp only [h]; exact Ev.now _

theorem impl_List_loop (ps : List ByteArray) (hl : ps.length ≤ 1073741824) (d : Nat) : ∀ (i : Nat) (acc : ByteArray), i + d = ps.length → acc.size ≤ 1000 + 900 * i → (∀ p ∈ ps, p.size ≤ 1099511627776) →
    Ev (fun k => impl_List.l0 k acc ps (ps.length : Int) (i : Int)) (if (ps.drop i).all okS = true then termS (acc ++ cat (ps.drop i)) else ⟨#[]⟩) := by
  induction d with
  | zero =>
    intro i acc hi ha hp
    rw [List.drop_of_length_le (by omega)]
    have e : acc ++ cat [] = acc := ByteArray.append_empty
    simp only [List.all_nil, if_true, e]
    refine Ev.step (f := fun k => (impl_term.f k acc).bind fun t => some t) (fun k => ?_) (Ev.bind (impl_term_ev acc (by omega)) (Ev.now _))
    simp only [impl_List.l0]; rw [if_neg (by omega)]
  | succ d ih =>
    intro i acc hi ha hp
    have hlt : i < ps.length := by omega
    have hcons : ps.drop i = ps[i] :: ps.drop (i + 1) := List.drop_eq_getElem_cons hlt
    have hsz := hp _ (List.getElem_mem hlt)
    have hw : Aside0 (wrap64 ((i : Int) + 1) = ((i + 1 : Nat) : Int)) := ⟨by rw [w64 (by omega) (by omega)]; omega⟩
    refine Ev.step (f := fun k => (impl_TermOk.f k ps[i]).bind fun t => (if t = true then (if acc.size + ps[i].size ≤ 9223372036854775807 then impl_List.l0 k (acc ++ ps[i]) ps (ps.length : Int) ((i + 1 : Nat) : Int) else none) else some (⟨#[]⟩ : ByteArray))) (fun k => ?_) (Ev.bind (impl_TermOk_ev ps[i] (by omega)) ?_)
    · simp only [impl_List.l0]; rw [if_pos (by omega), if_pos (by omega), if_pos (by omega), rdOf_get ps i hlt, hw.out]
    · have ho : termB (bl ps[i]) = okS ps[i] := rfl
      rw [ho, hcons, List.all_cons, cat_cons]
      by_cases h : okS ps[i] = true
      · have h9 := (okS_size h).2
        have hr := ih (i + 1) (acc ++ ps[i]) (by omega) (by rw [ByteArray.size_append]; omega) hp
        have hle : acc.size + ps[i].size ≤ 9223372036854775807 := by omega
        rw [ByteArray.append_assoc] at hr
        simp only [h, hle, if_true, Bool.true_and]
        exact hr
      · have h' := Bool.eq_false_iff.mpr h
        rw [h', Bool.false_and]
        simp only [Bool.false_eq_true, if_false]
        exact Ev.now _
theorem impl_List_ev (ps : List ByteArray) (hl : ps.length ≤ 1073741824) (hp : ∀ p ∈ ps, p.size ≤ 1099511627776) : Ev (fun k => impl_List.f k ps) (listS ps) := by
  unfold impl_List.f
  refine Ev.bind (impl_Var_ev _) ?_
  have h7 := @var_size (ps.length : Int)
  have h1 : (⟨#[108]⟩ : ByteArray).size = 1 := rfl
  have a1 : 1 + (varS (ps.length : Int)).size ≤ 9223372036854775807 := by omega
  simp only [a1, if_true]
  refine ev_eq (impl_List_loop ps hl ps.length 0 ((⟨#[108]⟩ : ByteArray) ++ varS (ps.length : Int)) (by omega) (by rw [ByteArray.size_append]; omega) hp) ?_
  unfold listS rawL
  rw [List.drop_zero]
  by_cases h : ps.all okS = true
  · rw [if_pos h]
    by_cases h12 : ps.length ≤ 12
    · rw [if_pos ⟨h12, h⟩]
    · rw [if_neg (fun e => h12 e.1)]
      unfold termS
      rw [list_long (by omega) (by unfold MAXV; omega), if_neg (by decide)]
  · rw [if_neg h, if_neg (fun e => h e.2)]

theorem impl_Atom_ev (d : ByteArray) (hd : d.size ≤ 1000000000) : Ev (fun k => impl_Atom.f k d) (atomS d) := by
  unfold impl_Atom.f
  refine Ev.bind (impl_Var_ev _) ?_
  have h7 := @var_size (d.size : Int)
  have h1 : (⟨#[97]⟩ : ByteArray).size = 1 := rfl
  have a1 : 1 + (varS (d.size : Int)).size ≤ 9223372036854775807 := by omega
  have a2 : ((⟨#[97]⟩ : ByteArray) ++ varS (d.size : Int)).size + d.size ≤ 9223372036854775807 := by rw [ByteArray.size_append]; omega
  simp only [a1, a2, if_true]
  refine Ev.bind (impl_term_ev _ (by rw [ByteArray.size_append, ByteArray.size_append]; omega)) (ev_eq (Ev.now _) rfl)

theorem impl_Num_ev (n : Int) : Ev (fun k => impl_Num.f k n) (numS n) := by
  unfold impl_Num.f
  refine Ev.bind (impl_Var_ev n) ?_
  unfold numS
  simp only [toList_nil]
  by_cases h : varS n = (⟨#[]⟩ : ByteArray)
  · simp only [h, if_true]; exact Ev.now _
  · simp only [h, if_false]
    have := @var_size n
    exact Ev.bind (impl_Atom_ev _ (by omega)) (ev_eq (Ev.now _) rfl)

theorem listS_long {ps : List ByteArray} (h : 12 < ps.length) : listS ps = (⟨#[]⟩ : ByteArray) := by unfold listS; rw [if_neg (fun e => by omega)]
theorem impl_Nums_loop (l : List Int) (hl : l.length ≤ 1073741824) (d : Nat) : ∀ (i : Nat), i + d = l.length →
    Ev (fun k => impl_Nums.l0 k ((l.take i).map numS) l (l.length : Int) (i : Int)) (if ((l.drop i).all fun n => decide (0 ≤ n ∧ n ≤ 562949953421311)) = true then listS (l.map numS) else ⟨#[]⟩) := by
  induction d with
  | zero =>
    intro i hi
    rw [List.drop_of_length_le (by omega), List.take_of_length_le (by omega)]
    simp only [List.all_nil, if_true]
    refine Ev.step (f := fun k => (impl_List.f k (l.map numS)).bind fun t => some t) (fun k => ?_) (Ev.bind (impl_List_ev _ (by rw [List.length_map]; omega) (fun p hp => ?_)) (Ev.now _))
    · simp only [impl_Nums.l0]; rw [if_neg (by omega)]
    · obtain ⟨n, _, rfl⟩ := List.mem_map.mp hp
      have := numS_size n; omega
  | succ d ih =>
    intro i hi
    have hlt : i < l.length := by omega
    have hcons : l.drop i = l[i] :: l.drop (i + 1) := List.drop_eq_getElem_cons hlt
    have hw : Aside0 (wrap64 ((i : Int) + 1) = ((i + 1 : Nat) : Int)) := ⟨by rw [w64 (by omega) (by omega)]; omega⟩
    refine Ev.step (f := fun k => (impl_Num.f k l[i]).bind fun t => (if t.toList = ([] : List UInt8) then some (⟨#[]⟩ : ByteArray) else (if ((l.take i).map numS).length < 8796093022208 then impl_Nums.l0 k ((l.take i).map numS ++ [t]) l (l.length : Int) ((i + 1 : Nat) : Int) else none))) (fun k => ?_) (Ev.bind (impl_Num_ev l[i]) ?_)
    · simp only [impl_Nums.l0]; rw [if_pos (by omega), if_pos (by omega), if_pos (by omega), rd_get l i hlt, hw.out]
    · simp only [toList_nil]
      rw [hcons, List.all_cons]
      by_cases h : 0 ≤ l[i] ∧ l[i] ≤ 562949953421311
      · have hne := (numS_in h).2.2
        have hr := ih (i + 1) (by omega)
        have hlen : ((l.take i).map numS).length < 8796093022208 := by rw [List.length_map, List.length_take]; omega
        simp only [hne, hlen, if_false, if_true]
        rw [decide_eq_true h, Bool.true_and]
        rw [List.take_succ_eq_append_getElem hlt, List.map_append] at hr
        exact hr
      · rw [decide_eq_false h, Bool.false_and, numS_out h]
        simp only [Bool.false_eq_true, if_true, if_false]
        exact Ev.now _
theorem impl_Nums_ev (l : List Int) (hl : l.length ≤ 1073741824) : Ev (fun k => impl_Nums.f k l) (numsS l) := by
  unfold impl_Nums.f
  refine ev_eq (impl_Nums_loop l hl l.length 0 (by omega)) ?_
  unfold numsS
  rw [List.drop_zero]
  by_cases h : (l.all fun n => decide (0 ≤ n ∧ n ≤ 562949953421311)) = true
  · rw [if_pos h]
    by_cases h12 : l.length ≤ 12
    · rw [if_pos ⟨h12, h⟩]
    · rw [if_neg (fun e => h12 e.1), listS_long (by rw [List.length_map]; omega)]
  · rw [if_neg h, if_neg (fun e => h e.2)]

theorem impl_isTime_eq (a : Int) : impl_isTime.f a = some (decide (0 ≤ a ∧ a ≤ 100000)) := by
  unfold impl_isTime.f; rw [impl_within_eq, Option.bind_some]

theorem impl_RestOk_eq (s o e : Int) : impl_RestOk.f s o e = some (restB s o e) := by
  unfold impl_RestOk.f restB
  simp only [impl_within_eq, impl_isTime_eq, Option.bind_some]
  by_cases h1 : 0 ≤ s ∧ s ≤ 7 <;> by_cases h2 : 0 ≤ o ∧ o ≤ 255 <;> simp [h1, h2]

theorem impl_ShowRest_ev (s o e : Int) : Ev (fun k => impl_ShowRest.f k s o e) (srS s o e) := by
  unfold impl_ShowRest.f srS
  simp only [impl_RestOk_eq, Option.bind_some]
  by_cases h : restB s o e = true
  · simp only [h, if_true]
    exact Ev.bind (impl_Nums_ev _ (by simp)) (Ev.now _)
  · simp only [h]
    exact Ev.now _

theorem impl_isRealm_eq (a : Int) : impl_isRealm.f a = some (decide (0 ≤ a ∧ a < 3)) := by
  unfold impl_isRealm.f
  rw [impl_within_eq, Option.bind_some]
  congr 1
  exact decide_eq_decide.mpr (by omega)

theorem impl_isService_eq (a : Int) : impl_isService.f a = some (decide (0 ≤ a ∧ a ≤ 2)) := by
  unfold impl_isService.f; rw [impl_within_eq, Option.bind_some]

theorem impl_isPrincipal_eq (a : Int) : impl_isPrincipal.f a = some (decide (0 ≤ a ∧ a < 6)) := by
  unfold impl_isPrincipal.f
  rw [impl_within_eq, Option.bind_some]
  congr 1
  exact decide_eq_decide.mpr (by omega)

theorem impl_isFor_eq (a : Int) (h0 : -9223372036854775808 ≤ a) (h1 : a ≤ 9223372036854775807) : impl_isFor.f a = some (forB a) := by
  unfold impl_isFor.f forB
  simp only [impl_isService_eq, impl_isRealm_eq, Option.bind_some, wrap_for h0 h1]
  by_cases h1 : 0 ≤ a ∧ a ≤ 2 <;> simp [h1]

theorem impl_areAll_of_isRealm_ev (l : List Int) (most : Int) (hl : l.length ≤ 1048576) : Ev (fun k => impl_areAll_of_isRealm.f k l most) (allB ok3 l most) := by
  have loop : ∀ d i : Nat, i + d = l.length → (∀ j, j < i → ok3 (rd l (j : Int))) → Ev (fun k => impl_areAll_of_isRealm.l0 k l most l (l.length : Int) (i : Int)) (allB ok3 l most) := by
    intro d
    induction d with
    | zero =>
      intro i hi hj
      refine Ev.step (f := fun _ => some (decide ((l.length : Int) ≤ most))) (fun k => ?_) (ev_eq (Ev.now _) ?_)
      · simp only [impl_areAll_of_isRealm.l0]
        rw [if_neg (by omega)]
      · by_cases h : (l.length : Int) ≤ most
        · rw [decide_eq_true h, allB_t ⟨h, fun j h => hj j (by omega)⟩]
        · rw [decide_eq_false h, allB_f (fun hp => h hp.1)]
    | succ d ih =>
      intro i hi hj
      have hlt : i < l.length := by omega
      have e2 : wrap64 ((i : Int) + 1) = ((i + 1 : Nat) : Int) := by rw [w64 (x := (i : Int) + 1) (by omega) (by omega)]; omega
      have c1 : (i : Int) < (l.length : Int) := by omega
      have c2 : 0 ≤ (i : Int) := by omega
      by_cases a1 : ok3 (rd l (i : Int))
      · refine Ev.step (fun k => ?_) (ih (i + 1) (by omega) (fun j h => ?_))
        · simp only [impl_areAll_of_isRealm.l0, c1, c2, if_true, impl_isRealm_eq, Option.bind_some, e2]
          rw [decide_eq_true (by unfold ok3 at a1; omega), if_pos rfl]
        · by_cases hji : j = i
          · subst hji; exact a1
          · exact hj j (by omega)
      · refine Ev.step (f := fun _ => some false) (fun k => ?_) (ev_eq (Ev.now _) (allB_f (fun hp => a1 (hp.2 i hlt))).symm)
        simp only [impl_areAll_of_isRealm.l0, c1, c2, if_true, impl_isRealm_eq, Option.bind_some]
        rw [decide_eq_false (by unfold ok3 at a1; omega), if_neg (by decide)]
  unfold impl_areAll_of_isRealm.f
  exact loop l.length 0 (by omega) (fun j h => by omega)

theorem impl_areAll_of_isService_ev (l : List Int) (most : Int) (hl : l.length ≤ 1048576) : Ev (fun k => impl_areAll_of_isService.f k l most) (allB ok3 l most) := by
  have loop : ∀ d i : Nat, i + d = l.length → (∀ j, j < i → ok3 (rd l (j : Int))) → Ev (fun k => impl_areAll_of_isService.l0 k l most l (l.length : Int) (i : Int)) (allB ok3 l most) := by
    intro d
    induction d with
    | zero =>
      intro i hi hj
      refine Ev.step (f := fun _ => some (decide ((l.length : Int) ≤ most))) (fun k => ?_) (ev_eq (Ev.now _) ?_)
      · simp only [impl_areAll_of_isService.l0]
        rw [if_neg (by omega)]
      · by_cases h : (l.length : Int) ≤ most
        · rw [decide_eq_true h, allB_t ⟨h, fun j h => hj j (by omega)⟩]
        · rw [decide_eq_false h, allB_f (fun hp => h hp.1)]
    | succ d ih =>
      intro i hi hj
      have hlt : i < l.length := by omega
      have e2 : wrap64 ((i : Int) + 1) = ((i + 1 : Nat) : Int) := by rw [w64 (x := (i : Int) + 1) (by omega) (by omega)]; omega
      have c1 : (i : Int) < (l.length : Int) := by omega
      have c2 : 0 ≤ (i : Int) := by omega
      by_cases a1 : ok3 (rd l (i : Int))
      · refine Ev.step (fun k => ?_) (ih (i + 1) (by omega) (fun j h => ?_))
        · simp only [impl_areAll_of_isService.l0, c1, c2, if_true, impl_isService_eq, Option.bind_some, e2]
          rw [decide_eq_true (by unfold ok3 at a1; omega), if_pos rfl]
        · by_cases hji : j = i
          · subst hji; exact a1
          · exact hj j (by omega)
      · refine Ev.step (f := fun _ => some false) (fun k => ?_) (ev_eq (Ev.now _) (allB_f (fun hp => a1 (hp.2 i hlt))).symm)
        simp only [impl_areAll_of_isService.l0, c1, c2, if_true, impl_isService_eq, Option.bind_some]
        rw [decide_eq_false (by unfold ok3 at a1; omega), if_neg (by decide)]
  unfold impl_areAll_of_isService.f
  exact loop l.length 0 (by omega) (fun j h => by omega)

theorem impl_ticketOk_ev (c f i s o e : Int) (p v : List Int) (h0 : -9223372036854775808 ≤ f) (h1 : f ≤ 9223372036854775807) (hp : p.length ≤ 1048576) (hv : v.length ≤ 1048576) : Ev (fun k => impl_ticketOk.f k c f i s o e p v) (ticketB c f i s o e p v) := by
  unfold impl_ticketOk.f ticketB
  simp only [impl_isPrincipal_eq, impl_isFor_eq f h0 h1, impl_isKey_eq, impl_RestOk_eq, Option.bind_some]
  by_cases g1 : 0 ≤ c ∧ c < 6
  · rw [decide_eq_true g1]
    simp only [if_true, Bool.true_and]
    cases forB f with
    | false => simp only [Bool.false_and, Bool.false_eq_true, if_false]; exact Ev.now _
    | true =>
      simp only [if_true, Bool.true_and]
      by_cases g2 : 1 ≤ i ∧ i ≤ 1000000
      · rw [decide_eq_true g2]
        simp only [if_true, Bool.true_and]
        cases restB s o e with
        | false => simp only [Bool.false_and, Bool.false_eq_true, if_false]; exact Ev.now _
        | true =>
          simp only [if_true, Bool.true_and]
          refine Ev.bind (impl_areAll_of_isRealm_ev p 6 hp) ?_
          cases allB ok3 p 6 with
          | false => simp only [Bool.false_and, Bool.false_eq_true, if_false]; exact Ev.now _
          | true =>
            simp only [if_true, Bool.true_and]
            exact Ev.bind (impl_areAll_of_isService_ev v 4 hv) (Ev.now _)
      · rw [decide_eq_false g2]
        simp only [Bool.false_and, Bool.false_eq_true, if_false]; exact Ev.now _
  · rw [decide_eq_false g1]
    simp only [Bool.false_and, Bool.false_eq_true, if_false]; exact Ev.now _

theorem impl_Seal_ev (n : Int) (t : ByteArray) (ht : t.size ≤ 1000000000) : Ev (fun k => impl_Seal.f k n t) (sealS n t) := by
  have dead : Ev (fun k => impl_Seal.j0 k n t true) (⟨#[]⟩ : ByteArray) := by
    refine Ev.step (f := fun _ => some (⟨#[]⟩ : ByteArray)) (fun k => ?_) (Ev.now _)
    simp [impl_Seal.j0]
  unfold impl_Seal.f
  refine Ev.bind (impl_TermOk_ev t (by omega)) ?_
  have ho : termB (bl t) = okS t := rfl
  rw [ho]
  unfold sealS
  by_cases h1 : okS t = true
  · simp only [h1, if_true, impl_isKey_eq, Option.bind_some, true_and]
    by_cases h2 : 1 ≤ n ∧ n ≤ 1000000
    · rw [if_pos h2, decide_eq_true h2]
      have h7 := @var_size n
      have h1 : (⟨#[115]⟩ : ByteArray).size = 1 := rfl
      have a1 : 1 + (varS n).size ≤ 9223372036854775807 := by omega
      have a2 : ((⟨#[115]⟩ : ByteArray) ++ varS n).size + t.size ≤ 9223372036854775807 := by rw [ByteArray.size_append]; omega
      refine Ev.step (fun k => by simp only [impl_Seal.j0]; rw [if_neg (by decide)]) (Ev.bind (impl_Var_ev n) ?_)
      simp only [a1, a2, if_true]
      exact Ev.bind (impl_term_ev _ (by rw [ByteArray.size_append, ByteArray.size_append]; omega)) (ev_eq (Ev.now _) rfl)
    · rw [if_neg h2, decide_eq_false h2]
      exact dead
  · simp only [h1, false_and, if_false]
    exact dead

theorem impl_KeyTerm_ev (n : Int) : Ev (fun k => impl_KeyTerm.f k n) (keyS n) := by
  unfold impl_KeyTerm.f
  refine Ev.bind (impl_Var_ev n) ?_
  have h7 := @var_size n
  have hle : 1 + (varS n).size ≤ 9223372036854775807 := by omega
  simp only [hle, if_true]
  refine Ev.bind (impl_term_ev _ (by rw [ByteArray.size_append]; have : (⟨#[107]⟩ : ByteArray).size = 1 := rfl; omega)) (ev_eq (Ev.now _) ?_)
  unfold termS keyS
  rw [key_ok]
  by_cases h : 1 ≤ n ∧ n ≤ 1000000
  · rw [decide_eq_true h, if_pos rfl, if_pos h]
  · rw [decide_eq_false h, if_neg (by decide), if_neg h]

theorem impl_ShowTicket_ev (c f i s o e : Int) (p v : List Int) (key : Int) (h0 : -9223372036854775808 ≤ f) (h1 : f ≤ 9223372036854775807) (hp : p.length ≤ 1048576) (hv : v.length ≤ 1048576) : Ev (fun k => impl_ShowTicket.f k c f i s o e p v key) (stS c f i s o e p v key) := by
  unfold impl_ShowTicket.f stS
  refine Ev.bind (impl_ticketOk_ev c f i s o e p v h0 h1 hp hv) ?_
  by_cases h : ticketB c f i s o e p v = true
  · simp only [h, if_true]
    have s1 := numsS_size [c, f]
    have s2 := keyS_size i
    have s3 := srS_size s o e
    have s4 := numsS_size p
    have s5 := numsS_size v
    have s6 := listS_size [numsS [c, f], keyS i, srS s o e, numsS p, numsS v]
    refine Ev.bind (impl_Nums_ev _ (by simp)) (Ev.bind (impl_KeyTerm_ev i) (Ev.bind (impl_ShowRest_ev s o e) (Ev.bind (impl_Nums_ev p (by omega)) (Ev.bind (impl_Nums_ev v (by omega)) (Ev.bind (impl_List_ev _ (by simp) (fun q hq => ?_)) (Ev.bind (impl_Seal_ev _ _ (by omega)) (Ev.now _)))))))
    simp only [List.mem_cons, List.not_mem_nil, or_false] at hq
    rcases hq with rfl | rfl | rfl | rfl | rfl <;> omega
  · simp only [h, Bool.false_eq_true, if_false]
    exact Ev.now _

theorem laws_eqIntS_self (l : List Int) (hl : l.length ≤ 1073741824) : Ev (fun k => laws_eqIntS.f k l l) true := by
  have loop : ∀ d i : Nat, i + d = l.length → Ev (fun k => laws_eqIntS.l0 k l l (i : Int)) true := by
    intro d
    induction d with
    | zero =>
      intro i hi
      refine Ev.step (f := fun _ => some true) (fun k => ?_) (Ev.now _)
      simp only [laws_eqIntS.l0]
      rw [if_neg (by omega)]
    | succ d ih =>
      intro i hi
      refine Ev.step (fun k => ?_) (ih (i + 1) (by omega))
      simp only [laws_eqIntS.l0]
      rw [if_pos (by omega), if_pos (by omega), if_pos (by omega), if_pos trivial, w64 (by omega) (by omega)]
      rfl
  unfold laws_eqIntS.f
  simp only [if_true]
  exact loop l.length 0 (by omega)

theorem laws_eqRest_self (a b c : Int) : laws_eqRest.f a b c a b c = some true := by simp [laws_eqRest.f]

theorem laws_eqTicket_self (c f i s o e : Int) (p v : List Int) (hp : p.length ≤ 1048576) (hv : v.length ≤ 1048576) : Ev (fun k => laws_eqTicket.f k c f i s o e p v c f i s o e p v) true := by
  unfold laws_eqTicket.f
  simp only [if_true, laws_eqRest_self, Option.bind_some]
  refine Ev.bind (laws_eqIntS_self p (by omega)) ?_
  simp only [if_true]
  refine Ev.bind (laws_eqIntS_self v (by omega)) ?_
  simp only [if_true]
  exact Ev.now _

theorem FnExactShowTicket : ∀ (a0_0 : Int) (a0_1 : Int) (a0_2 : Int) (a0_3_0 : Int) (a0_3_1 : Int) (a0_3_2 : Int) (l0_4 : List Int) (l0_5 : List Int) (a1 : Int), (Lit.int .i64 a0_0).wf = true → (Lit.int .i64 a0_1).wf = true → (Lit.int .i64 a0_2).wf = true → (Lit.int .i64 a0_3_0).wf = true → (Lit.int .i64 a0_3_1).wf = true → (Lit.int .i64 a0_3_2).wf = true → (∀ a ∈ l0_4, (Lit.int .i64 a).wf = true) → l0_4.length ≤ maxLen → (∀ a ∈ l0_5, (Lit.int .i64 a).wf = true) → l0_5.length ≤ maxLen → (Lit.int .i64 a1).wf = true → ∃ k, laws_FnExactShowTicket.f k a0_0 a0_1 a0_2 a0_3_0 a0_3_1 a0_3_2 l0_4 l0_5 a1 = some true := by
  intro c f i s o e p v key _ hf _ _ _ _ _ hp _ hv _
  obtain ⟨f0, f1⟩ := lit_wf hf
  apply Ev.rounds
  obtain ⟨r, er, hr⟩ := laws_szTicket_eq c f i s o e p v hp hv
  unfold laws_FnExactShowTicket.f
  simp only [er, Option.bind_some]
  by_cases h : r < 0
  · simp only [h, if_true]
    exact Ev.now _
  · obtain ⟨g1, g2⟩ := hr h
    simp only [h, if_false]
    have hto := laws_toTicket_ev c f i s o e p v g1 g2
    refine Ev.bind hto (Ev.bind (spec_ShowTicket_ev c f i s o e p v key g1 g2) (Ev.bind hto (Ev.bind (impl_ShowTicket_ev c f i s o e p v key f0 f1 g1 g2) ?_)))
    simp only [if_true]
    refine Ev.bind hto (Ev.bind (laws_eqTicket_self c f i s o e p v g1 g2) ?_)
    simp only [if_true]
    exact Ev.now _

end Go.Proofs.Ytmhjpnjolgigmaa.Pure
