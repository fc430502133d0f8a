/- What was taken is not taken again, now or later, and whether or not the cache was begun anew; what is refused changes nothing: for all codes. -/
import Derived.Test.YtnpbafgnfdadhaaOFnCachex10
import Derived.Test.YtnpbafgnfdadhaaBase
import Derived.Test.YtnpbafgnfdadhaaDraws
import Derived.Test.YtnpbafgnfdadhaaTerms
import Derived.Test.YtnpbafgnfdadhaaRounds
import Derived.Test.YtnpbafgnfdadhaaRests
import Derived.Test.YtnpbafgnfdadhaaBaseTick
namespace Go.Proofs.Ytnpbafgnfdadhaa.Pure
open Go.RowKit Go.Proofs.Ytnpbafgnfdadhaa.OFnCache Go.Proofs.YtnpbafgnfdadhaaW.PrintWords Go.Proofs.YtnpbafgnfdadhaaW.PrintLast Go.Proofs.YtnpbafgnfdadhaaW.PrintMore Go.Proofs.Ytnpbafgnfdadhaa.Base
set_option linter.unusedVariables false
set_option linter.unusedSimpArgs false
theorem laws_big_eq (l : List Int) : laws_big.f l = some (decide ((l.length : Int) > 1048576)) := rfl

theorem spec_l1New_ok (l : List Int) (hl : l.length ≤ 140737488351232) : ∃ h : Int, Ev (fun k => spec_l1New.f k l) (l, 0, h) := by
  have loop : ∀ (d i : Nat) (h : Int), i + d = l.length → ∃ h' : Int, Ev (fun k => spec_l1New.l0 k l h (i : Int)) (l, 0, h') := by
    intro d
    induction d with
    | zero =>
      intro i h hi
      refine ⟨h, Ev.step (f := fun _ => some (l, 0, h)) (fun k => ?_) (Ev.now _)⟩
      simp only [spec_l1New.l0]
      rw [if_neg (by omega)]
    | succ d ih =>
      intro i h hi
      by_cases h4 : (i : Int) < 4000
      · obtain ⟨h', hh⟩ := ih (i + 1) (Go.bits .and .i64 (wrap64 ((wrap64 ((wrap64 (h * 131)) + (wrap64 (rd l (i : Int))))) + 7)) 1073741823) (by omega)
        refine ⟨h', Ev.step (fun k => ?_) hh⟩
        simp only [spec_l1New.l0]
        rw [if_pos (by omega), if_pos h4, if_pos (by omega), w64 (x := (i : Int) + 1) (by omega) (by omega)]
        rfl
      · refine ⟨h, Ev.step (f := fun _ => some (l, 0, h)) (fun k => ?_) (Ev.now _)⟩
        simp only [spec_l1New.l0]
        rw [if_pos (by omega), if_neg h4]
  unfold spec_l1New.f
  exact loop l.length 0 _ (by omega)

theorem spec_l1Byte_ok (b : List Int) (i h : Int) (hb : b.length ≤ 140737488351232) (hi : 0 ≤ i) : ∃ x i' h' : Int, spec_l1Byte.f b i h = some (x, i', h') ∧ 0 ≤ x ∧ x ≤ 255 ∧ 0 ≤ i' := by
  unfold spec_l1Byte.f
  by_cases h1 : i < (b.length : Int)
  · rw [if_pos h1, if_pos hi]
    refine ⟨_, _, _, rfl, (band255 _).1, (band255 _).2, ?_⟩
    rw [w64 (by omega) (by omega)]; omega
  · rw [if_neg h1]
    exact ⟨_, _, _, rfl, (band255 _).1, (band255 _).2, hi⟩

theorem spec_l1Below_ok (b : List Int) (i h n : Int) (hb : b.length ≤ 140737488351232) (hi : 0 ≤ i) (hn : 1 ≤ n) : ∃ x i' h' : Int, spec_l1Below.f b i h n = some (x, i', h') ∧ 0 ≤ x ∧ x < n ∧ 0 ≤ i' := by
  unfold spec_l1Below.f
  rw [if_neg (by omega)]
  have tm : ∀ y : Int, 0 ≤ y → 0 ≤ Int.tmod y n ∧ Int.tmod y n < n := fun y hy => ⟨Int.tmod_nonneg _ hy, Int.tmod_lt_of_pos _ (by omega)⟩
  by_cases h1 : n ≤ 256
  · rw [if_pos h1]
    obtain ⟨x, i', h', he, hx, _, hi'⟩ := spec_l1Byte_ok b i h hb hi
    rw [he, Option.bind_some, if_neg (by omega)]
    exact ⟨_, _, _, rfl, (tm x hx).1, (tm x hx).2, hi'⟩
  · rw [if_neg h1]
    obtain ⟨x1, i1, h1, he1, hx1, hy1, hi1⟩ := spec_l1Byte_ok b i h hb hi
    obtain ⟨x2, i2, h2, he2, hx2, hy2, hi2⟩ := spec_l1Byte_ok b i1 h1 hb hi1
    obtain ⟨x3, i3, h3, he3, hx3, hy3, hi3⟩ := spec_l1Byte_ok b i2 h2 hb hi2
    obtain ⟨x4, i4, h4, he4, hx4, hy4, hi4⟩ := spec_l1Byte_ok b i3 h3 hb hi3
    rw [he1, Option.bind_some, he2, Option.bind_some, he3, Option.bind_some, he4, Option.bind_some, if_neg (by omega)]
    rw [w64 (x := x1 * 16777216) (by omega) (by omega), w64 (x := x2 * 65536) (by omega) (by omega), w64 (x := x3 * 256) (by omega) (by omega), w64 (x := _ + x2 * 65536) (by omega) (by omega), w64 (x := _ + x3 * 256) (by omega) (by omega), w64 (x := _ + x4) (by omega) (by omega)]
    exact ⟨_, _, _, rfl, (tm _ (by omega)).1, (tm _ (by omega)).2, hi4⟩

theorem spec_l1PickInt_ok (b : List Int) (i h : Int) (l : List Int) (hb : b.length ≤ 140737488351232) (hi : 0 ≤ i) (hl : 1 ≤ l.length) : ∃ (x i' h' : Int), spec_l1PickInt.f b i h l = some (x, i', h') ∧ x ∈ l ∧ 0 ≤ i' := by
  unfold spec_l1PickInt.f
  obtain ⟨x, i', h', he, h0, h1, hi'⟩ := spec_l1Below_ok b i h (l.length : Int) hb hi (by omega)
  rw [he]
  simp only [Option.bind_some]
  rw [if_pos h0, if_pos h1]
  refine ⟨_, _, _, rfl, ?_, hi'⟩
  unfold rd
  rw [List.getD_eq_getElem?_getD, List.getElem?_eq_getElem (by omega)]
  exact List.getElem_mem _

theorem spec_l1In_eq (a lo hi : Int) : spec_l1In.f a lo hi = some (decide (lo ≤ a ∧ a ≤ hi)) := by
  unfold spec_l1In.f
  by_cases h : a ≥ lo
  · rw [if_pos h]; congr 1; simp [show lo ≤ a from h]
  · rw [if_neg h]; congr 1; simp [show ¬ lo ≤ a from h]

theorem spec_l5Principal_eq (a : Int) : spec_l5Principal.f a = some (decide (0 ≤ a ∧ a < 6)) := by
  unfold spec_l5Principal.f
  by_cases h : a ≥ 0
  · rw [if_pos h]; congr 1; simp [show 0 ≤ a from h]
  · rw [if_neg h]; congr 1; simp [show ¬ 0 ≤ a from h]

theorem spec_l5AuthOk_eq (c t q : Int) : spec_l5AuthOk.f c t q = some (authB c t q) := by
  unfold spec_l5AuthOk.f authB
  simp only [spec_l5Principal_eq, spec_l1In_eq, Option.bind_some]
  by_cases h1 : 0 ≤ c ∧ c < 6 <;> by_cases h2 : 0 ≤ t ∧ t ≤ 100000 <;> simp [h1, h2]

noncomputable def inA (x : S28) (l : List S28) : Bool := @decide (x ∈ l) (Classical.propDecidable _)
theorem inA_t {x : S28} {l : List S28} (h : x ∈ l) : inA x l = true := @decide_eq_true _ (Classical.propDecidable _) h
theorem inA_f {x : S28} {l : List S28} (h : ¬ x ∈ l) : inA x l = false := @decide_eq_false _ (Classical.propDecidable _) h
theorem inA_nil (x : S28) : inA x [] = false := inA_f (by simp)
theorem inA_eq {s x : S28} {l : List S28} (h : x = s) : inA s (x :: l) = true := inA_t (by simp [h])
theorem inA_ne {s x : S28} {l : List S28} (h : ¬ x = s) : inA s (x :: l) = inA s l := by
  have : ¬ s = x := fun e => h e.symm
  by_cases hs : s ∈ l
  · rw [inA_t hs, inA_t (List.mem_cons_of_mem _ hs)]
  · rw [inA_f hs, inA_f (by simp [hs, this])]
theorem inA_iff {s : S28} {l : List S28} {b : Bool} (h : b = true ↔ s ∈ l) : b = inA s l := by
  by_cases hs : s ∈ l
  · rw [inA_t hs, h.2 hs]
  · rw [inA_f hs]; cases b with
    | true => exact absurd (h.1 rfl) hs
    | false => rfl
theorem sameA (x : S28) (c t q : Int) : ((x.f0 == c) && ((x.f1 == t) && (x.f2 == q))) = true ↔ x = ⟨c, t, q⟩ := by
  obtain ⟨a, b, d⟩ := x
  simp
theorem sameA' (x : S28) (c t q : Int) : ((c == x.f0) && ((t == x.f1) && (q == x.f2))) = true ↔ x = ⟨c, t, q⟩ := by
  obtain ⟨a, b, d⟩ := x
  simp only [Bool.and_eq_true, beq_iff_eq]
  constructor
  · rintro ⟨rfl, rfl, rfl⟩; rfl
  · intro h; cases h; exact ⟨rfl, rfl, rfl⟩
theorem rdA_get (l : List S28) (i : Nat) (h : i < l.length) : rd_T28 l (i : Int) = l[i] := by
  unfold rd_T28
  rw [Int.toNat_natCast, List.getD_eq_getElem?_getD, List.getElem?_eq_getElem h]; rfl
def cgA (l : List S28) (i : Nat) : Prop := authB (rd_T28 l (i : Int)).f0 (rd_T28 l (i : Int)).f1 (rd_T28 l (i : Int)).f2 = true ∧ ¬ (rd_T28 l (i : Int) ∈ l.take i)
def cacheP (n : Int) (l : List S28) : Prop := ((-1 ≤ n ∧ n ≤ 200000) ∧ l.length ≤ 6) ∧ (∀ i, i < l.length → cgA l i)
noncomputable def cacheB (n : Int) (l : List S28) : Bool := @decide (cacheP n l) (Classical.propDecidable _)
theorem cacheB_t {n : Int} {l : List S28} (h : cacheP n l) : cacheB n l = true := @decide_eq_true _ (Classical.propDecidable _) h
theorem cacheB_f {n : Int} {l : List S28} (h : ¬ cacheP n l) : cacheB n l = false := @decide_eq_false _ (Classical.propDecidable _) h

theorem spec_l7Saw_ev (l : List S28) (c t q : Int) (hl : l.length ≤ 1073741824) : Ev (fun k => spec_l7Saw.f k l c t q) (inA ⟨c, t, q⟩ l) := by
  have loop : ∀ d i : Nat, i + d = l.length → Ev (fun k => spec_l7Saw.l0 k l (i : Int) c t q) (inA ⟨c, t, q⟩ (l.drop i)) := by
    intro d
    induction d with
    | zero =>
      intro i hi
      refine Ev.step (f := fun _ => some false) (fun k => ?_) (ev_eq (Ev.now _) ?_)
      · simp only [spec_l7Saw.l0]
        rw [if_neg (by omega)]
      · rw [List.drop_of_length_le (by omega), inA_nil]
    | succ d ih =>
      intro i hi
      have hlt : i < l.length := by omega
      have e2 : wrap64 ((i : Int) + 1) = ((i + 1 : Nat) : Int) := by rw [w64 (x := (i : Int) + 1) (by omega) (by omega)]; omega
      rw [List.drop_eq_getElem_cons hlt]
      by_cases h : l[i] = ⟨c, t, q⟩
      · refine Ev.step (f := fun _ => some true) (fun k => ?_) (ev_eq (Ev.now _) (inA_eq h).symm)
        simp only [spec_l7Saw.l0]
        rw [if_pos (by omega), if_pos (by omega), rdA_get _ _ hlt, if_pos ((sameA _ _ _ _).2 h)]
      · refine Ev.step (fun k => ?_) (ev_eq (ih (i + 1) (by omega)) (inA_ne h).symm)
        simp only [spec_l7Saw.l0]
        rw [if_pos (by omega), if_pos (by omega), rdA_get _ _ hlt, if_neg (fun e => h ((sameA _ _ _ _).1 e)), e2]
  have := loop l.length 0 (by omega)
  unfold spec_l7Saw.f
  simpa using this

theorem spec_CacheOk_ev (n : Int) (l : List S28) (hl : l.length ≤ 1048576) : Ev (fun k => spec_CacheOk.f k n l) (cacheB n l) := by
  have lp0 : ((-1 ≤ n ∧ n ≤ 200000) ∧ l.length ≤ 6) → ∀ d i : Nat, i + d = l.length → (∀ j, j < i → cgA l j) → Ev (fun k => spec_CacheOk.l0 k (i : Int) n l) (cacheB n l) := by
    intro hl6 d
    induction d with
    | zero =>
      intro i hi hj
      refine Ev.step (f := fun _ => some (cacheB n l)) (fun k => ?_) (Ev.now _)
      simp only [spec_CacheOk.l0]
      rw [if_neg (by omega)]
      rw [cacheB_t ⟨hl6, fun j h => hj j (by omega)⟩]
    | succ d ih =>
      intro i hi hj
      have hlt : i < l.length := by omega
      have e2 : wrap64 ((i : Int) + 1) = ((i + 1 : Nat) : Int) := by rw [w64 (x := (i : Int) + 1) (by omega) (by omega)]; omega
      have c1 : (i : Int) < (l.length : Int) := by omega
      have c2 : 0 ≤ (i : Int) := by omega
      have c3 : (i : Int) ≤ (l.length : Int) := by omega
      by_cases h1 : authB (rd_T28 l (i : Int)).f0 (rd_T28 l (i : Int)).f1 (rd_T28 l (i : Int)).f2 = true
      · refine Ev.step (f := fun k => (spec_l7Saw.f k (l.take i) (rd_T28 l (i : Int)).f0 (rd_T28 l (i : Int)).f1 (rd_T28 l (i : Int)).f2).bind fun t => (if t = true then some false else spec_CacheOk.l0 k ((i + 1 : Nat) : Int) n l)) (fun k => ?_) (Ev.bind (spec_l7Saw_ev _ _ _ _ (by rw [List.length_take]; omega)) ?_)
        · simp only [spec_CacheOk.l0]
          simp only [c1, c2, c3, if_true, e2, Int.toNat_natCast, spec_l5AuthOk_eq, Option.bind_some, h1]
        · by_cases h2 : rd_T28 l (i : Int) ∈ l.take i
          · rw [inA_t (x := ⟨(rd_T28 l (i : Int)).f0, (rd_T28 l (i : Int)).f1, (rd_T28 l (i : Int)).f2⟩) h2]
            simp only [if_true]
            exact ev_eq (Ev.now _) (cacheB_f (fun hp => (hp.2 i hlt).2 h2)).symm
          · rw [inA_f (x := ⟨(rd_T28 l (i : Int)).f0, (rd_T28 l (i : Int)).f1, (rd_T28 l (i : Int)).f2⟩) h2]
            simp only [Bool.false_eq_true, if_false]
            refine ih (i + 1) (by omega) (fun j h => ?_)
            by_cases hji : j = i
            · subst hji; exact ⟨h1, h2⟩
            · exact hj j (by omega)
      · refine Ev.step (f := fun _ => some false) (fun k => ?_) (ev_eq (Ev.now _) (cacheB_f (fun hp => h1 (hp.2 i hlt).1)).symm)
        simp only [spec_CacheOk.l0]
        simp only [c1, c2, c3, if_true, spec_l5AuthOk_eq, Option.bind_some, h1, Bool.false_eq_true, if_false]
  have dead : ¬ ((-1 ≤ n ∧ n ≤ 200000) ∧ l.length ≤ 6) → Ev (fun k => spec_CacheOk.j0 k true n l) (cacheB n l) := by
    intro h
    refine Ev.step (f := fun _ => some false) (fun k => ?_) (ev_eq (Ev.now _) (cacheB_f (fun hp => h hp.1)).symm)
    simp [spec_CacheOk.j0]
  unfold spec_CacheOk.f
  by_cases h1 : -1 ≤ n ∧ n ≤ 200000
  · by_cases h2 : (l.length : Int) > 6
    · simp only [spec_l1In_eq, Option.bind_some, h1, h2, and_self, decide_true, if_true]
      exact dead (by omega)
    · simp only [spec_l1In_eq, Option.bind_some, h1, h2, and_self, decide_true, decide_false, if_true]
      refine Ev.step (fun k => ?_) (lp0 ⟨h1, by omega⟩ l.length 0 (by omega) (fun j h => by omega))
      simp only [spec_CacheOk.j0]
      rw [if_neg (by decide)]
      rfl
  · simp only [spec_l1In_eq, Option.bind_some, h1, decide_false, Bool.false_eq_true, if_false]
    exact dead (fun h => h1 h.1)


theorem spec_l7Copy_eq (n : Int) (l : List S28) (hl : l.length ≤ 1073741824) : spec_l7Copy.f n l = some (n, l) := by
  unfold spec_l7Copy.f
  rw [Option.bind_some, if_pos (by simp only [List.length_nil]; omega), List.nil_append]

theorem spec_l7Apart_eq (a b s : Int) (ha : 0 ≤ a ∧ a ≤ 100000) (hb : 0 ≤ b ∧ b ≤ 100000) : spec_l7Apart.f a b s = some (decide (s < a - b ∨ s < b - a)) := by
  unfold spec_l7Apart.f
  rw [w64 (x := a - b) (by omega) (by omega), w64 (x := b - a) (by omega) (by omega)]
  by_cases h : a - b > s
  · rw [if_pos h, decide_eq_true (Or.inl h)]
  · rw [if_neg h]
    by_cases h2 : b - a > s
    · rw [decide_eq_true h2, decide_eq_true (Or.inr h2)]
    · rw [decide_eq_false h2, decide_eq_false (by omega)]

def leftA (t : Int) (l : List S28) : List S28 := l.filter fun a => decide (t ≤ a.f1)
theorem leftA_len (t : Int) (l : List S28) : (leftA t l).length ≤ l.length := List.length_filter_le _ _
theorem leftA_snoc_t (t : Int) (l : List S28) (i : Nat) (h : i < l.length) (ht : t ≤ l[i].f1) : leftA t (l.take (i + 1)) = leftA t (l.take i) ++ [l[i]] := by
  unfold leftA
  rw [List.take_succ_eq_append_getElem h, List.filter_append]
  simp [ht]
theorem leftA_snoc_f (t : Int) (l : List S28) (i : Nat) (h : i < l.length) (ht : ¬ t ≤ l[i].f1) : leftA t (l.take (i + 1)) = leftA t (l.take i) := by
  unfold leftA
  rw [List.take_succ_eq_append_getElem h, List.filter_append]
  simp [ht]
def tickP (c t q now skew : Int) : Prop := authB c t q = true ∧ (0 ≤ now ∧ now ≤ 100000) ∧ (0 ≤ skew ∧ skew ≤ 20)
noncomputable def tryS (n : Int) (l : List S28) (c t q now skew : Int) : Int × List S28 × Int :=
  if cacheB n l = true then
    (if @decide (tickP c t q now skew) (Classical.propDecidable _) = true then
      (if decide (skew < now - t ∨ skew < t - now) = true then (n, l, 2)
       else if now ≤ n then (n, l, 3)
       else if inA ⟨c, t, q⟩ l = true then (n, l, 4)
       else if 6 ≤ ((leftA (now - skew) l).length : Int) then (n, l, 5)
       else (n, leftA (now - skew) l ++ [⟨c, t, q⟩], 0))
     else (n, l, 1))
  else (0, [], 1)
theorem authB_out {c t q : Int} (h : authB c t q = true) : (0 ≤ c ∧ c < 6) ∧ (0 ≤ t ∧ t ≤ 100000) ∧ (0 ≤ q ∧ q ≤ 1000000) := by
  unfold authB at h
  exact of_decide_eq_true h
theorem cacheB_out {n : Int} {l : List S28} (h : cacheB n l = true) : cacheP n l := by
  by_cases hp : cacheP n l
  · exact hp
  · rw [cacheB_f hp] at h; cases h
theorem tryS_len (n : Int) (l : List S28) (c t q now skew : Int) (hl : l.length ≤ 1048576) : (tryS n l c t q now skew).2.1.length ≤ 1048577 := by
  have := leftA_len (now - skew) l
  unfold tryS
  repeat' split
  all_goals first | (simp; omega) | (simp only [List.length_nil]; omega)

theorem spec_CacheTry_ev (n : Int) (l : List S28) (c t q now skew : Int) (hl : l.length ≤ 1048576) : Ev (fun k => spec_CacheTry.f k n l c t q now skew) (tryS n l c t q now skew) := by
  have loop : (0 ≤ now ∧ now ≤ 100000) → (0 ≤ skew ∧ skew ≤ 20) → ∀ d i : Nat, i + d = l.length → Ev (fun k => spec_CacheTry.l0 k now skew (leftA (now - skew) (l.take i)) (i : Int) n l c t q) (if 6 ≤ ((leftA (now - skew) l).length : Int) then (n, l, 5) else (n, leftA (now - skew) l ++ [⟨c, t, q⟩], 0)) := by
    intro h1 h2 d
    induction d with
    | zero =>
      intro i hi
      have e : l.take i = l := List.take_of_length_le (by omega)
      have hlen := leftA_len (now - skew) l
      rw [e]
      refine Ev.step (f := fun _ => (if 6 ≤ ((leftA (now - skew) l).length : Int) then some (n, l, 5) else some (n, leftA (now - skew) l ++ [⟨c, t, q⟩], 0))) (fun k => ?_) ?_
      · simp only [spec_CacheTry.l0]
        rw [if_neg (by omega), if_pos (show (leftA (now - skew) l).length < 5864062014805 by omega)]
      · split <;> exact Ev.now _
    | succ d ih =>
      intro i hi
      have hlt : i < l.length := by omega
      have hlen := leftA_len (now - skew) (l.take i)
      have htl : (l.take i).length ≤ 1048576 := by rw [List.length_take]; omega
      have e2 : wrap64 ((i : Int) + 1) = ((i + 1 : Nat) : Int) := by rw [w64 (x := (i : Int) + 1) (by omega) (by omega)]; omega
      refine Ev.step (fun k => ?_) (ih (i + 1) (by omega))
      simp only [spec_CacheTry.l0]
      rw [if_pos (by omega), if_pos (by omega), rdA_get _ _ hlt, e2]
      clear e2
      rw [w64 (x := now - skew) (by omega) (by omega)]
      by_cases h : now - skew ≤ l[i].f1
      · rw [if_pos h, if_pos (by omega), leftA_snoc_t _ _ _ hlt h]
      · rw [if_neg h, leftA_snoc_f _ _ _ hlt h]
  have dead : ∀ b : Bool, b = true → Ev (fun k => spec_CacheTry.j0 k now skew b n l c t q) (n, l, 1) := by
    intro b hb
    subst hb
    refine Ev.step (f := fun _ => some (n, l, 1)) (fun k => ?_) (Ev.now _)
    simp only [spec_CacheTry.j0, if_true]
  unfold spec_CacheTry.f tryS
  refine Ev.bind (spec_CacheOk_ev n l hl) ?_
  by_cases h0 : cacheB n l = true
  · simp only [h0, if_true, spec_l7Copy_eq n l (by omega), Option.bind_some, spec_l5AuthOk_eq, spec_l1In_eq]
    by_cases ha : authB c t q = true
    · simp only [ha, if_true, Option.bind_some]
      by_cases hn : 0 ≤ now ∧ now ≤ 100000
      · rw [decide_eq_true hn]
        simp only [if_true, Option.bind_some]
        by_cases hs : 0 ≤ skew ∧ skew ≤ 20
        · rw [decide_eq_true hs, @decide_eq_true (tickP c t q now skew) (Classical.propDecidable _) ⟨ha, hn, hs⟩]
          simp only [if_true, Bool.not_true]
          have hb := (authB_out ha).2.1
          refine Ev.step (f := fun k => (if decide (skew < now - t ∨ skew < t - now) = true then some (n, l, 2) else (if now ≤ n then some (n, l, 3) else ((spec_l7Saw.f k l c t q).bind fun t188 => (if t188 = true then (some (n, l, 4)) else (spec_CacheTry.l0 k now skew [] 0 n l c t q)))))) (fun k => ?_) ?_
          · simp only [spec_CacheTry.j0]
            rw [if_neg (by decide), spec_l7Apart_eq now t skew hn hb, Option.bind_some]
          · by_cases g1 : decide (skew < now - t ∨ skew < t - now) = true
            · simp only [g1, if_true]; exact Ev.now _
            · simp only [g1, if_false, Bool.false_eq_true]
              by_cases g2 : now ≤ n
              · simp only [g2, if_true]; exact Ev.now _
              · simp only [g2, if_false]
                refine Ev.bind (spec_l7Saw_ev l c t q (by omega)) ?_
                by_cases g3 : inA ⟨c, t, q⟩ l = true
                · simp only [g3, if_true]; exact Ev.now _
                · simp only [g3, if_false, Bool.false_eq_true]
                  exact loop hn hs l.length 0 (by omega)
        · rw [decide_eq_false hs, @decide_eq_false (tickP c t q now skew) (Classical.propDecidable _) (fun h => hs h.2.2)]
          simp only [Bool.not_false, Bool.false_eq_true, if_false]
          exact dead _ rfl
      · rw [decide_eq_false hn, @decide_eq_false (tickP c t q now skew) (Classical.propDecidable _) (fun h => hn h.2.1)]
        simp only [Bool.false_eq_true, if_false]
        exact dead _ rfl
    · rw [@decide_eq_false (tickP c t q now skew) (Classical.propDecidable _) (fun h => ha h.1)]
      simp only [ha, Bool.false_eq_true, if_false]
      exact dead _ rfl
  · simp only [h0, Bool.false_eq_true, if_false]
    exact Ev.now _

theorem spec_l1Once_ok (b : List Int) (i h n : Int) (hb : b.length ≤ 140737488351232) (hi : 0 ≤ i) (hn : 1 ≤ n) : ∃ (x : Bool) (i' h' : Int), spec_l1Once.f b i h n = some (x, i', h') ∧ 0 ≤ i' := by
  unfold spec_l1Once.f
  obtain ⟨x, i', h', he, _, _, hi'⟩ := spec_l1Below_ok b i h n hb hi hn
  rw [he]
  exact ⟨_, _, _, rfl, hi'⟩

theorem spec_l5DrawAuth_ok (b : List Int) (i h : Int) (hb : b.length ≤ 140737488351232) (hi : 0 ≤ i) : ∃ (c t q i' h' : Int), spec_l5DrawAuth.f b i h = some (c, t, q, i', h') ∧ 0 ≤ i' := by
  unfold spec_l5DrawAuth.f
  obtain ⟨x1, i1, h1, he1, _, _, hi1⟩ := spec_l1Below_ok b i h 6 hb hi (by decide)
  obtain ⟨x2, i2, h2, he2, _, _, hi2⟩ := spec_l1Below_ok b i1 h1 40 hb hi1 (by decide)
  obtain ⟨x3, i3, h3, he3, _, _, hi3⟩ := spec_l1Below_ok b i2 h2 9 hb hi2 (by decide)
  obtain ⟨x4, i4, h4, he4, hi4⟩ := spec_l1Once_ok b i3 h3 10 hb hi3 (by decide)
  simp only [he1, he2, he3, he4, Option.bind_some]
  cases x4 with
  | false => exact ⟨_, _, _, _, _, rfl, hi4⟩
  | true =>
    simp only [if_true]
    obtain ⟨x5, i5, h5, he5, _, _, hi5⟩ := spec_l1Below_ok b i4 h4 3 hb hi4 (by decide)
    simp only [he5, Option.bind_some]
    by_cases c1 : x5 = 0
    · obtain ⟨x6, i6, h6, he6, _, hi6⟩ := spec_l1PickInt_ok b i5 h5 [(-1), 6] hb hi5 (by decide)
      rw [if_pos c1, he6]
      exact ⟨_, _, _, _, _, rfl, hi6⟩
    · rw [if_neg c1]
      by_cases c2 : x5 = 1
      · obtain ⟨x6, i6, h6, he6, _, hi6⟩ := spec_l1PickInt_ok b i5 h5 [(-1), 100000, 100001] hb hi5 (by decide)
        rw [if_pos c2, he6]
        exact ⟨_, _, _, _, _, rfl, hi6⟩
      · obtain ⟨x6, i6, h6, he6, _, hi6⟩ := spec_l1PickInt_ok b i5 h5 [(-1), 1000000, 1000001] hb hi5 (by decide)
        rw [if_neg c2, he6]
        exact ⟨_, _, _, _, _, rfl, hi6⟩

def restartC (now skew : Int) : Int := if 0 ≤ now ∧ now ≤ 100000 ∧ 0 ≤ skew ∧ skew ≤ 20 then now + 2 * skew else -1

theorem spec_Restart_eq (now skew : Int) : spec_Restart.f now skew = some (restartC now skew, []) := by
  unfold spec_Restart.f restartC
  simp only [spec_l1In_eq, Option.bind_some]
  by_cases h1 : 0 ≤ now ∧ now ≤ 100000
  · by_cases h2 : 0 ≤ skew ∧ skew ≤ 20
    · rw [decide_eq_true h1, decide_eq_true h2, if_pos rfl, if_pos rfl, if_pos ⟨h1.1, h1.2, h2.1, h2.2⟩, w64 (x := 2 * skew) (by omega) (by omega), w64 (by omega) (by omega)]
    · rw [decide_eq_true h1, decide_eq_false h2, if_pos rfl, if_neg (by decide), if_neg (fun e => h2 ⟨e.2.2.1, e.2.2.2⟩)]; rfl
  · rw [decide_eq_false h1, if_neg (by decide), if_neg (fun e => h1 ⟨e.1, e.2.1⟩)]; rfl

theorem tryS_len1 (n : Int) (l : List S28) (c t q now skew : Int) : (tryS n l c t q now skew).2.1.length ≤ l.length + 1 := by
  have := leftA_len (now - skew) l
  unfold tryS
  repeat' split
  all_goals first | (simp; omega) | (simp only [List.length_nil]; omega)
def okA (x : S28) : Prop := authB x.f0 x.f1 x.f2 = true
theorem cacheP_iff (n : Int) (l : List S28) : cacheP n l ↔ ((-1 ≤ n ∧ n ≤ 200000) ∧ l.length ≤ 6) ∧ (∀ x ∈ l, okA x) ∧ l.Nodup := by
  have hnd : (∀ i (h : i < l.length), ¬ (l[i] ∈ l.take i)) ↔ l.Nodup := by
    unfold List.Nodup
    rw [List.pairwise_iff_getElem]
    constructor
    · intro h i j hi hj hij e
      refine h j hj ?_
      rw [← e, List.mem_take_iff_getElem]
      exact ⟨i, by omega, rfl⟩
    · intro h i hi hm
      rw [List.mem_take_iff_getElem] at hm
      obtain ⟨j, hj, e⟩ := hm
      exact h j i (by omega) hi (by omega) e
  unfold cacheP cgA
  constructor
  · rintro ⟨h1, h2⟩
    refine ⟨h1, fun x hx => ?_, hnd.1 fun i hi => ?_⟩
    · obtain ⟨i, hi, rfl⟩ := List.mem_iff_getElem.1 hx
      have := (h2 i hi).1
      rw [rdA_get l i hi] at this
      exact this
    · have := (h2 i hi).2
      rw [rdA_get l i hi] at this
      exact this
  · rintro ⟨h1, h2, h3⟩
    refine ⟨h1, fun i hi => ?_⟩
    rw [rdA_get l i hi]
    exact ⟨h2 _ (List.getElem_mem hi), hnd.2 h3 i hi⟩
theorem inA_out {x : S28} {l : List S28} (h : inA x l = true) : x ∈ l := by
  by_cases hp : x ∈ l
  · exact hp
  · rw [inA_f hp] at h; cases h
theorem tick_or (c t q now skew : Int) : (tickP c t q now skew ∧ @decide (tickP c t q now skew) (Classical.propDecidable _) = true) ∨ (¬ tickP c t q now skew ∧ @decide (tickP c t q now skew) (Classical.propDecidable _) = false) := by
  by_cases h : tickP c t q now skew
  · exact .inl ⟨h, @decide_eq_true _ (Classical.propDecidable _) h⟩
  · exact .inr ⟨h, @decide_eq_false _ (Classical.propDecidable _) h⟩
/-- What CacheTry answers at a right cache: it keeps what it has, or it takes the new one in. -/
theorem tryS_cases (n : Int) (l : List S28) (c t q now skew : Int) (h : cacheB n l = true) :
    (∃ k, tryS n l c t q now skew = (n, l, k) ∧ k ≠ 0) ∨
    (tryS n l c t q now skew = (n, leftA (now - skew) l ++ [⟨c, t, q⟩], 0) ∧ tickP c t q now skew ∧ ¬ (skew < now - t ∨ skew < t - now) ∧ ¬ now ≤ n ∧ ¬ (⟨c, t, q⟩ : S28) ∈ l ∧ (leftA (now - skew) l).length < 6) := by
  unfold tryS
  rw [if_pos h]
  rcases tick_or c t q now skew with ⟨hp, e⟩ | ⟨hp, e⟩
  · rw [if_pos e]
    by_cases g1 : skew < now - t ∨ skew < t - now
    · rw [if_pos (decide_eq_true g1)]; exact .inl ⟨2, rfl, by decide⟩
    · rw [if_neg (by rw [decide_eq_false g1]; decide)]
      by_cases g2 : now ≤ n
      · rw [if_pos g2]; exact .inl ⟨3, rfl, by decide⟩
      · rw [if_neg g2]
        by_cases g3 : inA ⟨c, t, q⟩ l = true
        · rw [if_pos g3]; exact .inl ⟨4, rfl, by decide⟩
        · rw [if_neg g3]
          by_cases g4 : 6 ≤ ((leftA (now - skew) l).length : Int)
          · rw [if_pos g4]; exact .inl ⟨5, rfl, by decide⟩
          · rw [if_neg g4]
            exact .inr ⟨rfl, hp, g1, g2, fun hm => g3 (inA_t hm), by omega⟩
  · rw [if_neg (by rw [e]; decide)]; exact .inl ⟨1, rfl, by decide⟩
theorem cacheB_add {n : Int} {l : List S28} {c t q now skew : Int} (h : cacheB n l = true) (hp : tickP c t q now skew) (hn : ¬ (⟨c, t, q⟩ : S28) ∈ l) (hl : (leftA (now - skew) l).length < 6) : cacheB n (leftA (now - skew) l ++ [⟨c, t, q⟩]) = true := by
  obtain ⟨⟨h1, h2⟩, h3, h4⟩ := (cacheP_iff n l).1 (cacheB_out h)
  refine cacheB_t ((cacheP_iff _ _).2 ⟨⟨h1, by simp; omega⟩, ?_, ?_⟩)
  · intro x hx
    rcases List.mem_append.1 hx with hx | hx
    · exact h3 x (List.mem_filter.1 hx).1
    · rw [List.mem_singleton] at hx
      subst hx
      exact hp.1
  · rw [List.nodup_append]
    refine ⟨h4.filter _, by simp, fun a ha b hb => ?_⟩
    rw [List.mem_singleton] at hb
    subst hb
    intro e
    subst e
    exact hn (List.mem_filter.1 ha).1
/-- Behind any try the cache is right, with the same quiet time; what was in it is in it, or too old. -/
theorem tryS_keeps (n : Int) (l : List S28) (c t q now skew : Int) (h : cacheB n l = true) :
    ∃ l' k, tryS n l c t q now skew = (n, l', k) ∧ cacheB n l' = true ∧ (∀ x ∈ l, x ∈ l' ∨ x.f1 < now - skew) := by
  rcases tryS_cases n l c t q now skew h with ⟨k, e, _⟩ | ⟨e, hp, _, _, hn, hl⟩
  · exact ⟨l, k, e, h, fun x hx => .inl hx⟩
  · refine ⟨_, 0, e, cacheB_add h hp hn hl, fun x hx => ?_⟩
    by_cases hx1 : now - skew ≤ x.f1
    · exact .inl (List.mem_append.2 (.inl (List.mem_filter.2 ⟨hx, decide_eq_true hx1⟩)))
    · exact .inr (by omega)
theorem cacheB_nil {n : Int} (h : -1 ≤ n ∧ n ≤ 200000) : cacheB n [] = true := cacheB_t ((cacheP_iff _ _).2 ⟨⟨h, by simp⟩, by simp, by simp⟩)
/-- What is in the cache, or too old, is not taken. -/
theorem tryS_no (n : Int) (l : List S28) (c t q now skew : Int) (h : cacheB n l = true) (hx : (⟨c, t, q⟩ : S28) ∈ l ∨ t < now - skew ∨ now ≤ n) : ∃ k, tryS n l c t q now skew = (n, l, k) ∧ k ≠ 0 := by
  rcases tryS_cases n l c t q now skew h with e | ⟨_, _, g1, g2, hn, _⟩
  · exact e
  · rcases hx with hx | hx | hx
    · exact absurd hx hn
    · exact absurd (.inl (by omega)) g1
    · exact absurd hx g2

theorem spec_l7Cache_ok (b : List Int) (i h most : Int) (hb : b.length ≤ 140737488351232) (hi : 0 ≤ i) (hm : 1 ≤ most ∧ most ≤ 1000) : ∃ (n : Int) (l : List S28) (i' h' : Int), Ev (fun k => spec_l7Cache.f k b i h most) (n, l, i', h') ∧ 0 ≤ i' ∧ l.length ≤ 2000 := by
  have loop : ∀ (d : Nat) (now i h n : Int) (l : List S28), 0 ≤ i → l.length + d ≤ 1999 → ∃ (n' : Int) (l' : List S28) (i' h' : Int), Ev (fun k => spec_l7Cache.l0 k now (d : Int) b i h n l) (n', l', i', h') ∧ 0 ≤ i' ∧ l'.length ≤ 2000 := by
    intro d
    induction d with
    | zero =>
      intro now i h n l hi hl
      have fin : ∃ (n' : Int) (l' : List S28) (i' h' : Int), ((spec_l1Once.f b i h 10).bind fun bt256 => (if bt256.1 = true then ((spec_l1Below.f b bt256.2.1 bt256.2.2 2).bind fun bt259 => (if bt259.1 = 0 then ((spec_l1PickInt.f b bt259.2.1 bt259.2.2 (([(-2), (-1), 5, 200000, 200001] : List Int))).bind fun bt265 => (some (bt265.1, l, bt265.2.1, bt265.2.2))) else ((spec_l5DrawAuth.f b bt259.2.1 bt259.2.2).bind fun bt268 => (if l.length < 5864062014805 then (some (n, (l ++ [(⟨bt268.1, bt268.2.1, bt268.2.2.1⟩ : S28)]), bt268.2.2.2.1, bt268.2.2.2.2)) else (none))))) else (some (n, l, bt256.2.1, bt256.2.2)))) = some (n', l', i', h') ∧ 0 ≤ i' ∧ l'.length ≤ 2000 := by
        obtain ⟨x1, i1, h1, he1, hi1⟩ := spec_l1Once_ok b i h 10 hb hi (by decide)
        simp only [he1, Option.bind_some]
        cases x1 with
        | false => exact ⟨_, _, _, _, rfl, hi1, by omega⟩
        | true =>
          simp only [if_true]
          obtain ⟨x2, i2, h2, he2, _, _, hi2⟩ := spec_l1Below_ok b i1 h1 2 hb hi1 (by decide)
          simp only [he2, Option.bind_some]
          by_cases c1 : x2 = 0
          · obtain ⟨x3, i3, h3, he3, _, hi3⟩ := spec_l1PickInt_ok b i2 h2 [(-2), (-1), 5, 200000, 200001] hb hi2 (by decide)
            rw [if_pos c1, he3]
            exact ⟨_, _, _, _, rfl, hi3, by omega⟩
          · obtain ⟨x3, x4, x5, i3, h3, he3, hi3⟩ := spec_l5DrawAuth_ok b i2 h2 hb hi2
            rw [if_neg c1, he3]
            have hs : l.length < 5864062014805 := by omega
            simp only [Option.bind_some, hs, if_true]
            exact ⟨_, _, _, _, rfl, hi3, by simp; omega⟩
      obtain ⟨n', l', i', h', e, r1, r2⟩ := fin
      refine ⟨n', l', i', h', Ev.step (f := fun _ => some (n', l', i', h')) (fun k => ?_) (Ev.now _), r1, r2⟩
      rw [← e]
      simp only [spec_l7Cache.l0]
      rw [if_neg (by omega)]
    | succ d ih =>
      intro now i h n l hi hl
      have step : ∀ (now i h n : Int) (l : List S28), 0 ≤ i → l.length + (d + 1) ≤ 1999 → ∃ (n' : Int) (l' : List S28) (i' h' : Int), Ev (fun k => spec_l7Cache.j1 k now ((d + 1 : Nat) : Int) b i h n l) (n', l', i', h') ∧ 0 ≤ i' ∧ l'.length ≤ 2000 := by
        intro now i h n l hi hl
        obtain ⟨x1, i1, h1, he1, _, _, hi1⟩ := spec_l1Below_ok b i h 2 hb hi (by decide)
        obtain ⟨x2, i2, h2, he2, _, _, hi2⟩ := spec_l1Below_ok b i1 h1 3 hb hi1 (by decide)
        obtain ⟨x3, i3, h3, he3, _, _, hi3⟩ := spec_l1Below_ok b i2 h2 3 hb hi2 (by decide)
        obtain ⟨x4, i4, h4, he4, _, _, hi4⟩ := spec_l1Below_ok b i3 h3 3 hb hi3 (by decide)
        have htry := spec_CacheTry_ev n l x2 (wrap64 ((wrap64 (now + x1)) + x3)) x4 (wrap64 (now + x1)) 3 (by omega)
        have hlen := tryS_len1 n l x2 (wrap64 ((wrap64 (now + x1)) + x3)) x4 (wrap64 (now + x1)) 3
        obtain ⟨⟨n1, l1, k1⟩, hp⟩ : ∃ p, p = tryS n l x2 (wrap64 ((wrap64 (now + x1)) + x3)) x4 (wrap64 (now + x1)) 3 := ⟨_, rfl⟩
        rw [← hp] at htry hlen
        simp only at hlen
        obtain ⟨n', l', i', h', e, r1, r2⟩ := ih (wrap64 (now + x1)) i4 h4 n1 l1 hi4 (by omega)
        refine ⟨n', l', i', h', Ev.step (f := fun k => (spec_CacheTry.f k n l x2 (wrap64 ((wrap64 (now + x1)) + x3)) x4 (wrap64 (now + x1)) 3).bind fun bt => spec_l7Cache.l0 k (wrap64 (now + x1)) (d : Int) b i4 h4 bt.1 bt.2.1) (fun k => ?_) (Ev.bind htry e), r1, r2⟩
        have e1 : wrap64 (((d + 1 : Nat) : Int) - 1) = (d : Int) := by rw [w64 (by omega) (by omega)]; omega
        simp only [spec_l7Cache.j1, he1, he2, he3, he4, Option.bind_some, e1]
      obtain ⟨x1, i1, h1, he1, hi1⟩ := spec_l1Once_ok b i h 20 hb hi (by decide)
      cases x1 with
      | false =>
        obtain ⟨n', l', i', h', e, r1, r2⟩ := step now i1 h1 n l hi1 (by omega)
        refine ⟨n', l', i', h', Ev.step (fun k => ?_) e, r1, r2⟩
        simp only [spec_l7Cache.l0]
        rw [if_pos (by omega), he1]
        simp
      | true =>
        obtain ⟨n', l', i', h', e, r1, r2⟩ := step now i1 h1 (restartC now 3) [] hi1 (by simp; omega)
        refine ⟨n', l', i', h', Ev.step (fun k => ?_) e, r1, r2⟩
        simp only [spec_l7Cache.l0]
        rw [if_pos (by omega), he1]
        simp [spec_Restart_eq]
  unfold spec_l7Cache.f spec_NewCache.f
  obtain ⟨x1, i1, h1, he1, hx0, hx1, hi1⟩ := spec_l1Below_ok b i h most hb hi hm.1
  simp only [he1, Option.bind_some]
  obtain ⟨m, rfl⟩ := Int.eq_ofNat_of_zero_le hx0
  exact loop m 0 i1 h1 (-1) [] hi1 (by simp; omega)

theorem spec_l1Size_ok (l : List Int) (a : Int) (hl : l.length ≤ 140737488351232) (ha : 2 ≤ a) : ∃ r : Int, spec_l1Size.f l a = some r ∧ 2 ≤ r ∧ r ≤ a := by
  unfold spec_l1Size.f
  have h0 : 0 ≤ (l.length : Int) / 20 := by omega
  rw [w64 (x := (l.length : Int) / 20) (by omega) (by omega), w64 (x := 2 + (l.length : Int) / 20) (by omega) (by omega)]
  by_cases h : 2 + (l.length : Int) / 20 > a
  · exact ⟨a, by rw [if_pos h], by omega, by omega⟩
  · exact ⟨_, by rw [if_neg h], by omega, by omega⟩

theorem spec_DrawCacheTry_ok (b : List Int) (hb : b.length ≤ 140737488351232) : ∃ (n : Int) (l : List S28) (c t q now skew : Int), Ev (fun k => spec_DrawCacheTry.f k b) (n, l, c, t, q, now, skew) ∧ l.length ≤ 2000 := by
  have j2 : ∀ (now skew i h c t q n : Int) (l : List S28), 0 ≤ i → ∃ now' : Int, Ev (fun k => spec_DrawCacheTry.j2 k now skew b i h c t q n l) (n, l, c, t, q, now', skew) := by
    intro now skew i h c t q n l hi
    obtain ⟨x1, i1, h1, he1, hi1⟩ := spec_l1Once_ok b i h 15 hb hi (by decide)
    obtain ⟨x2, i2, h2, he2, _, hi2⟩ := spec_l1PickInt_ok b i1 h1 [(-1), 100000, 100001] hb hi1 (by decide)
    cases x1 with
    | false =>
      refine ⟨now, Ev.step (f := fun _ => some (n, l, c, t, q, now, skew)) (fun k => ?_) (Ev.now _)⟩
      simp [spec_DrawCacheTry.j2, he1]
    | true =>
      refine ⟨x2, Ev.step (f := fun _ => some (n, l, c, t, q, x2, skew)) (fun k => ?_) (Ev.now _)⟩
      simp [spec_DrawCacheTry.j2, he1, he2]
  have j1 : ∀ (now skew i h c t q n : Int) (l : List S28), 0 ≤ i → ∃ c' t' q' now' : Int, Ev (fun k => spec_DrawCacheTry.j1 k now skew b i h c t q n l) (n, l, c', t', q', now', skew) := by
    intro now skew i h c t q n l hi
    obtain ⟨x1, i1, h1, he1, hi1⟩ := spec_l1Once_ok b i h 12 hb hi (by decide)
    cases x1 with
    | false =>
      obtain ⟨now', e⟩ := j2 now skew i1 h1 c t q n l hi1
      refine ⟨c, t, q, now', Ev.step (fun k => ?_) e⟩
      simp [spec_DrawCacheTry.j1, he1]
    | true =>
      obtain ⟨c2, t2, q2, i2, h2, he2, hi2⟩ := spec_l5DrawAuth_ok b i1 h1 hb hi1
      obtain ⟨now', e⟩ := j2 now skew i2 h2 c2 t2 q2 n l hi2
      refine ⟨c2, t2, q2, now', Ev.step (fun k => ?_) e⟩
      simp [spec_DrawCacheTry.j1, he1, he2]
  have j0 : ∀ (now skew : Int) (x : Bool) (i h c t q n : Int) (l : List S28), 0 ≤ i → l.length ≤ 2000 → (x = true → 1 ≤ l.length) → ∃ c' t' q' now' : Int, Ev (fun k => spec_DrawCacheTry.j0 k now skew x b i h c t q n l) (n, l, c', t', q', now', skew) := by
    intro now skew x i h c t q n l hi hl hx
    cases x with
    | false =>
      obtain ⟨c', t', q', now', e⟩ := j1 now skew i h c t q n l hi
      refine ⟨c', t', q', now', Ev.step (fun k => ?_) e⟩
      simp [spec_DrawCacheTry.j0]
    | true =>
      obtain ⟨x1, i1, h1, he1, hx0, hx1, hi1⟩ := spec_l1Below_ok b i h (l.length : Int) hb hi (by have := hx rfl; omega)
      obtain ⟨x2, i2, h2, he2, _, _, hi2⟩ := spec_l1Below_ok b i1 h1 3 hb hi1 (by decide)
      obtain ⟨c', t', q', now', e⟩ := j1 (wrap64 (((rd_T28 l x1).f1) + x2)) skew i2 h2 ((rd_T28 l x1).f0) ((rd_T28 l x1).f1) ((rd_T28 l x1).f2) n l hi2
      refine ⟨c', t', q', now', Ev.step (fun k => ?_) e⟩
      simp only [spec_DrawCacheTry.j0, if_true, he1, Option.bind_some, hx0, hx1, he2]
  unfold spec_DrawCacheTry.f
  obtain ⟨h0, hn⟩ := spec_l1New_ok b hb
  obtain ⟨x1, i1, h1, he1, _, _, hi1⟩ := spec_l1Below_ok b 0 h0 25 hb (by decide) (by decide)
  obtain ⟨x2, i2, h2, he2, _, hi2⟩ := spec_l1PickInt_ok b i1 h1 [3, 3, 3, 0, 20, (-1), 21] hb hi1 (by decide)
  obtain ⟨x3, i3, h3, he3, _, _, hi3⟩ := spec_l1Below_ok b i2 h2 3 hb hi2 (by decide)
  obtain ⟨x4, i4, h4, he4, _, _, hi4⟩ := spec_l1Below_ok b i3 h3 5 hb hi3 (by decide)
  obtain ⟨x5, i5, h5, he5, _, _, hi5⟩ := spec_l1Below_ok b i4 h4 3 hb hi4 (by decide)
  obtain ⟨s, hes, hs0, hs1⟩ := spec_l1Size_ok b 25 hb (by decide)
  obtain ⟨n, l, i6, h6, he6, hi6, hl⟩ := spec_l7Cache_ok b i5 h5 s hb hi5 ⟨by omega, by omega⟩
  obtain ⟨x7, i7, h7, he7, hi7⟩ := spec_l1Once_ok b i6 h6 3 hb hi6 (by decide)
  by_cases hg : (l.length : Int) > 0
  · obtain ⟨c', t', q', now', e⟩ := j0 x1 x2 x7 i7 h7 x3 (wrap64 ((wrap64 (x1 + x4)) - 2)) x5 n l hi7 hl (fun _ => by omega)
    refine ⟨n, l, c', t', q', now', x2, Ev.bind hn ?_, hl⟩
    simp only [he1, he2, he3, he4, he5, hes, Option.bind_some]
    refine Ev.bind he6 ?_
    simp only [hg, if_true, he7, Option.bind_some]
    exact e
  · obtain ⟨c', t', q', now', e⟩ := j0 x1 x2 false i6 h6 x3 (wrap64 ((wrap64 (x1 + x4)) - 2)) x5 n l hi6 hl (fun h => by cases h)
    refine ⟨n, l, c', t', q', now', x2, Ev.bind hn ?_, hl⟩
    simp only [he1, he2, he3, he4, he5, hes, Option.bind_some]
    refine Ev.bind he6 ?_
    simp only [hg, if_false]
    exact e

theorem impl_within_eq (a lo hi : Int) : impl_within.f a lo hi = some (decide (lo ≤ a ∧ a ≤ hi)) := by
  unfold impl_within.f
  by_cases h : a ≥ lo
  · rw [if_pos h]; congr 1; simp [show lo ≤ a from h]
  · rw [if_neg h]; congr 1; simp [show ¬ lo ≤ a from h]

theorem impl_isTime_eq (a : Int) : impl_isTime.f a = some (decide (0 ≤ a ∧ a ≤ 100000)) := by
  unfold impl_isTime.f; rw [impl_within_eq, Option.bind_some]

theorem impl_isPrincipal_eq (a : Int) : impl_isPrincipal.f a = some (decide (0 ≤ a ∧ a < 6)) := by
  unfold impl_isPrincipal.f
  rw [impl_within_eq, Option.bind_some]
  congr 1
  exact decide_eq_decide.mpr (by omega)

theorem impl_authOk_eq (c t q : Int) : impl_authOk.f c t q = some (authB c t q) := by
  unfold impl_authOk.f authB
  simp only [impl_isPrincipal_eq, impl_isTime_eq, impl_within_eq, Option.bind_some]
  by_cases h1 : 0 ≤ c ∧ c < 6 <;> by_cases h2 : 0 ≤ t ∧ t ≤ 100000 <;> simp [h1, h2]

theorem indexA_ev (l : List S28) (c t q : Int) (hl : l.length ≤ 1073741824) : ∃ r : Int, Ev (fun k => impl_Auth_48.f k l c t q) r ∧ (r ≥ 0 ↔ (⟨c, t, q⟩ : S28) ∈ l) := by
  have loop : ∀ d i : Nat, i + d = l.length → ∃ r : Int, Ev (fun k => impl_Auth_48.l0 k l (l.length : Int) (i : Int) c t q) r ∧ (r ≥ 0 ↔ (⟨c, t, q⟩ : S28) ∈ l.drop i) := by
    intro d
    induction d with
    | zero =>
      intro i hi
      refine ⟨-1, Ev.step (f := fun _ => some (-1)) (fun k => ?_) (Ev.now _), ?_⟩
      · simp only [impl_Auth_48.l0]
        rw [if_neg (by omega)]
      · rw [List.drop_of_length_le (by omega)]; simp
    | succ d ih =>
      intro i hi
      have hlt : i < l.length := by omega
      have e2 : wrap64 ((i : Int) + 1) = ((i + 1 : Nat) : Int) := by rw [w64 (x := (i : Int) + 1) (by omega) (by omega)]; omega
      rw [List.drop_eq_getElem_cons hlt]
      by_cases h : l[i] = ⟨c, t, q⟩
      · refine ⟨i, Ev.step (f := fun _ => some (i : Int)) (fun k => ?_) (Ev.now _), ?_⟩
        · simp only [impl_Auth_48.l0]
          rw [if_pos (by omega), if_pos (by omega), if_pos (by omega), rdA_get _ _ hlt, if_pos ((sameA' _ _ _ _).2 h)]
        · exact ⟨fun _ => by rw [h]; exact List.mem_cons_self, fun _ => by omega⟩
      · obtain ⟨r, hr, hi2⟩ := ih (i + 1) (by omega)
        refine ⟨r, Ev.step (fun k => ?_) hr, ?_⟩
        · simp only [impl_Auth_48.l0]
          rw [if_pos (by omega), if_pos (by omega), if_pos (by omega), rdA_get _ _ hlt, if_neg (fun e => h ((sameA' _ _ _ _).1 e)), e2]
        · rw [hi2, List.mem_cons]; exact ⟨Or.inr, fun e => e.resolve_left (fun e => h e.symm)⟩
  have := loop l.length 0 (by omega)
  unfold impl_Auth_48.f
  simpa using this

theorem containsA_ev (l : List S28) (c t q : Int) (hl : l.length ≤ 1073741824) : Ev (fun k => impl_Auth_31.f k l c t q) (inA ⟨c, t, q⟩ l) := by
  obtain ⟨r, hr, h⟩ := indexA_ev l c t q hl
  unfold impl_Auth_31.f
  refine Ev.bind hr (ev_eq (Ev.now _) ?_)
  exact inA_iff (by rw [decide_eq_true_eq]; exact h)

theorem impl_CacheOk_ev (n : Int) (l : List S28) (hl : l.length ≤ 1048576) : Ev (fun k => impl_CacheOk.f k n l) (cacheB n l) := by
  have lp0 : ∀ d i : Nat, i + d = l.length → (∀ j, j < i → cgA l j) → Ev (fun k => impl_CacheOk.l0 k l (l.length : Int) (i : Int) n l) (cacheB n l) := by
    intro d
    induction d with
    | zero =>
      intro i hi hj
      refine Ev.step (f := fun _ => some (cacheB n l)) (fun k => ?_) (Ev.now _)
      simp only [impl_CacheOk.l0]
      rw [if_neg (by omega)]
      rw [impl_within_eq, Option.bind_some]
      by_cases h1 : -1 ≤ n ∧ n ≤ 200000
      · rw [decide_eq_true h1, if_pos rfl]
        by_cases h2 : (l.length : Int) ≤ 6
        · rw [decide_eq_true h2, cacheB_t ⟨⟨h1, by omega⟩, fun j h => hj j (by omega)⟩]
        · rw [decide_eq_false h2, cacheB_f (fun hp => h2 (by have := hp.1.2; omega))]
      · rw [decide_eq_false h1, if_neg (by decide), cacheB_f (fun hp => h1 hp.1.1)]
    | succ d ih =>
      intro i hi hj
      have hlt : i < l.length := by omega
      have e2 : wrap64 ((i : Int) + 1) = ((i + 1 : Nat) : Int) := by rw [w64 (x := (i : Int) + 1) (by omega) (by omega)]; omega
      have c1 : (i : Int) < (l.length : Int) := by omega
      have c2 : 0 ≤ (i : Int) := by omega
      have c3 : (i : Int) ≤ (l.length : Int) := by omega
      by_cases h1 : authB (rd_T28 l (i : Int)).f0 (rd_T28 l (i : Int)).f1 (rd_T28 l (i : Int)).f2 = true
      · refine Ev.step (f := fun k => (impl_Auth_31.f k (l.take i) (rd_T28 l (i : Int)).f0 (rd_T28 l (i : Int)).f1 (rd_T28 l (i : Int)).f2).bind fun t => (if t = true then some false else impl_CacheOk.l0 k l (l.length : Int) ((i + 1 : Nat) : Int) n l)) (fun k => ?_) (Ev.bind (containsA_ev _ _ _ _ (by rw [List.length_take]; omega)) ?_)
        · simp only [impl_CacheOk.l0]
          simp only [c1, c2, c3, if_true, e2, Int.toNat_natCast, impl_authOk_eq, Option.bind_some, h1]
        · by_cases h2 : rd_T28 l (i : Int) ∈ l.take i
          · rw [inA_t (x := ⟨(rd_T28 l (i : Int)).f0, (rd_T28 l (i : Int)).f1, (rd_T28 l (i : Int)).f2⟩) h2]
            simp only [if_true]
            exact ev_eq (Ev.now _) (cacheB_f (fun hp => (hp.2 i hlt).2 h2)).symm
          · rw [inA_f (x := ⟨(rd_T28 l (i : Int)).f0, (rd_T28 l (i : Int)).f1, (rd_T28 l (i : Int)).f2⟩) h2]
            simp only [Bool.false_eq_true, if_false]
            refine ih (i + 1) (by omega) (fun j h => ?_)
            by_cases hji : j = i
            · subst hji; exact ⟨h1, h2⟩
            · exact hj j (by omega)
      · refine Ev.step (f := fun _ => some false) (fun k => ?_) (ev_eq (Ev.now _) (cacheB_f (fun hp => h1 (hp.2 i hlt).1)).symm)
        simp only [impl_CacheOk.l0]
        simp only [c1, c2, c3, if_true, impl_authOk_eq, Option.bind_some, h1, Bool.false_eq_true, if_false]
  unfold impl_CacheOk.f
  exact lp0 l.length 0 (by omega) (fun j h => by omega)


theorem impl_copyCache_eq (n : Int) (l : List S28) (hl : l.length ≤ 1073741824) : impl_copyCache.f n l = some (n, l) := by
  unfold impl_copyCache.f
  rw [if_pos (by simp only [List.length_nil]; omega), List.nil_append]

theorem impl_isSkew_eq (a : Int) : impl_isSkew.f a = some (decide (0 ≤ a ∧ a ≤ 20)) := by
  unfold impl_isSkew.f; rw [impl_within_eq, Option.bind_some]

theorem impl_apart_eq (a b : Int) (ha : 0 ≤ a ∧ a ≤ 100000) (hb : 0 ≤ b ∧ b ≤ 100000) : ∃ d, impl_apart.f a b = some d ∧ ∀ s : Int, d > s ↔ (s < a - b ∨ s < b - a) := by
  refine ⟨_, rfl, fun s => ?_⟩
  rw [w64 (x := a - b) (by omega) (by omega), w64 (x := b - a) (by omega) (by omega)]
  unfold mx
  split <;> omega

theorem impl_CacheTry_ev (n : Int) (l : List S28) (c t q now skew : Int) (hl : l.length ≤ 1048576) : Ev (fun k => impl_CacheTry.f k n l c t q now skew) (tryS n l c t q now skew) := by
  have dead : ∀ (x : List S28) (b : Bool), b = true → Ev (fun k => impl_CacheTry.j1 k now skew x b n l c t q n l) (n, l, 1) := by
    intro x b hb
    subst hb
    refine Ev.step (f := fun _ => some (n, l, 1)) (fun k => ?_) (Ev.now _)
    simp only [impl_CacheTry.j1, if_true]
  have loop : cacheB n l = true → ∀ d i : Nat, i + d = l.length → Ev (fun k => impl_CacheTry.l0 k now skew (leftA (wrap64 (now - skew)) (l.take i)) l (l.length : Int) (i : Int) n l c t q n l)
      (if @decide (tickP c t q now skew) (Classical.propDecidable _) = true then
      (if decide (skew < now - t ∨ skew < t - now) = true then (n, l, 2)
       else if now ≤ n then (n, l, 3)
       else if inA ⟨c, t, q⟩ l = true then (n, l, 4)
       else if 6 ≤ ((leftA (now - skew) l).length : Int) then (n, l, 5)
       else (n, leftA (now - skew) l ++ [⟨c, t, q⟩], 0))
     else (n, l, 1)) := by
    intro h0 d
    induction d with
    | zero =>
      intro i hi
      have e : l.take i = l := List.take_of_length_le (by omega)
      rw [e]
      refine Ev.step (f := fun k => (impl_authOk.f c t q).bind fun t144 => (if t144 = true then ((impl_isTime.f now).bind fun t145 => (if t145 = true then ((impl_isSkew.f skew).bind fun t146 => (impl_CacheTry.j1 k now skew (leftA (wrap64 (now - skew)) l) (!t146) n l c t q n l)) else (impl_CacheTry.j1 k now skew (leftA (wrap64 (now - skew)) l) true n l c t q n l))) else (impl_CacheTry.j1 k now skew (leftA (wrap64 (now - skew)) l) true n l c t q n l))) (fun k => ?_) ?_
      · simp only [impl_CacheTry.l0]
        rw [if_neg (by omega)]
      · simp only [impl_authOk_eq, impl_isTime_eq, impl_isSkew_eq, Option.bind_some]
        by_cases ha : authB c t q = true
        · simp only [ha, if_true]
          by_cases hn : 0 ≤ now ∧ now ≤ 100000
          · rw [decide_eq_true hn]
            simp only [if_true]
            by_cases hs : 0 ≤ skew ∧ skew ≤ 20
            · rw [decide_eq_true hs, @decide_eq_true (tickP c t q now skew) (Classical.propDecidable _) ⟨ha, hn, hs⟩, w64 (x := now - skew) (by omega) (by omega)]
              simp only [if_true, Bool.not_true]
              have hb := (authB_out ha).2.1
              obtain ⟨ap, hap, hap2⟩ := impl_apart_eq now t hn hb
              have hlen := leftA_len (now - skew) l
              have h6 := (cacheB_out h0).1.2
              refine Ev.step (f := fun k => (if ap > skew then some (n, l, 2) else (if now ≤ n then some (n, l, 3) else ((impl_Auth_31.f k l c t q).bind fun t148 => (if t148 = true then (some (n, l, 4)) else (if ((leftA (now - skew) l).length : Int) = 6 then some (n, l, 5) else some (n, leftA (now - skew) l ++ [⟨c, t, q⟩], 0))))))) (fun k => ?_) ?_
              · simp only [impl_CacheTry.j1]
                rw [if_neg (by decide), hap, Option.bind_some, if_pos (show (leftA (now - skew) l).length < 5864062014805 by omega)]
              · by_cases g1 : skew < now - t ∨ skew < t - now
                · rw [decide_eq_true g1]
                  simp only [(hap2 skew).2 g1, if_true]; exact Ev.now _
                · have g1' : ¬ (ap > skew) := fun h => g1 ((hap2 skew).1 h)
                  rw [decide_eq_false g1]
                  simp only [g1', if_false, Bool.false_eq_true]
                  by_cases g2 : now ≤ n
                  · simp only [g2, if_true]; exact Ev.now _
                  · simp only [g2, if_false]
                    refine Ev.bind (containsA_ev l c t q (by omega)) ?_
                    by_cases g3 : inA ⟨c, t, q⟩ l = true
                    · simp only [g3, if_true]; exact Ev.now _
                    · simp only [g3, if_false, Bool.false_eq_true]
                      by_cases g4 : 6 ≤ ((leftA (now - skew) l).length : Int)
                      · have g5 : ((leftA (now - skew) l).length : Int) = 6 := by omega
                        rw [if_pos g4]
                        simp only [g5, if_true]; exact Ev.now _
                      · have g5 : ¬ ((leftA (now - skew) l).length : Int) = 6 := by omega
                        rw [if_neg g4]
                        simp only [g5, if_false]; exact Ev.now _
            · rw [decide_eq_false hs, @decide_eq_false (tickP c t q now skew) (Classical.propDecidable _) (fun h => hs h.2.2)]
              simp only [Bool.not_false, Bool.false_eq_true, if_false]
              exact dead _ _ rfl
          · rw [decide_eq_false hn, @decide_eq_false (tickP c t q now skew) (Classical.propDecidable _) (fun h => hn h.2.1)]
            simp only [Bool.false_eq_true, if_false]
            exact dead _ _ rfl
        · rw [@decide_eq_false (tickP c t q now skew) (Classical.propDecidable _) (fun h => ha h.1)]
          simp only [ha, Bool.false_eq_true, if_false]
          exact dead _ _ rfl
    | succ d ih =>
      intro i hi
      have hlt : i < l.length := by omega
      have hlen := leftA_len (wrap64 (now - skew)) (l.take i)
      have htl : (l.take i).length ≤ 1048576 := by rw [List.length_take]; omega
      have e2 : wrap64 ((i : Int) + 1) = ((i + 1 : Nat) : Int) := by rw [w64 (x := (i : Int) + 1) (by omega) (by omega)]; omega
      refine Ev.step (fun k => ?_) (ih (i + 1) (by omega))
      simp only [impl_CacheTry.l0]
      have c1 : (i : Int) < (l.length : Int) := by omega
      have c2 : 0 ≤ (i : Int) := by omega
      have c5 : (leftA (wrap64 (now - skew)) (l.take i)).length < 5864062014805 := by omega
      rw [if_pos c1, if_pos c2, if_pos c1, rdA_get _ _ hlt, e2]
      by_cases h : wrap64 (now - skew) ≤ l[i].f1
      · rw [if_pos h, if_pos c5, leftA_snoc_t _ _ _ hlt h]
      · rw [if_neg h, leftA_snoc_f _ _ _ hlt h]
  unfold impl_CacheTry.f tryS
  refine Ev.bind (impl_CacheOk_ev n l hl) ?_
  by_cases h0 : cacheB n l = true
  · simp only [h0, if_true, impl_copyCache_eq n l (by omega), Option.bind_some]
    exact loop h0 l.length 0 (by omega)
  · simp only [h0, Bool.false_eq_true, if_false]
    exact Ev.now _

theorem impl_Restart_eq (now skew : Int) : impl_Restart.f now skew = some (restartC now skew, []) := by
  unfold impl_Restart.f restartC
  simp only [impl_isTime_eq, impl_isSkew_eq, Option.bind_some]
  by_cases h1 : 0 ≤ now ∧ now ≤ 100000
  · by_cases h2 : 0 ≤ skew ∧ skew ≤ 20
    · rw [decide_eq_true h1, decide_eq_true h2, if_pos rfl, if_pos rfl, if_pos ⟨h1.1, h1.2, h2.1, h2.2⟩, w64 (x := 2 * skew) (by omega) (by omega), w64 (by omega) (by omega)]
    · rw [decide_eq_true h1, decide_eq_false h2, if_pos rfl, if_neg (by decide), if_neg (fun e => h2 ⟨e.2.2.1, e.2.2.2⟩)]; rfl
  · rw [decide_eq_false h1, if_neg (by decide), if_neg (fun e => h1 ⟨e.1, e.2.1⟩)]; rfl

theorem laws_at_ok (l : List Int) (i : Int) (hl : l.length ≤ 1048576) (hw : ∀ x ∈ l, (Lit.int .u8 x).wf = true) (h0 : 0 ≤ i) (h1 : i ≤ 1000000) : ∃ x : Int, laws_at.f l i = some x ∧ 0 ≤ x ∧ x ≤ 255 := by
  unfold laws_at.f
  by_cases h : i < (l.length : Int)
  · rw [if_pos h, if_pos h0]
    have hb : 0 ≤ rd l i ∧ rd l i ≤ 255 := by
      obtain ⟨j, rfl⟩ := Int.eq_ofNat_of_zero_le h0
      have hj : j < l.length := by omega
      have e : rd l (j : Int) = l[j] := by
        unfold rd
        rw [Int.toNat_natCast, List.getD_eq_getElem?_getD, List.getElem?_eq_getElem hj]; rfl
      rw [e]
      have := hw _ (List.getElem_mem hj)
      simp only [Lit.wf, Bool.and_eq_true, decide_eq_true_eq] at this
      exact this
    refine ⟨_, rfl, ?_, ?_⟩ <;> rw [w64 (by omega) (by omega)] <;> omega
  · rw [if_neg h, w64 (x := i * 37) (by omega) (by omega), w64 (x := (l.length : Int) * 11) (by omega) (by omega), w64 (by omega) (by omega)]
    refine ⟨_, rfl, Int.tmod_nonneg _ (by omega), ?_⟩
    have := Int.tmod_lt_of_pos (i * 37 + (l.length : Int) * 11) (show (0 : Int) < 256 by decide)
    omega

theorem FnCache : ∀ (l0 : List Int), l0.length ≤ maxLen → l0.length * 1 ≤ 140737488351232 → (∀ a ∈ l0, (Lit.int .u8 a).wf = true) → ∃ k, laws_FnCache.f k l0 = some true := by
  intro b hm hb hw
  apply Ev.rounds
  unfold laws_FnCache.f
  simp only [laws_big_eq, Option.bind_some]
  by_cases hbig : (b.length : Int) > 1048576
  · simp only [hbig, decide_true, if_true]; exact Ev.now _
  · simp only [hbig, decide_false, Bool.false_eq_true, if_false]
    obtain ⟨n, l, c, t, q, now, skew, hd, hl⟩ := spec_DrawCacheTry_ok b (by omega)
    refine Ev.bind hd (Ev.bind (impl_CacheTry_ev n l c t q now skew (by omega)) (Ev.bind (spec_CacheTry_ev n l c t q now skew (by omega)) ?_))
    simp only [if_true]
    refine Ev.bind (spec_CacheOk_ev n l (by omega)) ?_
    by_cases hc : cacheB n l = true
    · simp only [hc, if_true]
      rcases tryS_cases n l c t q now skew hc with ⟨k0, e, hk⟩ | ⟨e, hp, g1, g2, hn, hl6⟩
      · rw [e]
        simp only [hk, if_false, if_true, beq_self_eq_true]
        exact Ev.now _
      · rw [e]
        simp only [if_true, impl_Restart_eq, Option.bind_some]
        have hx0 := cacheB_add hc hp hn hl6
        have hr : restartC now skew = now + 2 * skew := by
          unfold restartC
          rw [if_pos ⟨hp.2.1.1, hp.2.1.2, hp.2.2.1, hp.2.2.2⟩]
        have hn0 := hp.2.1
        have hs0 := hp.2.2
        have hrq : cacheB (restartC now skew) [] = true := cacheB_nil (by rw [hr]; omega)
        have loop : ∀ (d i : Nat) (x y : List S28), i + d = 50 → cacheB n x = true → cacheB (restartC now skew) y = true → ((⟨c, t, q⟩ : S28) ∈ x ∨ t < now + i - skew) →
            Ev (fun k => laws_FnCache.l0 k b now skew (i : Int) c t q n x (restartC now skew) y) true := by
          intro d
          induction d with
          | zero =>
            intro i x y hi hx hy hin
            have hxl : x.length ≤ 1048576 := by have := (cacheB_out hx).1.2; omega
            refine Ev.step (f := fun k => (spec_CacheOk.f k n x).bind fun t430 => (some t430)) (fun k => ?_) (Ev.bind (spec_CacheOk_ev n x hxl) (by rw [hx]; exact Ev.now _))
            simp only [laws_FnCache.l0]
            rw [if_neg (by omega)]
          | succ d ih =>
            intro i x y hi hx hy hin
            have ew : Aside0 (wrap64 (now + (i : Int)) = now + (i : Int)) := ⟨w64 (by omega) (by omega)⟩
            have e2 : Aside0 (wrap64 ((i : Int) + 1) = ((i + 1 : Nat) : Int)) := ⟨by rw [w64 (x := (i : Int) + 1) (by omega) (by omega)]; omega⟩
            have e3 : Aside0 (wrap64 ((i : Int) + 2) = ((i + 2 : Nat) : Int)) := ⟨by rw [w64 (x := (i : Int) + 2) (by omega) (by omega)]; omega⟩
            obtain ⟨t1, ht1, _, _⟩ := laws_at_ok b (i : Int) (by omega) hw (by omega) (by omega)
            obtain ⟨t2, ht2, _, _⟩ := laws_at_ok b ((i + 1 : Nat) : Int) (by omega) hw (by omega) (by omega)
            obtain ⟨t3, ht3, _, _⟩ := laws_at_ok b ((i + 2 : Nat) : Int) (by omega) hw (by omega) (by omega)
            have tail : ∀ (x y : List S28), cacheB n x = true → cacheB (restartC now skew) y = true → ((⟨c, t, q⟩ : S28) ∈ x ∨ t < now + i - skew) → Ev (fun k => laws_FnCache.j1 k b now skew (i : Int) c t q n x (restartC now skew) y) true := by
              intro x y hx hy hin
              have hxl : x.length ≤ 1048576 := by have := (cacheB_out hx).1.2; omega
              have hyl : y.length ≤ 1048576 := by have := (cacheB_out hy).1.2; omega
              obtain ⟨k1, n1, z1⟩ := tryS_no n x c t q (now + i) skew hx (hin.imp id Or.inl)
              obtain ⟨k2, n2, z2⟩ := tryS_no (restartC now skew) y c t q (now + i) skew hy (by rw [hr]; omega)
              refine Ev.step (f := fun k => (impl_CacheTry.f k n x c t q (now + i) skew).bind fun bt445 => ((impl_CacheTry.f k (restartC now skew) y c t q (now + i) skew).bind fun bt451 => (if bt445.2.2 = 0 then (some false) else (if bt451.2.2 = 0 then (some false) else (laws_FnCache.l0 k b now skew ((i + 1 : Nat) : Int) c t q n x (restartC now skew) y))))) (fun k => ?_) (Ev.bind (impl_CacheTry_ev n x c t q (now + i) skew hxl) (Ev.bind (impl_CacheTry_ev (restartC now skew) y c t q (now + i) skew hyl) ?_))
              · simp only [laws_FnCache.j1, ew.out, e2.out]
              · rw [n1, n2]
                simp only [z1, z2, if_false]
                refine ih (i + 1) x y (by omega) hx hy ?_
                rcases hin with h | h
                · exact .inl h
                · exact .inr (by omega)
            have hxl : x.length ≤ 1048576 := by have := (cacheB_out hx).1.2; omega
            have hyl : y.length ≤ 1048576 := by have := (cacheB_out hy).1.2; omega
            obtain ⟨w, hw0⟩ : ∃ w : Bool, w = (!((Int.tmod t1 6) == c) || (!((wrap64 ((now + i) - (Int.tmod t2 5))) == t) || (!(t3 == q)))) := ⟨_, rfl⟩
            cases w with
            | false =>
              refine Ev.step (fun k => ?_) (tail x y hx hy hin)
              simp only [laws_FnCache.l0]
              rw [if_pos (by omega), ht1, Option.bind_some, e2.out, ht2, Option.bind_some, e3.out, ht3, Option.bind_some, ew.out, ← hw0, if_neg (by decide)]
            | true =>
              obtain ⟨x', kx, ex, hx', hkx⟩ := tryS_keeps n x (Int.tmod t1 6) (wrap64 ((now + i) - (Int.tmod t2 5))) t3 (now + i) skew hx
              obtain ⟨y', ky, ey, hy', _⟩ := tryS_keeps (restartC now skew) y (Int.tmod t1 6) (wrap64 ((now + i) - (Int.tmod t2 5))) t3 (now + i) skew hy
              refine Ev.step (f := fun k => (impl_CacheTry.f k n x (Int.tmod t1 6) (wrap64 ((now + i) - (Int.tmod t2 5))) t3 (now + i) skew).bind fun bt435 => ((impl_CacheTry.f k (restartC now skew) y (Int.tmod t1 6) (wrap64 ((now + i) - (Int.tmod t2 5))) t3 (now + i) skew).bind fun bt440 => (laws_FnCache.j1 k b now skew (i : Int) c t q bt435.1 bt435.2.1 bt440.1 bt440.2.1))) (fun k => ?_) (Ev.bind (impl_CacheTry_ev n x _ _ _ (now + i) skew hxl) (Ev.bind (impl_CacheTry_ev (restartC now skew) y _ _ _ (now + i) skew hyl) ?_))
              · simp only [laws_FnCache.l0]
                rw [if_pos (by omega), ht1, Option.bind_some, e2.out, ht2, Option.bind_some, e3.out, ht3, Option.bind_some, ew.out, ← hw0, if_pos rfl]
              · rw [ex, ey]
                refine tail x' y' hx' hy' ?_
                rcases hin with h | h
                · rcases hkx _ h with h2 | h2
                  · exact .inl h2
                  · exact .inr h2
                · exact .inr h
        exact loop 50 0 _ [] (by omega) hx0 hrq (.inl (by simp))
    · simp only [hc, Bool.false_eq_true, if_false]
      have e : tryS n l c t q now skew = (0, [], 1) := by unfold tryS; rw [if_neg hc]
      rw [e]
      simp
      exact Ev.now _

end Go.Proofs.Ytnpbafgnfdadhaa.Pure
