/- The program's CacheOk returns what the reference's returns, for all arguments. -/
import Derived.Test.YtheehldpcdfpmaaPFnExactCacheOkx6
import Derived.Test.YtheehldpcdfpmaaBase
import Derived.Test.YtheehldpcdfpmaaTerms
import Derived.Test.YtheehldpcdfpmaaRounds
import Derived.Test.YtheehldpcdfpmaaRests
import Derived.Test.YtheehldpcdfpmaaBaseTick
namespace Go.Proofs.Ytheehldpcdfpmaa.Pure
open Go.RowKit Go.Proofs.Ytheehldpcdfpmaa.PFnExactCacheOk Go.Proofs.YtheehldpcdfpmaaW.PrintWords Go.Proofs.YtheehldpcdfpmaaW.PrintLast Go.Proofs.YtheehldpcdfpmaaW.PrintMore Go.Proofs.Ytheehldpcdfpmaa.Base
set_option linter.unusedVariables false
set_option linter.unusedSimpArgs false
theorem laws_eqAuth_self (a b c : Int) : laws_eqAuth.f a b c a b c = some true := by simp [laws_eqAuth.f]

theorem laws_eqAuthS_self (l : List S79) (hl : l.length ≤ 1073741824) : Ev (fun k => laws_eqAuthS.f k l l) true := by
  have loop : ∀ d i : Nat, i + d = l.length → Ev (fun k => laws_eqAuthS.l0 k l l (i : Int)) true := by
    intro d
    induction d with
    | zero =>
      intro i hi
      refine Ev.step (f := fun _ => some true) (fun k => ?_) (Ev.now _)
      simp only [laws_eqAuthS.l0]
      rw [if_neg (by omega)]
    | succ d ih =>
      intro i hi
      refine Ev.step (fun k => ?_) (ih (i + 1) (by omega))
      simp only [laws_eqAuthS.l0]
      rw [if_pos (by omega), if_pos (by omega), if_pos (by omega), laws_eqAuth_self, Option.bind_some, if_pos rfl, w64 (by omega) (by omega)]
      rfl
  unfold laws_eqAuthS.f
  simp only [if_true]
  exact loop l.length 0 (by omega)

theorem laws_eqCache_self (q : Int) (l : List S79) (hl : l.length ≤ 1073741824) : Ev (fun k => laws_eqCache.f k q l q l) true := by
  unfold laws_eqCache.f
  simp only [if_true]
  refine Ev.bind (laws_eqAuthS_self l hl) ?_
  simp only [if_true]
  exact Ev.now _

theorem laws_szAuthS_eq (l : List S92) (a : Int) (ha0 : 0 ≤ a) (ha : a ≤ 1048576) (hl : l.length ≤ maxLen) : ∃ r, laws_szAuthS.f l a = some r ∧ r ≤ a ∧ (¬ r < 0 → (l.length : Int) ≤ a) := by
  have hl' : l.length ≤ 9223372036854775807 := hl
  have e : wrap64 (a - (l.length : Int)) = a - (l.length : Int) := w64 (by omega) (by omega)
  unfold laws_szAuthS.f
  by_cases h : a - (l.length : Int) < 0
  · exact ⟨-1, by rw [e, if_pos h], by omega, fun hh => absurd (by decide) hh⟩
  · exact ⟨a - (l.length : Int), by rw [e, if_neg h], by omega, fun _ => by omega⟩

theorem laws_szCache_eq (n : Int) (l : List S92) (a : Int) (ha0 : 0 ≤ a) (ha : a ≤ 1048576) (hl : l.length ≤ maxLen) : ∃ r, laws_szCache.f n l a = some r ∧ r ≤ a ∧ (¬ r < 0 → (l.length : Int) ≤ a) := by
  obtain ⟨r, e, h1, h2⟩ := laws_szAuthS_eq l a ha0 ha hl
  unfold laws_szCache.f
  rw [e, Option.bind_some]
  by_cases h : r < 0
  · exact ⟨-1, by rw [if_pos h], by omega, fun hh => absurd (by decide) hh⟩
  · exact ⟨r, by rw [if_neg h], h1, h2⟩

theorem spec_l1In_eq (a lo hi : Int) : spec_l1In.f a lo hi = some (decide (lo ≤ a ∧ a ≤ hi)) := by
  unfold spec_l1In.f
  by_cases h : a ≥ lo
  · rw [if_pos h]; congr 1; simp [show lo ≤ a from h]
  · rw [if_neg h]; congr 1; simp [show ¬ lo ≤ a from h]

theorem spec_l5Principal_eq (a : Int) : spec_l5Principal.f a = some (decide (0 ≤ a ∧ a < 6)) := by
  unfold spec_l5Principal.f
  by_cases h : a ≥ 0
  · rw [if_pos h]; congr 1; simp [show 0 ≤ a from h]
  · rw [if_neg h]; congr 1; simp [show ¬ 0 ≤ a from h]

theorem spec_l5AuthOk_eq (c t q : Int) : spec_l5AuthOk.f c t q = some (authB c t q) := by
  unfold spec_l5AuthOk.f authB
  simp only [spec_l5Principal_eq, spec_l1In_eq, Option.bind_some]
  by_cases h1 : 0 ≤ c ∧ c < 6 <;> by_cases h2 : 0 ≤ t ∧ t ≤ 100000 <;> simp [h1, h2]

noncomputable def inA (x : S79) (l : List S79) : Bool := @decide (x ∈ l) (Classical.propDecidable _)
theorem inA_t {x : S79} {l : List S79} (h : x ∈ l) : inA x l = true := @decide_eq_true _ (Classical.propDecidable _) h
theorem inA_f {x : S79} {l : List S79} (h : ¬ x ∈ l) : inA x l = false := @decide_eq_false _ (Classical.propDecidable _) h
theorem inA_nil (x : S79) : inA x [] = false := inA_f (by simp)
theorem inA_eq {s x : S79} {l : List S79} (h : x = s) : inA s (x :: l) = true := inA_t (by simp [h])
theorem inA_ne {s x : S79} {l : List S79} (h : ¬ x = s) : inA s (x :: l) = inA s l := by
  have : ¬ s = x := fun e => h e.symm
  by_cases hs : s ∈ l
  · rw [inA_t hs, inA_t (List.mem_cons_of_mem _ hs)]
  · rw [inA_f hs, inA_f (by simp [hs, this])]
theorem inA_iff {s : S79} {l : List S79} {b : Bool} (h : b = true ↔ s ∈ l) : b = inA s l := by
  by_cases hs : s ∈ l
  · rw [inA_t hs, h.2 hs]
  · rw [inA_f hs]; cases b with
    | true => exact absurd (h.1 rfl) hs
    | false => rfl
theorem sameA (x : S79) (c t q : Int) : ((x.f0 == c) && ((x.f1 == t) && (x.f2 == q))) = true ↔ x = ⟨c, t, q⟩ := by
  obtain ⟨a, b, d⟩ := x
  simp
theorem sameA' (x : S79) (c t q : Int) : ((c == x.f0) && ((t == x.f1) && (q == x.f2))) = true ↔ x = ⟨c, t, q⟩ := by
  obtain ⟨a, b, d⟩ := x
  simp only [Bool.and_eq_true, beq_iff_eq]
  constructor
  · rintro ⟨rfl, rfl, rfl⟩; rfl
  · intro h; cases h; exact ⟨rfl, rfl, rfl⟩
theorem rdA_get (l : List S79) (i : Nat) (h : i < l.length) : rd_T79 l (i : Int) = l[i] := by
  unfold rd_T79
  rw [Int.toNat_natCast, List.getD_eq_getElem?_getD, List.getElem?_eq_getElem h]; rfl
def cgA (l : List S79) (i : Nat) : Prop := authB (rd_T79 l (i : Int)).f0 (rd_T79 l (i : Int)).f1 (rd_T79 l (i : Int)).f2 = true ∧ ¬ (rd_T79 l (i : Int) ∈ l.take i)
def cacheP (n : Int) (l : List S79) : Prop := ((-1 ≤ n ∧ n ≤ 200000) ∧ l.length ≤ 6) ∧ (∀ i, i < l.length → cgA l i)
noncomputable def cacheB (n : Int) (l : List S79) : Bool := @decide (cacheP n l) (Classical.propDecidable _)
theorem cacheB_t {n : Int} {l : List S79} (h : cacheP n l) : cacheB n l = true := @decide_eq_true _ (Classical.propDecidable _) h
theorem cacheB_f {n : Int} {l : List S79} (h : ¬ cacheP n l) : cacheB n l = false := @decide_eq_false _ (Classical.propDecidable _) h

theorem spec_l7Saw_ev (l : List S79) (c t q : Int) (hl : l.length ≤ 1073741824) : Ev (fun k => spec_l7Saw.f k l c t q) (inA ⟨c, t, q⟩ l) := by
  have loop : ∀ d i : Nat, i + d = l.length → Ev (fun k => spec_l7Saw.l0 k l (i : Int) c t q) (inA ⟨c, t, q⟩ (l.drop i)) := by
    intro d
    induction d with
    | zero =>
      intro i hi
      refine Ev.step (f := fun _ => some false) (fun k => ?_) (ev_eq (Ev.now _) ?_)
      · simp only [spec_l7Saw.l0]
        rw [if_neg (by omega)]
      · rw [List.drop_of_length_le (by omega), inA_nil]
    | succ d ih =>
      intro i hi
      have hlt : i < l.length := by omega
      have e2 : wrap64 ((i : Int) + 1) = ((i + 1 : Nat) : Int) := by rw [w64 (x := (i : Int) + 1) (by omega) (by omega)]; omega
      rw [List.drop_eq_getElem_cons hlt]
      by_cases h : l[i] = ⟨c, t, q⟩
      · refine Ev.step (f := fun _ => some true) (fun k => ?_) (ev_eq (Ev.now _) (inA_eq h).symm)
        simp only [spec_l7Saw.l0]
        rw [if_pos (by omega), if_pos (by omega), rdA_get _ _ hlt, if_pos ((sameA _ _ _ _).2 h)]
      · refine Ev.step (fun k => ?_) (ev_eq (ih (i + 1) (by omega)) (inA_ne h).symm)
        simp only [spec_l7Saw.l0]
        rw [if_pos (by omega), if_pos (by omega), rdA_get _ _ hlt, if_neg (fun e => h ((sameA _ _ _ _).1 e)), e2]
  have := loop l.length 0 (by omega)
  unfold spec_l7Saw.f
  simpa using this

theorem spec_CacheOk_ev (n : Int) (l : List S79) (hl : l.length ≤ 1048576) : Ev (fun k => spec_CacheOk.f k n l) (cacheB n l) := by
  have lp0 : ((-1 ≤ n ∧ n ≤ 200000) ∧ l.length ≤ 6) → ∀ d i : Nat, i + d = l.length → (∀ j, j < i → cgA l j) → Ev (fun k => spec_CacheOk.l0 k (i : Int) n l) (cacheB n l) := by
    intro hl6 d
    induction d with
    | zero =>
      intro i hi hj
      refine Ev.step (f := fun _ => some (cacheB n l)) (fun k => ?_) (Ev.now _)
      simp only [spec_CacheOk.l0]
      rw [if_neg (by omega)]
      rw [cacheB_t ⟨hl6, fun j h => hj j (by omega)⟩]
    | succ d ih =>
      intro i hi hj
      have hlt : i < l.length := by omega
      have e2 : wrap64 ((i : Int) + 1) = ((i + 1 : Nat) : Int) := by rw [w64 (x := (i : Int) + 1) (by omega) (by omega)]; omega
      have c1 : (i : Int) < (l.length : Int) := by omega
      have c2 : 0 ≤ (i : Int) := by omega
      have c3 : (i : Int) ≤ (l.length : Int) := by omega
      by_cases h1 : authB (rd_T79 l (i : Int)).f0 (rd_T79 l (i : Int)).f1 (rd_T79 l (i : Int)).f2 = true
      · refine Ev.step (f := fun k => (spec_l7Saw.f k (l.take i) (rd_T79 l (i : Int)).f0 (rd_T79 l (i : Int)).f1 (rd_T79 l (i : Int)).f2).bind fun t => (if t = true then some false else spec_CacheOk.l0 k ((i + 1 : Nat) : Int) n l)) (fun k => ?_) (Ev.bind (spec_l7Saw_ev _ _ _ _ (by rw [List.length_take]; omega)) ?_)
        · simp only [spec_CacheOk.l0]
          simp only [c1, c2, c3, if_true, e2, Int.toNat_natCast, spec_l5AuthOk_eq, Option.bind_some, h1]
        · by_cases h2 : rd_T79 l (i : Int) ∈ l.take i
          · rw [inA_t (x := ⟨(rd_T79 l (i : Int)).f0, (rd_T79 l (i : Int)).f1, (rd_T79 l (i : Int)).f2⟩) h2]
            simp only [if_true]
            exact ev_eq (Ev.now _) (cacheB_f (fun hp => (hp.2 i hlt).2 h2)).symm
          · rw [inA_f (x := ⟨(rd_T79 l (i : Int)).f0, (rd_T79 l (i : Int)).f1, (rd_T79 l (i : Int)).f2⟩) h2]
            simp only [Bool.false_eq_true, if_false]
            refine ih (i + 1) (by omega) (fun j h => ?_)
            by_cases hji : j = i
            · subst hji; exact ⟨h1, h2⟩
            · exact hj j (by omega)
      · refine Ev.step (f := fun _ => some false) (fun k => ?_) (ev_eq (Ev.now _) (cacheB_f (fun hp => h1 (hp.2 i hlt).1)).symm)
        simp only [spec_CacheOk.l0]
        simp only [c1, c2, c3, if_true, spec_l5AuthOk_eq, Option.bind_some, h1, Bool.false_eq_true, if_false]
  have dead : ¬ ((-1 ≤ n ∧ n ≤ 200000) ∧ l.length ≤ 6) → Ev (fun k => spec_CacheOk.j0 k true n l) (cacheB n l) := by
    intro h
    refine Ev.step (f := fun _ => some false) (fun k => ?_) (ev_eq (Ev.now _) (cacheB_f (fun hp => h hp.1)).symm)
    simp [spec_CacheOk.j0]
  unfold spec_CacheOk.f
  by_cases h1 : -1 ≤ n ∧ n ≤ 200000
  · by_cases h2 : (l.length : Int) > 6
    · simp only [spec_l1In_eq, Option.bind_some, h1, h2, and_self, decide_true, if_true]
      exact dead (by omega)
    · simp only [spec_l1In_eq, Option.bind_some, h1, h2, and_self, decide_true, decide_false, if_true]
      refine Ev.step (fun k => ?_) (lp0 ⟨h1, by omega⟩ l.length 0 (by omega) (fun j h => by omega))
      simp only [spec_CacheOk.j0]
      rw [if_neg (by decide)]
      rfl
  · simp only [spec_l1In_eq, Option.bind_some, h1, decide_false, Bool.false_eq_true, if_false]
    exact dead (fun h => h1 h.1)


def toA (l : List S92) : List S79 := l.map fun x => ⟨x.f0, x.f1, x.f2⟩
theorem toA_len (l : List S92) : (toA l).length = l.length := by simp [toA]
theorem rdB_get (l : List S92) (i : Nat) (h : i < l.length) : rd_T92 l (i : Int) = l[i] := by
  unfold rd_T92
  rw [Int.toNat_natCast, List.getD_eq_getElem?_getD, List.getElem?_eq_getElem h]; rfl
theorem laws_toAuthS_ev (l : List S92) (hl : l.length ≤ 1048576) : Ev (fun k => laws_toAuthS.f k l) (toA l) := by
  have loop : ∀ (d i : Nat) (rest : List S79), i + d = l.length → rest.length = d → Ev (fun k => laws_toAuthS.l0 k l ((toA l).take i ++ rest) (i : Int)) (toA l) := by
    intro d
    induction d with
    | zero =>
      intro i rest hi hr
      have : rest = [] := List.eq_nil_of_length_eq_zero hr
      subst this
      refine Ev.step (f := fun _ => some (toA l)) (fun k => ?_) (Ev.now _)
      simp only [laws_toAuthS.l0]
      rw [if_neg (by omega), List.take_of_length_le (by rw [toA_len]; omega), List.append_nil]
    | succ d ih =>
      intro i rest hi hr
      match rest, hr with
      | x :: rest, hr =>
        have hlt : i < l.length := by omega
        have hlt' : i < (toA l).length := by rw [toA_len]; omega
        have hti : ((toA l).take i).length = i := by rw [List.length_take, toA_len]; omega
        have hge : (toA l)[i] = ⟨l[i].f0, l[i].f1, l[i].f2⟩ := by simp [toA]
        have hr' := ih (i + 1) rest (by omega) (by simpa using hr)
        rw [List.take_succ_eq_append_getElem hlt', List.append_assoc] at hr'
        refine Ev.step (fun k => ?_) hr'
        simp only [laws_toAuthS.l0, laws_toAuth.f, Option.bind_some]
        rw [if_pos (by omega), if_pos (by omega), if_pos (by rw [List.length_append, hti, List.length_cons]; omega), w64 (by omega) (by omega), rdB_get l i hlt, Int.toNat_natCast]
        rw [List.set_append_right _ _ (by omega), hti, Nat.sub_self, List.set_cons_zero, hge]
        rfl
  unfold laws_toAuthS.f
  have a1 : 0 ≤ (l.length : Int) := by omega
  have a2 : l.length ≤ 11728124029610 := by omega
  simp only [a1, a2, if_true, Int.toNat_natCast]
  exact loop l.length 0 (List.replicate l.length z79) (by omega) (by simp)

theorem laws_toCache_ev (n : Int) (l : List S92) (hl : l.length ≤ 1048576) : Ev (fun k => laws_toCache.f k n l) (n, toA l) := by
  unfold laws_toCache.f
  exact Ev.bind (laws_toAuthS_ev l hl) (Ev.now _)

theorem impl_within_eq (a lo hi : Int) : impl_within.f a lo hi = some (decide (lo ≤ a ∧ a ≤ hi)) := by
  unfold impl_within.f
  by_cases h : a ≥ lo
  · rw [if_pos h]; congr 1; simp [show lo ≤ a from h]
  · rw [if_neg h]; congr 1; simp [show ¬ lo ≤ a from h]

theorem impl_isPrincipal_eq (a : Int) : impl_isPrincipal.f a = some (decide (0 ≤ a ∧ a < 6)) := by
  unfold impl_isPrincipal.f
  rw [impl_within_eq, Option.bind_some]
  congr 1
  exact decide_eq_decide.mpr (by omega)

theorem impl_isTime_eq (a : Int) : impl_isTime.f a = some (decide (0 ≤ a ∧ a ≤ 100000)) := by
  unfold impl_isTime.f; rw [impl_within_eq, Option.bind_some]

theorem impl_authOk_eq (c t q : Int) : impl_authOk.f c t q = some (authB c t q) := by
  unfold impl_authOk.f authB
  simp only [impl_isPrincipal_eq, impl_isTime_eq, impl_within_eq, Option.bind_some]
  by_cases h1 : 0 ≤ c ∧ c < 6 <;> by_cases h2 : 0 ≤ t ∧ t ≤ 100000 <;> simp [h1, h2]

theorem indexA_ev (l : List S79) (c t q : Int) (hl : l.length ≤ 1073741824) : ∃ r : Int, Ev (fun k => impl_Auth_86.f k l c t q) r ∧ (r ≥ 0 ↔ (⟨c, t, q⟩ : S79) ∈ l) := by
  have loop : ∀ d i : Nat, i + d = l.length → ∃ r : Int, Ev (fun k => impl_Auth_86.l0 k l (l.length : Int) (i : Int) c t q) r ∧ (r ≥ 0 ↔ (⟨c, t, q⟩ : S79) ∈ l.drop i) := by
    intro d
    induction d with
    | zero =>
      intro i hi
      refine ⟨-1, Ev.step (f := fun _ => some (-1)) (fun k => ?_) (Ev.now _), ?_⟩
      · simp only [impl_Auth_86.l0]
        rw [if_neg (by omega)]
      · rw [List.drop_of_length_le (by omega)]; simp
    | succ d ih =>
      intro i hi
      have hlt : i < l.length := by omega
      have e2 : wrap64 ((i : Int) + 1) = ((i + 1 : Nat) : Int) := by rw [w64 (x := (i : Int) + 1) (by omega) (by omega)]; omega
      rw [List.drop_eq_getElem_cons hlt]
      by_cases h : l[i] = ⟨c, t, q⟩
      · refine ⟨i, Ev.step (f := fun _ => some (i : Int)) (fun k => ?_) (Ev.now _), ?_⟩
        · simp only [impl_Auth_86.l0]
          rw [if_pos (by omega), if_pos (by omega), if_pos (by omega), rdA_get _ _ hlt, if_pos ((sameA' _ _ _ _).2 h)]
        · exact ⟨fun _ => by rw [h]; exact List.mem_cons_self, fun _ => by omega⟩
      · obtain ⟨r, hr, hi2⟩ := ih (i + 1) (by omega)
        refine ⟨r, Ev.step (fun k => ?_) hr, ?_⟩
        · simp only [impl_Auth_86.l0]
          rw [if_pos (by omega), if_pos (by omega), if_pos (by omega), rdA_get _ _ hlt, if_neg (fun e => h ((sameA' _ _ _ _).1 e)), e2]
        · rw [hi2, List.mem_cons]; exact ⟨Or.inr, fun e => e.resolve_left (fun e => h e.symm)⟩
  have := loop l.length 0 (by omega)
  unfold impl_Auth_86.f
  simpa using this

theorem containsA_ev (l : List S79) (c t q : Int) (hl : l.length ≤ 1073741824) : Ev (fun k => impl_Auth_75.f k l c t q) (inA ⟨c, t, q⟩ l) := by
  obtain ⟨r, hr, h⟩ := indexA_ev l c t q hl
  unfold impl_Auth_75.f
  refine Ev.bind hr (ev_eq (Ev.now _) ?_)
  exact inA_iff (by rw [decide_eq_true_eq]; exact h)

theorem impl_CacheOk_ev (n : Int) (l : List S79) (hl : l.length ≤ 1048576) : Ev (fun k => impl_CacheOk.f k n l) (cacheB n l) := by
  have lp0 : ∀ d i : Nat, i + d = l.length → (∀ j, j < i → cgA l j) → Ev (fun k => impl_CacheOk.l0 k l (l.length : Int) (i : Int) n l) (cacheB n l) := by
    intro d
    induction d with
    | zero =>
      intro i hi hj
      refine Ev.step (f := fun _ => some (cacheB n l)) (fun k => ?_) (Ev.now _)
      simp only [impl_CacheOk.l0]
      rw [if_neg (by omega)]
      rw [impl_within_eq, Option.bind_some]
      by_cases h1 : -1 ≤ n ∧ n ≤ 200000
      · rw [decide_eq_true h1, if_pos rfl]
        by_cases h2 : (l.length : Int) ≤ 6
        · rw [decide_eq_true h2, cacheB_t ⟨⟨h1, by omega⟩, fun j h => hj j (by omega)⟩]
        · rw [decide_eq_false h2, cacheB_f (fun hp => h2 (by have := hp.1.2; omega))]
      · rw [decide_eq_false h1, if_neg (by decide), cacheB_f (fun hp => h1 hp.1.1)]
    | succ d ih =>
      intro i hi hj
      have hlt : i < l.length := by omega
      have e2 : wrap64 ((i : Int) + 1) = ((i + 1 : Nat) : Int) := by rw [w64 (x := (i : Int) + 1) (by omega) (by omega)]; omega
      have c1 : (i : Int) < (l.length : Int) := by omega
      have c2 : 0 ≤ (i : Int) := by omega
      have c3 : (i : Int) ≤ (l.length : Int) := by omega
      by_cases h1 : authB (rd_T79 l (i : Int)).f0 (rd_T79 l (i : Int)).f1 (rd_T79 l (i : Int)).f2 = true
      · refine Ev.step (f := fun k => (impl_Auth_75.f k (l.take i) (rd_T79 l (i : Int)).f0 (rd_T79 l (i : Int)).f1 (rd_T79 l (i : Int)).f2).bind fun t => (if t = true then some false else impl_CacheOk.l0 k l (l.length : Int) ((i + 1 : Nat) : Int) n l)) (fun k => ?_) (Ev.bind (containsA_ev _ _ _ _ (by rw [List.length_take]; omega)) ?_)
        · simp only [impl_CacheOk.l0]
          simp only [c1, c2, c3, if_true, e2, Int.toNat_natCast, impl_authOk_eq, Option.bind_some, h1]
        · by_cases h2 : rd_T79 l (i : Int) ∈ l.take i
          · rw [inA_t (x := ⟨(rd_T79 l (i : Int)).f0, (rd_T79 l (i : Int)).f1, (rd_T79 l (i : Int)).f2⟩) h2]
            simp only [if_true]
            exact ev_eq (Ev.now _) (cacheB_f (fun hp => (hp.2 i hlt).2 h2)).symm
          · rw [inA_f (x := ⟨(rd_T79 l (i : Int)).f0, (rd_T79 l (i : Int)).f1, (rd_T79 l (i : Int)).f2⟩) h2]
            simp only [Bool.false_eq_true, if_false]
            refine ih (i + 1) (by omega) (fun j h => ?_)
            by_cases hji : j = i
            · subst hji; exact ⟨h1, h2⟩
            · exact hj j (by omega)
      · refine Ev.step (f := fun _ => some false) (fun k => ?_) (ev_eq (Ev.now _) (cacheB_f (fun hp => h1 (hp.2 i hlt).1)).symm)
        simp only [impl_CacheOk.l0]
        simp only [c1, c2, c3, if_true, impl_authOk_eq, Option.bind_some, h1, Bool.false_eq_true, if_false]
  unfold impl_CacheOk.f
  exact lp0 l.length 0 (by omega) (fun j h => by omega)


theorem FnExactCacheOk : ∀ (a0_0 : Int) (l0_1 : List S92), (Lit.int .i64 a0_0).wf = true → (∀ a ∈ l0_1, (Lit.int .i64 a.f0).wf = true ∧ (Lit.int .i64 a.f1).wf = true ∧ (Lit.int .i64 a.f2).wf = true) → l0_1.length ≤ maxLen → ∃ k, laws_FnExactCacheOk.f k a0_0 l0_1 = some true := by
  intro n l _ _ hl
  apply Ev.rounds
  obtain ⟨r, e, h1, h2⟩ := laws_szCache_eq n l 1048576 (by omega) (by omega) hl
  unfold laws_FnExactCacheOk.f
  simp only [e, Option.bind_some]
  by_cases h : r < 0
  · simp only [h, if_true]
    exact Ev.now _
  · have g1 : l.length ≤ 1048576 := by have := h2 h; omega
    have g2 : (toA l).length ≤ 1048576 := by rw [toA_len]; exact g1
    simp only [h, if_false]
    have hto := laws_toCache_ev n l g1
    refine Ev.bind hto (Ev.bind (spec_CacheOk_ev n _ g2) (Ev.bind hto (Ev.bind (impl_CacheOk_ev n _ g2) ?_)))
    simp only [bne_self_eq_false, Bool.false_eq_true, if_false]
    refine Ev.bind hto (Ev.bind (laws_eqCache_self n _ (by omega)) ?_)
    simp only [if_true]
    exact Ev.now _

end Go.Proofs.Ytheehldpcdfpmaa.Pure
