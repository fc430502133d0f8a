/- The program's CacheTry returns what the reference's returns, for all arguments, in new memory. -/
import Derived.Test.YtnpbafgnfdadhaaOFnExactCacheTryx9
import Derived.Test.YtnpbafgnfdadhaaBase
import Derived.Test.YtnpbafgnfdadhaaTerms
import Derived.Test.YtnpbafgnfdadhaaRounds
import Derived.Test.YtnpbafgnfdadhaaRests
import Derived.Test.YtnpbafgnfdadhaaBaseTick
namespace Go.Proofs.Ytnpbafgnfdadhaa.Pure
open Go.RowKit Go.Proofs.Ytnpbafgnfdadhaa.OFnExactCacheTry Go.Proofs.YtnpbafgnfdadhaaW.PrintWords Go.Proofs.YtnpbafgnfdadhaaW.PrintLast Go.Proofs.YtnpbafgnfdadhaaW.PrintMore Go.Proofs.Ytnpbafgnfdadhaa.Base
set_option linter.unusedVariables false
set_option linter.unusedSimpArgs false
theorem impl_within_eq (a lo hi : Int) : impl_within.f a lo hi = some (decide (lo ≤ a ∧ a ≤ hi)) := by
  unfold impl_within.f
  by_cases h : a ≥ lo
  · rw [if_pos h]; congr 1; simp [show lo ≤ a from h]
  · rw [if_neg h]; congr 1; simp [show ¬ lo ≤ a from h]

theorem impl_isTime_eq (a : Int) : impl_isTime.f a = some (decide (0 ≤ a ∧ a ≤ 100000)) := by
  unfold impl_isTime.f; rw [impl_within_eq, Option.bind_some]

theorem impl_isPrincipal_eq (a : Int) : impl_isPrincipal.f a = some (decide (0 ≤ a ∧ a < 6)) := by
  unfold impl_isPrincipal.f
  rw [impl_within_eq, Option.bind_some]
  congr 1
  exact decide_eq_decide.mpr (by omega)

theorem impl_authOk_eq (c t q : Int) : impl_authOk.f c t q = some (authB c t q) := by
  unfold impl_authOk.f authB
  simp only [impl_isPrincipal_eq, impl_isTime_eq, impl_within_eq, Option.bind_some]
  by_cases h1 : 0 ≤ c ∧ c < 6 <;> by_cases h2 : 0 ≤ t ∧ t ≤ 100000 <;> simp [h1, h2]

noncomputable def inA (x : S28) (l : List S28) : Bool := @decide (x ∈ l) (Classical.propDecidable _)
theorem inA_t {x : S28} {l : List S28} (h : x ∈ l) : inA x l = true := @decide_eq_true _ (Classical.propDecidable _) h
theorem inA_f {x : S28} {l : List S28} (h : ¬ x ∈ l) : inA x l = false := @decide_eq_false _ (Classical.propDecidable _) h
theorem inA_nil (x : S28) : inA x [] = false := inA_f (by simp)
theorem inA_eq {s x : S28} {l : List S28} (h : x = s) : inA s (x :: l) = true := inA_t (by simp [h])
theorem inA_ne {s x : S28} {l : List S28} (h : ¬ x = s) : inA s (x :: l) = inA s l := by
  have : ¬ s = x := fun e => h e.symm
  by_cases hs : s ∈ l
  · rw [inA_t hs, inA_t (List.mem_cons_of_mem _ hs)]
  · rw [inA_f hs, inA_f (by simp [hs, this])]
theorem inA_iff {s : S28} {l : List S28} {b : Bool} (h : b = true ↔ s ∈ l) : b = inA s l := by
  by_cases hs : s ∈ l
  · rw [inA_t hs, h.2 hs]
  · rw [inA_f hs]; cases b with
    | true => exact absurd (h.1 rfl) hs
    | false => rfl
theorem sameA (x : S28) (c t q : Int) : ((x.f0 == c) && ((x.f1 == t) && (x.f2 == q))) = true ↔ x = ⟨c, t, q⟩ := by
  obtain ⟨a, b, d⟩ := x
  simp
theorem sameA' (x : S28) (c t q : Int) : ((c == x.f0) && ((t == x.f1) && (q == x.f2))) = true ↔ x = ⟨c, t, q⟩ := by
  obtain ⟨a, b, d⟩ := x
  simp only [Bool.and_eq_true, beq_iff_eq]
  constructor
  · rintro ⟨rfl, rfl, rfl⟩; rfl
  · intro h; cases h; exact ⟨rfl, rfl, rfl⟩
theorem rdA_get (l : List S28) (i : Nat) (h : i < l.length) : rd_T28 l (i : Int) = l[i] := by
  unfold rd_T28
  rw [Int.toNat_natCast, List.getD_eq_getElem?_getD, List.getElem?_eq_getElem h]; rfl
def cgA (l : List S28) (i : Nat) : Prop := authB (rd_T28 l (i : Int)).f0 (rd_T28 l (i : Int)).f1 (rd_T28 l (i : Int)).f2 = true ∧ ¬ (rd_T28 l (i : Int) ∈ l.take i)
def cacheP (n : Int) (l : List S28) : Prop := ((-1 ≤ n ∧ n ≤ 200000) ∧ l.length ≤ 6) ∧ (∀ i, i < l.length → cgA l i)
noncomputable def cacheB (n : Int) (l : List S28) : Bool := @decide (cacheP n l) (Classical.propDecidable _)
theorem cacheB_t {n : Int} {l : List S28} (h : cacheP n l) : cacheB n l = true := @decide_eq_true _ (Classical.propDecidable _) h
theorem cacheB_f {n : Int} {l : List S28} (h : ¬ cacheP n l) : cacheB n l = false := @decide_eq_false _ (Classical.propDecidable _) h

theorem indexA_ev (l : List S28) (c t q : Int) (hl : l.length ≤ 1073741824) : ∃ r : Int, Ev (fun k => impl_Auth_48.f k l c t q) r ∧ (r ≥ 0 ↔ (⟨c, t, q⟩ : S28) ∈ l) := by
  have loop : ∀ d i : Nat, i + d = l.length → ∃ r : Int, Ev (fun k => impl_Auth_48.l0 k l (l.length : Int) (i : Int) c t q) r ∧ (r ≥ 0 ↔ (⟨c, t, q⟩ : S28) ∈ l.drop i) := by
    intro d
    induction d with
    | zero =>
      intro i hi
      refine ⟨-1, Ev.step (f := fun _ => some (-1)) (fun k => ?_) (Ev.now _), ?_⟩
      · simp only [impl_Auth_48.l0]
        rw [if_neg (by omega)]
      · rw [List.drop_of_length_le (by omega)]; simp
    | succ d ih =>
      intro i hi
      have hlt : i < l.length := by omega
      have e2 : wrap64 ((i : Int) + 1) = ((i + 1 : Nat) : Int) := by rw [w64 (x := (i : Int) + 1) (by omega) (by omega)]; omega
      rw [List.drop_eq_getElem_cons hlt]
      by_cases h : l[i] = ⟨c, t, q⟩
      · refine ⟨i, Ev.step (f := fun _ => some (i : Int)) (fun k => ?_) (Ev.now _), ?_⟩
        · simp only [impl_Auth_48.l0]
          rw [if_pos (by omega), if_pos (by omega), if_pos (by omega), rdA_get _ _ hlt, if_pos ((sameA' _ _ _ _).2 h)]
        · exact ⟨fun _ => by rw [h]; exact List.mem_cons_self, fun _ => by omega⟩
      · obtain ⟨r, hr, hi2⟩ := ih (i + 1) (by omega)
        refine ⟨r, Ev.step (fun k => ?_) hr, ?_⟩
        · simp only [impl_Auth_48.l0]
          rw [if_pos (by omega), if_pos (by omega), if_pos (by omega), rdA_get _ _ hlt, if_neg (fun e => h ((sameA' _ _ _ _).1 e)), e2]
        · rw [hi2, List.mem_cons]; exact ⟨Or.inr, fun e => e.resolve_left (fun e => h e.symm)⟩
  have := loop l.length 0 (by omega)
  unfold impl_Auth_48.f
  simpa using this

theorem containsA_ev (l : List S28) (c t q : Int) (hl : l.length ≤ 1073741824) : Ev (fun k => impl_Auth_31.f k l c t q) (inA ⟨c, t, q⟩ l) := by
  obtain ⟨r, hr, h⟩ := indexA_ev l c t q hl
  unfold impl_Auth_31.f
  refine Ev.bind hr (ev_eq (Ev.now _) ?_)
  exact inA_iff (by rw [decide_eq_true_eq]; exact h)

theorem impl_CacheOk_ev (n : Int) (l : List S28) (hl : l.length ≤ 1048576) : Ev (fun k => impl_CacheOk.f k n l) (cacheB n l) := by
  have lp0 : ∀ d i : Nat, i + d = l.length → (∀ j, j < i → cgA l j) → Ev (fun k => impl_CacheOk.l0 k l (l.length : Int) (i : Int) n l) (cacheB n l) := by
    intro d
    induction d with
    | zero =>
      intro i hi hj
      refine Ev.step (f := fun _ => some (cacheB n l)) (fun k => ?_) (Ev.now _)
      simp only [impl_CacheOk.l0]
      rw [if_neg (by omega)]
      rw [impl_within_eq, Option.bind_some]
      by_cases h1 : -1 ≤ n ∧ n ≤ 200000
      · rw [decide_eq_true h1, if_pos rfl]
        by_cases h2 : (l.length : Int) ≤ 6
        · rw [decide_eq_true h2, cacheB_t ⟨⟨h1, by omega⟩, fun j h => hj j (by omega)⟩]
        · rw [decide_eq_false h2, cacheB_f (fun hp => h2 (by have := hp.1.2; omega))]
      · rw [decide_eq_false h1, if_neg (by decide), cacheB_f (fun hp => h1 hp.1.1)]
    | succ d ih =>
      intro i hi hj
      have hlt : i < l.length := by omega
      have e2 : wrap64 ((i : Int) + 1) = ((i + 1 : Nat) : Int) := by rw [w64 (x := (i : Int) + 1) (by omega) (by omega)]; omega
      have c1 : (i : Int) < (l.length : Int) := by omega
      have c2 : 0 ≤ (i : Int) := by omega
      have c3 : (i : Int) ≤ (l.length : Int) := by omega
      by_cases h1 : authB (rd_T28 l (i : Int)).f0 (rd_T28 l (i : Int)).f1 (rd_T28 l (i : Int)).f2 = true
      · refine Ev.step (f := fun k => (impl_Auth_31.f k (l.take i) (rd_T28 l (i : Int)).f0 (rd_T28 l (i : Int)).f1 (rd_T28 l (i : Int)).f2).bind fun t => (if t = true then some false else impl_CacheOk.l0 k l (l.length : Int) ((i + 1 : Nat) : Int) n l)) (fun k => ?_) (Ev.bind (containsA_ev _ _ _ _ (by rw [List.length_take]; omega)) ?_)
        · simp only [impl_CacheOk.l0]
          simp only [c1, c2, c3, if_true, e2, Int.toNat_natCast, impl_authOk_eq, Option.bind_some, h1]
        · by_cases h2 : rd_T28 l (i : Int) ∈ l.take i
          · rw [inA_t (x := ⟨(rd_T28 l (i : Int)).f0, (rd_T28 l (i : Int)).f1, (rd_T28 l (i : Int)).f2⟩) h2]
            simp only [if_true]
            exact ev_eq (Ev.now _) (cacheB_f (fun hp => (hp.2 i hlt).2 h2)).symm
          · rw [inA_f (x := ⟨(rd_T28 l (i : Int)).f0, (rd_T28 l (i : Int)).f1, (rd_T28 l (i : Int)).f2⟩) h2]
            simp only [Bool.false_eq_true, if_false]
            refine ih (i + 1) (by omega) (fun j h => ?_)
            by_cases hji : j = i
            · subst hji; exact ⟨h1, h2⟩
            · exact hj j (by omega)
      · refine Ev.step (f := fun _ => some false) (fun k => ?_) (ev_eq (Ev.now _) (cacheB_f (fun hp => h1 (hp.2 i hlt).1)).symm)
        simp only [impl_CacheOk.l0]
        simp only [c1, c2, c3, if_true, impl_authOk_eq, Option.bind_some, h1, Bool.false_eq_true, if_false]
  unfold impl_CacheOk.f
  exact lp0 l.length 0 (by omega) (fun j h => by omega)


theorem impl_copyCache_eq (n : Int) (l : List S28) (hl : l.length ≤ 1073741824) : impl_copyCache.f n l = some (n, l) := by
  unfold impl_copyCache.f
  rw [if_pos (by simp only [List.length_nil]; omega), List.nil_append]

theorem impl_isSkew_eq (a : Int) : impl_isSkew.f a = some (decide (0 ≤ a ∧ a ≤ 20)) := by
  unfold impl_isSkew.f; rw [impl_within_eq, Option.bind_some]

theorem impl_apart_eq (a b : Int) (ha : 0 ≤ a ∧ a ≤ 100000) (hb : 0 ≤ b ∧ b ≤ 100000) : ∃ d, impl_apart.f a b = some d ∧ ∀ s : Int, d > s ↔ (s < a - b ∨ s < b - a) := by
  refine ⟨_, rfl, fun s => ?_⟩
  rw [w64 (x := a - b) (by omega) (by omega), w64 (x := b - a) (by omega) (by omega)]
  unfold mx
  split <;> omega

def leftA (t : Int) (l : List S28) : List S28 := l.filter fun a => decide (t ≤ a.f1)
theorem leftA_len (t : Int) (l : List S28) : (leftA t l).length ≤ l.length := List.length_filter_le _ _
theorem leftA_snoc_t (t : Int) (l : List S28) (i : Nat) (h : i < l.length) (ht : t ≤ l[i].f1) : leftA t (l.take (i + 1)) = leftA t (l.take i) ++ [l[i]] := by
  unfold leftA
  rw [List.take_succ_eq_append_getElem h, List.filter_append]
  simp [ht]
theorem leftA_snoc_f (t : Int) (l : List S28) (i : Nat) (h : i < l.length) (ht : ¬ t ≤ l[i].f1) : leftA t (l.take (i + 1)) = leftA t (l.take i) := by
  unfold leftA
  rw [List.take_succ_eq_append_getElem h, List.filter_append]
  simp [ht]
def tickP (c t q now skew : Int) : Prop := authB c t q = true ∧ (0 ≤ now ∧ now ≤ 100000) ∧ (0 ≤ skew ∧ skew ≤ 20)
noncomputable def tryS (n : Int) (l : List S28) (c t q now skew : Int) : Int × List S28 × Int :=
  if cacheB n l = true then
    (if @decide (tickP c t q now skew) (Classical.propDecidable _) = true then
      (if decide (skew < now - t ∨ skew < t - now) = true then (n, l, 2)
       else if now ≤ n then (n, l, 3)
       else if inA ⟨c, t, q⟩ l = true then (n, l, 4)
       else if 6 ≤ ((leftA (now - skew) l).length : Int) then (n, l, 5)
       else (n, leftA (now - skew) l ++ [⟨c, t, q⟩], 0))
     else (n, l, 1))
  else (0, [], 1)
theorem authB_out {c t q : Int} (h : authB c t q = true) : (0 ≤ c ∧ c < 6) ∧ (0 ≤ t ∧ t ≤ 100000) ∧ (0 ≤ q ∧ q ≤ 1000000) := by
  unfold authB at h
  exact of_decide_eq_true h
theorem cacheB_out {n : Int} {l : List S28} (h : cacheB n l = true) : cacheP n l := by
  by_cases hp : cacheP n l
  · exact hp
  · rw [cacheB_f hp] at h; cases h
theorem tryS_len (n : Int) (l : List S28) (c t q now skew : Int) (hl : l.length ≤ 1048576) : (tryS n l c t q now skew).2.1.length ≤ 1048577 := by
  have := leftA_len (now - skew) l
  unfold tryS
  repeat' split
  all_goals first | (simp; omega) | (simp only [List.length_nil]; omega)

theorem impl_CacheTry_ev (n : Int) (l : List S28) (c t q now skew : Int) (hl : l.length ≤ 1048576) : Ev (fun k => impl_CacheTry.f k n l c t q now skew) (tryS n l c t q now skew) := by
  have dead : ∀ (x : List S28) (b : Bool), b = true → Ev (fun k => impl_CacheTry.j1 k now skew x b n l c t q n l) (n, l, 1) := by
    intro x b hb
    subst hb
    refine Ev.step (f := fun _ => some (n, l, 1)) (fun k => ?_) (Ev.now _)
    simp only [impl_CacheTry.j1, if_true]
  have loop : cacheB n l = true → ∀ d i : Nat, i + d = l.length → Ev (fun k => impl_CacheTry.l0 k now skew (leftA (wrap64 (now - skew)) (l.take i)) l (l.length : Int) (i : Int) n l c t q n l)
      (if @decide (tickP c t q now skew) (Classical.propDecidable _) = true then
      (if decide (skew < now - t ∨ skew < t - now) = true then (n, l, 2)
       else if now ≤ n then (n, l, 3)
       else if inA ⟨c, t, q⟩ l = true then (n, l, 4)
       else if 6 ≤ ((leftA (now - skew) l).length : Int) then (n, l, 5)
       else (n, leftA (now - skew) l ++ [⟨c, t, q⟩], 0))
     else (n, l, 1)) := by
    intro h0 d
    induction d with
    | zero =>
      intro i hi
      have e : l.take i = l := List.take_of_length_le (by omega)
      rw [e]
      refine Ev.step (f := fun k => (impl_authOk.f c t q).bind fun t144 => (if t144 = true then ((impl_isTime.f now).bind fun t145 => (if t145 = true then ((impl_isSkew.f skew).bind fun t146 => (impl_CacheTry.j1 k now skew (leftA (wrap64 (now - skew)) l) (!t146) n l c t q n l)) else (impl_CacheTry.j1 k now skew (leftA (wrap64 (now - skew)) l) true n l c t q n l))) else (impl_CacheTry.j1 k now skew (leftA (wrap64 (now - skew)) l) true n l c t q n l))) (fun k => ?_) ?_
      · simp only [impl_CacheTry.l0]
        rw [if_neg (by omega)]
      · simp only [impl_authOk_eq, impl_isTime_eq, impl_isSkew_eq, Option.bind_some]
        by_cases ha : authB c t q = true
        · simp only [ha, if_true]
          by_cases hn : 0 ≤ now ∧ now ≤ 100000
          · rw [decide_eq_true hn]
            simp only [if_true]
            by_cases hs : 0 ≤ skew ∧ skew ≤ 20
            · rw [decide_eq_true hs, @decide_eq_true (tickP c t q now skew) (Classical.propDecidable _) ⟨ha, hn, hs⟩, w64 (x := now - skew) (by omega) (by omega)]
              simp only [if_true, Bool.not_true]
              have hb := (authB_out ha).2.1
              obtain ⟨ap, hap, hap2⟩ := impl_apart_eq now t hn hb
              have hlen := leftA_len (now - skew) l
              have h6 := (cacheB_out h0).1.2
              refine Ev.step (f := fun k => (if ap > skew then some (n, l, 2) else (if now ≤ n then some (n, l, 3) else ((impl_Auth_31.f k l c t q).bind fun t148 => (if t148 = true then (some (n, l, 4)) else (if ((leftA (now - skew) l).length : Int) = 6 then some (n, l, 5) else some (n, leftA (now - skew) l ++ [⟨c, t, q⟩], 0))))))) (fun k => ?_) ?_
              · simp only [impl_CacheTry.j1]
                rw [if_neg (by decide), hap, Option.bind_some, if_pos (show (leftA (now - skew) l).length < 5864062014805 by omega)]
              · by_cases g1 : skew < now - t ∨ skew < t - now
                · rw [decide_eq_true g1]
                  simp only [(hap2 skew).2 g1, if_true]; exact Ev.now _
                · have g1' : ¬ (ap > skew) := fun h => g1 ((hap2 skew).1 h)
                  rw [decide_eq_false g1]
                  simp only [g1', if_false, Bool.false_eq_true]
                  by_cases g2 : now ≤ n
                  · simp only [g2, if_true]; exact Ev.now _
                  · simp only [g2, if_false]
                    refine Ev.bind (containsA_ev l c t q (by omega)) ?_
                    by_cases g3 : inA ⟨c, t, q⟩ l = true
                    · simp only [g3, if_true]; exact Ev.now _
                    · simp only [g3, if_false, Bool.false_eq_true]
                      by_cases g4 : 6 ≤ ((leftA (now - skew) l).length : Int)
                      · have g5 : ((leftA (now - skew) l).length : Int) = 6 := by omega
                        rw [if_pos g4]
                        simp only [g5, if_true]; exact Ev.now _
                      · have g5 : ¬ ((leftA (now - skew) l).length : Int) = 6 := by omega
                        rw [if_neg g4]
                        simp only [g5, if_false]; exact Ev.now _
            · rw [decide_eq_false hs, @decide_eq_false (tickP c t q now skew) (Classical.propDecidable _) (fun h => hs h.2.2)]
              simp only [Bool.not_false, Bool.false_eq_true, if_false]
              exact dead _ _ rfl
          · rw [decide_eq_false hn, @decide_eq_false (tickP c t q now skew) (Classical.propDecidable _) (fun h => hn h.2.1)]
            simp only [Bool.false_eq_true, if_false]
            exact dead _ _ rfl
        · rw [@decide_eq_false (tickP c t q now skew) (Classical.propDecidable _) (fun h => ha h.1)]
          simp only [ha, Bool.false_eq_true, if_false]
          exact dead _ _ rfl
    | succ d ih =>
      intro i hi
      have hlt : i < l.length := by omega
      have hlen := leftA_len (wrap64 (now - skew)) (l.take i)
      have htl : (l.take i).length ≤ 1048576 := by rw [List.length_take]; omega
      have e2 : wrap64 ((i : Int) + 1) = ((i + 1 : Nat) : Int) := by rw [w64 (x := (i : Int) + 1) (by omega) (by omega)]; omega
      refine Ev.step (fun k => ?_) (ih (i + 1) (by omega))
      simp only [impl_CacheTry.l0]
      have c1 : (i : Int) < (l.length : Int) := by omega
      have c2 : 0 ≤ (i : Int) := by omega
      have c5 : (leftA (wrap64 (now - skew)) (l.take i)).length < 5864062014805 := by omega
      rw [if_pos c1, if_pos c2, if_pos c1, rdA_get _ _ hlt, e2]
      by_cases h : wrap64 (now - skew) ≤ l[i].f1
      · rw [if_pos h, if_pos c5, leftA_snoc_t _ _ _ hlt h]
      · rw [if_neg h, leftA_snoc_f _ _ _ hlt h]
  unfold impl_CacheTry.f tryS
  refine Ev.bind (impl_CacheOk_ev n l hl) ?_
  by_cases h0 : cacheB n l = true
  · simp only [h0, if_true, impl_copyCache_eq n l (by omega), Option.bind_some]
    exact loop h0 l.length 0 (by omega)
  · simp only [h0, Bool.false_eq_true, if_false]
    exact Ev.now _

theorem spec_l1In_eq (a lo hi : Int) : spec_l1In.f a lo hi = some (decide (lo ≤ a ∧ a ≤ hi)) := by
  unfold spec_l1In.f
  by_cases h : a ≥ lo
  · rw [if_pos h]; congr 1; simp [show lo ≤ a from h]
  · rw [if_neg h]; congr 1; simp [show ¬ lo ≤ a from h]

theorem spec_l5Principal_eq (a : Int) : spec_l5Principal.f a = some (decide (0 ≤ a ∧ a < 6)) := by
  unfold spec_l5Principal.f
  by_cases h : a ≥ 0
  · rw [if_pos h]; congr 1; simp [show 0 ≤ a from h]
  · rw [if_neg h]; congr 1; simp [show ¬ 0 ≤ a from h]

theorem spec_l5AuthOk_eq (c t q : Int) : spec_l5AuthOk.f c t q = some (authB c t q) := by
  unfold spec_l5AuthOk.f authB
  simp only [spec_l5Principal_eq, spec_l1In_eq, Option.bind_some]
  by_cases h1 : 0 ≤ c ∧ c < 6 <;> by_cases h2 : 0 ≤ t ∧ t ≤ 100000 <;> simp [h1, h2]

theorem spec_l7Saw_ev (l : List S28) (c t q : Int) (hl : l.length ≤ 1073741824) : Ev (fun k => spec_l7Saw.f k l c t q) (inA ⟨c, t, q⟩ l) := by
  have loop : ∀ d i : Nat, i + d = l.length → Ev (fun k => spec_l7Saw.l0 k l (i : Int) c t q) (inA ⟨c, t, q⟩ (l.drop i)) := by
    intro d
    induction d with
    | zero =>
      intro i hi
      refine Ev.step (f := fun _ => some false) (fun k => ?_) (ev_eq (Ev.now _) ?_)
      · simp only [spec_l7Saw.l0]
        rw [if_neg (by omega)]
      · rw [List.drop_of_length_le (by omega), inA_nil]
    | succ d ih =>
      intro i hi
      have hlt : i < l.length := by omega
      have e2 : wrap64 ((i : Int) + 1) = ((i + 1 : Nat) : Int) := by rw [w64 (x := (i : Int) + 1) (by omega) (by omega)]; omega
      rw [List.drop_eq_getElem_cons hlt]
      by_cases h : l[i] = ⟨c, t, q⟩
      · refine Ev.step (f := fun _ => some true) (fun k => ?_) (ev_eq (Ev.now _) (inA_eq h).symm)
        simp only [spec_l7Saw.l0]
        rw [if_pos (by omega), if_pos (by omega), rdA_get _ _ hlt, if_pos ((sameA _ _ _ _).2 h)]
      · refine Ev.step (fun k => ?_) (ev_eq (ih (i + 1) (by omega)) (inA_ne h).symm)
        simp only [spec_l7Saw.l0]
        rw [if_pos (by omega), if_pos (by omega), rdA_get _ _ hlt, if_neg (fun e => h ((sameA _ _ _ _).1 e)), e2]
  have := loop l.length 0 (by omega)
  unfold spec_l7Saw.f
  simpa using this

theorem spec_CacheOk_ev (n : Int) (l : List S28) (hl : l.length ≤ 1048576) : Ev (fun k => spec_CacheOk.f k n l) (cacheB n l) := by
  have lp0 : ((-1 ≤ n ∧ n ≤ 200000) ∧ l.length ≤ 6) → ∀ d i : Nat, i + d = l.length → (∀ j, j < i → cgA l j) → Ev (fun k => spec_CacheOk.l0 k (i : Int) n l) (cacheB n l) := by
    intro hl6 d
    induction d with
    | zero =>
      intro i hi hj
      refine Ev.step (f := fun _ => some (cacheB n l)) (fun k => ?_) (Ev.now _)
      simp only [spec_CacheOk.l0]
      rw [if_neg (by omega)]
      rw [cacheB_t ⟨hl6, fun j h => hj j (by omega)⟩]
    | succ d ih =>
      intro i hi hj
      have hlt : i < l.length := by omega
      have e2 : wrap64 ((i : Int) + 1) = ((i + 1 : Nat) : Int) := by rw [w64 (x := (i : Int) + 1) (by omega) (by omega)]; omega
      have c1 : (i : Int) < (l.length : Int) := by omega
      have c2 : 0 ≤ (i : Int) := by omega
      have c3 : (i : Int) ≤ (l.length : Int) := by omega
      by_cases h1 : authB (rd_T28 l (i : Int)).f0 (rd_T28 l (i : Int)).f1 (rd_T28 l (i : Int)).f2 = true
      · refine Ev.step (f := fun k => (spec_l7Saw.f k (l.take i) (rd_T28 l (i : Int)).f0 (rd_T28 l (i : Int)).f1 (rd_T28 l (i : Int)).f2).bind fun t => (if t = true then some false else spec_CacheOk.l0 k ((i + 1 : Nat) : Int) n l)) (fun k => ?_) (Ev.bind (spec_l7Saw_ev _ _ _ _ (by rw [List.length_take]; omega)) ?_)
        · simp only [spec_CacheOk.l0]
          simp only [c1, c2, c3, if_true, e2, Int.toNat_natCast, spec_l5AuthOk_eq, Option.bind_some, h1]
        · by_cases h2 : rd_T28 l (i : Int) ∈ l.take i
          · rw [inA_t (x := ⟨(rd_T28 l (i : Int)).f0, (rd_T28 l (i : Int)).f1, (rd_T28 l (i : Int)).f2⟩) h2]
            simp only [if_true]
            exact ev_eq (Ev.now _) (cacheB_f (fun hp => (hp.2 i hlt).2 h2)).symm
          · rw [inA_f (x := ⟨(rd_T28 l (i : Int)).f0, (rd_T28 l (i : Int)).f1, (rd_T28 l (i : Int)).f2⟩) h2]
            simp only [Bool.false_eq_true, if_false]
            refine ih (i + 1) (by omega) (fun j h => ?_)
            by_cases hji : j = i
            · subst hji; exact ⟨h1, h2⟩
            · exact hj j (by omega)
      · refine Ev.step (f := fun _ => some false) (fun k => ?_) (ev_eq (Ev.now _) (cacheB_f (fun hp => h1 (hp.2 i hlt).1)).symm)
        simp only [spec_CacheOk.l0]
        simp only [c1, c2, c3, if_true, spec_l5AuthOk_eq, Option.bind_some, h1, Bool.false_eq_true, if_false]
  have dead : ¬ ((-1 ≤ n ∧ n ≤ 200000) ∧ l.length ≤ 6) → Ev (fun k => spec_CacheOk.j0 k true n l) (cacheB n l) := by
    intro h
    refine Ev.step (f := fun _ => some false) (fun k => ?_) (ev_eq (Ev.now _) (cacheB_f (fun hp => h hp.1)).symm)
    simp [spec_CacheOk.j0]
  unfold spec_CacheOk.f
  by_cases h1 : -1 ≤ n ∧ n ≤ 200000
  · by_cases h2 : (l.length : Int) > 6
    · simp only [spec_l1In_eq, Option.bind_some, h1, h2, and_self, decide_true, if_true]
      exact dead (by omega)
    · simp only [spec_l1In_eq, Option.bind_some, h1, h2, and_self, decide_true, decide_false, if_true]
      refine Ev.step (fun k => ?_) (lp0 ⟨h1, by omega⟩ l.length 0 (by omega) (fun j h => by omega))
      simp only [spec_CacheOk.j0]
      rw [if_neg (by decide)]
      rfl
  · simp only [spec_l1In_eq, Option.bind_some, h1, decide_false, Bool.false_eq_true, if_false]
    exact dead (fun h => h1 h.1)


theorem spec_l7Copy_eq (n : Int) (l : List S28) (hl : l.length ≤ 1073741824) : spec_l7Copy.f n l = some (n, l) := by
  unfold spec_l7Copy.f
  rw [Option.bind_some, if_pos (by simp only [List.length_nil]; omega), List.nil_append]

theorem spec_l7Apart_eq (a b s : Int) (ha : 0 ≤ a ∧ a ≤ 100000) (hb : 0 ≤ b ∧ b ≤ 100000) : spec_l7Apart.f a b s = some (decide (s < a - b ∨ s < b - a)) := by
  unfold spec_l7Apart.f
  rw [w64 (x := a - b) (by omega) (by omega), w64 (x := b - a) (by omega) (by omega)]
  by_cases h : a - b > s
  · rw [if_pos h, decide_eq_true (Or.inl h)]
  · rw [if_neg h]
    by_cases h2 : b - a > s
    · rw [decide_eq_true h2, decide_eq_true (Or.inr h2)]
    · rw [decide_eq_false h2, decide_eq_false (by omega)]

theorem spec_CacheTry_ev (n : Int) (l : List S28) (c t q now skew : Int) (hl : l.length ≤ 1048576) : Ev (fun k => spec_CacheTry.f k n l c t q now skew) (tryS n l c t q now skew) := by
  have loop : (0 ≤ now ∧ now ≤ 100000) → (0 ≤ skew ∧ skew ≤ 20) → ∀ d i : Nat, i + d = l.length → Ev (fun k => spec_CacheTry.l0 k now skew (leftA (now - skew) (l.take i)) (i : Int) n l c t q) (if 6 ≤ ((leftA (now - skew) l).length : Int) then (n, l, 5) else (n, leftA (now - skew) l ++ [⟨c, t, q⟩], 0)) := by
    intro h1 h2 d
    induction d with
    | zero =>
      intro i hi
      have e : l.take i = l := List.take_of_length_le (by omega)
      have hlen := leftA_len (now - skew) l
      rw [e]
      refine Ev.step (f := fun _ => (if 6 ≤ ((leftA (now - skew) l).length : Int) then some (n, l, 5) else some (n, leftA (now - skew) l ++ [⟨c, t, q⟩], 0))) (fun k => ?_) ?_
      · simp only [spec_CacheTry.l0]
        rw [if_neg (by omega), if_pos (show (leftA (now - skew) l).length < 5864062014805 by omega)]
      · split <;> exact Ev.now _
    | succ d ih =>
      intro i hi
      have hlt : i < l.length := by omega
      have hlen := leftA_len (now - skew) (l.take i)
      have htl : (l.take i).length ≤ 1048576 := by rw [List.length_take]; omega
      have e2 : wrap64 ((i : Int) + 1) = ((i + 1 : Nat) : Int) := by rw [w64 (x := (i : Int) + 1) (by omega) (by omega)]; omega
      refine Ev.step (fun k => ?_) (ih (i + 1) (by omega))
      simp only [spec_CacheTry.l0]
      rw [if_pos (by omega), if_pos (by omega), rdA_get _ _ hlt, e2]
      clear e2
      rw [w64 (x := now - skew) (by omega) (by omega)]
      by_cases h : now - skew ≤ l[i].f1
      · rw [if_pos h, if_pos (by omega), leftA_snoc_t _ _ _ hlt h]
      · rw [if_neg h, leftA_snoc_f _ _ _ hlt h]
  have dead : ∀ b : Bool, b = true → Ev (fun k => spec_CacheTry.j0 k now skew b n l c t q) (n, l, 1) := by
    intro b hb
    subst hb
    refine Ev.step (f := fun _ => some (n, l, 1)) (fun k => ?_) (Ev.now _)
    simp only [spec_CacheTry.j0, if_true]
  unfold spec_CacheTry.f tryS
  refine Ev.bind (spec_CacheOk_ev n l hl) ?_
  by_cases h0 : cacheB n l = true
  · simp only [h0, if_true, spec_l7Copy_eq n l (by omega), Option.bind_some, spec_l5AuthOk_eq, spec_l1In_eq]
    by_cases ha : authB c t q = true
    · simp only [ha, if_true, Option.bind_some]
      by_cases hn : 0 ≤ now ∧ now ≤ 100000
      · rw [decide_eq_true hn]
        simp only [if_true, Option.bind_some]
        by_cases hs : 0 ≤ skew ∧ skew ≤ 20
        · rw [decide_eq_true hs, @decide_eq_true (tickP c t q now skew) (Classical.propDecidable _) ⟨ha, hn, hs⟩]
          simp only [if_true, Bool.not_true]
          have hb := (authB_out ha).2.1
          refine Ev.step (f := fun k => (if decide (skew < now - t ∨ skew < t - now) = true then some (n, l, 2) else (if now ≤ n then some (n, l, 3) else ((spec_l7Saw.f k l c t q).bind fun t188 => (if t188 = true then (some (n, l, 4)) else (spec_CacheTry.l0 k now skew [] 0 n l c t q)))))) (fun k => ?_) ?_
          · simp only [spec_CacheTry.j0]
            rw [if_neg (by decide), spec_l7Apart_eq now t skew hn hb, Option.bind_some]
          · by_cases g1 : decide (skew < now - t ∨ skew < t - now) = true
            · simp only [g1, if_true]; exact Ev.now _
            · simp only [g1, if_false, Bool.false_eq_true]
              by_cases g2 : now ≤ n
              · simp only [g2, if_true]; exact Ev.now _
              · simp only [g2, if_false]
                refine Ev.bind (spec_l7Saw_ev l c t q (by omega)) ?_
                by_cases g3 : inA ⟨c, t, q⟩ l = true
                · simp only [g3, if_true]; exact Ev.now _
                · simp only [g3, if_false, Bool.false_eq_true]
                  exact loop hn hs l.length 0 (by omega)
        · rw [decide_eq_false hs, @decide_eq_false (tickP c t q now skew) (Classical.propDecidable _) (fun h => hs h.2.2)]
          simp only [Bool.not_false, Bool.false_eq_true, if_false]
          exact dead _ rfl
      · rw [decide_eq_false hn, @decide_eq_false (tickP c t q now skew) (Classical.propDecidable _) (fun h => hn h.2.1)]
        simp only [Bool.false_eq_true, if_false]
        exact dead _ rfl
    · rw [@decide_eq_false (tickP c t q now skew) (Classical.propDecidable _) (fun h => ha h.1)]
      simp only [ha, Bool.false_eq_true, if_false]
      exact dead _ rfl
  · simp only [h0, Bool.false_eq_true, if_false]
    exact Ev.now _

theorem laws_szAuthS_eq (l : List S39) (a : Int) (ha0 : 0 ≤ a) (ha : a ≤ 1048576) (hl : l.length ≤ maxLen) : ∃ r, laws_szAuthS.f l a = some r ∧ r ≤ a ∧ (¬ r < 0 → (l.length : Int) ≤ a) := by
  have hl' : l.length ≤ 9223372036854775807 := hl
  have e : wrap64 (a - (l.length : Int)) = a - (l.length : Int) := w64 (by omega) (by omega)
  unfold laws_szAuthS.f
  by_cases h : a - (l.length : Int) < 0
  · exact ⟨-1, by rw [e, if_pos h], by omega, fun hh => absurd (by decide) hh⟩
  · exact ⟨a - (l.length : Int), by rw [e, if_neg h], by omega, fun _ => by omega⟩

theorem laws_szCache_eq (n : Int) (l : List S39) (a : Int) (ha0 : 0 ≤ a) (ha : a ≤ 1048576) (hl : l.length ≤ maxLen) : ∃ r, laws_szCache.f n l a = some r ∧ r ≤ a ∧ (¬ r < 0 → (l.length : Int) ≤ a) := by
  obtain ⟨r, e, h1, h2⟩ := laws_szAuthS_eq l a ha0 ha hl
  unfold laws_szCache.f
  rw [e, Option.bind_some]
  by_cases h : r < 0
  · exact ⟨-1, by rw [if_pos h], by omega, fun hh => absurd (by decide) hh⟩
  · exact ⟨r, by rw [if_neg h], h1, h2⟩

theorem laws_toAuth_eq (a b c : Int) : laws_toAuth.f a b c = some (a, b, c) := rfl

def toA (l : List S39) : List S28 := l.map fun x => ⟨x.f0, x.f1, x.f2⟩
theorem toA_len (l : List S39) : (toA l).length = l.length := by simp [toA]
theorem rdB_get (l : List S39) (i : Nat) (h : i < l.length) : rd_T39 l (i : Int) = l[i] := by
  unfold rd_T39
  rw [Int.toNat_natCast, List.getD_eq_getElem?_getD, List.getElem?_eq_getElem h]; rfl
theorem laws_toAuthS_ev (l : List S39) (hl : l.length ≤ 1048576) : Ev (fun k => laws_toAuthS.f k l) (toA l) := by
  have loop : ∀ (d i : Nat) (rest : List S28), i + d = l.length → rest.length = d → Ev (fun k => laws_toAuthS.l0 k l ((toA l).take i ++ rest) (i : Int)) (toA l) := by
    intro d
    induction d with
    | zero =>
      intro i rest hi hr
      have : rest = [] := List.eq_nil_of_length_eq_zero hr
      subst this
      refine Ev.step (f := fun _ => some (toA l)) (fun k => ?_) (Ev.now _)
      simp only [laws_toAuthS.l0]
      rw [if_neg (by omega), List.take_of_length_le (by rw [toA_len]; omega), List.append_nil]
    | succ d ih =>
      intro i rest hi hr
      match rest, hr with
      | x :: rest, hr =>
        have hlt : i < l.length := by omega
        have hlt' : i < (toA l).length := by rw [toA_len]; omega
        have hti : ((toA l).take i).length = i := by rw [List.length_take, toA_len]; omega
        have hge : (toA l)[i] = ⟨l[i].f0, l[i].f1, l[i].f2⟩ := by simp [toA]
        have hr' := ih (i + 1) rest (by omega) (by simpa using hr)
        rw [List.take_succ_eq_append_getElem hlt', List.append_assoc] at hr'
        refine Ev.step (fun k => ?_) hr'
        simp only [laws_toAuthS.l0, laws_toAuth.f, Option.bind_some]
        rw [if_pos (by omega), if_pos (by omega), if_pos (by rw [List.length_append, hti, List.length_cons]; omega), w64 (by omega) (by omega), rdB_get l i hlt, Int.toNat_natCast]
        rw [List.set_append_right _ _ (by omega), hti, Nat.sub_self, List.set_cons_zero, hge]
        rfl
  unfold laws_toAuthS.f
  have a1 : 0 ≤ (l.length : Int) := by omega
  have a2 : l.length ≤ 11728124029610 := by omega
  simp only [a1, a2, if_true, Int.toNat_natCast]
  exact loop l.length 0 (List.replicate l.length z28) (by omega) (by simp)

theorem laws_toCache_ev (n : Int) (l : List S39) (hl : l.length ≤ 1048576) : Ev (fun k => laws_toCache.f k n l) (n, toA l) := by
  unfold laws_toCache.f
  exact Ev.bind (laws_toAuthS_ev l hl) (Ev.now _)

theorem laws_eqAuth_self (a b c : Int) : laws_eqAuth.f a b c a b c = some true := by simp [laws_eqAuth.f]

theorem laws_eqAuthS_self (l : List S28) (hl : l.length ≤ 1073741824) : Ev (fun k => laws_eqAuthS.f k l l) true := by
  have loop : ∀ d i : Nat, i + d = l.length → Ev (fun k => laws_eqAuthS.l0 k l l (i : Int)) true := by
    intro d
    induction d with
    | zero =>
      intro i hi
      refine Ev.step (f := fun _ => some true) (fun k => ?_) (Ev.now _)
      simp only [laws_eqAuthS.l0]
      rw [if_neg (by omega)]
    | succ d ih =>
      intro i hi
      refine Ev.step (fun k => ?_) (ih (i + 1) (by omega))
      simp only [laws_eqAuthS.l0]
      rw [if_pos (by omega), if_pos (by omega), if_pos (by omega), laws_eqAuth_self, Option.bind_some, if_pos rfl, w64 (by omega) (by omega)]
      rfl
  unfold laws_eqAuthS.f
  simp only [if_true]
  exact loop l.length 0 (by omega)

theorem laws_eqCache_self (q : Int) (l : List S28) (hl : l.length ≤ 1073741824) : Ev (fun k => laws_eqCache.f k q l q l) true := by
  unfold laws_eqCache.f
  simp only [if_true]
  refine Ev.bind (laws_eqAuthS_self l hl) ?_
  simp only [if_true]
  exact Ev.now _

def marksA (n : Nat) : List S28 := (List.range n).map fun i => ⟨((1 + 3 * i : Nat) : Int), ((2 + 3 * i : Nat) : Int), ((3 + 3 * i : Nat) : Int)⟩
theorem marksA_len (n : Nat) : (marksA n).length = n := by simp [marksA]
theorem marksA_succ (n : Nat) : marksA (n + 1) = marksA n ++ [⟨((1 + 3 * n : Nat) : Int), ((2 + 3 * n : Nat) : Int), ((3 + 3 * n : Nat) : Int)⟩] := by
  simp [marksA, List.range_succ]
theorem rd_set_auth (l : List S28) (i : Nat) (v : S28) (h : i < l.length) : rd_T28 (l.set i v) (i : Int) = v := by
  unfold rd_T28
  rw [Int.toNat_natCast, List.getD_eq_getElem?_getD, List.getElem?_set_self h]; rfl
theorem laws_markAuthS_ev (l : List S28) (hl : l.length ≤ 1073741824) : Ev (fun k => laws_markAuthS.f k l 1) (((1 + 3 * l.length : Nat) : Int), marksA l.length) := by
  have loop : ∀ (d i : Nat) (rest : List S28), rest.length = d → i + d ≤ 1073741824 → Ev (fun k => laws_markAuthS.l0 k (marksA i ++ rest) ((1 + 3 * i : Nat) : Int) (i : Int)) (((1 + 3 * (i + d) : Nat) : Int), marksA (i + d)) := by
    intro d
    induction d with
    | zero =>
      intro i rest hr hi
      have : rest = [] := List.eq_nil_of_length_eq_zero hr
      subst this
      refine Ev.step (f := fun _ => some (((1 + 3 * i : Nat) : Int), marksA i)) (fun k => ?_) (Ev.now _)
      simp only [laws_markAuthS.l0, List.append_nil]
      rw [if_neg (by rw [marksA_len]; omega)]
    | succ d ih =>
      intro i rest hr hi
      match rest, hr with
      | x :: rest, hr =>
        simp only [List.length_cons] at hr
        have hlen : i < (marksA i ++ x :: rest).length := by rw [List.length_append, marksA_len, List.length_cons]; omega
        have hset : ∀ v, (marksA i ++ x :: rest).set i v = marksA i ++ v :: rest := by
          intro v
          rw [List.set_append_right _ _ (by rw [marksA_len]; omega), marksA_len]; simp
        have hr' := ih (i + 1) rest (by omega) (by omega)
        rw [marksA_succ, List.append_assoc] at hr'
        have e : i + 1 + d = i + (d + 1) := by omega
        rw [e] at hr'
        refine Ev.step (fun k => ?_) hr'
        simp only [laws_markAuthS.l0]
        have a1 : wrap64 (((1 + 3 * i : Nat) : Int) + 1) = ((2 + 3 * i : Nat) : Int) := by rw [w64 (by omega) (by omega)]; omega
        rw [if_pos (by omega), if_pos (by omega), a1]
        clear a1
        have a2 : wrap64 (((2 + 3 * i : Nat) : Int) + 1) = ((3 + 3 * i : Nat) : Int) := by rw [w64 (by omega) (by omega)]; omega
        rw [a2]
        clear a2
        have a3 : wrap64 (((3 + 3 * i : Nat) : Int) + 1) = ((1 + 3 * (i + 1) : Nat) : Int) := by rw [w64 (by omega) (by omega)]; omega
        rw [a3]
        clear a3
        have a4 : wrap64 ((i : Int) + 1) = ((i + 1 : Nat) : Int) := by rw [w64 (by omega) (by omega)]; omega
        rw [a4, Int.toNat_natCast]
        simp only [Option.bind_some, List.set_set]
        rw [rd_set_auth _ _ _ hlen, rd_set_auth _ _ _ hlen, hset]
        rfl
  unfold laws_markAuthS.f
  have := loop l.length 0 l rfl (by omega)
  simpa [marksA] using this
theorem laws_heldAuthS_ev (n : Nat) (hl : n ≤ 1073741824) : Ev (fun k => laws_heldAuthS.f k (marksA n) 1) ((1 + 3 * n : Nat) : Int) := by
  have loop : ∀ d i : Nat, i + d = n → Ev (fun k => laws_heldAuthS.l0 k (marksA n) ((1 + 3 * i : Nat) : Int) (i : Int)) ((1 + 3 * n : Nat) : Int) := by
    intro d
    induction d with
    | zero =>
      intro i hi
      have : i = n := by omega
      subst this
      refine Ev.step (f := fun _ => some ((1 + 3 * i : Nat) : Int)) (fun k => ?_) (Ev.now _)
      simp only [laws_heldAuthS.l0]
      rw [if_neg (by rw [marksA_len]; omega)]
    | succ d ih =>
      intro i hi
      refine Ev.step (fun k => ?_) (ih (i + 1) (by omega))
      have hrd : rd_T28 (marksA n) (i : Int) = ⟨((1 + 3 * i : Nat) : Int), ((2 + 3 * i : Nat) : Int), ((3 + 3 * i : Nat) : Int)⟩ := by
        unfold rd_T28 marksA
        rw [Int.toNat_natCast, List.getD_eq_getElem?_getD, List.getElem?_map, List.getElem?_range (by omega)]; rfl
      simp only [laws_heldAuthS.l0]
      rw [if_pos (by rw [marksA_len]; omega), if_pos (by omega), hrd]
      have a1 : wrap64 (((1 + 3 * i : Nat) : Int) + 1) = ((2 + 3 * i : Nat) : Int) := by rw [w64 (by omega) (by omega)]; omega
      rw [a1]
      clear a1
      have a2 : wrap64 (((2 + 3 * i : Nat) : Int) + 1) = ((3 + 3 * i : Nat) : Int) := by rw [w64 (by omega) (by omega)]; omega
      rw [a2]
      clear a2
      have a3 : wrap64 (((3 + 3 * i : Nat) : Int) + 1) = ((1 + 3 * (i + 1) : Nat) : Int) := by rw [w64 (by omega) (by omega)]; omega
      rw [a3]
      clear a3
      have a4 : wrap64 ((i : Int) + 1) = ((i + 1 : Nat) : Int) := by rw [w64 (by omega) (by omega)]; omega
      rw [a4]
      simp only [if_true]
  unfold laws_heldAuthS.f
  exact loop n 0 (by omega)

theorem laws_markCache_ev (q : Int) (l : List S28) (hl : l.length ≤ 1073741824) : Ev (fun k => laws_markCache.f k q l 1) (((1 + 3 * l.length : Nat) : Int), marksA l.length) := by
  unfold laws_markCache.f
  exact Ev.bind (laws_markAuthS_ev l hl) (Ev.now _)

theorem laws_heldCache_ev (q : Int) (n : Nat) (hl : n ≤ 1073741824) : Ev (fun k => laws_heldCache.f k q (marksA n) 1) ((1 + 3 * n : Nat) : Int) := by
  unfold laws_heldCache.f
  refine Ev.bind (laws_heldAuthS_ev n hl) ?_
  have : ¬ (((1 + 3 * n : Nat) : Int) < 0) := by omega
  simp only [this, if_false]
  exact Ev.now _

theorem FnExactCacheTry : ∀ (a0_0 : Int) (l0_1 : List S39) (a1_0 : Int) (a1_1 : Int) (a1_2 : Int) (a2 : Int) (a3 : Int), (Lit.int .i64 a0_0).wf = true → (∀ a ∈ l0_1, (Lit.int .i64 a.f0).wf = true ∧ (Lit.int .i64 a.f1).wf = true ∧ (Lit.int .i64 a.f2).wf = true) → l0_1.length ≤ maxLen → (Lit.int .i64 a1_0).wf = true → (Lit.int .i64 a1_1).wf = true → (Lit.int .i64 a1_2).wf = true → (Lit.int .i64 a2).wf = true → (Lit.int .i64 a3).wf = true → ∃ k, laws_FnExactCacheTry.f k a0_0 l0_1 a1_0 a1_1 a1_2 a2 a3 = some true := by
  intro n l0 c t q now skew _ _ hl _ _ _ _ _
  apply Ev.rounds
  obtain ⟨r, e, h1, h2⟩ := laws_szCache_eq n l0 1048576 (by omega) (by omega) hl
  unfold laws_FnExactCacheTry.f
  simp only [e, Option.bind_some]
  by_cases h : r < 0
  · simp only [h, if_true]
    exact Ev.now _
  · have g1 : l0.length ≤ 1048576 := by have := h2 h; omega
    have g2 : (toA l0).length ≤ 1048576 := by rw [toA_len]; exact g1
    simp only [h, if_false, laws_toAuth_eq, Option.bind_some]
    have hto := laws_toCache_ev n l0 g1
    have hsp := spec_CacheTry_ev n (toA l0) c t q now skew g2
    have him := impl_CacheTry_ev n (toA l0) c t q now skew g2
    have hlen := tryS_len n (toA l0) c t q now skew g2
    obtain ⟨⟨m, b, code⟩, hm⟩ : ∃ p, p = tryS n (toA l0) c t q now skew := ⟨_, rfl⟩
    rw [← hm] at hsp him hlen
    simp only at hlen
    have heq := laws_eqCache_self m b (by omega)
    have hheld := laws_heldCache_ev m b.length (by omega)
    have neg : ¬ (((1 + 3 * b.length : Nat) : Int) < 0) := by omega
    have neg2 : ¬ (((1 + 3 * (toA l0).length : Nat) : Int) < 0) := by omega
    have last : Ev (fun k => laws_FnExactCacheTry.j2 k ((1 + 3 * b.length : Nat) : Int) false m (marksA b.length)) true := by
      refine Ev.step (fun k => by simp only [laws_FnExactCacheTry.j2]; rw [if_neg (by decide)]) (Ev.bind hheld ?_)
      simp only [neg, if_true, if_false]
      exact Ev.now _
    have mid : Ev (fun k => laws_FnExactCacheTry.j1 k now skew code false n l0 c t q m b m b) true := by
      refine Ev.step (fun k => by simp only [laws_FnExactCacheTry.j1]; rw [if_neg (by decide)]) (Ev.bind (laws_markCache_ev m b (by omega)) (Ev.bind hheld ?_))
      simp only [neg, if_true, if_false, laws_toAuth_eq, Option.bind_some]
      refine Ev.bind hto (Ev.bind him (Ev.bind heq ?_))
      simp only [if_true, bne_self_eq_false]
      exact last
    have first : Ev (fun k => laws_FnExactCacheTry.j0 k now skew code code false n l0 c t q m b n (toA l0) m b) true := by
      refine Ev.step (fun k => by simp only [laws_FnExactCacheTry.j0]; rw [if_neg (by decide)]) (Ev.bind hto (Ev.bind (laws_eqCache_self n (toA l0) (by omega)) ?_))
      simp only [if_true]
      refine Ev.bind (laws_markCache_ev n (toA l0) (by omega)) ?_
      simp only [neg2, if_false]
      refine Ev.bind heq ?_
      simp only [if_true, bne_self_eq_false]
      exact mid
    refine Ev.bind hto (Ev.bind hsp (Ev.bind hto (Ev.bind him (Ev.bind heq ?_))))
    simp only [if_true, bne_self_eq_false]
    exact first

end Go.Proofs.Ytnpbafgnfdadhaa.Pure
