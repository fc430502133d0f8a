/- The next hop is a realm that is linked, and one nearer; where it says none there is no way: for all codes. -/
import Derived.Test.YtmhjpnjolgigmaaOFnWayx13
import Derived.Test.YtmhjpnjolgigmaaBase
import Derived.Test.YtmhjpnjolgigmaaTerms
import Derived.Test.YtmhjpnjolgigmaaDraws
namespace Go.Proofs.Ytmhjpnjolgigmaa.Pure
open Go.RowKit Go.Proofs.Ytmhjpnjolgigmaa.OFnWay Go.Proofs.YtmhjpnjolgigmaaW.PrintWords Go.Proofs.YtmhjpnjolgigmaaW.PrintLast Go.Proofs.YtmhjpnjolgigmaaW.PrintMore Go.Proofs.Ytmhjpnjolgigmaa.Base
set_option linter.unusedVariables false
set_option linter.unusedSimpArgs false
/-- At most so many numbers, all of a kind. -/
def allP (ok : Int → Prop) (l : List Int) (most : Int) : Prop := (l.length : Int) ≤ most ∧ ∀ i, i < l.length → ok (rd l (i : Int))
noncomputable def allB (ok : Int → Prop) (l : List Int) (most : Int) : Bool := @decide (allP ok l most) (Classical.propDecidable _)
theorem allB_t {ok : Int → Prop} {l : List Int} {most : Int} (h : allP ok l most) : allB ok l most = true := @decide_eq_true _ (Classical.propDecidable _) h
theorem allB_f {ok : Int → Prop} {l : List Int} {most : Int} (h : ¬ allP ok l most) : allB ok l most = false := @decide_eq_false _ (Classical.propDecidable _) h
theorem allB_out {ok : Int → Prop} {l : List Int} {most : Int} (h : allB ok l most = true) : allP ok l most := by
  by_cases hp : allP ok l most
  · exact hp
  · rw [allB_f hp] at h; cases h
def ok3 (x : Int) : Prop := 0 ≤ x ∧ x < 3

theorem spec_l5All_ev (l : List Int) (most : Int) (hl : l.length ≤ 1048576) : Ev (fun k => spec_l5All.f k l most 3) (allB ok3 l most) := by
  unfold spec_l5All.f
  by_cases h6 : (l.length : Int) > most
  · rw [allB_f (fun hp => by have := hp.1; omega)]
    simp only [h6, if_true]
    exact Ev.now _
  · simp only [h6, if_false]
    have loop : ∀ d i : Nat, i + d = l.length → (∀ j, j < i → ok3 (rd l (j : Int))) → Ev (fun k => spec_l5All.l0 k l 3 (i : Int)) (allB ok3 l most) := by
      intro d
      induction d with
      | zero =>
        intro i hi hj
        refine Ev.step (f := fun _ => some true) (fun k => ?_) (ev_eq (Ev.now _) (allB_t ⟨by omega, fun j h => hj j (by omega)⟩).symm)
        simp only [spec_l5All.l0]
        rw [if_neg (by omega)]
      | succ d ih =>
        intro i hi hj
        have hlt : i < l.length := by omega
        have e2 : wrap64 ((i : Int) + 1) = ((i + 1 : Nat) : Int) := by rw [w64 (x := (i : Int) + 1) (by omega) (by omega)]; omega
        have c1 : (i : Int) < (l.length : Int) := by omega
        have c2 : 0 ≤ (i : Int) := by omega
        by_cases a1 : rd l (i : Int) < 0
        · refine Ev.step (f := fun _ => some false) (fun k => ?_) (ev_eq (Ev.now _) (allB_f (fun hp => by have := hp.2 i hlt; unfold ok3 at this; omega)).symm)
          simp only [spec_l5All.l0, c1, c2, if_true, a1]
        · by_cases a2 : rd l (i : Int) ≥ 3
          · refine Ev.step (f := fun _ => some false) (fun k => ?_) (ev_eq (Ev.now _) (allB_f (fun hp => by have := hp.2 i hlt; unfold ok3 at this; omega)).symm)
            simp only [spec_l5All.l0, c1, c2, if_true, a1, if_false, a2]
          · refine Ev.step (fun k => ?_) (ih (i + 1) (by omega) (fun j h => ?_))
            · simp only [spec_l5All.l0, c1, c2, if_true, a1, if_false, a2, e2]
            · by_cases hji : j = i
              · subst hji; unfold ok3; omega
              · exact hj j (by omega)
    exact loop l.length 0 (by omega) (fun j h => by omega)

noncomputable def inP (x : S42) (l : List S42) : Bool := @decide (x ∈ l) (Classical.propDecidable _)
theorem inP_t {x : S42} {l : List S42} (h : x ∈ l) : inP x l = true := @decide_eq_true _ (Classical.propDecidable _) h
theorem inP_f {x : S42} {l : List S42} (h : ¬ x ∈ l) : inP x l = false := @decide_eq_false _ (Classical.propDecidable _) h
theorem inP_nil (x : S42) : inP x [] = false := inP_f (by simp)
theorem inP_eq {s x : S42} {l : List S42} (h : x = s) : inP s (x :: l) = true := inP_t (by simp [h])
theorem inP_ne {s x : S42} {l : List S42} (h : ¬ x = s) : inP s (x :: l) = inP s l := by
  have : ¬ s = x := fun e => h e.symm
  by_cases hs : s ∈ l
  · rw [inP_t hs, inP_t (List.mem_cons_of_mem _ hs)]
  · rw [inP_f hs, inP_f (by simp [hs, this])]
theorem inP_iff {s : S42} {l : List S42} {b : Bool} (h : b = true ↔ s ∈ l) : b = inP s l := by
  by_cases hs : s ∈ l
  · rw [inP_t hs, h.2 hs]
  · rw [inP_f hs]; cases b with
    | true => exact absurd (h.1 rfl) hs
    | false => rfl
theorem inP_or (x : S42) (l : List S42) : (x ∈ l ∧ inP x l = true) ∨ (¬ x ∈ l ∧ inP x l = false) := by
  by_cases h : x ∈ l
  · exact .inl ⟨h, inP_t h⟩
  · exact .inr ⟨h, inP_f h⟩
theorem sameP (x : S42) (a b : Int) : ((x.f0 == a) && (x.f1 == b)) = true ↔ x = ⟨a, b⟩ := by
  obtain ⟨c, d⟩ := x
  simp
theorem sameP' (x : S42) (a b : Int) : ((a == x.f0) && (b == x.f1)) = true ↔ x = ⟨a, b⟩ := by
  obtain ⟨c, d⟩ := x
  simp only [Bool.and_eq_true, beq_iff_eq]
  constructor
  · rintro ⟨rfl, rfl⟩; rfl
  · intro h; cases h; exact ⟨rfl, rfl⟩
theorem rdP_get (l : List S42) (i : Nat) (h : i < l.length) : rd_T42 l (i : Int) = l[i] := by
  unfold rd_T42
  rw [Int.toNat_natCast, List.getD_eq_getElem?_getD, List.getElem?_eq_getElem h]; rfl
def pairsP (ok : S42 → Prop) (l : List S42) : Prop := l.length ≤ 6 ∧ ∀ i, i < l.length → ok (rd_T42 l (i : Int)) ∧ ¬ (rd_T42 l (i : Int) ∈ l.take i)
noncomputable def pairsB (ok : S42 → Prop) (l : List S42) : Bool := @decide (pairsP ok l) (Classical.propDecidable _)
theorem pairsB_t {ok : S42 → Prop} {l : List S42} (h : pairsP ok l) : pairsB ok l = true := @decide_eq_true _ (Classical.propDecidable _) h
theorem pairsB_f {ok : S42 → Prop} {l : List S42} (h : ¬ pairsP ok l) : pairsB ok l = false := @decide_eq_false _ (Classical.propDecidable _) h
theorem pairsB_out {ok : S42 → Prop} {l : List S42} (h : pairsB ok l = true) : pairsP ok l := by
  by_cases hp : pairsP ok l
  · exact hp
  · rw [pairsB_f hp] at h; cases h
def okLink (p : S42) : Prop := (0 ≤ p.f0 ∧ p.f0 < 3) ∧ (0 ≤ p.f1 ∧ p.f1 < 3) ∧ p.f0 ≠ p.f1
def okProxy (p : S42) : Prop := (0 ≤ p.f0 ∧ p.f0 < 3) ∧ (0 ≤ p.f1 ∧ p.f1 < 3)
noncomputable def confB (us ss : List Int) (ls ps : List S42) (skew : Int) : Bool :=
  if (us.length : Int) = 3 then (if allB ok3 us 3 = true then (if (ss.length : Int) = 3 then (if allB ok3 ss 3 = true then (if pairsB okLink ls = true then (if pairsB okProxy ps = true then decide (0 ≤ skew ∧ skew ≤ 20) else false) else false) else false) else false) else false) else false

theorem spec_l6Has_ev (l : List S42) (a b : Int) (hl : l.length ≤ 1073741824) : Ev (fun k => spec_l6Has.f k l a b) (inP ⟨a, b⟩ l) := by
  have loop : ∀ d i : Nat, i + d = l.length → Ev (fun k => spec_l6Has.l0 k l (i : Int) a b) (inP ⟨a, b⟩ (l.drop i)) := by
    intro d
    induction d with
    | zero =>
      intro i hi
      refine Ev.step (f := fun _ => some false) (fun k => ?_) (ev_eq (Ev.now _) ?_)
      · simp only [spec_l6Has.l0]
        rw [if_neg (by omega)]
      · rw [List.drop_of_length_le (by omega), inP_nil]
    | succ d ih =>
      intro i hi
      have hlt : i < l.length := by omega
      have e2 : wrap64 ((i : Int) + 1) = ((i + 1 : Nat) : Int) := by rw [w64 (x := (i : Int) + 1) (by omega) (by omega)]; omega
      rw [List.drop_eq_getElem_cons hlt]
      by_cases h : l[i] = ⟨a, b⟩
      · refine Ev.step (f := fun _ => some true) (fun k => ?_) (ev_eq (Ev.now _) (inP_eq h).symm)
        simp only [spec_l6Has.l0]
        rw [if_pos (by omega), if_pos (by omega), rdP_get _ _ hlt, if_pos ((sameP _ _ _).2 h)]
      · refine Ev.step (fun k => ?_) (ev_eq (ih (i + 1) (by omega)) (inP_ne h).symm)
        simp only [spec_l6Has.l0]
        rw [if_pos (by omega), if_pos (by omega), rdP_get _ _ hlt, if_neg (fun e => h ((sameP _ _ _).1 e)), e2]
  have := loop l.length 0 (by omega)
  unfold spec_l6Has.f
  simpa using this

theorem spec_l6Pairs_ev (l : List S42) (top : Int) (un : Bool) (ok : S42 → Prop) (hok : ∀ p : S42, ok p ↔ (0 ≤ p.f0 ∧ p.f0 < top) ∧ (0 ≤ p.f1 ∧ p.f1 < top) ∧ (un = true → p.f0 ≠ p.f1)) (hl : l.length ≤ 1048576) : Ev (fun k => spec_l6Pairs.f k l top un) (pairsB ok l) := by
  unfold spec_l6Pairs.f
  by_cases h6 : (l.length : Int) > 6
  · rw [pairsB_f (fun hp => by have := hp.1; omega)]
    simp only [h6, if_true]
    exact Ev.now _
  · simp only [h6, if_false]
    have loop : ∀ d i : Nat, i + d = l.length → (∀ j, j < i → ok (rd_T42 l (j : Int)) ∧ ¬ (rd_T42 l (j : Int) ∈ l.take j)) → Ev (fun k => spec_l6Pairs.l0 k l top un (i : Int)) (pairsB ok l) := by
      intro d
      induction d with
      | zero =>
        intro i hi hj
        refine Ev.step (f := fun _ => some true) (fun k => ?_) (ev_eq (Ev.now _) (pairsB_t ⟨by omega, fun j h => hj j (by omega)⟩).symm)
        simp only [spec_l6Pairs.l0]
        rw [if_neg (by omega)]
      | succ d ih =>
        intro i hi hj
        have hlt : i < l.length := by omega
        have e2 : wrap64 ((i : Int) + 1) = ((i + 1 : Nat) : Int) := by rw [w64 (x := (i : Int) + 1) (by omega) (by omega)]; omega
        obtain ⟨p, hp⟩ : ∃ p, p = rd_T42 l (i : Int) := ⟨_, rfl⟩
        have bad : ¬ ok p → pairsB ok l = false := fun h => pairsB_f (fun hq => h (by rw [hp]; exact (hq.2 i hlt).1))
        have c1 : (i : Int) < (l.length : Int) := by omega
        have c2 : 0 ≤ (i : Int) := by omega
        have c3 : (i : Int) ≤ (l.length : Int) := by omega
        have tail : ok p → Ev (fun k => (spec_l6Has.f k (l.take i) p.f0 p.f1).bind fun t => (if t = true then some false else spec_l6Pairs.l0 k l top un ((i + 1 : Nat) : Int))) (pairsB ok l) := by
          intro hk
          refine Ev.bind (spec_l6Has_ev (l.take i) p.f0 p.f1 (by rw [List.length_take]; omega)) ?_
          rcases inP_or p (l.take i) with ⟨h1, h2⟩ | ⟨h1, h2⟩
          · have h2' : inP (⟨p.f0, p.f1⟩ : S42) (l.take i) = true := h2
            rw [h2']
            simp only [if_true]
            exact ev_eq (Ev.now _) (pairsB_f (fun hq => (hq.2 i hlt).2 (by rw [← hp]; exact h1))).symm
          · have h2' : inP (⟨p.f0, p.f1⟩ : S42) (l.take i) = false := h2
            rw [h2']
            simp only [Bool.false_eq_true, if_false]
            refine ih (i + 1) (by omega) (fun j h => ?_)
            by_cases hji : j = i
            · subst hji; rw [← hp]; exact ⟨hk, h1⟩
            · exact hj j (by omega)
        by_cases a1 : p.f0 < 0
        · refine Ev.step (f := fun _ => some false) (fun k => ?_) (ev_eq (Ev.now _) (bad (fun h => by have := (hok p).1 h; omega)).symm)
          simp only [spec_l6Pairs.l0, ← hp, c1, c2, if_true, a1]
        · by_cases a2 : p.f0 ≥ top
          · refine Ev.step (f := fun _ => some false) (fun k => ?_) (ev_eq (Ev.now _) (bad (fun h => by have := (hok p).1 h; omega)).symm)
            simp only [spec_l6Pairs.l0, ← hp, c1, c2, if_true, a1, if_false, a2]
          · by_cases a3 : p.f1 < 0
            · refine Ev.step (f := fun _ => some false) (fun k => ?_) (ev_eq (Ev.now _) (bad (fun h => by have := (hok p).1 h; omega)).symm)
              simp only [spec_l6Pairs.l0, ← hp, c1, c2, if_true, a1, if_false, a2, a3]
            · by_cases a4 : p.f1 ≥ top
              · refine Ev.step (f := fun _ => some false) (fun k => ?_) (ev_eq (Ev.now _) (bad (fun h => by have := (hok p).1 h; omega)).symm)
                simp only [spec_l6Pairs.l0, ← hp, c1, c2, if_true, a1, if_false, a2, a3, a4]
              · cases un with
                | true =>
                  by_cases a5 : p.f0 = p.f1
                  · refine Ev.step (f := fun _ => some false) (fun k => ?_) (ev_eq (Ev.now _) (bad (fun h => ((hok p).1 h).2.2 rfl a5)).symm)
                    simp only [spec_l6Pairs.l0, ← hp, c1, c2, if_true, a1, if_false, a2, a3, a4]
                    rw [if_pos a5]
                  · refine Ev.step (fun k => ?_) (tail ((hok p).2 ⟨by omega, by omega, fun _ => a5⟩))
                    simp only [spec_l6Pairs.l0, ← hp, c1, c2, c3, if_true, a1, if_false, a2, a3, a4, e2, Int.toNat_natCast]
                    rw [if_neg a5]
                | false =>
                  refine Ev.step (fun k => ?_) (tail ((hok p).2 ⟨by omega, by omega, fun h => by cases h⟩))
                  simp only [spec_l6Pairs.l0, ← hp, c1, c2, c3, if_true, a1, if_false, a2, a3, a4, e2, Int.toNat_natCast, Bool.false_eq_true]
    exact loop l.length 0 (by omega) (fun j h => by omega)

theorem spec_l1In_eq (a lo hi : Int) : spec_l1In.f a lo hi = some (decide (lo ≤ a ∧ a ≤ hi)) := by
  unfold spec_l1In.f
  by_cases h : a ≥ lo
  · rw [if_pos h]; congr 1; simp [show lo ≤ a from h]
  · rw [if_neg h]; congr 1; simp [show ¬ lo ≤ a from h]

theorem spec_ConfigOk_ev (us ss : List Int) (ls ps : List S42) (skew : Int) (h1 : us.length ≤ 1048576) (h2 : ss.length ≤ 1048576) (h3 : ls.length ≤ 1048576) (h4 : ps.length ≤ 1048576) : Ev (fun k => spec_ConfigOk.f k us ss ls ps skew) (confB us ss ls ps skew) := by
  unfold spec_ConfigOk.f confB
  by_cases a1 : (us.length : Int) = 3
  · simp only [a1, if_true]
    refine Ev.bind (spec_l5All_ev us 3 h1) ?_
    by_cases a2 : allB ok3 us 3 = true
    · simp only [a2, if_true]
      by_cases a3 : (ss.length : Int) = 3
      · simp only [a3, if_true]
        refine Ev.bind (spec_l5All_ev ss 3 h2) ?_
        by_cases a4 : allB ok3 ss 3 = true
        · simp only [a4, if_true]
          refine Ev.bind (spec_l6Pairs_ev ls 3 true okLink (fun p => by unfold okLink; simp) h3) ?_
          by_cases a5 : pairsB okLink ls = true
          · simp only [a5, if_true]
            refine Ev.bind (spec_l6Pairs_ev ps 3 false okProxy (fun p => by unfold okProxy; simp) h4) ?_
            by_cases a6 : pairsB okProxy ps = true
            · simp only [a6, if_true, spec_l1In_eq, Option.bind_some]; exact Ev.now _
            · simp only [a6, if_false, Bool.false_eq_true]; exact Ev.now _
          · simp only [a5, if_false, Bool.false_eq_true]; exact Ev.now _
        · simp only [a4, if_false, Bool.false_eq_true]; exact Ev.now _
      · simp only [a3, if_false]; exact Ev.now _
    · simp only [a2, if_false, Bool.false_eq_true]; exact Ev.now _
  · simp only [a1, if_false]; exact Ev.now _

theorem laws_big_eq (l : List Int) : laws_big.f l = some (decide ((l.length : Int) > 1048576)) := rfl

theorem spec_l1New_ok (l : List Int) (hl : l.length ≤ 140737488351232) : ∃ h : Int, Ev (fun k => spec_l1New.f k l) (l, 0, h) := by
  have loop : ∀ (d i : Nat) (h : Int), i + d = l.length → ∃ h' : Int, Ev (fun k => spec_l1New.l0 k l h (i : Int)) (l, 0, h') := by
    intro d
    induction d with
    | zero =>
      intro i h hi
      refine ⟨h, Ev.step (f := fun _ => some (l, 0, h)) (fun k => ?_) (Ev.now _)⟩
      simp only [spec_l1New.l0]
      rw [if_neg (by omega)]
    | succ d ih =>
      intro i h hi
      by_cases h4 : (i : Int) < 4000
      · obtain ⟨h', hh⟩ := ih (i + 1) (Go.bits .and .i64 (wrap64 ((wrap64 ((wrap64 (h * 131)) + (wrap64 (rd l (i : Int))))) + 7)) 1073741823) (by omega)
        refine ⟨h', Ev.step (fun k => ?_) hh⟩
        simp only [spec_l1New.l0]
        rw [if_pos (by omega), if_pos h4, if_pos (by omega), w64 (x := (i : Int) + 1) (by omega) (by omega)]
        rfl
      · refine ⟨h, Ev.step (f := fun _ => some (l, 0, h)) (fun k => ?_) (Ev.now _)⟩
        simp only [spec_l1New.l0]
        rw [if_pos (by omega), if_neg h4]
  unfold spec_l1New.f
  exact loop l.length 0 _ (by omega)

theorem spec_l1Byte_ok (b : List Int) (i h : Int) (hb : b.length ≤ 140737488351232) (hi : 0 ≤ i) : ∃ x i' h' : Int, spec_l1Byte.f b i h = some (x, i', h') ∧ 0 ≤ x ∧ x ≤ 255 ∧ 0 ≤ i' := by
  unfold spec_l1Byte.f
  by_cases h1 : i < (b.length : Int)
  · rw [if_pos h1, if_pos hi]
    refine ⟨_, _, _, rfl, (band255 _).1, (band255 _).2, ?_⟩
    rw [w64 (by omega) (by omega)]; omega
  · rw [if_neg h1]
    exact ⟨_, _, _, rfl, (band255 _).1, (band255 _).2, hi⟩

theorem spec_l1Below_ok (b : List Int) (i h n : Int) (hb : b.length ≤ 140737488351232) (hi : 0 ≤ i) (hn : 1 ≤ n) : ∃ x i' h' : Int, spec_l1Below.f b i h n = some (x, i', h') ∧ 0 ≤ x ∧ x < n ∧ 0 ≤ i' := by
  unfold spec_l1Below.f
  rw [if_neg (by omega)]
  have tm : ∀ y : Int, 0 ≤ y → 0 ≤ Int.tmod y n ∧ Int.tmod y n < n := fun y hy => ⟨Int.tmod_nonneg _ hy, Int.tmod_lt_of_pos _ (by omega)⟩
  by_cases h1 : n ≤ 256
  · rw [if_pos h1]
    obtain ⟨x, i', h', he, hx, _, hi'⟩ := spec_l1Byte_ok b i h hb hi
    rw [he, Option.bind_some, if_neg (by omega)]
    exact ⟨_, _, _, rfl, (tm x hx).1, (tm x hx).2, hi'⟩
  · rw [if_neg h1]
    obtain ⟨x1, i1, h1, he1, hx1, hy1, hi1⟩ := spec_l1Byte_ok b i h hb hi
    obtain ⟨x2, i2, h2, he2, hx2, hy2, hi2⟩ := spec_l1Byte_ok b i1 h1 hb hi1
    obtain ⟨x3, i3, h3, he3, hx3, hy3, hi3⟩ := spec_l1Byte_ok b i2 h2 hb hi2
    obtain ⟨x4, i4, h4, he4, hx4, hy4, hi4⟩ := spec_l1Byte_ok b i3 h3 hb hi3
    rw [he1, Option.bind_some, he2, Option.bind_some, he3, Option.bind_some, he4, Option.bind_some, if_neg (by omega)]
    rw [w64 (x := x1 * 16777216) (by omega) (by omega), w64 (x := x2 * 65536) (by omega) (by omega), w64 (x := x3 * 256) (by omega) (by omega), w64 (x := _ + x2 * 65536) (by omega) (by omega), w64 (x := _ + x3 * 256) (by omega) (by omega), w64 (x := _ + x4) (by omega) (by omega)]
    exact ⟨_, _, _, rfl, (tm _ (by omega)).1, (tm _ (by omega)).2, hi4⟩

theorem spec_l1PickInt_ok (b : List Int) (i h : Int) (l : List Int) (hb : b.length ≤ 140737488351232) (hi : 0 ≤ i) (hl : 1 ≤ l.length) : ∃ (x i' h' : Int), spec_l1PickInt.f b i h l = some (x, i', h') ∧ x ∈ l ∧ 0 ≤ i' := by
  unfold spec_l1PickInt.f
  obtain ⟨x, i', h', he, h0, h1, hi'⟩ := spec_l1Below_ok b i h (l.length : Int) hb hi (by omega)
  rw [he]
  simp only [Option.bind_some]
  rw [if_pos h0, if_pos h1]
  refine ⟨_, _, _, rfl, ?_, hi'⟩
  unfold rd
  rw [List.getD_eq_getElem?_getD, List.getElem?_eq_getElem (by omega)]
  exact List.getElem_mem _

theorem spec_l1Once_ok (b : List Int) (i h n : Int) (hb : b.length ≤ 140737488351232) (hi : 0 ≤ i) (hn : 1 ≤ n) : ∃ (x : Bool) (i' h' : Int), spec_l1Once.f b i h n = some (x, i', h') ∧ 0 ≤ i' := by
  unfold spec_l1Once.f
  obtain ⟨x, i', h', he, _, _, hi'⟩ := spec_l1Below_ok b i h n hb hi hn
  rw [he]
  exact ⟨_, _, _, rfl, hi'⟩

def cfgGood (r : List Int × List Int × List S42 × List S42 × Int × Int × Int) : Prop := 0 ≤ r.2.2.2.2.2.1 ∧ r.1.length = 3 ∧ r.2.1.length ≤ 4 ∧ r.2.2.1.length ≤ 10 ∧ r.2.2.2.1.length ≤ 10
def cfgH (F : Nat → Option (List Int × List Int × List S42 × List S42 × Int × Int × Int)) : Prop := ∃ r, Ev F r ∧ cfgGood r
theorem cfgH.step {F f : Nat → Option (List Int × List Int × List S42 × List S42 × Int × Int × Int)} (hs : ∀ k, F (k + 1) = f k) (h : cfgH f) : cfgH F := by
  obtain ⟨r, e, g⟩ := h
  exact ⟨r, Ev.step hs e, g⟩
theorem spec_l6Config_ok (b : List Int) (i h : Int) (hb : b.length ≤ 140737488351232) (hi : 0 ≤ i) : cfgH (fun k => spec_l6Config.f k b i h) := by
  have l5 : ∀ (e x9 : Nat) (x8 i h : Int) (us ss : List Int) (ls ps : List S42) (sk : Int), x9 + e = 3 → 0 ≤ i → ps.length + e ≤ 9 →
      (∀ (i h : Int) (ps' : List S42), 0 ≤ i → ps'.length ≤ ps.length + e → cfgH (fun k => spec_l6Config.l4 k (wrap64 (x8 + 1)) b i h us ss ls ps' sk)) → cfgH (fun k => spec_l6Config.l5 k x8 (x9 : Int) b i h us ss ls ps sk) := by
    intro e
    induction e with
    | zero =>
      intro x9 x8 i h us ss ls ps sk hx hi hp hn
      refine cfgH.step (f := fun k => spec_l6Config.l4 k (wrap64 (x8 + 1)) b i h us ss ls ps sk) (fun k => ?_) (hn i h ps hi (by omega))
      simp only [spec_l6Config.l5]
      rw [if_neg (by omega)]
    | succ e ih =>
      intro x9 x8 i h us ss ls ps sk hx hi hp hn
      have e2 : wrap64 ((x9 : Int) + 1) = ((x9 + 1 : Nat) : Int) := w64 (by omega) (by omega)
      have c1 : (x9 : Int) < 3 := by omega
      by_cases hq : x8 = (x9 : Int)
      · refine cfgH.step (f := fun k => spec_l6Config.l5 k x8 ((x9 + 1 : Nat) : Int) b i h us ss ls ps sk) (fun k => ?_) (ih (x9 + 1) x8 i h us ss ls ps sk (by omega) hi (by omega) (fun i h ps' h1 h2 => hn i h ps' h1 (by omega)))
        simp only [spec_l6Config.l5, c1, hq, if_true, e2]
      · obtain ⟨x, i1, h1, he, hi1⟩ := spec_l1Once_ok b i h 3 hb hi (by decide)
        cases x with
        | true =>
          refine cfgH.step (f := fun k => spec_l6Config.l5 k x8 ((x9 + 1 : Nat) : Int) b i1 h1 us ss ls ps sk) (fun k => ?_) (ih (x9 + 1) x8 i1 h1 us ss ls ps sk (by omega) hi1 (by omega) (fun i h ps' h1 h2 => hn i h ps' h1 (by omega)))
          simp only [spec_l6Config.l5, c1, hq, if_true, if_false, e2, he, Option.bind_some]
        | false =>
          have c2 : ps.length < 8796093022208 := by omega
          have hl : (ps ++ [(⟨x8, (x9 : Int)⟩ : S42)]).length = ps.length + 1 := by simp
          refine cfgH.step (f := fun k => spec_l6Config.l5 k x8 ((x9 + 1 : Nat) : Int) b i1 h1 us ss ls (ps ++ [(⟨x8, (x9 : Int)⟩ : S42)]) sk) (fun k => ?_) (ih (x9 + 1) x8 i1 h1 us ss ls _ sk (by omega) hi1 (by omega) (fun i h ps' h1 h2 => hn i h ps' h1 (by omega)))
          simp only [spec_l6Config.l5, c1, hq, if_true, if_false, e2, he, Option.bind_some, Bool.false_eq_true, c2]
  have l4 : ∀ (d x8 : Nat) (i h : Int) (us ss : List Int) (ls ps : List S42) (sk : Int), x8 + d = 3 → 0 ≤ i → us.length = 3 → ss.length = 3 → ls.length ≤ 9 → ps.length + 3 * d ≤ 9 →
      cfgH (fun k => spec_l6Config.l4 k (x8 : Int) b i h us ss ls ps sk) := by
    intro d
    induction d with
    | zero =>
      intro x8 i h us ss ls ps sk hx hi hu hs hl hp
      obtain ⟨x, i1, h1, he, hi1⟩ := spec_l1Once_ok b i h 3 hb hi (by decide)
      have c1 : ¬ (x8 : Int) < 3 := by omega
      have c2 : 0 < (us.length : Int) := by omega
      have c3 : 2 < (ss.length : Int) := by omega
      cases x with
      | true =>
        refine ⟨(us, [rd us 0, rd us 0, rd ss 2], ls, ps, sk, i1, h1), Ev.step (f := fun _ => some _) (fun k => ?_) (Ev.now _), hi1, hu, by simp, by show ls.length ≤ 10; omega, by show ps.length ≤ 10; omega⟩
        simp only [spec_l6Config.l4, c1, if_true, if_false, he, Option.bind_some, c2, c3]
      | false =>
        refine ⟨(us, ss, ls, ps, sk, i1, h1), Ev.step (f := fun _ => some _) (fun k => ?_) (Ev.now _), hi1, hu, by show ss.length ≤ 4; omega, by show ls.length ≤ 10; omega, by show ps.length ≤ 10; omega⟩
        simp only [spec_l6Config.l4, c1, if_false, he, Option.bind_some, Bool.false_eq_true]
    | succ d ih =>
      intro x8 i h us ss ls ps sk hx hi hu hs hl hp
      have e2 : wrap64 ((x8 : Int) + 1) = ((x8 + 1 : Nat) : Int) := w64 (by omega) (by omega)
      have c1 : (x8 : Int) < 3 := by omega
      refine cfgH.step (f := fun k => spec_l6Config.l5 k (x8 : Int) ((0 : Nat) : Int) b i h us ss ls ps sk) (fun k => ?_) (l5 3 0 (x8 : Int) i h us ss ls ps sk (by omega) hi (by omega) (fun i h ps' h1 h2 => ?_))
      · simp only [spec_l6Config.l4, c1, if_true]; rfl
      · rw [e2]
        exact ih (x8 + 1) i h us ss ls ps' sk (by omega) h1 hu hs hl (by omega)
  have l3 : ∀ (e x7 : Nat) (x6 i h : Int) (us ss : List Int) (ls : List S42) (sk : Int), x7 + e = 3 → 0 ≤ i → ls.length + e ≤ 9 →
      (∀ (i h : Int) (ls' : List S42), 0 ≤ i → ls'.length ≤ ls.length + e → cfgH (fun k => spec_l6Config.l2 k (wrap64 (x6 + 1)) b i h us ss ls' sk)) → cfgH (fun k => spec_l6Config.l3 k x6 (x7 : Int) b i h us ss ls sk) := by
    intro e
    induction e with
    | zero =>
      intro x7 x6 i h us ss ls sk hx hi hp hn
      refine cfgH.step (f := fun k => spec_l6Config.l2 k (wrap64 (x6 + 1)) b i h us ss ls sk) (fun k => ?_) (hn i h ls hi (by omega))
      simp only [spec_l6Config.l3]
      rw [if_neg (by omega)]
    | succ e ih =>
      intro x7 x6 i h us ss ls sk hx hi hp hn
      have e2 : wrap64 ((x7 : Int) + 1) = ((x7 + 1 : Nat) : Int) := w64 (by omega) (by omega)
      have c1 : (x7 : Int) < 3 := by omega
      by_cases hq : x6 = (x7 : Int)
      · refine cfgH.step (f := fun k => spec_l6Config.l3 k x6 ((x7 + 1 : Nat) : Int) b i h us ss ls sk) (fun k => ?_) (ih (x7 + 1) x6 i h us ss ls sk (by omega) hi (by omega) (fun i h ls' h1 h2 => hn i h ls' h1 (by omega)))
        simp only [spec_l6Config.l3, c1, hq, if_true, e2]
      · obtain ⟨x, i1, h1, he, hi1⟩ := spec_l1Once_ok b i h 3 hb hi (by decide)
        cases x with
        | true =>
          refine cfgH.step (f := fun k => spec_l6Config.l3 k x6 ((x7 + 1 : Nat) : Int) b i1 h1 us ss ls sk) (fun k => ?_) (ih (x7 + 1) x6 i1 h1 us ss ls sk (by omega) hi1 (by omega) (fun i h ls' h1 h2 => hn i h ls' h1 (by omega)))
          simp only [spec_l6Config.l3, c1, hq, if_true, if_false, e2, he, Option.bind_some]
        | false =>
          have c2 : ls.length < 8796093022208 := by omega
          have hl : (ls ++ [(⟨x6, (x7 : Int)⟩ : S42)]).length = ls.length + 1 := by simp
          refine cfgH.step (f := fun k => spec_l6Config.l3 k x6 ((x7 + 1 : Nat) : Int) b i1 h1 us ss (ls ++ [(⟨x6, (x7 : Int)⟩ : S42)]) sk) (fun k => ?_) (ih (x7 + 1) x6 i1 h1 us ss _ sk (by omega) hi1 (by omega) (fun i h ls' h1 h2 => hn i h ls' h1 (by omega)))
          simp only [spec_l6Config.l3, c1, hq, if_true, if_false, e2, he, Option.bind_some, Bool.false_eq_true, c2]
  have l2 : ∀ (d x6 : Nat) (i h : Int) (us ss : List Int) (ls : List S42) (sk : Int), x6 + d = 3 → 0 ≤ i → us.length = 3 → ss.length = 3 → ls.length + 3 * d ≤ 9 →
      cfgH (fun k => spec_l6Config.l2 k (x6 : Int) b i h us ss ls sk) := by
    intro d
    induction d with
    | zero =>
      intro x6 i h us ss ls sk hx hi hu hs hl
      have c1 : ¬ (x6 : Int) < 3 := by omega
      refine cfgH.step (f := fun k => spec_l6Config.l4 k ((0 : Nat) : Int) b i h us ss ls [] sk) (fun k => ?_) (l4 3 0 i h us ss ls [] sk (by omega) hi hu hs (by omega) (by simp))
      simp only [spec_l6Config.l2, c1, if_false]; rfl
    | succ d ih =>
      intro x6 i h us ss ls sk hx hi hu hs hl
      have e2 : wrap64 ((x6 : Int) + 1) = ((x6 + 1 : Nat) : Int) := w64 (by omega) (by omega)
      have c1 : (x6 : Int) < 3 := by omega
      refine cfgH.step (f := fun k => spec_l6Config.l3 k (x6 : Int) ((0 : Nat) : Int) b i h us ss ls sk) (fun k => ?_) (l3 3 0 (x6 : Int) i h us ss ls sk (by omega) hi (by omega) (fun i h ls' h1 h2 => ?_))
      · simp only [spec_l6Config.l2, c1, if_true]; rfl
      · rw [e2]
        exact ih (x6 + 1) i h us ss ls' sk (by omega) h1 hu hs (by omega)
  have l1 : ∀ (d x5 : Nat) (i h : Int) (us ss : List Int) (sk : Int), x5 + d = 3 → 0 ≤ i → us.length = 3 → ss.length = x5 →
      cfgH (fun k => spec_l6Config.l1 k (x5 : Int) b i h us ss sk) := by
    intro d
    induction d with
    | zero =>
      intro x5 i h us ss sk hx hi hu hs
      have c1 : ¬ (x5 : Int) < 3 := by omega
      refine cfgH.step (f := fun k => spec_l6Config.l2 k ((0 : Nat) : Int) b i h us ss [] sk) (fun k => ?_) (l2 3 0 i h us ss [] sk (by omega) hi hu (by omega) (by simp))
      simp only [spec_l6Config.l1, c1, if_false]; rfl
    | succ d ih =>
      intro x5 i h us ss sk hx hi hu hs
      have e2 : wrap64 ((x5 : Int) + 1) = ((x5 + 1 : Nat) : Int) := w64 (by omega) (by omega)
      have c1 : (x5 : Int) < 3 := by omega
      have c2 : ss.length < 17592186044416 := by omega
      obtain ⟨x, i1, h1, he, _, _, hi1⟩ := spec_l1Below_ok b i h 3 hb hi (by decide)
      refine cfgH.step (f := fun k => spec_l6Config.l1 k ((x5 + 1 : Nat) : Int) b i1 h1 us (ss ++ [x]) sk) (fun k => ?_) (ih (x5 + 1) i1 h1 us (ss ++ [x]) sk (by omega) hi1 hu (by simp; omega))
      simp only [spec_l6Config.l1, c1, if_true, he, Option.bind_some, c2, e2]
  have l0 : ∀ (d x4 : Nat) (i h : Int) (us : List Int) (sk : Int), x4 + d = 3 → 0 ≤ i → us.length = x4 →
      cfgH (fun k => spec_l6Config.l0 k (x4 : Int) b i h us sk) := by
    intro d
    induction d with
    | zero =>
      intro x4 i h us sk hx hi hu
      have c1 : ¬ (x4 : Int) < 3 := by omega
      refine cfgH.step (f := fun k => spec_l6Config.l1 k ((0 : Nat) : Int) b i h us [] sk) (fun k => ?_) (l1 3 0 i h us [] sk (by omega) hi (by omega) (by simp))
      simp only [spec_l6Config.l0, c1, if_false]; rfl
    | succ d ih =>
      intro x4 i h us sk hx hi hu
      have e2 : wrap64 ((x4 : Int) + 1) = ((x4 + 1 : Nat) : Int) := w64 (by omega) (by omega)
      have c1 : (x4 : Int) < 3 := by omega
      have c2 : us.length < 17592186044416 := by omega
      obtain ⟨x, i1, h1, he, _, _, hi1⟩ := spec_l1Below_ok b i h 3 hb hi (by decide)
      refine cfgH.step (f := fun k => spec_l6Config.l0 k ((x4 + 1 : Nat) : Int) b i1 h1 (us ++ [x]) sk) (fun k => ?_) (ih (x4 + 1) i1 h1 (us ++ [x]) sk (by omega) hi1 (by simp; omega))
      simp only [spec_l6Config.l0, c1, if_true, he, Option.bind_some, c2, e2]
  obtain ⟨x1, i1, h1, he1, _, hi1⟩ := spec_l1PickInt_ok b i h [0, 2, 5, 5, 20] hb hi (by decide)
  obtain ⟨r, e, g⟩ := l0 3 0 i1 h1 [] x1 (by omega) hi1 rfl
  refine ⟨r, ?_, g⟩
  unfold spec_l6Config.f
  simp only [he1, Option.bind_some]
  exact e

theorem spec_l6Any_ok (b : List Int) (i h : Int) (hb : b.length ≤ 140737488351232) (hi : 0 ≤ i) : ∃ (us ss : List Int) (ls ps : List S42) (sk i' h' : Int), Ev (fun k => spec_l6Any.f k b i h) (us, ss, ls, ps, sk, i', h') ∧ 0 ≤ i' ∧ us.length ≤ 1048576 ∧ ss.length ≤ 1048576 ∧ ls.length ≤ 1048576 ∧ ps.length ≤ 1048576 := by
  unfold spec_l6Any.f
  obtain ⟨⟨us, ss, ls, ps, sk, i0, h0⟩, e0, hi0, g1, g2, g3, g4⟩ := spec_l6Config_ok b i h hb hi
  simp only at hi0 g1 g2 g3 g4
  obtain ⟨x1, i1, h1, he1, hi1⟩ := spec_l1Once_ok b i0 h0 8 hb hi0 (by decide)
  cases x1 with
  | false =>
    refine ⟨us, ss, ls, ps, sk, i1, h1, Ev.bind e0 ?_, hi1, by omega, by omega, by omega, by omega⟩
    simp only [he1, Option.bind_some, Bool.false_eq_true, if_false]
    exact Ev.now _
  | true =>
    obtain ⟨x2, i2, h2, he2, x20, x21, hi2⟩ := spec_l1Below_ok b i1 h1 5 hb hi1 (by decide)
    by_cases c0 : x2 = 0
    · obtain ⟨x3, i3, h3, he3, _, hi3⟩ := spec_l1PickInt_ok b i2 h2 [(-1), 3] hb hi2 (by decide)
      have c : 0 < (us.length : Int) := by omega
      refine ⟨us.set (0 : Int).toNat x3, ss, ls, ps, sk, i3, h3, Ev.bind e0 ?_, hi3, by rw [List.length_set]; omega, by omega, by omega, by omega⟩
      simp only [he1, he2, he3, Option.bind_some, if_true, c0, c]
      exact Ev.now _
    · by_cases c1 : x2 = 1
      · have c : ss.length < 17592186044416 := by omega
        refine ⟨us, ss ++ [0], ls, ps, sk, i2, h2, Ev.bind e0 ?_, hi2, by omega, by simp; omega, by omega, by omega⟩
        simp only [he1, he2, Option.bind_some, if_true, if_false, c0, c]
        rw [if_pos c1]
        exact Ev.now _
      · obtain ⟨x3, i3, h3, he3, _, _, hi3⟩ := spec_l1Below_ok b i2 h2 4 hb hi2 (by decide)
        obtain ⟨x4, i4, h4, he4, _, _, hi4⟩ := spec_l1Below_ok b i3 h3 4 hb hi3 (by decide)
        by_cases c2 : x2 = 2
        · have c : ls.length < 8796093022208 := by omega
          refine ⟨us, ss, ls ++ [⟨x3, x4⟩], ps, sk, i4, h4, Ev.bind e0 ?_, hi4, by omega, by omega, by simp; omega, by omega⟩
          simp only [he1, he2, Option.bind_some, if_true]
          rw [if_neg c0, if_neg c1, if_pos c2]
          simp only [he3, he4, Option.bind_some, c, if_true]
          exact Ev.now _
        · by_cases c3 : x2 = 3
          · have c : ps.length < 8796093022208 := by omega
            refine ⟨us, ss, ls, ps ++ [⟨x3, x4⟩], sk, i4, h4, Ev.bind e0 ?_, hi4, by omega, by omega, by omega, by simp; omega⟩
            simp only [he1, he2, Option.bind_some, if_true]
            rw [if_neg c0, if_neg c1, if_neg c2, if_pos c3]
            simp only [he3, he4, Option.bind_some, c, if_true]
            exact Ev.now _
          · obtain ⟨x5, i5, h5, he5, _, hi5⟩ := spec_l1PickInt_ok b i2 h2 [(-1), 20, 21] hb hi2 (by decide)
            refine ⟨us, ss, ls, ps, x5, i5, h5, Ev.bind e0 ?_, hi5, by omega, by omega, by omega, by omega⟩
            simp only [he1, he2, Option.bind_some, if_true]
            rw [if_neg c0, if_neg c1, if_neg c2, if_neg c3]
            simp only [he5, Option.bind_some]
            exact Ev.now _

theorem spec_DrawNextHop_ok (b : List Int) (hb : b.length ≤ 140737488351232) : ∃ (us ss : List Int) (ls ps : List S42) (sk a tz : Int), Ev (fun k => spec_DrawNextHop.f k b) (us, ss, ls, ps, sk, a, tz) ∧ us.length ≤ 1048576 ∧ ss.length ≤ 1048576 ∧ ls.length ≤ 1048576 ∧ ps.length ≤ 1048576 := by
  unfold spec_DrawNextHop.f
  obtain ⟨h0, hn⟩ := spec_l1New_ok b hb
  obtain ⟨a, i1, h1, he1, _, hi1⟩ := spec_l1PickInt_ok b 0 h0 [0, 1, 2, 0, 1, 2, (-1), 3] hb (by decide) (by decide)
  obtain ⟨tz, i2, h2, he2, _, hi2⟩ := spec_l1PickInt_ok b i1 h1 [0, 1, 2, 0, 1, 2, (-1), 3] hb hi1 (by decide)
  obtain ⟨us, ss, ls, ps, sk, i3, h3, he3, hi3, g1, g2, g3, g4⟩ := spec_l6Any_ok b i2 h2 hb hi2
  obtain ⟨x4, i4, h4, he4, hi4⟩ := spec_l1Once_ok b i3 h3 3 hb hi3 (by decide)
  have fin : ∀ (ls' : List S42) (F : Nat → Option _), Ev F (us, ss, ls', ps, sk, a, tz) → ls'.length ≤ 1048576 → ∃ (us ss : List Int) (ls ps : List S42) (sk a tz : Int), Ev F (us, ss, ls, ps, sk, a, tz) ∧ us.length ≤ 1048576 ∧ ss.length ≤ 1048576 ∧ ls.length ≤ 1048576 ∧ ps.length ≤ 1048576 := fun ls' F h hl => ⟨us, ss, ls', ps, sk, a, tz, h, g1, g2, hl, g4⟩
  cases x4 with
  | false =>
    refine fin ls _ (Ev.bind hn ?_) g3
    simp only [he1, he2, Option.bind_some]
    refine Ev.bind he3 ?_
    simp only [he4, Option.bind_some, Bool.false_eq_true, if_false]
    exact Ev.now _
  | true =>
    by_cases c : (ls.length : Int) > 2
    · obtain ⟨x5, i5, h5, he5, x50, x51, _⟩ := spec_l1Below_ok b i4 h4 3 hb hi4 (by decide)
      have c5 : x5 ≤ (ls.length : Int) := by omega
      refine fin (ls.take (x5 : Int).toNat) _ (Ev.bind hn ?_) (by rw [List.length_take]; omega)
      simp only [he1, he2, Option.bind_some]
      refine Ev.bind he3 ?_
      simp only [he4, he5, Option.bind_some, if_true, c, x50, c5]
      exact Ev.now _
    · refine fin ls _ (Ev.bind hn ?_) g3
      simp only [he1, he2, Option.bind_some]
      refine Ev.bind he3 ?_
      simp only [he4, Option.bind_some, if_true]
      rw [if_neg c]
      exact Ev.now _

theorem impl_within_eq (a lo hi : Int) : impl_within.f a lo hi = some (decide (lo ≤ a ∧ a ≤ hi)) := by
  unfold impl_within.f
  by_cases h : a ≥ lo
  · rw [if_pos h]; congr 1; simp [show lo ≤ a from h]
  · rw [if_neg h]; congr 1; simp [show ¬ lo ≤ a from h]

theorem impl_isRealm_eq (a : Int) : impl_isRealm.f a = some (decide (0 ≤ a ∧ a < 3)) := by
  unfold impl_isRealm.f
  rw [impl_within_eq, Option.bind_some]
  congr 1
  exact decide_eq_decide.mpr (by omega)

theorem impl_ConfigOk_1_eq (p : S42) : (okLink p ∧ impl_ConfigOk_1.f p.f0 p.f1 = some true) ∨ (¬ okLink p ∧ impl_ConfigOk_1.f p.f0 p.f1 = some false) := by
  unfold impl_ConfigOk_1.f okLink
  simp only [impl_isRealm_eq, Option.bind_some]
  by_cases h1 : 0 ≤ p.f0 ∧ p.f0 < 3
  · rw [decide_eq_true h1, if_pos rfl]
    by_cases h2 : 0 ≤ p.f1 ∧ p.f1 < 3
    · rw [decide_eq_true h2, if_pos rfl]
      by_cases h3 : p.f0 = p.f1
      · exact .inr ⟨fun h => h.2.2 h3, by rw [h3]; simp⟩
      · exact .inl ⟨⟨h1, h2, h3⟩, by simp [h3]⟩
    · rw [decide_eq_false h2, if_neg (by decide)]
      exact .inr ⟨fun h => h2 h.2.1, rfl⟩
  · rw [decide_eq_false h1, if_neg (by decide)]
    exact .inr ⟨fun h => h1 h.1, rfl⟩

theorem indexP_ev (l : List S42) (a b : Int) (hl : l.length ≤ 1073741824) : ∃ r : Int, Ev (fun k => impl_Pair_110.f k l a b) r ∧ (r ≥ 0 ↔ (⟨a, b⟩ : S42) ∈ l) := by
  have loop : ∀ d i : Nat, i + d = l.length → ∃ r : Int, Ev (fun k => impl_Pair_110.l0 k l (l.length : Int) (i : Int) a b) r ∧ (r ≥ 0 ↔ (⟨a, b⟩ : S42) ∈ l.drop i) := by
    intro d
    induction d with
    | zero =>
      intro i hi
      refine ⟨-1, Ev.step (f := fun _ => some (-1)) (fun k => ?_) (Ev.now _), ?_⟩
      · simp only [impl_Pair_110.l0]
        rw [if_neg (by omega)]
      · rw [List.drop_of_length_le (by omega)]; simp
    | succ d ih =>
      intro i hi
      have hlt : i < l.length := by omega
      have e2 : wrap64 ((i : Int) + 1) = ((i + 1 : Nat) : Int) := by rw [w64 (x := (i : Int) + 1) (by omega) (by omega)]; omega
      rw [List.drop_eq_getElem_cons hlt]
      by_cases h : l[i] = ⟨a, b⟩
      · refine ⟨i, Ev.step (f := fun _ => some (i : Int)) (fun k => ?_) (Ev.now _), ?_⟩
        · simp only [impl_Pair_110.l0]
          rw [if_pos (by omega), if_pos (by omega), if_pos (by omega), rdP_get _ _ hlt, if_pos ((sameP' _ _ _).2 h)]
        · exact ⟨fun _ => by rw [h]; exact List.mem_cons_self, fun _ => by omega⟩
      · obtain ⟨r, hr, hi2⟩ := ih (i + 1) (by omega)
        refine ⟨r, Ev.step (fun k => ?_) hr, ?_⟩
        · simp only [impl_Pair_110.l0]
          rw [if_pos (by omega), if_pos (by omega), if_pos (by omega), rdP_get _ _ hlt, if_neg (fun e => h ((sameP' _ _ _).1 e)), e2]
        · rw [hi2, List.mem_cons]; exact ⟨Or.inr, fun e => e.resolve_left (fun e => h e.symm)⟩
  have := loop l.length 0 (by omega)
  unfold impl_Pair_110.f
  simpa using this

theorem containsP_ev (l : List S42) (a b : Int) (hl : l.length ≤ 1073741824) : Ev (fun k => impl_Pair_68.f k l a b) (inP ⟨a, b⟩ l) := by
  obtain ⟨r, hr, h⟩ := indexP_ev l a b hl
  unfold impl_Pair_68.f
  refine Ev.bind hr (ev_eq (Ev.now _) ?_)
  exact inP_iff (by rw [decide_eq_true_eq]; exact h)

theorem impl_arePairs_1_ev (l : List S42) (hl : l.length ≤ 1048576) : Ev (fun k => impl_arePairs_of_ConfigOk_1.f k l) (pairsB okLink l) := by
  have loop : ∀ d i : Nat, i + d = l.length → (∀ j, j < i → okLink (rd_T42 l (j : Int)) ∧ ¬ (rd_T42 l (j : Int) ∈ l.take j)) → Ev (fun k => impl_arePairs_of_ConfigOk_1.l0 k l l (l.length : Int) (i : Int)) (pairsB okLink l) := by
    intro d
    induction d with
    | zero =>
      intro i hi hj
      refine Ev.step (f := fun _ => some (decide ((l.length : Int) ≤ 6))) (fun k => ?_) (ev_eq (Ev.now _) ?_)
      · simp only [impl_arePairs_of_ConfigOk_1.l0]
        rw [if_neg (by omega)]
      · by_cases h : (l.length : Int) ≤ 6
        · rw [decide_eq_true h, pairsB_t ⟨by omega, fun j h => hj j (by omega)⟩]
        · rw [decide_eq_false h, pairsB_f (fun hp => h (by have := hp.1; omega))]
    | succ d ih =>
      intro i hi hj
      have hlt : i < l.length := by omega
      have e2 : wrap64 ((i : Int) + 1) = ((i + 1 : Nat) : Int) := by rw [w64 (x := (i : Int) + 1) (by omega) (by omega)]; omega
      obtain ⟨p, hp⟩ : ∃ p, p = rd_T42 l (i : Int) := ⟨_, rfl⟩
      have c1 : (i : Int) < (l.length : Int) := by omega
      have c2 : 0 ≤ (i : Int) := by omega
      have c3 : (i : Int) ≤ (l.length : Int) := by omega
      rcases impl_ConfigOk_1_eq p with ⟨hk, he⟩ | ⟨hk, he⟩
      · refine Ev.step (f := fun k => (impl_Pair_68.f k (l.take i) p.f0 p.f1).bind fun t => (if t = true then some false else impl_arePairs_of_ConfigOk_1.l0 k l l (l.length : Int) ((i + 1 : Nat) : Int))) (fun k => ?_) (Ev.bind (containsP_ev _ _ _ (by rw [List.length_take]; omega)) ?_)
        · simp only [impl_arePairs_of_ConfigOk_1.l0, ← hp, c1, c2, c3, if_true, he, Option.bind_some, e2, Int.toNat_natCast]
        · rcases inP_or p (l.take i) with ⟨h1, h2⟩ | ⟨h1, h2⟩
          · have h2' : inP (⟨p.f0, p.f1⟩ : S42) (l.take i) = true := h2
            rw [h2']
            simp only [if_true]
            exact ev_eq (Ev.now _) (pairsB_f (fun hq => (hq.2 i hlt).2 (by rw [← hp]; exact h1))).symm
          · have h2' : inP (⟨p.f0, p.f1⟩ : S42) (l.take i) = false := h2
            rw [h2']
            simp only [Bool.false_eq_true, if_false]
            refine ih (i + 1) (by omega) (fun j h => ?_)
            by_cases hji : j = i
            · subst hji; rw [← hp]; exact ⟨hk, h1⟩
            · exact hj j (by omega)
      · refine Ev.step (f := fun _ => some false) (fun k => ?_) (ev_eq (Ev.now _) (pairsB_f (fun hq => hk (by rw [hp]; exact (hq.2 i hlt).1))).symm)
        simp only [impl_arePairs_of_ConfigOk_1.l0, ← hp, c1, c2, if_true, he, Option.bind_some, Bool.false_eq_true, if_false]
  unfold impl_arePairs_of_ConfigOk_1.f
  exact loop l.length 0 (by omega) (fun j h => by omega)

theorem impl_isService_eq (a : Int) : impl_isService.f a = some (decide (0 ≤ a ∧ a ≤ 2)) := by
  unfold impl_isService.f; rw [impl_within_eq, Option.bind_some]

theorem impl_ConfigOk_2_eq (p : S42) : (okProxy p ∧ impl_ConfigOk_2.f p.f0 p.f1 = some true) ∨ (¬ okProxy p ∧ impl_ConfigOk_2.f p.f0 p.f1 = some false) := by
  unfold impl_ConfigOk_2.f okProxy
  simp only [impl_isService_eq, Option.bind_some]
  by_cases h1 : 0 ≤ p.f0 ∧ p.f0 ≤ 2
  · rw [decide_eq_true h1, if_pos rfl]
    by_cases h2 : 0 ≤ p.f1 ∧ p.f1 ≤ 2
    · rw [decide_eq_true h2]
      exact .inl ⟨⟨by omega, by omega⟩, rfl⟩
    · rw [decide_eq_false h2]
      exact .inr ⟨fun h => h2 (by omega), rfl⟩
  · rw [decide_eq_false h1, if_neg (by decide)]
    exact .inr ⟨fun h => h1 (by omega), rfl⟩

theorem impl_arePairs_2_ev (l : List S42) (hl : l.length ≤ 1048576) : Ev (fun k => impl_arePairs_of_ConfigOk_2.f k l) (pairsB okProxy l) := by
  have loop : ∀ d i : Nat, i + d = l.length → (∀ j, j < i → okProxy (rd_T42 l (j : Int)) ∧ ¬ (rd_T42 l (j : Int) ∈ l.take j)) → Ev (fun k => impl_arePairs_of_ConfigOk_2.l0 k l l (l.length : Int) (i : Int)) (pairsB okProxy l) := by
    intro d
    induction d with
    | zero =>
      intro i hi hj
      refine Ev.step (f := fun _ => some (decide ((l.length : Int) ≤ 6))) (fun k => ?_) (ev_eq (Ev.now _) ?_)
      · simp only [impl_arePairs_of_ConfigOk_2.l0]
        rw [if_neg (by omega)]
      · by_cases h : (l.length : Int) ≤ 6
        · rw [decide_eq_true h, pairsB_t ⟨by omega, fun j h => hj j (by omega)⟩]
        · rw [decide_eq_false h, pairsB_f (fun hp => h (by have := hp.1; omega))]
    | succ d ih =>
      intro i hi hj
      have hlt : i < l.length := by omega
      have e2 : wrap64 ((i : Int) + 1) = ((i + 1 : Nat) : Int) := by rw [w64 (x := (i : Int) + 1) (by omega) (by omega)]; omega
      obtain ⟨p, hp⟩ : ∃ p, p = rd_T42 l (i : Int) := ⟨_, rfl⟩
      have c1 : (i : Int) < (l.length : Int) := by omega
      have c2 : 0 ≤ (i : Int) := by omega
      have c3 : (i : Int) ≤ (l.length : Int) := by omega
      rcases impl_ConfigOk_2_eq p with ⟨hk, he⟩ | ⟨hk, he⟩
      · refine Ev.step (f := fun k => (impl_Pair_68.f k (l.take i) p.f0 p.f1).bind fun t => (if t = true then some false else impl_arePairs_of_ConfigOk_2.l0 k l l (l.length : Int) ((i + 1 : Nat) : Int))) (fun k => ?_) (Ev.bind (containsP_ev _ _ _ (by rw [List.length_take]; omega)) ?_)
        · simp only [impl_arePairs_of_ConfigOk_2.l0, ← hp, c1, c2, c3, if_true, he, Option.bind_some, e2, Int.toNat_natCast]
        · rcases inP_or p (l.take i) with ⟨h1, h2⟩ | ⟨h1, h2⟩
          · have h2' : inP (⟨p.f0, p.f1⟩ : S42) (l.take i) = true := h2
            rw [h2']
            simp only [if_true]
            exact ev_eq (Ev.now _) (pairsB_f (fun hq => (hq.2 i hlt).2 (by rw [← hp]; exact h1))).symm
          · have h2' : inP (⟨p.f0, p.f1⟩ : S42) (l.take i) = false := h2
            rw [h2']
            simp only [Bool.false_eq_true, if_false]
            refine ih (i + 1) (by omega) (fun j h => ?_)
            by_cases hji : j = i
            · subst hji; rw [← hp]; exact ⟨hk, h1⟩
            · exact hj j (by omega)
      · refine Ev.step (f := fun _ => some false) (fun k => ?_) (ev_eq (Ev.now _) (pairsB_f (fun hq => hk (by rw [hp]; exact (hq.2 i hlt).1))).symm)
        simp only [impl_arePairs_of_ConfigOk_2.l0, ← hp, c1, c2, if_true, he, Option.bind_some, Bool.false_eq_true, if_false]
  unfold impl_arePairs_of_ConfigOk_2.f
  exact loop l.length 0 (by omega) (fun j h => by omega)

theorem impl_areAll_of_isRealm_ev (l : List Int) (most : Int) (hl : l.length ≤ 1048576) : Ev (fun k => impl_areAll_of_isRealm.f k l most) (allB ok3 l most) := by
  have loop : ∀ d i : Nat, i + d = l.length → (∀ j, j < i → ok3 (rd l (j : Int))) → Ev (fun k => impl_areAll_of_isRealm.l0 k l most l (l.length : Int) (i : Int)) (allB ok3 l most) := by
    intro d
    induction d with
    | zero =>
      intro i hi hj
      refine Ev.step (f := fun _ => some (decide ((l.length : Int) ≤ most))) (fun k => ?_) (ev_eq (Ev.now _) ?_)
      · simp only [impl_areAll_of_isRealm.l0]
        rw [if_neg (by omega)]
      · by_cases h : (l.length : Int) ≤ most
        · rw [decide_eq_true h, allB_t ⟨h, fun j h => hj j (by omega)⟩]
        · rw [decide_eq_false h, allB_f (fun hp => h hp.1)]
    | succ d ih =>
      intro i hi hj
      have hlt : i < l.length := by omega
      have e2 : wrap64 ((i : Int) + 1) = ((i + 1 : Nat) : Int) := by rw [w64 (x := (i : Int) + 1) (by omega) (by omega)]; omega
      have c1 : (i : Int) < (l.length : Int) := by omega
      have c2 : 0 ≤ (i : Int) := by omega
      by_cases a1 : ok3 (rd l (i : Int))
      · refine Ev.step (fun k => ?_) (ih (i + 1) (by omega) (fun j h => ?_))
        · simp only [impl_areAll_of_isRealm.l0, c1, c2, if_true, impl_isRealm_eq, Option.bind_some, e2]
          rw [decide_eq_true (by unfold ok3 at a1; omega), if_pos rfl]
        · by_cases hji : j = i
          · subst hji; exact a1
          · exact hj j (by omega)
      · refine Ev.step (f := fun _ => some false) (fun k => ?_) (ev_eq (Ev.now _) (allB_f (fun hp => a1 (hp.2 i hlt))).symm)
        simp only [impl_areAll_of_isRealm.l0, c1, c2, if_true, impl_isRealm_eq, Option.bind_some]
        rw [decide_eq_false (by unfold ok3 at a1; omega), if_neg (by decide)]
  unfold impl_areAll_of_isRealm.f
  exact loop l.length 0 (by omega) (fun j h => by omega)

theorem impl_ConfigOk_ev (us ss : List Int) (ls ps : List S42) (skew : Int) (h1 : us.length ≤ 1048576) (h2 : ss.length ≤ 1048576) (h3 : ls.length ≤ 1048576) (h4 : ps.length ≤ 1048576) : Ev (fun k => impl_ConfigOk.f k us ss ls ps skew) (confB us ss ls ps skew) := by
  unfold impl_ConfigOk.f
  refine Ev.bind (impl_arePairs_1_ev ls h3) (Ev.bind (impl_arePairs_2_ev ps h4) ?_)
  obtain ⟨x, hx⟩ : ∃ x, x = pairsB okLink ls := ⟨_, rfl⟩
  obtain ⟨y, hy⟩ : ∃ y, y = pairsB okProxy ps := ⟨_, rfl⟩
  have no : x = false ∨ y = false → confB us ss ls ps skew = false := by
    intro h
    unfold confB
    rw [← hx, ← hy]
    rcases h with rfl | rfl
    · simp
    · simp
  rw [← hx, ← hy]
  cases x with
  | false =>
    simp only [Bool.false_eq_true, if_false]
    exact ev_eq (Ev.now _) (no (.inl rfl)).symm
  | true =>
    cases y with
    | false =>
      simp only [Bool.false_eq_true, if_false, if_true]
      exact ev_eq (Ev.now _) (no (.inr rfl)).symm
    | true =>
      simp only [if_true]
      unfold confB
      rw [← hx, ← hy]
      by_cases a1 : (us.length : Int) = 3
      · simp only [a1, if_true]
        refine Ev.bind (impl_areAll_of_isRealm_ev us 3 h1) ?_
        by_cases a2 : allB ok3 us 3 = true
        · simp only [a2, if_true]
          by_cases a3 : (ss.length : Int) = 3
          · simp only [a3, if_true]
            refine Ev.bind (impl_areAll_of_isRealm_ev ss 3 h2) ?_
            by_cases a4 : allB ok3 ss 3 = true
            · simp only [a4, if_true, impl_within_eq, Option.bind_some]; exact Ev.now _
            · simp only [a4, if_false, Bool.false_eq_true]; exact Ev.now _
          · simp only [a3, if_false]; exact Ev.now _
        · simp only [a2, if_false, Bool.false_eq_true]; exact Ev.now _
      · simp only [a1, if_false]; exact Ev.now _

theorem confB_lens {us ss : List Int} {ls ps : List S42} {skew : Int} (h : confB us ss ls ps skew = true) : (us.length : Int) = 3 ∧ (ss.length : Int) = 3 := by
  unfold confB at h
  by_cases a1 : (us.length : Int) = 3
  · rw [if_pos a1] at h
    by_cases a2 : allB ok3 us 3 = true
    · rw [if_pos a2] at h
      by_cases a3 : (ss.length : Int) = 3
      · exact ⟨a1, a3⟩
      · rw [if_neg a3] at h; cases h
    · rw [if_neg a2] at h; cases h
  · rw [if_neg a1] at h; cases h
theorem confB_links {us ss : List Int} {ls ps : List S42} {skew : Int} (h : confB us ss ls ps skew = true) : pairsP okLink ls := by
  unfold confB at h
  by_cases a1 : (us.length : Int) = 3
  · rw [if_pos a1] at h
    by_cases a2 : allB ok3 us 3 = true
    · rw [if_pos a2] at h
      by_cases a3 : (ss.length : Int) = 3
      · rw [if_pos a3] at h
        by_cases a4 : allB ok3 ss 3 = true
        · rw [if_pos a4] at h
          by_cases a5 : pairsB okLink ls = true
          · exact pairsB_out a5
          · rw [if_neg a5] at h; cases h
        · rw [if_neg a4] at h; cases h
      · rw [if_neg a3] at h; cases h
    · rw [if_neg a2] at h; cases h
  · rw [if_neg a1] at h; cases h
noncomputable def realmS (us ss : List Int) (ls ps : List S42) (skew p : Int) : Int :=
  if confB us ss ls ps skew = true then (if decide (0 ≤ p ∧ p < 6) = true then (if p < 3 then rd us p else rd ss (p - 3)) else -1) else -1

/-- How many links lead from a realm tz another one: 3 where there is no way. -/
noncomputable def dist (ls : List S42) (a tz : Int) : Int :=
  @ite Int (a = tz) (Classical.propDecidable _) 0 (@ite Int ((⟨a, tz⟩ : S42) ∈ ls) (Classical.propDecidable _) 1 (@ite Int (∃ m, (⟨a, m⟩ : S42) ∈ ls ∧ (⟨m, tz⟩ : S42) ∈ ls) (Classical.propDecidable _) 2 3))
theorem dist_self (ls : List S42) (a : Int) : dist ls a a = 0 := by unfold dist; exact @if_pos _ (Classical.propDecidable _) rfl _ _ _
theorem dist_one {ls : List S42} {a tz : Int} (h : ¬ a = tz) (h1 : (⟨a, tz⟩ : S42) ∈ ls) : dist ls a tz = 1 := by
  unfold dist
  rw [@if_neg _ (Classical.propDecidable _) h, @if_pos _ (Classical.propDecidable _) h1]
theorem dist_two {ls : List S42} {a tz : Int} (h : ¬ a = tz) (h1 : ¬ (⟨a, tz⟩ : S42) ∈ ls) (h2 : ∃ m, (⟨a, m⟩ : S42) ∈ ls ∧ (⟨m, tz⟩ : S42) ∈ ls) : dist ls a tz = 2 := by
  unfold dist
  rw [@if_neg _ (Classical.propDecidable _) h, @if_neg _ (Classical.propDecidable _) h1, @if_pos _ (Classical.propDecidable _) h2]
theorem dist_three {ls : List S42} {a tz : Int} (h : ¬ a = tz) (h1 : ¬ (⟨a, tz⟩ : S42) ∈ ls) (h2 : ¬ ∃ m, (⟨a, m⟩ : S42) ∈ ls ∧ (⟨m, tz⟩ : S42) ∈ ls) : dist ls a tz = 3 := by
  unfold dist
  rw [@if_neg _ (Classical.propDecidable _) h, @if_neg _ (Classical.propDecidable _) h1, @if_neg _ (Classical.propDecidable _) h2]
/-- The four ways. -/
theorem dist_cases (ls : List S42) (a tz : Int) : (a = tz ∧ dist ls a tz = 0) ∨ (¬ a = tz ∧ (⟨a, tz⟩ : S42) ∈ ls ∧ dist ls a tz = 1) ∨ (¬ a = tz ∧ ¬ (⟨a, tz⟩ : S42) ∈ ls ∧ (∃ m, (⟨a, m⟩ : S42) ∈ ls ∧ (⟨m, tz⟩ : S42) ∈ ls) ∧ dist ls a tz = 2) ∨ (¬ a = tz ∧ ¬ (⟨a, tz⟩ : S42) ∈ ls ∧ (¬ ∃ m, (⟨a, m⟩ : S42) ∈ ls ∧ (⟨m, tz⟩ : S42) ∈ ls) ∧ dist ls a tz = 3) := by
  by_cases h : a = tz
  · exact .inl ⟨h, h ▸ dist_self ls a⟩
  · by_cases h1 : (⟨a, tz⟩ : S42) ∈ ls
    · exact .inr (.inl ⟨h, h1, dist_one h h1⟩)
    · by_cases h2 : ∃ m, (⟨a, m⟩ : S42) ∈ ls ∧ (⟨m, tz⟩ : S42) ∈ ls
      · exact .inr (.inr (.inl ⟨h, h1, h2, dist_two h h1 h2⟩))
      · exact .inr (.inr (.inr ⟨h, h1, h2, dist_three h h1 h2⟩))
theorem dist_le (ls : List S42) (a tz : Int) : 0 ≤ dist ls a tz ∧ dist ls a tz ≤ 3 := by
  rcases dist_cases ls a tz with ⟨_, h⟩ | ⟨_, _, h⟩ | ⟨_, _, _, h⟩ | ⟨_, _, _, h⟩ <;> omega
theorem dist_tri {ls : List S42} {a b tz : Int} (h : (⟨a, b⟩ : S42) ∈ ls) : dist ls a tz ≤ 1 + dist ls b tz := by
  rcases dist_cases ls a tz with ⟨_, h1⟩ | ⟨_, _, h1⟩ | ⟨_, n1, _, h1⟩ | ⟨_, n1, n2, h1⟩
  · have := dist_le ls b tz; omega
  · have := dist_le ls b tz; omega
  · rcases dist_cases ls b tz with ⟨e, h2⟩ | ⟨_, _, h2⟩ | ⟨_, _, _, h2⟩ | ⟨_, _, _, h2⟩
    · subst e; exact absurd h n1
    · omega
    · omega
    · omega
  · rcases dist_cases ls b tz with ⟨e, h2⟩ | ⟨_, m1, h2⟩ | ⟨_, _, _, h2⟩ | ⟨_, _, _, h2⟩
    · subst e; exact absurd h n1
    · exact absurd ⟨b, h, m1⟩ n2
    · omega
    · omega
/-- far with at most n links left, as far as it says so. -/
noncomputable def farR (ls : List S42) : Nat → Int → Int → Int
  | 0, a, tz => @ite Int (a = tz) (Classical.propDecidable _) 0 3
  | 1, a, tz => @ite Int (a = tz) (Classical.propDecidable _) 0 (@ite Int ((⟨a, tz⟩ : S42) ∈ ls) (Classical.propDecidable _) 1 3)
  | _ + 2, a, tz => dist ls a tz
theorem farR_0 (ls : List S42) (a tz : Int) : farR ls 0 a tz = @ite Int (a = tz) (Classical.propDecidable _) 0 3 := rfl
theorem farR_1 (ls : List S42) (a tz : Int) : farR ls 1 a tz = @ite Int (a = tz) (Classical.propDecidable _) 0 (@ite Int ((⟨a, tz⟩ : S42) ∈ ls) (Classical.propDecidable _) 1 3) := rfl
theorem farR_self (ls : List S42) (n : Nat) (a : Int) : farR ls n a a = 0 := by
  match n with
  | 0 => exact @if_pos _ (Classical.propDecidable _) rfl _ _ _
  | 1 => exact @if_pos _ (Classical.propDecidable _) rfl _ _ _
  | _ + 2 => exact dist_self ls a
theorem farR_le (ls : List S42) (n : Nat) (a tz : Int) : 0 ≤ farR ls n a tz ∧ farR ls n a tz ≤ 3 := by
  match n with
  | 0 =>
    rw [farR_0]
    by_cases h : a = tz
    · rw [@if_pos _ (Classical.propDecidable _) h]; omega
    · rw [@if_neg _ (Classical.propDecidable _) h]; omega
  | 1 =>
    rw [farR_1]
    by_cases h : a = tz
    · rw [@if_pos _ (Classical.propDecidable _) h]; omega
    · rw [@if_neg _ (Classical.propDecidable _) h]
      by_cases h1 : (⟨a, tz⟩ : S42) ∈ ls
      · rw [@if_pos _ (Classical.propDecidable _) h1]; omega
      · rw [@if_neg _ (Classical.propDecidable _) h1]; omega
  | _ + 2 => exact dist_le ls a tz
/-- The least of 3 and one more than what is said of where a's links (those in l) lead. -/
def isMin (l ls : List S42) (a : Int) (n : Nat) (tz r : Int) : Prop := (r = 3 ∨ ∃ b, (⟨a, b⟩ : S42) ∈ l ∧ r = 1 + farR ls n b tz) ∧ r ≤ 3 ∧ ∀ b, (⟨a, b⟩ : S42) ∈ l → r ≤ 1 + farR ls n b tz
theorem farR_step (ls : List S42) (n : Nat) (a tz r : Int) (h : ¬ a = tz) (hm : isMin ls ls a n tz r) : r = farR ls (n + 1) a tz := by
  obtain ⟨h1, h2, h3⟩ := hm
  match n with
  | 0 =>
    show r = @ite Int (a = tz) (Classical.propDecidable _) 0 (@ite Int ((⟨a, tz⟩ : S42) ∈ ls) (Classical.propDecidable _) 1 3)
    rw [@if_neg _ (Classical.propDecidable _) h]
    by_cases hl : (⟨a, tz⟩ : S42) ∈ ls
    · rw [@if_pos _ (Classical.propDecidable _) hl]
      have := h3 tz hl
      simp only [farR_self] at this
      rcases h1 with h1 | ⟨b, hb, h1⟩
      · omega
      · have := (farR_le ls 0 b tz).1; omega
    · rw [@if_neg _ (Classical.propDecidable _) hl]
      rcases h1 with h1 | ⟨b, hb, h1⟩
      · exact h1
      · have e : farR ls 0 b tz = 3 := @if_neg _ (Classical.propDecidable _) (fun e : b = tz => hl (e ▸ hb)) _ _ _
        rw [e] at h1; omega
  | 1 =>
    show r = dist ls a tz
    rcases dist_cases ls a tz with ⟨e, _⟩ | ⟨_, hl, d⟩ | ⟨_, n1, ⟨m, m1, m2⟩, d⟩ | ⟨_, n1, n2, d⟩
    · exact absurd e h
    · have := h3 tz hl
      simp only [farR_self] at this
      rcases h1 with h1 | ⟨b, hb, h1⟩
      · omega
      · have := (farR_le ls 1 b tz).1; omega
    · have := h3 m m1
      have e : farR ls 1 m tz ≤ 1 := by
        rw [farR_1]
        by_cases hm : m = tz
        · rw [@if_pos _ (Classical.propDecidable _) hm]; omega
        · rw [@if_neg _ (Classical.propDecidable _) hm, @if_pos _ (Classical.propDecidable _) m2]; omega
      rcases h1 with h1 | ⟨b, hb, h1⟩
      · omega
      · by_cases hb0 : b = tz
        · subst hb0; exact absurd hb n1
        · have e2 : 1 ≤ farR ls 1 b tz := by
            rw [farR_1]
            rw [@if_neg _ (Classical.propDecidable _) hb0]
            by_cases hb1 : (⟨b, tz⟩ : S42) ∈ ls
            · rw [@if_pos _ (Classical.propDecidable _) hb1]; omega
            · rw [@if_neg _ (Classical.propDecidable _) hb1]; omega
          omega
    · rcases h1 with h1 | ⟨b, hb, h1⟩
      · omega
      · by_cases hb0 : b = tz
        · subst hb0; exact absurd hb n1
        · have e2 : farR ls 1 b tz = 3 := by
            rw [farR_1]
            rw [@if_neg _ (Classical.propDecidable _) hb0, @if_neg _ (Classical.propDecidable _) (fun hb1 : (⟨b, tz⟩ : S42) ∈ ls => n2 ⟨b, hb, hb1⟩)]
          omega
  | n + 2 =>
    show r = dist ls a tz
    rcases dist_cases ls a tz with ⟨e, _⟩ | ⟨_, hl, d⟩ | ⟨_, n1, ⟨m, m1, m2⟩, d⟩ | ⟨_, n1, n2, d⟩
    · exact absurd e h
    · have := h3 tz hl
      simp only [farR_self] at this
      rcases h1 with h1 | ⟨b, hb, h1⟩
      · omega
      · have := (farR_le ls (n + 2) b tz).1; omega
    · have := h3 m m1
      have e : farR ls (n + 2) m tz ≤ 1 := by
        show dist ls m tz ≤ 1
        rcases dist_cases ls m tz with ⟨_, q⟩ | ⟨_, _, q⟩ | ⟨_, q1, _, _⟩ | ⟨_, q1, _, _⟩
        · omega
        · omega
        · exact absurd m2 q1
        · exact absurd m2 q1
      rcases h1 with h1 | ⟨b, hb, h1⟩
      · omega
      · have e2 : dist ls a tz ≤ 1 + dist ls b tz := dist_tri hb
        have e3 : farR ls (n + 2) b tz = dist ls b tz := rfl
        omega
    · rcases h1 with h1 | ⟨b, hb, h1⟩
      · omega
      · have e2 : dist ls a tz ≤ 1 + dist ls b tz := dist_tri hb
        have e3 : farR ls (n + 2) b tz = dist ls b tz := rfl
        omega
/-- One realm more is looked at. -/
noncomputable def hopStep (ls : List S42) (a tz best r : Int) : Int := if inP ⟨a, r⟩ ls = true then (if dist ls r tz < (if best < 0 then 3 else dist ls best tz) then r else best) else best
noncomputable def hopS (us ss : List Int) (ls ps : List S42) (skew a tz : Int) : Int :=
  if confB us ss ls ps skew = true then (if decide (0 ≤ a ∧ a < 3) = true then (if decide (0 ≤ tz ∧ tz < 3) = true then (if (a == tz) = true then -1 else hopStep ls a tz (hopStep ls a tz (hopStep ls a tz (-1) 0) 1) 2) else -1) else -1) else -1
theorem hopStep_ok {ls : List S42} {a tz best r : Int} (hr : 0 ≤ r ∧ r < 3) (h : best = -1 ∨ (0 ≤ best ∧ best < 3 ∧ dist ls best tz < 3)) : hopStep ls a tz best r = -1 ∨ (0 ≤ hopStep ls a tz best r ∧ hopStep ls a tz best r < 3 ∧ dist ls (hopStep ls a tz best r) tz < 3) := by
  unfold hopStep
  by_cases h1 : inP ⟨a, r⟩ ls = true
  · rw [if_pos h1]
    by_cases h2 : dist ls r tz < (if best < 0 then 3 else dist ls best tz)
    · rw [if_pos h2]
      refine .inr ⟨hr.1, hr.2, ?_⟩
      rcases h with h | h
      · rw [if_pos (by omega)] at h2; exact h2
      · rw [if_neg (by omega)] at h2; omega
    · rw [if_neg h2]; exact h
  · rw [if_neg h1]; exact h

theorem impl_far_ev (us ss : List Int) (ls ps : List S42) (skew : Int) (tz : Int) (h3 : ls.length ≤ 1048576) : ∀ (n : Nat) (a : Int), n ≤ 1000 → Ev (fun k => impl_far.f k us ss ls ps skew a tz (n : Int)) (farR ls n a tz) := by
  intro n
  have start : ∀ (m : Nat) (a v : Int), ¬ a = tz → Ev (fun k => impl_far.l0 k a tz (m : Int) 3 ls (ls.length : Int) 0 us ss ls ps skew) v → Ev (fun k => impl_far.f k us ss ls ps skew a tz (m : Int)) v := by
    intro m a v h hv
    refine Ev.step (fun k => ?_) hv
    simp only [impl_far.f]
    rw [if_neg h]
  have here : ∀ (m : Nat) (a : Int), a = tz → Ev (fun k => impl_far.f k us ss ls ps skew a tz (m : Int)) (farR ls m a tz) := by
    intro m a h
    subst h
    rw [farR_self]
    refine Ev.step (f := fun _ => some 0) (fun k => ?_) (Ev.now _)
    simp only [impl_far.f, if_true]
  induction n with
  | zero =>
    intro a _
    by_cases h : a = tz
    · exact here 0 a h
    · have e : farR ls 0 a tz = 3 := @if_neg _ (Classical.propDecidable _) h _ _ _
      rw [e]
      refine start 0 a 3 h ?_
      have loop : ∀ d i : Nat, i + d = ls.length → Ev (fun k => impl_far.l0 k a tz ((0 : Nat) : Int) 3 ls (ls.length : Int) (i : Int) us ss ls ps skew) 3 := by
        intro d
        induction d with
        | zero =>
          intro i hi
          refine Ev.step (f := fun _ => some 3) (fun k => ?_) (Ev.now _)
          simp only [impl_far.l0]
          rw [if_neg (by omega)]
        | succ d ih =>
          intro i hi
          have e2 : wrap64 ((i : Int) + 1) = ((i + 1 : Nat) : Int) := by rw [w64 (x := (i : Int) + 1) (by omega) (by omega)]; omega
          have c1 : (i : Int) < (ls.length : Int) := by omega
          have c2 : 0 ≤ (i : Int) := by omega
          have c3 : ¬ (((0 : Nat) : Int) > 0) := by omega
          refine Ev.step (fun k => ?_) (ih (i + 1) (by omega))
          simp only [impl_far.l0, c1, c2, c3, if_true, if_false, e2, ite_self]
      exact loop ls.length 0 (by omega)
  | succ n ih =>
    intro a hn
    by_cases h : a = tz
    · exact here (n + 1) a h
    · have part : ∀ r, (r = 3 ∨ ∃ b, (⟨a, b⟩ : S42) ∈ ls ∧ r = 1 + farR ls n b tz) → r ≤ 3 → 0 ≤ r := by
        intro r hr _
        rcases hr with hr | ⟨b, _, hr⟩
        · omega
        · have := (farR_le ls n b tz).1; omega
      have loop : ∀ (d i : Nat) (x : Int), i + d = ls.length → isMin (ls.take i) ls a n tz x → 0 ≤ x → ∃ r, Ev (fun k => impl_far.l0 k a tz ((n + 1 : Nat) : Int) x ls (ls.length : Int) (i : Int) us ss ls ps skew) r ∧ isMin ls ls a n tz r := by
        intro d
        induction d with
        | zero =>
          intro i x hi hx _
          have e : ls.take i = ls := List.take_of_length_le (by omega)
          rw [e] at hx
          refine ⟨x, Ev.step (f := fun _ => some x) (fun k => ?_) (Ev.now _), hx⟩
          simp only [impl_far.l0]
          rw [if_neg (by omega)]
        | succ d ih2 =>
          intro i x hi hx hx0
          have hlt : i < ls.length := by omega
          have c1 : (i : Int) < (ls.length : Int) := by omega
          have c2 : 0 ≤ (i : Int) := by omega
          have c3 : ((n + 1 : Nat) : Int) > 0 := by omega
          have htake := List.take_succ_eq_append_getElem hlt
          have mem : ∀ p, p ∈ ls.take (i + 1) ↔ p ∈ ls.take i ∨ p = ls[i] := by
            intro p; rw [htake, List.mem_append, List.mem_singleton]
          obtain ⟨⟨pa, pb⟩, hp⟩ : ∃ p, p = ls[i] := ⟨_, rfl⟩
          rw [← hp] at mem
          by_cases hf : pa = a
          · subst hf
            have hrec := ih pb (by omega)
            have hle := farR_le ls n pb tz
            have hmn : isMin (ls.take (i + 1)) ls pa n tz (mn x (1 + farR ls n pb tz)) := by
              obtain ⟨q1, q2, q3⟩ := hx
              unfold mn
              by_cases hlt2 : 1 + farR ls n pb tz < x
              · rw [if_pos hlt2]
                refine ⟨.inr ⟨pb, (mem _).2 (.inr rfl), rfl⟩, by omega, fun b hb => ?_⟩
                rcases (mem _).1 hb with hb | hb
                · have := q3 b hb; omega
                · cases hb; exact Int.le_refl _
              · rw [if_neg hlt2]
                refine ⟨?_, q2, fun b hb => ?_⟩
                · rcases q1 with q1 | ⟨b, hb, q1⟩
                  · exact .inl q1
                  · exact .inr ⟨b, (mem _).2 (.inl hb), q1⟩
                · rcases (mem _).1 hb with hb | hb
                  · exact q3 b hb
                  · cases hb; show x ≤ 1 + farR ls n pb tz; omega
            have hmn0 : 0 ≤ mn x (1 + farR ls n pb tz) := by unfold mn; split <;> omega
            obtain ⟨r, hr, hr2⟩ := ih2 (i + 1) _ (by omega) hmn hmn0
            refine ⟨r, Ev.step (f := fun k => (impl_far.f k us ss ls ps skew pb tz (n : Int)).bind fun t188 => (impl_far.l0 k pa tz ((n + 1 : Nat) : Int) (mn x (wrap64 (1 + t188))) ls (ls.length : Int) ((i + 1 : Nat) : Int) us ss ls ps skew)) (fun k => ?_) (Ev.bind hrec ?_), hr2⟩
            · have e2 : wrap64 ((i : Int) + 1) = ((i + 1 : Nat) : Int) := by rw [w64 (x := (i : Int) + 1) (by omega) (by omega)]; omega
              have e3 : Aside0 (wrap64 (((n + 1 : Nat) : Int) - 1) = (n : Int)) := ⟨by clear e2; rw [w64 (by omega) (by omega)]; omega⟩
              simp only [impl_far.l0, c1, c2, c3, if_true, rdP_get ls i hlt, ← hp, e2, e3.out]
            · rw [w64 (x := 1 + farR ls n pb tz) (by omega) (by omega)]
              exact hr
          · have hmn : isMin (ls.take (i + 1)) ls a n tz x := by
              obtain ⟨q1, q2, q3⟩ := hx
              refine ⟨?_, q2, fun b hb => ?_⟩
              · rcases q1 with q1 | ⟨b, hb, q1⟩
                · exact .inl q1
                · exact .inr ⟨b, (mem _).2 (.inl hb), q1⟩
              · rcases (mem _).1 hb with hb | hb
                · exact q3 b hb
                · cases hb; exact absurd rfl hf
            obtain ⟨r, hr, hr2⟩ := ih2 (i + 1) x (by omega) hmn hx0
            refine ⟨r, Ev.step (fun k => ?_) hr, hr2⟩
            have e2 : wrap64 ((i : Int) + 1) = ((i + 1 : Nat) : Int) := by rw [w64 (x := (i : Int) + 1) (by omega) (by omega)]; omega
            simp only [impl_far.l0, c1, c2, if_true, rdP_get ls i hlt, ← hp, hf, if_false, e2]
      obtain ⟨r, hr, hr2⟩ := loop ls.length 0 3 (by omega) ⟨.inl rfl, by omega, by simp⟩ (by omega)
      rw [← farR_step ls n a tz r h hr2]
      exact start (n + 1) a r h hr

theorem impl_NextHop_ev (us ss : List Int) (ls ps : List S42) (skew a tz : Int) (h1 : us.length ≤ 1048576) (h2 : ss.length ≤ 1048576) (h3 : ls.length ≤ 1048576) (h4 : ps.length ≤ 1048576) : Ev (fun k => impl_NextHop.f k us ss ls ps skew a tz) (hopS us ss ls ps skew a tz) := by
  have dead : ∀ b : Bool, b = true → Ev (fun k => impl_NextHop.j0 k a tz b us ss ls ps skew) (-1) := by
    intro b hb
    subst hb
    refine Ev.step (f := fun _ => some (-1)) (fun k => ?_) (Ev.now _)
    simp only [impl_NextHop.j0, if_true]
  have one : ∀ (r best : Int) (v : Int), (0 ≤ r ∧ r < 3) → (best = -1 ∨ (0 ≤ best ∧ best < 3 ∧ dist ls best tz < 3)) →
      Ev (fun k => impl_NextHop.l0 k a tz (hopStep ls a tz best r) (if hopStep ls a tz best r < 0 then 3 else dist ls (hopStep ls a tz best r) tz) (r + 1) us ss ls ps skew) v →
      Ev (fun k => impl_NextHop.l0 k a tz best (if best < 0 then 3 else dist ls best tz) r us ss ls ps skew) v := by
    intro r best v hr hb hv
    have e2 : wrap64 (r + 1) = r + 1 := w64 (by omega) (by omega)
    refine Ev.step (f := fun k => (impl_far.f k us ss ls ps skew r tz ((3 : Nat) : Int)).bind fun t193 => ((impl_Pair_68.f k ls a r).bind fun t194 => (if t194 = true then (if t193 < (if best < 0 then 3 else dist ls best tz) then (impl_NextHop.l0 k a tz r t193 (r + 1) us ss ls ps skew) else (impl_NextHop.l0 k a tz best (if best < 0 then 3 else dist ls best tz) (r + 1) us ss ls ps skew)) else (impl_NextHop.l0 k a tz best (if best < 0 then 3 else dist ls best tz) (r + 1) us ss ls ps skew)))) (fun k => ?_) (Ev.bind (impl_far_ev us ss ls ps skew tz h3 3 r (by decide)) (Ev.bind (containsP_ev ls a r (by omega)) ?_))
    · simp only [impl_NextHop.l0, e2]
      rw [if_pos hr.2]
      rfl
    · have e3 : farR ls 3 r tz = dist ls r tz := rfl
      rw [e3]
      by_cases h1 : inP ⟨a, r⟩ ls = true
      · simp only [h1, if_true]
        by_cases h2 : dist ls r tz < (if best < 0 then 3 else dist ls best tz)
        · have hs : hopStep ls a tz best r = r := by unfold hopStep; rw [if_pos h1, if_pos h2]
          rw [hs, if_neg (by omega)] at hv
          simp only [h2, if_true]
          exact hv
        · have hs : hopStep ls a tz best r = best := by unfold hopStep; rw [if_pos h1, if_neg h2]
          rw [hs] at hv
          simp only [h2, if_false]
          exact hv
      · have hs : hopStep ls a tz best r = best := by unfold hopStep; rw [if_neg h1]
        rw [hs] at hv
        simp only [h1, if_false, Bool.false_eq_true]
        exact hv
  unfold impl_NextHop.f hopS
  refine Ev.bind (impl_ConfigOk_ev us ss ls ps skew h1 h2 h3 h4) ?_
  by_cases hc : confB us ss ls ps skew = true
  · simp only [hc, if_true, impl_isRealm_eq, Option.bind_some]
    by_cases ha : 0 ≤ a ∧ a < 3
    · rw [decide_eq_true ha]
      simp only [if_true]
      by_cases ht : 0 ≤ tz ∧ tz < 3
      · rw [decide_eq_true ht]
        simp only [if_true]
        cases hab : (a == tz) with
        | true =>
          simp only [if_true]
          exact dead _ rfl
        | false =>
          simp only [Bool.false_eq_true, if_false]
          refine Ev.step (f := fun k => impl_NextHop.l0 k a tz (-1) (if (-1 : Int) < 0 then 3 else dist ls (-1) tz) 0 us ss ls ps skew) (fun k => ?_) ?_
          · simp only [impl_NextHop.j0, Bool.false_eq_true, if_false]
            rfl
          · have k0 := hopStep_ok (ls := ls) (a := a) (tz := tz) (best := -1) (r := 0) (by omega) (.inl rfl)
            have k1 := hopStep_ok (a := a) (r := 1) (by omega) k0
            refine one 0 _ _ (by omega) (.inl rfl) (one 1 _ _ (by omega) k0 (one 2 _ _ (by omega) k1 ?_))
            refine Ev.step (f := fun _ => some _) (fun k => ?_) (Ev.now _)
            simp only [impl_NextHop.l0]
            rw [if_neg (by decide)]
      · rw [decide_eq_false ht]
        simp only [Bool.false_eq_true, if_false]
        exact dead _ rfl
    · rw [decide_eq_false ha]
      simp only [Bool.false_eq_true, if_false]
      exact dead _ rfl
  · simp only [hc, Bool.false_eq_true, if_false]
    exact dead _ rfl

theorem spec_l6Realm_eq (a : Int) : spec_l6Realm.f a = some (decide (0 ≤ a ∧ a < 3)) := by
  unfold spec_l6Realm.f
  by_cases h : a ≥ 0
  · rw [if_pos h]; congr 1; simp [show 0 ≤ a from h]
  · rw [if_neg h]; congr 1; simp [show ¬ 0 ≤ a from h]

/-- What holds of the distances so far. -/
def farOk (ls : List S42) (tz : Int) (f : List Int) : Prop := f.length = 3 ∧ rd f tz = 0 ∧ ∀ r, 0 ≤ r → r < 3 → dist ls r tz ≤ rd f r ∧ rd f r ≤ 3
theorem rd_set_eq (f : List Int) (i : Int) (v : Int) (h0 : 0 ≤ i) (h : i < (f.length : Int)) : rd (f.set i.toNat v) i = v := by
  unfold rd
  rw [List.getD_eq_getElem?_getD, List.getElem?_set_self (by omega)]; rfl
theorem rd_set_ne (f : List Int) (i j : Int) (v : Int) (h0 : 0 ≤ i) (h1 : 0 ≤ j) (h : ¬ i = j) : rd (f.set i.toNat v) j = rd f j := by
  unfold rd
  rw [List.getD_eq_getElem?_getD, List.getElem?_set_ne (by omega), List.getD_eq_getElem?_getD]
theorem spec_l6Far_ev (us ss : List Int) (ls ps : List S42) (skew tz : Int) (hok : pairsP okLink ls) (ht : 0 ≤ tz ∧ tz < 3) : ∃ f, Ev (fun k => spec_l6Far.f k us ss ls ps skew tz) f ∧ f.length = 3 ∧ ∀ r, 0 ≤ r → r < 3 → rd f r = dist ls r tz := by
  have hlink : ∀ i, i < ls.length → okLink (rd_T42 ls (i : Int)) := fun i hi => (hok.2 i hi).1
  have h6 := hok.1
  -- one round over all links
  have round : ∀ (x7 : Int) (f0 : List Int), farOk ls tz f0 → ∃ f1, farOk ls tz f1 ∧ (∀ r, 0 ≤ r → r < 3 → rd f1 r ≤ rd f0 r) ∧ (∀ a b, (⟨a, b⟩ : S42) ∈ ls → rd f1 a ≤ rd f0 b + 1) ∧
      ∀ v, Ev (fun k => spec_l6Far.l1 k f1 (wrap64 (x7 + 1)) us ss ls ps skew) v → Ev (fun k => spec_l6Far.l2 k f0 x7 0 us ss ls ps skew) v := by
    intro x7 f0 hf0
    have loop : ∀ (d i : Nat) (f : List Int), i + d = ls.length → farOk ls tz f → (∀ r, 0 ≤ r → r < 3 → rd f r ≤ rd f0 r) → (∀ a b, (⟨a, b⟩ : S42) ∈ ls.take i → rd f a ≤ rd f0 b + 1) → ∃ f1, farOk ls tz f1 ∧ (∀ r, 0 ≤ r → r < 3 → rd f1 r ≤ rd f0 r) ∧ (∀ a b, (⟨a, b⟩ : S42) ∈ ls → rd f1 a ≤ rd f0 b + 1) ∧
        ∀ v, Ev (fun k => spec_l6Far.l1 k f1 (wrap64 (x7 + 1)) us ss ls ps skew) v → Ev (fun k => spec_l6Far.l2 k f x7 (i : Int) us ss ls ps skew) v := by
      intro d
      induction d with
      | zero =>
        intro i f hi hf hle hlk
        have e : ls.take i = ls := List.take_of_length_le (by omega)
        rw [e] at hlk
        refine ⟨f, hf, hle, hlk, fun v hv => Ev.step (fun k => ?_) hv⟩
        simp only [spec_l6Far.l2]
        rw [if_neg (by omega)]
      | succ d ih =>
        intro i f hi hf hle hlk
        have hlt : i < ls.length := by omega
        obtain ⟨⟨pa, pb⟩, hp⟩ : ∃ p, p = ls[i] := ⟨_, rfl⟩
        have hko := hlink i hlt
        rw [rdP_get ls i hlt, ← hp] at hko
        obtain ⟨⟨a0, a1⟩, ⟨b0, b1⟩, hne⟩ := hko
        simp only at a0 a1 b0 b1 hne
        have hin : (⟨pa, pb⟩ : S42) ∈ ls := by rw [hp]; exact List.getElem_mem hlt
        have htake := List.take_succ_eq_append_getElem hlt
        have mem : ∀ p, p ∈ ls.take (i + 1) ↔ p ∈ ls.take i ∨ p = (⟨pa, pb⟩ : S42) := by
          intro p; rw [htake, List.mem_append, List.mem_singleton, ← hp]
        obtain ⟨l3, z0, hb⟩ := hf
        have hba := hb pa a0 a1
        have hbb := hb pb b0 b1
        have hd0 := dist_le ls pb tz
        have htri := dist_tri (tz := tz) hin
        have c1 : (i : Int) < (ls.length : Int) := by omega
        have c2 : 0 ≤ (i : Int) := by omega
        have c4 : pb < (f.length : Int) := by omega
        have c6 : pa < (f.length : Int) := by omega
        have e1 : Aside0 (wrap64 (rd f pb + 1) = rd f pb + 1) := ⟨w64 (by omega) (by omega)⟩
        have e2 : Aside0 (wrap64 ((i : Int) + 1) = ((i + 1 : Nat) : Int)) := ⟨by rw [w64 (x := (i : Int) + 1) (by omega) (by omega)]; omega⟩
        by_cases hlt2 : rd f pb + 1 < rd f pa
        · have pane : ¬ pa = tz := by
            intro e; subst e; rw [z0] at hlt2; omega
          have g : farOk ls tz (f.set pa.toNat (rd f pb + 1)) := by
            refine ⟨by rw [List.length_set]; exact l3, ?_, fun r r0 r1 => ?_⟩
            · rw [rd_set_ne _ _ _ _ a0 ht.1 pane]; exact z0
            · by_cases hr : pa = r
              · subst hr
                rw [rd_set_eq _ _ _ a0 c6]
                omega
              · rw [rd_set_ne _ _ _ _ a0 r0 hr]
                exact hb r r0 r1
          obtain ⟨f1, g1, g2, g3, g4⟩ := ih (i + 1) _ (by omega) g (fun r r0 r1 => by
            by_cases hr : pa = r
            · subst hr
              rw [rd_set_eq _ _ _ a0 c6]
              have := hle pa r0 r1; omega
            · rw [rd_set_ne _ _ _ _ a0 r0 hr]
              exact hle r r0 r1) (fun a b hm => by
            rcases (mem _).1 hm with hm | hm
            · have hm2 := hlk a b hm
              have hka : okLink ⟨a, b⟩ := by
                obtain ⟨j, hj, ej⟩ := List.mem_iff_getElem.1 (List.mem_of_mem_take hm)
                have := hlink j hj
                rw [rdP_get ls j hj, ej] at this; exact this
              by_cases hr : pa = a
              · subst hr
                rw [rd_set_eq _ _ _ a0 c6]; omega
              · rw [rd_set_ne _ _ _ _ a0 hka.1.1 hr]; exact hm2
            · cases hm
              rw [rd_set_eq _ _ _ a0 c6]
              have := hle pb b0 b1; omega)
          refine ⟨f1, g1, g2, g3, fun v hv => Ev.step (fun k => ?_) (g4 v hv)⟩
          simp only [spec_l6Far.l2, c1, c2, if_true, rdP_get ls i hlt, ← hp, b0, c4, a0, c6, e1.out, e2.out, hlt2]
        · obtain ⟨f1, g1, g2, g3, g4⟩ := ih (i + 1) f (by omega) ⟨l3, z0, hb⟩ hle (fun a b hm => by
            rcases (mem _).1 hm with hm | hm
            · exact hlk a b hm
            · cases hm
              have := hle pb b0 b1; omega)
          refine ⟨f1, g1, g2, g3, fun v hv => Ev.step (fun k => ?_) (g4 v hv)⟩
          simp only [spec_l6Far.l2, c1, c2, if_true, rdP_get ls i hlt, ← hp, b0, c4, a0, c6, e1.out, e2.out, hlt2, if_false]
    exact loop ls.length 0 f0 (by omega) hf0 (fun r _ _ => Int.le_refl _) (by simp)
  have start : farOk ls tz ([3, 3, 3].set tz.toNat 0) := by
    refine ⟨by simp, rd_set_eq _ _ _ ht.1 (by simpa using ht.2), fun r r0 r1 => ?_⟩
    by_cases hr : tz = r
    · subst hr
      rw [rd_set_eq _ _ _ ht.1 (by simpa using ht.2), dist_self]; omega
    · rw [rd_set_ne _ _ _ _ ht.1 r0 hr]
      have e : rd [3, 3, 3] r = 3 := by
        have : r = 0 ∨ r = 1 ∨ r = 2 := by omega
        rcases this with rfl | rfl | rfl <;> rfl
      rw [e]
      have := dist_le ls r tz; omega
  obtain ⟨f1, a1, a2, a3, a4⟩ := round 0 _ start
  obtain ⟨f2, b1, b2, b3, b4⟩ := round 1 f1 a1
  obtain ⟨f3, c1, c2, c3, c4⟩ := round 2 f2 b1
  refine ⟨f3, ?_, c1.1, fun r r0 r1 => ?_⟩
  · have l1 : ∀ (x7 : Int) (f : List Int) (v : List Int), x7 < 3 → Ev (fun k => spec_l6Far.l2 k f x7 0 us ss ls ps skew) v → Ev (fun k => spec_l6Far.l1 k f x7 us ss ls ps skew) v := by
      intro x7 f v hx hv
      refine Ev.step (fun k => ?_) hv
      simp only [spec_l6Far.l1]
      rw [if_pos hx]
    have fin : Ev (fun k => spec_l6Far.l1 k f3 3 us ss ls ps skew) f3 := by
      refine Ev.step (f := fun _ => some f3) (fun k => ?_) (Ev.now _)
      simp only [spec_l6Far.l1]
      rw [if_neg (by decide)]
    have w1 : wrap64 (0 + 1) = 1 := w64 (by decide) (by decide)
    have w2 : wrap64 (1 + 1) = 2 := w64 (by decide) (by decide)
    have w3 : wrap64 (2 + 1) = 3 := w64 (by decide) (by decide)
    have v1 : wrap64 1 = 1 := w64 (by decide) (by decide)
    have v2 : wrap64 2 = 2 := w64 (by decide) (by decide)
    have v3 : wrap64 3 = 3 := w64 (by decide) (by decide)
    rw [w1] at a4
    rw [w2] at b4
    rw [w3] at c4
    have all := l1 0 _ f3 (by decide) (a4 f3 (l1 1 _ f3 (by decide) (b4 f3 (l1 2 _ f3 (by decide) (c4 f3 fin)))))
    have t0 : tz < (([3, 3, 3] : List Int).length : Int) := by simpa using ht.2
    unfold spec_l6Far.f
    refine Ev.step (f := fun k => spec_l6Far.l0 k tz [3] 1 us ss ls ps skew) (fun k => by simp [spec_l6Far.l0, v1]) ?_
    refine Ev.step (f := fun k => spec_l6Far.l0 k tz [3, 3] 2 us ss ls ps skew) (fun k => by simp [spec_l6Far.l0, v2]) ?_
    refine Ev.step (f := fun k => spec_l6Far.l0 k tz [3, 3, 3] 3 us ss ls ps skew) (fun k => by simp [spec_l6Far.l0, v3]) ?_
    refine Ev.step (fun k => ?_) all
    simp only [spec_l6Far.l0]
    rw [if_neg (by decide), if_pos ht.1, if_pos t0]
  · have lo := (c1.2.2 r r0 r1).1
    have hi := (c1.2.2 r r0 r1).2
    have g2 := c2 r r0 r1
    have g1 := b2 r r0 r1
    rcases dist_cases ls r tz with ⟨e, d⟩ | ⟨_, hl, d⟩ | ⟨_, _, ⟨m, m1, m2⟩, d⟩ | ⟨_, _, _, d⟩
    · subst e
      have := c1.2.1; omega
    · have := a3 r tz hl
      have := start.2.1
      omega
    · have := b3 r m m1
      have := a3 m tz m2
      have := start.2.1
      omega
    · omega

theorem spec_NextHop_ev (us ss : List Int) (ls ps : List S42) (skew a tz : Int) (h1 : us.length ≤ 1048576) (h2 : ss.length ≤ 1048576) (h3 : ls.length ≤ 1048576) (h4 : ps.length ≤ 1048576) : Ev (fun k => spec_NextHop.f k us ss ls ps skew a tz) (hopS us ss ls ps skew a tz) := by
  have dead : ∀ b : Bool, b = true → Ev (fun k => spec_NextHop.j0 k a tz b us ss ls ps skew) (-1) := by
    intro b hb
    subst hb
    refine Ev.step (f := fun _ => some (-1)) (fun k => ?_) (Ev.now _)
    simp only [spec_NextHop.j0, if_true]
  unfold spec_NextHop.f hopS
  refine Ev.bind (spec_ConfigOk_ev us ss ls ps skew h1 h2 h3 h4) ?_
  by_cases hc : confB us ss ls ps skew = true
  · simp only [hc, if_true, spec_l6Realm_eq, Option.bind_some]
    by_cases ha : 0 ≤ a ∧ a < 3
    · rw [decide_eq_true ha]
      simp only [if_true]
      by_cases ht : 0 ≤ tz ∧ tz < 3
      · rw [decide_eq_true ht]
        simp only [if_true]
        cases hab : (a == tz) with
        | true =>
          simp only [if_true]
          exact dead _ rfl
        | false =>
          simp only [Bool.false_eq_true, if_false]
          obtain ⟨f, hf, hl, hd⟩ := spec_l6Far_ev us ss ls ps skew tz (confB_links hc) ht
          refine Ev.step (f := fun k => (spec_l6Far.f k us ss ls ps skew tz).bind fun t237 => (spec_NextHop.l0 k a t237 (-1) 0 us ss ls ps skew)) (fun k => ?_) (Ev.bind hf ?_)
          · simp only [spec_NextHop.j0, Bool.false_eq_true, if_false]
          · have one : ∀ (r best : Int) (v : Int), (0 ≤ r ∧ r < 3) → (best = -1 ∨ (0 ≤ best ∧ best < 3 ∧ dist ls best tz < 3)) →
                Ev (fun k => spec_NextHop.l0 k a f (hopStep ls a tz best r) (r + 1) us ss ls ps skew) v →
                Ev (fun k => spec_NextHop.l0 k a f best r us ss ls ps skew) v := by
              intro r best v hr hb hv
              have e2 : Aside0 (wrap64 (r + 1) = r + 1) := ⟨w64 (by omega) (by omega)⟩
              refine Ev.step (f := fun k => ((spec_l6Has.f k ls a r).bind fun t240 => (if t240 = true then (if rd f r < 3 then (if best < 0 then (spec_NextHop.l0 k a f r (r + 1) us ss ls ps skew) else (if rd f r < rd f best then (spec_NextHop.l0 k a f r (r + 1) us ss ls ps skew) else (spec_NextHop.l0 k a f best (r + 1) us ss ls ps skew))) else (spec_NextHop.l0 k a f best (r + 1) us ss ls ps skew)) else (spec_NextHop.l0 k a f best (r + 1) us ss ls ps skew)))) (fun k => ?_) (Ev.bind (spec_l6Has_ev ls a r (by omega)) ?_)
              · have c1 : r < (f.length : Int) := by omega
                simp only [spec_NextHop.l0, e2.out, hr.1, hr.2, c1, if_true]
                by_cases hbn : best < 0
                · simp only [hbn, if_true]
                · have c2 : 0 ≤ best := by omega
                  have c3 : best < (f.length : Int) := by omega
                  simp only [hbn, if_false, c2, c3, if_true]
              · rw [hd r hr.1 hr.2]
                by_cases h1 : inP ⟨a, r⟩ ls = true
                · simp only [h1, if_true]
                  by_cases hbn : best < 0
                  · simp only [hbn, if_true]
                    by_cases g1 : dist ls r tz < 3
                    · have hs : hopStep ls a tz best r = r := by unfold hopStep; rw [if_pos h1, if_pos hbn, if_pos g1]
                      rw [hs] at hv
                      simp only [g1, if_true]; exact hv
                    · have hs : hopStep ls a tz best r = best := by unfold hopStep; rw [if_pos h1, if_pos hbn, if_neg g1]
                      rw [hs] at hv
                      simp only [g1, if_false]; exact hv
                  · have hb' : 0 ≤ best ∧ best < 3 ∧ dist ls best tz < 3 := by
                      rcases hb with h | h
                      · omega
                      · exact h
                    rw [hd best hb'.1 hb'.2.1]
                    simp only [hbn, if_false]
                    by_cases g2 : dist ls r tz < dist ls best tz
                    · have g1 : dist ls r tz < 3 := by omega
                      have hs : hopStep ls a tz best r = r := by unfold hopStep; rw [if_pos h1, if_neg hbn, if_pos g2]
                      rw [hs] at hv
                      simp only [g1, g2, if_true]; exact hv
                    · have hs : hopStep ls a tz best r = best := by unfold hopStep; rw [if_pos h1, if_neg hbn, if_neg g2]
                      rw [hs] at hv
                      simp only [g2, if_false, ite_self]; exact hv
                · have hs : hopStep ls a tz best r = best := by unfold hopStep; rw [if_neg h1]
                  rw [hs] at hv
                  simp only [h1, if_false, Bool.false_eq_true]; exact hv
            have k0 := hopStep_ok (ls := ls) (a := a) (tz := tz) (best := -1) (r := 0) (by omega) (.inl rfl)
            have k1 := hopStep_ok (a := a) (r := 1) (by omega) k0
            refine one 0 _ _ (by omega) (.inl rfl) (one 1 _ _ (by omega) k0 (one 2 _ _ (by omega) k1 ?_))
            refine Ev.step (f := fun _ => some _) (fun k => ?_) (Ev.now _)
            simp only [spec_NextHop.l0]
            rw [if_neg (by decide)]
      · rw [decide_eq_false ht]
        simp only [Bool.false_eq_true, if_false]
        exact dead _ rfl
    · rw [decide_eq_false ha]
      simp only [Bool.false_eq_true, if_false]
      exact dead _ rfl
  · simp only [hc, Bool.false_eq_true, if_false]
    exact dead _ rfl

/-- What is known of the best hop after n realms were looked at. -/
def hopI (ls : List S42) (a tz n b : Int) : Prop :=
  (b = -1 ∧ ∀ r, 0 ≤ r → r < n → (⟨a, r⟩ : S42) ∈ ls → 3 ≤ dist ls r tz) ∨ (0 ≤ b ∧ b < n ∧ (⟨a, b⟩ : S42) ∈ ls ∧ dist ls b tz < 3 ∧ ∀ r, 0 ≤ r → r < n → (⟨a, r⟩ : S42) ∈ ls → dist ls b tz ≤ dist ls r tz)
theorem hopI_step {ls : List S42} {a tz n b : Int} (hn : 0 ≤ n) (h : hopI ls a tz n b) : hopI ls a tz (n + 1) (hopStep ls a tz b n) := by
  have hd := dist_le ls n tz
  unfold hopStep
  rcases inP_or (⟨a, n⟩ : S42) ls with ⟨hm, e⟩ | ⟨hm, e⟩
  · rw [if_pos e]
    rcases h with ⟨rfl, h⟩ | ⟨h0, h1, h2, h3, h4⟩
    · rw [if_pos (by decide : (-1 : Int) < 0)]
      by_cases c : dist ls n tz < 3
      · rw [if_pos c]
        refine .inr ⟨hn, by omega, hm, c, fun r r0 r1 r2 => ?_⟩
        by_cases hr : r = n
        · subst hr; omega
        · have := h r r0 (by omega) r2; omega
      · rw [if_neg c]
        refine .inl ⟨rfl, fun r r0 r1 r2 => ?_⟩
        by_cases hr : r = n
        · subst hr; omega
        · exact h r r0 (by omega) r2
    · rw [if_neg (by omega : ¬ b < 0)]
      by_cases c : dist ls n tz < dist ls b tz
      · rw [if_pos c]
        refine .inr ⟨hn, by omega, hm, by omega, fun r r0 r1 r2 => ?_⟩
        by_cases hr : r = n
        · subst hr; omega
        · have := h4 r r0 (by omega) r2; omega
      · rw [if_neg c]
        refine .inr ⟨h0, by omega, h2, h3, fun r r0 r1 r2 => ?_⟩
        by_cases hr : r = n
        · subst hr; omega
        · exact h4 r r0 (by omega) r2
  · rw [if_neg (by rw [e]; decide)]
    rcases h with ⟨rfl, h⟩ | ⟨h0, h1, h2, h3, h4⟩
    · refine .inl ⟨rfl, fun r r0 r1 r2 => ?_⟩
      by_cases hr : r = n
      · subst hr; exact absurd r2 hm
      · exact h r r0 (by omega) r2
    · refine .inr ⟨h0, by omega, h2, h3, fun r r0 r1 r2 => ?_⟩
      by_cases hr : r = n
      · subst hr; exact absurd r2 hm
      · exact h4 r r0 (by omega) r2
theorem hopI_3 (ls : List S42) (a tz : Int) : hopI ls a tz 3 (hopStep ls a tz (hopStep ls a tz (hopStep ls a tz (-1) 0) 1) 2) :=
  hopI_step (n := 2) (by decide) (hopI_step (n := 1) (by decide) (hopI_step (n := 0) (by decide) (.inl ⟨rfl, fun r r0 r1 => by omega⟩)))
theorem links_in {us ss : List Int} {ls ps : List S42} {skew : Int} (h : confB us ss ls ps skew = true) {x : S42} (hx : x ∈ ls) : okLink x := by
  obtain ⟨i, hi, rfl⟩ := List.mem_iff_getElem.1 hx
  have := ((confB_links h).2 i hi).1
  rw [rdP_get ls i hi] at this
  exact this
/-- What the next hop is: none, or one that is linked and no farther than any. -/
theorem hopS_what {us ss : List Int} {ls ps : List S42} {skew a tz : Int} (hc : confB us ss ls ps skew = true) (ha : 0 ≤ a ∧ a < 3) (ht : 0 ≤ tz ∧ tz < 3) (hne : ¬ a = tz) : hopI ls a tz 3 (hopS us ss ls ps skew a tz) := by
  unfold hopS
  have e : (a == tz) = false := by simp [hne]
  rw [if_pos hc, if_pos (decide_eq_true ha), if_pos (decide_eq_true ht), e, if_neg (by decide)]
  exact hopI_3 ls a tz
theorem hopS_or {us ss : List Int} {ls ps : List S42} {skew a tz : Int} : hopS us ss ls ps skew a tz = -1 ∨ (confB us ss ls ps skew = true ∧ (0 ≤ a ∧ a < 3) ∧ (0 ≤ tz ∧ tz < 3) ∧ ¬ a = tz) := by
  by_cases hc : confB us ss ls ps skew = true
  · by_cases ha : 0 ≤ a ∧ a < 3
    · by_cases ht : 0 ≤ tz ∧ tz < 3
      · by_cases hne : a = tz
        · refine .inl ?_
          unfold hopS
          have e : (a == tz) = true := by simp [hne]
          rw [if_pos hc, if_pos (decide_eq_true ha), if_pos (decide_eq_true ht), e, if_pos rfl]
        · exact .inr ⟨hc, ha, ht, hne⟩
      · refine .inl ?_
        unfold hopS
        rw [if_pos hc, if_pos (decide_eq_true ha), decide_eq_false ht, if_neg (by decide)]
    · refine .inl ?_
      unfold hopS
      rw [if_pos hc, decide_eq_false ha, if_neg (by decide)]
  · refine .inl ?_
    unfold hopS
    rw [if_neg hc]
/-- Where there is none, there is no link. -/
theorem hopS_none {us ss : List Int} {ls ps : List S42} {skew a tz : Int} (h : hopS us ss ls ps skew a tz < 0) : hopS us ss ls ps skew a tz = -1 ∧ (confB us ss ls ps skew = true → ¬ a = tz → ¬ (⟨a, tz⟩ : S42) ∈ ls) := by
  have h1 : hopS us ss ls ps skew a tz = -1 := by
    rcases hopS_or (us := us) (ss := ss) (ls := ls) (ps := ps) (skew := skew) (a := a) (tz := tz) with e | ⟨hc, ha, ht, hne⟩
    · exact e
    · rcases hopS_what hc ha ht hne with ⟨e, _⟩ | ⟨h0, _⟩
      · exact e
      · omega
  refine ⟨h1, fun hc hne hm => ?_⟩
  have hl := links_in hc hm
  unfold okLink at hl
  simp only at hl
  rcases hopS_what hc hl.1 hl.2.1 hne with ⟨_, g⟩ | ⟨h0, _⟩
  · have := g tz hl.2.1.1 hl.2.1.2 hm
    rw [dist_self] at this
    omega
  · omega
/-- Where there is one, it is linked, and from there it is at most one more. -/
theorem hopS_some {us ss : List Int} {ls ps : List S42} {skew a tz : Int} (h : ¬ hopS us ss ls ps skew a tz < 0) : (⟨a, hopS us ss ls ps skew a tz⟩ : S42) ∈ ls ∧ (¬ hopS us ss ls ps skew a tz = tz → hopS us ss ls ps skew (hopS us ss ls ps skew a tz) tz = tz) := by
  rcases hopS_or (us := us) (ss := ss) (ls := ls) (ps := ps) (skew := skew) (a := a) (tz := tz) with e | ⟨hc, ha, ht, hne⟩
  · omega
  · rcases hopS_what hc ha ht hne with ⟨e, _⟩ | ⟨h0, h1, h2, h3, h4⟩
    · omega
    · generalize hopS us ss ls ps skew a tz = q at h h0 h1 h2 h3 h4 ⊢
      refine ⟨h2, fun hq => ?_⟩
      have hl := links_in hc h2
      unfold okLink at hl
      simp only at hl
      have hm : (⟨q, tz⟩ : S42) ∈ ls := by
        rcases dist_cases ls q tz with ⟨e, _⟩ | ⟨_, hm, _⟩ | ⟨_, n1, ⟨m, m1, m2⟩, hd⟩ | ⟨_, _, _, hd⟩
        · exact absurd e hq
        · exact hm
        · have l1 := links_in hc m1
          have l2 := links_in hc m2
          unfold okLink at l1 l2
          simp only at l1 l2
          have hma : m = a := by omega
          subst hma
          have := h4 tz ht.1 ht.2 m2
          rw [dist_self] at this
          omega
        · omega
      rcases hopS_what hc ⟨h0, h1⟩ ht hq with ⟨_, g⟩ | ⟨_, _, _, _, g⟩
      · have := g tz ht.1 ht.2 hm
        rw [dist_self] at this
        omega
      · have g1 := g tz ht.1 ht.2 hm
        rw [dist_self] at g1
        rcases dist_cases ls (hopS us ss ls ps skew q tz) tz with ⟨e, _⟩ | ⟨_, _, hd⟩ | ⟨_, _, _, hd⟩ | ⟨_, _, _, hd⟩
        · exact e
        · omega
        · omega
        · omega

theorem FnWay : ∀ (l0 : List Int), l0.length ≤ maxLen → l0.length * 1 ≤ 140737488351232 → (∀ a ∈ l0, (Lit.int .u8 a).wf = true) → ∃ k, laws_FnWay.f k l0 = some true := by
  intro b hm hb hw
  apply Ev.rounds
  unfold laws_FnWay.f
  simp only [laws_big_eq, Option.bind_some]
  by_cases hbig : (b.length : Int) > 1048576
  · simp only [hbig, decide_true, if_true]; exact Ev.now _
  · simp only [hbig, decide_false, Bool.false_eq_true, if_false]
    obtain ⟨us, ss, ls, ps, sk, a, tz, hd, g1, g2, g3, g4⟩ := spec_DrawNextHop_ok b (by omega)
    refine Ev.bind hd (Ev.bind (impl_NextHop_ev us ss ls ps sk a tz g1 g2 g3 g4) (Ev.bind (spec_NextHop_ev us ss ls ps sk a tz g1 g2 g3 g4) ?_))
    simp only [if_true]
    by_cases hq : hopS us ss ls ps sk a tz < 0
    · simp only [hq, if_true]
      obtain ⟨e1, hno⟩ := hopS_none hq
      rw [e1]
      have loop : ∀ (d i : Nat), i + d = ls.length → Ev (fun k => laws_FnWay.l0 k a tz (-1) (i : Int) us ss ls ps sk) true := by
        intro d
        induction d with
        | zero =>
          intro i hi
          refine Ev.step (f := fun _ => some true) (fun k => ?_) (Ev.now _)
          simp only [laws_FnWay.l0]
          rw [if_neg (by omega)]
          rfl
        | succ d ih =>
          intro i hi
          have c1 : (i : Int) < (ls.length : Int) := by omega
          have c2 : 0 ≤ (i : Int) := by omega
          have e2 : wrap64 ((i : Int) + 1) = ((i + 1 : Nat) : Int) := w64 (by omega) (by omega)
          have hn := ih (i + 1) (by omega)
          refine Ev.step (f := fun k => (spec_ConfigOk.f k us ss ls ps sk).bind fun t381 => (if t381 = true then (if a = tz then (laws_FnWay.l0 k a tz (-1) ((i + 1 : Nat) : Int) us ss ls ps sk) else (if (((rd_T42 ls i).f0) == a && (((rd_T42 ls i).f1) == tz)) = true then (some false) else (laws_FnWay.l0 k a tz (-1) ((i + 1 : Nat) : Int) us ss ls ps sk))) else (laws_FnWay.l0 k a tz (-1) ((i + 1 : Nat) : Int) us ss ls ps sk))) (fun k => ?_) (Ev.bind (spec_ConfigOk_ev us ss ls ps sk g1 g2 g3 g4) ?_)
          · simp only [laws_FnWay.l0, c1, c2, if_true, e2]
          · by_cases hc : confB us ss ls ps sk = true
            · simp only [hc, if_true]
              by_cases hat : a = tz
              · simp only [hat, if_true] at hn ⊢
                exact hn
              · have hf : ¬ (((rd_T42 ls i).f0) == a && (((rd_T42 ls i).f1) == tz)) = true := by
                  intro h
                  have := (sameP _ a tz).1 h
                  rw [rdP_get ls i (by omega)] at this
                  exact hno hc hat (this ▸ List.getElem_mem (by omega))
                simp only [hat, if_false, hf]
                exact hn
            · simp only [hc, Bool.false_eq_true, if_false]
              exact hn
      exact loop ls.length 0 (by omega)
    · simp only [hq, if_false]
      obtain ⟨hm, h2⟩ := hopS_some hq
      generalize hopS us ss ls ps sk a tz = q at hm h2 hq ⊢
      have loop : ∀ (d i : Nat) (x : Bool), i + d = ls.length → (x = true ∨ ∃ j, i ≤ j ∧ ∃ h : j < ls.length, ls[j] = ⟨a, q⟩) → Ev (fun k => laws_FnWay.l1 k a tz q x (i : Int) us ss ls ps sk) true := by
        intro d
        induction d with
        | zero =>
          intro i x hi hx
          have hx' : x = true := by
            rcases hx with h | ⟨j, h1, h2, _⟩
            · exact h
            · omega
          subst hx'
          by_cases hqt : q = tz
          · refine Ev.step (f := fun _ => some true) (fun k => ?_) (Ev.now _)
            simp only [laws_FnWay.l1]
            rw [if_neg (by omega), if_pos trivial, if_pos hqt]
          · refine Ev.step (f := fun k => (impl_NextHop.f k us ss ls ps sk q tz).bind fun t384 => (some (t384 == tz))) (fun k => ?_) (Ev.bind (impl_NextHop_ev us ss ls ps sk q tz g1 g2 g3 g4) ?_)
            · simp only [laws_FnWay.l1]
              rw [if_neg (by omega), if_pos trivial, if_neg hqt]
            · rw [h2 hqt]
              simp only [beq_self_eq_true]
              exact Ev.now _
        | succ d ih =>
          intro i x hi hx
          have c1 : (i : Int) < (ls.length : Int) := by omega
          have c2 : 0 ≤ (i : Int) := by omega
          have e2 : wrap64 ((i : Int) + 1) = ((i + 1 : Nat) : Int) := w64 (by omega) (by omega)
          cases x with
          | true =>
            refine Ev.step (f := fun k => laws_FnWay.l1 k a tz q true ((i + 1 : Nat) : Int) us ss ls ps sk) (fun k => ?_) (ih (i + 1) true (by omega) (.inl rfl))
            simp only [laws_FnWay.l1, c1, if_true, e2]
          | false =>
            refine Ev.step (f := fun k => laws_FnWay.l1 k a tz q (((rd_T42 ls i).f0) == a && (((rd_T42 ls i).f1) == q)) ((i + 1 : Nat) : Int) us ss ls ps sk) (fun k => ?_) (ih (i + 1) _ (by omega) ?_)
            · simp only [laws_FnWay.l1, c1, c2, if_true, e2, Bool.false_eq_true, if_false]
            · rcases hx with h | ⟨j, h1, hj, h3⟩
              · cases h
              · by_cases hij : i = j
                · subst hij
                  refine .inl ?_
                  rw [sameP, rdP_get ls i hj]
                  exact h3
                · exact .inr ⟨j, by omega, hj, h3⟩
      obtain ⟨j, hj, h3⟩ := List.mem_iff_getElem.1 hm
      exact loop ls.length 0 false (by omega) (.inr ⟨j, by omega, hj, h3⟩)

end Go.Proofs.Ytmhjpnjolgigmaa.Pure
