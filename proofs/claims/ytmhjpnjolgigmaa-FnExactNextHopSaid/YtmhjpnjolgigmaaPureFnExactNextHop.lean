/- The program's NextHop returns what the reference's returns, for all arguments. -/
import Derived.Test.YtmhjpnjolgigmaaOFnExactNextHopx12
import Derived.Test.YtmhjpnjolgigmaaBase
import Derived.Test.YtmhjpnjolgigmaaTerms
namespace Go.Proofs.Ytmhjpnjolgigmaa.Pure
open Go.RowKit Go.Proofs.Ytmhjpnjolgigmaa.OFnExactNextHop Go.Proofs.YtmhjpnjolgigmaaW.PrintWords Go.Proofs.YtmhjpnjolgigmaaW.PrintLast Go.Proofs.YtmhjpnjolgigmaaW.PrintMore Go.Proofs.Ytmhjpnjolgigmaa.Base
set_option linter.unusedVariables false
set_option linter.unusedSimpArgs false
theorem laws_szIntS_eq (l : List Int) (a : Int) (ha0 : 0 ≤ a) (ha : a ≤ 1048576) (hl : l.length ≤ maxLen) : ∃ r, laws_szIntS.f l a = some r ∧ r ≤ a ∧ (¬ r < 0 → (l.length : Int) ≤ a) := by
  have hl' : l.length ≤ 9223372036854775807 := hl
  have e : wrap64 (a - (l.length : Int)) = a - (l.length : Int) := w64 (by omega) (by omega)
  unfold laws_szIntS.f
  by_cases h : a - (l.length : Int) < 0
  · exact ⟨-1, by rw [e, if_pos h], by omega, fun hh => absurd (by decide) hh⟩
  · exact ⟨a - (l.length : Int), by rw [e, if_neg h], by omega, fun _ => by omega⟩

theorem laws_szPairS_eq (l : List S127) (a : Int) (ha0 : 0 ≤ a) (ha : a ≤ 1048576) (hl : l.length ≤ maxLen) : ∃ r, laws_szPairS.f l a = some r ∧ r ≤ a ∧ (¬ r < 0 → (l.length : Int) ≤ a) := by
  have hl' : l.length ≤ 9223372036854775807 := hl
  have e : wrap64 (a - (l.length : Int)) = a - (l.length : Int) := w64 (by omega) (by omega)
  unfold laws_szPairS.f
  by_cases h : a - (l.length : Int) < 0
  · exact ⟨-1, by rw [e, if_pos h], by omega, fun hh => absurd (by decide) hh⟩
  · exact ⟨a - (l.length : Int), by rw [e, if_neg h], by omega, fun _ => by omega⟩

theorem laws_szConfig_eq (us ss : List Int) (ls ps : List S127) (skew : Int) (h1 : us.length ≤ maxLen) (h2 : ss.length ≤ maxLen) (h3 : ls.length ≤ maxLen) (h4 : ps.length ≤ maxLen) : ∃ r, laws_szConfig.f us ss ls ps skew 1048576 = some r ∧ (¬ r < 0 → us.length ≤ 1048576 ∧ ss.length ≤ 1048576 ∧ ls.length ≤ 1048576 ∧ ps.length ≤ 1048576) := by
  unfold laws_szConfig.f
  obtain ⟨r1, e1, p1, q1⟩ := laws_szIntS_eq us 1048576 (by decide) (by decide) h1
  rw [e1, Option.bind_some]
  by_cases n1 : r1 < 0
  · exact ⟨-1, by rw [if_pos n1], fun h => absurd (by decide) h⟩
  · rw [if_neg n1]
    obtain ⟨r2, e2, p2, q2⟩ := laws_szIntS_eq ss r1 (by omega) (by omega) h2
    rw [e2, Option.bind_some]
    by_cases n2 : r2 < 0
    · exact ⟨-1, by rw [if_pos n2], fun h => absurd (by decide) h⟩
    · rw [if_neg n2]
      obtain ⟨r3, e3, p3, q3⟩ := laws_szPairS_eq ls r2 (by omega) (by omega) h3
      rw [e3, Option.bind_some]
      by_cases n3 : r3 < 0
      · exact ⟨-1, by rw [if_pos n3], fun h => absurd (by decide) h⟩
      · rw [if_neg n3]
        obtain ⟨r4, e4, p4, q4⟩ := laws_szPairS_eq ps r3 (by omega) (by omega) h4
        rw [e4, Option.bind_some]
        by_cases n4 : r4 < 0
        · exact ⟨-1, by rw [if_pos n4], fun h => absurd (by decide) h⟩
        · have := q1 n1; have := q2 n2; have := q3 n3; have := q4 n4
          exact ⟨r4, by rw [if_neg n4], fun _ => ⟨by omega, by omega, by omega, by omega⟩⟩

theorem laws_toIntS_ev (l : List Int) (hl : l.length ≤ 1073741824) : Ev (fun k => laws_toIntS.f k l) l := by
  have loop : ∀ (d i : Nat) (rest : List Int), i + d = l.length → rest.length = d → Ev (fun k => laws_toIntS.l0 k l (l.take i ++ rest) (i : Int)) l := by
    intro d
    induction d with
    | zero =>
      intro i rest hi hr
      have : rest = [] := List.eq_nil_of_length_eq_zero hr
      subst this
      refine Ev.step (f := fun _ => some l) (fun k => ?_) (Ev.now _)
      simp only [laws_toIntS.l0]
      rw [if_neg (by omega), List.take_of_length_le (by omega), List.append_nil]
    | succ d ih =>
      intro i rest hi hr
      match rest, hr with
      | x :: rest, hr =>
        have hlt : i < l.length := by omega
        have hti : (l.take i).length = i := by rw [List.length_take]; omega
        have hr' := ih (i + 1) rest (by omega) (by simpa using hr)
        rw [List.take_succ_eq_append_getElem hlt, List.append_assoc] at hr'
        refine Ev.step (fun k => ?_) hr'
        simp only [laws_toIntS.l0]
        rw [if_pos (by omega), if_pos (by omega), if_pos (by rw [List.length_append, hti, List.length_cons]; omega), w64 (by omega) (by omega), rd_get l i hlt, Int.toNat_natCast]
        rw [List.set_append_right _ _ (by omega), hti, Nat.sub_self, List.set_cons_zero]
        rfl
  unfold laws_toIntS.f
  have a1 : 0 ≤ (l.length : Int) := by omega
  have a2 : l.length ≤ 35184372088832 := by omega
  simp only [a1, a2, if_true, Int.toNat_natCast]
  exact loop l.length 0 (List.replicate l.length 0) (by omega) (by simp)

theorem laws_toPair_eq (a b : Int) : laws_toPair.f a b = some (a, b) := rfl

def toP (l : List S127) : List S42 := l.map fun x => ⟨x.f0, x.f1⟩
theorem toP_len (l : List S127) : (toP l).length = l.length := by simp [toP]
theorem rdQ_get (l : List S127) (i : Nat) (h : i < l.length) : rd_T127 l (i : Int) = l[i] := by
  unfold rd_T127
  rw [Int.toNat_natCast, List.getD_eq_getElem?_getD, List.getElem?_eq_getElem h]; rfl
theorem laws_toPairS_ev (l : List S127) (hl : l.length ≤ 1048576) : Ev (fun k => laws_toPairS.f k l) (toP l) := by
  have loop : ∀ (d i : Nat) (rest : List S42), i + d = l.length → rest.length = d → Ev (fun k => laws_toPairS.l0 k l ((toP l).take i ++ rest) (i : Int)) (toP l) := by
    intro d
    induction d with
    | zero =>
      intro i rest hi hr
      have : rest = [] := List.eq_nil_of_length_eq_zero hr
      subst this
      refine Ev.step (f := fun _ => some (toP l)) (fun k => ?_) (Ev.now _)
      simp only [laws_toPairS.l0]
      rw [if_neg (by omega), List.take_of_length_le (by rw [toP_len]; omega), List.append_nil]
    | succ d ih =>
      intro i rest hi hr
      match rest, hr with
      | x :: rest, hr =>
        have hlt : i < l.length := by omega
        have hlt' : i < (toP l).length := by rw [toP_len]; omega
        have hti : ((toP l).take i).length = i := by rw [List.length_take, toP_len]; omega
        have hge : (toP l)[i] = ⟨l[i].f0, l[i].f1⟩ := by simp [toP]
        have hr' := ih (i + 1) rest (by omega) (by simpa using hr)
        rw [List.take_succ_eq_append_getElem hlt', List.append_assoc] at hr'
        refine Ev.step (fun k => ?_) hr'
        simp only [laws_toPairS.l0, laws_toPair.f, Option.bind_some]
        rw [if_pos (by omega), if_pos (by omega), if_pos (by rw [List.length_append, hti, List.length_cons]; omega), w64 (by omega) (by omega), rdQ_get l i hlt, Int.toNat_natCast]
        rw [List.set_append_right _ _ (by omega), hti, Nat.sub_self, List.set_cons_zero, hge]
        rfl
  unfold laws_toPairS.f
  have a1 : 0 ≤ (l.length : Int) := by omega
  have a2 : l.length ≤ 17592186044416 := by omega
  simp only [a1, a2, if_true, Int.toNat_natCast]
  exact loop l.length 0 (List.replicate l.length z42) (by omega) (by simp)

theorem laws_toConfig_ev (us ss : List Int) (ls ps : List S127) (skew : Int) (h1 : us.length ≤ 1048576) (h2 : ss.length ≤ 1048576) (h3 : ls.length ≤ 1048576) (h4 : ps.length ≤ 1048576) : Ev (fun k => laws_toConfig.f k us ss ls ps skew) (us, ss, toP ls, toP ps, skew) := by
  unfold laws_toConfig.f
  exact Ev.bind (laws_toIntS_ev us (by omega)) (Ev.bind (laws_toIntS_ev ss (by omega)) (Ev.bind (laws_toPairS_ev ls h3) (Ev.bind (laws_toPairS_ev ps h4) (Ev.now _))))

theorem laws_eqIntS_self (l : List Int) (hl : l.length ≤ 1073741824) : Ev (fun k => laws_eqIntS.f k l l) true := by
  have loop : ∀ d i : Nat, i + d = l.length → Ev (fun k => laws_eqIntS.l0 k l l (i : Int)) true := by
    intro d
    induction d with
    | zero =>
      intro i hi
      refine Ev.step (f := fun _ => some true) (fun k => ?_) (Ev.now _)
      simp only [laws_eqIntS.l0]
      rw [if_neg (by omega)]
    | succ d ih =>
      intro i hi
      refine Ev.step (fun k => ?_) (ih (i + 1) (by omega))
      simp only [laws_eqIntS.l0]
      rw [if_pos (by omega), if_pos (by omega), if_pos (by omega), if_pos trivial, w64 (by omega) (by omega)]
      rfl
  unfold laws_eqIntS.f
  simp only [if_true]
  exact loop l.length 0 (by omega)

theorem laws_eqPair_self (a b : Int) : laws_eqPair.f a b a b = some true := by simp [laws_eqPair.f]

theorem laws_eqPairS_self (l : List S42) (hl : l.length ≤ 1073741824) : Ev (fun k => laws_eqPairS.f k l l) true := by
  have loop : ∀ d i : Nat, i + d = l.length → Ev (fun k => laws_eqPairS.l0 k l l (i : Int)) true := by
    intro d
    induction d with
    | zero =>
      intro i hi
      refine Ev.step (f := fun _ => some true) (fun k => ?_) (Ev.now _)
      simp only [laws_eqPairS.l0]
      rw [if_neg (by omega)]
    | succ d ih =>
      intro i hi
      refine Ev.step (fun k => ?_) (ih (i + 1) (by omega))
      simp only [laws_eqPairS.l0]
      rw [if_pos (by omega), if_pos (by omega), if_pos (by omega), laws_eqPair_self, Option.bind_some, if_pos rfl, w64 (by omega) (by omega)]
      rfl
  unfold laws_eqPairS.f
  simp only [if_true]
  exact loop l.length 0 (by omega)

theorem laws_eqConfig_self (us ss : List Int) (ls ps : List S42) (skew : Int) (h1 : us.length ≤ 1048576) (h2 : ss.length ≤ 1048576) (h3 : ls.length ≤ 1048576) (h4 : ps.length ≤ 1048576) : Ev (fun k => laws_eqConfig.f k us ss ls ps skew us ss ls ps skew) true := by
  unfold laws_eqConfig.f
  refine Ev.bind (laws_eqIntS_self us (by omega)) ?_
  simp only [if_true]
  refine Ev.bind (laws_eqIntS_self ss (by omega)) ?_
  simp only [if_true]
  refine Ev.bind (laws_eqPairS_self ls (by omega)) ?_
  simp only [if_true]
  refine Ev.bind (laws_eqPairS_self ps (by omega)) ?_
  simp only [if_true]
  exact Ev.now _

theorem impl_within_eq (a lo hi : Int) : impl_within.f a lo hi = some (decide (lo ≤ a ∧ a ≤ hi)) := by
  unfold impl_within.f
  by_cases h : a ≥ lo
  · rw [if_pos h]; congr 1; simp [show lo ≤ a from h]
  · rw [if_neg h]; congr 1; simp [show ¬ lo ≤ a from h]

theorem impl_isRealm_eq (a : Int) : impl_isRealm.f a = some (decide (0 ≤ a ∧ a < 3)) := by
  unfold impl_isRealm.f
  rw [impl_within_eq, Option.bind_some]
  congr 1
  exact decide_eq_decide.mpr (by omega)

/-- At most so many numbers, all of a kind. -/
def allP (ok : Int → Prop) (l : List Int) (most : Int) : Prop := (l.length : Int) ≤ most ∧ ∀ i, i < l.length → ok (rd l (i : Int))
noncomputable def allB (ok : Int → Prop) (l : List Int) (most : Int) : Bool := @decide (allP ok l most) (Classical.propDecidable _)
theorem allB_t {ok : Int → Prop} {l : List Int} {most : Int} (h : allP ok l most) : allB ok l most = true := @decide_eq_true _ (Classical.propDecidable _) h
theorem allB_f {ok : Int → Prop} {l : List Int} {most : Int} (h : ¬ allP ok l most) : allB ok l most = false := @decide_eq_false _ (Classical.propDecidable _) h
theorem allB_out {ok : Int → Prop} {l : List Int} {most : Int} (h : allB ok l most = true) : allP ok l most := by
  by_cases hp : allP ok l most
  · exact hp
  · rw [allB_f hp] at h; cases h
def ok3 (x : Int) : Prop := 0 ≤ x ∧ x < 3

noncomputable def inP (x : S42) (l : List S42) : Bool := @decide (x ∈ l) (Classical.propDecidable _)
theorem inP_t {x : S42} {l : List S42} (h : x ∈ l) : inP x l = true := @decide_eq_true _ (Classical.propDecidable _) h
theorem inP_f {x : S42} {l : List S42} (h : ¬ x ∈ l) : inP x l = false := @decide_eq_false _ (Classical.propDecidable _) h
theorem inP_nil (x : S42) : inP x [] = false := inP_f (by simp)
theorem inP_eq {s x : S42} {l : List S42} (h : x = s) : inP s (x :: l) = true := inP_t (by simp [h])
theorem inP_ne {s x : S42} {l : List S42} (h : ¬ x = s) : inP s (x :: l) = inP s l := by
  have : ¬ s = x := fun e => h e.symm
  by_cases hs : s ∈ l
  · rw [inP_t hs, inP_t (List.mem_cons_of_mem _ hs)]
  · rw [inP_f hs, inP_f (by simp [hs, this])]
theorem inP_iff {s : S42} {l : List S42} {b : Bool} (h : b = true ↔ s ∈ l) : b = inP s l := by
  by_cases hs : s ∈ l
  · rw [inP_t hs, h.2 hs]
  · rw [inP_f hs]; cases b with
    | true => exact absurd (h.1 rfl) hs
    | false => rfl
theorem inP_or (x : S42) (l : List S42) : (x ∈ l ∧ inP x l = true) ∨ (¬ x ∈ l ∧ inP x l = false) := by
  by_cases h : x ∈ l
  · exact .inl ⟨h, inP_t h⟩
  · exact .inr ⟨h, inP_f h⟩
theorem sameP (x : S42) (a b : Int) : ((x.f0 == a) && (x.f1 == b)) = true ↔ x = ⟨a, b⟩ := by
  obtain ⟨c, d⟩ := x
  simp
theorem sameP' (x : S42) (a b : Int) : ((a == x.f0) && (b == x.f1)) = true ↔ x = ⟨a, b⟩ := by
  obtain ⟨c, d⟩ := x
  simp only [Bool.and_eq_true, beq_iff_eq]
  constructor
  · rintro ⟨rfl, rfl⟩; rfl
  · intro h; cases h; exact ⟨rfl, rfl⟩
theorem rdP_get (l : List S42) (i : Nat) (h : i < l.length) : rd_T42 l (i : Int) = l[i] := by
  unfold rd_T42
  rw [Int.toNat_natCast, List.getD_eq_getElem?_getD, List.getElem?_eq_getElem h]; rfl
def pairsP (ok : S42 → Prop) (l : List S42) : Prop := l.length ≤ 6 ∧ ∀ i, i < l.length → ok (rd_T42 l (i : Int)) ∧ ¬ (rd_T42 l (i : Int) ∈ l.take i)
noncomputable def pairsB (ok : S42 → Prop) (l : List S42) : Bool := @decide (pairsP ok l) (Classical.propDecidable _)
theorem pairsB_t {ok : S42 → Prop} {l : List S42} (h : pairsP ok l) : pairsB ok l = true := @decide_eq_true _ (Classical.propDecidable _) h
theorem pairsB_f {ok : S42 → Prop} {l : List S42} (h : ¬ pairsP ok l) : pairsB ok l = false := @decide_eq_false _ (Classical.propDecidable _) h
theorem pairsB_out {ok : S42 → Prop} {l : List S42} (h : pairsB ok l = true) : pairsP ok l := by
  by_cases hp : pairsP ok l
  · exact hp
  · rw [pairsB_f hp] at h; cases h
def okLink (p : S42) : Prop := (0 ≤ p.f0 ∧ p.f0 < 3) ∧ (0 ≤ p.f1 ∧ p.f1 < 3) ∧ p.f0 ≠ p.f1
def okProxy (p : S42) : Prop := (0 ≤ p.f0 ∧ p.f0 < 3) ∧ (0 ≤ p.f1 ∧ p.f1 < 3)
noncomputable def confB (us ss : List Int) (ls ps : List S42) (skew : Int) : Bool :=
  if (us.length : Int) = 3 then (if allB ok3 us 3 = true then (if (ss.length : Int) = 3 then (if allB ok3 ss 3 = true then (if pairsB okLink ls = true then (if pairsB okProxy ps = true then decide (0 ≤ skew ∧ skew ≤ 20) else false) else false) else false) else false) else false) else false

theorem impl_ConfigOk_1_eq (p : S42) : (okLink p ∧ impl_ConfigOk_1.f p.f0 p.f1 = some true) ∨ (¬ okLink p ∧ impl_ConfigOk_1.f p.f0 p.f1 = some false) := by
  unfold impl_ConfigOk_1.f okLink
  simp only [impl_isRealm_eq, Option.bind_some]
  by_cases h1 : 0 ≤ p.f0 ∧ p.f0 < 3
  · rw [decide_eq_true h1, if_pos rfl]
    by_cases h2 : 0 ≤ p.f1 ∧ p.f1 < 3
    · rw [decide_eq_true h2, if_pos rfl]
      by_cases h3 : p.f0 = p.f1
      · exact .inr ⟨fun h => h.2.2 h3, by rw [h3]; simp⟩
      · exact .inl ⟨⟨h1, h2, h3⟩, by simp [h3]⟩
    · rw [decide_eq_false h2, if_neg (by decide)]
      exact .inr ⟨fun h => h2 h.2.1, rfl⟩
  · rw [decide_eq_false h1, if_neg (by decide)]
    exact .inr ⟨fun h => h1 h.1, rfl⟩

theorem indexP_ev (l : List S42) (a b : Int) (hl : l.length ≤ 1073741824) : ∃ r : Int, Ev (fun k => impl_Pair_110.f k l a b) r ∧ (r ≥ 0 ↔ (⟨a, b⟩ : S42) ∈ l) := by
  have loop : ∀ d i : Nat, i + d = l.length → ∃ r : Int, Ev (fun k => impl_Pair_110.l0 k l (l.length : Int) (i : Int) a b) r ∧ (r ≥ 0 ↔ (⟨a, b⟩ : S42) ∈ l.drop i) := by
    intro d
    induction d with
    | zero =>
      intro i hi
      refine ⟨-1, Ev.step (f := fun _ => some (-1)) (fun k => ?_) (Ev.now _), ?_⟩
      · simp only [impl_Pair_110.l0]
        rw [if_neg (by omega)]
      · rw [List.drop_of_length_le (by omega)]; simp
    | succ d ih =>
      intro i hi
      have hlt : i < l.length := by omega
      have e2 : wrap64 ((i : Int) + 1) = ((i + 1 : Nat) : Int) := by rw [w64 (x := (i : Int) + 1) (by omega) (by omega)]; omega
      rw [List.drop_eq_getElem_cons hlt]
      by_cases h : l[i] = ⟨a, b⟩
      · refine ⟨i, Ev.step (f := fun _ => some (i : Int)) (fun k => ?_) (Ev.now _), ?_⟩
        · simp only [impl_Pair_110.l0]
          rw [if_pos (by omega), if_pos (by omega), if_pos (by omega), rdP_get _ _ hlt, if_pos ((sameP' _ _ _).2 h)]
        · exact ⟨fun _ => by rw [h]; exact List.mem_cons_self, fun _ => by omega⟩
      · obtain ⟨r, hr, hi2⟩ := ih (i + 1) (by omega)
        refine ⟨r, Ev.step (fun k => ?_) hr, ?_⟩
        · simp only [impl_Pair_110.l0]
          rw [if_pos (by omega), if_pos (by omega), if_pos (by omega), rdP_get _ _ hlt, if_neg (fun e => h ((sameP' _ _ _).1 e)), e2]
        · rw [hi2, List.mem_cons]; exact ⟨Or.inr, fun e => e.resolve_left (fun e => h e.symm)⟩
  have := loop l.length 0 (by omega)
  unfold impl_Pair_110.f
  simpa using this

theorem containsP_ev (l : List S42) (a b : Int) (hl : l.length ≤ 1073741824) : Ev (fun k => impl_Pair_68.f k l a b) (inP ⟨a, b⟩ l) := by
  obtain ⟨r, hr, h⟩ := indexP_ev l a b hl
  unfold impl_Pair_68.f
  refine Ev.bind hr (ev_eq (Ev.now _) ?_)
  exact inP_iff (by rw [decide_eq_true_eq]; exact h)

theorem impl_arePairs_1_ev (l : List S42) (hl : l.length ≤ 1048576) : Ev (fun k => impl_arePairs_of_ConfigOk_1.f k l) (pairsB okLink l) := by
  have loop : ∀ d i : Nat, i + d = l.length → (∀ j, j < i → okLink (rd_T42 l (j : Int)) ∧ ¬ (rd_T42 l (j : Int) ∈ l.take j)) → Ev (fun k => impl_arePairs_of_ConfigOk_1.l0 k l l (l.length : Int) (i : Int)) (pairsB okLink l) := by
    intro d
    induction d with
    | zero =>
      intro i hi hj
      refine Ev.step (f := fun _ => some (decide ((l.length : Int) ≤ 6))) (fun k => ?_) (ev_eq (Ev.now _) ?_)
      · simp only [impl_arePairs_of_ConfigOk_1.l0]
        rw [if_neg (by omega)]
      · by_cases h : (l.length : Int) ≤ 6
        · rw [decide_eq_true h, pairsB_t ⟨by omega, fun j h => hj j (by omega)⟩]
        · rw [decide_eq_false h, pairsB_f (fun hp => h (by have := hp.1; omega))]
    | succ d ih =>
      intro i hi hj
      have hlt : i < l.length := by omega
      have e2 : wrap64 ((i : Int) + 1) = ((i + 1 : Nat) : Int) := by rw [w64 (x := (i : Int) + 1) (by omega) (by omega)]; omega
      obtain ⟨p, hp⟩ : ∃ p, p = rd_T42 l (i : Int) := ⟨_, rfl⟩
      have c1 : (i : Int) < (l.length : Int) := by omega
      have c2 : 0 ≤ (i : Int) := by omega
      have c3 : (i : Int) ≤ (l.length : Int) := by omega
      rcases impl_ConfigOk_1_eq p with ⟨hk, he⟩ | ⟨hk, he⟩
      · refine Ev.step (f := fun k => (impl_Pair_68.f k (l.take i) p.f0 p.f1).bind fun t => (if t = true then some false else impl_arePairs_of_ConfigOk_1.l0 k l l (l.length : Int) ((i + 1 : Nat) : Int))) (fun k => ?_) (Ev.bind (containsP_ev _ _ _ (by rw [List.length_take]; omega)) ?_)
        · simp only [impl_arePairs_of_ConfigOk_1.l0, ← hp, c1, c2, c3, if_true, he, Option.bind_some, e2, Int.toNat_natCast]
        · rcases inP_or p (l.take i) with ⟨h1, h2⟩ | ⟨h1, h2⟩
          · have h2' : inP (⟨p.f0, p.f1⟩ : S42) (l.take i) = true := h2
            rw [h2']
            simp only [if_true]
            exact ev_eq (Ev.now _) (pairsB_f (fun hq => (hq.2 i hlt).2 (by rw [← hp]; exact h1))).symm
          · have h2' : inP (⟨p.f0, p.f1⟩ : S42) (l.take i) = false := h2
            rw [h2']
            simp only [Bool.false_eq_true, if_false]
            refine ih (i + 1) (by omega) (fun j h => ?_)
            by_cases hji : j = i
            · subst hji; rw [← hp]; exact ⟨hk, h1⟩
            · exact hj j (by omega)
      · refine Ev.step (f := fun _ => some false) (fun k => ?_) (ev_eq (Ev.now _) (pairsB_f (fun hq => hk (by rw [hp]; exact (hq.2 i hlt).1))).symm)
        simp only [impl_arePairs_of_ConfigOk_1.l0, ← hp, c1, c2, if_true, he, Option.bind_some, Bool.false_eq_true, if_false]
  unfold impl_arePairs_of_ConfigOk_1.f
  exact loop l.length 0 (by omega) (fun j h => by omega)

theorem impl_isService_eq (a : Int) : impl_isService.f a = some (decide (0 ≤ a ∧ a ≤ 2)) := by
  unfold impl_isService.f; rw [impl_within_eq, Option.bind_some]

theorem impl_ConfigOk_2_eq (p : S42) : (okProxy p ∧ impl_ConfigOk_2.f p.f0 p.f1 = some true) ∨ (¬ okProxy p ∧ impl_ConfigOk_2.f p.f0 p.f1 = some false) := by
  unfold impl_ConfigOk_2.f okProxy
  simp only [impl_isService_eq, Option.bind_some]
  by_cases h1 : 0 ≤ p.f0 ∧ p.f0 ≤ 2
  · rw [decide_eq_true h1, if_pos rfl]
    by_cases h2 : 0 ≤ p.f1 ∧ p.f1 ≤ 2
    · rw [decide_eq_true h2]
      exact .inl ⟨⟨by omega, by omega⟩, rfl⟩
    · rw [decide_eq_false h2]
      exact .inr ⟨fun h => h2 (by omega), rfl⟩
  · rw [decide_eq_false h1, if_neg (by decide)]
    exact .inr ⟨fun h => h1 (by omega), rfl⟩

theorem impl_arePairs_2_ev (l : List S42) (hl : l.length ≤ 1048576) : Ev (fun k => impl_arePairs_of_ConfigOk_2.f k l) (pairsB okProxy l) := by
  have loop : ∀ d i : Nat, i + d = l.length → (∀ j, j < i → okProxy (rd_T42 l (j : Int)) ∧ ¬ (rd_T42 l (j : Int) ∈ l.take j)) → Ev (fun k => impl_arePairs_of_ConfigOk_2.l0 k l l (l.length : Int) (i : Int)) (pairsB okProxy l) := by
    intro d
    induction d with
    | zero =>
      intro i hi hj
      refine Ev.step (f := fun _ => some (decide ((l.length : Int) ≤ 6))) (fun k => ?_) (ev_eq (Ev.now _) ?_)
      · simp only [impl_arePairs_of_ConfigOk_2.l0]
        rw [if_neg (by omega)]
      · by_cases h : (l.length : Int) ≤ 6
        · rw [decide_eq_true h, pairsB_t ⟨by omega, fun j h => hj j (by omega)⟩]
        · rw [decide_eq_false h, pairsB_f (fun hp => h (by have := hp.1; omega))]
    | succ d ih =>
      intro i hi hj
      have hlt : i < l.length := by omega
      have e2 : wrap64 ((i : Int) + 1) = ((i + 1 : Nat) : Int) := by rw [w64 (x := (i : Int) + 1) (by omega) (by omega)]; omega
      obtain ⟨p, hp⟩ : ∃ p, p = rd_T42 l (i : Int) := ⟨_, rfl⟩
      have c1 : (i : Int) < (l.length : Int) := by omega
      have c2 : 0 ≤ (i : Int) := by omega
      have c3 : (i : Int) ≤ (l.length : Int) := by omega
      rcases impl_ConfigOk_2_eq p with ⟨hk, he⟩ | ⟨hk, he⟩
      · refine Ev.step (f := fun k => (impl_Pair_68.f k (l.take i) p.f0 p.f1).bind fun t => (if t = true then some false else impl_arePairs_of_ConfigOk_2.l0 k l l (l.length : Int) ((i + 1 : Nat) : Int))) (fun k => ?_) (Ev.bind (containsP_ev _ _ _ (by rw [List.length_take]; omega)) ?_)
        · simp only [impl_arePairs_of_ConfigOk_2.l0, ← hp, c1, c2, c3, if_true, he, Option.bind_some, e2, Int.toNat_natCast]
        · rcases inP_or p (l.take i) with ⟨h1, h2⟩ | ⟨h1, h2⟩
          · have h2' : inP (⟨p.f0, p.f1⟩ : S42) (l.take i) = true := h2
            rw [h2']
            simp only [if_true]
            exact ev_eq (Ev.now _) (pairsB_f (fun hq => (hq.2 i hlt).2 (by rw [← hp]; exact h1))).symm
          · have h2' : inP (⟨p.f0, p.f1⟩ : S42) (l.take i) = false := h2
            rw [h2']
            simp only [Bool.false_eq_true, if_false]
            refine ih (i + 1) (by omega) (fun j h => ?_)
            by_cases hji : j = i
            · subst hji; rw [← hp]; exact ⟨hk, h1⟩
            · exact hj j (by omega)
      · refine Ev.step (f := fun _ => some false) (fun k => ?_) (ev_eq (Ev.now _) (pairsB_f (fun hq => hk (by rw [hp]; exact (hq.2 i hlt).1))).symm)
        simp only [impl_arePairs_of_ConfigOk_2.l0, ← hp, c1, c2, if_true, he, Option.bind_some, Bool.false_eq_true, if_false]
  unfold impl_arePairs_of_ConfigOk_2.f
  exact loop l.length 0 (by omega) (fun j h => by omega)

theorem impl_areAll_of_isRealm_ev (l : List Int) (most : Int) (hl : l.length ≤ 1048576) : Ev (fun k => impl_areAll_of_isRealm.f k l most) (allB ok3 l most) := by
  have loop : ∀ d i : Nat, i + d = l.length → (∀ j, j < i → ok3 (rd l (j : Int))) → Ev (fun k => impl_areAll_of_isRealm.l0 k l most l (l.length : Int) (i : Int)) (allB ok3 l most) := by
    intro d
    induction d with
    | zero =>
      intro i hi hj
      refine Ev.step (f := fun _ => some (decide ((l.length : Int) ≤ most))) (fun k => ?_) (ev_eq (Ev.now _) ?_)
      · simp only [impl_areAll_of_isRealm.l0]
        rw [if_neg (by omega)]
      · by_cases h : (l.length : Int) ≤ most
        · rw [decide_eq_true h, allB_t ⟨h, fun j h => hj j (by omega)⟩]
        · rw [decide_eq_false h, allB_f (fun hp => h hp.1)]
    | succ d ih =>
      intro i hi hj
      have hlt : i < l.length := by omega
      have e2 : wrap64 ((i : Int) + 1) = ((i + 1 : Nat) : Int) := by rw [w64 (x := (i : Int) + 1) (by omega) (by omega)]; omega
      have c1 : (i : Int) < (l.length : Int) := by omega
      have c2 : 0 ≤ (i : Int) := by omega
      by_cases a1 : ok3 (rd l (i : Int))
      · refine Ev.step (fun k => ?_) (ih (i + 1) (by omega) (fun j h => ?_))
        · simp only [impl_areAll_of_isRealm.l0, c1, c2, if_true, impl_isRealm_eq, Option.bind_some, e2]
          rw [decide_eq_true (by unfold ok3 at a1; omega), if_pos rfl]
        · by_cases hji : j = i
          · subst hji; exact a1
          · exact hj j (by omega)
      · refine Ev.step (f := fun _ => some false) (fun k => ?_) (ev_eq (Ev.now _) (allB_f (fun hp => a1 (hp.2 i hlt))).symm)
        simp only [impl_areAll_of_isRealm.l0, c1, c2, if_true, impl_isRealm_eq, Option.bind_some]
        rw [decide_eq_false (by unfold ok3 at a1; omega), if_neg (by decide)]
  unfold impl_areAll_of_isRealm.f
  exact loop l.length 0 (by omega) (fun j h => by omega)

theorem impl_ConfigOk_ev (us ss : List Int) (ls ps : List S42) (skew : Int) (h1 : us.length ≤ 1048576) (h2 : ss.length ≤ 1048576) (h3 : ls.length ≤ 1048576) (h4 : ps.length ≤ 1048576) : Ev (fun k => impl_ConfigOk.f k us ss ls ps skew) (confB us ss ls ps skew) := by
  unfold impl_ConfigOk.f
  refine Ev.bind (impl_arePairs_1_ev ls h3) (Ev.bind (impl_arePairs_2_ev ps h4) ?_)
  obtain ⟨x, hx⟩ : ∃ x, x = pairsB okLink ls := ⟨_, rfl⟩
  obtain ⟨y, hy⟩ : ∃ y, y = pairsB okProxy ps := ⟨_, rfl⟩
  have no : x = false ∨ y = false → confB us ss ls ps skew = false := by
    intro h
    unfold confB
    rw [← hx, ← hy]
    rcases h with rfl | rfl
    · simp
    · simp
  rw [← hx, ← hy]
  cases x with
  | false =>
    simp only [Bool.false_eq_true, if_false]
    exact ev_eq (Ev.now _) (no (.inl rfl)).symm
  | true =>
    cases y with
    | false =>
      simp only [Bool.false_eq_true, if_false, if_true]
      exact ev_eq (Ev.now _) (no (.inr rfl)).symm
    | true =>
      simp only [if_true]
      unfold confB
      rw [← hx, ← hy]
      by_cases a1 : (us.length : Int) = 3
      · simp only [a1, if_true]
        refine Ev.bind (impl_areAll_of_isRealm_ev us 3 h1) ?_
        by_cases a2 : allB ok3 us 3 = true
        · simp only [a2, if_true]
          by_cases a3 : (ss.length : Int) = 3
          · simp only [a3, if_true]
            refine Ev.bind (impl_areAll_of_isRealm_ev ss 3 h2) ?_
            by_cases a4 : allB ok3 ss 3 = true
            · simp only [a4, if_true, impl_within_eq, Option.bind_some]; exact Ev.now _
            · simp only [a4, if_false, Bool.false_eq_true]; exact Ev.now _
          · simp only [a3, if_false]; exact Ev.now _
        · simp only [a2, if_false, Bool.false_eq_true]; exact Ev.now _
      · simp only [a1, if_false]; exact Ev.now _

theorem confB_lens {us ss : List Int} {ls ps : List S42} {skew : Int} (h : confB us ss ls ps skew = true) : (us.length : Int) = 3 ∧ (ss.length : Int) = 3 := by
  unfold confB at h
  by_cases a1 : (us.length : Int) = 3
  · rw [if_pos a1] at h
    by_cases a2 : allB ok3 us 3 = true
    · rw [if_pos a2] at h
      by_cases a3 : (ss.length : Int) = 3
      · exact ⟨a1, a3⟩
      · rw [if_neg a3] at h; cases h
    · rw [if_neg a2] at h; cases h
  · rw [if_neg a1] at h; cases h
theorem confB_links {us ss : List Int} {ls ps : List S42} {skew : Int} (h : confB us ss ls ps skew = true) : pairsP okLink ls := by
  unfold confB at h
  by_cases a1 : (us.length : Int) = 3
  · rw [if_pos a1] at h
    by_cases a2 : allB ok3 us 3 = true
    · rw [if_pos a2] at h
      by_cases a3 : (ss.length : Int) = 3
      · rw [if_pos a3] at h
        by_cases a4 : allB ok3 ss 3 = true
        · rw [if_pos a4] at h
          by_cases a5 : pairsB okLink ls = true
          · exact pairsB_out a5
          · rw [if_neg a5] at h; cases h
        · rw [if_neg a4] at h; cases h
      · rw [if_neg a3] at h; cases h
    · rw [if_neg a2] at h; cases h
  · rw [if_neg a1] at h; cases h
noncomputable def realmS (us ss : List Int) (ls ps : List S42) (skew p : Int) : Int :=
  if confB us ss ls ps skew = true then (if decide (0 ≤ p ∧ p < 6) = true then (if p < 3 then rd us p else rd ss (p - 3)) else -1) else -1

/-- How many links lead from a realm tz another one: 3 where there is no way. -/
noncomputable def dist (ls : List S42) (a tz : Int) : Int :=
  @ite Int (a = tz) (Classical.propDecidable _) 0 (@ite Int ((⟨a, tz⟩ : S42) ∈ ls) (Classical.propDecidable _) 1 (@ite Int (∃ m, (⟨a, m⟩ : S42) ∈ ls ∧ (⟨m, tz⟩ : S42) ∈ ls) (Classical.propDecidable _) 2 3))
theorem dist_self (ls : List S42) (a : Int) : dist ls a a = 0 := by unfold dist; exact @if_pos _ (Classical.propDecidable _) rfl _ _ _
theorem dist_one {ls : List S42} {a tz : Int} (h : ¬ a = tz) (h1 : (⟨a, tz⟩ : S42) ∈ ls) : dist ls a tz = 1 := by
  unfold dist
  rw [@if_neg _ (Classical.propDecidable _) h, @if_pos _ (Classical.propDecidable _) h1]
theorem dist_two {ls : List S42} {a tz : Int} (h : ¬ a = tz) (h1 : ¬ (⟨a, tz⟩ : S42) ∈ ls) (h2 : ∃ m, (⟨a, m⟩ : S42) ∈ ls ∧ (⟨m, tz⟩ : S42) ∈ ls) : dist ls a tz = 2 := by
  unfold dist
  rw [@if_neg _ (Classical.propDecidable _) h, @if_neg _ (Classical.propDecidable _) h1, @if_pos _ (Classical.propDecidable _) h2]
theorem dist_three {ls : List S42} {a tz : Int} (h : ¬ a = tz) (h1 : ¬ (⟨a, tz⟩ : S42) ∈ ls) (h2 : ¬ ∃ m, (⟨a, m⟩ : S42) ∈ ls ∧ (⟨m, tz⟩ : S42) ∈ ls) : dist ls a tz = 3 := by
  unfold dist
  rw [@if_neg _ (Classical.propDecidable _) h, @if_neg _ (Classical.propDecidable _) h1, @if_neg _ (Classical.propDecidable _) h2]
/-- The four ways. -/
theorem dist_cases (ls : List S42) (a tz : Int) : (a = tz ∧ dist ls a tz = 0) ∨ (¬ a = tz ∧ (⟨a, tz⟩ : S42) ∈ ls ∧ dist ls a tz = 1) ∨ (¬ a = tz ∧ ¬ (⟨a, tz⟩ : S42) ∈ ls ∧ (∃ m, (⟨a, m⟩ : S42) ∈ ls ∧ (⟨m, tz⟩ : S42) ∈ ls) ∧ dist ls a tz = 2) ∨ (¬ a = tz ∧ ¬ (⟨a, tz⟩ : S42) ∈ ls ∧ (¬ ∃ m, (⟨a, m⟩ : S42) ∈ ls ∧ (⟨m, tz⟩ : S42) ∈ ls) ∧ dist ls a tz = 3) := by
  by_cases h : a = tz
  · exact .inl ⟨h, h ▸ dist_self ls a⟩
  · by_cases h1 : (⟨a, tz⟩ : S42) ∈ ls
    · exact .inr (.inl ⟨h, h1, dist_one h h1⟩)
    · by_cases h2 : ∃ m, (⟨a, m⟩ : S42) ∈ ls ∧ (⟨m, tz⟩ : S42) ∈ ls
      · exact .inr (.inr (.inl ⟨h, h1, h2, dist_two h h1 h2⟩))
      · exact .inr (.inr (.inr ⟨h, h1, h2, dist_three h h1 h2⟩))
theorem dist_le (ls : List S42) (a tz : Int) : 0 ≤ dist ls a tz ∧ dist ls a tz ≤ 3 := by
  rcases dist_cases ls a tz with ⟨_, h⟩ | ⟨_, _, h⟩ | ⟨_, _, _, h⟩ | ⟨_, _, _, h⟩ <;> omega
theorem dist_tri {ls : List S42} {a b tz : Int} (h : (⟨a, b⟩ : S42) ∈ ls) : dist ls a tz ≤ 1 + dist ls b tz := by
  rcases dist_cases ls a tz with ⟨_, h1⟩ | ⟨_, _, h1⟩ | ⟨_, n1, _, h1⟩ | ⟨_, n1, n2, h1⟩
  · have := dist_le ls b tz; omega
  · have := dist_le ls b tz; omega
  · rcases dist_cases ls b tz with ⟨e, h2⟩ | ⟨_, _, h2⟩ | ⟨_, _, _, h2⟩ | ⟨_, _, _, h2⟩
    · subst e; exact absurd h n1
    · omega
    · omega
    · omega
  · rcases dist_cases ls b tz with ⟨e, h2⟩ | ⟨_, m1, h2⟩ | ⟨_, _, _, h2⟩ | ⟨_, _, _, h2⟩
    · subst e; exact absurd h n1
    · exact absurd ⟨b, h, m1⟩ n2
    · omega
    · omega
/-- far with at most n links left, as far as it says so. -/
noncomputable def farR (ls : List S42) : Nat → Int → Int → Int
  | 0, a, tz => @ite Int (a = tz) (Classical.propDecidable _) 0 3
  | 1, a, tz => @ite Int (a = tz) (Classical.propDecidable _) 0 (@ite Int ((⟨a, tz⟩ : S42) ∈ ls) (Classical.propDecidable _) 1 3)
  | _ + 2, a, tz => dist ls a tz
theorem farR_0 (ls : List S42) (a tz : Int) : farR ls 0 a tz = @ite Int (a = tz) (Classical.propDecidable _) 0 3 := rfl
theorem farR_1 (ls : List S42) (a tz : Int) : farR ls 1 a tz = @ite Int (a = tz) (Classical.propDecidable _) 0 (@ite Int ((⟨a, tz⟩ : S42) ∈ ls) (Classical.propDecidable _) 1 3) := rfl
theorem farR_self (ls : List S42) (n : Nat) (a : Int) : farR ls n a a = 0 := by
  match n with
  | 0 => exact @if_pos _ (Classical.propDecidable _) rfl _ _ _
  | 1 => exact @if_pos _ (Classical.propDecidable _) rfl _ _ _
  | _ + 2 => exact dist_self ls a
theorem farR_le (ls : List S42) (n : Nat) (a tz : Int) : 0 ≤ farR ls n a tz ∧ farR ls n a tz ≤ 3 := by
  match n with
  | 0 =>
    rw [farR_0]
    by_cases h : a = tz
    · rw [@if_pos _ (Classical.propDecidable _) h]; omega
    · rw [@if_neg _ (Classical.propDecidable _) h]; omega
  | 1 =>
    rw [farR_1]
    by_cases h : a = tz
    · rw [@if_pos _ (Classical.propDecidable _) h]; omega
    · rw [@if_neg _ (Classical.propDecidable _) h]
      by_cases h1 : (⟨a, tz⟩ : S42) ∈ ls
      · rw [@if_pos _ (Classical.propDecidable _) h1]; omega
      · rw [@if_neg _ (Classical.propDecidable _) h1]; omega
  | _ + 2 => exact dist_le ls a tz
/-- The least of 3 and one more than what is said of where a's links (those in l) lead. -/
def isMin (l ls : List S42) (a : Int) (n : Nat) (tz r : Int) : Prop := (r = 3 ∨ ∃ b, (⟨a, b⟩ : S42) ∈ l ∧ r = 1 + farR ls n b tz) ∧ r ≤ 3 ∧ ∀ b, (⟨a, b⟩ : S42) ∈ l → r ≤ 1 + farR ls n b tz
theorem farR_step (ls : List S42) (n : Nat) (a tz r : Int) (h : ¬ a = tz) (hm : isMin ls ls a n tz r) : r = farR ls (n + 1) a tz := by
  obtain ⟨h1, h2, h3⟩ := hm
  match n with
  | 0 =>
    show r = @ite Int (a = tz) (Classical.propDecidable _) 0 (@ite Int ((⟨a, tz⟩ : S42) ∈ ls) (Classical.propDecidable _) 1 3)
    rw [@if_neg _ (Classical.propDecidable _) h]
    by_cases hl : (⟨a, tz⟩ : S42) ∈ ls
    · rw [@if_pos _ (Classical.propDecidable _) hl]
      have := h3 tz hl
      simp only [farR_self] at this
      rcases h1 with h1 | ⟨b, hb, h1⟩
      · omega
      · have := (farR_le ls 0 b tz).1; omega
    · rw [@if_neg _ (Classical.propDecidable _) hl]
      rcases h1 with h1 | ⟨b, hb, h1⟩
      · exact h1
      · have e : farR ls 0 b tz = 3 := @if_neg _ (Classical.propDecidable _) (fun e : b = tz => hl (e ▸ hb)) _ _ _
        rw [e] at h1; omega
  | 1 =>
    show r = dist ls a tz
    rcases dist_cases ls a tz with ⟨e, _⟩ | ⟨_, hl, d⟩ | ⟨_, n1, ⟨m, m1, m2⟩, d⟩ | ⟨_, n1, n2, d⟩
    · exact absurd e h
    · have := h3 tz hl
      simp only [farR_self] at this
      rcases h1 with h1 | ⟨b, hb, h1⟩
      · omega
      · have := (farR_le ls 1 b tz).1; omega
    · have := h3 m m1
      have e : farR ls 1 m tz ≤ 1 := by
        rw [farR_1]
        by_cases hm : m = tz
        · rw [@if_pos _ (Classical.propDecidable _) hm]; omega
        · rw [@if_neg _ (Classical.propDecidable _) hm, @if_pos _ (Classical.propDecidable _) m2]; omega
      rcases h1 with h1 | ⟨b, hb, h1⟩
      · omega
      · by_cases hb0 : b = tz
        · subst hb0; exact absurd hb n1
        · have e2 : 1 ≤ farR ls 1 b tz := by
            rw [farR_1]
            rw [@if_neg _ (Classical.propDecidable _) hb0]
            by_cases hb1 : (⟨b, tz⟩ : S42) ∈ ls
            · rw [@if_pos _ (Classical.propDecidable _) hb1]; omega
            · rw [@if_neg _ (Classical.propDecidable _) hb1]; omega
          omega
    · rcases h1 with h1 | ⟨b, hb, h1⟩
      · omega
      · by_cases hb0 : b = tz
        · subst hb0; exact absurd hb n1
        · have e2 : farR ls 1 b tz = 3 := by
            rw [farR_1]
            rw [@if_neg _ (Classical.propDecidable _) hb0, @if_neg _ (Classical.propDecidable _) (fun hb1 : (⟨b, tz⟩ : S42) ∈ ls => n2 ⟨b, hb, hb1⟩)]
          omega
  | n + 2 =>
    show r = dist ls a tz
    rcases dist_cases ls a tz with ⟨e, _⟩ | ⟨_, hl, d⟩ | ⟨_, n1, ⟨m, m1, m2⟩, d⟩ | ⟨_, n1, n2, d⟩
    · exact absurd e h
    · have := h3 tz hl
      simp only [farR_self] at this
      rcases h1 with h1 | ⟨b, hb, h1⟩
      · omega
      · have := (farR_le ls (n + 2) b tz).1; omega
    · have := h3 m m1
      have e : farR ls (n + 2) m tz ≤ 1 := by
        show dist ls m tz ≤ 1
        rcases dist_cases ls m tz with ⟨_, q⟩ | ⟨_, _, q⟩ | ⟨_, q1, _, _⟩ | ⟨_, q1, _, _⟩
        · omega
        · omega
        · exact absurd m2 q1
        · exact absurd m2 q1
      rcases h1 with h1 | ⟨b, hb, h1⟩
      · omega
      · have e2 : dist ls a tz ≤ 1 + dist ls b tz := dist_tri hb
        have e3 : farR ls (n + 2) b tz = dist ls b tz := rfl
        omega
    · rcases h1 with h1 | ⟨b, hb, h1⟩
      · omega
      · have e2 : dist ls a tz ≤ 1 + dist ls b tz := dist_tri hb
        have e3 : farR ls (n + 2) b tz = dist ls b tz := rfl
        omega
/-- One realm more is looked at. -/
noncomputable def hopStep (ls : List S42) (a tz best r : Int) : Int := if inP ⟨a, r⟩ ls = true then (if dist ls r tz < (if best < 0 then 3 else dist ls best tz) then r else best) else best
noncomputable def hopS (us ss : List Int) (ls ps : List S42) (skew a tz : Int) : Int :=
  if confB us ss ls ps skew = true then (if decide (0 ≤ a ∧ a < 3) = true then (if decide (0 ≤ tz ∧ tz < 3) = true then (if (a == tz) = true then -1 else hopStep ls a tz (hopStep ls a tz (hopStep ls a tz (-1) 0) 1) 2) else -1) else -1) else -1
theorem hopStep_ok {ls : List S42} {a tz best r : Int} (hr : 0 ≤ r ∧ r < 3) (h : best = -1 ∨ (0 ≤ best ∧ best < 3 ∧ dist ls best tz < 3)) : hopStep ls a tz best r = -1 ∨ (0 ≤ hopStep ls a tz best r ∧ hopStep ls a tz best r < 3 ∧ dist ls (hopStep ls a tz best r) tz < 3) := by
  unfold hopStep
  by_cases h1 : inP ⟨a, r⟩ ls = true
  · rw [if_pos h1]
    by_cases h2 : dist ls r tz < (if best < 0 then 3 else dist ls best tz)
    · rw [if_pos h2]
      refine .inr ⟨hr.1, hr.2, ?_⟩
      rcases h with h | h
      · rw [if_pos (by omega)] at h2; exact h2
      · rw [if_neg (by omega)] at h2; omega
    · rw [if_neg h2]; exact h
  · rw [if_neg h1]; exact h

theorem impl_far_ev (us ss : List Int) (ls ps : List S42) (skew : Int) (tz : Int) (h3 : ls.length ≤ 1048576) : ∀ (n : Nat) (a : Int), n ≤ 1000 → Ev (fun k => impl_far.f k us ss ls ps skew a tz (n : Int)) (farR ls n a tz) := by
  intro n
  have start : ∀ (m : Nat) (a v : Int), ¬ a = tz → Ev (fun k => impl_far.l0 k a tz (m : Int) 3 ls (ls.length : Int) 0 us ss ls ps skew) v → Ev (fun k => impl_far.f k us ss ls ps skew a tz (m : Int)) v := by
    intro m a v h hv
    refine Ev.step (fun k => ?_) hv
    simp only [impl_far.f]
    rw [if_neg h]
  have here : ∀ (m : Nat) (a : Int), a = tz → Ev (fun k => impl_far.f k us ss ls ps skew a tz (m : Int)) (farR ls m a tz) := by
    intro m a h
    subst h
    rw [farR_self]
    refine Ev.step (f := fun _ => some 0) (fun k => ?_) (Ev.now _)
    simp only [impl_far.f, if_true]
  induction n with
  | zero =>
    intro a _
    by_cases h : a = tz
    · exact here 0 a h
    · have e : farR ls 0 a tz = 3 := @if_neg _ (Classical.propDecidable _) h _ _ _
      rw [e]
      refine start 0 a 3 h ?_
      have loop : ∀ d i : Nat, i + d = ls.length → Ev (fun k => impl_far.l0 k a tz ((0 : Nat) : Int) 3 ls (ls.length : Int) (i : Int) us ss ls ps skew) 3 := by
        intro d
        induction d with
        | zero =>
          intro i hi
          refine Ev.step (f := fun _ => some 3) (fun k => ?_) (Ev.now _)
          simp only [impl_far.l0]
          rw [if_neg (by omega)]
        | succ d ih =>
          intro i hi
          have e2 : wrap64 ((i : Int) + 1) = ((i + 1 : Nat) : Int) := by rw [w64 (x := (i : Int) + 1) (by omega) (by omega)]; omega
          have c1 : (i : Int) < (ls.length : Int) := by omega
          have c2 : 0 ≤ (i : Int) := by omega
          have c3 : ¬ (((0 : Nat) : Int) > 0) := by omega
          refine Ev.step (fun k => ?_) (ih (i + 1) (by omega))
          simp only [impl_far.l0, c1, c2, c3, if_true, if_false, e2, ite_self]
      exact loop ls.length 0 (by omega)
  | succ n ih =>
    intro a hn
    by_cases h : a = tz
    · exact here (n + 1) a h
    · have part : ∀ r, (r = 3 ∨ ∃ b, (⟨a, b⟩ : S42) ∈ ls ∧ r = 1 + farR ls n b tz) → r ≤ 3 → 0 ≤ r := by
        intro r hr _
        rcases hr with hr | ⟨b, _, hr⟩
        · omega
        · have := (farR_le ls n b tz).1; omega
      have loop : ∀ (d i : Nat) (x : Int), i + d = ls.length → isMin (ls.take i) ls a n tz x → 0 ≤ x → ∃ r, Ev (fun k => impl_far.l0 k a tz ((n + 1 : Nat) : Int) x ls (ls.length : Int) (i : Int) us ss ls ps skew) r ∧ isMin ls ls a n tz r := by
        intro d
        induction d with
        | zero =>
          intro i x hi hx _
          have e : ls.take i = ls := List.take_of_length_le (by omega)
          rw [e] at hx
          refine ⟨x, Ev.step (f := fun _ => some x) (fun k => ?_) (Ev.now _), hx⟩
          simp only [impl_far.l0]
          rw [if_neg (by omega)]
        | succ d ih2 =>
          intro i x hi hx hx0
          have hlt : i < ls.length := by omega
          have c1 : (i : Int) < (ls.length : Int) := by omega
          have c2 : 0 ≤ (i : Int) := by omega
          have c3 : ((n + 1 : Nat) : Int) > 0 := by omega
          have htake := List.take_succ_eq_append_getElem hlt
          have mem : ∀ p, p ∈ ls.take (i + 1) ↔ p ∈ ls.take i ∨ p = ls[i] := by
            intro p; rw [htake, List.mem_append, List.mem_singleton]
          obtain ⟨⟨pa, pb⟩, hp⟩ : ∃ p, p = ls[i] := ⟨_, rfl⟩
          rw [← hp] at mem
          by_cases hf : pa = a
          · subst hf
            have hrec := ih pb (by omega)
            have hle := farR_le ls n pb tz
            have hmn : isMin (ls.take (i + 1)) ls pa n tz (mn x (1 + farR ls n pb tz)) := by
              obtain ⟨q1, q2, q3⟩ := hx
              unfold mn
              by_cases hlt2 : 1 + farR ls n pb tz < x
              · rw [if_pos hlt2]
                refine ⟨.inr ⟨pb, (mem _).2 (.inr rfl), rfl⟩, by omega, fun b hb => ?_⟩
                rcases (mem _).1 hb with hb | hb
                · have := q3 b hb; omega
                · cases hb; exact Int.le_refl _
              · rw [if_neg hlt2]
                refine ⟨?_, q2, fun b hb => ?_⟩
                · rcases q1 with q1 | ⟨b, hb, q1⟩
                  · exact .inl q1
                  · exact .inr ⟨b, (mem _).2 (.inl hb), q1⟩
                · rcases (mem _).1 hb with hb | hb
                  · exact q3 b hb
                  · cases hb; show x ≤ 1 + farR ls n pb tz; omega
            have hmn0 : 0 ≤ mn x (1 + farR ls n pb tz) := by unfold mn; split <;> omega
            obtain ⟨r, hr, hr2⟩ := ih2 (i + 1) _ (by omega) hmn hmn0
            refine ⟨r, Ev.step (f := fun k => (impl_far.f k us ss ls ps skew pb tz (n : Int)).bind fun t188 => (impl_far.l0 k pa tz ((n + 1 : Nat) : Int) (mn x (wrap64 (1 + t188))) ls (ls.length : Int) ((i + 1 : Nat) : Int) us ss ls ps skew)) (fun k => ?_) (Ev.bind hrec ?_), hr2⟩
            · have e2 : wrap64 ((i : Int) + 1) = ((i + 1 : Nat) : Int) := by rw [w64 (x := (i : Int) + 1) (by omega) (by omega)]; omega
              have e3 : Aside0 (wrap64 (((n + 1 : Nat) : Int) - 1) = (n : Int)) := ⟨by clear e2; rw [w64 (by omega) (by omega)]; omega⟩
              simp only [impl_far.l0, c1, c2, c3, if_true, rdP_get ls i hlt, ← hp, e2, e3.out]
            · rw [w64 (x := 1 + farR ls n pb tz) (by omega) (by omega)]
              exact hr
          · have hmn : isMin (ls.take (i + 1)) ls a n tz x := by
              obtain ⟨q1, q2, q3⟩ := hx
              refine ⟨?_, q2, fun b hb => ?_⟩
              · rcases q1 with q1 | ⟨b, hb, q1⟩
                · exact .inl q1
                · exact .inr ⟨b, (mem _).2 (.inl hb), q1⟩
              · rcases (mem _).1 hb with hb | hb
                · exact q3 b hb
                · cases hb; exact absurd rfl hf
            obtain ⟨r, hr, hr2⟩ := ih2 (i + 1) x (by omega) hmn hx0
            refine ⟨r, Ev.step (fun k => ?_) hr, hr2⟩
            have e2 : wrap64 ((i : Int) + 1) = ((i + 1 : Nat) : Int) := by rw [w64 (x := (i : Int) + 1) (by omega) (by omega)]; omega
            simp only [impl_far.l0, c1, c2, if_true, rdP_get ls i hlt, ← hp, hf, if_false, e2]
      obtain ⟨r, hr, hr2⟩ := loop ls.length 0 3 (by omega) ⟨.inl rfl, by omega, by simp⟩ (by omega)
      rw [← farR_step ls n a tz r h hr2]
      exact start (n + 1) a r h hr

theorem impl_NextHop_ev (us ss : List Int) (ls ps : List S42) (skew a tz : Int) (h1 : us.length ≤ 1048576) (h2 : ss.length ≤ 1048576) (h3 : ls.length ≤ 1048576) (h4 : ps.length ≤ 1048576) : Ev (fun k => impl_NextHop.f k us ss ls ps skew a tz) (hopS us ss ls ps skew a tz) := by
  have dead : ∀ b : Bool, b = true → Ev (fun k => impl_NextHop.j0 k a tz b us ss ls ps skew) (-1) := by
    intro b hb
    subst hb
    refine Ev.step (f := fun _ => some (-1)) (fun k => ?_) (Ev.now _)
    simp only [impl_NextHop.j0, if_true]
  have one : ∀ (r best : Int) (v : Int), (0 ≤ r ∧ r < 3) → (best = -1 ∨ (0 ≤ best ∧ best < 3 ∧ dist ls best tz < 3)) →
      Ev (fun k => impl_NextHop.l0 k a tz (hopStep ls a tz best r) (if hopStep ls a tz best r < 0 then 3 else dist ls (hopStep ls a tz best r) tz) (r + 1) us ss ls ps skew) v →
      Ev (fun k => impl_NextHop.l0 k a tz best (if best < 0 then 3 else dist ls best tz) r us ss ls ps skew) v := by
    intro r best v hr hb hv
    have e2 : wrap64 (r + 1) = r + 1 := w64 (by omega) (by omega)
    refine Ev.step (f := fun k => (impl_far.f k us ss ls ps skew r tz ((3 : Nat) : Int)).bind fun t193 => ((impl_Pair_68.f k ls a r).bind fun t194 => (if t194 = true then (if t193 < (if best < 0 then 3 else dist ls best tz) then (impl_NextHop.l0 k a tz r t193 (r + 1) us ss ls ps skew) else (impl_NextHop.l0 k a tz best (if best < 0 then 3 else dist ls best tz) (r + 1) us ss ls ps skew)) else (impl_NextHop.l0 k a tz best (if best < 0 then 3 else dist ls best tz) (r + 1) us ss ls ps skew)))) (fun k => ?_) (Ev.bind (impl_far_ev us ss ls ps skew tz h3 3 r (by decide)) (Ev.bind (containsP_ev ls a r (by omega)) ?_))
    · simp only [impl_NextHop.l0, e2]
      rw [if_pos hr.2]
      rfl
    · have e3 : farR ls 3 r tz = dist ls r tz := rfl
      rw [e3]
      by_cases h1 : inP ⟨a, r⟩ ls = true
      · simp only [h1, if_true]
        by_cases h2 : dist ls r tz < (if best < 0 then 3 else dist ls best tz)
        · have hs : hopStep ls a tz best r = r := by unfold hopStep; rw [if_pos h1, if_pos h2]
          rw [hs, if_neg (by omega)] at hv
          simp only [h2, if_true]
          exact hv
        · have hs : hopStep ls a tz best r = best := by unfold hopStep; rw [if_pos h1, if_neg h2]
          rw [hs] at hv
          simp only [h2, if_false]
          exact hv
      · have hs : hopStep ls a tz best r = best := by unfold hopStep; rw [if_neg h1]
        rw [hs] at hv
        simp only [h1, if_false, Bool.false_eq_true]
        exact hv
  unfold impl_NextHop.f hopS
  refine Ev.bind (impl_ConfigOk_ev us ss ls ps skew h1 h2 h3 h4) ?_
  by_cases hc : confB us ss ls ps skew = true
  · simp only [hc, if_true, impl_isRealm_eq, Option.bind_some]
    by_cases ha : 0 ≤ a ∧ a < 3
    · rw [decide_eq_true ha]
      simp only [if_true]
      by_cases ht : 0 ≤ tz ∧ tz < 3
      · rw [decide_eq_true ht]
        simp only [if_true]
        cases hab : (a == tz) with
        | true =>
          simp only [if_true]
          exact dead _ rfl
        | false =>
          simp only [Bool.false_eq_true, if_false]
          refine Ev.step (f := fun k => impl_NextHop.l0 k a tz (-1) (if (-1 : Int) < 0 then 3 else dist ls (-1) tz) 0 us ss ls ps skew) (fun k => ?_) ?_
          · simp only [impl_NextHop.j0, Bool.false_eq_true, if_false]
            rfl
          · have k0 := hopStep_ok (ls := ls) (a := a) (tz := tz) (best := -1) (r := 0) (by omega) (.inl rfl)
            have k1 := hopStep_ok (a := a) (r := 1) (by omega) k0
            refine one 0 _ _ (by omega) (.inl rfl) (one 1 _ _ (by omega) k0 (one 2 _ _ (by omega) k1 ?_))
            refine Ev.step (f := fun _ => some _) (fun k => ?_) (Ev.now _)
            simp only [impl_NextHop.l0]
            rw [if_neg (by decide)]
      · rw [decide_eq_false ht]
        simp only [Bool.false_eq_true, if_false]
        exact dead _ rfl
    · rw [decide_eq_false ha]
      simp only [Bool.false_eq_true, if_false]
      exact dead _ rfl
  · simp only [hc, Bool.false_eq_true, if_false]
    exact dead _ rfl

theorem spec_l5All_ev (l : List Int) (most : Int) (hl : l.length ≤ 1048576) : Ev (fun k => spec_l5All.f k l most 3) (allB ok3 l most) := by
  unfold spec_l5All.f
  by_cases h6 : (l.length : Int) > most
  · rw [allB_f (fun hp => by have := hp.1; omega)]
    simp only [h6, if_true]
    exact Ev.now _
  · simp only [h6, if_false]
    have loop : ∀ d i : Nat, i + d = l.length → (∀ j, j < i → ok3 (rd l (j : Int))) → Ev (fun k => spec_l5All.l0 k l 3 (i : Int)) (allB ok3 l most) := by
      intro d
      induction d with
      | zero =>
        intro i hi hj
        refine Ev.step (f := fun _ => some true) (fun k => ?_) (ev_eq (Ev.now _) (allB_t ⟨by omega, fun j h => hj j (by omega)⟩).symm)
        simp only [spec_l5All.l0]
        rw [if_neg (by omega)]
      | succ d ih =>
        intro i hi hj
        have hlt : i < l.length := by omega
        have e2 : wrap64 ((i : Int) + 1) = ((i + 1 : Nat) : Int) := by rw [w64 (x := (i : Int) + 1) (by omega) (by omega)]; omega
        have c1 : (i : Int) < (l.length : Int) := by omega
        have c2 : 0 ≤ (i : Int) := by omega
        by_cases a1 : rd l (i : Int) < 0
        · refine Ev.step (f := fun _ => some false) (fun k => ?_) (ev_eq (Ev.now _) (allB_f (fun hp => by have := hp.2 i hlt; unfold ok3 at this; omega)).symm)
          simp only [spec_l5All.l0, c1, c2, if_true, a1]
        · by_cases a2 : rd l (i : Int) ≥ 3
          · refine Ev.step (f := fun _ => some false) (fun k => ?_) (ev_eq (Ev.now _) (allB_f (fun hp => by have := hp.2 i hlt; unfold ok3 at this; omega)).symm)
            simp only [spec_l5All.l0, c1, c2, if_true, a1, if_false, a2]
          · refine Ev.step (fun k => ?_) (ih (i + 1) (by omega) (fun j h => ?_))
            · simp only [spec_l5All.l0, c1, c2, if_true, a1, if_false, a2, e2]
            · by_cases hji : j = i
              · subst hji; unfold ok3; omega
              · exact hj j (by omega)
    exact loop l.length 0 (by omega) (fun j h => by omega)

theorem spec_l6Has_ev (l : List S42) (a b : Int) (hl : l.length ≤ 1073741824) : Ev (fun k => spec_l6Has.f k l a b) (inP ⟨a, b⟩ l) := by
  have loop : ∀ d i : Nat, i + d = l.length → Ev (fun k => spec_l6Has.l0 k l (i : Int) a b) (inP ⟨a, b⟩ (l.drop i)) := by
    intro d
    induction d with
    | zero =>
      intro i hi
      refine Ev.step (f := fun _ => some false) (fun k => ?_) (ev_eq (Ev.now _) ?_)
      · simp only [spec_l6Has.l0]
        rw [if_neg (by omega)]
      · rw [List.drop_of_length_le (by omega), inP_nil]
    | succ d ih =>
      intro i hi
      have hlt : i < l.length := by omega
      have e2 : wrap64 ((i : Int) + 1) = ((i + 1 : Nat) : Int) := by rw [w64 (x := (i : Int) + 1) (by omega) (by omega)]; omega
      rw [List.drop_eq_getElem_cons hlt]
      by_cases h : l[i] = ⟨a, b⟩
      · refine Ev.step (f := fun _ => some true) (fun k => ?_) (ev_eq (Ev.now _) (inP_eq h).symm)
        simp only [spec_l6Has.l0]
        rw [if_pos (by omega), if_pos (by omega), rdP_get _ _ hlt, if_pos ((sameP _ _ _).2 h)]
      · refine Ev.step (fun k => ?_) (ev_eq (ih (i + 1) (by omega)) (inP_ne h).symm)
        simp only [spec_l6Has.l0]
        rw [if_pos (by omega), if_pos (by omega), rdP_get _ _ hlt, if_neg (fun e => h ((sameP _ _ _).1 e)), e2]
  have := loop l.length 0 (by omega)
  unfold spec_l6Has.f
  simpa using this

theorem spec_l6Pairs_ev (l : List S42) (top : Int) (un : Bool) (ok : S42 → Prop) (hok : ∀ p : S42, ok p ↔ (0 ≤ p.f0 ∧ p.f0 < top) ∧ (0 ≤ p.f1 ∧ p.f1 < top) ∧ (un = true → p.f0 ≠ p.f1)) (hl : l.length ≤ 1048576) : Ev (fun k => spec_l6Pairs.f k l top un) (pairsB ok l) := by
  unfold spec_l6Pairs.f
  by_cases h6 : (l.length : Int) > 6
  · rw [pairsB_f (fun hp => by have := hp.1; omega)]
    simp only [h6, if_true]
    exact Ev.now _
  · simp only [h6, if_false]
    have loop : ∀ d i : Nat, i + d = l.length → (∀ j, j < i → ok (rd_T42 l (j : Int)) ∧ ¬ (rd_T42 l (j : Int) ∈ l.take j)) → Ev (fun k => spec_l6Pairs.l0 k l top un (i : Int)) (pairsB ok l) := by
      intro d
      induction d with
      | zero =>
        intro i hi hj
        refine Ev.step (f := fun _ => some true) (fun k => ?_) (ev_eq (Ev.now _) (pairsB_t ⟨by omega, fun j h => hj j (by omega)⟩).symm)
        simp only [spec_l6Pairs.l0]
        rw [if_neg (by omega)]
      | succ d ih =>
        intro i hi hj
        have hlt : i < l.length := by omega
        have e2 : wrap64 ((i : Int) + 1) = ((i + 1 : Nat) : Int) := by rw [w64 (x := (i : Int) + 1) (by omega) (by omega)]; omega
        obtain ⟨p, hp⟩ : ∃ p, p = rd_T42 l (i : Int) := ⟨_, rfl⟩
        have bad : ¬ ok p → pairsB ok l = false := fun h => pairsB_f (fun hq => h (by rw [hp]; exact (hq.2 i hlt).1))
        have c1 : (i : Int) < (l.length : Int) := by omega
        have c2 : 0 ≤ (i : Int) := by omega
        have c3 : (i : Int) ≤ (l.length : Int) := by omega
        have tail : ok p → Ev (fun k => (spec_l6Has.f k (l.take i) p.f0 p.f1).bind fun t => (if t = true then some false else spec_l6Pairs.l0 k l top un ((i + 1 : Nat) : Int))) (pairsB ok l) := by
          intro hk
          refine Ev.bind (spec_l6Has_ev (l.take i) p.f0 p.f1 (by rw [List.length_take]; omega)) ?_
          rcases inP_or p (l.take i) with ⟨h1, h2⟩ | ⟨h1, h2⟩
          · have h2' : inP (⟨p.f0, p.f1⟩ : S42) (l.take i) = true := h2
            rw [h2']
            simp only [if_true]
            exact ev_eq (Ev.now _) (pairsB_f (fun hq => (hq.2 i hlt).2 (by rw [← hp]; exact h1))).symm
          · have h2' : inP (⟨p.f0, p.f1⟩ : S42) (l.take i) = false := h2
            rw [h2']
            simp only [Bool.false_eq_true, if_false]
            refine ih (i + 1) (by omega) (fun j h => ?_)
            by_cases hji : j = i
            · subst hji; rw [← hp]; exact ⟨hk, h1⟩
            · exact hj j (by omega)
        by_cases a1 : p.f0 < 0
        · refine Ev.step (f := fun _ => some false) (fun k => ?_) (ev_eq (Ev.now _) (bad (fun h => by have := (hok p).1 h; omega)).symm)
          simp only [spec_l6Pairs.l0, ← hp, c1, c2, if_true, a1]
        · by_cases a2 : p.f0 ≥ top
          · refine Ev.step (f := fun _ => some false) (fun k => ?_) (ev_eq (Ev.now _) (bad (fun h => by have := (hok p).1 h; omega)).symm)
            simp only [spec_l6Pairs.l0, ← hp, c1, c2, if_true, a1, if_false, a2]
          · by_cases a3 : p.f1 < 0
            · refine Ev.step (f := fun _ => some false) (fun k => ?_) (ev_eq (Ev.now _) (bad (fun h => by have := (hok p).1 h; omega)).symm)
              simp only [spec_l6Pairs.l0, ← hp, c1, c2, if_true, a1, if_false, a2, a3]
            · by_cases a4 : p.f1 ≥ top
              · refine Ev.step (f := fun _ => some false) (fun k => ?_) (ev_eq (Ev.now _) (bad (fun h => by have := (hok p).1 h; omega)).symm)
                simp only [spec_l6Pairs.l0, ← hp, c1, c2, if_true, a1, if_false, a2, a3, a4]
              · cases un with
                | true =>
                  by_cases a5 : p.f0 = p.f1
                  · refine Ev.step (f := fun _ => some false) (fun k => ?_) (ev_eq (Ev.now _) (bad (fun h => ((hok p).1 h).2.2 rfl a5)).symm)
                    simp only [spec_l6Pairs.l0, ← hp, c1, c2, if_true, a1, if_false, a2, a3, a4]
                    rw [if_pos a5]
                  · refine Ev.step (fun k => ?_) (tail ((hok p).2 ⟨by omega, by omega, fun _ => a5⟩))
                    simp only [spec_l6Pairs.l0, ← hp, c1, c2, c3, if_true, a1, if_false, a2, a3, a4, e2, Int.toNat_natCast]
                    rw [if_neg a5]
                | false =>
                  refine Ev.step (fun k => ?_) (tail ((hok p).2 ⟨by omega, by omega, fun h => by cases h⟩))
                  simp only [spec_l6Pairs.l0, ← hp, c1, c2, c3, if_true, a1, if_false, a2, a3, a4, e2, Int.toNat_natCast, Bool.false_eq_true]
    exact loop l.length 0 (by omega) (fun j h => by omega)

theorem spec_l1In_eq (a lo hi : Int) : spec_l1In.f a lo hi = some (decide (lo ≤ a ∧ a ≤ hi)) := by
  unfold spec_l1In.f
  by_cases h : a ≥ lo
  · rw [if_pos h]; congr 1; simp [show lo ≤ a from h]
  · rw [if_neg h]; congr 1; simp [show ¬ lo ≤ a from h]

theorem spec_ConfigOk_ev (us ss : List Int) (ls ps : List S42) (skew : Int) (h1 : us.length ≤ 1048576) (h2 : ss.length ≤ 1048576) (h3 : ls.length ≤ 1048576) (h4 : ps.length ≤ 1048576) : Ev (fun k => spec_ConfigOk.f k us ss ls ps skew) (confB us ss ls ps skew) := by
  unfold spec_ConfigOk.f confB
  by_cases a1 : (us.length : Int) = 3
  · simp only [a1, if_true]
    refine Ev.bind (spec_l5All_ev us 3 h1) ?_
    by_cases a2 : allB ok3 us 3 = true
    · simp only [a2, if_true]
      by_cases a3 : (ss.length : Int) = 3
      · simp only [a3, if_true]
        refine Ev.bind (spec_l5All_ev ss 3 h2) ?_
        by_cases a4 : allB ok3 ss 3 = true
        · simp only [a4, if_true]
          refine Ev.bind (spec_l6Pairs_ev ls 3 true okLink (fun p => by unfold okLink; simp) h3) ?_
          by_cases a5 : pairsB okLink ls = true
          · simp only [a5, if_true]
            refine Ev.bind (spec_l6Pairs_ev ps 3 false okProxy (fun p => by unfold okProxy; simp) h4) ?_
            by_cases a6 : pairsB okProxy ps = true
            · simp only [a6, if_true, spec_l1In_eq, Option.bind_some]; exact Ev.now _
            · simp only [a6, if_false, Bool.false_eq_true]; exact Ev.now _
          · simp only [a5, if_false, Bool.false_eq_true]; exact Ev.now _
        · simp only [a4, if_false, Bool.false_eq_true]; exact Ev.now _
      · simp only [a3, if_false]; exact Ev.now _
    · simp only [a2, if_false, Bool.false_eq_true]; exact Ev.now _
  · simp only [a1, if_false]; exact Ev.now _

theorem spec_l6Realm_eq (a : Int) : spec_l6Realm.f a = some (decide (0 ≤ a ∧ a < 3)) := by
  unfold spec_l6Realm.f
  by_cases h : a ≥ 0
  · rw [if_pos h]; congr 1; simp [show 0 ≤ a from h]
  · rw [if_neg h]; congr 1; simp [show ¬ 0 ≤ a from h]

/-- What holds of the distances so far. -/
def farOk (ls : List S42) (tz : Int) (f : List Int) : Prop := f.length = 3 ∧ rd f tz = 0 ∧ ∀ r, 0 ≤ r → r < 3 → dist ls r tz ≤ rd f r ∧ rd f r ≤ 3
theorem rd_set_eq (f : List Int) (i : Int) (v : Int) (h0 : 0 ≤ i) (h : i < (f.length : Int)) : rd (f.set i.toNat v) i = v := by
  unfold rd
  rw [List.getD_eq_getElem?_getD, List.getElem?_set_self (by omega)]; rfl
theorem rd_set_ne (f : List Int) (i j : Int) (v : Int) (h0 : 0 ≤ i) (h1 : 0 ≤ j) (h : ¬ i = j) : rd (f.set i.toNat v) j = rd f j := by
  unfold rd
  rw [List.getD_eq_getElem?_getD, List.getElem?_set_ne (by omega), List.getD_eq_getElem?_getD]
theorem spec_l6Far_ev (us ss : List Int) (ls ps : List S42) (skew tz : Int) (hok : pairsP okLink ls) (ht : 0 ≤ tz ∧ tz < 3) : ∃ f, Ev (fun k => spec_l6Far.f k us ss ls ps skew tz) f ∧ f.length = 3 ∧ ∀ r, 0 ≤ r → r < 3 → rd f r = dist ls r tz := by
  have hlink : ∀ i, i < ls.length → okLink (rd_T42 ls (i : Int)) := fun i hi => (hok.2 i hi).1
  have h6 := hok.1
  -- one round over all links
  have round : ∀ (x7 : Int) (f0 : List Int), farOk ls tz f0 → ∃ f1, farOk ls tz f1 ∧ (∀ r, 0 ≤ r → r < 3 → rd f1 r ≤ rd f0 r) ∧ (∀ a b, (⟨a, b⟩ : S42) ∈ ls → rd f1 a ≤ rd f0 b + 1) ∧
      ∀ v, Ev (fun k => spec_l6Far.l1 k f1 (wrap64 (x7 + 1)) us ss ls ps skew) v → Ev (fun k => spec_l6Far.l2 k f0 x7 0 us ss ls ps skew) v := by
    intro x7 f0 hf0
    have loop : ∀ (d i : Nat) (f : List Int), i + d = ls.length → farOk ls tz f → (∀ r, 0 ≤ r → r < 3 → rd f r ≤ rd f0 r) → (∀ a b, (⟨a, b⟩ : S42) ∈ ls.take i → rd f a ≤ rd f0 b + 1) → ∃ f1, farOk ls tz f1 ∧ (∀ r, 0 ≤ r → r < 3 → rd f1 r ≤ rd f0 r) ∧ (∀ a b, (⟨a, b⟩ : S42) ∈ ls → rd f1 a ≤ rd f0 b + 1) ∧
        ∀ v, Ev (fun k => spec_l6Far.l1 k f1 (wrap64 (x7 + 1)) us ss ls ps skew) v → Ev (fun k => spec_l6Far.l2 k f x7 (i : Int) us ss ls ps skew) v := by
      intro d
      induction d with
      | zero =>
        intro i f hi hf hle hlk
        have e : ls.take i = ls := List.take_of_length_le (by omega)
        rw [e] at hlk
        refine ⟨f, hf, hle, hlk, fun v hv => Ev.step (fun k => ?_) hv⟩
        simp only [spec_l6Far.l2]
        rw [if_neg (by omega)]
      | succ d ih =>
        intro i f hi hf hle hlk
        have hlt : i < ls.length := by omega
        obtain ⟨⟨pa, pb⟩, hp⟩ : ∃ p, p = ls[i] := ⟨_, rfl⟩
        have hko := hlink i hlt
        rw [rdP_get ls i hlt, ← hp] at hko
        obtain ⟨⟨a0, a1⟩, ⟨b0, b1⟩, hne⟩ := hko
        simp only at a0 a1 b0 b1 hne
        have hin : (⟨pa, pb⟩ : S42) ∈ ls := by rw [hp]; exact List.getElem_mem hlt
        have htake := List.take_succ_eq_append_getElem hlt
        have mem : ∀ p, p ∈ ls.take (i + 1) ↔ p ∈ ls.take i ∨ p = (⟨pa, pb⟩ : S42) := by
          intro p; rw [htake, List.mem_append, List.mem_singleton, ← hp]
        obtain ⟨l3, z0, hb⟩ := hf
        have hba := hb pa a0 a1
        have hbb := hb pb b0 b1
        have hd0 := dist_le ls pb tz
        have htri := dist_tri (tz := tz) hin
        have c1 : (i : Int) < (ls.length : Int) := by omega
        have c2 : 0 ≤ (i : Int) := by omega
        have c4 : pb < (f.length : Int) := by omega
        have c6 : pa < (f.length : Int) := by omega
        have e1 : Aside0 (wrap64 (rd f pb + 1) = rd f pb + 1) := ⟨w64 (by omega) (by omega)⟩
        have e2 : Aside0 (wrap64 ((i : Int) + 1) = ((i + 1 : Nat) : Int)) := ⟨by rw [w64 (x := (i : Int) + 1) (by omega) (by omega)]; omega⟩
        by_cases hlt2 : rd f pb + 1 < rd f pa
        · have pane : ¬ pa = tz := by
            intro e; subst e; rw [z0] at hlt2; omega
          have g : farOk ls tz (f.set pa.toNat (rd f pb + 1)) := by
            refine ⟨by rw [List.length_set]; exact l3, ?_, fun r r0 r1 => ?_⟩
            · rw [rd_set_ne _ _ _ _ a0 ht.1 pane]; exact z0
            · by_cases hr : pa = r
              · subst hr
                rw [rd_set_eq _ _ _ a0 c6]
                omega
              · rw [rd_set_ne _ _ _ _ a0 r0 hr]
                exact hb r r0 r1
          obtain ⟨f1, g1, g2, g3, g4⟩ := ih (i + 1) _ (by omega) g (fun r r0 r1 => by
            by_cases hr : pa = r
            · subst hr
              rw [rd_set_eq _ _ _ a0 c6]
              have := hle pa r0 r1; omega
            · rw [rd_set_ne _ _ _ _ a0 r0 hr]
              exact hle r r0 r1) (fun a b hm => by
            rcases (mem _).1 hm with hm | hm
            · have hm2 := hlk a b hm
              have hka : okLink ⟨a, b⟩ := by
                obtain ⟨j, hj, ej⟩ := List.mem_iff_getElem.1 (List.mem_of_mem_take hm)
                have := hlink j hj
                rw [rdP_get ls j hj, ej] at this; exact this
              by_cases hr : pa = a
              · subst hr
                rw [rd_set_eq _ _ _ a0 c6]; omega
              · rw [rd_set_ne _ _ _ _ a0 hka.1.1 hr]; exact hm2
            · cases hm
              rw [rd_set_eq _ _ _ a0 c6]
              have := hle pb b0 b1; omega)
          refine ⟨f1, g1, g2, g3, fun v hv => Ev.step (fun k => ?_) (g4 v hv)⟩
          simp only [spec_l6Far.l2, c1, c2, if_true, rdP_get ls i hlt, ← hp, b0, c4, a0, c6, e1.out, e2.out, hlt2]
        · obtain ⟨f1, g1, g2, g3, g4⟩ := ih (i + 1) f (by omega) ⟨l3, z0, hb⟩ hle (fun a b hm => by
            rcases (mem _).1 hm with hm | hm
            · exact hlk a b hm
            · cases hm
              have := hle pb b0 b1; omega)
          refine ⟨f1, g1, g2, g3, fun v hv => Ev.step (fun k => ?_) (g4 v hv)⟩
          simp only [spec_l6Far.l2, c1, c2, if_true, rdP_get ls i hlt, ← hp, b0, c4, a0, c6, e1.out, e2.out, hlt2, if_false]
    exact loop ls.length 0 f0 (by omega) hf0 (fun r _ _ => Int.le_refl _) (by simp)
  have start : farOk ls tz ([3, 3, 3].set tz.toNat 0) := by
    refine ⟨by simp, rd_set_eq _ _ _ ht.1 (by simpa using ht.2), fun r r0 r1 => ?_⟩
    by_cases hr : tz = r
    · subst hr
      rw [rd_set_eq _ _ _ ht.1 (by simpa using ht.2), dist_self]; omega
    · rw [rd_set_ne _ _ _ _ ht.1 r0 hr]
      have e : rd [3, 3, 3] r = 3 := by
        have : r = 0 ∨ r = 1 ∨ r = 2 := by omega
        rcases this with rfl | rfl | rfl <;> rfl
      rw [e]
      have := dist_le ls r tz; omega
  obtain ⟨f1, a1, a2, a3, a4⟩ := round 0 _ start
  obtain ⟨f2, b1, b2, b3, b4⟩ := round 1 f1 a1
  obtain ⟨f3, c1, c2, c3, c4⟩ := round 2 f2 b1
  refine ⟨f3, ?_, c1.1, fun r r0 r1 => ?_⟩
  · have l1 : ∀ (x7 : Int) (f : List Int) (v : List Int), x7 < 3 → Ev (fun k => spec_l6Far.l2 k f x7 0 us ss ls ps skew) v → Ev (fun k => spec_l6Far.l1 k f x7 us ss ls ps skew) v := by
      intro x7 f v hx hv
      refine Ev.step (fun k => ?_) hv
      simp only [spec_l6Far.l1]
      rw [if_pos hx]
    have fin : Ev (fun k => spec_l6Far.l1 k f3 3 us ss ls ps skew) f3 := by
      refine Ev.step (f := fun _ => some f3) (fun k => ?_) (Ev.now _)
      simp only [spec_l6Far.l1]
      rw [if_neg (by decide)]
    have w1 : wrap64 (0 + 1) = 1 := w64 (by decide) (by decide)
    have w2 : wrap64 (1 + 1) = 2 := w64 (by decide) (by decide)
    have w3 : wrap64 (2 + 1) = 3 := w64 (by decide) (by decide)
    have v1 : wrap64 1 = 1 := w64 (by decide) (by decide)
    have v2 : wrap64 2 = 2 := w64 (by decide) (by decide)
    have v3 : wrap64 3 = 3 := w64 (by decide) (by decide)
    rw [w1] at a4
    rw [w2] at b4
    rw [w3] at c4
    have all := l1 0 _ f3 (by decide) (a4 f3 (l1 1 _ f3 (by decide) (b4 f3 (l1 2 _ f3 (by decide) (c4 f3 fin)))))
    have t0 : tz < (([3, 3, 3] : List Int).length : Int) := by simpa using ht.2
    unfold spec_l6Far.f
    refine Ev.step (f := fun k => spec_l6Far.l0 k tz [3] 1 us ss ls ps skew) (fun k => by simp [spec_l6Far.l0, v1]) ?_
    refine Ev.step (f := fun k => spec_l6Far.l0 k tz [3, 3] 2 us ss ls ps skew) (fun k => by simp [spec_l6Far.l0, v2]) ?_
    refine Ev.step (f := fun k => spec_l6Far.l0 k tz [3, 3, 3] 3 us ss ls ps skew) (fun k => by simp [spec_l6Far.l0, v3]) ?_
    refine Ev.step (fun k => ?_) all
    simp only [spec_l6Far.l0]
    rw [if_neg (by decide), if_pos ht.1, if_pos t0]
  · have lo := (c1.2.2 r r0 r1).1
    have hi := (c1.2.2 r r0 r1).2
    have g2 := c2 r r0 r1
    have g1 := b2 r r0 r1
    rcases dist_cases ls r tz with ⟨e, d⟩ | ⟨_, hl, d⟩ | ⟨_, _, ⟨m, m1, m2⟩, d⟩ | ⟨_, _, _, d⟩
    · subst e
      have := c1.2.1; omega
    · have := a3 r tz hl
      have := start.2.1
      omega
    · have := b3 r m m1
      have := a3 m tz m2
      have := start.2.1
      omega
    · omega

theorem spec_NextHop_ev (us ss : List Int) (ls ps : List S42) (skew a tz : Int) (h1 : us.length ≤ 1048576) (h2 : ss.length ≤ 1048576) (h3 : ls.length ≤ 1048576) (h4 : ps.length ≤ 1048576) : Ev (fun k => spec_NextHop.f k us ss ls ps skew a tz) (hopS us ss ls ps skew a tz) := by
  have dead : ∀ b : Bool, b = true → Ev (fun k => spec_NextHop.j0 k a tz b us ss ls ps skew) (-1) := by
    intro b hb
    subst hb
    refine Ev.step (f := fun _ => some (-1)) (fun k => ?_) (Ev.now _)
    simp only [spec_NextHop.j0, if_true]
  unfold spec_NextHop.f hopS
  refine Ev.bind (spec_ConfigOk_ev us ss ls ps skew h1 h2 h3 h4) ?_
  by_cases hc : confB us ss ls ps skew = true
  · simp only [hc, if_true, spec_l6Realm_eq, Option.bind_some]
    by_cases ha : 0 ≤ a ∧ a < 3
    · rw [decide_eq_true ha]
      simp only [if_true]
      by_cases ht : 0 ≤ tz ∧ tz < 3
      · rw [decide_eq_true ht]
        simp only [if_true]
        cases hab : (a == tz) with
        | true =>
          simp only [if_true]
          exact dead _ rfl
        | false =>
          simp only [Bool.false_eq_true, if_false]
          obtain ⟨f, hf, hl, hd⟩ := spec_l6Far_ev us ss ls ps skew tz (confB_links hc) ht
          refine Ev.step (f := fun k => (spec_l6Far.f k us ss ls ps skew tz).bind fun t237 => (spec_NextHop.l0 k a t237 (-1) 0 us ss ls ps skew)) (fun k => ?_) (Ev.bind hf ?_)
          · simp only [spec_NextHop.j0, Bool.false_eq_true, if_false]
          · have one : ∀ (r best : Int) (v : Int), (0 ≤ r ∧ r < 3) → (best = -1 ∨ (0 ≤ best ∧ best < 3 ∧ dist ls best tz < 3)) →
                Ev (fun k => spec_NextHop.l0 k a f (hopStep ls a tz best r) (r + 1) us ss ls ps skew) v →
                Ev (fun k => spec_NextHop.l0 k a f best r us ss ls ps skew) v := by
              intro r best v hr hb hv
              have e2 : Aside0 (wrap64 (r + 1) = r + 1) := ⟨w64 (by omega) (by omega)⟩
              refine Ev.step (f := fun k => ((spec_l6Has.f k ls a r).bind fun t240 => (if t240 = true then (if rd f r < 3 then (if best < 0 then (spec_NextHop.l0 k a f r (r + 1) us ss ls ps skew) else (if rd f r < rd f best then (spec_NextHop.l0 k a f r (r + 1) us ss ls ps skew) else (spec_NextHop.l0 k a f best (r + 1) us ss ls ps skew))) else (spec_NextHop.l0 k a f best (r + 1) us ss ls ps skew)) else (spec_NextHop.l0 k a f best (r + 1) us ss ls ps skew)))) (fun k => ?_) (Ev.bind (spec_l6Has_ev ls a r (by omega)) ?_)
              · have c1 : r < (f.length : Int) := by omega
                simp only [spec_NextHop.l0, e2.out, hr.1, hr.2, c1, if_true]
                by_cases hbn : best < 0
                · simp only [hbn, if_true]
                · have c2 : 0 ≤ best := by omega
                  have c3 : best < (f.length : Int) := by omega
                  simp only [hbn, if_false, c2, c3, if_true]
              · rw [hd r hr.1 hr.2]
                by_cases h1 : inP ⟨a, r⟩ ls = true
                · simp only [h1, if_true]
                  by_cases hbn : best < 0
                  · simp only [hbn, if_true]
                    by_cases g1 : dist ls r tz < 3
                    · have hs : hopStep ls a tz best r = r := by unfold hopStep; rw [if_pos h1, if_pos hbn, if_pos g1]
                      rw [hs] at hv
                      simp only [g1, if_true]; exact hv
                    · have hs : hopStep ls a tz best r = best := by unfold hopStep; rw [if_pos h1, if_pos hbn, if_neg g1]
                      rw [hs] at hv
                      simp only [g1, if_false]; exact hv
                  · have hb' : 0 ≤ best ∧ best < 3 ∧ dist ls best tz < 3 := by
                      rcases hb with h | h
                      · omega
                      · exact h
                    rw [hd best hb'.1 hb'.2.1]
                    simp only [hbn, if_false]
                    by_cases g2 : dist ls r tz < dist ls best tz
                    · have g1 : dist ls r tz < 3 := by omega
                      have hs : hopStep ls a tz best r = r := by unfold hopStep; rw [if_pos h1, if_neg hbn, if_pos g2]
                      rw [hs] at hv
                      simp only [g1, g2, if_true]; exact hv
                    · have hs : hopStep ls a tz best r = best := by unfold hopStep; rw [if_pos h1, if_neg hbn, if_neg g2]
                      rw [hs] at hv
                      simp only [g2, if_false, ite_self]; exact hv
                · have hs : hopStep ls a tz best r = best := by unfold hopStep; rw [if_neg h1]
                  rw [hs] at hv
                  simp only [h1, if_false, Bool.false_eq_true]; exact hv
            have k0 := hopStep_ok (ls := ls) (a := a) (tz := tz) (best := -1) (r := 0) (by omega) (.inl rfl)
            have k1 := hopStep_ok (a := a) (r := 1) (by omega) k0
            refine one 0 _ _ (by omega) (.inl rfl) (one 1 _ _ (by omega) k0 (one 2 _ _ (by omega) k1 ?_))
            refine Ev.step (f := fun _ => some _) (fun k => ?_) (Ev.now _)
            simp only [spec_NextHop.l0]
            rw [if_neg (by decide)]
      · rw [decide_eq_false ht]
        simp only [Bool.false_eq_true, if_false]
        exact dead _ rfl
    · rw [decide_eq_false ha]
      simp only [Bool.false_eq_true, if_false]
      exact dead _ rfl
  · simp only [hc, Bool.false_eq_true, if_false]
    exact dead _ rfl

theorem FnExactNextHop : ∀ (l0_0 : List Int) (l0_1 : List Int) (l0_2 : List S127) (l0_3 : List S127) (a0_4 : Int) (a1 : Int) (a2 : Int), (∀ a ∈ l0_0, (Lit.int .i64 a).wf = true) → l0_0.length ≤ maxLen → (∀ a ∈ l0_1, (Lit.int .i64 a).wf = true) → l0_1.length ≤ maxLen → (∀ a ∈ l0_2, (Lit.int .i64 a.f0).wf = true ∧ (Lit.int .i64 a.f1).wf = true) → l0_2.length ≤ maxLen → (∀ a ∈ l0_3, (Lit.int .i64 a.f0).wf = true ∧ (Lit.int .i64 a.f1).wf = true) → l0_3.length ≤ maxLen → (Lit.int .i64 a0_4).wf = true → (Lit.int .i64 a1).wf = true → (Lit.int .i64 a2).wf = true → ∃ k, laws_FnExactNextHop.f k l0_0 l0_1 l0_2 l0_3 a0_4 a1 a2 = some true := by
  intro us ss ls ps skew a tz _ h1 _ h2 _ h3 _ h4 _ _ _
  apply Ev.rounds
  obtain ⟨r, e, hr⟩ := laws_szConfig_eq us ss ls ps skew h1 h2 h3 h4
  unfold laws_FnExactNextHop.f
  simp only [e, Option.bind_some]
  by_cases h : r < 0
  · simp only [h, if_true]
    exact Ev.now _
  · obtain ⟨g1, g2, g3, g4⟩ := hr h
    have g3' : (toP ls).length ≤ 1048576 := by rw [toP_len]; exact g3
    have g4' : (toP ps).length ≤ 1048576 := by rw [toP_len]; exact g4
    simp only [h, if_false]
    have hto := laws_toConfig_ev us ss ls ps skew g1 g2 g3 g4
    refine Ev.bind hto (Ev.bind (spec_NextHop_ev us ss _ _ skew a tz g1 g2 g3' g4') (Ev.bind hto (Ev.bind (impl_NextHop_ev us ss _ _ skew a tz g1 g2 g3' g4') ?_)))
    simp only [if_true]
    refine Ev.bind hto (Ev.bind (laws_eqConfig_self us ss _ _ skew g1 g2 g3' g4') ?_)
    simp only [if_true]
    exact Ev.now _

end Go.Proofs.Ytmhjpnjolgigmaa.Pure
