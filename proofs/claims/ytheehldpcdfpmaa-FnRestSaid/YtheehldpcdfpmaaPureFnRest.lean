/- What is in both is within each; what is within a part is within the whole; what is permitted by both is permitted by what they meet in, and nothing else is: for all codes. -/
import Derived.Test.YtheehldpcdfpmaaOFnRestx4
import Derived.Test.YtheehldpcdfpmaaBase
import Derived.Test.YtheehldpcdfpmaaRests
import Derived.Test.YtheehldpcdfpmaaDraws
namespace Go.Proofs.Ytheehldpcdfpmaa.Pure
open Go.RowKit Go.Proofs.Ytheehldpcdfpmaa.OFnRest Go.Proofs.YtheehldpcdfpmaaW.PrintWords Go.Proofs.YtheehldpcdfpmaaW.PrintLast Go.Proofs.YtheehldpcdfpmaaW.PrintMore Go.Proofs.Ytheehldpcdfpmaa.Base
set_option linter.unusedVariables false
set_option linter.unusedSimpArgs false
theorem laws_big_eq (l : List Int) : laws_big.f l = some (decide ((l.length : Int) > 1048576)) := rfl

theorem impl_within_eq (a lo hi : Int) : impl_within.f a lo hi = some (decide (lo ≤ a ∧ a ≤ hi)) := by
  unfold impl_within.f
  by_cases h : a ≥ lo
  · rw [if_pos h]; congr 1; simp [show lo ≤ a from h]
  · rw [if_neg h]; congr 1; simp [show ¬ lo ≤ a from h]

theorem impl_isTime_eq (a : Int) : impl_isTime.f a = some (decide (0 ≤ a ∧ a ≤ 100000)) := by
  unfold impl_isTime.f; rw [impl_within_eq, Option.bind_some]

theorem impl_RestOk_eq (s o e : Int) : impl_RestOk.f s o e = some (restB s o e) := by
  unfold impl_RestOk.f restB
  simp only [impl_within_eq, impl_isTime_eq, Option.bind_some]
  by_cases h1 : 0 ≤ s ∧ s ≤ 7 <;> by_cases h2 : 0 ≤ o ∧ o ≤ 255 <;> simp [h1, h2]

theorem impl_Meet_eq (s o e s' o' e' : Int) : impl_Meet.f s o e s' o' e' = some (meetR s o e s' o' e') := by
  unfold impl_Meet.f meetR
  simp only [impl_RestOk_eq, Option.bind_some]
  by_cases h1 : restB s o e = true <;> by_cases h2 : restB s' o' e' = true <;> simp [h1, h2, andI]

theorem spec_l1New_ok (l : List Int) (hl : l.length ≤ 140737488351232) : ∃ h : Int, Ev (fun k => spec_l1New.f k l) (l, 0, h) := by
  have loop : ∀ (d i : Nat) (h : Int), i + d = l.length → ∃ h' : Int, Ev (fun k => spec_l1New.l0 k l h (i : Int)) (l, 0, h') := by
    intro d
    induction d with
    | zero =>
      intro i h hi
      refine ⟨h, Ev.step (f := fun _ => some (l, 0, h)) (fun k => ?_) (Ev.now _)⟩
      simp only [spec_l1New.l0]
      rw [if_neg (by omega)]
    | succ d ih =>
      intro i h hi
      by_cases h4 : (i : Int) < 4000
      · obtain ⟨h', hh⟩ := ih (i + 1) (Go.bits .and .i64 (wrap64 ((wrap64 ((wrap64 (h * 131)) + (wrap64 (rd l (i : Int))))) + 7)) 1073741823) (by omega)
        refine ⟨h', Ev.step (fun k => ?_) hh⟩
        simp only [spec_l1New.l0]
        rw [if_pos (by omega), if_pos h4, if_pos (by omega), w64 (x := (i : Int) + 1) (by omega) (by omega)]
        rfl
      · refine ⟨h, Ev.step (f := fun _ => some (l, 0, h)) (fun k => ?_) (Ev.now _)⟩
        simp only [spec_l1New.l0]
        rw [if_pos (by omega), if_neg h4]
  unfold spec_l1New.f
  exact loop l.length 0 _ (by omega)

theorem spec_l1Byte_ok (b : List Int) (i h : Int) (hb : b.length ≤ 140737488351232) (hi : 0 ≤ i) : ∃ x i' h' : Int, spec_l1Byte.f b i h = some (x, i', h') ∧ 0 ≤ x ∧ x ≤ 255 ∧ 0 ≤ i' := by
  unfold spec_l1Byte.f
  by_cases h1 : i < (b.length : Int)
  · rw [if_pos h1, if_pos hi]
    refine ⟨_, _, _, rfl, (band255 _).1, (band255 _).2, ?_⟩
    rw [w64 (by omega) (by omega)]; omega
  · rw [if_neg h1]
    exact ⟨_, _, _, rfl, (band255 _).1, (band255 _).2, hi⟩

theorem spec_l1Below_ok (b : List Int) (i h n : Int) (hb : b.length ≤ 140737488351232) (hi : 0 ≤ i) (hn : 1 ≤ n) : ∃ x i' h' : Int, spec_l1Below.f b i h n = some (x, i', h') ∧ 0 ≤ x ∧ x < n ∧ 0 ≤ i' := by
  unfold spec_l1Below.f
  rw [if_neg (by omega)]
  have tm : ∀ y : Int, 0 ≤ y → 0 ≤ Int.tmod y n ∧ Int.tmod y n < n := fun y hy => ⟨Int.tmod_nonneg _ hy, Int.tmod_lt_of_pos _ (by omega)⟩
  by_cases h1 : n ≤ 256
  · rw [if_pos h1]
    obtain ⟨x, i', h', he, hx, _, hi'⟩ := spec_l1Byte_ok b i h hb hi
    rw [he, Option.bind_some, if_neg (by omega)]
    exact ⟨_, _, _, rfl, (tm x hx).1, (tm x hx).2, hi'⟩
  · rw [if_neg h1]
    obtain ⟨x1, i1, h1, he1, hx1, hy1, hi1⟩ := spec_l1Byte_ok b i h hb hi
    obtain ⟨x2, i2, h2, he2, hx2, hy2, hi2⟩ := spec_l1Byte_ok b i1 h1 hb hi1
    obtain ⟨x3, i3, h3, he3, hx3, hy3, hi3⟩ := spec_l1Byte_ok b i2 h2 hb hi2
    obtain ⟨x4, i4, h4, he4, hx4, hy4, hi4⟩ := spec_l1Byte_ok b i3 h3 hb hi3
    rw [he1, Option.bind_some, he2, Option.bind_some, he3, Option.bind_some, he4, Option.bind_some, if_neg (by omega)]
    rw [w64 (x := x1 * 16777216) (by omega) (by omega), w64 (x := x2 * 65536) (by omega) (by omega), w64 (x := x3 * 256) (by omega) (by omega), w64 (x := _ + x2 * 65536) (by omega) (by omega), w64 (x := _ + x3 * 256) (by omega) (by omega), w64 (x := _ + x4) (by omega) (by omega)]
    exact ⟨_, _, _, rfl, (tm _ (by omega)).1, (tm _ (by omega)).2, hi4⟩

theorem spec_l1Once_ok (b : List Int) (i h n : Int) (hb : b.length ≤ 140737488351232) (hi : 0 ≤ i) (hn : 1 ≤ n) : ∃ (x : Bool) (i' h' : Int), spec_l1Once.f b i h n = some (x, i', h') ∧ 0 ≤ i' := by
  unfold spec_l1Once.f
  obtain ⟨x, i', h', he, _, _, hi'⟩ := spec_l1Below_ok b i h n hb hi hn
  rw [he]
  exact ⟨_, _, _, rfl, hi'⟩

theorem spec_l4Rest_ok (b : List Int) (i h : Int) (hb : b.length ≤ 140737488351232) (hi : 0 ≤ i) : ∃ (s o e i' h' : Int), spec_l4Rest.f b i h = some (s, o, e, i', h') ∧ 0 ≤ i' := by
  unfold spec_l4Rest.f
  obtain ⟨x1, i1, h1, he1, _, _, hi1⟩ := spec_l1Below_ok b i h 8 hb hi (by decide)
  obtain ⟨x2, i2, h2, he2, _, _, hi2⟩ := spec_l1Below_ok b i1 h1 256 hb hi1 (by decide)
  obtain ⟨x3, i3, h3, he3, _, _, hi3⟩ := spec_l1Below_ok b i2 h2 90 hb hi2 (by decide)
  obtain ⟨x4, i4, h4, he4, hi4⟩ := spec_l1Once_ok b i3 h3 3 hb hi3 (by decide)
  obtain ⟨x5, i5, h5, he5, hi5⟩ := spec_l1Once_ok b i4 h4 3 hb hi4 (by decide)
  simp only [he1, he2, he3, he4, he5, Option.bind_some]
  cases x4 <;> cases x5 <;> exact ⟨_, _, _, _, _, rfl, hi5⟩

theorem spec_l1PickInt_ok (b : List Int) (i h : Int) (l : List Int) (hb : b.length ≤ 140737488351232) (hi : 0 ≤ i) (hl : 1 ≤ l.length) : ∃ (x i' h' : Int), spec_l1PickInt.f b i h l = some (x, i', h') ∧ x ∈ l ∧ 0 ≤ i' := by
  unfold spec_l1PickInt.f
  obtain ⟨x, i', h', he, h0, h1, hi'⟩ := spec_l1Below_ok b i h (l.length : Int) hb hi (by omega)
  rw [he]
  simp only [Option.bind_some]
  rw [if_pos h0, if_pos h1]
  refine ⟨_, _, _, rfl, ?_, hi'⟩
  unfold rd
  rw [List.getD_eq_getElem?_getD, List.getElem?_eq_getElem (by omega)]
  exact List.getElem_mem _

theorem spec_l4Any_ok (b : List Int) (i h : Int) (hb : b.length ≤ 140737488351232) (hi : 0 ≤ i) : ∃ (s o e i' h' : Int), spec_l4Any.f b i h = some (s, o, e, i', h') ∧ 0 ≤ i' := by
  unfold spec_l4Any.f
  obtain ⟨s, o, e, i1, h1, he1, hi1⟩ := spec_l4Rest_ok b i h hb hi
  obtain ⟨x2, i2, h2, he2, hi2⟩ := spec_l1Once_ok b i1 h1 8 hb hi1 (by decide)
  simp only [he1, he2, Option.bind_some]
  cases x2 with
  | false => exact ⟨_, _, _, _, _, rfl, hi2⟩
  | true =>
    simp only [if_true]
    obtain ⟨x3, i3, h3, he3, _, _, hi3⟩ := spec_l1Below_ok b i2 h2 3 hb hi2 (by decide)
    simp only [he3, Option.bind_some]
    by_cases c1 : x3 = 0
    · obtain ⟨x4, i4, h4, he4, _, hi4⟩ := spec_l1PickInt_ok b i3 h3 [(-1), 8] hb hi3 (by decide)
      rw [if_pos c1, he4]
      exact ⟨_, _, _, _, _, rfl, hi4⟩
    · rw [if_neg c1]
      by_cases c2 : x3 = 1
      · obtain ⟨x4, i4, h4, he4, _, hi4⟩ := spec_l1PickInt_ok b i3 h3 [(-1), 256] hb hi3 (by decide)
        rw [if_pos c2, he4]
        exact ⟨_, _, _, _, _, rfl, hi4⟩
      · obtain ⟨x4, i4, h4, he4, _, hi4⟩ := spec_l1PickInt_ok b i3 h3 [(-1), 100000, 100001] hb hi3 (by decide)
        rw [if_neg c2, he4]
        exact ⟨_, _, _, _, _, rfl, hi4⟩

theorem spec_DrawMeet_ok (l : List Int) (hl : l.length ≤ 140737488351232) : ∃ s o e s' o' e' : Int, Ev (fun k => spec_DrawMeet.f k l) (s, o, e, s', o', e') := by
  unfold spec_DrawMeet.f
  obtain ⟨h, hn⟩ := spec_l1New_ok l hl
  obtain ⟨s, o, e, i1, h1, he1, hi1⟩ := spec_l4Any_ok l 0 h hl (by decide)
  obtain ⟨s', o', e', i2, h2, he2, hi2⟩ := spec_l4Any_ok l i1 h1 hl hi1
  refine ⟨s, o, e, s', o', e', Ev.bind hn ?_⟩
  simp only [he1, he2, Option.bind_some]
  exact Ev.now _

theorem spec_l1In_eq (a lo hi : Int) : spec_l1In.f a lo hi = some (decide (lo ≤ a ∧ a ≤ hi)) := by
  unfold spec_l1In.f
  by_cases h : a ≥ lo
  · rw [if_pos h]; congr 1; simp [show lo ≤ a from h]
  · rw [if_neg h]; congr 1; simp [show ¬ lo ≤ a from h]

theorem spec_RestOk_eq (s o e : Int) : spec_RestOk.f s o e = some (restB s o e) := by
  unfold spec_RestOk.f restB
  simp only [spec_l1In_eq, Option.bind_some]
  by_cases h1 : 0 ≤ s ∧ s ≤ 7 <;> by_cases h2 : 0 ≤ o ∧ o ≤ 255 <;> simp [h1, h2]

theorem impl_Entails_eq (s o e s' o' e' : Int) : impl_Entails.f s o e s' o' e' = some (entB s o e s' o' e') := by
  unfold impl_Entails.f entB
  simp only [impl_RestOk_eq, Option.bind_some]
  by_cases h1 : restB s o e = true <;> by_cases h2 : restB s' o' e' = true
  · simp only [h1, h2, if_true]
    by_cases h3 : Go.bits .and .i64 s s' = s
    · by_cases h4 : Go.bits .and .i64 o o' = o
      · simp [h3, h4, andI]
      · simp [h3, h4, andI]
    · simp [h3, andI]
  · simp [h1, h2]
  · simp [h1, h2]
  · simp [h1, h2]

theorem spec_DrawPermits_ok (l : List Int) (hl : l.length ≤ 140737488351232) : ∃ s o e sv op now : Int, Ev (fun k => spec_DrawPermits.f k l) (s, o, e, sv, op, now) := by
  unfold spec_DrawPermits.f
  obtain ⟨h, hn⟩ := spec_l1New_ok l hl
  obtain ⟨s, o, e, i1, h1, he1, hi1⟩ := spec_l4Any_ok l 0 h hl (by decide)
  obtain ⟨x2, i2, h2, he2, _, _, hi2⟩ := spec_l1Below_ok l i1 h1 5 hl hi1 (by decide)
  obtain ⟨x3, i3, h3, he3, _, _, hi3⟩ := spec_l1Below_ok l i2 h2 10 hl hi2 (by decide)
  obtain ⟨x4, i4, h4, he4, _, _, hi4⟩ := spec_l1Below_ok l i3 h3 100 hl hi3 (by decide)
  refine ⟨s, o, e, wrap64 (x2 - 1), wrap64 (x3 - 1), wrap64 (x4 - 2), Ev.bind hn ?_⟩
  simp only [he1, he2, he3, he4, Option.bind_some]
  exact Ev.now _

theorem impl_Permits_eq (s o e sv op now : Int) : impl_Permits.f s o e sv op now = some (perB s o e sv op now) := by
  unfold impl_Permits.f perB
  simp only [impl_RestOk_eq, impl_within_eq, Option.bind_some]
  by_cases h1 : restB s o e = true
  · by_cases h2 : 0 ≤ sv ∧ sv ≤ 2
    · by_cases h3 : 0 ≤ op ∧ op ≤ 7
      · simp only [h1, h2, h3, decide_true, if_true, and_self, Bool.true_and]
        have e1 : (Go.bits .and .i64 (shr .i64 s sv) 1 = 1) ↔ bitI s sv = true := by unfold bitI; rw [decide_eq_true_iff]
        have e2 : (Go.bits .and .i64 (shr .i64 o op) 1 = 1) ↔ bitI o op = true := by unfold bitI; rw [decide_eq_true_iff]
        simp only [e1, e2]
        cases bitI s sv <;> cases bitI o op <;> simp
      · simp [h1, h2, h3]
    · simp [h1, h2]
  · simp [h1]

theorem FnRest : ∀ (l0 : List Int), l0.length ≤ maxLen → l0.length * 1 ≤ 140737488351232 → (∀ a ∈ l0, (Lit.int .u8 a).wf = true) → ∃ k, laws_FnRest.f k l0 = some true := by
  intro l hm hl hw
  apply Ev.rounds
  unfold laws_FnRest.f
  simp only [laws_big_eq, Option.bind_some]
  by_cases hbig : (l.length : Int) > 1048576
  · simp only [hbig, decide_true, if_true]; exact Ev.now _
  · simp only [hbig, decide_false, Bool.false_eq_true, if_false]
    obtain ⟨s, o, e, s', o', e', hd⟩ := spec_DrawMeet_ok l (by omega)
    refine Ev.bind hd ?_
    simp only [impl_Meet_eq, spec_RestOk_eq, Option.bind_some]
    have bad : (restB s o e = false ∨ restB s' o' e' = false) → Ev (fun k => laws_FnRest.j0 k l true s o e s' o' e' (meetR s o e s' o' e').1 (meetR s o e s' o' e').2.1 (meetR s o e s' o' e').2.2) true := by
      intro hbad
      refine Ev.step (f := fun _ => some true) (fun k => ?_) (Ev.now _)
      have hm : meetR s o e s' o' e' = (0, 0, 0) := by
        unfold meetR; rw [if_neg]
        rintro ⟨h1, h2⟩
        rcases hbad with h | h
        · rw [h] at h1; cases h1
        · rw [h] at h2; cases h2
      have he : entB s o e s' o' e' = false := by
        unfold entB
        rcases hbad with h | h <;> rw [h] <;> simp
      simp only [laws_FnRest.j0, if_true, hm, impl_Entails_eq, Option.bind_some, he]
      simp
    by_cases h1 : restB s o e = true
    · simp only [h1, if_true]
      by_cases h2 : restB s' o' e' = true
      · rw [h2]
        have hmt : meetR s o e s' o' e' = (andI s s', andI o o', mn e e') := by unfold meetR; rw [if_pos ⟨h1, h2⟩]
        have hmt2 : meetR s' o' e' s o e = (andI s s', andI o o', mn e e') := by
          unfold meetR; rw [if_pos ⟨h2, h1⟩, andI_comm s', andI_comm o', mn_comm e']
        have hmo := meet_ok h1 h2
        have hmt3 : meetR (andI s s') (andI o o') (mn e e') s o e = (andI s s', andI o o', mn e e') := by
          unfold meetR; rw [if_pos ⟨hmo, h1⟩]
          rw [restB_iff] at h1 h2
          rw [andI_self h1.1.1 h2.1.1 h1.1.2 h2.1.2 (by decide), andI_self h1.2.1.1 h2.2.1.1 h1.2.1.2 h2.2.1.2 (by decide), mn_self]
        rw [hmt]
        have hent2 : entB (andI s s') (andI o o') (mn e e') s' o' e' = true := by
          have := meet_ent h2 h1
          rwa [andI_comm s', andI_comm o', mn_comm e'] at this
        refine Ev.step (f := fun k => laws_FnRest.j1 k l false s o e s' o' e' (andI s s') (andI o o') (mn e e')) (fun k => ?_) ?_
        · simp only [laws_FnRest.j0, Bool.not_true, Bool.false_eq_true, if_false, impl_Entails_eq, impl_Meet_eq, Option.bind_some, meet_ent h1 h2, hent2, if_true, hmt2, hmt3, ent_iff h1 h2]
          simp
        · obtain ⟨_, _, _, sv, op, now, hp⟩ := spec_DrawPermits_ok l (by omega)
          refine Ev.step (fun k => by simp only [laws_FnRest.j1]; rw [if_neg (by decide)]) (Ev.bind hp ?_)
          simp only [impl_Permits_eq, Option.bind_some, per_meet h1 h2]
          by_cases h3 : perB s o e sv op now = true
          · simp [h3]; exact Ev.now _
          · simp [h3]; exact Ev.now _
      · have h2' : restB s' o' e' = false := Bool.eq_false_iff.mpr h2
        rw [h2']
        exact bad (Or.inr h2')
    · have h1' : restB s o e = false := Bool.eq_false_iff.mpr h1
      simp only [h1, if_false]
      exact bad (Or.inl h1')

end Go.Proofs.Ytheehldpcdfpmaa.Pure
