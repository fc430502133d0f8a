/- Tickets, authenticators, grants and rests are read from what they are shown as, with their key, and with no other one: for all codes. -/
import Derived.Test.YtaldemgfndmmlaaOFnTicketsx20
import Derived.Test.YtaldemgfndmmlaaBase
import Derived.Test.YtaldemgfndmmlaaDraws
import Derived.Test.YtaldemgfndmmlaaTerms
import Derived.Test.YtaldemgfndmmlaaRests
import Derived.Test.YtaldemgfndmmlaaRounds
import Derived.Test.YtaldemgfndmmlaaBaseTick
namespace Go.Proofs.Ytaldemgfndmmlaa.Pure
open Go.RowKit Go.Proofs.Ytaldemgfndmmlaa.OFnTickets Go.Proofs.YtaldemgfndmmlaaW.PrintWords Go.Proofs.YtaldemgfndmmlaaW.PrintLast Go.Proofs.YtaldemgfndmmlaaW.PrintMore Go.Proofs.Ytaldemgfndmmlaa.Base
set_option linter.unusedVariables false
set_option linter.unusedSimpArgs false
theorem laws_big_eq (l : List Int) : laws_big.f l = some (decide ((l.length : Int) > 1048576)) := rfl

theorem spec_l1New_ok (l : List Int) (hl : l.length ≤ 140737488351232) : ∃ h : Int, Ev (fun k => spec_l1New.f k l) (l, 0, h) := by
  have loop : ∀ (d i : Nat) (h : Int), i + d = l.length → ∃ h' : Int, Ev (fun k => spec_l1New.l0 k l h (i : Int)) (l, 0, h') := by
    intro d
    induction d with
    | zero =>
      intro i h hi
      refine ⟨h, Ev.step (f := fun _ => some (l, 0, h)) (fun k => ?_) (Ev.now _)⟩
      simp only [spec_l1New.l0]
      rw [if_neg (by omega)]
    | succ d ih =>
      intro i h hi
      by_cases h4 : (i : Int) < 4000
      · obtain ⟨h', hh⟩ := ih (i + 1) (Go.bits .and .i64 (wrap64 ((wrap64 ((wrap64 (h * 131)) + (wrap64 (rd l (i : Int))))) + 7)) 1073741823) (by omega)
        refine ⟨h', Ev.step (fun k => ?_) hh⟩
        simp only [spec_l1New.l0]
        rw [if_pos (by omega), if_pos h4, if_pos (by omega), w64 (x := (i : Int) + 1) (by omega) (by omega)]
        rfl
      · refine ⟨h, Ev.step (f := fun _ => some (l, 0, h)) (fun k => ?_) (Ev.now _)⟩
        simp only [spec_l1New.l0]
        rw [if_pos (by omega), if_neg h4]
  unfold spec_l1New.f
  exact loop l.length 0 _ (by omega)

theorem spec_l1Byte_ok (b : List Int) (i h : Int) (hb : b.length ≤ 140737488351232) (hi : 0 ≤ i) : ∃ x i' h' : Int, spec_l1Byte.f b i h = some (x, i', h') ∧ 0 ≤ x ∧ x ≤ 255 ∧ 0 ≤ i' := by
  unfold spec_l1Byte.f
  by_cases h1 : i < (b.length : Int)
  · rw [if_pos h1, if_pos hi]
    refine ⟨_, _, _, rfl, (band255 _).1, (band255 _).2, ?_⟩
    rw [w64 (by omega) (by omega)]; omega
  · rw [if_neg h1]
    exact ⟨_, _, _, rfl, (band255 _).1, (band255 _).2, hi⟩

theorem spec_l1Below_ok (b : List Int) (i h n : Int) (hb : b.length ≤ 140737488351232) (hi : 0 ≤ i) (hn : 1 ≤ n) : ∃ x i' h' : Int, spec_l1Below.f b i h n = some (x, i', h') ∧ 0 ≤ x ∧ x < n ∧ 0 ≤ i' := by
  unfold spec_l1Below.f
  rw [if_neg (by omega)]
  have tm : ∀ y : Int, 0 ≤ y → 0 ≤ Int.tmod y n ∧ Int.tmod y n < n := fun y hy => ⟨Int.tmod_nonneg _ hy, Int.tmod_lt_of_pos _ (by omega)⟩
  by_cases h1 : n ≤ 256
  · rw [if_pos h1]
    obtain ⟨x, i', h', he, hx, _, hi'⟩ := spec_l1Byte_ok b i h hb hi
    rw [he, Option.bind_some, if_neg (by omega)]
    exact ⟨_, _, _, rfl, (tm x hx).1, (tm x hx).2, hi'⟩
  · rw [if_neg h1]
    obtain ⟨x1, i1, h1, he1, hx1, hy1, hi1⟩ := spec_l1Byte_ok b i h hb hi
    obtain ⟨x2, i2, h2, he2, hx2, hy2, hi2⟩ := spec_l1Byte_ok b i1 h1 hb hi1
    obtain ⟨x3, i3, h3, he3, hx3, hy3, hi3⟩ := spec_l1Byte_ok b i2 h2 hb hi2
    obtain ⟨x4, i4, h4, he4, hx4, hy4, hi4⟩ := spec_l1Byte_ok b i3 h3 hb hi3
    rw [he1, Option.bind_some, he2, Option.bind_some, he3, Option.bind_some, he4, Option.bind_some, if_neg (by omega)]
    rw [w64 (x := x1 * 16777216) (by omega) (by omega), w64 (x := x2 * 65536) (by omega) (by omega), w64 (x := x3 * 256) (by omega) (by omega), w64 (x := _ + x2 * 65536) (by omega) (by omega), w64 (x := _ + x3 * 256) (by omega) (by omega), w64 (x := _ + x4) (by omega) (by omega)]
    exact ⟨_, _, _, rfl, (tm _ (by omega)).1, (tm _ (by omega)).2, hi4⟩

theorem spec_l1PickInt_ok (b : List Int) (i h : Int) (l : List Int) (hb : b.length ≤ 140737488351232) (hi : 0 ≤ i) (hl : 1 ≤ l.length) : ∃ (x i' h' : Int), spec_l1PickInt.f b i h l = some (x, i', h') ∧ x ∈ l ∧ 0 ≤ i' := by
  unfold spec_l1PickInt.f
  obtain ⟨x, i', h', he, h0, h1, hi'⟩ := spec_l1Below_ok b i h (l.length : Int) hb hi (by omega)
  rw [he]
  simp only [Option.bind_some]
  rw [if_pos h0, if_pos h1]
  refine ⟨_, _, _, rfl, ?_, hi'⟩
  unfold rd
  rw [List.getD_eq_getElem?_getD, List.getElem?_eq_getElem (by omega)]
  exact List.getElem_mem _

theorem spec_l5Key_ok (b : List Int) (i h : Int) (hb : b.length ≤ 140737488351232) (hi : 0 ≤ i) : ∃ (x i' h' : Int), spec_l5Key.f b i h = some (x, i', h') ∧ (0 ≤ x ∧ x ≤ 1000001) ∧ 0 ≤ i' := by
  unfold spec_l5Key.f
  obtain ⟨x, i1, h1, he, hx, hi1⟩ := spec_l1PickInt_ok b i h [1, 11, 21, 21, 101, 0, 1000001] hb hi (by decide)
  rw [he]
  refine ⟨_, _, _, rfl, ?_, hi1⟩
  simp only [List.mem_cons, List.not_mem_nil, or_false] at hx
  simp only []
  omega

theorem spec_l1Once_ok (b : List Int) (i h n : Int) (hb : b.length ≤ 140737488351232) (hi : 0 ≤ i) (hn : 1 ≤ n) : ∃ (x : Bool) (i' h' : Int), spec_l1Once.f b i h n = some (x, i', h') ∧ 0 ≤ i' := by
  unfold spec_l1Once.f
  obtain ⟨x, i', h', he, _, _, hi'⟩ := spec_l1Below_ok b i h n hb hi hn
  rw [he]
  exact ⟨_, _, _, rfl, hi'⟩

theorem spec_l4Rest_ok (b : List Int) (i h : Int) (hb : b.length ≤ 140737488351232) (hi : 0 ≤ i) : ∃ (s o e i' h' : Int), spec_l4Rest.f b i h = some (s, o, e, i', h') ∧ 0 ≤ i' := by
  unfold spec_l4Rest.f
  obtain ⟨x1, i1, h1, he1, _, _, hi1⟩ := spec_l1Below_ok b i h 8 hb hi (by decide)
  obtain ⟨x2, i2, h2, he2, _, _, hi2⟩ := spec_l1Below_ok b i1 h1 256 hb hi1 (by decide)
  obtain ⟨x3, i3, h3, he3, _, _, hi3⟩ := spec_l1Below_ok b i2 h2 90 hb hi2 (by decide)
  obtain ⟨x4, i4, h4, he4, hi4⟩ := spec_l1Once_ok b i3 h3 3 hb hi3 (by decide)
  obtain ⟨x5, i5, h5, he5, hi5⟩ := spec_l1Once_ok b i4 h4 3 hb hi4 (by decide)
  simp only [he1, he2, he3, he4, he5, Option.bind_some]
  cases x4 <;> cases x5 <;> exact ⟨_, _, _, _, _, rfl, hi5⟩

theorem spec_l4Any_ok (b : List Int) (i h : Int) (hb : b.length ≤ 140737488351232) (hi : 0 ≤ i) : ∃ (s o e i' h' : Int), spec_l4Any.f b i h = some (s, o, e, i', h') ∧ 0 ≤ i' := by
  unfold spec_l4Any.f
  obtain ⟨s, o, e, i1, h1, he1, hi1⟩ := spec_l4Rest_ok b i h hb hi
  obtain ⟨x2, i2, h2, he2, hi2⟩ := spec_l1Once_ok b i1 h1 8 hb hi1 (by decide)
  simp only [he1, he2, Option.bind_some]
  cases x2 with
  | false => exact ⟨_, _, _, _, _, rfl, hi2⟩
  | true =>
    simp only [if_true]
    obtain ⟨x3, i3, h3, he3, _, _, hi3⟩ := spec_l1Below_ok b i2 h2 3 hb hi2 (by decide)
    simp only [he3, Option.bind_some]
    by_cases c1 : x3 = 0
    · obtain ⟨x4, i4, h4, he4, _, hi4⟩ := spec_l1PickInt_ok b i3 h3 [(-1), 8] hb hi3 (by decide)
      rw [if_pos c1, he4]
      exact ⟨_, _, _, _, _, rfl, hi4⟩
    · rw [if_neg c1]
      by_cases c2 : x3 = 1
      · obtain ⟨x4, i4, h4, he4, _, hi4⟩ := spec_l1PickInt_ok b i3 h3 [(-1), 256] hb hi3 (by decide)
        rw [if_pos c2, he4]
        exact ⟨_, _, _, _, _, rfl, hi4⟩
      · obtain ⟨x4, i4, h4, he4, _, hi4⟩ := spec_l1PickInt_ok b i3 h3 [(-1), 100000, 100001] hb hi3 (by decide)
        rw [if_neg c2, he4]
        exact ⟨_, _, _, _, _, rfl, hi4⟩

theorem spec_l5DrawTicket_ok (b : List Int) (i h : Int) (hb : b.length ≤ 140737488351232) (hi : 0 ≤ i) : ∃ (c f g s o e : Int) (p v : List Int) (i' h' : Int), Ev (fun k => spec_l5DrawTicket.f k b i h) (c, f, g, s, o, e, p, v, i', h') ∧ (-9223372036854775808 ≤ f ∧ f ≤ 9223372036854775807) ∧ p.length ≤ 100 ∧ v.length ≤ 100 := by
  have wd : ∀ d : Nat, d ≤ 1000 → wrap64 (((d + 1 : Nat) : Int) - 1) = (d : Int) := fun d hd => by rw [w64 (x := ((d + 1 : Nat) : Int) - 1) (by omega) (by omega)]; omega
  have lp1 : ∀ (d : Nat) (i h c f g s o e : Int) (p v : List Int), 0 ≤ i → (-9223372036854775808 ≤ f ∧ f ≤ 9223372036854775807) → p.length ≤ 50 → v.length + d ≤ 50 → ∃ (c' f' g' s' o' e' : Int) (p' v' : List Int) (i' h' : Int), Ev (fun k => spec_l5DrawTicket.l1 k (d : Int) b i h c f g s o e p v) (c', f', g', s', o', e', p', v', i', h') ∧ (-9223372036854775808 ≤ f' ∧ f' ≤ 9223372036854775807) ∧ p'.length ≤ 100 ∧ v'.length ≤ 100 := by
    intro d
    induction d with
    | zero =>
      intro i h c f g s o e p v hi hf hp hv
      have c0 : ¬ (((0 : Nat) : Int) > 0) := by omega
      obtain ⟨x, i1, h1, e1, hi1⟩ := spec_l1Once_ok b i h 10 hb hi (by decide)
      have stop : ∀ (c' f' g' s' o' e' : Int) (p' v' : List Int) (i' h' : Int), (-9223372036854775808 ≤ f' ∧ f' ≤ 9223372036854775807) → p'.length ≤ 100 → v'.length ≤ 100 → (∀ k, spec_l5DrawTicket.l1 (k + 1) ((0 : Nat) : Int) b i h c f g s o e p v = some (c', f', g', s', o', e', p', v', i', h')) →
          ∃ (c' f' g' s' o' e' : Int) (p' v' : List Int) (i' h' : Int), Ev (fun k => spec_l5DrawTicket.l1 k ((0 : Nat) : Int) b i h c f g s o e p v) (c', f', g', s', o', e', p', v', i', h') ∧ (-9223372036854775808 ≤ f' ∧ f' ≤ 9223372036854775807) ∧ p'.length ≤ 100 ∧ v'.length ≤ 100 :=
        fun c' f' g' s' o' e' p' v' i' h' q1 q2 q3 q => ⟨c', f', g', s', o', e', p', v', i', h', Ev.step (f := fun _ => some (c', f', g', s', o', e', p', v', i', h')) q (Ev.now _), q1, q2, q3⟩
      cases x with
      | false =>
        refine stop c f g s o e p v i1 h1 hf (by omega) (by omega) (fun k => ?_)
        simp only [spec_l5DrawTicket.l1]
        rw [if_neg c0, e1, Option.bind_some, if_neg (show ¬ ((false : Bool) = true) by decide)]
      | true =>
        obtain ⟨y, i2, h2, e2, _, _, hi2⟩ := spec_l1Below_ok b i1 h1 6 hb hi1 (by decide)
        by_cases c1 : y = 0
        · obtain ⟨z, i3, h3, e3, _, hi3⟩ := spec_l1PickInt_ok b i2 h2 [(-1), 6] hb hi2 (by decide)
          refine stop z f g s o e p v i3 h3 hf (by omega) (by omega) (fun k => ?_)
          simp only [spec_l5DrawTicket.l1]
          rw [if_neg c0, e1, Option.bind_some, if_pos rfl, e2, Option.bind_some, if_pos c1, e3, Option.bind_some]
        · by_cases c2 : y = 1
          · obtain ⟨z, i3, h3, e3, m3, hi3⟩ := spec_l1PickInt_ok b i2 h2 [(-1), 3, 9, 13] hb hi2 (by decide)
            simp only [List.mem_cons, List.not_mem_nil, or_false] at m3
            refine stop c z g s o e p v i3 h3 (by omega) (by omega) (by omega) (fun k => ?_)
            simp only [spec_l5DrawTicket.l1]
            rw [if_neg c0, e1, Option.bind_some, if_pos rfl, e2, Option.bind_some, if_neg c1, if_pos c2, e3, Option.bind_some]
          · by_cases c3 : y = 2
            · obtain ⟨z, i3, h3, e3, _, hi3⟩ := spec_l1PickInt_ok b i2 h2 [0, 1000000, 1000001] hb hi2 (by decide)
              refine stop c f z s o e p v i3 h3 hf (by omega) (by omega) (fun k => ?_)
              simp only [spec_l5DrawTicket.l1]
              rw [if_neg c0, e1, Option.bind_some, if_pos rfl, e2, Option.bind_some, if_neg c1, if_neg c2, if_pos c3, e3, Option.bind_some]
            · by_cases c4 : y = 3
              · obtain ⟨s', o', e', i3, h3, e3, hi3⟩ := spec_l4Any_ok b i2 h2 hb hi2
                refine stop c f g s' o' e' p v i3 h3 hf (by omega) (by omega) (fun k => ?_)
                simp only [spec_l5DrawTicket.l1]
                rw [if_neg c0, e1, Option.bind_some, if_pos rfl, e2, Option.bind_some, if_neg c1, if_neg c2, if_neg c3, if_pos c4, e3, Option.bind_some]
              · by_cases c5 : y = 4
                · have lt : p.length + ([0, 1, 2, 3] : List Int).length < 17592186044416 := by simp only [List.length_cons, List.length_nil]; omega
                  refine stop c f g s o e (p ++ [0, 1, 2, 3]) v i2 h2 hf (by simp; omega) (by omega) (fun k => ?_)
                  simp only [spec_l5DrawTicket.l1]
                  rw [if_neg c0, e1, Option.bind_some, if_pos rfl, e2, Option.bind_some, if_neg c1, if_neg c2, if_neg c3, if_neg c4, if_pos c5, Option.bind_some, if_pos lt]
                · have lt : v.length + ([0, 1, 2] : List Int).length < 17592186044416 := by simp only [List.length_cons, List.length_nil]; omega
                  refine stop c f g s o e p (v ++ [0, 1, 2]) i2 h2 hf (by omega) (by simp; omega) (fun k => ?_)
                  simp only [spec_l5DrawTicket.l1]
                  rw [if_neg c0, e1, Option.bind_some, if_pos rfl, e2, Option.bind_some, if_neg c1, if_neg c2, if_neg c3, if_neg c4, if_neg c5, Option.bind_some, if_pos lt]
    | succ d ih =>
      intro i h c f g s o e p v hi hf hp hv
      obtain ⟨x, i1, h1, e1, _, _, hi1⟩ := spec_l1Below_ok b i h 3 hb hi (by decide)
      obtain ⟨c', f', g', s', o', e', p', v', i', h', ev, r⟩ := ih i1 h1 c f g s o e p (v ++ [x]) hi1 hf hp (by simp; omega)
      refine ⟨c', f', g', s', o', e', p', v', i', h', Ev.step (fun k => ?_) ev, r⟩
      have lt : v.length < 17592186044416 := by omega
      simp only [spec_l5DrawTicket.l1]
      rw [if_pos (by omega), e1, Option.bind_some, if_pos lt, wd d (by omega)]
  have lp0 : ∀ (d : Nat) (i h c f g s o e : Int) (p : List Int), 0 ≤ i → (-9223372036854775808 ≤ f ∧ f ≤ 9223372036854775807) → p.length + d ≤ 50 → ∃ (c' f' g' s' o' e' : Int) (p' v' : List Int) (i' h' : Int), Ev (fun k => spec_l5DrawTicket.l0 k (d : Int) b i h c f g s o e p) (c', f', g', s', o', e', p', v', i', h') ∧ (-9223372036854775808 ≤ f' ∧ f' ≤ 9223372036854775807) ∧ p'.length ≤ 100 ∧ v'.length ≤ 100 := by
    intro d
    induction d with
    | zero =>
      intro i h c f g s o e p hi hf hp
      obtain ⟨x, i1, h1, e1, x0, x1, hi1⟩ := spec_l1Below_ok b i h 3 hb hi (by decide)
      obtain ⟨n, rfl⟩ : ∃ n : Nat, x = (n : Int) := ⟨x.toNat, by omega⟩
      obtain ⟨c', f', g', s', o', e', p', v', i', h', ev, r⟩ := lp1 n i1 h1 c f g s o e p [] hi1 hf (by omega) (by simp only [List.length_nil]; omega)
      refine ⟨c', f', g', s', o', e', p', v', i', h', Ev.step (fun k => ?_) ev, r⟩
      simp only [spec_l5DrawTicket.l0]
      rw [if_neg (by omega), e1, Option.bind_some]
    | succ d ih =>
      intro i h c f g s o e p hi hf hp
      obtain ⟨x, i1, h1, e1, _, _, hi1⟩ := spec_l1Below_ok b i h 3 hb hi (by decide)
      obtain ⟨c', f', g', s', o', e', p', v', i', h', ev, r⟩ := ih i1 h1 c f g s o e (p ++ [x]) hi1 hf (by simp; omega)
      refine ⟨c', f', g', s', o', e', p', v', i', h', Ev.step (fun k => ?_) ev, r⟩
      have lt : p.length < 17592186044416 := by omega
      simp only [spec_l5DrawTicket.l0]
      rw [if_pos (by omega), e1, Option.bind_some, if_pos lt, wd d (by omega)]
  obtain ⟨x1, i1, h1, he1, _, _, hi1⟩ := spec_l1Below_ok b i h 6 hb hi (by decide)
  obtain ⟨x2, i2, h2, he2, m2, hi2⟩ := spec_l1PickInt_ok b i1 h1 [0, 1, 2, 10, 11, 12] hb hi1 (by decide)
  obtain ⟨x3, i3, h3, he3, _, _, hi3⟩ := spec_l1Below_ok b i2 h2 9 hb hi2 (by decide)
  obtain ⟨s, o, e, i4, h4, he4, hi4⟩ := spec_l4Rest_ok b i3 h3 hb hi3
  obtain ⟨x5, i5, h5, he5, x50, x51, hi5⟩ := spec_l1Below_ok b i4 h4 3 hb hi4 (by decide)
  obtain ⟨n, rfl⟩ : ∃ n : Nat, x5 = (n : Int) := ⟨x5.toNat, by omega⟩
  simp only [List.mem_cons, List.not_mem_nil, or_false] at m2
  obtain ⟨c', f', g', s', o', e', p', v', i', h', ev, r⟩ := lp0 n i5 h5 x1 x2 (wrap64 (101 + x3)) s o e [] hi5 (by omega) (by simp only [List.length_nil]; omega)
  refine ⟨c', f', g', s', o', e', p', v', i', h', ?_, r⟩
  unfold spec_l5DrawTicket.f
  simp only [he1, he2, he3, he4, he5, Option.bind_some]
  exact ev

theorem spec_DrawShowTicket_ok (b : List Int) (hb : b.length ≤ 140737488351232) : ∃ (c f g s o e : Int) (p v : List Int) (k : Int), Ev (fun n => spec_DrawShowTicket.f n b) (c, f, g, s, o, e, p, v, k) ∧ (-9223372036854775808 ≤ f ∧ f ≤ 9223372036854775807) ∧ p.length ≤ 100 ∧ v.length ≤ 100 ∧ (0 ≤ k ∧ k ≤ 1000001) := by
  obtain ⟨h0, hn⟩ := spec_l1New_ok b hb
  obtain ⟨k, i1, h1, e1, hk, hi1⟩ := spec_l5Key_ok b 0 h0 hb (by decide)
  obtain ⟨c, f, g, s, o, e, p, v, i2, h2, ev, r1, r2, r3⟩ := spec_l5DrawTicket_ok b i1 h1 hb hi1
  refine ⟨c, f, g, s, o, e, p, v, k, ?_, r1, r2, r3, hk⟩
  unfold spec_DrawShowTicket.f
  refine Ev.bind hn ?_
  simp only [e1, Option.bind_some]
  exact Ev.bind ev (Ev.now _)

theorem impl_within_eq (a lo hi : Int) : impl_within.f a lo hi = some (decide (lo ≤ a ∧ a ≤ hi)) := by
  unfold impl_within.f
  by_cases h : a ≥ lo
  · rw [if_pos h]; congr 1; simp [show lo ≤ a from h]
  · rw [if_neg h]; congr 1; simp [show ¬ lo ≤ a from h]

theorem impl_isKey_eq (a : Int) : impl_isKey.f a = some (decide (1 ≤ a ∧ a ≤ 1000000)) := by
  unfold impl_isKey.f; rw [impl_within_eq, Option.bind_some]

theorem impl_Var_loop (j : Nat) : ∀ (n : Nat) (acc : List Int), n < 128 ^ (j + 1) → n ≤ MAXV → acc.length + j < 1000 →
    Ev (fun k => impl_Var.l0 k (n : Int) acc) (strOfNums (acc ++ (var n).map fun (m : Nat) => (m : Int))) := by
  induction j with
  | zero =>
    intro n acc hn hm ha
    have hn' : n < 128 := by simpa using hn
    refine Ev.step (f := fun _ => some (strOfNums (acc ++ (var n).map fun (m : Nat) => (m : Int)))) (fun k => ?_) (Ev.now _)
    simp only [impl_Var.l0]
    rw [if_neg (by omega), if_pos (by omega), var_small hn', show (n : Int) % 256 = (n : Int) by omega]; rfl
  | succ j ih =>
    intro n acc hn hm ha
    by_cases h : n < 128
    · refine Ev.step (f := fun _ => some (strOfNums (acc ++ (var n).map fun (m : Nat) => (m : Int)))) (fun k => ?_) (Ev.now _)
      simp only [impl_Var.l0]
      rw [if_neg (by omega), if_pos (by omega), var_small h, show (n : Int) % 256 = (n : Int) by omega]; rfl
    · have hd : n / 128 < 128 ^ (j + 1) := Nat.div_lt_of_lt_mul (by rw [Nat.pow_succ] at hn; omega)
      have hr := ih (n / 128) (acc ++ [((n % 128 + 128 : Nat) : Int)]) hd (by omega) (by simp; omega)
      refine Ev.step (f := fun k => impl_Var.l0 k ((n / 128 : Nat) : Int) (acc ++ [((n % 128 + 128 : Nat) : Int)])) (fun k => ?_) (ev_eq hr ?_)
      · simp only [impl_Var.l0]
        rw [if_pos (by omega), if_pos (by omega), or_and n (by unfold MAXV at hm; omega)]
        congr 1
      · rw [var_big h, List.map_cons, List.append_assoc]; rfl
theorem impl_Var_ev (n : Int) : Ev (fun k => impl_Var.f k n) (varS n) := by
  unfold impl_Var.f
  simp only [impl_within_eq, Option.bind_some]
  by_cases h : 0 ≤ n ∧ n ≤ 562949953421311
  · simp only [h, decide_true, if_true]
    obtain ⟨m, rfl⟩ := Int.eq_ofNat_of_zero_le h.1
    have hm : m ≤ MAXV := by unfold MAXV; omega
    refine ev_eq (impl_Var_loop 6 m [] (by unfold MAXV at hm; omega) hm (by simp)) ?_
    rw [varS_in hm]; rfl
  · simp only [h, decide_false]
    rw [varS_out h]
    exact Ev.now _

theorem impl_ReadVar_loop (s : ByteArray) (hs : s.size ≤ 140737488355327) (d : Nat) : ∀ (i n : Nat), i + d = 7 → i ≤ (bl s).length → (∀ j, j < i → 128 ≤ (bl s).getD j 0) → n = val ((bl s).take i) →
    Ev (fun k => impl_ReadVar.l0 k s (n : Int) (i : Int)) (rvI (bl s)) := by
  have hl := bl_len s
  induction d with
  | zero =>
    intro i n hi hle hc hn
    have e : rvI (bl s) = (0, 0) := rvI_none (fun n k hR => R_far (bl s) i hc (Or.inr (by omega)) hR)
    rw [e]
    refine Ev.step (f := fun k => impl_ReadVar.j1 k s (n : Int) (i : Int) false) (fun k => ?_) (Ev.step (f := fun _ => some (0, 0)) (fun k => ?_) (Ev.now _))
    · simp only [impl_ReadVar.l0]
      by_cases h : (i : Int) < (s.size : Int)
      · rw [if_pos h, decide_eq_false (by omega)]
      · rw [if_neg h]
    · simp [impl_ReadVar.j1]
  | succ d ih =>
    intro i n hi hle hc hn
    by_cases h : i < (bl s).length
    · have is_ : (i : Int) < (s.size : Int) := by omega
      have i7 : (i : Int) < 7 := by omega
      have i0 : 0 ≤ (i : Int) := by omega
      have i1s : ((i + 1 : Nat) : Int) ≤ (s.size : Int) := by omega
      have i10 : 0 ≤ ((i + 1 : Nat) : Int) := by omega
      have i1S : i + 1 ≤ s.size := by omega
      have hw1 : Aside0 (wrap64 ((i : Int) + 1) = ((i + 1 : Nat) : Int)) := ⟨by rw [w64 (by omega) (by omega)]; omega⟩
      have hw7 : Aside0 (0 ≤ wrap64 (7 * (i : Int))) := ⟨by rw [w64 (by omega) (by omega)]; omega⟩
      have hj : ∀ k, impl_ReadVar.l0 (k + 1) s (n : Int) (i : Int) = impl_ReadVar.j1 k s (n : Int) (i : Int) true := by
        intro k
        simp only [impl_ReadVar.l0]
        rw [if_pos is_, decide_eq_true i7]
      have hb : bt s (i : Int) = (((bl s)[i] : Nat) : Int) := bt_get s i h
      have hb256 : (bl s)[i] < 256 := bl_lt s _ (List.getElem_mem h)
      have hnlt : n < 128 ^ i := by
        have := val_lt ((bl s).take i)
        rw [List.length_take, Nat.min_eq_left hle] at this
        omega
      have ho := or_shl n i (bl s)[i] hnlt (by omega) hb256
      have hv := val_take (bl s) i h
      have hnn : n + 128 ^ i * ((bl s)[i] % 128) = val ((bl s).take (i + 1)) := by rw [hv, hn]
      have hsum := val_lt ((bl s).take (i + 1))
      rw [List.length_take, Nat.min_eq_left (by omega)] at hsum
      have hp : 128 ^ (i + 1) ≤ 128 ^ 7 := Nat.pow_le_pow_right (by decide) (by omega)
      have hmax : n + 128 ^ i * ((bl s)[i] % 128) ≤ MAXV := by
        have h7 : (128 : Nat) ^ 7 = 562949953421312 := by decide
        rw [hnn]; unfold MAXV; omega
      have hg : (bl s).getD i 0 = (bl s)[i] := by rw [List.getD_eq_getElem?_getD, List.getElem?_eq_getElem h]; rfl
      by_cases hlt : (bl s)[i] < 128
      · have hvar := impl_Var_ev ((n + 128 ^ i * ((bl s)[i] % 128) : Nat) : Int)
        refine Ev.step hj (Ev.step (f := fun k => (impl_Var.f k ((n + 128 ^ i * ((bl s)[i] % 128) : Nat) : Int)).bind fun t => (if t.toList = (s.extract 0 (i + 1)).toList then some (((n + 128 ^ i * ((bl s)[i] % 128) : Nat) : Int), ((i + 1 : Nat) : Int)) else some (0, 0))) (fun k => ?_) (Ev.bind hvar ?_))
        · simp only [impl_ReadVar.j1, if_true]
          rw [if_pos i0, if_pos is_, if_pos hw7.out, hb, if_pos (show (((bl s)[i] : Nat) : Int) < 128 from Int.ofNat_lt.mpr hlt), ho, hw1.out]
          congr 1
          funext t
          rw [if_pos i10, if_pos i1s]
          rfl
        · by_cases hR : R (bl s) (n + 128 ^ i * ((bl s)[i] % 128)) (i + 1)
          · rw [rvI_some hR]
            have := (R_iff s _ (i + 1) hmax i1S).2 hR
            simp only [this, if_true]
            exact Ev.now _
          · have hne : ¬ varS ((n + 128 ^ i * ((bl s)[i] % 128) : Nat) : Int) = s.extract 0 (i + 1) := fun e => hR ((R_iff s _ (i + 1) hmax i1S).1 e)
            have hnone : rvI (bl s) = (0, 0) := rvI_none (fun n' k' hR' => by
              have hk := R_upto (bl s) i h (by omega) hc hlt hR'
              subst hk
              have hv' := R_val hR'
              rw [← hnn] at hv'
              rw [← hv'] at hR'
              exact hR hR')
            rw [hnone]
            simp only [toList_iff, hne, if_false]
            exact Ev.now _
      · have hr := ih (i + 1) (n + 128 ^ i * ((bl s)[i] % 128)) (by omega) (by omega) (fun j hj => by
          by_cases he : j < i
          · exact hc j he
          · have : j = i := by omega
            rw [this, hg]; omega) hnn
        refine Ev.step hj (Ev.step (f := fun k => impl_ReadVar.l0 k s ((n + 128 ^ i * ((bl s)[i] % 128) : Nat) : Int) ((i + 1 : Nat) : Int)) (fun k => ?_) hr)
        simp only [impl_ReadVar.j1, if_true]
        rw [if_pos i0, if_pos is_, if_pos hw7.out, hb, if_neg (show ¬ (((bl s)[i] : Nat) : Int) < 128 from fun e => hlt (Int.ofNat_lt.mp e)), ho, hw1.out]
    · have e : rvI (bl s) = (0, 0) := rvI_none (fun n k hR => R_far (bl s) i hc (Or.inl (by omega)) hR)
      rw [e]
      refine Ev.step (f := fun k => impl_ReadVar.j1 k s (n : Int) (i : Int) false) (fun k => ?_) (Ev.step (f := fun _ => some (0, 0)) (fun k => ?_) (Ev.now _))
      · simp only [impl_ReadVar.l0]
        rw [if_neg (by omega)]
      · simp [impl_ReadVar.j1]
theorem impl_ReadVar_ev (s : ByteArray) (hs : s.size ≤ 140737488355327) : Ev (fun k => impl_ReadVar.f k s) (rvI (bl s)) := by
  unfold impl_ReadVar.f
  exact impl_ReadVar_loop s hs 7 0 0 (by omega) (by omega) (by intro j hj; omega) (by simp [val])

theorem impl_varAt_ev (s : ByteArray) (hs : s.size ≤ 140737488355327) (a : Nat) (ha : a ≤ s.size) : Ev (fun k => impl_varAt.f k s (a : Int)) (vA (bl s) a) := by
  unfold impl_varAt.f
  have h1 : 0 ≤ (a : Int) := by omega
  have h2 : (a : Int) ≤ (s.size : Int) := by omega
  simp only [h1, h2, if_true, Int.toNat_natCast]
  have hsz : (s.extract a s.size).size ≤ 140737488355327 := by rw [ByteArray.size_extract]; omega
  refine Ev.bind (impl_ReadVar_ev _ hsz) ?_
  rw [bl_from]
  unfold vA rvI
  cases hr : rv ((bl s).drop a) with
  | none => simp only [if_true]; exact Ev.now _
  | some p =>
    obtain ⟨n, k⟩ := p
    have hp := R_pos (rv_R hr)
    have hl := R_le (rv_R hr)
    simp only at hp hl
    rw [List.length_drop, bl_len] at hl
    have hne : ¬ ((k : Int) = 0) := by omega
    simp only [hne, if_false]
    rw [w64 (by omega) (by omega)]
    exact Ev.now _

theorem impl_termAt_list (s : ByteArray) (hs : s.size ≤ 140737488355327) (d : Nat) (hd : d ≤ 100) (n : Nat) (hn : n ≤ 12)
    (hf : ∀ a, a ≤ s.size → Ev (fun k => impl_termAt.f k s (a : Int) (d : Int)) (tA a (parse d ((bl s).drop a)))) (r : Nat) : ∀ (i a : Nat), i + r = n → a ≤ s.size →
    Ev (fun k => impl_termAt.l0 k s ((d + 1 : Nat) : Int) (n : Int) (a : Int) (i : Int)) (tA a (many (parse d) r ((bl s).drop a))) := by
  have hw : Aside0 (wrap64 (((d + 1 : Nat) : Int) - 1) = (d : Int)) := ⟨by rw [w64 (by omega) (by omega)]; omega⟩
  have bad : ∀ i : Int, Ev (fun k => impl_termAt.l0 k s ((d + 1 : Nat) : Int) (n : Int) (-1) i) (-1) := by
    intro i
    refine Ev.step (f := fun _ => some (-1)) (fun k => ?_) (Ev.now _)
    simp only [impl_termAt.l0]
    by_cases h : i < (n : Int)
    · rw [if_pos h, if_neg (by decide)]
    · rw [if_neg h]
  induction r with
  | zero =>
    intro i a hi ha
    refine Ev.step (f := fun _ => some ((a : Int))) (fun k => ?_) (ev_eq (Ev.now _) ?_)
    · simp only [impl_termAt.l0]; rw [if_neg (by omega)]
    · simp [many, tA]
  | succ r ih =>
    intro i a hi ha
    have hi1 : Aside0 (wrap64 ((i : Int) + 1) = ((i + 1 : Nat) : Int)) := ⟨by rw [w64 (by omega) (by omega)]; omega⟩
    refine Ev.step (f := fun k => (impl_termAt.f k s (a : Int) (d : Int)).bind fun t => impl_termAt.l0 k s ((d + 1 : Nat) : Int) (n : Int) t ((i + 1 : Nat) : Int)) (fun k => ?_) (Ev.bind (hf a ha) ?_)
    · simp only [impl_termAt.l0]; rw [if_pos (by omega), if_pos (by omega), hw.out, hi1.out]
    · rw [many_succ]
      cases hp : parse d ((bl s).drop a) with
      | none => exact bad _
      | some m =>
        have hle := (parse_le d _ _ hp).2
        rw [List.length_drop, bl_len] at hle
        have := ih (i + 1) (a + m) (by omega) (by omega)
        rw [← List.drop_drop, tA_add] at this
        exact this
theorem impl_termAt_ev (s : ByteArray) (hs : s.size ≤ 140737488355327) (d : Nat) : ∀ (a : Nat), d ≤ 100 → a ≤ s.size → Ev (fun k => impl_termAt.f k s (a : Int) (d : Int)) (tA a (parse d ((bl s).drop a))) := by
  have hl := bl_len s
  have dead : ∀ (a d : Int), Ev (fun k => impl_termAt.j0 k s a d true) (-1) := by
    intro a d
    refine Ev.step (f := fun _ => some (-1)) (fun k => ?_) (Ev.now _)
    simp [impl_termAt.j0]
  induction d with
  | zero =>
    intro a hd ha
    by_cases h : (a : Int) ≥ (s.size : Int)
    · refine Ev.step (fun k => ?_) (ev_eq (dead (a : Int) ((0 : Nat) : Int)) (by simp [parse, tA]))
      simp only [impl_termAt.f]; rw [if_pos h]
    · refine Ev.step (fun k => ?_) (ev_eq (dead (a : Int) ((0 : Nat) : Int)) (by simp [parse, tA]))
      simp only [impl_termAt.f]; rw [if_neg h, decide_eq_true (by decide)]
  | succ d ih =>
    intro a hd ha
    by_cases h : (a : Int) ≥ (s.size : Int)
    · refine Ev.step (fun k => ?_) (ev_eq (dead (a : Int) ((d + 1 : Nat) : Int)) ?_)
      · simp only [impl_termAt.f]; rw [if_pos h]
      · rw [List.drop_of_length_le (by omega), parse_nil]; rfl
    · have hlt : a < (bl s).length := by omega
      have hs1 : 0 ≤ (a : Int) := by omega
      have hs2 : (a : Int) < (s.size : Int) := by omega
      have ha1 : Aside0 (wrap64 ((a : Int) + 1) = ((a + 1 : Nat) : Int)) := ⟨by rw [w64 (by omega) (by omega)]; omega⟩
      have hd1 : Aside0 (wrap64 (((d + 1 : Nat) : Int) - 1) = (d : Int)) := ⟨by rw [w64 (by omega) (by omega)]; omega⟩
      have hv := impl_varAt_ev s hs (a + 1) (by omega)
      have hcons : (bl s).drop a = (bl s)[a] :: (bl s).drop (a + 1) := List.drop_eq_getElem_cons hlt
      have hstep : ∀ k, impl_termAt.f (k + 1) s (a : Int) ((d + 1 : Nat) : Int) = impl_termAt.j0 k s (a : Int) ((d + 1 : Nat) : Int) false := by
        intro k; simp only [impl_termAt.f]; rw [if_neg h, decide_eq_false (by omega)]
      refine Ev.step hstep ?_
      refine Ev.step (fun k => by simp only [impl_termAt.j0]; rw [if_neg (by decide), ha1.out]) (Ev.bind hv ?_)
      simp only [hs1, hs2, if_true, bt_get s a hlt, impl_within_eq, impl_isKey_eq, Option.bind_some]
      rw [hcons]
      generalize (bl s)[a] = c
      rw [parse]
      unfold vA
      cases hr : rv ((bl s).drop (a + 1)) with
      | none =>
        refine ev_of (fun k => ?_)
        simp [tA]
      | some p =>
        obtain ⟨n, k'⟩ := p
        have hR := rv_R hr
        have hk := R_le hR
        have hn9 := hR.1
        unfold MAXV at hn9
        simp only at hk hn9
        rw [List.length_drop, hl] at hk
        simp only []
        by_cases c1 : c = 97
        · subst c1
          simp only [if_true, List.length_drop, hl]
          by_cases c2 : n ≤ 40
          · have c2' : 0 ≤ (n : Int) ∧ (n : Int) ≤ 40 := by omega
            simp only [c2', decide_true, if_true, c2, true_and]
            rw [w64 (by omega) (by omega)]
            by_cases c3 : n ≤ s.size - (a + 1) - k'
            · rw [if_pos c3]
              have c3' : ¬ ((n : Int) > (s.size : Int) - ((a + 1 + k' : Nat) : Int)) := by omega
              simp only [c3', if_false]
              rw [w64 (by omega) (by omega)]
              refine ev_eq (Ev.now _) ?_
              simp [tA]; omega
            · rw [if_neg c3]
              have c3' : ((n : Int) > (s.size : Int) - ((a + 1 + k' : Nat) : Int)) := by omega
              simp only [c3', if_true]
              exact Ev.now _
          · have c2' : ¬ (0 ≤ (n : Int) ∧ (n : Int) ≤ 40) := by omega
            simp only [c2', decide_false, c2, false_and, if_false]
            exact Ev.now _
        · have c1' : ¬ ((c : Int) = 97) := by omega
          simp only [c1', c1, if_false]
          by_cases c4 : c = 107
          · subst c4
            simp only [if_true]
            by_cases c5 : 1 ≤ n ∧ n ≤ 1000000
            · have c5' : 1 ≤ (n : Int) ∧ (n : Int) ≤ 1000000 := by omega
              simp only [c5', c5, decide_true, if_true, and_self]
              refine ev_eq (Ev.now _) ?_
              simp [tA]; omega
            · have c5' : ¬ (1 ≤ (n : Int) ∧ (n : Int) ≤ 1000000) := by omega
              simp only [c5', c5, decide_false, if_false]
              exact Ev.now _
          · have c4' : ¬ ((c : Int) = 107) := by omega
            simp only [c4', c4, if_false]
            by_cases c6 : c = 108
            · subst c6
              simp only [if_true]
              by_cases c7 : n ≤ 12
              · have c7' : 0 ≤ (n : Int) ∧ (n : Int) ≤ 12 := by omega
                simp only [c7', decide_true, if_true, c7]
                have hL := impl_termAt_list s hs d (by omega) n c7 (fun a ha => ih a (by omega) ha) n 0 (a + 1 + k') (by omega) (by omega)
                rw [← List.drop_drop] at hL
                refine ev_eq hL ?_
                cases hq : many (parse d) n (((bl s).drop (a + 1)).drop k') with
                | none => rfl
                | some q => simp [tA]; omega
              · have c7' : ¬ (0 ≤ (n : Int) ∧ (n : Int) ≤ 12) := by omega
                simp only [c7', c7, decide_false, if_false]
                exact Ev.now _
            · have c6' : ¬ ((c : Int) = 108) := by omega
              simp only [c6', c6, if_false]
              by_cases c8 : c = 115
              · subst c8
                simp only [if_true]
                by_cases c5 : 1 ≤ n ∧ n ≤ 1000000
                · have c5' : 1 ≤ (n : Int) ∧ (n : Int) ≤ 1000000 := by omega
                  simp only [c5', c5, decide_true, if_true, and_self, hd1.out]
                  refine Ev.bind (ih (a + 1 + k') (by omega) (by omega)) ?_
                  rw [← List.drop_drop]
                  refine ev_eq (Ev.now _) ?_
                  cases hq : parse d (((bl s).drop (a + 1)).drop k') with
                  | none => rfl
                  | some q => simp [tA]; omega
                · have c5' : ¬ (1 ≤ (n : Int) ∧ (n : Int) ≤ 1000000) := by omega
                  simp only [c5', c5, decide_false, if_false]
                  exact Ev.now _
              · have c8' : ¬ ((c : Int) = 115) := by omega
                simp only [c8', c8, if_false]
                exact Ev.now _

theorem impl_TermOk_ev (s : ByteArray) (hs : s.size ≤ 140737488355327) : Ev (fun k => impl_TermOk.f k s) (termB (bl s)) := by
  have hl := bl_len s
  unfold impl_TermOk.f
  simp only [impl_within_eq, Option.bind_some]
  unfold termB
  by_cases h : 1 ≤ (s.size : Int) ∧ (s.size : Int) ≤ 900
  · simp only [h, decide_true, if_true, and_self]
    have ht := impl_termAt_ev s hs 8 0 (by decide) (by omega)
    refine Ev.bind ht (ev_eq (Ev.now _) ?_)
    rw [List.drop_zero, hl]
    have h1 : 1 ≤ s.size := by omega
    have h2 : s.size ≤ 900 := by omega
    cases hp : parse 8 (bl s) with
    | none => simp [tA]
    | some m => simp [tA, h1, h2]; rw [Bool.eq_iff_iff]; simp; omega
  · simp only [h, decide_false]
    refine ev_eq (Ev.now _) ?_
    rw [decide_eq_false]; rw [hl]; omega

theorem impl_term_ev (s : ByteArray) (hs : s.size ≤ 140737488355327) : Ev (fun k => impl_term.f k s) (termS s) := by
  unfold impl_term.f
  refine Ev.bind (impl_TermOk_ev s hs) ?_
  unfold termS okS
  by_cases h : termB (bl s) = true
  · simp only [h, if_true]; exact Ev.now _
  · simp only [h]; exact Ev.now _

theorem impl_List_loop (ps : List ByteArray) (hl : ps.length ≤ 1073741824) (d : Nat) : ∀ (i : Nat) (acc : ByteArray), i + d = ps.length → acc.size ≤ 1000 + 900 * i → (∀ p ∈ ps, p.size ≤ 1099511627776) →
    Ev (fun k => impl_List.l0 k acc ps (ps.length : Int) (i : Int)) (if (ps.drop i).all okS = true then termS (acc ++ cat (ps.drop i)) else ⟨#[]⟩) := by
  induction d with
  | zero =>
    intro i acc hi ha hp
    rw [List.drop_of_length_le (by omega)]
    have e : acc ++ cat [] = acc := ByteArray.append_empty
    simp only [List.all_nil, if_true, e]
    refine Ev.step (f := fun k => (impl_term.f k acc).bind fun t => some t) (fun k => ?_) (Ev.bind (impl_term_ev acc (by omega)) (Ev.now _))
    simp only [impl_List.l0]; rw [if_neg (by omega)]
  | succ d ih =>
    intro i acc hi ha hp
    have hlt : i < ps.length := by omega
    have hcons : ps.drop i = ps[i] :: ps.drop (i + 1) := List.drop_eq_getElem_cons hlt
    have hsz := hp _ (List.getElem_mem hlt)
    have hw : Aside0 (wrap64 ((i : Int) + 1) = ((i + 1 : Nat) : Int)) := ⟨by rw [w64 (by omega) (by omega)]; omega⟩
    refine Ev.step (f := fun k => (impl_TermOk.f k ps[i]).bind fun t => (if t = true then (if acc.size + ps[i].size ≤ 9223372036854775807 then impl_List.l0 k (acc ++ ps[i]) ps (ps.length : Int) ((i + 1 : Nat) : Int) else none) else some (⟨#[]⟩ : ByteArray))) (fun k => ?_) (Ev.bind (impl_TermOk_ev ps[i] (by omega)) ?_)
    · simp only [impl_List.l0]; rw [if_pos (by omega), if_pos (by omega), if_pos (by omega), rdOf_get ps i hlt, hw.out]
    · have ho : termB (bl ps[i]) = okS ps[i] := rfl
      rw [ho, hcons, List.all_cons, cat_cons]
      by_cases h : okS ps[i] = true
      · have h9 := (okS_size h).2
        have hr := ih (i + 1) (acc ++ ps[i]) (by omega) (by rw [ByteArray.size_append]; omega) hp
        have hle : acc.size + ps[i].size ≤ 9223372036854775807 := by omega
        rw [ByteArray.append_assoc] at hr
        simp only [h, hle, if_true, Bool.true_and]
        exact hr
      · have h' := Bool.eq_false_iff.mpr h
        rw [h', Bool.false_and]
        simp only [Bool.false_eq_true, if_false]
        exact Ev.now _
theorem impl_List_ev (ps : List ByteArray) (hl : ps.length ≤ 1073741824) (hp : ∀ p ∈ ps, p.size ≤ 1099511627776) : Ev (fun k => impl_List.f k ps) (listS ps) := by
  unfold impl_List.f
  refine Ev.bind (impl_Var_ev _) ?_
  have h7 := @var_size (ps.length : Int)
  have h1 : (⟨#[108]⟩ : ByteArray).size = 1 := rfl
  have a1 : 1 + (varS (ps.length : Int)).size ≤ 9223372036854775807 := by omega
  simp only [a1, if_true]
  refine ev_eq (impl_List_loop ps hl ps.length 0 ((⟨#[108]⟩ : ByteArray) ++ varS (ps.length : Int)) (by omega) (by rw [ByteArray.size_append]; omega) hp) ?_
  unfold listS rawL
  rw [List.drop_zero]
  by_cases h : ps.all okS = true
  · rw [if_pos h]
    by_cases h12 : ps.length ≤ 12
    · rw [if_pos ⟨h12, h⟩]
    · rw [if_neg (fun e => h12 e.1)]
      unfold termS
      rw [list_long (by omega) (by unfold MAXV; omega), if_neg (by decide)]
  · rw [if_neg h, if_neg (fun e => h e.2)]

theorem impl_Atom_ev (d : ByteArray) (hd : d.size ≤ 1000000000) : Ev (fun k => impl_Atom.f k d) (atomS d) := by
  unfold impl_Atom.f
  refine Ev.bind (impl_Var_ev _) ?_
  have h7 := @var_size (d.size : Int)
  have h1 : (⟨#[97]⟩ : ByteArray).size = 1 := rfl
  have a1 : 1 + (varS (d.size : Int)).size ≤ 9223372036854775807 := by omega
  have a2 : ((⟨#[97]⟩ : ByteArray) ++ varS (d.size : Int)).size + d.size ≤ 9223372036854775807 := by rw [ByteArray.size_append]; omega
  simp only [a1, a2, if_true]
  refine Ev.bind (impl_term_ev _ (by rw [ByteArray.size_append, ByteArray.size_append]; omega)) (ev_eq (Ev.now _) rfl)

theorem toList_nil (s : ByteArray) : s.toList = ([] : List UInt8) ↔ s = (⟨#[]⟩ : ByteArray) := by
  have h := toList_iff s (⟨#[]⟩ : ByteArray)
  have e : (⟨#[]⟩ : ByteArray).toList = [] := by rw [ByteArray.toList_eq]
  rw [e] at h
  exact h

theorem impl_Num_ev (n : Int) : Ev (fun k => impl_Num.f k n) (numS n) := by
  unfold impl_Num.f
  refine Ev.bind (impl_Var_ev n) ?_
  unfold numS
  simp only [toList_nil]
  by_cases h : varS n = (⟨#[]⟩ : ByteArray)
  · simp only [h, if_true]; exact Ev.now _
  · simp only [h, if_false]
    have := @var_size n
    exact Ev.bind (impl_Atom_ev _ (by omega)) (ev_eq (Ev.now _) rfl)

theorem listS_long {ps : List ByteArray} (h : 12 < ps.length) : listS ps = (⟨#[]⟩ : ByteArray) := by unfold listS; rw [if_neg (fun e => by omega)]
theorem impl_Nums_loop (l : List Int) (hl : l.length ≤ 1073741824) (d : Nat) : ∀ (i : Nat), i + d = l.length →
    Ev (fun k => impl_Nums.l0 k ((l.take i).map numS) l (l.length : Int) (i : Int)) (if ((l.drop i).all fun n => decide (0 ≤ n ∧ n ≤ 562949953421311)) = true then listS (l.map numS) else ⟨#[]⟩) := by
  induction d with
  | zero =>
    intro i hi
    rw [List.drop_of_length_le (by omega), List.take_of_length_le (by omega)]
    simp only [List.all_nil, if_true]
    refine Ev.step (f := fun k => (impl_List.f k (l.map numS)).bind fun t => some t) (fun k => ?_) (Ev.bind (impl_List_ev _ (by rw [List.length_map]; omega) (fun p hp => ?_)) (Ev.now _))
    · simp only [impl_Nums.l0]; rw [if_neg (by omega)]
    · obtain ⟨n, _, rfl⟩ := List.mem_map.mp hp
      have := numS_size n; omega
  | succ d ih =>
    intro i hi
    have hlt : i < l.length := by omega
    have hcons : l.drop i = l[i] :: l.drop (i + 1) := List.drop_eq_getElem_cons hlt
    have hw : Aside0 (wrap64 ((i : Int) + 1) = ((i + 1 : Nat) : Int)) := ⟨by rw [w64 (by omega) (by omega)]; omega⟩
    refine Ev.step (f := fun k => (impl_Num.f k l[i]).bind fun t => (if t.toList = ([] : List UInt8) then some (⟨#[]⟩ : ByteArray) else (if ((l.take i).map numS).length < 8796093022208 then impl_Nums.l0 k ((l.take i).map numS ++ [t]) l (l.length : Int) ((i + 1 : Nat) : Int) else none))) (fun k => ?_) (Ev.bind (impl_Num_ev l[i]) ?_)
    · simp only [impl_Nums.l0]; rw [if_pos (by omega), if_pos (by omega), if_pos (by omega), rd_get l i hlt, hw.out]
    · simp only [toList_nil]
      rw [hcons, List.all_cons]
      by_cases h : 0 ≤ l[i] ∧ l[i] ≤ 562949953421311
      · have hne := (numS_in h).2.2
        have hr := ih (i + 1) (by omega)
        have hlen : ((l.take i).map numS).length < 8796093022208 := by rw [List.length_map, List.length_take]; omega
        simp only [hne, hlen, if_false, if_true]
        rw [decide_eq_true h, Bool.true_and]
        rw [List.take_succ_eq_append_getElem hlt, List.map_append] at hr
        exact hr
      · rw [decide_eq_false h, Bool.false_and, numS_out h]
        simp only [Bool.false_eq_true, if_true, if_false]
        exact Ev.now _
theorem impl_Nums_ev (l : List Int) (hl : l.length ≤ 1073741824) : Ev (fun k => impl_Nums.f k l) (numsS l) := by
  unfold impl_Nums.f
  refine ev_eq (impl_Nums_loop l hl l.length 0 (by omega)) ?_
  unfold numsS
  rw [List.drop_zero]
  by_cases h : (l.all fun n => decide (0 ≤ n ∧ n ≤ 562949953421311)) = true
  · rw [if_pos h]
    by_cases h12 : l.length ≤ 12
    · rw [if_pos ⟨h12, h⟩]
    · rw [if_neg (fun e => h12 e.1), listS_long (by rw [List.length_map]; omega)]
  · rw [if_neg h, if_neg (fun e => h e.2)]

theorem impl_isTime_eq (a : Int) : impl_isTime.f a = some (decide (0 ≤ a ∧ a ≤ 100000)) := by
  unfold impl_isTime.f; rw [impl_within_eq, Option.bind_some]

theorem impl_RestOk_eq (s o e : Int) : impl_RestOk.f s o e = some (restB s o e) := by
  unfold impl_RestOk.f restB
  simp only [impl_within_eq, impl_isTime_eq, Option.bind_some]
  by_cases h1 : 0 ≤ s ∧ s ≤ 7 <;> by_cases h2 : 0 ≤ o ∧ o ≤ 255 <;> simp [h1, h2]

theorem impl_ShowRest_ev (s o e : Int) : Ev (fun k => impl_ShowRest.f k s o e) (srS s o e) := by
  unfold impl_ShowRest.f srS
  simp only [impl_RestOk_eq, Option.bind_some]
  by_cases h : restB s o e = true
  · simp only [h, if_true]
    exact Ev.bind (impl_Nums_ev _ (by simp)) (Ev.now _)
  · simp only [h]
    exact Ev.now _

theorem impl_isPrincipal_eq (a : Int) : impl_isPrincipal.f a = some (decide (0 ≤ a ∧ a < 6)) := by
  unfold impl_isPrincipal.f
  rw [impl_within_eq, Option.bind_some]
  congr 1
  exact decide_eq_decide.mpr (by omega)

theorem impl_isRealm_eq (a : Int) : impl_isRealm.f a = some (decide (0 ≤ a ∧ a < 3)) := by
  unfold impl_isRealm.f
  rw [impl_within_eq, Option.bind_some]
  congr 1
  exact decide_eq_decide.mpr (by omega)

theorem impl_isService_eq (a : Int) : impl_isService.f a = some (decide (0 ≤ a ∧ a ≤ 2)) := by
  unfold impl_isService.f; rw [impl_within_eq, Option.bind_some]

def forB (a : Int) : Bool := decide ((0 ≤ a ∧ a ≤ 2) ∨ (10 ≤ a ∧ a ≤ 12))
theorem wrap_for {a : Int} (h0 : -9223372036854775808 ≤ a) (h1 : a ≤ 9223372036854775807) : (0 ≤ wrap64 (a - 10) ∧ wrap64 (a - 10) < 3) ↔ (10 ≤ a ∧ a ≤ 12) := by
  by_cases h : -9223372036854775798 ≤ a
  · rw [w64 (x := a - 10) (by omega) (by omega)]; omega
  · have : wrap64 (a - 10) = a - 10 + 18446744073709551616 := by unfold wrap64; omega
    rw [this]; omega

theorem impl_isFor_eq (a : Int) (h0 : -9223372036854775808 ≤ a) (h1 : a ≤ 9223372036854775807) : impl_isFor.f a = some (forB a) := by
  unfold impl_isFor.f forB
  simp only [impl_isService_eq, impl_isRealm_eq, Option.bind_some, wrap_for h0 h1]
  by_cases h1 : 0 ≤ a ∧ a ≤ 2 <;> simp [h1]

/-- At most so many numbers, all of a kind. -/
def allP (ok : Int → Prop) (l : List Int) (most : Int) : Prop := (l.length : Int) ≤ most ∧ ∀ i, i < l.length → ok (rd l (i : Int))
noncomputable def allB (ok : Int → Prop) (l : List Int) (most : Int) : Bool := @decide (allP ok l most) (Classical.propDecidable _)
theorem allB_t {ok : Int → Prop} {l : List Int} {most : Int} (h : allP ok l most) : allB ok l most = true := @decide_eq_true _ (Classical.propDecidable _) h
theorem allB_f {ok : Int → Prop} {l : List Int} {most : Int} (h : ¬ allP ok l most) : allB ok l most = false := @decide_eq_false _ (Classical.propDecidable _) h
theorem allB_out {ok : Int → Prop} {l : List Int} {most : Int} (h : allB ok l most = true) : allP ok l most := by
  by_cases hp : allP ok l most
  · exact hp
  · rw [allB_f hp] at h; cases h
def ok3 (x : Int) : Prop := 0 ≤ x ∧ x < 3

theorem impl_areAll_of_isRealm_ev (l : List Int) (most : Int) (hl : l.length ≤ 1048576) : Ev (fun k => impl_areAll_of_isRealm.f k l most) (allB ok3 l most) := by
  have loop : ∀ d i : Nat, i + d = l.length → (∀ j, j < i → ok3 (rd l (j : Int))) → Ev (fun k => impl_areAll_of_isRealm.l0 k l most l (l.length : Int) (i : Int)) (allB ok3 l most) := by
    intro d
    induction d with
    | zero =>
      intro i hi hj
      refine Ev.step (f := fun _ => some (decide ((l.length : Int) ≤ most))) (fun k => ?_) (ev_eq (Ev.now _) ?_)
      · simp only [impl_areAll_of_isRealm.l0]
        rw [if_neg (by omega)]
      · by_cases h : (l.length : Int) ≤ most
        · rw [decide_eq_true h, allB_t ⟨h, fun j h => hj j (by omega)⟩]
        · rw [decide_eq_false h, allB_f (fun hp => h hp.1)]
    | succ d ih =>
      intro i hi hj
      have hlt : i < l.length := by omega
      have e2 : wrap64 ((i : Int) + 1) = ((i + 1 : Nat) : Int) := by rw [w64 (x := (i : Int) + 1) (by omega) (by omega)]; omega
      have c1 : (i : Int) < (l.length : Int) := by omega
      have c2 : 0 ≤ (i : Int) := by omega
      by_cases a1 : ok3 (rd l (i : Int))
      · refine Ev.step (fun k => ?_) (ih (i + 1) (by omega) (fun j h => ?_))
        · simp only [impl_areAll_of_isRealm.l0, c1, c2, if_true, impl_isRealm_eq, Option.bind_some, e2]
          rw [decide_eq_true (by unfold ok3 at a1; omega), if_pos rfl]
        · by_cases hji : j = i
          · subst hji; exact a1
          · exact hj j (by omega)
      · refine Ev.step (f := fun _ => some false) (fun k => ?_) (ev_eq (Ev.now _) (allB_f (fun hp => a1 (hp.2 i hlt))).symm)
        simp only [impl_areAll_of_isRealm.l0, c1, c2, if_true, impl_isRealm_eq, Option.bind_some]
        rw [decide_eq_false (by unfold ok3 at a1; omega), if_neg (by decide)]
  unfold impl_areAll_of_isRealm.f
  exact loop l.length 0 (by omega) (fun j h => by omega)

theorem impl_areAll_of_isService_ev (l : List Int) (most : Int) (hl : l.length ≤ 1048576) : Ev (fun k => impl_areAll_of_isService.f k l most) (allB ok3 l most) := by
  have loop : ∀ d i : Nat, i + d = l.length → (∀ j, j < i → ok3 (rd l (j : Int))) → Ev (fun k => impl_areAll_of_isService.l0 k l most l (l.length : Int) (i : Int)) (allB ok3 l most) := by
    intro d
    induction d with
    | zero =>
      intro i hi hj
      refine Ev.step (f := fun _ => some (decide ((l.length : Int) ≤ most))) (fun k => ?_) (ev_eq (Ev.now _) ?_)
      · simp only [impl_areAll_of_isService.l0]
        rw [if_neg (by omega)]
      · by_cases h : (l.length : Int) ≤ most
        · rw [decide_eq_true h, allB_t ⟨h, fun j h => hj j (by omega)⟩]
        · rw [decide_eq_false h, allB_f (fun hp => h hp.1)]
    | succ d ih =>
      intro i hi hj
      have hlt : i < l.length := by omega
      have e2 : wrap64 ((i : Int) + 1) = ((i + 1 : Nat) : Int) := by rw [w64 (x := (i : Int) + 1) (by omega) (by omega)]; omega
      have c1 : (i : Int) < (l.length : Int) := by omega
      have c2 : 0 ≤ (i : Int) := by omega
      by_cases a1 : ok3 (rd l (i : Int))
      · refine Ev.step (fun k => ?_) (ih (i + 1) (by omega) (fun j h => ?_))
        · simp only [impl_areAll_of_isService.l0, c1, c2, if_true, impl_isService_eq, Option.bind_some, e2]
          rw [decide_eq_true (by unfold ok3 at a1; omega), if_pos rfl]
        · by_cases hji : j = i
          · subst hji; exact a1
          · exact hj j (by omega)
      · refine Ev.step (f := fun _ => some false) (fun k => ?_) (ev_eq (Ev.now _) (allB_f (fun hp => a1 (hp.2 i hlt))).symm)
        simp only [impl_areAll_of_isService.l0, c1, c2, if_true, impl_isService_eq, Option.bind_some]
        rw [decide_eq_false (by unfold ok3 at a1; omega), if_neg (by decide)]
  unfold impl_areAll_of_isService.f
  exact loop l.length 0 (by omega) (fun j h => by omega)

noncomputable def ticketB (c f i s o e : Int) (p v : List Int) : Bool := decide (0 ≤ c ∧ c < 6) && (forB f && (decide (1 ≤ i ∧ i ≤ 1000000) && (restB s o e && (allB ok3 p 6 && allB ok3 v 4))))
noncomputable def stS (c f i s o e : Int) (p v : List Int) (key : Int) : ByteArray := if ticketB c f i s o e p v = true then sealS key (listS [numsS [c, f], keyS i, srS s o e, numsS p, numsS v]) else ⟨#[]⟩
theorem ticketB_out {c f i s o e : Int} {p v : List Int} (h : ticketB c f i s o e p v = true) : (0 ≤ c ∧ c < 6) ∧ forB f = true ∧ (1 ≤ i ∧ i ≤ 1000000) ∧ restB s o e = true ∧ allP ok3 p 6 ∧ allP ok3 v 4 := by
  unfold ticketB at h
  simp only [Bool.and_eq_true, decide_eq_true_eq] at h
  exact ⟨h.1, h.2.1, h.2.2.1, h.2.2.2.1, allB_out h.2.2.2.2.1, allB_out h.2.2.2.2.2⟩
theorem stS_size (c f i s o e : Int) (p v : List Int) (k : Int) : (stS c f i s o e p v k).size ≤ 900 := by
  unfold stS; split
  · exact sealS_size _ _
  · decide

theorem impl_ticketOk_ev (c f i s o e : Int) (p v : List Int) (h0 : -9223372036854775808 ≤ f) (h1 : f ≤ 9223372036854775807) (hp : p.length ≤ 1048576) (hv : v.length ≤ 1048576) : Ev (fun k => impl_ticketOk.f k c f i s o e p v) (ticketB c f i s o e p v) := by
  unfold impl_ticketOk.f ticketB
  simp only [impl_isPrincipal_eq, impl_isFor_eq f h0 h1, impl_isKey_eq, impl_RestOk_eq, Option.bind_some]
  by_cases g1 : 0 ≤ c ∧ c < 6
  · rw [decide_eq_true g1]
    simp only [if_true, Bool.true_and]
    cases forB f with
    | false => simp only [Bool.false_and, Bool.false_eq_true, if_false]; exact Ev.now _
    | true =>
      simp only [if_true, Bool.true_and]
      by_cases g2 : 1 ≤ i ∧ i ≤ 1000000
      · rw [decide_eq_true g2]
        simp only [if_true, Bool.true_and]
        cases restB s o e with
        | false => simp only [Bool.false_and, Bool.false_eq_true, if_false]; exact Ev.now _
        | true =>
          simp only [if_true, Bool.true_and]
          refine Ev.bind (impl_areAll_of_isRealm_ev p 6 hp) ?_
          cases allB ok3 p 6 with
          | false => simp only [Bool.false_and, Bool.false_eq_true, if_false]; exact Ev.now _
          | true =>
            simp only [if_true, Bool.true_and]
            exact Ev.bind (impl_areAll_of_isService_ev v 4 hv) (Ev.now _)
      · rw [decide_eq_false g2]
        simp only [Bool.false_and, Bool.false_eq_true, if_false]; exact Ev.now _
  · rw [decide_eq_false g1]
    simp only [Bool.false_and, Bool.false_eq_true, if_false]; exact Ev.now _

theorem impl_Seal_ev (n : Int) (t : ByteArray) (ht : t.size ≤ 1000000000) : Ev (fun k => impl_Seal.f k n t) (sealS n t) := by
  have dead : Ev (fun k => impl_Seal.j0 k n t true) (⟨#[]⟩ : ByteArray) := by
    refine Ev.step (f := fun _ => some (⟨#[]⟩ : ByteArray)) (fun k => ?_) (Ev.now _)
    simp [impl_Seal.j0]
  unfold impl_Seal.f
  refine Ev.bind (impl_TermOk_ev t (by omega)) ?_
  have ho : termB (bl t) = okS t := rfl
  rw [ho]
  unfold sealS
  by_cases h1 : okS t = true
  · simp only [h1, if_true, impl_isKey_eq, Option.bind_some, true_and]
    by_cases h2 : 1 ≤ n ∧ n ≤ 1000000
    · rw [if_pos h2, decide_eq_true h2]
      have h7 := @var_size n
      have h1 : (⟨#[115]⟩ : ByteArray).size = 1 := rfl
      have a1 : 1 + (varS n).size ≤ 9223372036854775807 := by omega
      have a2 : ((⟨#[115]⟩ : ByteArray) ++ varS n).size + t.size ≤ 9223372036854775807 := by rw [ByteArray.size_append]; omega
      refine Ev.step (fun k => by simp only [impl_Seal.j0]; rw [if_neg (by decide)]) (Ev.bind (impl_Var_ev n) ?_)
      simp only [a1, a2, if_true]
      exact Ev.bind (impl_term_ev _ (by rw [ByteArray.size_append, ByteArray.size_append]; omega)) (ev_eq (Ev.now _) rfl)
    · rw [if_neg h2, decide_eq_false h2]
      exact dead
  · simp only [h1, false_and, if_false]
    exact dead

theorem impl_KeyTerm_ev (n : Int) : Ev (fun k => impl_KeyTerm.f k n) (keyS n) := by
  unfold impl_KeyTerm.f
  refine Ev.bind (impl_Var_ev n) ?_
  have h7 := @var_size n
  have hle : 1 + (varS n).size ≤ 9223372036854775807 := by omega
  simp only [hle, if_true]
  refine Ev.bind (impl_term_ev _ (by rw [ByteArray.size_append]; have : (⟨#[107]⟩ : ByteArray).size = 1 := rfl; omega)) (ev_eq (Ev.now _) ?_)
  unfold termS keyS
  rw [key_ok]
  by_cases h : 1 ≤ n ∧ n ≤ 1000000
  · rw [decide_eq_true h, if_pos rfl, if_pos h]
  · rw [decide_eq_false h, if_neg (by decide), if_neg h]

theorem impl_ShowTicket_ev (c f i s o e : Int) (p v : List Int) (key : Int) (h0 : -9223372036854775808 ≤ f) (h1 : f ≤ 9223372036854775807) (hp : p.length ≤ 1048576) (hv : v.length ≤ 1048576) : Ev (fun k => impl_ShowTicket.f k c f i s o e p v key) (stS c f i s o e p v key) := by
  unfold impl_ShowTicket.f stS
  refine Ev.bind (impl_ticketOk_ev c f i s o e p v h0 h1 hp hv) ?_
  by_cases h : ticketB c f i s o e p v = true
  · simp only [h, if_true]
    have s1 := numsS_size [c, f]
    have s2 := keyS_size i
    have s3 := srS_size s o e
    have s4 := numsS_size p
    have s5 := numsS_size v
    have s6 := listS_size [numsS [c, f], keyS i, srS s o e, numsS p, numsS v]
    refine Ev.bind (impl_Nums_ev _ (by simp)) (Ev.bind (impl_KeyTerm_ev i) (Ev.bind (impl_ShowRest_ev s o e) (Ev.bind (impl_Nums_ev p (by omega)) (Ev.bind (impl_Nums_ev v (by omega)) (Ev.bind (impl_List_ev _ (by simp) (fun q hq => ?_)) (Ev.bind (impl_Seal_ev _ _ (by omega)) (Ev.now _)))))))
    simp only [List.mem_cons, List.not_mem_nil, or_false] at hq
    rcases hq with rfl | rfl | rfl | rfl | rfl <;> omega
  · simp only [h, Bool.false_eq_true, if_false]
    exact Ev.now _

theorem impl_isOf_ev (s : ByteArray) (hs : s.size ≤ 140737488355327) (c : Nat) : Ev (fun k => impl_isOf.f k s (c : Int)) (isK s c) := by
  unfold impl_isOf.f
  refine Ev.bind (impl_TermOk_ev s hs) ?_
  have ho : termB (bl s) = okS s := rfl
  rw [ho]
  unfold isK
  by_cases h : okS s = true
  · have hz := okS_size h
    have h0 : 0 < (s.size : Int) := by omega
    have hl : 0 < (bl s).length := by rw [bl_len]; omega
    simp only [h, if_true, h0, Bool.true_and]
    refine ev_eq (Ev.now _) ?_
    have hb : bt s 0 = (((bl s)[0] : Nat) : Int) := bt_get s 0 hl
    rw [hb]
    have hh : (bl s).headD 0 = (bl s)[0] := headD_get _ hl
    rw [hh, Bool.eq_iff_iff]
    simp
    omega
  · simp only [h]
    exact Ev.now _

theorem impl_Parts_loop (s : ByteArray) (hs : s.size ≤ 140737488355327) (n : Nat) (r : Nat) : ∀ (i a q : Nat) (acc : List ByteArray), i + r = n → n ≤ 1000 → acc.length = i → a ≤ s.size → many (parse 8) r ((bl s).drop a) = some q →
    Ev (fun k => impl_Parts.l0 k s (a : Int) acc (n : Int) (i : Int)) (acc ++ spl s r a, true) := by
  induction r with
  | zero =>
    intro i a q acc hi hn ha has hm
    refine Ev.step (f := fun _ => some (acc, true)) (fun k => ?_) (ev_eq (Ev.now _) ?_)
    · simp only [impl_Parts.l0]; rw [if_neg (by omega)]
    · simp [spl]
  | succ r ih =>
    intro i a q acc hi hn ha has hm
    rw [many_succ] at hm
    cases hp : parse 8 ((bl s).drop a) with
    | none => rw [hp] at hm; cases hm
    | some m =>
      rw [hp] at hm
      simp only [] at hm
      have hle := parse_le 8 _ _ hp
      rw [List.length_drop, bl_len] at hle
      cases hq : many (parse 8) r (((bl s).drop a).drop m) with
      | none => rw [hq] at hm; cases hm
      | some q' =>
        rw [List.drop_drop] at hq
        have hr := ih (i + 1) (a + m) q' (acc ++ [s.extract a (a + m)]) (by omega) hn (by simp; omega) (by omega) hq
        have ht := impl_termAt_ev s hs 8 a (by decide) has
        rw [hp] at ht
        have hw : Aside0 (wrap64 ((i : Int) + 1) = ((i + 1 : Nat) : Int)) := ⟨by rw [w64 (by omega) (by omega)]; omega⟩
        refine Ev.step (f := fun k => (impl_termAt.f k s (a : Int) ((8 : Nat) : Int)).bind fun t166 => (if 0 ≤ (a : Int) then (if (a : Int) ≤ t166 then (if t166 ≤ (s.size : Int) then (if acc.length < 8796093022208 then (impl_Parts.l0 k s t166 (acc ++ [s.extract (a : Int).toNat (t166 : Int).toNat]) (n : Int) ((i + 1 : Nat) : Int)) else (none)) else (none)) else (none)) else (none))) (fun k => ?_) (Ev.bind ht ?_)
        · simp only [impl_Parts.l0]; rw [if_pos (by omega), hw.out]; rfl
        · have a1 : (a : Int) ≤ ((a + m : Nat) : Int) := by omega
          have a2 : ((a + m : Nat) : Int) ≤ (s.size : Int) := by omega
          have a3 : acc.length < 8796093022208 := by omega
          have a0 : 0 ≤ (a : Int) := by omega
          simp only [tA, a0, a1, a2, a3, if_true, Int.toNat_natCast]
          refine ev_eq hr ?_
          rw [spl, hp]; simp
theorem impl_Parts_ev (s : ByteArray) (hs : s.size ≤ 140737488355327) : Ev (fun k => impl_Parts.f k s) (partsS s) := by
  unfold impl_Parts.f
  refine Ev.bind (impl_isOf_ev s hs 108) ?_
  unfold partsS
  by_cases h : isK s 108 = true
  · have ho := isK_ok h
    have hr := okS_rv ho
    obtain ⟨h12, q, hq⟩ := list_cases h
    simp only [h, if_true]
    refine Ev.bind (impl_varAt_ev s hs 1 (okS_size ho).1) ?_
    rw [okS_vA ho]
    exact impl_Parts_loop s hs (nOf s) (nOf s) 0 (1 + kOf s) q [] (by omega) (by omega) rfl (by omega) hq
  · simp only [h]
    exact Ev.now _

theorem impl_ReadAtom_ev (s : ByteArray) (hs : s.size ≤ 140737488355327) : Ev (fun k => impl_ReadAtom.f k s) (raS s) := by
  unfold impl_ReadAtom.f
  refine Ev.bind (impl_isOf_ev s hs 97) ?_
  unfold raS
  by_cases h : isK s 97 = true
  · have ho := isK_ok h
    have hr := okS_rv ho
    simp only [h, if_true]
    refine Ev.bind (impl_varAt_ev s hs 1 (okS_size ho).1) ?_
    rw [okS_vA ho]
    have a1 : 0 ≤ ((1 + kOf s : Nat) : Int) := by omega
    have a2 : ((1 + kOf s : Nat) : Int) ≤ (s.size : Int) := by omega
    simp only [a1, a2, if_true, Int.toNat_natCast]
    exact Ev.now _
  · simp only [h]
    exact Ev.now _

theorem impl_ReadNum_ev (s : ByteArray) (hs : s.size ≤ 140737488355327) : Ev (fun k => impl_ReadNum.f k s) (rnS s) := by
  unfold impl_ReadNum.f
  refine Ev.bind (impl_ReadAtom_ev s hs) ?_
  have hz : (raS s).1.size ≤ 140737488355327 := by
    unfold raS; split
    · rw [ByteArray.size_extract]; omega
    · decide
  refine Ev.bind (impl_ReadVar_ev _ hz) ?_
  by_cases h1 : (raS s).2 = true
  · by_cases h2 : (rvI (bl (raS s).1)).2 = 0
    · have e : rnS s = (0, false) := by unfold rnS; rw [if_neg (fun e => e.2.1 h2)]
      rw [e]
      simp only [h1, h2, if_true]; exact Ev.now _
    · by_cases h3 : (rvI (bl (raS s).1)).2 = ((raS s).1.size : Int)
      · have e : rnS s = ((rvI (bl (raS s).1)).1, true) := by unfold rnS; rw [if_pos ⟨h1, h2, h3⟩]
        rw [e]
        simp only [h1, h2, if_true, if_false]
        simp only [h3, if_true]; exact Ev.now _
      · have e : rnS s = (0, false) := by unfold rnS; rw [if_neg (fun e => h3 e.2.2)]
        rw [e]
        simp only [h1, h2, if_true, if_false]
        simp only [h3, if_false]; exact Ev.now _
  · have e : rnS s = (0, false) := by unfold rnS; rw [if_neg (fun e => h1 e.1)]
    rw [e]
    simp only [h1]
    exact Ev.now _

theorem impl_ReadNums_loop (ps : List ByteArray) (hl : ps.length ≤ 12) (hp : ∀ p ∈ ps, p.size ≤ 900) (d : Nat) : ∀ (i : Nat), i + d = ps.length →
    Ev (fun k => impl_ReadNums.l0 k ((ps.take i).map fun p => (rnS p).1) ps (ps.length : Int) (i : Int)) (if ((ps.drop i).all fun p => (rnS p).2) = true then (ps.map fun p => (rnS p).1, true) else ([], false)) := by
  induction d with
  | zero =>
    intro i hi
    rw [List.drop_of_length_le (by omega), List.take_of_length_le (by omega)]
    simp only [List.all_nil, if_true]
    refine Ev.step (f := fun _ => some (ps.map fun p => (rnS p).1, true)) (fun k => ?_) (Ev.now _)
    simp only [impl_ReadNums.l0]; rw [if_neg (by omega)]
  | succ d ih =>
    intro i hi
    have hlt : i < ps.length := by omega
    have hcons : ps.drop i = ps[i] :: ps.drop (i + 1) := List.drop_eq_getElem_cons hlt
    have hsz := hp _ (List.getElem_mem hlt)
    have hw : Aside0 (wrap64 ((i : Int) + 1) = ((i + 1 : Nat) : Int)) := ⟨by rw [w64 (by omega) (by omega)]; omega⟩
    refine Ev.step (f := fun k => (impl_ReadNum.f k ps[i]).bind fun t => (if t.2 = true then (if ((ps.take i).map fun p => (rnS p).1).length < 17592186044416 then impl_ReadNums.l0 k ((ps.take i).map (fun p => (rnS p).1) ++ [t.1]) ps (ps.length : Int) ((i + 1 : Nat) : Int) else none) else some (([] : List Int), false))) (fun k => ?_) (Ev.bind (impl_ReadNum_ev ps[i] (by omega)) ?_)
    · simp only [impl_ReadNums.l0]; rw [if_pos (by omega), if_pos (by omega), if_pos (by omega), rdOf_get ps i hlt, hw.out]
    · rw [hcons, List.all_cons]
      by_cases h : (rnS ps[i]).2 = true
      · have hr := ih (i + 1) (by omega)
        have hlen : ((ps.take i).map fun p => (rnS p).1).length < 17592186044416 := by rw [List.length_map, List.length_take]; omega
        simp only [h, hlen, if_true, Bool.true_and]
        rw [List.take_succ_eq_append_getElem hlt, List.map_append] at hr
        exact hr
      · rw [Bool.eq_false_iff.mpr h, Bool.false_and]
        simp only [Bool.false_eq_true, if_false]
        exact Ev.now _
theorem impl_ReadNums_ev (s : ByteArray) (hs : s.size ≤ 140737488355327) : Ev (fun k => impl_ReadNums.f k s) (rnsS s) := by
  unfold impl_ReadNums.f
  refine Ev.bind (impl_Parts_ev s hs) ?_
  unfold rnsS
  by_cases h : (partsS s).2 = true
  · simp only [h, if_true, true_and]
    refine ev_eq (impl_ReadNums_loop _ (partsS_len s) (fun p hp => mem_parts hp) (partsS s).1.length 0 (by omega)) ?_
    rw [List.drop_zero]
  · have h' : ¬ ((partsS s).2 = true ∧ ((partsS s).1.all fun p => (rnS p).2) = true) := fun e => h e.1
    rw [if_neg h']
    simp only [h]
    exact Ev.now _

theorem impl_ReadRest_ev (s : ByteArray) (hs : s.size ≤ 140737488355327) : Ev (fun k => impl_ReadRest.f k s) (rrS s) := by
  have dead : ∀ l, Ev (fun k => impl_ReadRest.j0 k l true) (0, 0, 0, false) := by
    intro l
    refine Ev.step (f := fun _ => some (0, 0, 0, false)) (fun k => ?_) (Ev.now _)
    simp [impl_ReadRest.j0]
  unfold impl_ReadRest.f
  refine Ev.bind (impl_ReadNums_ev s hs) ?_
  unfold rrS
  cases h2 : (rnsS s).2 with
  | false =>
    simp only [Bool.false_eq_true, if_false]
    refine ev_eq (dead _) ?_
    split
    · rename_i e; cases e
    · rfl
  | true =>
    simp only [if_true]
    cases hl : (rnsS s).1 with
    | nil => exact dead _
    | cons a t1 =>
      cases t1 with
      | nil => exact dead _
      | cons b t2 =>
        cases t2 with
        | nil => exact dead _
        | cons c t3 =>
          cases t3 with
          | nil =>
            refine Ev.step (f := fun _ => some (if restB a b c = true then (a, b, c, true) else (0, 0, 0, false))) (fun k => ?_) (Ev.now _)
            have r0 : rd [a, b, c] 0 = a := rfl
            have r1 : rd [a, b, c] 1 = b := rfl
            have r2 : rd [a, b, c] 2 = c := rfl
            simp only [impl_ReadRest.j0, r0, r1, r2, impl_RestOk_eq, Option.bind_some]
            rw [if_neg (by simp), if_pos (by simp), if_pos (by simp), if_pos (by simp)]
            split <;> rfl
          | cons d t4 =>
            have e : (((a :: b :: c :: d :: t4).length : Int) != 3) = true := by
              rw [bne_iff_ne]; simp only [List.length_cons]; omega
            rw [e]
            exact dead _

noncomputable def sdS (s : ByteArray) : Int × ByteArray × Bool := if isK s 115 = true then ((nOf s : Int), s.extract (1 + kOf s) s.size, true) else (0, ⟨#[]⟩, false)
theorem impl_sealed_ev (s : ByteArray) (hs : s.size ≤ 140737488355327) : Ev (fun k => impl_sealed.f k s) (sdS s) := by
  unfold impl_sealed.f
  refine Ev.bind (impl_isOf_ev s hs 115) ?_
  unfold sdS
  by_cases h : isK s 115 = true
  · have ho := isK_ok h
    have hr := okS_rv ho
    simp only [h, if_true]
    refine Ev.bind (impl_varAt_ev s hs 1 (okS_size ho).1) ?_
    rw [okS_vA ho]
    have a1 : 0 ≤ ((1 + kOf s : Nat) : Int) := by omega
    have a2 : ((1 + kOf s : Nat) : Int) ≤ (s.size : Int) := by omega
    simp only [a1, a2, if_true, Int.toNat_natCast]
    exact Ev.now _
  · simp only [h]
    exact Ev.now _

theorem impl_Open_ev (s : ByteArray) (hs : s.size ≤ 140737488355327) (n : Int) : Ev (fun k => impl_Open.f k s n) (opS s n) := by
  unfold impl_Open.f
  refine Ev.bind (impl_sealed_ev s hs) ?_
  unfold sdS opS
  by_cases h : isK s 115 = true
  · simp only [h, if_true, true_and]
    by_cases hn : (nOf s : Int) = n
    · simp only [hn, if_true]; exact Ev.now _
    · simp only [hn, if_false]; exact Ev.now _
  · simp only [h]
    exact Ev.now _

theorem impl_ReadKey_ev (s : ByteArray) (hs : s.size ≤ 140737488355327) : Ev (fun k => impl_ReadKey.f k s) (rkS s) := by
  unfold impl_ReadKey.f
  refine Ev.bind (impl_isOf_ev s hs 107) ?_
  unfold rkS
  by_cases h : isK s 107 = true
  · have ho := isK_ok h
    simp only [h, if_true]
    refine Ev.bind (impl_varAt_ev s hs 1 (okS_size ho).1) ?_
    rw [okS_vA ho]
    exact Ev.now _
  · simp only [h]
    exact Ev.now _

def grantB (i f t s o e : Int) : Bool := decide (1 ≤ i ∧ i ≤ 1000000) && (forB f && (decide (0 ≤ t ∧ t ≤ 1000000) && restB s o e))
noncomputable def sgS (i f t s o e k : Int) : ByteArray := if grantB i f t s o e = true then sealS k (listS [keyS i, numsS [f, t], srS s o e]) else ⟨#[]⟩

noncomputable def rgS (s : ByteArray) (key : Int) : Int × Int × Int × Int × Int × Int × Bool := match (partsS (opS s key).1).1 with
  | [p, q, r] => match (rnsS q).1 with
    | [f, t] => if (rkS p).2 = true ∧ (rnsS q).2 = true ∧ (rrS r).2.2.2 = true ∧ grantB (rkS p).1 f t (rrS r).1 (rrS r).2.1 (rrS r).2.2.1 = true then ((rkS p).1, f, t, (rrS r).1, (rrS r).2.1, (rrS r).2.2.1, true) else (0, 0, 0, 0, 0, 0, false)
    | _ => (0, 0, 0, 0, 0, 0, false)
  | _ => (0, 0, 0, 0, 0, 0, false)
theorem rgS_len {s : ByteArray} {key : Int} (h : ¬ (partsS (opS s key).1).1.length = 3) : rgS s key = (0, 0, 0, 0, 0, 0, false) := by
  unfold rgS
  split
  · rename_i hl; rw [hl] at h; exact absurd rfl h
  · rfl
theorem rgS_len2 {s : ByteArray} {key : Int} {p q r : ByteArray} (hl : (partsS (opS s key).1).1 = [p, q, r]) (h : ¬ (rnsS q).1.length = 2) : rgS s key = (0, 0, 0, 0, 0, 0, false) := by
  unfold rgS
  rw [hl]
  simp only []
  split
  · rename_i hl; rw [hl] at h; exact absurd rfl h
  · rfl
theorem rgS_in {s : ByteArray} {key : Int} {p q r : ByteArray} {f t : Int} (hl : (partsS (opS s key).1).1 = [p, q, r]) (h : (rnsS q).1 = [f, t]) : rgS s key = if (rkS p).2 = true ∧ (rnsS q).2 = true ∧ (rrS r).2.2.2 = true ∧ grantB (rkS p).1 f t (rrS r).1 (rrS r).2.1 (rrS r).2.2.1 = true then ((rkS p).1, f, t, (rrS r).1, (rrS r).2.1, (rrS r).2.2.1, true) else (0, 0, 0, 0, 0, 0, false) := by
  unfold rgS
  rw [hl]
  simp only []
  rw [h]
theorem rgS_bad {s : ByteArray} {key : Int} {p q r : ByteArray} (hl : (partsS (opS s key).1).1 = [p, q, r]) (h : ¬ ((rkS p).2 = true ∧ (rnsS q).2 = true ∧ (rrS r).2.2.2 = true)) : rgS s key = (0, 0, 0, 0, 0, 0, false) := by
  by_cases h2 : (rnsS q).1.length = 2
  · obtain ⟨f, t, e⟩ : ∃ f t, (rnsS q).1 = [f, t] := by
      match (rnsS q).1, h2 with
      | [f, t], _ => exact ⟨f, t, rfl⟩
    rw [rgS_in hl e, if_neg (fun hh => h ⟨hh.1, hh.2.1, hh.2.2.1⟩)]
  · exact rgS_len2 hl h2
theorem isK_nil (c : Nat) : isK (⟨#[]⟩ : ByteArray) c = false := by
  cases h : isK (⟨#[]⟩ : ByteArray) c with
  | false => rfl
  | true => have := isK_ok h; rw [empty_not_ok] at this; cases this
theorem parts_nil : partsS (⟨#[]⟩ : ByteArray) = ([], false) := by
  unfold partsS; rw [if_neg (by rw [isK_nil]; decide)]
theorem op_nil (key : Int) : opS (⟨#[]⟩ : ByteArray) key = (⟨#[]⟩, false) := by
  unfold opS; rw [if_neg (by rw [isK_nil]; simp)]
theorem rr_true {r : ByteArray} (h : (rrS r).2.2.2 = true) : srS (rrS r).1 (rrS r).2.1 (rrS r).2.2.1 = r := by
  by_cases hb : (rnsS r).2 = true
  · by_cases hl : (rnsS r).1.length = 3
    · obtain ⟨a, b, c, e⟩ : ∃ a b c, (rnsS r).1 = [a, b, c] := by
        match (rnsS r).1, hl with
        | [a, b, c], _ => exact ⟨a, b, c, rfl⟩
      by_cases hr : restB a b c = true
      · have e2 : rrS r = (a, b, c, true) := by unfold rrS; rw [e, hb]; simp only []; rw [if_pos hr]
        rw [e2]
        show srS a b c = r
        unfold srS
        rw [if_pos hr]
        exact (read_nums (Prod.ext e hb)).1
      · have e2 : rrS r = (0, 0, 0, false) := by unfold rrS; rw [e, hb]; simp only []; rw [if_neg hr]
        rw [e2] at h; cases h
    · have e2 : rrS r = (0, 0, 0, false) := by
        unfold rrS
        split
        · rename_i hl' _; rw [hl'] at hl; exact absurd rfl hl
        · rfl
      rw [e2] at h; cases h
  · have e2 : rrS r = (0, 0, 0, false) := by
      unfold rrS
      split
      · rename_i hb'; rw [hb'] at hb; exact absurd rfl hb
      · rfl
    rw [e2] at h; cases h
theorem rr_read {a b c : Int} (h : restB a b c = true) (hk : okS (srS a b c) = true) : rrS (srS a b c) = (a, b, c, true) := by
  unfold srS at hk ⊢
  rw [if_pos h] at hk ⊢
  have hne : numsS [a, b, c] ≠ (⟨#[]⟩ : ByteArray) := by intro e; rw [e, empty_not_ok] at hk; cases hk
  unfold rrS
  rw [(nums_read hne).1]
  simp only []
  rw [if_pos h]
theorem rg_iff {s : ByteArray} {key : Int} {p q r : ByteArray} {f t : Int} (hl : (partsS (opS s key).1).1 = [p, q, r]) (hn : (rnsS q).1 = [f, t]) : sgS (rkS p).1 f t (rrS r).1 (rrS r).2.1 (rrS r).2.2.1 key = s ↔ ((rkS p).2 = true ∧ (rnsS q).2 = true ∧ (rrS r).2.2.2 = true ∧ grantB (rkS p).1 f t (rrS r).1 (rrS r).2.1 (rrS r).2.2.1 = true) := by
  have hs0 : s ≠ (⟨#[]⟩ : ByteArray) := by
    intro e
    rw [e, op_nil, parts_nil] at hl
    cases hl
  constructor
  · intro h
    unfold sgS at h
    split at h
    · rename_i hg
      have hne : sealS key (listS [keyS (rkS p).1, numsS [f, t], srS (rrS r).1 (rrS r).2.1 (rrS r).2.2.1]) ≠ (⟨#[]⟩ : ByteArray) := by rw [h]; exact hs0
      obtain ⟨g1, _, g3, _, _⟩ := seal_read hne
      rw [h] at g1
      have hln : listS [keyS (rkS p).1, numsS [f, t], srS (rrS r).1 (rrS r).2.1 (rrS r).2.2.1] ≠ (⟨#[]⟩ : ByteArray) := by
        intro e; rw [e, empty_not_ok] at g3; cases g3
      obtain ⟨k1, _, _, k4⟩ := list_read hln
      rw [g1] at hl
      simp only [] at hl
      rw [k1] at hl
      simp only [List.cons.injEq, and_true] at hl
      obtain ⟨e1, e2, e3⟩ := hl
      have hg' := hg
      unfold grantB at hg'
      simp only [Bool.and_eq_true, decide_eq_true_eq] at hg'
      have o2 : okS (numsS [f, t]) = true := k4 _ (by simp)
      have o3 : okS (srS (rrS r).1 (rrS r).2.1 (rrS r).2.2.1) = true := k4 _ (by simp)
      have n2 : numsS [f, t] ≠ (⟨#[]⟩ : ByteArray) := by intro e; rw [e, empty_not_ok] at o2; cases o2
      refine ⟨?_, ?_, ?_, hg⟩
      · have := (key_read hg'.1).1
        rw [e1] at this
        rw [this]
      · have := (nums_read n2).1
        rw [e2] at this
        rw [this]
      · have := rr_read hg'.2.2.2 o3
        rw [e3] at this
        rw [this]
    · exact absurd h.symm hs0
  · rintro ⟨h1, h2, h3, h4⟩
    have a1 : keyS (rkS p).1 = p := (read_key (s := p) (n := (rkS p).1) (by rw [← h1])).1
    have a2 : numsS [f, t] = q := (read_nums (Prod.ext hn h2)).1
    have a3 := rr_true h3
    have hpt : (partsS (opS s key).1).2 = true := by
      cases h : (partsS (opS s key).1).2 with
      | true => rfl
      | false =>
        exfalso
        unfold partsS at h hl
        split at h
        · cases h
        · rename_i hh; rw [if_neg hh] at hl; cases hl
    have a4 : listS [p, q, r] = (opS s key).1 := (read_list (Prod.ext hl hpt)).1
    have hop : (opS s key).2 = true := by
      cases h : (opS s key).2 with
      | true => rfl
      | false =>
        exfalso
        have : (opS s key).1 = (⟨#[]⟩ : ByteArray) := by
          unfold opS at h ⊢
          split at h
          · cases h
          · rename_i hh; rw [if_neg hh]
        rw [this, parts_nil] at hl
        cases hl
    have a5 : sealS key (opS s key).1 = s := (read_seal (s := s) (t := (opS s key).1) (k := key) (by rw [← hop])).1
    unfold sgS
    rw [if_pos h4, a1, a2, a3, a4, a5]

noncomputable def rtNo : Int × Int × Int × Int × Int × Int × List Int × List Int × Bool := (0, 0, 0, 0, 0, 0, [], [], false)
noncomputable def rtS (s : ByteArray) (key : Int) : Int × Int × Int × Int × Int × Int × List Int × List Int × Bool := match (partsS (opS s key).1).1 with
  | [w, i, r, p, v] => match (rnsS w).1 with
    | [c, f] => if (rnsS w).2 = true ∧ (rkS i).2 = true ∧ (rrS r).2.2.2 = true ∧ (rnsS p).2 = true ∧ (rnsS v).2 = true ∧ ticketB c f (rkS i).1 (rrS r).1 (rrS r).2.1 (rrS r).2.2.1 (rnsS p).1 (rnsS v).1 = true then (c, f, (rkS i).1, (rrS r).1, (rrS r).2.1, (rrS r).2.2.1, (rnsS p).1, (rnsS v).1, true) else rtNo
    | _ => rtNo
  | _ => rtNo
theorem rtS_len {s : ByteArray} {key : Int} (h : ¬ (partsS (opS s key).1).1.length = 5) : rtS s key = rtNo := by
  unfold rtS
  split
  · rename_i hl; rw [hl] at h; exact absurd rfl h
  · rfl
theorem rtS_len2 {s : ByteArray} {key : Int} {w i r p v : ByteArray} (hl : (partsS (opS s key).1).1 = [w, i, r, p, v]) (h : ¬ (rnsS w).1.length = 2) : rtS s key = rtNo := by
  unfold rtS
  rw [hl]
  simp only []
  split
  · rename_i hl; rw [hl] at h; exact absurd rfl h
  · rfl
theorem rtS_in {s : ByteArray} {key : Int} {w i r p v : ByteArray} {c f : Int} (hl : (partsS (opS s key).1).1 = [w, i, r, p, v]) (h : (rnsS w).1 = [c, f]) : rtS s key = if (rnsS w).2 = true ∧ (rkS i).2 = true ∧ (rrS r).2.2.2 = true ∧ (rnsS p).2 = true ∧ (rnsS v).2 = true ∧ ticketB c f (rkS i).1 (rrS r).1 (rrS r).2.1 (rrS r).2.2.1 (rnsS p).1 (rnsS v).1 = true then (c, f, (rkS i).1, (rrS r).1, (rrS r).2.1, (rrS r).2.2.1, (rnsS p).1, (rnsS v).1, true) else rtNo := by
  unfold rtS
  rw [hl]
  simp only []
  rw [h]
theorem rtS_bad {s : ByteArray} {key : Int} {w i r p v : ByteArray} (hl : (partsS (opS s key).1).1 = [w, i, r, p, v]) (h : ¬ ((rnsS w).2 = true ∧ (rkS i).2 = true ∧ (rrS r).2.2.2 = true ∧ (rnsS p).2 = true ∧ (rnsS v).2 = true)) : rtS s key = rtNo := by
  by_cases h2 : (rnsS w).1.length = 2
  · obtain ⟨c, f, e⟩ : ∃ c f, (rnsS w).1 = [c, f] := by
      match (rnsS w).1, h2 with
      | [c, f], _ => exact ⟨c, f, rfl⟩
    rw [rtS_in hl e, if_neg (fun hh => h ⟨hh.1, hh.2.1, hh.2.2.1, hh.2.2.2.1, hh.2.2.2.2.1⟩)]
  · exact rtS_len2 hl h2
theorem rnsS_le (s : ByteArray) : (rnsS s).1.length ≤ 12 := by
  unfold rnsS; split
  · simpa using partsS_len s
  · simp
theorem rtS_lens (s : ByteArray) (key : Int) : (rtS s key).2.2.2.2.2.2.1.length ≤ 12 ∧ (rtS s key).2.2.2.2.2.2.2.1.length ≤ 12 := by
  unfold rtS
  split
  · rename_i w i r p v hl
    split
    · split
      · exact ⟨rnsS_le p, rnsS_le v⟩
      · exact ⟨by simp [rtNo], by simp [rtNo]⟩
    · exact ⟨by simp [rtNo], by simp [rtNo]⟩
  · exact ⟨by simp [rtNo], by simp [rtNo]⟩
theorem rns_true {q : ByteArray} {l : List Int} (h : numsS l = q) (hk : okS q = true) : rnsS q = (l, true) := by
  have n : numsS l ≠ (⟨#[]⟩ : ByteArray) := by
    intro e
    rw [h] at e
    rw [e, empty_not_ok] at hk
    cases hk
  have := (nums_read n).1
  rw [h] at this
  exact this
theorem rt_iff {s : ByteArray} {key : Int} {w i r p v : ByteArray} {c f : Int} (hl : (partsS (opS s key).1).1 = [w, i, r, p, v]) (hn : (rnsS w).1 = [c, f]) : stS c f (rkS i).1 (rrS r).1 (rrS r).2.1 (rrS r).2.2.1 (rnsS p).1 (rnsS v).1 key = s ↔ ((rnsS w).2 = true ∧ (rkS i).2 = true ∧ (rrS r).2.2.2 = true ∧ (rnsS p).2 = true ∧ (rnsS v).2 = true ∧ ticketB c f (rkS i).1 (rrS r).1 (rrS r).2.1 (rrS r).2.2.1 (rnsS p).1 (rnsS v).1 = true) := by
  have hs0 : s ≠ (⟨#[]⟩ : ByteArray) := by
    intro e
    rw [e, op_nil, parts_nil] at hl
    cases hl
  constructor
  · intro h
    unfold stS at h
    split at h
    · rename_i hg
      have hne : sealS key (listS [numsS [c, f], keyS (rkS i).1, srS (rrS r).1 (rrS r).2.1 (rrS r).2.2.1, numsS (rnsS p).1, numsS (rnsS v).1]) ≠ (⟨#[]⟩ : ByteArray) := by rw [h]; exact hs0
      obtain ⟨g1, _, g3, _, _⟩ := seal_read hne
      rw [h] at g1
      have hln : listS [numsS [c, f], keyS (rkS i).1, srS (rrS r).1 (rrS r).2.1 (rrS r).2.2.1, numsS (rnsS p).1, numsS (rnsS v).1] ≠ (⟨#[]⟩ : ByteArray) := by
        intro e; rw [e, empty_not_ok] at g3; cases g3
      obtain ⟨k1, _, _, k4⟩ := list_read hln
      rw [g1] at hl
      simp only [] at hl
      rw [k1] at hl
      simp only [List.cons.injEq, and_true] at hl
      obtain ⟨e1, e2, e3, e4, e5⟩ := hl
      have hg' := ticketB_out hg
      have o1 : okS (numsS [c, f]) = true := k4 _ (by simp)
      have o3 : okS (srS (rrS r).1 (rrS r).2.1 (rrS r).2.2.1) = true := k4 _ (by simp)
      have o4 : okS (numsS (rnsS p).1) = true := k4 _ (by simp)
      have o5 : okS (numsS (rnsS v).1) = true := k4 _ (by simp)
      refine ⟨?_, ?_, ?_, ?_, ?_, hg⟩
      · have := rns_true e1 (by rw [← e1]; exact o1)
        rw [this]
      · have := (key_read hg'.2.2.1).1
        rw [e2] at this
        rw [this]
      · have := rr_read hg'.2.2.2.1 o3
        rw [e3] at this
        rw [this]
      · have := rns_true e4 (by rw [← e4]; exact o4)
        rw [this]
      · have := rns_true e5 (by rw [← e5]; exact o5)
        rw [this]
    · exact absurd h.symm hs0
  · rintro ⟨h1, h2, h3, h4, h5, h6⟩
    have a1 : numsS [c, f] = w := (read_nums (Prod.ext hn h1)).1
    have a2 : keyS (rkS i).1 = i := (read_key (s := i) (n := (rkS i).1) (by rw [← h2])).1
    have a3 := rr_true h3
    have a4 : numsS (rnsS p).1 = p := (read_nums (Prod.ext rfl h4)).1
    have a5 : numsS (rnsS v).1 = v := (read_nums (Prod.ext rfl h5)).1
    have hpt : (partsS (opS s key).1).2 = true := by
      cases h : (partsS (opS s key).1).2 with
      | true => rfl
      | false =>
        exfalso
        unfold partsS at h hl
        split at h
        · cases h
        · rename_i hh; rw [if_neg hh] at hl; cases hl
    have a6 : listS [w, i, r, p, v] = (opS s key).1 := (read_list (Prod.ext hl hpt)).1
    have hop : (opS s key).2 = true := by
      cases h : (opS s key).2 with
      | true => rfl
      | false =>
        exfalso
        have : (opS s key).1 = (⟨#[]⟩ : ByteArray) := by
          unfold opS at h ⊢
          split at h
          · cases h
          · rename_i hh; rw [if_neg hh]
        rw [this, parts_nil] at hl
        cases hl
    have a7 : sealS key (opS s key).1 = s := (read_seal (s := s) (t := (opS s key).1) (k := key) (by rw [← hop])).1
    unfold stS
    rw [if_pos h6, a1, a2, a3, a4, a5, a6, a7]

theorem impl_ReadTicket_ev (s : ByteArray) (hs : s.size ≤ 1073741824) (key : Int) : Ev (fun k => impl_ReadTicket.f k s key) (rtS s key) := by
  have ho := opS_size s key
  unfold impl_ReadTicket.f
  refine Ev.bind (impl_Open_ev s (by omega) key) (Ev.bind (impl_Parts_ev _ (by omega)) ?_)
  by_cases h3 : (partsS (opS s key).1).1.length = 5
  · obtain ⟨w, i, r, p, v, hl⟩ : ∃ w i r p v, (partsS (opS s key).1).1 = [w, i, r, p, v] := by
      match (partsS (opS s key).1).1, h3 with
      | [w, i, r, p, v], _ => exact ⟨w, i, r, p, v, rfl⟩
    have zw : w.size ≤ 900 := mem_parts (by rw [hl]; simp)
    have zi : i.size ≤ 900 := mem_parts (by rw [hl]; simp)
    have zr : r.size ≤ 900 := mem_parts (by rw [hl]; simp)
    have zp : p.size ≤ 900 := mem_parts (by rw [hl]; simp)
    have zv : v.size ≤ 900 := mem_parts (by rw [hl]; simp)
    have r0 : rdOf ByteArray.empty [w, i, r, p, v] 0 = w := rfl
    have r1 : rdOf ByteArray.empty [w, i, r, p, v] 1 = i := rfl
    have r2 : rdOf ByteArray.empty [w, i, r, p, v] 2 = r := rfl
    have r3 : rdOf ByteArray.empty [w, i, r, p, v] 3 = p := rfl
    have r4 : rdOf ByteArray.empty [w, i, r, p, v] 4 = v := rfl
    have e3 : (([w, i, r, p, v] : List ByteArray).length : Int) = 5 := rfl
    simp only [hl, e3, if_true, r0, r1, r2, r3, r4, show (0 : Int) < 5 from by decide, show (1 : Int) < 5 from by decide, show (2 : Int) < 5 from by decide, show (3 : Int) < 5 from by decide, show (4 : Int) < 5 from by decide]
    refine Ev.bind (impl_ReadNums_ev w (by omega)) ?_
    by_cases h5 : (rnsS w).1.length = 2
    · obtain ⟨c, f, e⟩ : ∃ c f, (rnsS w).1 = [c, f] := by
        match (rnsS w).1, h5 with
        | [c, f], _ => exact ⟨c, f, rfl⟩
      have hq2 : (rnsS w).2 = true := by
        cases h : (rnsS w).2 with
        | true => rfl
        | false =>
          exfalso
          unfold rnsS at h e
          split at h
          · cases h
          · rename_i hh; rw [if_neg hh] at e; cases e
      have hb := (read_nums (Prod.ext e hq2)).2.2.2 f (by simp)
      have hiff := rt_iff hl e
      have lp := rnsS_le p
      have lv := rnsS_le v
      have d0 : rd [c, f] 0 = c := rfl
      have d1 : rd [c, f] 1 = f := rfl
      have e2 : (([c, f] : List Int).length : Int) = 2 := rfl
      simp only [e, e2, if_true, d0, d1, show (0 : Int) < 2 from by decide, show (1 : Int) < 2 from by decide]
      refine Ev.bind (impl_ReadKey_ev i (by omega)) (Ev.bind (impl_ReadRest_ev r (by omega)) (Ev.bind (impl_ReadNums_ev p (by omega)) (Ev.bind (impl_ReadNums_ev v (by omega)) (Ev.bind (impl_ShowTicket_ev c f _ _ _ _ _ _ key (by omega) (by omega) (by omega) (by omega)) ?_))))
      rw [rtS_in hl e]
      simp only [toList_iff]
      by_cases he : stS c f (rkS i).1 (rrS r).1 (rrS r).2.1 (rrS r).2.2.1 (rnsS p).1 (rnsS v).1 key = s
      · rw [if_pos (hiff.1 he)]
        simp only [he, if_true]
        exact Ev.now _
      · rw [if_neg (fun hh => he (hiff.2 hh))]
        simp only [he, if_false]
        exact Ev.now _
    · have h5' : ¬ (((rnsS w).1.length : Int) = 2) := by omega
      simp only [h5', if_false]
      exact ev_eq (Ev.now _) (rtS_len2 hl h5).symm
  · have h3' : ¬ (((partsS (opS s key).1).1.length : Int) = 5) := by omega
    simp only [h3', if_false]
    exact ev_eq (Ev.now _) (rtS_len h3).symm

theorem spec_l1In_eq (a lo hi : Int) : spec_l1In.f a lo hi = some (decide (lo ≤ a ∧ a ≤ hi)) := by
  unfold spec_l1In.f
  by_cases h : a ≥ lo
  · rw [if_pos h]; congr 1; simp [show lo ≤ a from h]
  · rw [if_neg h]; congr 1; simp [show ¬ lo ≤ a from h]

theorem spec_RestOk_eq (s o e : Int) : spec_RestOk.f s o e = some (restB s o e) := by
  unfold spec_RestOk.f restB
  simp only [spec_l1In_eq, Option.bind_some]
  by_cases h1 : 0 ≤ s ∧ s ≤ 7 <;> by_cases h2 : 0 ≤ o ∧ o ≤ 255 <;> simp [h1, h2]

theorem spec_l5Principal_eq (a : Int) : spec_l5Principal.f a = some (decide (0 ≤ a ∧ a < 6)) := by
  unfold spec_l5Principal.f
  by_cases h : a ≥ 0
  · rw [if_pos h]; congr 1; simp [show 0 ≤ a from h]
  · rw [if_neg h]; congr 1; simp [show ¬ 0 ≤ a from h]

theorem spec_l5Service_eq (a : Int) : spec_l5Service.f a = some (forB a) := by
  unfold spec_l5Service.f forB
  simp only [spec_l1In_eq, Option.bind_some]
  by_cases h1 : 0 ≤ a ∧ a ≤ 2 <;> simp [h1]

theorem spec_l5All_ev (l : List Int) (most : Int) (hl : l.length ≤ 1048576) : Ev (fun k => spec_l5All.f k l most 3) (allB ok3 l most) := by
  unfold spec_l5All.f
  by_cases h6 : (l.length : Int) > most
  · rw [allB_f (fun hp => by have := hp.1; omega)]
    simp only [h6, if_true]
    exact Ev.now _
  · simp only [h6, if_false]
    have loop : ∀ d i : Nat, i + d = l.length → (∀ j, j < i → ok3 (rd l (j : Int))) → Ev (fun k => spec_l5All.l0 k l 3 (i : Int)) (allB ok3 l most) := by
      intro d
      induction d with
      | zero =>
        intro i hi hj
        refine Ev.step (f := fun _ => some true) (fun k => ?_) (ev_eq (Ev.now _) (allB_t ⟨by omega, fun j h => hj j (by omega)⟩).symm)
        simp only [spec_l5All.l0]
        rw [if_neg (by omega)]
      | succ d ih =>
        intro i hi hj
        have hlt : i < l.length := by omega
        have e2 : wrap64 ((i : Int) + 1) = ((i + 1 : Nat) : Int) := by rw [w64 (x := (i : Int) + 1) (by omega) (by omega)]; omega
        have c1 : (i : Int) < (l.length : Int) := by omega
        have c2 : 0 ≤ (i : Int) := by omega
        by_cases a1 : rd l (i : Int) < 0
        · refine Ev.step (f := fun _ => some false) (fun k => ?_) (ev_eq (Ev.now _) (allB_f (fun hp => by have := hp.2 i hlt; unfold ok3 at this; omega)).symm)
          simp only [spec_l5All.l0, c1, c2, if_true, a1]
        · by_cases a2 : rd l (i : Int) ≥ 3
          · refine Ev.step (f := fun _ => some false) (fun k => ?_) (ev_eq (Ev.now _) (allB_f (fun hp => by have := hp.2 i hlt; unfold ok3 at this; omega)).symm)
            simp only [spec_l5All.l0, c1, c2, if_true, a1, if_false, a2]
          · refine Ev.step (fun k => ?_) (ih (i + 1) (by omega) (fun j h => ?_))
            · simp only [spec_l5All.l0, c1, c2, if_true, a1, if_false, a2, e2]
            · by_cases hji : j = i
              · subst hji; unfold ok3; omega
              · exact hj j (by omega)
    exact loop l.length 0 (by omega) (fun j h => by omega)

theorem spec_l5TicketOk_ev (c f i s o e : Int) (p v : List Int) (hp : p.length ≤ 1048576) (hv : v.length ≤ 1048576) : Ev (fun k => spec_l5TicketOk.f k c f i s o e p v) (ticketB c f i s o e p v) := by
  unfold spec_l5TicketOk.f ticketB
  simp only [spec_l5Principal_eq, spec_l5Service_eq, spec_l1In_eq, spec_RestOk_eq, Option.bind_some]
  by_cases g1 : 0 ≤ c ∧ c < 6
  · rw [decide_eq_true g1]
    simp only [if_true, Bool.true_and]
    cases forB f with
    | false => simp only [Bool.false_and, Bool.false_eq_true, if_false]; exact Ev.now _
    | true =>
      simp only [if_true, Bool.true_and]
      by_cases g2 : 1 ≤ i ∧ i ≤ 1000000
      · rw [decide_eq_true g2]
        simp only [if_true, Bool.true_and]
        cases restB s o e with
        | false => simp only [Bool.false_and, Bool.false_eq_true, if_false]; exact Ev.now _
        | true =>
          simp only [if_true, Bool.true_and]
          refine Ev.bind (spec_l5All_ev p 6 hp) ?_
          cases allB ok3 p 6 with
          | false => simp only [Bool.false_and, Bool.false_eq_true, if_false]; exact Ev.now _
          | true =>
            simp only [if_true, Bool.true_and]
            exact Ev.bind (spec_l5All_ev v 4 hv) (Ev.now _)
      · rw [decide_eq_false g2]
        simp only [Bool.false_and, Bool.false_eq_true, if_false]; exact Ev.now _
  · rw [decide_eq_false g1]
    simp only [Bool.false_and, Bool.false_eq_true, if_false]; exact Ev.now _

theorem spec_Var_loop (j : Nat) : ∀ (n : Nat) (acc : List Int), n < 128 ^ (j + 1) → n ≤ MAXV → acc.length + j < 1000 →
    Ev (fun k => spec_Var.l0 k (n : Int) acc) (strOfNums (acc ++ (var n).map fun (m : Nat) => (m : Int))) := by
  have e128 : ((128 : Nat) : Int) = 128 := rfl
  induction j with
  | zero =>
    intro n acc hn hm ha
    have hn' : n < 128 := by simpa using hn
    refine Ev.step (f := fun _ => some (strOfNums (acc ++ (var n).map fun (m : Nat) => (m : Int)))) (fun k => ?_) (Ev.now _)
    simp only [spec_Var.l0]
    rw [if_neg (by omega), if_pos (by omega), var_small hn', show (n : Int) % 256 = (n : Int) by omega]; rfl
  | succ j ih =>
    intro n acc hn hm ha
    unfold MAXV at hm
    by_cases h : n < 128
    · refine Ev.step (f := fun _ => some (strOfNums (acc ++ (var n).map fun (m : Nat) => (m : Int)))) (fun k => ?_) (Ev.now _)
      simp only [spec_Var.l0]
      rw [if_neg (by omega), if_pos (by omega), var_small h, show (n : Int) % 256 = (n : Int) by omega]; rfl
    · have hd : n / 128 < 128 ^ (j + 1) := Nat.div_lt_of_lt_mul (by rw [Nat.pow_succ] at hn; omega)
      have hr := ih (n / 128) (acc ++ [((n % 128 + 128 : Nat) : Int)]) hd (by unfold MAXV; omega) (by simp; omega)
      refine Ev.step (f := fun k => spec_Var.l0 k ((n / 128 : Nat) : Int) (acc ++ [((n % 128 + 128 : Nat) : Int)])) (fun k => ?_) (ev_eq hr ?_)
      · simp only [spec_Var.l0]
        rw [if_pos (by omega), if_pos (by omega), ← e128, tdivN, tmodN, w64 (by omega) (by omega), w64 (by omega) (by omega)]
        have e : (((128 : Nat) : Int) + ((n % 128 : Nat) : Int)) % 256 = ((n % 128 + 128 : Nat) : Int) := by omega
        rw [e]
      · rw [var_big h, List.map_cons, List.append_assoc]; rfl
theorem spec_Var_ev (n : Int) : Ev (fun k => spec_Var.f k n) (varS n) := by
  unfold spec_Var.f
  simp only [spec_l1In_eq, Option.bind_some]
  by_cases h : 0 ≤ n ∧ n ≤ 562949953421311
  · simp only [h, decide_true, if_true]
    obtain ⟨m, rfl⟩ := Int.eq_ofNat_of_zero_le h.1
    have hm : m ≤ MAXV := by unfold MAXV; omega
    refine ev_eq (spec_Var_loop 6 m [] (by unfold MAXV at hm; omega) hm (by simp)) ?_
    rw [varS_in hm]; rfl
  · simp only [h, decide_false]
    rw [varS_out h]
    exact Ev.now _

theorem spec_ReadVar_inner (s : ByteArray) (hs : s.size ≤ 140737488355327) (kk : Nat) (h1 : 1 ≤ kk) (h7 : kk ≤ 7) (hkl : kk ≤ (bl s).length) {q : Int × Int} (hq : Ev (fun k => (spec_Var.f k ((val ((bl s).take kk) : Nat) : Int)).bind fun t111 => (if 0 ≤ (kk : Int) then (if (kk : Int) ≤ (s.size : Int) then (if t111.toList = (s.extract 0 (kk : Int).toNat).toList then (some (((val ((bl s).take kk) : Nat) : Int), (kk : Int))) else (spec_ReadVar.l0 k s (wrap64 ((kk : Int) + 1)))) else (none)) else (none))) q) (d : Nat) : ∀ (x : Int), d ≤ kk → x = (d : Int) - 1 →
    Ev (fun k => spec_ReadVar.l1 k s (kk : Int) ((val (((bl s).take kk).drop d) : Nat) : Int) x) q := by
  have hl := bl_len s
  induction d with
  | zero =>
    intro x hd hx
    subst hx
    rw [List.drop_zero]
    refine Ev.step (fun k => ?_) hq
    simp only [spec_ReadVar.l1]
    rw [if_neg (by omega)]
  | succ d ih =>
    intro x hd hx
    have hd' : d < (bl s).length := by omega
    have hb : bt s (d : Int) = (((bl s)[d] : Nat) : Int) := bt_get s d hd'
    have hb256 : (bl s)[d] < 256 := bl_lt s _ (List.getElem_mem hd')
    have hx' : x = (d : Int) := by omega
    subst hx'
    have hlen : ((bl s).take kk).length = kk := by rw [List.length_take]; omega
    have hdrop : ((bl s).take kk).drop d = (bl s)[d] :: ((bl s).take kk).drop (d + 1) := by
      rw [List.drop_eq_getElem_cons (by omega), List.getElem_take]
    have hval : val (((bl s).take kk).drop d) = (bl s)[d] % 128 + 128 * val (((bl s).take kk).drop (d + 1)) := by rw [hdrop]; rfl
    have hlt := val_lt (((bl s).take kk).drop (d + 1))
    rw [List.length_drop, hlen] at hlt
    have hp := pow_le7 (kk - (d + 1)) (by omega)
    have e128 : ((128 : Nat) : Int) = 128 := rfl
    refine Ev.step (fun k => ?_) (ih ((d : Int) - 1) (by omega) rfl)
    simp only [spec_ReadVar.l1]
    rw [if_pos (by omega), if_pos (by omega), if_pos (by omega), hb, w64 (x := (((bl s)[d] : Nat) : Int)) (by omega) (by omega), ← e128, tmodN, w64 (x := _ * ((128 : Nat) : Int)) (by omega) (by omega), w64 (x := _ + _) (by omega) (by omega), w64 (x := _ - 1) (by omega) (by omega)]
    rw [hval]
    congr 1
    omega
theorem spec_ReadVar_loop (s : ByteArray) (hs : s.size ≤ 140737488355327) (d : Nat) : ∀ (kk : Nat), kk + d = 8 → 1 ≤ kk → (∀ n j, j < kk → ¬ R (bl s) n j) →
    Ev (fun k => spec_ReadVar.l0 k s (kk : Int)) (rvI (bl s)) := by
  have hl := bl_len s
  induction d with
  | zero =>
    intro kk hk h1 hno
    have e : rvI (bl s) = (0, 0) := rvI_none (fun n k hR => hno n k (by have := R_seven hR; omega) hR)
    rw [e]
    refine Ev.step (f := fun k => spec_ReadVar.j1 k s (kk : Int) false) (fun k => ?_) (Ev.step (f := fun _ => some (0, 0)) (fun k => ?_) (Ev.now _))
    · simp only [spec_ReadVar.l0]; rw [if_neg (by omega)]
    · simp [spec_ReadVar.j1]
  | succ d ih =>
    intro kk hk h1 hno
    by_cases h : kk ≤ (bl s).length
    · have hmax : val ((bl s).take kk) ≤ MAXV := by
        have := val_lt ((bl s).take kk)
        rw [List.length_take, Nat.min_eq_left h] at this
        have hp : 128 ^ kk ≤ 128 ^ 7 := Nat.pow_le_pow_right (by decide) (by omega)
        have : (128 : Nat) ^ 7 = 562949953421312 := by decide
        unfold MAXV; omega
      have hin : Ev (fun k => (spec_Var.f k ((val ((bl s).take kk) : Nat) : Int)).bind fun t111 => (if 0 ≤ (kk : Int) then (if (kk : Int) ≤ (s.size : Int) then (if t111.toList = (s.extract 0 (kk : Int).toNat).toList then (some (((val ((bl s).take kk) : Nat) : Int), (kk : Int))) else (spec_ReadVar.l0 k s (wrap64 ((kk : Int) + 1)))) else (none)) else (none))) (rvI (bl s)) := by
        refine Ev.bind (spec_Var_ev _) ?_
        simp only [show (0 : Int) ≤ (kk : Int) by omega, show (kk : Int) ≤ (s.size : Int) by omega, if_true, toList_iff, Int.toNat_natCast]
        by_cases hR : R (bl s) (val ((bl s).take kk)) kk
        · have := (R_iff s _ kk hmax (by omega)).2 hR
          simp only [this, if_true]
          rw [rvI_some hR]
          exact Ev.now _
        · have hne : ¬ varS ((val ((bl s).take kk) : Nat) : Int) = s.extract 0 kk := fun e => hR ((R_iff s _ kk hmax (by omega)).1 e)
          simp only [hne, if_false]
          have hw : Aside0 (wrap64 ((kk : Int) + 1) = ((kk + 1 : Nat) : Int)) := ⟨by rw [w64 (by omega) (by omega)]; omega⟩
          rw [hw.out]
          refine ih (kk + 1) (by omega) (by omega) (fun n j hj hRj => ?_)
          by_cases hjk : j < kk
          · exact hno n j hjk hRj
          · have : j = kk := by omega
            subst this
            rw [← R_val hRj] at hRj
            exact hR hRj
      have hout := spec_ReadVar_inner s hs kk h1 (by omega) h hin kk ((kk : Int) - 1) (Nat.le_refl _) rfl
      rw [List.drop_of_length_le (by rw [List.length_take]; omega)] at hout
      refine Ev.step (f := fun k => spec_ReadVar.j1 k s (kk : Int) true) (fun k => ?_) (Ev.step (fun k => ?_) hout)
      · simp only [spec_ReadVar.l0]; rw [if_pos (by omega), decide_eq_true (by omega)]
      · simp only [spec_ReadVar.j1, if_true]; rw [w64 (by omega) (by omega)]; rfl
    · have e : rvI (bl s) = (0, 0) := rvI_none (fun n k hR => hno n k (by have := R_le hR; omega) hR)
      rw [e]
      refine Ev.step (f := fun k => spec_ReadVar.j1 k s (kk : Int) false) (fun k => ?_) (Ev.step (f := fun _ => some (0, 0)) (fun k => ?_) (Ev.now _))
      · simp only [spec_ReadVar.l0]
        by_cases h7 : (kk : Int) ≤ 7
        · rw [if_pos h7, decide_eq_false (by omega)]
        · rw [if_neg h7]
      · simp [spec_ReadVar.j1]
theorem spec_ReadVar_ev (s : ByteArray) (hs : s.size ≤ 140737488355327) : Ev (fun k => spec_ReadVar.f k s) (rvI (bl s)) := by
  unfold spec_ReadVar.f
  exact spec_ReadVar_loop s hs 7 1 (by omega) (by omega) (fun n j hj hR => by have := R_pos hR; omega)

theorem spec_l2Term_list (s : ByteArray) (hs : s.size ≤ 140737488355327) (d : Nat) (hd : d ≤ 100) (n : Nat) (hn : n ≤ 12) (a0 : Nat) (ha0 : a0 ≤ s.size)
    (hf : ∀ a, a ≤ s.size → ∃ dp : Int, Ev (fun k => spec_l2Term.f k s (a : Int) (d : Int)) (pI (parse d ((bl s).drop a)), dp) ∧ 0 ≤ dp ∧ dp ≤ d) (r : Nat) : ∀ (i a : Nat) (deep : Int), i + r = n → a ≤ s.size → a0 ≤ a → 0 ≤ deep → deep ≤ d →
    ∃ dp : Int, Ev (fun k => spec_l2Term.l0 k s (a0 : Int) ((d + 1 : Nat) : Int) (n : Int) (a : Int) deep (i : Int)) (eI a0 a (many (parse d) r ((bl s).drop a)), dp) ∧ 0 ≤ dp ∧ dp ≤ d + 1 := by
  have hw : Aside0 (wrap64 (((d + 1 : Nat) : Int) - 1) = (d : Int)) := ⟨by rw [w64 (by omega) (by omega)]; omega⟩
  induction r with
  | zero =>
    intro i a deep hi ha haa h0 h1
    refine ⟨1 + deep, Ev.step (f := fun _ => some (((a - a0 : Nat) : Int), 1 + deep)) (fun k => ?_) (ev_eq (Ev.now _) ?_), by omega, by omega⟩
    · simp only [spec_l2Term.l0]
      rw [if_neg (by omega), w64 (x := _ - _) (by omega) (by omega), w64 (x := 1 + _) (by omega) (by omega)]
      congr 2; omega
    · rfl
  | succ r ih =>
    intro i a deep hi ha haa h0 h1
    have hi1 : Aside0 (wrap64 ((i : Int) + 1) = ((i + 1 : Nat) : Int)) := ⟨by rw [w64 (by omega) (by omega)]; omega⟩
    obtain ⟨dp, hdp, hd0, hd1⟩ := hf a ha
    have hstep : ∀ k, spec_l2Term.l0 (k + 1) s (a0 : Int) ((d + 1 : Nat) : Int) (n : Int) (a : Int) deep (i : Int) = (spec_l2Term.f k s (a : Int) (d : Int)).bind fun bt118 => (if bt118.1 = 0 then (some (0, 0)) else (if bt118.2 > deep then (spec_l2Term.l0 k s (a0 : Int) ((d + 1 : Nat) : Int) (n : Int) (wrap64 ((a : Int) + bt118.1)) bt118.2 ((i + 1 : Nat) : Int)) else (spec_l2Term.l0 k s (a0 : Int) ((d + 1 : Nat) : Int) (n : Int) (wrap64 ((a : Int) + bt118.1)) deep ((i + 1 : Nat) : Int)))) := by
      intro k
      simp only [spec_l2Term.l0]; rw [if_pos (by omega), hw.out, hi1.out]
    rw [many_succ]
    cases hp : parse d ((bl s).drop a) with
    | none =>
      rw [hp] at hdp
      refine ⟨0, Ev.step hstep (Ev.bind hdp ?_), by omega, by omega⟩
      simp only [pI, if_true]
      exact Ev.now _
    | some m =>
      rw [hp] at hdp
      have hle := parse_le d _ _ hp
      rw [List.length_drop, bl_len] at hle
      have hm : ¬ ((m : Int) = 0) := by omega
      have hw2 : Aside0 (wrap64 ((a : Int) + (m : Int)) = ((a + m : Nat) : Int)) := ⟨by rw [w64 (by omega) (by omega)]; omega⟩
      have tail : ∀ deep', 0 ≤ deep' → deep' ≤ (d : Int) → ∃ dp : Int, Ev (fun k => spec_l2Term.l0 k s (a0 : Int) ((d + 1 : Nat) : Int) (n : Int) ((a + m : Nat) : Int) deep' ((i + 1 : Nat) : Int)) (eI a0 a (addO m (many (parse d) r (((bl s).drop a).drop m))), dp) ∧ 0 ≤ dp ∧ dp ≤ d + 1 := by
        intro deep' h0' h1'
        obtain ⟨dp', he, h⟩ := ih (i + 1) (a + m) deep' (by omega) (by omega) (by omega) h0' h1'
        rw [← List.drop_drop, eI_add] at he
        exact ⟨dp', he, h⟩
      by_cases hc : dp > deep
      · obtain ⟨dp', he, h⟩ := tail dp hd0 hd1
        refine ⟨dp', Ev.step hstep (Ev.bind hdp ?_), h⟩
        simp only [pI, hm, if_false, hc, if_true, hw2.out]
        exact he
      · obtain ⟨dp', he, h⟩ := tail deep h0 h1
        refine ⟨dp', Ev.step hstep (Ev.bind hdp ?_), h⟩
        simp only [pI, hm, if_false, hc, hw2.out]
        exact he
theorem spec_l2Term_ev (s : ByteArray) (hs : s.size ≤ 140737488355327) (d : Nat) : ∀ (a : Nat), d ≤ 100 → a ≤ s.size → ∃ dp : Int, Ev (fun k => spec_l2Term.f k s (a : Int) (d : Int)) (pI (parse d ((bl s).drop a)), dp) ∧ 0 ≤ dp ∧ dp ≤ d := by
  have hl := bl_len s
  have dead : ∀ (a d : Int), Ev (fun k => spec_l2Term.j0 k s a d true) (0, 0) := by
    intro a d
    refine Ev.step (f := fun _ => some (0, 0)) (fun k => ?_) (Ev.now _)
    simp [spec_l2Term.j0]
  induction d with
  | zero =>
    intro a hd ha
    by_cases h : (a : Int) ≥ (s.size : Int)
    · refine ⟨0, Ev.step (fun k => ?_) (ev_eq (dead (a : Int) ((0 : Nat) : Int)) (by simp [parse, pI])), by omega, by omega⟩
      simp only [spec_l2Term.f]; rw [if_pos h]
    · refine ⟨0, Ev.step (fun k => ?_) (ev_eq (dead (a : Int) ((0 : Nat) : Int)) (by simp [parse, pI])), by omega, by omega⟩
      simp only [spec_l2Term.f]; rw [if_neg h, decide_eq_true (by decide)]
  | succ d ih =>
    intro a hd ha
    by_cases h : (a : Int) ≥ (s.size : Int)
    · refine ⟨0, Ev.step (fun k => ?_) (ev_eq (dead (a : Int) ((d + 1 : Nat) : Int)) ?_), by omega, by omega⟩
      · simp only [spec_l2Term.f]; rw [if_pos h]
      · rw [List.drop_of_length_le (by omega), parse_nil]; rfl
    · have hlt : a < (bl s).length := by omega
      have hs1 : 0 ≤ (a : Int) := by omega
      have hs2 : (a : Int) < (s.size : Int) := by omega
      have ha1 : Aside0 (wrap64 ((a : Int) + 1) = ((a + 1 : Nat) : Int)) := ⟨by rw [w64 (by omega) (by omega)]; omega⟩
      have ha0 : 0 ≤ ((a + 1 : Nat) : Int) := by omega
      have ha2 : ((a + 1 : Nat) : Int) ≤ (s.size : Int) := by omega
      have hd1 : Aside0 (wrap64 (((d + 1 : Nat) : Int) - 1) = (d : Int)) := ⟨by rw [w64 (by omega) (by omega)]; omega⟩
      have hsz : (s.extract (a + 1) s.size).size ≤ 140737488355327 := by rw [ByteArray.size_extract]; omega
      have hv := spec_ReadVar_ev (s.extract (a + 1) s.size) hsz
      rw [bl_from] at hv
      have hcons : (bl s).drop a = (bl s)[a] :: (bl s).drop (a + 1) := List.drop_eq_getElem_cons hlt
      have hstep : ∀ k, spec_l2Term.f (k + 1) s (a : Int) ((d + 1 : Nat) : Int) = spec_l2Term.j0 k s (a : Int) ((d + 1 : Nat) : Int) false := by
        intro k; simp only [spec_l2Term.f]; rw [if_neg h, decide_eq_false (by omega)]
      suffices hh : ∃ dp : Int, Ev (fun k => spec_l2Term.j0 k s (a : Int) ((d + 1 : Nat) : Int) false) (pI (parse (d + 1) ((bl s).drop a)), dp) ∧ 0 ≤ dp ∧ dp ≤ ((d + 1 : Nat) : Int) by
        obtain ⟨dp, he, h⟩ := hh
        exact ⟨dp, Ev.step hstep he, h⟩
      have hbind : ∀ (q : Int × Int) (F : Nat → Int × Int → Option (Int × Int)), (∀ k, spec_l2Term.j0 (k + 1) s (a : Int) ((d + 1 : Nat) : Int) false = (spec_ReadVar.f k (s.extract (a + 1) s.size)).bind (F k)) → Ev (fun k => F k (rvI ((bl s).drop (a + 1)))) q → Ev (fun k => spec_l2Term.j0 k s (a : Int) ((d + 1 : Nat) : Int) false) q :=
        fun q F h1 h2 => Ev.step h1 (Ev.bind hv h2)
      rw [hcons]
      have hbt := bt_get s a hlt
      generalize hcc : (bl s)[a] = c at hbt
      rw [parse]
      cases hr : rv ((bl s).drop (a + 1)) with
      | none =>
        refine ⟨0, hbind _ _ (fun k => by simp only [spec_l2Term.j0]; rw [if_neg (by decide), ha1.out, if_pos ha0, if_pos ha2]; rfl) ?_, by omega, by omega⟩
        unfold rvI; rw [hr]
        simp only [if_true]
        exact Ev.now _
      | some p =>
        obtain ⟨n, k'⟩ := p
        have hR := rv_R hr
        have hk := R_le hR
        have hk0 := R_pos hR
        have hn9 := hR.1
        unfold MAXV at hn9
        simp only at hk hn9 hk0
        rw [List.length_drop, hl] at hk
        have hk0' : ¬ ((k' : Int) = 0) := by omega
        simp only []
        have hwk : Aside0 (wrap64 (((a + 1 : Nat) : Int) + (k' : Int)) = ((a + 1 + k' : Nat) : Int)) := ⟨by rw [w64 (by omega) (by omega)]; omega⟩
        by_cases c1 : c = 97
        · subst c1
          rw [if_pos rfl, List.length_drop, hl]
          by_cases c2 : n ≤ 40
          · by_cases c3 : n ≤ s.size - (a + 1) - k'
            · rw [if_pos ⟨c2, c3⟩]
              refine ⟨1, hbind _ _ (fun k => by simp only [spec_l2Term.j0]; rw [if_neg (by decide), ha1.out, if_pos ha0, if_pos ha2]; rfl) ?_, by omega, by omega⟩
              unfold rvI; rw [hr]
              simp only [hk0', hs1, hs2, hbt, if_true, if_false, hwk.out]
              have c2' : ¬ ((n : Int) > 40) := by omega
              have c3' : ¬ ((n : Int) > wrap64 ((s.size : Int) - ((a + 1 + k' : Nat) : Int))) := by rw [w64 (by omega) (by omega)]; omega
              have e : Aside0 (wrap64 (wrap64 (1 + (k' : Int)) + (n : Int)) = ((1 + k' + n : Nat) : Int)) := ⟨by rw [w64 (x := 1 + (k' : Int)) (by omega) (by omega), w64 (by omega) (by omega)]; omega⟩
              simp only [c2', c3', if_false, e.out, show (((97 : Nat) : Int) = 97) from rfl, if_true]
              exact Ev.now _
            · rw [if_neg (fun e => c3 e.2)]
              refine ⟨0, hbind _ _ (fun k => by simp only [spec_l2Term.j0]; rw [if_neg (by decide), ha1.out, if_pos ha0, if_pos ha2]; rfl) ?_, by omega, by omega⟩
              unfold rvI; rw [hr]
              simp only [hk0', hs1, hs2, hbt, if_true, if_false, hwk.out]
              have c2' : ¬ ((n : Int) > 40) := by omega
              have c3' : ((n : Int) > wrap64 ((s.size : Int) - ((a + 1 + k' : Nat) : Int))) := by rw [w64 (by omega) (by omega)]; omega
              simp only [c2', c3', if_false, show (((97 : Nat) : Int) = 97) from rfl, if_true]
              exact Ev.now _
          · rw [if_neg (fun e => c2 e.1)]
            refine ⟨0, hbind _ _ (fun k => by simp only [spec_l2Term.j0]; rw [if_neg (by decide), ha1.out, if_pos ha0, if_pos ha2]; rfl) ?_, by omega, by omega⟩
            unfold rvI; rw [hr]
            simp only [hk0', hs1, hs2, hbt, if_true, if_false]
            have c2' : ((n : Int) > 40) := by omega
            simp only [c2', show (((97 : Nat) : Int) = 97) from rfl, if_true]
            exact Ev.now _
        · have c1' : ¬ ((c : Int) = 97) := by omega
          rw [if_neg c1]
          by_cases c4 : c = 107
          · subst c4
            rw [if_pos rfl]
            by_cases c5 : 1 ≤ n ∧ n ≤ 1000000
            · have c5' : 1 ≤ (n : Int) ∧ (n : Int) ≤ 1000000 := by omega
              refine ⟨1, hbind _ _ (fun k => by simp only [spec_l2Term.j0]; rw [if_neg (by decide), ha1.out, if_pos ha0, if_pos ha2]; rfl) ?_, by omega, by omega⟩
              unfold rvI; rw [hr, if_pos c5]
              have e : Aside0 (wrap64 (1 + (k' : Int)) = ((1 + k' : Nat) : Int)) := ⟨by rw [w64 (by omega) (by omega)]; omega⟩
              simp only [hk0', hs1, hs2, hbt, if_true, if_false, c1', show (((107 : Nat) : Int) = 107) from rfl, spec_l1In_eq, Option.bind_some, c5', decide_true, e.out, and_self]
              exact Ev.now _
            · have c5' : ¬ (1 ≤ (n : Int) ∧ (n : Int) ≤ 1000000) := by omega
              refine ⟨0, hbind _ _ (fun k => by simp only [spec_l2Term.j0]; rw [if_neg (by decide), ha1.out, if_pos ha0, if_pos ha2]; rfl) ?_, by omega, by omega⟩
              unfold rvI; rw [hr, if_neg c5]
              simp only [hk0', hs1, hs2, hbt, if_true, if_false, c1', show (((107 : Nat) : Int) = 107) from rfl, spec_l1In_eq, Option.bind_some, c5', decide_false]
              exact Ev.now _
          · have c4' : ¬ ((c : Int) = 107) := by omega
            rw [if_neg c4]
            by_cases c6 : c = 108
            · subst c6
              rw [if_pos rfl]
              by_cases c7 : n ≤ 12
              · have c7' : ¬ ((n : Int) > 12) := by omega
                obtain ⟨dp, hL, h0, h1⟩ := spec_l2Term_list s hs d (by omega) n c7 a ha (fun a ha => ih a (by omega) ha) n 0 (a + 1 + k') 0 (by omega) (by omega) (by omega) (by omega) (by omega)
                rw [← List.drop_drop] at hL
                refine ⟨dp, hbind _ _ (fun k => by simp only [spec_l2Term.j0]; rw [if_neg (by decide), ha1.out, if_pos ha0, if_pos ha2]; rfl) ?_, h0, by omega⟩
                unfold rvI; rw [hr, if_pos c7]
                simp only [hk0', hs1, hs2, hbt, if_true, if_false, c1', c4', c7', show (((108 : Nat) : Int) = 108) from rfl, show ¬ (((108 : Nat) : Int) = 115) by omega, hwk.out]
                refine ev_eq hL ?_
                cases hq : many (parse d) n (((bl s).drop (a + 1)).drop k') with
                | none => rfl
                | some q =>
                  simp only [eI, pI]
                  rw [show a + 1 + k' + q - a = 1 + k' + q by omega]
              · have c7' : ((n : Int) > 12) := by omega
                refine ⟨0, hbind _ _ (fun k => by simp only [spec_l2Term.j0]; rw [if_neg (by decide), ha1.out, if_pos ha0, if_pos ha2]; rfl) ?_, by omega, by omega⟩
                unfold rvI; rw [hr, if_neg c7]
                simp only [hk0', hs1, hs2, hbt, if_true, if_false, c1', c4', c7', show (((108 : Nat) : Int) = 108) from rfl, show ¬ (((108 : Nat) : Int) = 115) by omega]
                exact Ev.now _
            · have c6' : ¬ ((c : Int) = 108) := by omega
              rw [if_neg c6]
              by_cases c8 : c = 115
              · subst c8
                rw [if_pos rfl]
                obtain ⟨dp, hL, h0, h1⟩ := ih (a + 1 + k') (by omega) (by omega)
                rw [← List.drop_drop] at hL
                have hk1 : ∀ F : Nat → Int × Int → Option (Int × Int), True := fun _ => trivial
                cases hq : parse d (((bl s).drop (a + 1)).drop k') with
                | none =>
                  rw [hq] at hL
                  refine ⟨0, hbind _ _ (fun k => by simp only [spec_l2Term.j0]; rw [if_neg (by decide), ha1.out, if_pos ha0, if_pos ha2]; rfl) ?_, by omega, by omega⟩
                  unfold rvI; rw [hr]
                  simp only [hk0', hs1, hs2, hbt, if_true, if_false, c1', c4', show (((115 : Nat) : Int) = 115) from rfl, hwk.out, hd1.out]
                  refine Ev.bind hL ?_
                  simp only [pI, if_true]
                  refine ev_eq (Ev.now _) ?_
                  simp [pI]
                | some q =>
                  rw [hq] at hL
                  have hle := parse_le d _ _ hq
                  rw [List.length_drop, List.length_drop, hl] at hle
                  have hq0 : ¬ ((q : Int) = 0) := by omega
                  by_cases c5 : 1 ≤ n ∧ n ≤ 1000000
                  · have c5' : 1 ≤ (n : Int) ∧ (n : Int) ≤ 1000000 := by omega
                    refine ⟨1 + dp, hbind _ _ (fun k => by simp only [spec_l2Term.j0]; rw [if_neg (by decide), ha1.out, if_pos ha0, if_pos ha2]; rfl) ?_, by omega, by omega⟩
                    unfold rvI; rw [hr, if_pos c5]
                    simp only [hk0', hs1, hs2, hbt, if_true, if_false, c1', c4', show (((115 : Nat) : Int) = 115) from rfl, hwk.out, hd1.out]
                    refine Ev.bind hL ?_
                    have e : Aside0 (wrap64 (wrap64 (1 + (k' : Int)) + (q : Int)) = ((1 + k' + q : Nat) : Int)) := ⟨by rw [w64 (x := 1 + (k' : Int)) (by omega) (by omega), w64 (by omega) (by omega)]; omega⟩
                    have e2 : wrap64 (1 + dp) = 1 + dp := w64 (by omega) (by omega)
                    simp only [pI, hq0, if_false, spec_l1In_eq, Option.bind_some, c5', decide_true, and_self, if_true, e.out, e2]
                    exact Ev.now _
                  · have c5' : ¬ (1 ≤ (n : Int) ∧ (n : Int) ≤ 1000000) := by omega
                    refine ⟨0, hbind _ _ (fun k => by simp only [spec_l2Term.j0]; rw [if_neg (by decide), ha1.out, if_pos ha0, if_pos ha2]; rfl) ?_, by omega, by omega⟩
                    unfold rvI; rw [hr, if_neg c5]
                    simp only [hk0', hs1, hs2, hbt, if_true, if_false, c1', c4', show (((115 : Nat) : Int) = 115) from rfl, hwk.out, hd1.out]
                    refine Ev.bind hL ?_
                    simp only [pI, hq0, if_false, spec_l1In_eq, Option.bind_some, c5', decide_false]
                    exact Ev.now _
              · have c8' : ¬ ((c : Int) = 115) := by omega
                rw [if_neg c8]
                refine ⟨0, hbind _ _ (fun k => by simp only [spec_l2Term.j0]; rw [if_neg (by decide), ha1.out, if_pos ha0, if_pos ha2]; rfl) ?_, by omega, by omega⟩
                unfold rvI; rw [hr]
                simp only [hk0', hs1, hs2, hbt, if_true, if_false, c1', c4', c6', c8']
                exact Ev.now _

theorem spec_TermOk_ev (s : ByteArray) (hs : s.size ≤ 140737488355327) : Ev (fun k => spec_TermOk.f k s) (termB (bl s)) := by
  have hl := bl_len s
  unfold spec_TermOk.f
  obtain ⟨dp, ht, _, _⟩ := spec_l2Term_ev s hs 8 0 (by decide) (by omega)
  refine Ev.bind ht ?_
  rw [List.drop_zero]
  unfold termB
  rw [hl]
  cases hp : parse 8 (bl s) with
  | none =>
    refine ev_eq (Ev.now _) ?_
    simp
  | some m =>
    have hle := parse_le 8 _ _ hp
    rw [hl] at hle
    have h1 : ((m : Int) > 0) := by omega
    simp only [pI, h1, if_true]
    by_cases hm : m = s.size
    · subst hm
      simp only [if_true]
      refine ev_eq (Ev.now _) ?_
      exact decide_eq_decide.mpr ⟨fun h => ⟨by omega, by omega, trivial⟩, fun h => by omega⟩
    · have hm' : ¬ ((m : Int) = (s.size : Int)) := by omega
      simp only [hm', if_false]
      refine ev_eq (Ev.now _) ?_
      rw [decide_eq_false]
      intro h
      exact hm (Option.some.inj h.2.2)

theorem spec_l2Ok_ev (s : ByteArray) (hs : s.size ≤ 140737488355327) : Ev (fun k => spec_l2Ok.f k s) (termS s) := by
  unfold spec_l2Ok.f
  refine Ev.bind (spec_TermOk_ev s hs) ?_
  unfold termS okS
  by_cases h : termB (bl s) = true
  · simp only [h, if_true]; exact Ev.now _
  · simp only [h]; exact Ev.now _

theorem spec_Seal_ev (n : Int) (t : ByteArray) (ht : t.size ≤ 1000000000) : Ev (fun k => spec_Seal.f k n t) (sealS n t) := by
  have dead : Ev (fun k => spec_Seal.j0 k n t true) (⟨#[]⟩ : ByteArray) := by
    refine Ev.step (f := fun _ => some (⟨#[]⟩ : ByteArray)) (fun k => ?_) (Ev.now _)
    simp [spec_Seal.j0]
  unfold spec_Seal.f
  simp only [spec_l1In_eq, Option.bind_some]
  have ho : termB (bl t) = okS t := rfl
  unfold sealS
  by_cases h2 : 1 ≤ n ∧ n ≤ 1000000
  · simp only [h2, decide_true, if_true, and_self, and_true]
    refine Ev.bind (spec_TermOk_ev t (by omega)) ?_
    rw [ho]
    by_cases h1 : okS t = true
    · rw [if_pos h1, h1]
      have h7 := @var_size n
      have h1 : (⟨#[115]⟩ : ByteArray).size = 1 := rfl
      have a1 : 1 + (varS n).size ≤ 9223372036854775807 := by omega
      have a2 : ((⟨#[115]⟩ : ByteArray) ++ varS n).size + t.size ≤ 9223372036854775807 := by rw [ByteArray.size_append]; omega
      refine Ev.step (fun k => by simp only [spec_Seal.j0]; rw [if_neg (by decide)]) (Ev.bind (spec_Var_ev n) ?_)
      simp only [a1, a2, if_true]
      exact Ev.bind (spec_l2Ok_ev _ (by rw [ByteArray.size_append, ByteArray.size_append]; omega)) (ev_eq (Ev.now _) rfl)
    · rw [if_neg h1, Bool.eq_false_iff.mpr h1]
      exact dead
  · have h2' : ¬ (okS t = true ∧ 1 ≤ n ∧ n ≤ 1000000) := fun e => h2 e.2
    rw [if_neg h2']
    simp only [h2, decide_false, Bool.false_eq_true, if_false]
    exact dead

theorem spec_List_loop (ps : List ByteArray) (hl : ps.length ≤ 12) (d : Nat) : ∀ (i : Nat) (acc : ByteArray), i + d = ps.length → acc.size ≤ 1000 + 900 * i → (∀ p ∈ ps, p.size ≤ 1099511627776) →
    Ev (fun k => spec_List.l0 k ps acc (i : Int)) (if (ps.drop i).all okS = true then termS (acc ++ cat (ps.drop i)) else ⟨#[]⟩) := by
  induction d with
  | zero =>
    intro i acc hi ha hp
    rw [List.drop_of_length_le (by omega)]
    have e : acc ++ cat [] = acc := ByteArray.append_empty
    simp only [List.all_nil, if_true, e]
    refine Ev.step (f := fun k => (spec_l2Ok.f k acc).bind fun t => some t) (fun k => ?_) (Ev.bind (spec_l2Ok_ev acc (by omega)) (Ev.now _))
    simp only [spec_List.l0]; rw [if_neg (by omega)]
  | succ d ih =>
    intro i acc hi ha hp
    have hlt : i < ps.length := by omega
    have hcons : ps.drop i = ps[i] :: ps.drop (i + 1) := List.drop_eq_getElem_cons hlt
    have hsz := hp _ (List.getElem_mem hlt)
    have hw : Aside0 (wrap64 ((i : Int) + 1) = ((i + 1 : Nat) : Int)) := ⟨by rw [w64 (by omega) (by omega)]; omega⟩
    refine Ev.step (f := fun k => (spec_TermOk.f k ps[i]).bind fun t => (if t = true then (if acc.size + ps[i].size ≤ 9223372036854775807 then spec_List.l0 k ps (acc ++ ps[i]) ((i + 1 : Nat) : Int) else none) else some (⟨#[]⟩ : ByteArray))) (fun k => ?_) (Ev.bind (spec_TermOk_ev ps[i] (by omega)) ?_)
    · simp only [spec_List.l0]; rw [if_pos (by omega), if_pos (by omega), rdOf_get ps i hlt, hw.out]
    · have ho : termB (bl ps[i]) = okS ps[i] := rfl
      rw [ho, hcons, List.all_cons, cat_cons]
      by_cases h : okS ps[i] = true
      · have h9 := (okS_size h).2
        have hr := ih (i + 1) (acc ++ ps[i]) (by omega) (by rw [ByteArray.size_append]; omega) hp
        have hle : acc.size + ps[i].size ≤ 9223372036854775807 := by omega
        rw [ByteArray.append_assoc] at hr
        simp only [h, hle, if_true, Bool.true_and]
        exact hr
      · have h' := Bool.eq_false_iff.mpr h
        rw [h', Bool.false_and]
        simp only [Bool.false_eq_true, if_false]
        exact Ev.now _
theorem spec_List_ev (ps : List ByteArray) (hp : ∀ p ∈ ps, p.size ≤ 1099511627776) : Ev (fun k => spec_List.f k ps) (listS ps) := by
  unfold spec_List.f
  by_cases h12 : ps.length ≤ 12
  · have h12' : ¬ ((ps.length : Int) > 12) := by omega
    simp only [h12', if_false]
    refine Ev.bind (spec_Var_ev _) ?_
    have h7 := @var_size (ps.length : Int)
    have h1 : (⟨#[108]⟩ : ByteArray).size = 1 := rfl
    have a1 : 1 + (varS (ps.length : Int)).size ≤ 9223372036854775807 := by omega
    simp only [a1, if_true]
    refine ev_eq (spec_List_loop ps h12 ps.length 0 ((⟨#[108]⟩ : ByteArray) ++ varS (ps.length : Int)) (by omega) (by rw [ByteArray.size_append]; omega) hp) ?_
    unfold listS rawL
    rw [List.drop_zero]
    by_cases h : ps.all okS = true
    · rw [if_pos h, if_pos ⟨h12, h⟩]
    · rw [if_neg h, if_neg (fun e => h e.2)]
  · have h12' : ((ps.length : Int) > 12) := by omega
    simp only [h12', if_true]
    refine ev_eq (Ev.now _) ?_
    unfold listS; rw [if_neg (fun e => h12 e.1)]

theorem spec_Atom_ev (d : ByteArray) (hd : d.size ≤ 1000000000) : Ev (fun k => spec_Atom.f k d) (atomS d) := by
  unfold spec_Atom.f
  by_cases h : (d.size : Int) > 40
  · simp only [h, if_true]
    refine ev_eq (Ev.now _) ?_
    unfold atomS termS
    rw [atom_long (by omega) (by unfold MAXV; omega), if_neg (by decide)]
  · simp only [h, if_false]
    refine Ev.bind (spec_Var_ev _) ?_
    have h7 := @var_size (d.size : Int)
    have h1 : (⟨#[97]⟩ : ByteArray).size = 1 := rfl
    have a1 : 1 + (varS (d.size : Int)).size ≤ 9223372036854775807 := by omega
    have a2 : ((⟨#[97]⟩ : ByteArray) ++ varS (d.size : Int)).size + d.size ≤ 9223372036854775807 := by rw [ByteArray.size_append]; omega
    simp only [a1, a2, if_true]
    refine Ev.bind (spec_l2Ok_ev _ (by rw [ByteArray.size_append, ByteArray.size_append]; omega)) (ev_eq (Ev.now _) rfl)

theorem spec_Num_ev (n : Int) : Ev (fun k => spec_Num.f k n) (numS n) := by
  unfold spec_Num.f
  refine Ev.bind (spec_Var_ev n) ?_
  unfold numS
  simp only [toList_nil]
  by_cases h : varS n = (⟨#[]⟩ : ByteArray)
  · simp only [h, if_true]; exact Ev.now _
  · simp only [h, if_false]
    have := @var_size n
    exact Ev.bind (spec_Atom_ev _ (by omega)) (ev_eq (Ev.now _) rfl)

theorem listS_long2 {ps : List ByteArray} (h : 12 < ps.length) : listS ps = (⟨#[]⟩ : ByteArray) := by unfold listS; rw [if_neg (fun e => by omega)]
theorem spec_Nums_loop (l : List Int) (hl : l.length ≤ 1073741824) (d : Nat) : ∀ (i : Nat), i + d = min 13 l.length →
    Ev (fun k => spec_Nums.l0 k l ((l.take i).map numS) (i : Int)) (if (((l.take (min 13 l.length)).drop i).all fun n => decide (0 ≤ n ∧ n ≤ 562949953421311)) = true then listS ((l.take (min 13 l.length)).map numS) else ⟨#[]⟩) := by
  induction d with
  | zero =>
    intro i hi
    rw [List.drop_of_length_le (by rw [List.length_take]; omega), show i = min 13 l.length by omega]
    simp only [List.all_nil, if_true]
    refine Ev.step (f := fun k => spec_Nums.j1 k l ((l.take (min 13 l.length)).map numS) ((min 13 l.length : Nat) : Int) false) (fun k => ?_) (Ev.step (f := fun k => (spec_List.f k ((l.take (min 13 l.length)).map numS)).bind fun t => some t) (fun k => ?_) (Ev.bind (spec_List_ev _ (fun p hp => ?_)) (Ev.now _)))
    · simp only [spec_Nums.l0]
      by_cases hh : ((min 13 l.length : Nat) : Int) < (l.length : Int)
      · rw [if_pos hh, decide_eq_false (by omega)]
      · rw [if_neg hh]
    · simp only [spec_Nums.j1]; rw [if_neg (by decide)]
    · obtain ⟨n, _, rfl⟩ := List.mem_map.mp hp
      have := numS_size n; omega
  | succ d ih =>
    intro i hi
    have hlt : i < l.length := by omega
    have hlt2 : i < (l.take (min 13 l.length)).length := by rw [List.length_take]; omega
    have hcons : (l.take (min 13 l.length)).drop i = l[i] :: (l.take (min 13 l.length)).drop (i + 1) := by
      rw [List.drop_eq_getElem_cons hlt2, List.getElem_take]
    have hw : Aside0 (wrap64 ((i : Int) + 1) = ((i + 1 : Nat) : Int)) := ⟨by rw [w64 (by omega) (by omega)]; omega⟩
    refine Ev.step (f := fun k => spec_Nums.j1 k l ((l.take i).map numS) (i : Int) true) (fun k => ?_) (Ev.step (f := fun k => (spec_Num.f k l[i]).bind fun t => (if t.toList = ([] : List UInt8) then some (⟨#[]⟩ : ByteArray) else (if ((l.take i).map numS).length < 8796093022208 then spec_Nums.l0 k l ((l.take i).map numS ++ [t]) ((i + 1 : Nat) : Int) else none))) (fun k => ?_) (Ev.bind (spec_Num_ev l[i]) ?_))
    · simp only [spec_Nums.l0]; rw [if_pos (by omega), decide_eq_true (by omega)]
    · simp only [spec_Nums.j1]; rw [if_pos trivial, if_pos (by omega), if_pos (by omega), rd_get l i hlt, hw.out]
    · simp only [toList_nil]
      rw [hcons, List.all_cons]
      by_cases h : 0 ≤ l[i] ∧ l[i] ≤ 562949953421311
      · have hne := (numS_in h).2.2
        have hr := ih (i + 1) (by omega)
        have hlen : ((l.take i).map numS).length < 8796093022208 := by rw [List.length_map, List.length_take]; omega
        simp only [hne, hlen, if_false, if_true]
        rw [decide_eq_true h, Bool.true_and]
        rw [List.take_succ_eq_append_getElem hlt, List.map_append] at hr
        exact hr
      · rw [decide_eq_false h, Bool.false_and, numS_out h]
        simp only [Bool.false_eq_true, if_true, if_false]
        exact Ev.now _
theorem spec_Nums_ev (l : List Int) (hl : l.length ≤ 1073741824) : Ev (fun k => spec_Nums.f k l) (numsS l) := by
  unfold spec_Nums.f
  refine ev_eq (spec_Nums_loop l hl (min 13 l.length) 0 (by omega)) ?_
  unfold numsS
  rw [List.drop_zero]
  by_cases h12 : l.length ≤ 12
  · have e : l.take (min 13 l.length) = l := List.take_of_length_le (by omega)
    rw [e]
    by_cases h : (l.all fun n => decide (0 ≤ n ∧ n ≤ 562949953421311)) = true
    · rw [if_pos h, if_pos ⟨h12, h⟩]
    · rw [if_neg h, if_neg (fun e => h e.2)]
  · have e2 : ¬ (l.length ≤ 12 ∧ (l.all fun n => decide (0 ≤ n ∧ n ≤ 562949953421311)) = true) := fun e => h12 e.1
    rw [if_neg e2]
    split
    · rw [listS_long2]; rw [List.length_map, List.length_take]; omega
    · rfl

theorem spec_KeyTerm_ev (n : Int) : Ev (fun k => spec_KeyTerm.f k n) (keyS n) := by
  unfold spec_KeyTerm.f keyS
  simp only [spec_l1In_eq, Option.bind_some]
  by_cases h : 1 ≤ n ∧ n ≤ 1000000
  · simp only [h, decide_true, if_true, and_self]
    refine Ev.bind (spec_Var_ev n) ?_
    have h7 := @var_size n
    have hle : 1 + (varS n).size ≤ 9223372036854775807 := by omega
    simp only [hle, if_true]
    exact Ev.now _
  · simp only [h, decide_false, if_false]
    exact Ev.now _

theorem spec_ShowRest_ev (s o e : Int) : Ev (fun k => spec_ShowRest.f k s o e) (srS s o e) := by
  unfold spec_ShowRest.f srS
  simp only [spec_RestOk_eq, Option.bind_some]
  by_cases h : restB s o e = true
  · simp only [h, if_true]
    exact Ev.bind (spec_Nums_ev _ (by simp)) (Ev.now _)
  · simp only [h]
    exact Ev.now _

theorem spec_ShowTicket_ev (c f i s o e : Int) (p v : List Int) (key : Int) (hp : p.length ≤ 1048576) (hv : v.length ≤ 1048576) : Ev (fun k => spec_ShowTicket.f k c f i s o e p v key) (stS c f i s o e p v key) := by
  unfold spec_ShowTicket.f stS
  refine Ev.bind (spec_l5TicketOk_ev c f i s o e p v hp hv) ?_
  by_cases h : ticketB c f i s o e p v = true
  · simp only [h, if_true]
    have s1 := numsS_size [c, f]
    have s2 := keyS_size i
    have s3 := srS_size s o e
    have s4 := numsS_size p
    have s5 := numsS_size v
    have s6 := listS_size [numsS [c, f], keyS i, srS s o e, numsS p, numsS v]
    refine Ev.bind (spec_Nums_ev _ (by simp)) (Ev.bind (spec_KeyTerm_ev i) (Ev.bind (spec_ShowRest_ev s o e) (Ev.bind (spec_Nums_ev p (by omega)) (Ev.bind (spec_Nums_ev v (by omega)) (Ev.bind (spec_List_ev _ (fun q hq => ?_)) (Ev.bind (spec_Seal_ev _ _ (by omega)) (Ev.now _)))))))
    simp only [List.mem_cons, List.not_mem_nil, or_false] at hq
    rcases hq with rfl | rfl | rfl | rfl | rfl <;> omega
  · simp only [h, Bool.false_eq_true, if_false]
    exact Ev.now _

theorem laws_sameInts_self (l : List Int) (hl : l.length ≤ 1073741824) : Ev (fun k => laws_sameInts.f k l l) true := by
  have loop : ∀ d i : Nat, i + d = l.length → Ev (fun k => laws_sameInts.l0 k l l (i : Int)) true := by
    intro d
    induction d with
    | zero =>
      intro i hi
      refine Ev.step (f := fun _ => some true) (fun k => ?_) (Ev.now _)
      simp only [laws_sameInts.l0]
      rw [if_neg (by omega)]
    | succ d ih =>
      intro i hi
      refine Ev.step (fun k => ?_) (ih (i + 1) (by omega))
      simp only [laws_sameInts.l0]
      rw [if_pos (by omega), if_pos (by omega), if_pos (by omega), if_pos trivial, w64 (by omega) (by omega)]
      rfl
  unfold laws_sameInts.f
  simp only [if_true]
  exact loop l.length 0 (by omega)

theorem spec_l5DrawAuth_ok (b : List Int) (i h : Int) (hb : b.length ≤ 140737488351232) (hi : 0 ≤ i) : ∃ (c t q i' h' : Int), spec_l5DrawAuth.f b i h = some (c, t, q, i', h') ∧ 0 ≤ i' := by
  unfold spec_l5DrawAuth.f
  obtain ⟨x1, i1, h1, he1, _, _, hi1⟩ := spec_l1Below_ok b i h 6 hb hi (by decide)
  obtain ⟨x2, i2, h2, he2, _, _, hi2⟩ := spec_l1Below_ok b i1 h1 40 hb hi1 (by decide)
  obtain ⟨x3, i3, h3, he3, _, _, hi3⟩ := spec_l1Below_ok b i2 h2 9 hb hi2 (by decide)
  obtain ⟨x4, i4, h4, he4, hi4⟩ := spec_l1Once_ok b i3 h3 10 hb hi3 (by decide)
  simp only [he1, he2, he3, he4, Option.bind_some]
  cases x4 with
  | false => exact ⟨_, _, _, _, _, rfl, hi4⟩
  | true =>
    simp only [if_true]
    obtain ⟨x5, i5, h5, he5, _, _, hi5⟩ := spec_l1Below_ok b i4 h4 3 hb hi4 (by decide)
    simp only [he5, Option.bind_some]
    by_cases c1 : x5 = 0
    · obtain ⟨x6, i6, h6, he6, _, hi6⟩ := spec_l1PickInt_ok b i5 h5 [(-1), 6] hb hi5 (by decide)
      rw [if_pos c1, he6]
      exact ⟨_, _, _, _, _, rfl, hi6⟩
    · rw [if_neg c1]
      by_cases c2 : x5 = 1
      · obtain ⟨x6, i6, h6, he6, _, hi6⟩ := spec_l1PickInt_ok b i5 h5 [(-1), 100000, 100001] hb hi5 (by decide)
        rw [if_pos c2, he6]
        exact ⟨_, _, _, _, _, rfl, hi6⟩
      · obtain ⟨x6, i6, h6, he6, _, hi6⟩ := spec_l1PickInt_ok b i5 h5 [(-1), 1000000, 1000001] hb hi5 (by decide)
        rw [if_neg c2, he6]
        exact ⟨_, _, _, _, _, rfl, hi6⟩

theorem spec_DrawShowAuth_ok (b : List Int) (hb : b.length ≤ 140737488351232) : ∃ (c t q k : Int), Ev (fun n => spec_DrawShowAuth.f n b) (c, t, q, k) ∧ (0 ≤ k ∧ k ≤ 1000001) := by
  obtain ⟨h0, hn⟩ := spec_l1New_ok b hb
  obtain ⟨k, i1, h1, e1, hk, hi1⟩ := spec_l5Key_ok b 0 h0 hb (by decide)
  obtain ⟨c, t, q, i2, h2, e2, hi2⟩ := spec_l5DrawAuth_ok b i1 h1 hb hi1
  refine ⟨c, t, q, k, ?_, hk⟩
  unfold spec_DrawShowAuth.f
  refine Ev.bind hn ?_
  simp only [e1, e2, Option.bind_some]
  exact Ev.now _

theorem impl_authOk_eq (c t q : Int) : impl_authOk.f c t q = some (authB c t q) := by
  unfold impl_authOk.f authB
  simp only [impl_isPrincipal_eq, impl_isTime_eq, impl_within_eq, Option.bind_some]
  by_cases h1 : 0 ≤ c ∧ c < 6 <;> by_cases h2 : 0 ≤ t ∧ t ≤ 100000 <;> simp [h1, h2]

theorem impl_ShowAuth_ev (c t q key : Int) : Ev (fun k => impl_ShowAuth.f k c t q key) (saS c t q key) := by
  unfold impl_ShowAuth.f saS
  simp only [impl_authOk_eq, Option.bind_some]
  by_cases h : authB c t q = true
  · simp only [h, if_true]
    have := numsS_size [7, c, t, q]
    exact Ev.bind (impl_Nums_ev _ (by simp)) (Ev.bind (impl_Seal_ev _ _ (by omega)) (Ev.now _))
  · simp only [h]
    exact Ev.now _

theorem rau_iff (s : ByteArray) (key z a b c : Int) (hl : (rnsS (opS s key).1).1 = [z, a, b, c]) : saS a b c key = s ↔ ((rnsS (opS s key).1).2 = true ∧ z = 7 ∧ authB a b c = true) := by
  constructor
  · intro h
    unfold saS at h
    split at h
    · rename_i ha
      by_cases h0 : sealS key (numsS [7, a, b, c]) = (⟨#[]⟩ : ByteArray)
      · rw [h0] at h
        have hop : (opS s key).1 = (⟨#[]⟩ : ByteArray) := by
          unfold opS
          rw [if_neg]
          rintro ⟨hk, _⟩
          have := isK_ok hk
          rw [← h, empty_not_ok] at this; cases this
        rw [hop, rnsS_empty] at hl
        cases hl
      · obtain ⟨hr, _, hok, _, _⟩ := seal_read h0
        rw [h] at hr
        have hne : numsS [7, a, b, c] ≠ (⟨#[]⟩ : ByteArray) := by
          intro e; rw [e, empty_not_ok] at hok; cases hok
        have hn := (nums_read hne).1
        rw [hr] at hl ⊢
        simp only [] at hl ⊢
        rw [hn] at hl ⊢
        simp only [List.cons.injEq, and_true] at hl
        exact ⟨rfl, hl.symm, ha⟩
    · have hop : (opS s key).1 = (⟨#[]⟩ : ByteArray) := by
        unfold opS
        rw [if_neg]
        rintro ⟨hk, _⟩
        have := isK_ok hk
        rw [← h, empty_not_ok] at this; cases this
      rw [hop, rnsS_empty] at hl
      cases hl
  · rintro ⟨h2, rfl, ha⟩
    have hr : rnsS (opS s key).1 = ([7, a, b, c], true) := Prod.ext hl h2
    have hn := (read_nums hr).1
    have hop : opS s key = ((opS s key).1, true) := by
      cases h : (opS s key).2 with
      | true => rw [← h]
      | false =>
        exfalso
        have : (opS s key).1 = (⟨#[]⟩ : ByteArray) := by
          unfold opS at h ⊢
          split at h
          · cases h
          · rename_i hh; rw [if_neg hh]
        rw [this, rnsS_empty] at hr
        cases hr
    unfold saS
    rw [if_pos ha, hn, (read_seal hop).1]
theorem impl_ReadAuth_ev (s : ByteArray) (hs : s.size ≤ 1073741824) (key : Int) : Ev (fun k => impl_ReadAuth.f k s key) (rauS s key) := by
  have ho := opS_size s key
  unfold impl_ReadAuth.f
  refine Ev.bind (impl_Open_ev s (by omega) key) (Ev.bind (impl_ReadNums_ev _ (by omega)) ?_)
  unfold rauS
  by_cases h4 : (rnsS (opS s key).1).1.length = 4
  · obtain ⟨z, a, b, c, hl⟩ : ∃ z a b c, (rnsS (opS s key).1).1 = [z, a, b, c] := by
      match (rnsS (opS s key).1).1, h4 with
      | [z, a, b, c], _ => exact ⟨z, a, b, c, rfl⟩
    have hiff := rau_iff s key z a b c hl
    rw [hl]
    have r1 : rd [z, a, b, c] 1 = a := rfl
    have r2 : rd [z, a, b, c] 2 = b := rfl
    have r3 : rd [z, a, b, c] 3 = c := rfl
    have e4 : (([z, a, b, c] : List Int).length : Int) = 4 := rfl
    simp only [e4, if_true, r1, r2, r3, show (1 : Int) < 4 from by decide, show (2 : Int) < 4 from by decide, show (3 : Int) < 4 from by decide]
    refine Ev.bind (impl_ShowAuth_ev a b c key) ?_
    simp only [toList_iff]
    by_cases he : saS a b c key = s
    · obtain ⟨i1, i2, i3⟩ := hiff.1 he
      simp only [he, if_true]
      rw [i1]
      simp only [i2, i3, and_self, if_true]
      exact Ev.now _
    · simp only [he, if_false]
      refine ev_eq (Ev.now _) ?_
      cases h2 : (rnsS (opS s key).1).2 with
      | false => rfl
      | true =>
        simp only []
        rw [if_neg]
        rintro ⟨i2, i3⟩
        exact he (hiff.2 ⟨h2, i2, i3⟩)
  · have h4' : ¬ (((rnsS (opS s key).1).1.length : Int) = 4) := by omega
    simp only [h4', if_false]
    refine ev_eq (Ev.now _) ?_
    split
    · rename_i hl _
      rw [hl] at h4
      exact absurd rfl h4
    · rfl

theorem spec_l5AuthOk_eq (c t q : Int) : spec_l5AuthOk.f c t q = some (authB c t q) := by
  unfold spec_l5AuthOk.f authB
  simp only [spec_l5Principal_eq, spec_l1In_eq, Option.bind_some]
  by_cases h1 : 0 ≤ c ∧ c < 6 <;> by_cases h2 : 0 ≤ t ∧ t ≤ 100000 <;> simp [h1, h2]

theorem spec_ShowAuth_ev (c t q key : Int) : Ev (fun k => spec_ShowAuth.f k c t q key) (saS c t q key) := by
  unfold spec_ShowAuth.f saS
  simp only [spec_l5AuthOk_eq, Option.bind_some]
  by_cases h : authB c t q = true
  · simp only [h, if_true]
    have := numsS_size [7, c, t, q]
    exact Ev.bind (spec_Nums_ev _ (by simp)) (Ev.bind (spec_Seal_ev _ _ (by omega)) (Ev.now _))
  · simp only [h]
    exact Ev.now _

theorem spec_l5DrawGrant_ok (b : List Int) (i h : Int) (hb : b.length ≤ 140737488351232) (hi : 0 ≤ i) : ∃ (g f t s o e i' h' : Int), spec_l5DrawGrant.f b i h = some (g, f, t, s, o, e, i', h') ∧ (-9223372036854775808 ≤ f ∧ f ≤ 9223372036854775807) ∧ 0 ≤ i' := by
  unfold spec_l5DrawGrant.f
  obtain ⟨x1, i1, h1, he1, _, _, hi1⟩ := spec_l1Below_ok b i h 9 hb hi (by decide)
  obtain ⟨x2, i2, h2, he2, m2, hi2⟩ := spec_l1PickInt_ok b i1 h1 [0, 1, 2, 10, 11, 12] hb hi1 (by decide)
  obtain ⟨x3, i3, h3, he3, _, _, hi3⟩ := spec_l1Below_ok b i2 h2 200 hb hi2 (by decide)
  obtain ⟨s, o, e, i4, h4, he4, hi4⟩ := spec_l4Any_ok b i3 h3 hb hi3
  obtain ⟨x5, i5, h5, he5, hi5⟩ := spec_l1Once_ok b i4 h4 10 hb hi4 (by decide)
  simp only [List.mem_cons, List.not_mem_nil, or_false] at m2
  simp only [he1, he2, he3, he4, he5, Option.bind_some]
  cases x5 with
  | false => exact ⟨_, _, _, _, _, _, _, _, rfl, by omega, hi5⟩
  | true =>
    simp only [if_true]
    obtain ⟨x6, i6, h6, he6, _, _, hi6⟩ := spec_l1Below_ok b i5 h5 3 hb hi5 (by decide)
    simp only [he6, Option.bind_some]
    by_cases c1 : x6 = 0
    · obtain ⟨x7, i7, h7, he7, _, hi7⟩ := spec_l1PickInt_ok b i6 h6 [0, 1000001] hb hi6 (by decide)
      rw [if_pos c1, he7]
      exact ⟨_, _, _, _, _, _, _, _, rfl, by omega, hi7⟩
    · rw [if_neg c1]
      by_cases c2 : x6 = 1
      · obtain ⟨x7, i7, h7, he7, m7, hi7⟩ := spec_l1PickInt_ok b i6 h6 [(-1), 3, 13] hb hi6 (by decide)
        simp only [List.mem_cons, List.not_mem_nil, or_false] at m7
        rw [if_pos c2, he7]
        exact ⟨_, _, _, _, _, _, _, _, rfl, by simp only []; omega, hi7⟩
      · obtain ⟨x7, i7, h7, he7, _, hi7⟩ := spec_l1PickInt_ok b i6 h6 [(-1), 1000000, 1000001] hb hi6 (by decide)
        rw [if_neg c2, he7]
        exact ⟨_, _, _, _, _, _, _, _, rfl, by omega, hi7⟩

theorem spec_DrawShowGrant_ok (b : List Int) (hb : b.length ≤ 140737488351232) : ∃ (g f t s o e k : Int), Ev (fun n => spec_DrawShowGrant.f n b) (g, f, t, s, o, e, k) ∧ (-9223372036854775808 ≤ f ∧ f ≤ 9223372036854775807) ∧ (0 ≤ k ∧ k ≤ 1000001) := by
  obtain ⟨h0, hn⟩ := spec_l1New_ok b hb
  obtain ⟨k, i1, h1, e1, hk, hi1⟩ := spec_l5Key_ok b 0 h0 hb (by decide)
  obtain ⟨g, f, t, s, o, e, i2, h2, e2, r, hi2⟩ := spec_l5DrawGrant_ok b i1 h1 hb hi1
  refine ⟨g, f, t, s, o, e, k, ?_, r, hk⟩
  unfold spec_DrawShowGrant.f
  refine Ev.bind hn ?_
  simp only [e1, e2, Option.bind_some]
  exact Ev.now _

theorem impl_grantOk_eq (i f t s o e : Int) (h0 : -9223372036854775808 ≤ f) (h1 : f ≤ 9223372036854775807) : impl_grantOk.f i f t s o e = some (grantB i f t s o e) := by
  unfold impl_grantOk.f grantB
  simp only [impl_isKey_eq, impl_within_eq, impl_RestOk_eq, impl_isFor_eq f h0 h1, Option.bind_some]
  by_cases g1 : 1 ≤ i ∧ i ≤ 1000000 <;> by_cases g2 : forB f = true <;> by_cases g3 : 0 ≤ t ∧ t ≤ 1000000 <;> simp [g1, g2, g3]

theorem impl_ShowGrant_ev (i f t s o e k : Int) (h0 : -9223372036854775808 ≤ f) (h1 : f ≤ 9223372036854775807) : Ev (fun n => impl_ShowGrant.f n i f t s o e k) (sgS i f t s o e k) := by
  unfold impl_ShowGrant.f sgS
  simp only [impl_grantOk_eq i f t s o e h0 h1, Option.bind_some]
  by_cases h : grantB i f t s o e = true
  · simp only [h, if_true]
    have s1 := keyS_size i
    have s2 := numsS_size [f, t]
    have s3 := srS_size s o e
    have s4 := listS_size [keyS i, numsS [f, t], srS s o e]
    refine Ev.bind (impl_KeyTerm_ev i) (Ev.bind (impl_Nums_ev _ (by simp)) (Ev.bind (impl_ShowRest_ev s o e) (Ev.bind (impl_List_ev _ (by simp) (fun q hq => ?_)) (Ev.bind (impl_Seal_ev _ _ (by omega)) (Ev.now _)))))
    simp only [List.mem_cons, List.not_mem_nil, or_false] at hq
    rcases hq with rfl | rfl | rfl <;> omega
  · simp only [h]
    exact Ev.now _

theorem impl_ReadGrant_ev (s : ByteArray) (hs : s.size ≤ 1073741824) (key : Int) : Ev (fun k => impl_ReadGrant.f k s key) (rgS s key) := by
  have ho := opS_size s key
  unfold impl_ReadGrant.f
  refine Ev.bind (impl_Open_ev s (by omega) key) (Ev.bind (impl_Parts_ev _ (by omega)) ?_)
  by_cases h3 : (partsS (opS s key).1).1.length = 3
  · obtain ⟨p, q, r, hl⟩ : ∃ p q r, (partsS (opS s key).1).1 = [p, q, r] := by
      match (partsS (opS s key).1).1, h3 with
      | [p, q, r], _ => exact ⟨p, q, r, rfl⟩
    have zp : p.size ≤ 900 := mem_parts (by rw [hl]; simp)
    have zq : q.size ≤ 900 := mem_parts (by rw [hl]; simp)
    have zr : r.size ≤ 900 := mem_parts (by rw [hl]; simp)
    have r0 : rdOf ByteArray.empty [p, q, r] 0 = p := rfl
    have r1 : rdOf ByteArray.empty [p, q, r] 1 = q := rfl
    have r2 : rdOf ByteArray.empty [p, q, r] 2 = r := rfl
    have e3 : (([p, q, r] : List ByteArray).length : Int) = 3 := rfl
    simp only [hl, e3, if_true, r0, r1, r2, show (0 : Int) < 3 from by decide, show (1 : Int) < 3 from by decide, show (2 : Int) < 3 from by decide]
    refine Ev.bind (impl_ReadNums_ev q (by omega)) ?_
    by_cases h5 : (rnsS q).1.length = 2
    · obtain ⟨f, t, e⟩ : ∃ f t, (rnsS q).1 = [f, t] := by
        match (rnsS q).1, h5 with
        | [f, t], _ => exact ⟨f, t, rfl⟩
      have hq2 : (rnsS q).2 = true := by
        cases h : (rnsS q).2 with
        | true => rfl
        | false =>
          exfalso
          unfold rnsS at h e
          split at h
          · cases h
          · rename_i hh; rw [if_neg hh] at e; cases e
      have hb := (read_nums (Prod.ext e hq2)).2.2.2 f (by simp)
      have hiff := rg_iff hl e
      have d0 : rd [f, t] 0 = f := rfl
      have d1 : rd [f, t] 1 = t := rfl
      have e2 : (([f, t] : List Int).length : Int) = 2 := rfl
      simp only [e, e2, if_true, d0, d1, show (0 : Int) < 2 from by decide, show (1 : Int) < 2 from by decide]
      refine Ev.bind (impl_ReadKey_ev p (by omega)) (Ev.bind (impl_ReadRest_ev r (by omega)) (Ev.bind (impl_ShowGrant_ev _ f t _ _ _ key (by omega) (by omega)) ?_))
      rw [rgS_in hl e]
      simp only [toList_iff]
      by_cases he : sgS (rkS p).1 f t (rrS r).1 (rrS r).2.1 (rrS r).2.2.1 key = s
      · rw [if_pos (hiff.1 he)]
        simp only [he, if_true]
        exact Ev.now _
      · rw [if_neg (fun hh => he (hiff.2 hh))]
        simp only [he, if_false]
        exact Ev.now _
    · have h5' : ¬ (((rnsS q).1.length : Int) = 2) := by omega
      simp only [h5', if_false]
      exact ev_eq (Ev.now _) (rgS_len2 hl h5).symm
  · have h3' : ¬ (((partsS (opS s key).1).1.length : Int) = 3) := by omega
    simp only [h3', if_false]
    exact ev_eq (Ev.now _) (rgS_len h3).symm

theorem spec_l5GrantOk_eq (i f t s o e : Int) : spec_l5GrantOk.f i f t s o e = some (grantB i f t s o e) := by
  unfold spec_l5GrantOk.f grantB
  simp only [spec_l1In_eq, spec_l5Service_eq, spec_RestOk_eq, Option.bind_some]
  by_cases g1 : 1 ≤ i ∧ i ≤ 1000000 <;> by_cases g2 : forB f = true <;> by_cases g3 : 0 ≤ t ∧ t ≤ 1000000 <;> simp [g1, g2, g3]

theorem spec_ShowGrant_ev (i f t s o e k : Int) : Ev (fun n => spec_ShowGrant.f n i f t s o e k) (sgS i f t s o e k) := by
  unfold spec_ShowGrant.f sgS
  simp only [spec_l5GrantOk_eq i f t s o e, Option.bind_some]
  by_cases h : grantB i f t s o e = true
  · simp only [h, if_true]
    have s1 := keyS_size i
    have s2 := numsS_size [f, t]
    have s3 := srS_size s o e
    have s4 := listS_size [keyS i, numsS [f, t], srS s o e]
    refine Ev.bind (spec_KeyTerm_ev i) (Ev.bind (spec_Nums_ev _ (by simp)) (Ev.bind (spec_ShowRest_ev s o e) (Ev.bind (spec_List_ev _ (fun q hq => ?_)) (Ev.bind (spec_Seal_ev _ _ (by omega)) (Ev.now _)))))
    simp only [List.mem_cons, List.not_mem_nil, or_false] at hq
    rcases hq with rfl | rfl | rfl <;> omega
  · simp only [h]
    exact Ev.now _

theorem spec_DrawShowRest_ok (b : List Int) (hb : b.length ≤ 140737488351232) : ∃ (s o e : Int), Ev (fun n => spec_DrawShowRest.f n b) (s, o, e) := by
  obtain ⟨h0, hn⟩ := spec_l1New_ok b hb
  obtain ⟨s, o, e, i2, h2, e2, hi2⟩ := spec_l4Any_ok b 0 h0 hb (by decide)
  refine ⟨s, o, e, ?_⟩
  unfold spec_DrawShowRest.f
  refine Ev.bind hn ?_
  simp only [e2, Option.bind_some]
  exact Ev.now _

/-- A number that is shown parses at any depth but none. -/
theorem num_parse {n : Int} (h : 0 ≤ n ∧ n ≤ 562949953421311) (d : Nat) : parse (d + 1) (bl (numS n)) = some (bl (numS n)).length ∧ (numS n).size ≤ 15 := by
  obtain ⟨e, _, _⟩ := numS_in h
  have h7 := @var_size n
  have hm : (varS n).size ≤ MAXV := by unfold MAXV; omega
  have hb : bl (numS n) = 97 :: (var (varS n).size ++ bl (varS n)) := by
    rw [e, bl_append, bl_append, bl_varS hm]; rfl
  have hr := rv_var (varS n).size hm (bl (varS n))
  have hv : (var (varS n).size).length ≤ 7 := var_len _ 6 (by omega)
  have hl : (97 :: (var (varS n).size ++ bl (varS n))).length = 1 + (var (varS n).size).length + (varS n).size := by
    rw [List.length_cons, List.length_append, bl_len]; omega
  refine ⟨?_, by rw [← bl_len, hb, hl]; omega⟩
  rw [hb, hl]
  exact parse_atom hr (by omega) (by rw [List.length_append, bl_len]; omega)
theorem nums_many (d : Nat) : ∀ (l : List Int), (∀ n ∈ l, 0 ≤ n ∧ n ≤ 562949953421311) → many (parse (d + 1)) l.length (bl (cat (l.map numS))) = some (bl (cat (l.map numS))).length ∧ (cat (l.map numS)).size ≤ 15 * l.length := by
  intro l
  induction l with
  | nil => intro _; exact ⟨rfl, by decide⟩
  | cons n l ih =>
    intro h
    obtain ⟨i1, i2⟩ := ih (fun x hx => h x (List.mem_cons_of_mem _ hx))
    obtain ⟨p1, p2⟩ := num_parse (h n (List.mem_cons_self ..)) d
    rw [List.map_cons, cat_cons, bl_append]
    refine ⟨?_, by rw [ByteArray.size_append, List.length_cons]; omega⟩
    rw [List.length_cons, many_succ, parse_app p1]
    simp only []
    rw [List.drop_left, i1]
    simp [addO]
/-- Few numbers of the right size are shown. -/
theorem nums_ok {l : List Int} (h1 : l.length ≤ 12) (h2 : ∀ n ∈ l, 0 ≤ n ∧ n ≤ 562949953421311) : okS (numsS l) = true := by
  obtain ⟨m1, m2⟩ := nums_many 6 l h2
  have hl : (l.map numS).length ≤ MAXV := by rw [List.length_map]; unfold MAXV; omega
  have hb : bl (rawL (l.map numS)) = 108 :: (var l.length ++ bl (cat (l.map numS))) := by
    unfold rawL
    rw [bl_append, bl_append, bl_varS hl, List.length_map]; rfl
  have hr := rv_var l.length (by unfold MAXV; omega) (bl (cat (l.map numS)))
  have hv : (var l.length).length ≤ 7 := var_len _ 6 (by omega)
  have hlen : (108 :: (var l.length ++ bl (cat (l.map numS)))).length = 1 + (var l.length).length + (bl (cat (l.map numS))).length := by
    rw [List.length_cons, List.length_append]; omega
  have ho : okS (rawL (l.map numS)) = true := by
    unfold okS
    rw [termB_iff, hb, hlen]
    have := bl_len (cat (l.map numS))
    refine ⟨by omega, by omega, parse_list hr h1 ?_⟩
    rw [List.drop_left]
    exact m1
  have hall : (l.map numS).all okS = true := List.all_eq_true.2 (fun p hp => by
    obtain ⟨n, hn, rfl⟩ := List.mem_map.1 hp
    exact (numS_in (h2 n hn)).2.1)
  have hlen2 : (l.map numS).length ≤ 12 := by rw [List.length_map]; exact h1
  have e : numsS l = rawL (l.map numS) := by
    unfold numsS listS termS
    rw [if_pos ⟨h1, List.all_eq_true.2 (fun n hn => decide_eq_true (h2 n hn))⟩, if_pos ⟨hlen2, hall⟩, if_pos ho]
  rw [e]; exact ho
/-- A rest is read from what it is shown as. -/
theorem sr_back (s o e : Int) : rrS (srS s o e) = if restB s o e = true then (s, o, e, true) else (0, 0, 0, false) := by
  by_cases h : restB s o e = true
  · rw [if_pos h]
    refine rr_read h ?_
    have h' := h
    rw [restB_iff] at h'
    unfold srS
    rw [if_pos h]
    refine nums_ok (by simp) (fun n hn => ?_)
    simp only [List.mem_cons, List.not_mem_nil, or_false] at hn
    rcases hn with rfl | rfl | rfl <;> omega
  · rw [if_neg h]
    unfold srS
    rw [if_neg h]
    unfold rrS
    have : rnsS (⟨#[]⟩ : ByteArray) = ([], false) := rnsS_empty
    rw [this]
/-- A ticket is read with its key, and with no other. -/
theorem st_back {c f i s o e : Int} {p v : List Int} {k : Int} (h : stS c f i s o e p v k ≠ (⟨#[]⟩ : ByteArray)) : rtS (stS c f i s o e p v k) k = (c, f, i, s, o, e, p, v, true) ∧ ∀ j, j ≠ k → opS (stS c f i s o e p v k) j = (⟨#[]⟩, false) := by
  unfold stS at h ⊢
  split at h
  · rename_i hg
    rw [if_pos hg]
    obtain ⟨g1, _, g3, _, g5⟩ := seal_read h
    refine ⟨?_, g5⟩
    have hln : listS [numsS [c, f], keyS i, srS s o e, numsS p, numsS v] ≠ (⟨#[]⟩ : ByteArray) := by
      intro e; rw [e, empty_not_ok] at g3; cases g3
    obtain ⟨k1, _, _, k4⟩ := list_read hln
    have hg' := ticketB_out hg
    have w1 := rns_true (q := numsS [c, f]) rfl (k4 _ (by simp))
    have w2 := (key_read hg'.2.2.1).1
    have w3 := rr_read hg'.2.2.2.1 (k4 _ (by simp))
    have w4 := rns_true (q := numsS p) rfl (k4 _ (by simp))
    have w5 := rns_true (q := numsS v) rfl (k4 _ (by simp))
    have hl : (partsS (opS (sealS k (listS [numsS [c, f], keyS i, srS s o e, numsS p, numsS v])) k).1).1 = [numsS [c, f], keyS i, srS s o e, numsS p, numsS v] := by rw [g1]; simp only []; rw [k1]
    rw [rtS_in hl (by rw [w1]), w1, w2, w3, w4, w5]
    simp only [true_and]
    rw [if_pos hg]
  · exact absurd rfl h
theorem rt_none {s : ByteArray} {j : Int} (h : opS s j = (⟨#[]⟩, false)) : rtS s j = rtNo := rtS_len (by rw [h, parts_nil]; simp)
theorem st_all (c f i s o e : Int) (p v : List Int) (k : Int) : rtS (stS c f i s o e p v k) k = if stS c f i s o e p v k = (⟨#[]⟩ : ByteArray) then rtNo else (c, f, i, s, o, e, p, v, true) := by
  by_cases h : stS c f i s o e p v k = (⟨#[]⟩ : ByteArray)
  · rw [if_pos h, h, rt_none (op_nil k)]
  · rw [if_neg h]; exact (st_back h).1
theorem st_other (c f i s o e : Int) (p v : List Int) {k j : Int} (hj : j ≠ k) : rtS (stS c f i s o e p v k) j = rtNo := by
  by_cases h : stS c f i s o e p v k = (⟨#[]⟩ : ByteArray)
  · rw [h, rt_none (op_nil j)]
  · exact rt_none ((st_back h).2 j hj)
/-- A grant is read with its key, and with no other. -/
theorem rg_none {s : ByteArray} {j : Int} (h : opS s j = (⟨#[]⟩, false)) : rgS s j = (0, 0, 0, 0, 0, 0, false) := rgS_len (by rw [h, parts_nil]; simp)
theorem sg_back {i f t s o e k : Int} (h : sgS i f t s o e k ≠ (⟨#[]⟩ : ByteArray)) : rgS (sgS i f t s o e k) k = (i, f, t, s, o, e, true) ∧ ∀ j, j ≠ k → opS (sgS i f t s o e k) j = (⟨#[]⟩, false) := by
  unfold sgS at h ⊢
  split at h
  · rename_i hg
    rw [if_pos hg]
    obtain ⟨g1, _, g3, _, g5⟩ := seal_read h
    refine ⟨?_, g5⟩
    have hln : listS [keyS i, numsS [f, t], srS s o e] ≠ (⟨#[]⟩ : ByteArray) := by
      intro e; rw [e, empty_not_ok] at g3; cases g3
    obtain ⟨k1, _, _, k4⟩ := list_read hln
    have hg' := hg
    unfold grantB at hg'
    simp only [Bool.and_eq_true, decide_eq_true_eq] at hg'
    have w1 := (key_read hg'.1).1
    have w2 := rns_true (q := numsS [f, t]) rfl (k4 _ (by simp))
    have w3 := rr_read hg'.2.2.2 (k4 _ (by simp))
    have hl : (partsS (opS (sealS k (listS [keyS i, numsS [f, t], srS s o e])) k).1).1 = [keyS i, numsS [f, t], srS s o e] := by rw [g1]; simp only []; rw [k1]
    rw [rgS_in hl (by rw [w2]), w1, w2, w3]
    simp only [true_and]
    rw [if_pos hg]
  · exact absurd rfl h
theorem sg_all (i f t s o e k : Int) : rgS (sgS i f t s o e k) k = if sgS i f t s o e k = (⟨#[]⟩ : ByteArray) then (0, 0, 0, 0, 0, 0, false) else (i, f, t, s, o, e, true) := by
  by_cases h : sgS i f t s o e k = (⟨#[]⟩ : ByteArray)
  · rw [if_pos h, h, rg_none (op_nil k)]
  · rw [if_neg h]; exact (sg_back h).1
theorem sg_other (i f t s o e : Int) {k j : Int} (hj : j ≠ k) : rgS (sgS i f t s o e k) j = (0, 0, 0, 0, 0, 0, false) := by
  by_cases h : sgS i f t s o e k = (⟨#[]⟩ : ByteArray)
  · rw [h, rg_none (op_nil j)]
  · exact rg_none ((sg_back h).2 j hj)
/-- An authenticator is read with its key, with no other, and is no grant. -/
theorem sa_back {c t q k : Int} (h : saS c t q k ≠ (⟨#[]⟩ : ByteArray)) : rauS (saS c t q k) k = (c, t, q, true) ∧ (∀ j, j ≠ k → opS (saS c t q k) j = (⟨#[]⟩, false)) ∧ (partsS (opS (saS c t q k) k).1).1.length = 4 := by
  unfold saS at h ⊢
  split at h
  · rename_i hg
    rw [if_pos hg]
    obtain ⟨g1, _, g3, _, g5⟩ := seal_read h
    have hne : numsS [7, c, t, q] ≠ (⟨#[]⟩ : ByteArray) := by intro e; rw [e, empty_not_ok] at g3; cases g3
    have hn := (nums_read hne).1
    refine ⟨?_, g5, ?_⟩
    · unfold rauS
      rw [g1]
      simp only [hn]
      rw [if_pos ⟨trivial, hg⟩]
    · rw [g1]
      simp only []
      have hln : listS ([7, c, t, q].map numS) ≠ (⟨#[]⟩ : ByteArray) := by
        unfold numsS at hne
        split at hne
        · exact hne
        · exact absurd rfl hne
      have e : numsS [7, c, t, q] = listS ([7, c, t, q].map numS) := by
        unfold numsS at hne ⊢
        split at hne
        · rename_i hc; rw [if_pos hc]
        · exact absurd rfl hne
      rw [e, (list_read hln).1]
      rfl
  · exact absurd rfl h
theorem ra_none {s : ByteArray} {j : Int} (h : opS s j = (⟨#[]⟩, false)) : rauS s j = (0, 0, 0, false) := by
  unfold rauS
  rw [h, rnsS_empty]
theorem sa_all (c t q k : Int) : rauS (saS c t q k) k = if saS c t q k = (⟨#[]⟩ : ByteArray) then (0, 0, 0, false) else (c, t, q, true) := by
  by_cases h : saS c t q k = (⟨#[]⟩ : ByteArray)
  · rw [if_pos h, h, ra_none (op_nil k)]
  · rw [if_neg h]; exact (sa_back h).1
theorem sa_other (c t q : Int) {k j : Int} (hj : j ≠ k) : rauS (saS c t q k) j = (0, 0, 0, false) := by
  by_cases h : saS c t q k = (⟨#[]⟩ : ByteArray)
  · rw [h, ra_none (op_nil j)]
  · exact ra_none ((sa_back h).2.1 j hj)
theorem sa_grant (c t q k : Int) : rgS (saS c t q k) k = (0, 0, 0, 0, 0, 0, false) := by
  by_cases h : saS c t q k = (⟨#[]⟩ : ByteArray)
  · rw [h, rg_none (op_nil k)]
  · exact rgS_len (by rw [(sa_back h).2.2]; omega)

theorem empty_bne {x : ByteArray} (h : x = (⟨#[]⟩ : ByteArray)) : (x.toList != ([] : List UInt8)) = false := by
  rw [(toList_nil _).2 h]; rfl
theorem full_bne {x : ByteArray} (h : ¬ x = (⟨#[]⟩ : ByteArray)) : (x.toList != ([] : List UInt8)) = true := bne_iff_ne.2 (fun e => h ((toList_nil _).1 e))
theorem next_ne {k : Int} (h : 0 ≤ k ∧ k ≤ 1000001) : wrap64 (k + 1) ≠ k := by rw [w64 (x := k + 1) (by omega) (by omega)]; omega
theorem FnTickets : ∀ (l0 : List Int), l0.length ≤ maxLen → l0.length * 1 ≤ 140737488351232 → (∀ a ∈ l0, (Lit.int .u8 a).wf = true) → ∃ k, laws_FnTickets.f k l0 = some true := by
  intro b hm hb hw
  apply Ev.rounds
  unfold laws_FnTickets.f
  simp only [laws_big_eq, Option.bind_some]
  by_cases hbig : (b.length : Int) > 1048576
  · simp only [hbig, decide_true, if_true]; exact Ev.now _
  · simp only [hbig, decide_false, Bool.false_eq_true, if_false]
    have hb2 : b.length ≤ 140737488351232 := by omega
    obtain ⟨c, f, g, s, o, e, p, v, k, hd, hf, hp, hv, hk⟩ := spec_DrawShowTicket_ok b hb2
    have t1 := impl_ShowTicket_ev c f g s o e p v k hf.1 hf.2 (by omega) (by omega)
    have t2 := impl_ReadTicket_ev (stS c f g s o e p v k) (by have := stS_size c f g s o e p v k; omega) k
    have t3 := spec_ShowTicket_ev c f g s o e p v k (by omega) (by omega)
    have t4 := impl_ReadTicket_ev (stS c f g s o e p v k) (by have := stS_size c f g s o e p v k; omega) (wrap64 (k + 1))
    rw [st_all] at t2
    rw [st_other c f g s o e p v (next_ne hk)] at t4
    generalize stS c f g s o e p v k = S at t1 t2 t3 t4
    obtain ⟨c2, m2, q2, j, ad, hj⟩ := spec_DrawShowAuth_ok b hb2
    have a1 := impl_ShowAuth_ev c2 m2 q2 j
    have a2 := impl_ReadAuth_ev (saS c2 m2 q2 j) (by have := saS_size c2 m2 q2 j; omega) j
    have a3 := spec_ShowAuth_ev c2 m2 q2 j
    have a4 := impl_ReadAuth_ev (saS c2 m2 q2 j) (by have := saS_size c2 m2 q2 j; omega) (wrap64 (j + 1))
    have a5 := impl_ReadGrant_ev (saS c2 m2 q2 j) (by have := saS_size c2 m2 q2 j; omega) j
    rw [sa_all] at a2
    rw [sa_other c2 m2 q2 (next_ne hj)] at a4
    rw [sa_grant] at a5
    generalize saS c2 m2 q2 j = U at a1 a2 a3 a4 a5
    obtain ⟨g3, f3, n3, s3, o3, e3, i, gd, hf3, hi⟩ := spec_DrawShowGrant_ok b hb2
    have hgs : (sgS g3 f3 n3 s3 o3 e3 i).size ≤ 900 := by
      unfold sgS; split
      · exact sealS_size _ _
      · decide
    have g1 := impl_ShowGrant_ev g3 f3 n3 s3 o3 e3 i hf3.1 hf3.2
    have g2 := impl_ReadGrant_ev (sgS g3 f3 n3 s3 o3 e3 i) (by omega) i
    have g4 := spec_ShowGrant_ev g3 f3 n3 s3 o3 e3 i
    have g5 := impl_ReadGrant_ev (sgS g3 f3 n3 s3 o3 e3 i) (by omega) (wrap64 (i + 1))
    rw [sg_all] at g2
    rw [sg_other g3 f3 n3 s3 o3 e3 (next_ne hi)] at g5
    generalize sgS g3 f3 n3 s3 o3 e3 i = V at g1 g2 g4 g5
    obtain ⟨s4, o4, e4, rd4⟩ := spec_DrawShowRest_ok b hb2
    have r1 := impl_ShowRest_ev s4 o4 e4
    have r2 := impl_ReadRest_ev (srS s4 o4 e4) (by have := srS_size s4 o4 e4; omega)
    rw [sr_back] at r2
    have j2 : Ev (fun n => laws_FnTickets.j2 n b k S j U i V false) true := by
      refine Ev.step (f := fun n => laws_FnTickets.j2 (n + 1) b k S j U i V false) (fun n => rfl) ?_
      simp only [laws_FnTickets.j2, Bool.false_eq_true, if_false]
      refine Ev.bind t4 (Ev.bind a4 (Ev.bind g5 (Ev.bind a5 (Ev.bind rd4 (Ev.bind r1 (Ev.bind r2 ?_))))))
      simp only [rtNo, Bool.false_eq_true, if_false, spec_RestOk_eq, Option.bind_some]
      by_cases hr : restB s4 o4 e4 = true
      · simp only [hr, if_true, beq_self_eq_true, Bool.and_self]
        exact Ev.now _
      · have hr' : restB s4 o4 e4 = false := by simpa using hr
        simp only [hr', Bool.false_eq_true, if_false, beq_self_eq_true, if_true]
        exact Ev.now _
    have j1 : Ev (fun n => laws_FnTickets.j1 n b k S j U false) true := by
      refine Ev.step (f := fun n => laws_FnTickets.j1 (n + 1) b k S j U false) (fun n => rfl) ?_
      simp only [laws_FnTickets.j1, Bool.false_eq_true, if_false]
      refine Ev.bind gd (Ev.bind g1 (Ev.bind g2 (Ev.bind g4 ?_)))
      by_cases hz : V = (⟨#[]⟩ : ByteArray)
      · rw [if_pos hz]
        simp only [empty_bne hz, bne_self_eq_false, Bool.false_eq_true, if_false]
        exact j2
      · rw [if_neg hz]
        simp only [full_bne hz, bne_self_eq_false, Bool.false_eq_true, if_false, if_true, beq_self_eq_true, Bool.not_true, Bool.or_self]
        exact j2
    have j0 : Ev (fun n => laws_FnTickets.j0 n b k S false) true := by
      refine Ev.step (f := fun n => laws_FnTickets.j0 (n + 1) b k S false) (fun n => rfl) ?_
      simp only [laws_FnTickets.j0, Bool.false_eq_true, if_false]
      refine Ev.bind ad (Ev.bind a1 (Ev.bind a2 (Ev.bind a3 ?_)))
      by_cases hz : U = (⟨#[]⟩ : ByteArray)
      · rw [if_pos hz]
        simp only [empty_bne hz, bne_self_eq_false, Bool.false_eq_true, if_false]
        exact j1
      · rw [if_neg hz]
        simp only [full_bne hz, bne_self_eq_false, Bool.false_eq_true, if_false, if_true, beq_self_eq_true, Bool.not_true, Bool.or_self]
        exact j1
    refine Ev.bind hd (Ev.bind t1 (Ev.bind t2 (Ev.bind t3 ?_)))
    by_cases hz : S = (⟨#[]⟩ : ByteArray)
    · rw [if_pos hz]
      simp only [rtNo, empty_bne hz, bne_self_eq_false, Bool.false_eq_true, if_false]
      exact j0
    · rw [if_neg hz]
      simp only [full_bne hz, bne_self_eq_false, Bool.false_eq_true, if_false, if_true, beq_self_eq_true, Bool.not_true, Bool.or_self]
      refine Ev.bind (laws_sameInts_self p (by omega)) ?_
      simp only [if_true]
      refine Ev.bind (laws_sameInts_self v (by omega)) ?_
      simp only [Bool.not_true]
      exact j0

end Go.Proofs.Ytaldemgfndmmlaa.Pure
