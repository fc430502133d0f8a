/- The library's sort of numbers, as these walks call it: a row of the call's own is handed over, and comes back sorted; for every row, an empty one too. -/
import Derived.Test.YthlpfghlildllaaOWord
import Derived.Test.YthlpfghlildllaaOShelf
import Derived.Sort.OwnSortedInts
namespace Go.Proofs.Ythlpfghlildllaa.OWord
open Go.RowKit Go.Sort Go.Shelf Go.Proofs.YthlpfghlildllaaW.PrintWords Go.Proofs.YthlpfghlildllaaW.PrintLast Go.Proofs.YthlpfghlildllaaW.PrintMore
set_option linter.unusedVariables false
def slices_Sort.f (l : List Int) : Option (List Int) := if l.length < 4611686018427387904 then some (l.mergeSort fun x y => decide (x ≤ y)) else none
theorem reps_ints {R : Int → List Value → Prop} (hR : ∀ x cs, R x cs ↔ cs = [.int .i64 x]) : ∀ (l : List Int) (inner : List Value), Reps R 1 l inner ↔ inner = l.map (Value.int .i64) := by
  intro l inner
  constructor
  · rintro ⟨h1, h2⟩
    refine List.ext_getElem (by simp [h1]) (fun i h3 h4 => ?_)
    have hi : i < l.length := by simpa using h4
    have h5 := (hR _ _).1 (h2 i l[i] (List.getElem?_eq_getElem hi))
    rw [Nat.mul_one] at h5
    have h6 : (List.take 1 (List.drop i inner))[0]? = some (Value.int .i64 l[i]) := by rw [h5]; rfl
    rw [List.getElem?_take_of_lt (by decide), List.getElem?_drop, Nat.add_zero, List.getElem?_eq_getElem h3] at h6
    simpa using h6
  · rintro rfl
    refine ⟨by simp, fun j p hj => (hR _ _).2 ?_⟩
    obtain ⟨hjl, rfl⟩ := List.getElem?_eq_some_iff.1 hj
    rw [Nat.mul_one]
    apply List.ext_getElem?
    intro i
    by_cases hi : i < 1
    · have : i = 0 := by omega
      subst this
      rw [List.getElem?_take_of_lt (by decide), List.getElem?_drop, Nat.add_zero]
      simp [hjl]
    · rw [List.getElem?_take_eq_none (by omega), List.getElem?_eq_none (by simp; omega)]
theorem slices_Sort.calls (P0_ : Nat → Prop) (u_ : Value) (l0 : List Int) (r : List Int) (w0 w : World) (hB : Below w0.heap.size w0 w) (ho0 : Kd.R (Kd.int .i64) 3 w w0.heap.size P0_ u_ l0) (h : slices_Sort.f l0 = some r) :
    Calls Try.prog 54 #[u_] w fun e w' => e = .returned (.tuple #[]) ∧ Kd.R (Kd.int .i64) 3 w' w0.heap.size (fun k_ => (P0_ k_ ∨ w.heap.size ≤ k_)) u_ r ∧ Below w0.heap.size w0 w' ∧ Kept w w' (fun k_ => P0_ k_) := by
  unfold slices_Sort.f at h
  have hlen : l0.length < 4611686018427387904 := by
    by_cases hc : l0.length < 4611686018427387904
    · exact hc
    · rw [if_neg hc] at h; cases h
  rw [if_pos hlen] at h
  obtain rfl := Option.some.inj h
  obtain ⟨hok, inner, ho, hr⟩ := ho0
  obtain rfl := (reps_ints (fun x cs => Iff.rfl) l0 inner).1 hr
  have hz : (Kd.int .i64).sz = 1 := rfl
  by_cases hn : l0.length = 0
  · have e0 : l0 = [] := List.eq_nil_of_length_eq_zero hn
    subst e0
    have hsl : ∃ p cap, u_ = .slice p 0 cap := by
      rcases ho.2 with ⟨e, _⟩ | ⟨g, cap, cur, e, _⟩
      · exact ⟨none, 0, e⟩
      · exact ⟨_, cap, e⟩
    obtain ⟨p, cap, rfl⟩ := hsl
    refine (Any.slices_Sort_int_none Try.lays189 p cap w).mono ?_
    rintro e w' ⟨rfl, rfl⟩
    have em : ([] : List Int).mergeSort (fun x y => decide (x ≤ y)) = [] := by simp
    rw [em]
    exact ⟨rfl, ⟨fun k hk => .inl (hok k hk), _, ho, hr⟩, hB, Kept.refl _ _⟩
  · rcases ho.2 with ⟨_, e⟩ | ⟨g, cap, cur, rfl, hbase, hb, h1, h2, h3, h4⟩
    · exact absurd e hn
    · rw [hz, Nat.mul_one] at h4
      have hg : g < w.heap.size := (Array.getElem?_eq_some_iff.1 hb).1
      refine (Try.slices_Sort_int g 0 cap l0 w (holds_of_blockI hb h4) hg hlen).mono ?_
      rintro e w' ⟨rfl, n, os, rfl⟩
      have hl : (l0.mergeSort fun x y => decide (x ≤ y)).length = l0.length := by simp
      have hrow := ownsRow_sortedI (n := n) (os := os) hl hbase hb h1 h2 h3
      have hgr := grownBy_sortedI (w := w) (g := g) (n := n) (os := os) (l0.mergeSort fun x y => decide (x ≤ y)).toArray
      refine ⟨rfl, ⟨fun k hk => .inl (hok k hk), _, by rw [hl]; exact hrow, (reps_ints (fun x cs => Iff.rfl) _ _).2 rfl⟩, hB.grown hgr hB.size (fun k hk => by cases hk; exact hbase), Kept.of_grown hgr (Kept.refl _ _) (fun k hk => by cases hk; exact .inl (hok g rfl))⟩
end Go.Proofs.Ythlpfghlildllaa.OWord
