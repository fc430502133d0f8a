-- walks of this claim, written by a program of mine
import Derived.Test.YtaldemgfndmmlaaOFnTicketsx0
namespace Go.Proofs.Ytaldemgfndmmlaa.OFnTickets
open Go.RowKit Go.Proofs.Ytaldemgfndmmlaa.OWord Go.Proofs.YtaldemgfndmmlaaW.PrintWords Go.Proofs.YtaldemgfndmmlaaW.PrintLast Go.Proofs.YtaldemgfndmmlaaW.PrintMore
attribute [local go_sem] max2_int min2_int max_two min_two max_three min_three max_four min_four   -- for this text's walks alone
set_option linter.unusedVariables false
set_option linter.unusedSimpArgs false

/-! ### laws_big: function 4 -/
def laws_big.f (l0 : List Int) : Option (Bool) := some (decide ((l0.length : Int) > 1048576))
set_option maxHeartbeats 8000000 in
set_option maxRecDepth 100000 in
theorem laws_big.calls (A0 : Option Addr) (c0 : Nat) (l0 : List Int) (r : Bool) (w : World) (hr0 : Kd.C (Kd.int .u8) w A0 l0.length l0) (hc0 : l0.length ≤ c0) (h : laws_big.f l0 = some r) :
  Calls Try.prog 4 #[.slice A0 l0.length c0] w fun e w' => e = .returned (.bool r) ∧ Drawn0 w w' := by
 have HR0 := Aside0.mk hr0
 have HC0 := Aside0.mk hc0
 clear hr0 hc0
 have H := h
 clear h
 unfold laws_big.f at H
 obtain rfl := Option.some.inj H
 go_enter Try.func4, Try.ntmps4
 go_wp2
 go_ret
 exact ⟨eX, (by repeat (first | exact Drawn0.refl _ | apply Drawn0.step))⟩

/-- A state of type 79 at block g of W; what its slices lead to came in by w0. -/
def IsS79 (w0 W : World) (g : Nat) (f0 : List Int) (f1 : Int) (f2 : Int) : Prop := ∃ A0 c0, W.heap[g]? = some (.cells #[.slice A0 f0.length c0, .int .i64 f1, .int .i64 f2] 79 (0, 0)) ∧ w0.heap.size ≤ g ∧ Kd.C (Kd.int .u8) w0 A0 f0.length f0
theorem IsS79.grown {w0 W : World} {g : Nat} {f0 : List Int} {f1 : Int} {f2 : Int} {W1 : World} {row : Option Nat} (h : IsS79 w0 W g f0 f1 f2) (hw : W.grownBy W1 row) (hne : some g ≠ row) : IsS79 w0 W1 g f0 f1 f2 := by
 obtain ⟨A0, c0, hb, hg, hr0⟩ := h
 exact ⟨A0, c0, blk_grown hb hw hne, hg, hr0⟩
theorem IsS79.own_neN {w0 W : World} {g : Nat} {f0 : List Int} {f1 : Int} {f2 : Int} {α : Type} {d : Kd α} {e : Nat} {base : Nat} {ok : Nat → Prop} {v : Value} {xs : List α} (h : IsS79 w0 W g f0 f1 f2) (ho : Kd.N d e W base ok v xs) (ht : e ≠ 79) : some g ≠ v.ownBlock := by
 obtain ⟨A0, c0, hb, hg, hr0⟩ := h
 exact Kd.N_ne ho hb ht
theorem IsS79.fresh {w0 W : World} {g : Nat} {f0 : List Int} {f1 : Int} {f2 : Int} (h : IsS79 w0 W g f0 f1 f2) : ∀ k, W.heap.size ≤ k → k ≠ g := by
 obtain ⟨A0, c0, hb, hg, hr0⟩ := h
 exact Kd.freshB hb
theorem IsS79.kept {w0 W : World} {g : Nat} {f0 : List Int} {f1 : Int} {f2 : Int} {W1 : World} {S : Nat → Prop} (h : IsS79 w0 W g f0 f1 f2) (hk : Kept W W1 S) (hne : ¬ S g) : IsS79 w0 W1 g f0 f1 f2 := by
 obtain ⟨A0, c0, hb, hg, hr0⟩ := h
 exact ⟨A0, c0, blk_kept hb hk hne, hg, hr0⟩
theorem IsS79.below {w0 W : World} {g : Nat} {f0 : List Int} {f1 : Int} {f2 : Int} {W1 : World} (h : IsS79 w0 W g f0 f1 f2) (hw : Below W.heap.size W W1) : IsS79 w0 W1 g f0 f1 f2 := h.grown (grown_of_below hw none) (by simp)
theorem IsS79.alloc {w0 W : World} {g : Nat} {f0 : List Int} {f1 : Int} {f2 : Int} (h : IsS79 w0 W g f0 f1 f2) (o : Obj) : IsS79 w0 (W.alloc o) g f0 f1 f2 := h.below (below_alloc (Below.refl _ _) o)
theorem IsS79.drewN {w0 W : World} {g : Nat} {f0 : List Int} {f1 : Int} {f2 : Int} (h : IsS79 w0 W g f0 f1 f2) (m : Nat) : IsS79 w0 (W.drewN m) g f0 f1 f2 := h
theorem IsS79.drew {w0 W : World} {g : Nat} {f0 : List Int} {f1 : Int} {f2 : Int} (h : IsS79 w0 W g f0 f1 f2) : IsS79 w0 W.drew g f0 f1 f2 := h
theorem IsS79.at_ {w0 W : World} {g : Nat} {f0 : List Int} {f1 : Int} {f2 : Int} {w' : World} {m : Nat} (hq : W.drewN m = w') (h : IsS79 w0 W g f0 f1 f2) : IsS79 w0 w' g f0 f1 f2 := by subst hq; exact IsS79.drewN h m
theorem IsS79.apart {w0 W : World} {g : Nat} {f0 : List Int} {f1 : Int} {f2 : Int} {α : Type} {d : Kd α} {e : Nat} {base : Nat} {ok : Nat → Prop} {v : Value} {xs : List α} (h : IsS79 w0 W g f0 f1 f2) (ho : d.R e W base ok v xs) (ht : ∀ q, q ∈ e :: d.E → q ≠ 79) : d.R e W base (fun k => ok k ∧ k ≠ g) v xs := by
 obtain ⟨A0, c0, hb, hg, hr0⟩ := h
 exact Kd.R_types ho hb ht
theorem IsS79.own_ne {w0 W : World} {g : Nat} {f0 : List Int} {f1 : Int} {f2 : Int} {α : Type} {d : Kd α} {e : Nat} {base : Nat} {ok : Nat → Prop} {v : Value} {xs : List α} (h : IsS79 w0 W g f0 f1 f2) (ho : d.R e W base ok v xs) (ht : e ≠ 79) : some g ≠ v.ownBlock := by
 obtain ⟨A0, c0, hb, hg, hr0⟩ := h
 exact Kd.R_ne ho hb ht
theorem IsS79.apartQ {w0 W : World} {g : Nat} {f0 : List Int} {f1 : Int} {f2 : Int} {α : Type} {d : Kd α} {e : Nat} {base : Nat} {ok : Nat → Prop} {v : Value} {xs : List α} (h : IsS79 w0 W g f0 f1 f2) (ho : d.Q e W base ok v xs) (ht : ∀ q, q ∈ e :: d.E → q ≠ 79) : d.Q e W base (fun k => ok k ∧ k ≠ g) v xs := by
 obtain ⟨A0, c0, hb, hg, hr0⟩ := h
 exact Kd.Q_types ho hb ht
theorem IsS79.own_neQ {w0 W : World} {g : Nat} {f0 : List Int} {f1 : Int} {f2 : Int} {α : Type} {d : Kd α} {e : Nat} {base : Nat} {ok : Nat → Prop} {v : Value} {xs : List α} (h : IsS79 w0 W g f0 f1 f2) (ho : d.Q e W base ok v xs) (ht : e ≠ 79) : some g ≠ v.ownBlock := by
 obtain ⟨A0, c0, hb, hg, hr0⟩ := h
 exact Kd.Q_ne ho hb ht
theorem IsS79.apartS {w0 W : World} {g : Nat} {f0 : List Int} {f1 : Int} {f2 : Int} {α : Type} {d : Kd α} {e : Nat} {base : Nat} {ok : Nat → Prop} {v : Value} {xs : List α} (h : IsS79 w0 W g f0 f1 f2) (ho : d.S e W base ok v xs) (ht : ∀ q, q ∈ e :: d.E → q ≠ 79) : d.S e W base (fun k => ok k ∧ k ≠ g) v xs := by
 obtain ⟨A0, c0, hb, hg, hr0⟩ := h
 exact Kd.S_types ho hb ht
theorem IsS79.own_neS {w0 W : World} {g : Nat} {f0 : List Int} {f1 : Int} {f2 : Int} {α : Type} {d : Kd α} {e : Nat} {base : Nat} {ok : Nat → Prop} {v : Value} {xs : List α} (h : IsS79 w0 W g f0 f1 f2) (ho : d.S e W base ok v xs) (ht : e ≠ 79) : some g ≠ v.ownBlock := by
 obtain ⟨A0, c0, hb, hg, hr0⟩ := h
 exact Kd.S_ne ho hb ht
theorem IsS79.lt {w0 W : World} {g : Nat} {f0 : List Int} {f1 : Int} {f2 : Int} (h : IsS79 w0 W g f0 f1 f2) : g < W.heap.size := by
 obtain ⟨A0, c0, hb, hg, hr0⟩ := h
 exact blk_lt hb
theorem IsS79.ge {w0 W : World} {g : Nat} {f0 : List Int} {f1 : Int} {f2 : Int} (h : IsS79 w0 W g f0 f1 f2) : w0.heap.size ≤ g := by
 obtain ⟨A0, c0, hb, hg, hr0⟩ := h
 exact hg
theorem IsS79.ne_blk {w0 W : World} {g : Nat} {f0 : List Int} {f1 : Int} {f2 : Int} {a : Nat} {cs : Array Value} {t : TypeId} {fr : Nat × Nat} (h : IsS79 w0 W g f0 f1 f2) (hb2 : W.heap[a]? = some (.cells cs t fr)) (ht : t ≠ 79) : g ≠ a := by
 obtain ⟨A0, c0, hb, hg, hr0⟩ := h
 rintro rfl
 rw [hb] at hb2
 injection hb2 with hb2
 injection hb2 with _ ht2
 exact ht ht2.symm
theorem IsS79.far {w0 W : World} {g : Nat} {f0 : List Int} {f1 : Int} {f2 : Int} {p : Addr} (h : IsS79 w0 W g f0 f1 f2) (hne : g ≠ p.block) (u : Value) : IsS79 w0 (W.setCell p u) g f0 f1 f2 := by
 obtain ⟨A0, c0, hb, hg, hr0⟩ := h
 exact ⟨A0, c0, blk_far hb hne u, hg, hr0⟩
theorem cellS79_0 {W : World} {g : Nat} {A0 : Option Addr} {c0 : Nat} {f0 : List Int} {f1 : Int} {f2 : Int} (h : W.heap[g]? = some (.cells #[.slice A0 f0.length c0, .int .i64 f1, .int .i64 f2] 79 (0, 0))) : W.cell? ⟨g, 0, none⟩ = some (.slice A0 f0.length c0) := (blk_cell h 0).trans rfl
theorem cellS79_1 {W : World} {g : Nat} {A0 : Option Addr} {c0 : Nat} {f0 : List Int} {f1 : Int} {f2 : Int} (h : W.heap[g]? = some (.cells #[.slice A0 f0.length c0, .int .i64 f1, .int .i64 f2] 79 (0, 0))) : W.cell? ⟨g, 1, none⟩ = some (.int .i64 f1) := (blk_cell h 1).trans rfl
theorem IsS79.set_1 {w0 W : World} {g : Nat} {f0 : List Int} {f1 : Int} {f2 : Int} (h : IsS79 w0 W g f0 f1 f2) (x : Int) : IsS79 w0 (W.setCell ⟨g, 1, none⟩ (.int .i64 x)) g f0 x f2 := by
 obtain ⟨A0, c0, hb, hg, hr0⟩ := h
 exact ⟨A0, c0, (by simpa using blk_set hb 1 (.int .i64 x)), hg, hr0⟩
theorem cellS79_2 {W : World} {g : Nat} {A0 : Option Addr} {c0 : Nat} {f0 : List Int} {f1 : Int} {f2 : Int} (h : W.heap[g]? = some (.cells #[.slice A0 f0.length c0, .int .i64 f1, .int .i64 f2] 79 (0, 0))) : W.cell? ⟨g, 2, none⟩ = some (.int .i64 f2) := (blk_cell h 2).trans rfl
theorem IsS79.set_2 {w0 W : World} {g : Nat} {f0 : List Int} {f1 : Int} {f2 : Int} (h : IsS79 w0 W g f0 f1 f2) (x : Int) : IsS79 w0 (W.setCell ⟨g, 2, none⟩ (.int .i64 x)) g f0 f1 x := by
 obtain ⟨A0, c0, hb, hg, hr0⟩ := h
 exact ⟨A0, c0, (by simpa using blk_set hb 2 (.int .i64 x)), hg, hr0⟩
theorem IsS79.new (w0 W : World) (A0 : Option Addr) (c0 : Nat) (f0 : List Int) (f1 : Int) (f2 : Int) (hB : Below w0.heap.size w0 W) (hr0 : Kd.C (Kd.int .u8) w0 A0 f0.length f0) : IsS79 w0 (W.alloc (.cells #[.slice A0 f0.length c0, .int .i64 f1, .int .i64 f2] 79)) W.heap.size f0 f1 f2 := ⟨A0, c0, (by simpa using heap_alloc_new W _), hB.size, hr0⟩

theorem IsS79.qHI0 {p : Prop} (h : p := by repeat (first | (with_reducible first | exact HI0.out | apply IsS79.alloc | apply IsS79.drewN | apply IsS79.drew | apply IsS79.set_1 | apply IsS79.set_2 | refine IsS79.far ?_ (Aside0.out (by assumption)) _) | exact HI0.out)) : p := h
theorem IsS79.bHI0 {p : Prop} (h : p := by repeat (first | (with_reducible first | exact HB.out | apply below_alloc | apply pw_below_drewN | apply below_drew1 | refine below_set ?_ (IsS79.ge HI0.out) | refine below_set ?_ (Aside0.out (by assumption))) | exact HB.out)) : p := h
theorem IsS79.qHI266 {p : Prop} (h : p := by repeat (first | (with_reducible first | exact HI266.out | apply IsS79.alloc | apply IsS79.drewN | apply IsS79.drew | apply IsS79.set_1 | apply IsS79.set_2 | refine IsS79.far ?_ (Aside0.out (by assumption)) _) | exact HI266.out)) : p := h
theorem IsS79.bHI266 {p : Prop} (h : p := by repeat (first | (with_reducible first | exact HB.out | apply below_alloc | apply pw_below_drewN | apply below_drew1 | refine below_set ?_ (IsS79.ge HI266.out) | refine below_set ?_ (Aside0.out (by assumption))) | exact HB.out)) : p := h
theorem IsS79.qHI581 {p : Prop} (h : p := by repeat (first | (with_reducible first | exact HI581.out | apply IsS79.alloc | apply IsS79.drewN | apply IsS79.drew | apply IsS79.set_1 | apply IsS79.set_2 | refine IsS79.far ?_ (Aside0.out (by assumption)) _) | exact HI581.out)) : p := h
theorem IsS79.bHI581 {p : Prop} (h : p := by repeat (first | (with_reducible first | exact HB.out | apply below_alloc | apply pw_below_drewN | apply below_drew1 | refine below_set ?_ (IsS79.ge HI581.out) | refine below_set ?_ (Aside0.out (by assumption))) | exact HB.out)) : p := h
theorem IsS79.qHI671 {p : Prop} (h : p := by repeat (first | (with_reducible first | exact HI671.out | apply IsS79.alloc | apply IsS79.drewN | apply IsS79.drew | apply IsS79.set_1 | apply IsS79.set_2 | refine IsS79.far ?_ (Aside0.out (by assumption)) _) | exact HI671.out)) : p := h
theorem IsS79.bHI671 {p : Prop} (h : p := by repeat (first | (with_reducible first | exact HB.out | apply below_alloc | apply pw_below_drewN | apply below_drew1 | refine below_set ?_ (IsS79.ge HI671.out) | refine below_set ?_ (Aside0.out (by assumption))) | exact HB.out)) : p := h
theorem IsS79.qHI747 {p : Prop} (h : p := by repeat (first | (with_reducible first | exact HI747.out | apply IsS79.alloc | apply IsS79.drewN | apply IsS79.drew | apply IsS79.set_1 | apply IsS79.set_2 | refine IsS79.far ?_ (Aside0.out (by assumption)) _) | exact HI747.out)) : p := h
theorem IsS79.bHI747 {p : Prop} (h : p := by repeat (first | (with_reducible first | exact HB.out | apply below_alloc | apply pw_below_drewN | apply below_drew1 | refine below_set ?_ (IsS79.ge HI747.out) | refine below_set ?_ (Aside0.out (by assumption))) | exact HB.out)) : p := h
theorem IsS79.rK {w0 W : World} {g : Nat} {f0 : List Int} {f1 : Int} {f2 : Int} {α : Type} {d : Kd α} {e : Nat} {base : Nat} {ok : Nat → Prop} {v : Value} {xs : List α} {w1 : World} (hk : KeepBut W w1 g none) (ho : d.R e W base ok v xs) (h : IsS79 w0 W g f0 f1 f2) (ht : ∀ q, q ∈ e :: d.E → q ≠ 79 := by decide) : d.R e w1 base ok v xs := Kd.R_mono (Kd.R_keep (IsS79.apart h ho ht) hk (fun _ h => h.2)) (fun _ h => h.1)
/-! ### spec_l1New: function 22 -/
def spec_l1New.l0 : Nat → List Int → Int → Int → Option (List Int × Int × Int)
 | 0, _, _, _ => none
 | k + 1, x0, x3, x4 => if x4 < (x0.length : Int) then (if x4 < 4000 then (if 0 ≤ x4 then (spec_l1New.l0 k x0 (Go.bits .and .i64 (wrap64 ((wrap64 ((wrap64 (x3 * 131)) + (wrap64 (rd x0 x4)))) + 7)) 1073741823) (wrap64 (x4 + 1))) else (none)) else (some (x0, 0, x3))) else (some (x0, 0, x3))
def spec_l1New.f (k : Nat) (l0 : List Int) : Option (List Int × Int × Int) := spec_l1New.l0 k l0 (wrap64 (10101 + (l0.length : Int))) 0
set_option maxHeartbeats 8000000 in
set_option maxRecDepth 100000 in
theorem spec_l1New.calls (k : Nat) (A0 : Option Addr) (c0 : Nat) (l0 : List Int) (r1 : List Int) (r2 : Int) (r3 : Int) (w0 w : World) (hB : Below w0.heap.size w0 w) (hr0 : Kd.C (Kd.int .u8) w0 A0 l0.length l0) (hc0 : l0.length ≤ c0) (h : spec_l1New.f k l0 = some (r1, r2, r3)) :
  Calls Try.prog 22 #[.slice A0 l0.length c0] w fun e w' => ∃ g_ : Nat, e = .returned (.pointer (some ⟨g_, 0, none⟩)) ∧ IsS79 w0 w' g_ r1 r2 r3 ∧ Below w0.heap.size w0 w' ∧ Below w.heap.size w w' := by
 have hu79 := Try.underlying79
 have HR0 := Aside0.mk hr0
 have HC0 := Aside0.mk hc0
 clear hr0 hc0
 have HBW := Aside0.mk (Below.refl w.heap.size w)
 have HW0 := Aside0.mk hB.size
 have HB := Aside0.mk hB
 clear hB
 have H := h
 clear h
 unfold spec_l1New.f at H
 have H' := Aside0.mk H
 clear H
 go_enter Try.func22, Try.ntmps22
 go_wp2
 go_loopg [3, 4] k (fun kq v3 v4 w' => ∃ (x3_1 : Int) (x4_1 : Int), v3 = .int .i64 x3_1 ∧ v4 = .int .i64 x4_1 ∧ Aside0 (spec_l1New.l0 kq l0 x3_1 x4_1 = some (r1, r2, r3)) ∧ Aside0 (kq ≤ k) ∧ Aside0 (Below w0.heap.size w0 w') ∧ Aside0 (Below w.heap.size w w'))
 case atStart => exact ⟨(wrap64 (10101 + (l0.length : Int))), (0), eX, eX, H', ⟨Nat.le_refl _⟩, ⟨bH⟩, ⟨(by repeat (first | (with_reducible first | exact HBW.out | apply below_alloc | apply pw_below_drewN | apply below_drew1) | exact HBW.out))⟩⟩
 clear H'
 obtain ⟨x3_1, x4_1, rfl, rfl, HA, HK1, HB, HBW⟩ := hrel
 obtain _ | k1 := gk
 ·exact absurd HA.out (by simp [spec_l1New.l0])
 have H := HA.out
 clear HA
 simp only [spec_l1New.l0] at H
 by_cases c2 : x4_1 < (l0.length : Int)
 ·rw [if_pos c2] at H
  have c2b0 := decide_eq_true c2
  clear c2
  by_cases c3 : x4_1 < 4000
  ·rw [if_pos c3] at H
   have c3b0 := decide_eq_true c3
   clear c3
   by_cases c4 : 0 ≤ x4_1
   ·rw [if_pos c4] at H
    have c4b0 := decide_eq_true c4
    clear c4
    have H' := Aside0.mk H
    clear H
    have p101 : 0 ≤ (x4_1 : Int) := of_decide_eq_true aA
    have q101 : x4_1 < (l0.length : Int) := of_decide_eq_true aA
    obtain ⟨ad101, e101, hx101_0⟩ := Kd.at_int HR0.out x4_1 p101 q101
    cases e101
    replace hx101_0 := pw_cell_below HB.out hx101_0
    replace p101 := eq_true p101
    replace q101 := eq_true q101
    go_wp2
    go_roundg k1
    case measure => have := HK1.out; omega
    case rel => exact ⟨(Go.bits .and .i64 (wrap64 ((wrap64 ((wrap64 (x3_1 * 131)) + (wrap64 (rd l0 x4_1)))) + 7)) 1073741823), (wrap64 (x4_1 + 1)), eX, eX, H', ⟨(by have := HK1.out; omega)⟩, ⟨bH⟩, ⟨(by repeat (first | (with_reducible first | exact HBW.out | apply below_alloc | apply pw_below_drewN | apply below_drew1) | exact HBW.out))⟩⟩
   rw [if_neg c4] at H
   exact absurd H (by simp)
  rw [if_neg c3] at H
  have c3b0 := decide_eq_false c3
  clear c3
  simp only [Option.some.injEq, Prod.mk.injEq] at H
  obtain ⟨rfl, rfl, rfl⟩ := H
  go_wp2_with (first | ((with_reducible refine gD 31 rfl ?_); refine bE #[.slice A0 l0.length c0, .int .i64 0, .int .i64 x3_1] 79 ?_; intro gb102 hg w5 hbox hb; have n_ := aT (below_step HBW.out hb) (aT (below_step bH hb) (aT (hbox) (aT ((by rw [hg]; exact (below_size (by repeat (first | (with_reducible first | exact HBW.out | apply below_alloc | apply pw_below_drewN | apply below_drew1) | exact HBW.out))) : w.heap.size ≤ gb102)) (aM ((Nat.le_trans HW0.out (by rw [hg]; exact (below_size (by repeat (first | (with_reducible first | exact HBW.out | apply below_alloc | apply pw_below_drewN | apply below_drew1) | exact HBW.out))) : w.heap.size ≤ gb102) : w0.heap.size ≤ gb102)))))); clear HBW HB; obtain ⟨HBW, HB, BK102, GW102, GE102⟩ := n_; clear hb hbox hg))
  go_ret
  exact ⟨_, rfl, (show IsS79 w0 _ gb102 l0 0 x3_1 from ⟨_, _, (kB BK102.out), GE102.out, HR0.out⟩), bS, (by repeat (first | (with_reducible first | exact HBW.out | apply below_alloc | apply pw_below_drewN | apply below_drew1 | refine below_set ?_ GW102.out) | exact HBW.out))⟩
 rw [if_neg c2] at H
 have c2b0 := decide_eq_false c2
 clear c2
 simp only [Option.some.injEq, Prod.mk.injEq] at H
 obtain ⟨rfl, rfl, rfl⟩ := H
 go_wp2_with (first | ((with_reducible refine gD 31 rfl ?_); refine bE #[.slice A0 l0.length c0, .int .i64 0, .int .i64 x3_1] 79 ?_; intro gb103 hg w6 hbox hb; have n_ := aT (below_step HBW.out hb) (aT (below_step bH hb) (aT (hbox) (aT ((by rw [hg]; exact (below_size (by repeat (first | (with_reducible first | exact HBW.out | apply below_alloc | apply pw_below_drewN | apply below_drew1) | exact HBW.out))) : w.heap.size ≤ gb103)) (aM ((Nat.le_trans HW0.out (by rw [hg]; exact (below_size (by repeat (first | (with_reducible first | exact HBW.out | apply below_alloc | apply pw_below_drewN | apply below_drew1) | exact HBW.out))) : w.heap.size ≤ gb103) : w0.heap.size ≤ gb103)))))); clear HBW HB; obtain ⟨HBW, HB, BK103, GW103, GE103⟩ := n_; clear hb hbox hg))
 go_ret
 exact ⟨_, rfl, (show IsS79 w0 _ gb103 l0 0 x3_1 from ⟨_, _, (kB BK103.out), GE103.out, HR0.out⟩), bS, (by repeat (first | (with_reducible first | exact HBW.out | apply below_alloc | apply pw_below_drewN | apply below_drew1 | refine below_set ?_ GW103.out) | exact HBW.out))⟩

/-! ### spec_l1Byte: function 77 -/
def spec_l1Byte.f (s0_0 : List Int) (s0_1 : Int) (s0_2 : Int) : Option (Int × Int × Int) := if s0_1 < (s0_0.length : Int) then (if 0 ≤ s0_1 then (some (Go.bits .and .i64 (wrap64 ((Go.bits .and .i64 (Go.bits .xor .i64 ((wrap64 ((wrap64 (s0_2 * 6364136223846793005)) + 1442695040888963407)) / 8589934592) ((wrap64 ((wrap64 (s0_2 * 6364136223846793005)) + 1442695040888963407)) / 35184372088832)) 255) + (wrap64 (rd s0_0 s0_1)))) 255, wrap64 (s0_1 + 1), wrap64 ((wrap64 (s0_2 * 6364136223846793005)) + 1442695040888963407))) else (none)) else (some (Go.bits .and .i64 (Go.bits .xor .i64 ((wrap64 ((wrap64 (s0_2 * 6364136223846793005)) + 1442695040888963407)) / 8589934592) ((wrap64 ((wrap64 (s0_2 * 6364136223846793005)) + 1442695040888963407)) / 35184372088832)) 255, s0_1, wrap64 ((wrap64 (s0_2 * 6364136223846793005)) + 1442695040888963407)))
set_option maxHeartbeats 8000000 in
set_option maxRecDepth 100000 in
theorem spec_l1Byte.calls (g : Nat) (s0_0 : List Int) (s0_1 : Int) (s0_2 : Int) (r1 : Int) (r2 : Int) (r3 : Int) (w0 w : World) (hI : IsS79 w0 w g s0_0 s0_1 s0_2) (hB : Below w0.heap.size w0 w) (h : spec_l1Byte.f s0_0 s0_1 s0_2 = some (r1, r2, r3)) :
  Calls Try.prog 77 #[.pointer (some ⟨g, 0, none⟩)] w fun e w' => e = .returned (.int .i64 r1) ∧ IsS79 w0 w' g s0_0 r2 r3 ∧ Below w0.heap.size w0 w' ∧ KeepBut w w' g none := by
 have HI0 := Aside0.mk hI
 have HK := Aside0.mk (KeepBut.refl w g none)
 have HL := Aside0.mk hB.size
 clear hI
 have HW0 := Aside0.mk hB.size
 have HB := Aside0.mk hB
 clear hB
 have H := h
 clear h
 unfold spec_l1Byte.f at H
 by_cases c2 : s0_1 < (s0_0.length : Int)
 ·rw [if_pos c2] at H
  have c2b0 := decide_eq_true c2
  clear c2
  by_cases c3 : 0 ≤ s0_1
  ·rw [if_pos c3] at H
   have c3b0 := decide_eq_true c3
   clear c3
   simp only [Option.some.injEq, Prod.mk.injEq] at H
   obtain ⟨rfl, rfl, rfl⟩ := H
   obtain ⟨ASz4_0, cSz4_0, HGz4, hgz4, HSz4_0⟩ := HI0.out
   have hcz4_0 := cellS79_0 HGz4
   have hcz4_1 := cellS79_1 HGz4
   have hcz4_2 := cellS79_2 HGz4
   have hfz4_1 := blk_frozen HGz4 1
   have hfz4_2 := blk_frozen HGz4 2
   clear HGz4 hgz4
   have p104 : 0 ≤ (s0_1 : Int) := of_decide_eq_true aA
   have q104 : s0_1 < (s0_0.length : Int) := of_decide_eq_true aA
   obtain ⟨ad104, e104, hx104_0⟩ := Kd.at_int HSz4_0 s0_1 p104 q104
   cases e104
   have hn104_0 : ad104.block ≠ g := Nat.ne_of_lt (Nat.lt_of_lt_of_le (by have := World.block_lt_of_cell? _ _ hx104_0; first | rwa [add_block] at this | exact this) (IsS79.ge HI0.out))
   replace hx104_0 := pw_cell_below HB.out hx104_0
   replace hx104_0 := (cell_far (p := ⟨g, 2, none⟩) (by first | (rw [add_block]; exact hn104_0) | (show (Addr.add _ _).block ≠ _; rw [add_block]; exact hn104_0) | exact hn104_0) (.int .i64 (wrap64 ((wrap64 (s0_2 * 6364136223846793005)) + 1442695040888963407)))).trans hx104_0
   (try have hy104_0 := fun (n_ : Nat) => (show (((w.drewN n_).setCell ⟨g, 2, none⟩ (.int .i64 (wrap64 ((wrap64 (s0_2 * 6364136223846793005)) + 1442695040888963407))))).cell? _ = some _ from hx104_0))
   clear hn104_0
   replace p104 := eq_true p104
   replace q104 := eq_true q104
   go_enter Try.func77, Try.ntmps77
   go_wp2
   repeat (go_quiet (fail); try go_wp2)
   go_ret
   exact ⟨eE, IsS79.qHI0, IsS79.bHI0, kK⟩
  rw [if_neg c3] at H
  exact absurd H (by simp)
 rw [if_neg c2] at H
 have c2b0 := decide_eq_false c2
 clear c2
 simp only [Option.some.injEq, Prod.mk.injEq] at H
 obtain ⟨rfl, rfl, rfl⟩ := H
 obtain ⟨ASz5_0, cSz5_0, HGz5, hgz5, HSz5_0⟩ := HI0.out
 have hcz5_0 := cellS79_0 HGz5
 have hcz5_1 := cellS79_1 HGz5
 have hcz5_2 := cellS79_2 HGz5
 have hfz5_1 := blk_frozen HGz5 1
 have hfz5_2 := blk_frozen HGz5 2
 clear HGz5 hgz5
 go_enter Try.func77, Try.ntmps77
 go_wp2
 repeat (go_quiet (fail); try go_wp2)
 go_ret
 exact ⟨eE, IsS79.qHI0, IsS79.bHI0, kK⟩

/-! ### spec_l1Below: function 50 -/
def spec_l1Below.f (s0_0 : List Int) (s0_1 : Int) (s0_2 : Int) (a1 : Int) : Option (Int × Int × Int) := if a1 ≤ 0 then (some (0, s0_1, s0_2)) else (if a1 ≤ 256 then ((spec_l1Byte.f s0_0 s0_1 s0_2).bind fun bt105 => (if a1 = 0 then (none) else (some (Int.tmod bt105.1 a1, bt105.2.1, bt105.2.2)))) else ((spec_l1Byte.f s0_0 s0_1 s0_2).bind fun bt108 => ((spec_l1Byte.f s0_0 bt108.2.1 bt108.2.2).bind fun bt111 => ((spec_l1Byte.f s0_0 bt111.2.1 bt111.2.2).bind fun bt114 => ((spec_l1Byte.f s0_0 bt114.2.1 bt114.2.2).bind fun bt117 => (if a1 = 0 then (none) else (some (Int.tmod (wrap64 ((wrap64 ((wrap64 ((wrap64 (bt108.1 * 16777216)) + (wrap64 (bt111.1 * 65536)))) + (wrap64 (bt114.1 * 256)))) + bt117.1)) a1, bt117.2.1, bt117.2.2))))))))
set_option maxHeartbeats 8000000 in
set_option maxRecDepth 100000 in
theorem spec_l1Below.calls (g : Nat) (s0_0 : List Int) (s0_1 : Int) (s0_2 : Int) (a1 : Int) (r1 : Int) (r2 : Int) (r3 : Int) (w0 w : World) (hI : IsS79 w0 w g s0_0 s0_1 s0_2) (hB : Below w0.heap.size w0 w) (h : spec_l1Below.f s0_0 s0_1 s0_2 a1 = some (r1, r2, r3)) :
  Calls Try.prog 50 #[.pointer (some ⟨g, 0, none⟩), .int .i64 a1] w fun e w' => e = .returned (.int .i64 r1) ∧ IsS79 w0 w' g s0_0 r2 r3 ∧ Below w0.heap.size w0 w' ∧ KeepBut w w' g none := by
 have HI0 := Aside0.mk hI
 have HK := Aside0.mk (KeepBut.refl w g none)
 have HL := Aside0.mk hB.size
 clear hI
 have HW0 := Aside0.mk hB.size
 have HB := Aside0.mk hB
 clear hB
 have H := h
 clear h
 unfold spec_l1Below.f at H
 by_cases c3 : a1 ≤ 0
 ·rw [if_pos c3] at H
  have c3b0 := decide_eq_true c3
  clear c3
  simp only [Option.some.injEq, Prod.mk.injEq] at H
  obtain ⟨rfl, rfl, rfl⟩ := H
  go_enter Try.func50, Try.ntmps50
  go_wp2
  go_ret
  exact ⟨eE, IsS79.qHI0, IsS79.bHI0, kK⟩
 rw [if_neg c3] at H
 have c3b0 := decide_eq_false c3
 clear c3
 by_cases c4 : a1 ≤ 256
 ·rw [if_pos c4] at H
  have c4b0 := decide_eq_true c4
  clear c4
  obtain ⟨⟨t105, t106, t107⟩, A5, H⟩ := oB H
  dsimp only at H
  by_cases c6 : a1 = 0
  ·rw [if_pos c6] at H
   exact absurd H (by simp)
  rw [if_neg c6] at H
  have c6b0 : (a1 == 0) = false := beq_eq_false_iff_ne.mpr c6
  have c6b1 : (a1 != 0) = true := bne_iff_ne.mpr c6
  simp only [Option.some.injEq, Prod.mk.injEq] at H
  obtain ⟨rfl, rfl, rfl⟩ := H
  go_enter Try.func50, Try.ntmps50
  go_wp2_with (first | ((with_reducible refine gC 77 rfl ?_); refine gL (some 14) Try.func77 #[.pointer (some ⟨g, 0, none⟩)] ?_; (with_reducible refine (spec_l1Byte.calls g s0_0 s0_1 s0_2 t105 t106 t107 w0 _ ?side1 ?side2 A5.out).mono ?_); (case side1 => exact IsS79.qHI0); (case side2 => exact IsS79.bHI0); rintro e w7 ⟨rfl, hi, hb, hk⟩; refine ⟨_, rfl, ?_⟩; have n_ := aT (KeepBut.trans kK hk (.inl rfl)) (aT (hb) (aM (hi))); clear HK HB HI0; obtain ⟨HK, HB, HI0⟩ := n_; (try clear hb); (try clear hk); (try clear hi)))
  go_ret
  exact ⟨eE, IsS79.qHI0, IsS79.bHI0, kK⟩
 rw [if_neg c4] at H
 have c4b0 := decide_eq_false c4
 clear c4
 obtain ⟨⟨t108, t109, t110⟩, A8, H⟩ := oB H
 dsimp only at H
 obtain ⟨⟨t111, t112, t113⟩, A9, H⟩ := oB H
 dsimp only at H
 obtain ⟨⟨t114, t115, t116⟩, A10, H⟩ := oB H
 dsimp only at H
 obtain ⟨⟨t117, t118, t119⟩, A11, H⟩ := oB H
 dsimp only at H
 by_cases c12 : a1 = 0
 ·rw [if_pos c12] at H
  exact absurd H (by simp)
 rw [if_neg c12] at H
 have c12b0 : (a1 == 0) = false := beq_eq_false_iff_ne.mpr c12
 have c12b1 : (a1 != 0) = true := bne_iff_ne.mpr c12
 simp only [Option.some.injEq, Prod.mk.injEq] at H
 obtain ⟨rfl, rfl, rfl⟩ := H
 go_enter Try.func50, Try.ntmps50
 go_wp2_with (first | ((with_reducible refine gC 77 rfl ?_); refine gL (some 18) Try.func77 #[.pointer (some ⟨g, 0, none⟩)] ?_; (with_reducible refine (spec_l1Byte.calls g s0_0 s0_1 s0_2 t108 t109 t110 w0 _ ?side1 ?side2 A8.out).mono ?_); (case side1 => exact IsS79.qHI0); (case side2 => exact IsS79.bHI0); rintro e w13 ⟨rfl, hi, hb, hk⟩; refine ⟨_, rfl, ?_⟩; have n_ := aT (KeepBut.trans kK hk (.inl rfl)) (aT (hb) (aM (hi))); clear HK HB HI0; obtain ⟨HK, HB, HI0⟩ := n_; (try clear hb); (try clear hk); (try clear hi)) | ((with_reducible refine gC 77 rfl ?_); refine gL (some 20) Try.func77 #[.pointer (some ⟨g, 0, none⟩)] ?_; (with_reducible refine (spec_l1Byte.calls g s0_0 t109 t110 t111 t112 t113 w0 _ ?side1 ?side2 A9.out).mono ?_); (case side1 => exact IsS79.qHI0); (case side2 => exact IsS79.bHI0); rintro e w14 ⟨rfl, hi, hb, hk⟩; refine ⟨_, rfl, ?_⟩; have n_ := aT (KeepBut.trans kK hk (.inl rfl)) (aT (hb) (aM (hi))); clear HK HB HI0; obtain ⟨HK, HB, HI0⟩ := n_; (try clear hb); (try clear hk); (try clear hi)) | ((with_reducible refine gC 77 rfl ?_); refine gL (some 22) Try.func77 #[.pointer (some ⟨g, 0, none⟩)] ?_; (with_reducible refine (spec_l1Byte.calls g s0_0 t112 t113 t114 t115 t116 w0 _ ?side1 ?side2 A10.out).mono ?_); (case side1 => exact IsS79.qHI0); (case side2 => exact IsS79.bHI0); rintro e w15 ⟨rfl, hi, hb, hk⟩; refine ⟨_, rfl, ?_⟩; have n_ := aT (KeepBut.trans kK hk (.inl rfl)) (aT (hb) (aM (hi))); clear HK HB HI0; obtain ⟨HK, HB, HI0⟩ := n_; (try clear hb); (try clear hk); (try clear hi)) | ((with_reducible refine gC 77 rfl ?_); refine gL (some 24) Try.func77 #[.pointer (some ⟨g, 0, none⟩)] ?_; (with_reducible refine (spec_l1Byte.calls g s0_0 t115 t116 t117 t118 t119 w0 _ ?side1 ?side2 A11.out).mono ?_); (case side1 => exact IsS79.qHI0); (case side2 => exact IsS79.bHI0); rintro e w16 ⟨rfl, hi, hb, hk⟩; refine ⟨_, rfl, ?_⟩; have n_ := aT (KeepBut.trans kK hk (.inl rfl)) (aT (hb) (aM (hi))); clear HK HB HI0; obtain ⟨HK, HB, HI0⟩ := n_; (try clear hb); (try clear hk); (try clear hi)))
 go_ret
 exact ⟨eE, IsS79.qHI0, IsS79.bHI0, kK⟩

/-! ### spec_l1PickInt: function 49 -/
def spec_l1PickInt.f (s0_0 : List Int) (s0_1 : Int) (s0_2 : Int) (l1 : List Int) : Option (Int × Int × Int) := (spec_l1Below.f s0_0 s0_1 s0_2 (l1.length : Int)).bind fun bt120 => (if 0 ≤ bt120.1 then (if bt120.1 < (l1.length : Int) then (some (rd l1 bt120.1, bt120.2.1, bt120.2.2)) else (none)) else (none))
set_option maxHeartbeats 8000000 in
set_option maxRecDepth 100000 in
theorem spec_l1PickInt.calls (g : Nat) (s0_0 : List Int) (s0_1 : Int) (s0_2 : Int) (A1 : Option Addr) (c1 : Nat) (l1 : List Int) (r1 : Int) (r2 : Int) (r3 : Int) (w0 w : World) (hI : IsS79 w0 w g s0_0 s0_1 s0_2) (hB : Below w0.heap.size w0 w) (hr1 : Kd.C (Kd.int .i64) w A1 l1.length l1) (hc1 : l1.length ≤ c1) (hf1 : ∀ ad, A1 = some ad → 0 < l1.length → ad.block ≠ g) (h : spec_l1PickInt.f s0_0 s0_1 s0_2 l1 = some (r1, r2, r3)) :
  Calls Try.prog 49 #[.pointer (some ⟨g, 0, none⟩), .slice A1 l1.length c1] w fun e w' => e = .returned (.int .i64 r1) ∧ IsS79 w0 w' g s0_0 r2 r3 ∧ Below w0.heap.size w0 w' ∧ KeepBut w w' g none := by
 have HR1 := Aside0.mk hr1
 have HC1 := Aside0.mk hc1
 clear hr1 hc1
 have HI0 := Aside0.mk hI
 have HK := Aside0.mk (KeepBut.refl w g none)
 have HL := Aside0.mk hB.size
 clear hI
 have HW0 := Aside0.mk hB.size
 have HB := Aside0.mk hB
 clear hB
 have H := h
 clear h
 unfold spec_l1PickInt.f at H
 obtain ⟨⟨t120, t121, t122⟩, A3, H⟩ := oB H
 dsimp only at H
 by_cases c4 : 0 ≤ t120
 ·rw [if_pos c4] at H
  have c4b0 := decide_eq_true c4
  clear c4
  by_cases c5 : t120 < (l1.length : Int)
  ·rw [if_pos c5] at H
   have c5b0 := decide_eq_true c5
   clear c5
   simp only [Option.some.injEq, Prod.mk.injEq] at H
   obtain ⟨rfl, rfl, rfl⟩ := H
   go_enter Try.func49, Try.ntmps49
   go_wp2_with (first | ((with_reducible refine gC 50 rfl ?_); refine gL (some 9) Try.func50 #[.pointer (some ⟨g, 0, none⟩), .int .i64 (l1.length : Int)] ?_; (with_reducible refine (spec_l1Below.calls g s0_0 s0_1 s0_2 (l1.length : Int) t120 t121 t122 w0 _ ?side1 ?side2 A3.out).mono ?_); (case side1 => exact IsS79.qHI0); (case side2 => exact IsS79.bHI0); rintro e w6 ⟨rfl, hi, hb, hk⟩; refine ⟨_, rfl, ?_⟩; have n_ := aT (KeepBut.trans kK hk (.inl rfl)) (aT (hb) (aM (hi))); clear HK HB HI0; obtain ⟨HK, HB, HI0⟩ := n_; (try clear hb); (try clear hk); (try clear hi); have p123 : 0 ≤ (t120 : Int) := of_decide_eq_true aA; have q123 : t120 < (l1.length : Int) := of_decide_eq_true aA; obtain ⟨ad123, e123, hx123_0⟩ := Kd.at_int HR1.out t120 p123 q123; cases e123; replace hx123_0 := keep_cell HK.out hx123_0 (by first | (rw [add_block]; exact hf1 _ rfl (by omega)) | exact hf1 _ rfl (by omega) | exact hf1 ad123 rfl (by omega)); replace p123 := eq_true p123; replace q123 := eq_true q123))
   go_ret
   exact ⟨eE, IsS79.qHI0, IsS79.bHI0, kK⟩
  rw [if_neg c5] at H
  exact absurd H (by simp)
 rw [if_neg c4] at H
 exact absurd H (by simp)

/-! ### spec_l5Key: function 23 -/
def spec_l5Key.f (s0_0 : List Int) (s0_1 : Int) (s0_2 : Int) : Option (Int × Int × Int) := (spec_l1PickInt.f s0_0 s0_1 s0_2 (([1, 11, 21, 21, 101, 0, 1000001] : List Int))).bind fun bt127 => (some (bt127.1, bt127.2.1, bt127.2.2))
set_option maxHeartbeats 8000000 in
set_option maxRecDepth 100000 in
theorem spec_l5Key.calls (g : Nat) (s0_0 : List Int) (s0_1 : Int) (s0_2 : Int) (r1 : Int) (r2 : Int) (r3 : Int) (w0 w : World) (hI : IsS79 w0 w g s0_0 s0_1 s0_2) (hB : Below w0.heap.size w0 w) (h : spec_l5Key.f s0_0 s0_1 s0_2 = some (r1, r2, r3)) :
  Calls Try.prog 23 #[.pointer (some ⟨g, 0, none⟩)] w fun e w' => e = .returned (.int .i64 r1) ∧ IsS79 w0 w' g s0_0 r2 r3 ∧ Below w0.heap.size w0 w' ∧ KeepBut w w' g none := by
 have HI0 := Aside0.mk hI
 have HK := Aside0.mk (KeepBut.refl w g none)
 have HL := Aside0.mk hB.size
 clear hI
 have HW0 := Aside0.mk hB.size
 have HB := Aside0.mk hB
 clear hB
 have H := h
 clear h
 unfold spec_l5Key.f at H
 obtain ⟨y124, hy124⟩ : ∃ y_ : List Int, y_ = (([1, 11, 21, 21, 101, 0, 1000001] : List Int)) := ⟨_, rfl⟩
 replace H : ((spec_l1PickInt.f s0_0 s0_1 s0_2 y124).bind fun bt127 => (some (bt127.1, bt127.2.1, bt127.2.2))) = some (r1, r2, r3) := by first | (rw [hy124]; with_reducible exact H) | (have H2_ := (Option.bind_some _ _).symm.trans H; rw [hy124]; with_reducible exact H2_) | (have H2_ := (Option.bind_some _ _).symm.trans H; with_reducible exact H2_) | with_reducible exact H | (rw [hy124]; exact H) | exact H
 have Ny124 := Aside0.mk hy124
 clear hy124
 obtain ⟨⟨t127, t128, t129⟩, A2, H⟩ := oB H
 dsimp only at H
 simp only [Option.some.injEq, Prod.mk.injEq] at H
 obtain ⟨rfl, rfl, rfl⟩ := H
 go_enter Try.func23, Try.ntmps23
 go_wp2_with (first | ((with_reducible refine gate_dst (N := 4) rfl ?_); refine Kd.R_lit (Kd.int .i64) _ 3 ?hg (N := 4) ?hd (xs := ([1, 11, 21, 21, 101, 0, 1000001] : List Int)) (inner := [.int .i64 1, .int .i64 11, .int .i64 21, .int .i64 21, .int .i64 101, .int .i64 0, .int .i64 1000001]) (ok := fun _ => True) (okp := fun _ => True) ?hr ?hp (fun _ hk => hk) trivial (Below.refl _ _) (Nat.le_refl _) (by simp) ?_; (case hd => rfl); (case hg => rfl); (case hr => first | (go_simp; done) | (go_simp; rfl)); (case hp => exact (Reps.one (show Kd.M (Kd.int .i64) _ _ _ 1 [.int .i64 1] from rfl) (Reps.one (show Kd.M (Kd.int .i64) _ _ _ 11 [.int .i64 11] from rfl) (Reps.one (show Kd.M (Kd.int .i64) _ _ _ 21 [.int .i64 21] from rfl) (Reps.one (show Kd.M (Kd.int .i64) _ _ _ 21 [.int .i64 21] from rfl) (Reps.one (show Kd.M (Kd.int .i64) _ _ _ 101 [.int .i64 101] from rfl) (Reps.one (show Kd.M (Kd.int .i64) _ _ _ 0 [.int .i64 0] from rfl) (Reps.one (show Kd.M (Kd.int .i64) _ _ _ 1000001 [.int .i64 1000001] from rfl) (Reps.none _ _))))))))); intro v125 w3 ho4 hb hg_ hnew_; clear hg_ hnew_; (first | rw [← Ny124.out] at ho4 | (simp only [Int.reduceToNat] at ho4; rw [← Ny124.out] at ho4)); have n_ := aT (Kd.R_lower ho4 kL) (aT (IsS79.below IsS79.qHI0 hb) (aT (KeepBut.trans kK (KeepBut.of_below hb g none) (.inl rfl)) (aM (below_step IsS79.bHI0 hb)))); clear HI0 HK HB; obtain ⟨HO126, HI0, HK, HB⟩ := n_; clear hb ho4; obtain ⟨Ao5, co5, eo5⟩ := Kd.R_slice HO126.out; subst eo5) | ((with_reducible refine gC 49 rfl ?_); refine gL (some 5) Try.func49 #[.pointer (some ⟨g, 0, none⟩), .slice Ao5 y124.length co5] ?_; (with_reducible refine (spec_l1PickInt.calls g s0_0 s0_1 s0_2 _ _ y124 t127 t128 t129 w0 _ ?side1 ?side2 ?side3 ?side4 ?side5 A2.out).mono ?_); (case side1 => exact IsS79.qHI0); (case side2 => exact IsS79.bHI0); (case side3 => exact cA ((Kd.R_reads' HO126.out).2.2)); (case side4 => exact (Kd.R_reads' HO126.out).2.1); (case side5 => exact far_slice (IsS79.own_ne HI0.out HO126.out (by decide))); rintro e w6 ⟨rfl, hi, hb, hk⟩; refine ⟨_, rfl, ?_⟩; have n_ := aT (IsS79.rK hk (kR HO126.out) (show IsS79 w0 _ g s0_0 s0_1 s0_2 from IsS79.qHI0)) (aT (KeepBut.trans kK hk (.inl rfl)) (aT (hb) (aM (hi)))); clear HO126 HK HB HI0; obtain ⟨HO126, HK, HB, HI0⟩ := n_; (try clear hb); (try clear hk); (try clear hi)))
 go_ret
 exact ⟨eE, IsS79.qHI0, IsS79.bHI0, kK⟩

/-! ### spec_l1Once: function 52 -/
def spec_l1Once.f (s0_0 : List Int) (s0_1 : Int) (s0_2 : Int) (a1 : Int) : Option (Bool × Int × Int) := (spec_l1Below.f s0_0 s0_1 s0_2 a1).bind fun bt130 => (some ((bt130.1 == 0), bt130.2.1, bt130.2.2))
set_option maxHeartbeats 8000000 in
set_option maxRecDepth 100000 in
theorem spec_l1Once.calls (g : Nat) (s0_0 : List Int) (s0_1 : Int) (s0_2 : Int) (a1 : Int) (r1 : Bool) (r2 : Int) (r3 : Int) (w0 w : World) (hI : IsS79 w0 w g s0_0 s0_1 s0_2) (hB : Below w0.heap.size w0 w) (h : spec_l1Once.f s0_0 s0_1 s0_2 a1 = some (r1, r2, r3)) :
  Calls Try.prog 52 #[.pointer (some ⟨g, 0, none⟩), .int .i64 a1] w fun e w' => e = .returned (.bool r1) ∧ IsS79 w0 w' g s0_0 r2 r3 ∧ Below w0.heap.size w0 w' ∧ KeepBut w w' g none := by
 have HI0 := Aside0.mk hI
 have HK := Aside0.mk (KeepBut.refl w g none)
 have HL := Aside0.mk hB.size
 clear hI
 have HW0 := Aside0.mk hB.size
 have HB := Aside0.mk hB
 clear hB
 have H := h
 clear h
 unfold spec_l1Once.f at H
 obtain ⟨⟨t130, t131, t132⟩, A3, H⟩ := oB H
 dsimp only at H
 simp only [Option.some.injEq, Prod.mk.injEq] at H
 obtain ⟨rfl, rfl, rfl⟩ := H
 go_enter Try.func52, Try.ntmps52
 go_wp2_with (first | ((with_reducible refine gC 50 rfl ?_); refine gL (some 7) Try.func50 #[.pointer (some ⟨g, 0, none⟩), .int .i64 a1] ?_; (with_reducible refine (spec_l1Below.calls g s0_0 s0_1 s0_2 a1 t130 t131 t132 w0 _ ?side1 ?side2 A3.out).mono ?_); (case side1 => exact IsS79.qHI0); (case side2 => exact IsS79.bHI0); rintro e w4 ⟨rfl, hi, hb, hk⟩; refine ⟨_, rfl, ?_⟩; have n_ := aT (KeepBut.trans kK hk (.inl rfl)) (aT (hb) (aM (hi))); clear HK HB HI0; obtain ⟨HK, HB, HI0⟩ := n_; (try clear hb); (try clear hk); (try clear hi)))
 go_ret
 exact ⟨eE, IsS79.qHI0, IsS79.bHI0, kK⟩

/-! ### spec_l4Rest: function 51 -/
def spec_l4Rest.f (s0_0 : List Int) (s0_1 : Int) (s0_2 : Int) : Option (Int × Int × Int × Int × Int) := (spec_l1Below.f s0_0 s0_1 s0_2 8).bind fun bt134 => ((spec_l1Below.f s0_0 bt134.2.1 bt134.2.2 256).bind fun bt137 => ((spec_l1Below.f s0_0 bt137.2.1 bt137.2.2 90).bind fun bt140 => ((spec_l1Once.f s0_0 bt140.2.1 bt140.2.2 3).bind fun bt144 => (if bt144.1 = true then ((spec_l1Once.f s0_0 bt144.2.1 bt144.2.2 3).bind fun bt147 => (if bt147.1 = true then (some (7, 255, bt140.1, bt147.2.1, bt147.2.2)) else (some (7, bt137.1, bt140.1, bt147.2.1, bt147.2.2)))) else ((spec_l1Once.f s0_0 bt144.2.1 bt144.2.2 3).bind fun bt150 => (if bt150.1 = true then (some (bt134.1, 255, bt140.1, bt150.2.1, bt150.2.2)) else (some (bt134.1, bt137.1, bt140.1, bt150.2.1, bt150.2.2))))))))
set_option maxHeartbeats 8000000 in
set_option maxRecDepth 100000 in
theorem spec_l4Rest.calls (g : Nat) (s0_0 : List Int) (s0_1 : Int) (s0_2 : Int) (r1 : Int) (r2 : Int) (r3 : Int) (r4 : Int) (r5 : Int) (w0 w : World) (hI : IsS79 w0 w g s0_0 s0_1 s0_2) (hB : Below w0.heap.size w0 w) (h : spec_l4Rest.f s0_0 s0_1 s0_2 = some (r1, r2, r3, r4, r5)) :
  Calls Try.prog 51 #[.pointer (some ⟨g, 0, none⟩)] w fun e w' => e = .returned (.agg #[.int .i64 r1, .int .i64 r2, .int .i64 r3]) ∧ IsS79 w0 w' g s0_0 r4 r5 ∧ Below w0.heap.size w0 w' ∧ KeepBut w w' g none := by
 have hu25 := Try.underlying25
 have HI0 := Aside0.mk hI
 have HK := Aside0.mk (KeepBut.refl w g none)
 have HL := Aside0.mk hB.size
 clear hI
 have HW0 := Aside0.mk hB.size
 have HB := Aside0.mk hB
 clear hB
 have H := h
 clear h
 unfold spec_l4Rest.f at H
 obtain ⟨⟨t134, t135, t136⟩, A2, H⟩ := oB H
 dsimp only at H
 obtain ⟨⟨t137, t138, t139⟩, A3, H⟩ := oB H
 dsimp only at H
 obtain ⟨⟨t140, t141, t142⟩, A4, H⟩ := oB H
 dsimp only at H
 obtain ⟨⟨t144, t145, t146⟩, A5, H⟩ := oB H
 dsimp only at H
 by_cases c6 : t144 = true
 ·subst c6
  rw [if_pos rfl] at H
  obtain ⟨⟨t147, t148, t149⟩, A7, H⟩ := oB H
  dsimp only at H
  by_cases c8 : t147 = true
  ·subst c8
   rw [if_pos rfl] at H
   simp only [Option.some.injEq, Prod.mk.injEq] at H
   obtain ⟨rfl, rfl, rfl, rfl, rfl⟩ := H
   go_enter Try.func51, Try.ntmps51
   go_wp2_with (first | ((with_reducible refine gD 2 rfl ?_); refine bE #[.int .i64 0, .int .i64 0, .int .i64 0] 25 ?_; intro gb133 hg w9 hbox hb; have n_ := aT (IsS79.below IsS79.qHI0 hb) (aT (KeepBut.trans kK (KeepBut.of_below hb g none) (.inl rfl)) (aT (below_step IsS79.bHI0 hb) (aT (hbox) (aT ((kZ hg : w.heap.size ≤ gb133)) (aT ((Nat.le_trans HW0.out (kZ hg : w.heap.size ≤ gb133) : w0.heap.size ≤ gb133)) (aT ((by rw [hg]; exact Nat.ne_of_lt (IsS79.lt (show IsS79 w0 _ g s0_0 s0_1 s0_2 from IsS79.qHI0)) : g ≠ gb133)) (aM ((by rw [hg]; exact Nat.ne_of_gt (IsS79.lt (show IsS79 w0 _ g s0_0 s0_1 s0_2 from IsS79.qHI0)) : gb133 ≠ g))))))))); clear HI0 HK HB; obtain ⟨HI0, HK, HB, BK133, GW133, GE133, NB0_133, NB133_0⟩ := n_; clear hb hbox hg) | ((with_reducible refine gC 50 rfl ?_); refine gL (some 5) Try.func50 #[.pointer (some ⟨g, 0, none⟩), .int .i64 8] ?_; (with_reducible refine (spec_l1Below.calls g s0_0 s0_1 s0_2 8 t134 t135 t136 w0 _ ?side1 ?side2 A2.out).mono ?_); (case side1 => exact IsS79.qHI0); (case side2 => exact IsS79.bHI0); rintro e w10 ⟨rfl, hi, hb, hk⟩; refine ⟨_, rfl, ?_⟩; have n_ := aT (kW hk BK133 NB133_0) (aT (KeepBut.trans kK hk (.inl rfl)) (aT (hb) (aM (hi)))); clear BK133 HK HB HI0; obtain ⟨BK133, HK, HB, HI0⟩ := n_; (try clear hb); (try clear hk); (try clear hi)) | ((with_reducible refine gC 50 rfl ?_); refine gL (some 7) Try.func50 #[.pointer (some ⟨g, 0, none⟩), .int .i64 256] ?_; (with_reducible refine (spec_l1Below.calls g s0_0 t135 t136 256 t137 t138 t139 w0 _ ?side1 ?side2 A3.out).mono ?_); (case side1 => exact IsS79.qHI0); (case side2 => exact IsS79.bHI0); rintro e w11 ⟨rfl, hi, hb, hk⟩; refine ⟨_, rfl, ?_⟩; have n_ := aT (kW hk BK133 NB133_0) (aT (KeepBut.trans kK hk (.inl rfl)) (aT (hb) (aM (hi)))); clear BK133 HK HB HI0; obtain ⟨BK133, HK, HB, HI0⟩ := n_; (try clear hb); (try clear hk); (try clear hi)) | ((with_reducible refine gC 50 rfl ?_); refine gL (some 9) Try.func50 #[.pointer (some ⟨g, 0, none⟩), .int .i64 90] ?_; (with_reducible refine (spec_l1Below.calls g s0_0 t138 t139 90 t140 t141 t142 w0 _ ?side1 ?side2 A4.out).mono ?_); (case side1 => exact IsS79.qHI0); (case side2 => exact IsS79.bHI0); rintro e w12 ⟨rfl, hi, hb, hk⟩; refine ⟨_, rfl, ?_⟩; have n_ := aT (kW hk BK133 NB133_0) (aT (KeepBut.trans kK hk (.inl rfl)) (aT (hb) (aM (hi)))); clear BK133 HK HB HI0; obtain ⟨BK133, HK, HB, HI0⟩ := n_; (try clear hb); (try clear hk); (try clear hi)) | ((with_reducible refine gD 3 rfl ?_); refine bE #[.int .i64 0, .int .i64 0, .int .i64 0] 25 ?_; intro gb143 hg w13 hbox hb; have n_ := aT (IsS79.below IsS79.qHI0 hb) (aT (bB BK133 hb) (aT (KeepBut.trans kK (KeepBut.of_below hb g none) (.inl rfl)) (aT (below_step IsS79.bHI0 hb) (aT (hbox) (aT ((kZ hg : w.heap.size ≤ gb143)) (aT ((Nat.le_trans HW0.out (kZ hg : w.heap.size ≤ gb143) : w0.heap.size ≤ gb143)) (aT (lB hg BK133) (aT (gB hg BK133) (aT ((by rw [hg]; exact Nat.ne_of_lt (IsS79.lt (show IsS79 w0 _ g s0_0 t141 t142 from IsS79.qHI0)) : g ≠ gb143)) (aM ((by rw [hg]; exact Nat.ne_of_gt (IsS79.lt (show IsS79 w0 _ g s0_0 t141 t142 from IsS79.qHI0)) : gb143 ≠ g)))))))))))); clear HI0 BK133 HK HB; obtain ⟨HI0, BK133, HK, HB, BK143, GW143, GE143, NB133_143, NB143_133, NB0_143, NB143_0⟩ := n_; clear hb hbox hg; have hnb14 := NB143_133.out; have hnc14 := NB133_143.out; have hnb15 := NB143_0.out; have hnc15 := NB0_143.out; obtain ⟨⟨hcz16_0, hcz16_1, hcz16_2⟩, hfz16_0, hfz16_1, hfz16_2⟩ := cF3 BK143) | ((with_reducible refine gC 52 rfl ?_); refine gL (some 12) Try.func52 #[.pointer (some ⟨g, 0, none⟩), .int .i64 3] ?_; (with_reducible refine (spec_l1Once.calls g s0_0 t141 t142 3 true t145 t146 w0 _ ?side1 ?side2 A5.out).mono ?_); (case side1 => exact IsS79.qHI0); (case side2 => exact IsS79.bHI0); rintro e w17 ⟨rfl, hi, hb, hk⟩; refine ⟨_, rfl, ?_⟩; have n_ := aT (kV hk NB133_143 BK133 NB133_0) (aT (KeepBut.blk hk (g' := gb143) (o := .cells #[.int .i64 t134, .int .i64 t137, .int .i64 t140] 25 (0, 0)) (bP BK143) NB143_0.out (by simp)) (aT (KeepBut.trans kK hk (.inl rfl)) (aT (hb) (aM (hi))))); clear BK133 BK143 HK HB HI0; obtain ⟨BK133, BK143, HK, HB, HI0⟩ := n_; (try clear hb); (try clear hk); (try clear hi); obtain ⟨⟨hcz18_0, hcz18_1, hcz18_2⟩, hfz18_0, hfz18_1, hfz18_2⟩ := cF3 BK143) | ((with_reducible refine gC 52 rfl ?_); refine gL (some 15) Try.func52 #[.pointer (some ⟨g, 0, none⟩), .int .i64 3] ?_; (with_reducible refine (spec_l1Once.calls g s0_0 t145 t146 3 true t148 t149 w0 _ ?side1 ?side2 A7.out).mono ?_); (case side1 => exact IsS79.qHI0); (case side2 => exact IsS79.bHI0); rintro e w19 ⟨rfl, hi, hb, hk⟩; refine ⟨_, rfl, ?_⟩; have n_ := aT (kV hk NB133_143 BK133 NB133_0) (aT (KeepBut.blk hk (g' := gb143) (o := .cells #[.int .i64 7, .int .i64 t137, .int .i64 t140] 25 (0, 0)) (bP BK143) NB143_0.out (by simp)) (aT (KeepBut.trans kK hk (.inl rfl)) (aT (hb) (aM (hi))))); clear BK133 BK143 HK HB HI0; obtain ⟨BK133, BK143, HK, HB, HI0⟩ := n_; (try clear hb); (try clear hk); (try clear hi); obtain ⟨⟨hcz20_0, hcz20_1, hcz20_2⟩, hfz20_0, hfz20_1, hfz20_2⟩ := cF3 BK143; have hnb21 := NB133_0.out; have hnc21 := NB0_133.out; obtain ⟨⟨hcz22_0, hcz22_1, hcz22_2⟩, hfz22_0, hfz22_1, hfz22_2⟩ := cF3 BK133))
   refine bodyPost_ret (results_cell_row rfl _ _ gb133 25 #[.int .i64 7, .int .i64 255, .int .i64 t140] (0, 0) _ rfl (bQ BK133) Try.underlying25 rfl (by kernel_rfl)) rfl ?_
   exact ⟨eE, IsS79.qHI0, IsS79.bHI0, kK⟩
  replace c8 := Bool.eq_false_iff.mpr c8
  subst c8
  rw [if_neg nF] at H
  simp only [Option.some.injEq, Prod.mk.injEq] at H
  obtain ⟨rfl, rfl, rfl, rfl, rfl⟩ := H
  go_enter Try.func51, Try.ntmps51
  go_wp2_with (first | ((with_reducible refine gD 2 rfl ?_); refine bE #[.int .i64 0, .int .i64 0, .int .i64 0] 25 ?_; intro gb133 hg w23 hbox hb; have n_ := aT (IsS79.below IsS79.qHI0 hb) (aT (KeepBut.trans kK (KeepBut.of_below hb g none) (.inl rfl)) (aT (below_step IsS79.bHI0 hb) (aT (hbox) (aT ((kZ hg : w.heap.size ≤ gb133)) (aT ((Nat.le_trans HW0.out (kZ hg : w.heap.size ≤ gb133) : w0.heap.size ≤ gb133)) (aT ((by rw [hg]; exact Nat.ne_of_lt (IsS79.lt (show IsS79 w0 _ g s0_0 s0_1 s0_2 from IsS79.qHI0)) : g ≠ gb133)) (aM ((by rw [hg]; exact Nat.ne_of_gt (IsS79.lt (show IsS79 w0 _ g s0_0 s0_1 s0_2 from IsS79.qHI0)) : gb133 ≠ g))))))))); clear HI0 HK HB; obtain ⟨HI0, HK, HB, BK133, GW133, GE133, NB0_133, NB133_0⟩ := n_; clear hb hbox hg) | ((with_reducible refine gC 50 rfl ?_); refine gL (some 5) Try.func50 #[.pointer (some ⟨g, 0, none⟩), .int .i64 8] ?_; (with_reducible refine (spec_l1Below.calls g s0_0 s0_1 s0_2 8 t134 t135 t136 w0 _ ?side1 ?side2 A2.out).mono ?_); (case side1 => exact IsS79.qHI0); (case side2 => exact IsS79.bHI0); rintro e w24 ⟨rfl, hi, hb, hk⟩; refine ⟨_, rfl, ?_⟩; have n_ := aT (kW hk BK133 NB133_0) (aT (KeepBut.trans kK hk (.inl rfl)) (aT (hb) (aM (hi)))); clear BK133 HK HB HI0; obtain ⟨BK133, HK, HB, HI0⟩ := n_; (try clear hb); (try clear hk); (try clear hi)) | ((with_reducible refine gC 50 rfl ?_); refine gL (some 7) Try.func50 #[.pointer (some ⟨g, 0, none⟩), .int .i64 256] ?_; (with_reducible refine (spec_l1Below.calls g s0_0 t135 t136 256 t137 t138 t139 w0 _ ?side1 ?side2 A3.out).mono ?_); (case side1 => exact IsS79.qHI0); (case side2 => exact IsS79.bHI0); rintro e w25 ⟨rfl, hi, hb, hk⟩; refine ⟨_, rfl, ?_⟩; have n_ := aT (kW hk BK133 NB133_0) (aT (KeepBut.trans kK hk (.inl rfl)) (aT (hb) (aM (hi)))); clear BK133 HK HB HI0; obtain ⟨BK133, HK, HB, HI0⟩ := n_; (try clear hb); (try clear hk); (try clear hi)) | ((with_reducible refine gC 50 rfl ?_); refine gL (some 9) Try.func50 #[.pointer (some ⟨g, 0, none⟩), .int .i64 90] ?_; (with_reducible refine (spec_l1Below.calls g s0_0 t138 t139 90 t140 t141 t142 w0 _ ?side1 ?side2 A4.out).mono ?_); (case side1 => exact IsS79.qHI0); (case side2 => exact IsS79.bHI0); rintro e w26 ⟨rfl, hi, hb, hk⟩; refine ⟨_, rfl, ?_⟩; have n_ := aT (kW hk BK133 NB133_0) (aT (KeepBut.trans kK hk (.inl rfl)) (aT (hb) (aM (hi)))); clear BK133 HK HB HI0; obtain ⟨BK133, HK, HB, HI0⟩ := n_; (try clear hb); (try clear hk); (try clear hi)) | ((with_reducible refine gD 3 rfl ?_); refine bE #[.int .i64 0, .int .i64 0, .int .i64 0] 25 ?_; intro gb143 hg w27 hbox hb; have n_ := aT (IsS79.below IsS79.qHI0 hb) (aT (bB BK133 hb) (aT (KeepBut.trans kK (KeepBut.of_below hb g none) (.inl rfl)) (aT (below_step IsS79.bHI0 hb) (aT (hbox) (aT ((kZ hg : w.heap.size ≤ gb143)) (aT ((Nat.le_trans HW0.out (kZ hg : w.heap.size ≤ gb143) : w0.heap.size ≤ gb143)) (aT (lB hg BK133) (aT (gB hg BK133) (aT ((by rw [hg]; exact Nat.ne_of_lt (IsS79.lt (show IsS79 w0 _ g s0_0 t141 t142 from IsS79.qHI0)) : g ≠ gb143)) (aM ((by rw [hg]; exact Nat.ne_of_gt (IsS79.lt (show IsS79 w0 _ g s0_0 t141 t142 from IsS79.qHI0)) : gb143 ≠ g)))))))))))); clear HI0 BK133 HK HB; obtain ⟨HI0, BK133, HK, HB, BK143, GW143, GE143, NB133_143, NB143_133, NB0_143, NB143_0⟩ := n_; clear hb hbox hg; have hnb28 := NB143_133.out; have hnc28 := NB133_143.out; have hnb29 := NB143_0.out; have hnc29 := NB0_143.out; obtain ⟨⟨hcz30_0, hcz30_1, hcz30_2⟩, hfz30_0, hfz30_1, hfz30_2⟩ := cF3 BK143) | ((with_reducible refine gC 52 rfl ?_); refine gL (some 12) Try.func52 #[.pointer (some ⟨g, 0, none⟩), .int .i64 3] ?_; (with_reducible refine (spec_l1Once.calls g s0_0 t141 t142 3 true t145 t146 w0 _ ?side1 ?side2 A5.out).mono ?_); (case side1 => exact IsS79.qHI0); (case side2 => exact IsS79.bHI0); rintro e w31 ⟨rfl, hi, hb, hk⟩; refine ⟨_, rfl, ?_⟩; have n_ := aT (kV hk NB133_143 BK133 NB133_0) (aT (KeepBut.blk hk (g' := gb143) (o := .cells #[.int .i64 t134, .int .i64 t137, .int .i64 t140] 25 (0, 0)) (bP BK143) NB143_0.out (by simp)) (aT (KeepBut.trans kK hk (.inl rfl)) (aT (hb) (aM (hi))))); clear BK133 BK143 HK HB HI0; obtain ⟨BK133, BK143, HK, HB, HI0⟩ := n_; (try clear hb); (try clear hk); (try clear hi); obtain ⟨⟨hcz32_0, hcz32_1, hcz32_2⟩, hfz32_0, hfz32_1, hfz32_2⟩ := cF3 BK143) | ((with_reducible refine gC 52 rfl ?_); refine gL (some 15) Try.func52 #[.pointer (some ⟨g, 0, none⟩), .int .i64 3] ?_; (with_reducible refine (spec_l1Once.calls g s0_0 t145 t146 3 false t148 t149 w0 _ ?side1 ?side2 A7.out).mono ?_); (case side1 => exact IsS79.qHI0); (case side2 => exact IsS79.bHI0); rintro e w33 ⟨rfl, hi, hb, hk⟩; refine ⟨_, rfl, ?_⟩; have n_ := aT (kV hk NB133_143 BK133 NB133_0) (aT (KeepBut.blk hk (g' := gb143) (o := .cells #[.int .i64 7, .int .i64 t137, .int .i64 t140] 25 (0, 0)) (bP BK143) NB143_0.out (by simp)) (aT (KeepBut.trans kK hk (.inl rfl)) (aT (hb) (aM (hi))))); clear BK133 BK143 HK HB HI0; obtain ⟨BK133, BK143, HK, HB, HI0⟩ := n_; (try clear hb); (try clear hk); (try clear hi); obtain ⟨⟨hcz34_0, hcz34_1, hcz34_2⟩, hfz34_0, hfz34_1, hfz34_2⟩ := cF3 BK143; have hnb35 := NB133_0.out; have hnc35 := NB0_133.out; obtain ⟨⟨hcz36_0, hcz36_1, hcz36_2⟩, hfz36_0, hfz36_1, hfz36_2⟩ := cF3 BK133))
  refine bodyPost_ret (results_cell_row rfl _ _ gb133 25 #[.int .i64 7, .int .i64 t137, .int .i64 t140] (0, 0) _ rfl (bP BK133) Try.underlying25 rfl (by kernel_rfl)) rfl ?_
  exact ⟨eE, IsS79.qHI0, IsS79.bHI0, kK⟩
 replace c6 := Bool.eq_false_iff.mpr c6
 subst c6
 rw [if_neg nF] at H
 obtain ⟨⟨t150, t151, t152⟩, A37, H⟩ := oB H
 dsimp only at H
 by_cases c38 : t150 = true
 ·subst c38
  rw [if_pos rfl] at H
  simp only [Option.some.injEq, Prod.mk.injEq] at H
  obtain ⟨rfl, rfl, rfl, rfl, rfl⟩ := H
  go_enter Try.func51, Try.ntmps51
  go_wp2_with (first | ((with_reducible refine gD 2 rfl ?_); refine bE #[.int .i64 0, .int .i64 0, .int .i64 0] 25 ?_; intro gb133 hg w39 hbox hb; have n_ := aT (IsS79.below IsS79.qHI0 hb) (aT (KeepBut.trans kK (KeepBut.of_below hb g none) (.inl rfl)) (aT (below_step IsS79.bHI0 hb) (aT (hbox) (aT ((kZ hg : w.heap.size ≤ gb133)) (aT ((Nat.le_trans HW0.out (kZ hg : w.heap.size ≤ gb133) : w0.heap.size ≤ gb133)) (aT ((by rw [hg]; exact Nat.ne_of_lt (IsS79.lt (show IsS79 w0 _ g s0_0 s0_1 s0_2 from IsS79.qHI0)) : g ≠ gb133)) (aM ((by rw [hg]; exact Nat.ne_of_gt (IsS79.lt (show IsS79 w0 _ g s0_0 s0_1 s0_2 from IsS79.qHI0)) : gb133 ≠ g))))))))); clear HI0 HK HB; obtain ⟨HI0, HK, HB, BK133, GW133, GE133, NB0_133, NB133_0⟩ := n_; clear hb hbox hg) | ((with_reducible refine gC 50 rfl ?_); refine gL (some 5) Try.func50 #[.pointer (some ⟨g, 0, none⟩), .int .i64 8] ?_; (with_reducible refine (spec_l1Below.calls g s0_0 s0_1 s0_2 8 t134 t135 t136 w0 _ ?side1 ?side2 A2.out).mono ?_); (case side1 => exact IsS79.qHI0); (case side2 => exact IsS79.bHI0); rintro e w40 ⟨rfl, hi, hb, hk⟩; refine ⟨_, rfl, ?_⟩; have n_ := aT (kW hk BK133 NB133_0) (aT (KeepBut.trans kK hk (.inl rfl)) (aT (hb) (aM (hi)))); clear BK133 HK HB HI0; obtain ⟨BK133, HK, HB, HI0⟩ := n_; (try clear hb); (try clear hk); (try clear hi)) | ((with_reducible refine gC 50 rfl ?_); refine gL (some 7) Try.func50 #[.pointer (some ⟨g, 0, none⟩), .int .i64 256] ?_; (with_reducible refine (spec_l1Below.calls g s0_0 t135 t136 256 t137 t138 t139 w0 _ ?side1 ?side2 A3.out).mono ?_); (case side1 => exact IsS79.qHI0); (case side2 => exact IsS79.bHI0); rintro e w41 ⟨rfl, hi, hb, hk⟩; refine ⟨_, rfl, ?_⟩; have n_ := aT (kW hk BK133 NB133_0) (aT (KeepBut.trans kK hk (.inl rfl)) (aT (hb) (aM (hi)))); clear BK133 HK HB HI0; obtain ⟨BK133, HK, HB, HI0⟩ := n_; (try clear hb); (try clear hk); (try clear hi)) | ((with_reducible refine gC 50 rfl ?_); refine gL (some 9) Try.func50 #[.pointer (some ⟨g, 0, none⟩), .int .i64 90] ?_; (with_reducible refine (spec_l1Below.calls g s0_0 t138 t139 90 t140 t141 t142 w0 _ ?side1 ?side2 A4.out).mono ?_); (case side1 => exact IsS79.qHI0); (case side2 => exact IsS79.bHI0); rintro e w42 ⟨rfl, hi, hb, hk⟩; refine ⟨_, rfl, ?_⟩; have n_ := aT (kW hk BK133 NB133_0) (aT (KeepBut.trans kK hk (.inl rfl)) (aT (hb) (aM (hi)))); clear BK133 HK HB HI0; obtain ⟨BK133, HK, HB, HI0⟩ := n_; (try clear hb); (try clear hk); (try clear hi)) | ((with_reducible refine gD 3 rfl ?_); refine bE #[.int .i64 0, .int .i64 0, .int .i64 0] 25 ?_; intro gb143 hg w43 hbox hb; have n_ := aT (IsS79.below IsS79.qHI0 hb) (aT (bB BK133 hb) (aT (KeepBut.trans kK (KeepBut.of_below hb g none) (.inl rfl)) (aT (below_step IsS79.bHI0 hb) (aT (hbox) (aT ((kZ hg : w.heap.size ≤ gb143)) (aT ((Nat.le_trans HW0.out (kZ hg : w.heap.size ≤ gb143) : w0.heap.size ≤ gb143)) (aT (lB hg BK133) (aT (gB hg BK133) (aT ((by rw [hg]; exact Nat.ne_of_lt (IsS79.lt (show IsS79 w0 _ g s0_0 t141 t142 from IsS79.qHI0)) : g ≠ gb143)) (aM ((by rw [hg]; exact Nat.ne_of_gt (IsS79.lt (show IsS79 w0 _ g s0_0 t141 t142 from IsS79.qHI0)) : gb143 ≠ g)))))))))))); clear HI0 BK133 HK HB; obtain ⟨HI0, BK133, HK, HB, BK143, GW143, GE143, NB133_143, NB143_133, NB0_143, NB143_0⟩ := n_; clear hb hbox hg; have hnb44 := NB143_133.out; have hnc44 := NB133_143.out; have hnb45 := NB143_0.out; have hnc45 := NB0_143.out; obtain ⟨⟨hcz46_0, hcz46_1, hcz46_2⟩, hfz46_0, hfz46_1, hfz46_2⟩ := cF3 BK143) | ((with_reducible refine gC 52 rfl ?_); refine gL (some 12) Try.func52 #[.pointer (some ⟨g, 0, none⟩), .int .i64 3] ?_; (with_reducible refine (spec_l1Once.calls g s0_0 t141 t142 3 false t145 t146 w0 _ ?side1 ?side2 A5.out).mono ?_); (case side1 => exact IsS79.qHI0); (case side2 => exact IsS79.bHI0); rintro e w47 ⟨rfl, hi, hb, hk⟩; refine ⟨_, rfl, ?_⟩; have n_ := aT (kV hk NB133_143 BK133 NB133_0) (aT (KeepBut.blk hk (g' := gb143) (o := .cells #[.int .i64 t134, .int .i64 t137, .int .i64 t140] 25 (0, 0)) (bP BK143) NB143_0.out (by simp)) (aT (KeepBut.trans kK hk (.inl rfl)) (aT (hb) (aM (hi))))); clear BK133 BK143 HK HB HI0; obtain ⟨BK133, BK143, HK, HB, HI0⟩ := n_; (try clear hb); (try clear hk); (try clear hi)) | ((with_reducible refine gC 52 rfl ?_); refine gL (some 15) Try.func52 #[.pointer (some ⟨g, 0, none⟩), .int .i64 3] ?_; (with_reducible refine (spec_l1Once.calls g s0_0 t145 t146 3 true t151 t152 w0 _ ?side1 ?side2 A37.out).mono ?_); (case side1 => exact IsS79.qHI0); (case side2 => exact IsS79.bHI0); rintro e w48 ⟨rfl, hi, hb, hk⟩; refine ⟨_, rfl, ?_⟩; have n_ := aT (kW hk BK133 NB133_0) (aT (kW hk BK143 NB143_0) (aT (KeepBut.trans kK hk (.inl rfl)) (aT (hb) (aM (hi))))); clear BK133 BK143 HK HB HI0; obtain ⟨BK133, BK143, HK, HB, HI0⟩ := n_; (try clear hb); (try clear hk); (try clear hi); obtain ⟨⟨hcz49_0, hcz49_1, hcz49_2⟩, hfz49_0, hfz49_1, hfz49_2⟩ := cF3 BK143; have hnb50 := NB133_0.out; have hnc50 := NB0_133.out; obtain ⟨⟨hcz51_0, hcz51_1, hcz51_2⟩, hfz51_0, hfz51_1, hfz51_2⟩ := cF3 BK133))
  refine bodyPost_ret (results_cell_row rfl _ _ gb133 25 #[.int .i64 t134, .int .i64 255, .int .i64 t140] (0, 0) _ rfl (bQ BK133) Try.underlying25 rfl (by kernel_rfl)) rfl ?_
  exact ⟨eE, IsS79.qHI0, IsS79.bHI0, kK⟩
 replace c38 := Bool.eq_false_iff.mpr c38
 subst c38
 rw [if_neg nF] at H
 simp only [Option.some.injEq, Prod.mk.injEq] at H
 obtain ⟨rfl, rfl, rfl, rfl, rfl⟩ := H
 go_enter Try.func51, Try.ntmps51
 go_wp2_with (first | ((with_reducible refine gD 2 rfl ?_); refine bE #[.int .i64 0, .int .i64 0, .int .i64 0] 25 ?_; intro gb133 hg w52 hbox hb; have n_ := aT (IsS79.below IsS79.qHI0 hb) (aT (KeepBut.trans kK (KeepBut.of_below hb g none) (.inl rfl)) (aT (below_step IsS79.bHI0 hb) (aT (hbox) (aT ((kZ hg : w.heap.size ≤ gb133)) (aT ((Nat.le_trans HW0.out (kZ hg : w.heap.size ≤ gb133) : w0.heap.size ≤ gb133)) (aT ((by rw [hg]; exact Nat.ne_of_lt (IsS79.lt (show IsS79 w0 _ g s0_0 s0_1 s0_2 from IsS79.qHI0)) : g ≠ gb133)) (aM ((by rw [hg]; exact Nat.ne_of_gt (IsS79.lt (show IsS79 w0 _ g s0_0 s0_1 s0_2 from IsS79.qHI0)) : gb133 ≠ g))))))))); clear HI0 HK HB; obtain ⟨HI0, HK, HB, BK133, GW133, GE133, NB0_133, NB133_0⟩ := n_; clear hb hbox hg) | ((with_reducible refine gC 50 rfl ?_); refine gL (some 5) Try.func50 #[.pointer (some ⟨g, 0, none⟩), .int .i64 8] ?_; (with_reducible refine (spec_l1Below.calls g s0_0 s0_1 s0_2 8 t134 t135 t136 w0 _ ?side1 ?side2 A2.out).mono ?_); (case side1 => exact IsS79.qHI0); (case side2 => exact IsS79.bHI0); rintro e w53 ⟨rfl, hi, hb, hk⟩; refine ⟨_, rfl, ?_⟩; have n_ := aT (kW hk BK133 NB133_0) (aT (KeepBut.trans kK hk (.inl rfl)) (aT (hb) (aM (hi)))); clear BK133 HK HB HI0; obtain ⟨BK133, HK, HB, HI0⟩ := n_; (try clear hb); (try clear hk); (try clear hi)) | ((with_reducible refine gC 50 rfl ?_); refine gL (some 7) Try.func50 #[.pointer (some ⟨g, 0, none⟩), .int .i64 256] ?_; (with_reducible refine (spec_l1Below.calls g s0_0 t135 t136 256 t137 t138 t139 w0 _ ?side1 ?side2 A3.out).mono ?_); (case side1 => exact IsS79.qHI0); (case side2 => exact IsS79.bHI0); rintro e w54 ⟨rfl, hi, hb, hk⟩; refine ⟨_, rfl, ?_⟩; have n_ := aT (kW hk BK133 NB133_0) (aT (KeepBut.trans kK hk (.inl rfl)) (aT (hb) (aM (hi)))); clear BK133 HK HB HI0; obtain ⟨BK133, HK, HB, HI0⟩ := n_; (try clear hb); (try clear hk); (try clear hi)) | ((with_reducible refine gC 50 rfl ?_); refine gL (some 9) Try.func50 #[.pointer (some ⟨g, 0, none⟩), .int .i64 90] ?_; (with_reducible refine (spec_l1Below.calls g s0_0 t138 t139 90 t140 t141 t142 w0 _ ?side1 ?side2 A4.out).mono ?_); (case side1 => exact IsS79.qHI0); (case side2 => exact IsS79.bHI0); rintro e w55 ⟨rfl, hi, hb, hk⟩; refine ⟨_, rfl, ?_⟩; have n_ := aT (kW hk BK133 NB133_0) (aT (KeepBut.trans kK hk (.inl rfl)) (aT (hb) (aM (hi)))); clear BK133 HK HB HI0; obtain ⟨BK133, HK, HB, HI0⟩ := n_; (try clear hb); (try clear hk); (try clear hi)) | ((with_reducible refine gD 3 rfl ?_); refine bE #[.int .i64 0, .int .i64 0, .int .i64 0] 25 ?_; intro gb143 hg w56 hbox hb; have n_ := aT (IsS79.below IsS79.qHI0 hb) (aT (bB BK133 hb) (aT (KeepBut.trans kK (KeepBut.of_below hb g none) (.inl rfl)) (aT (below_step IsS79.bHI0 hb) (aT (hbox) (aT ((kZ hg : w.heap.size ≤ gb143)) (aT ((Nat.le_trans HW0.out (kZ hg : w.heap.size ≤ gb143) : w0.heap.size ≤ gb143)) (aT (lB hg BK133) (aT (gB hg BK133) (aT ((by rw [hg]; exact Nat.ne_of_lt (IsS79.lt (show IsS79 w0 _ g s0_0 t141 t142 from IsS79.qHI0)) : g ≠ gb143)) (aM ((by rw [hg]; exact Nat.ne_of_gt (IsS79.lt (show IsS79 w0 _ g s0_0 t141 t142 from IsS79.qHI0)) : gb143 ≠ g)))))))))))); clear HI0 BK133 HK HB; obtain ⟨HI0, BK133, HK, HB, BK143, GW143, GE143, NB133_143, NB143_133, NB0_143, NB143_0⟩ := n_; clear hb hbox hg; have hnb57 := NB143_133.out; have hnc57 := NB133_143.out; have hnb58 := NB143_0.out; have hnc58 := NB0_143.out; obtain ⟨⟨hcz59_0, hcz59_1, hcz59_2⟩, hfz59_0, hfz59_1, hfz59_2⟩ := cF3 BK143) | ((with_reducible refine gC 52 rfl ?_); refine gL (some 12) Try.func52 #[.pointer (some ⟨g, 0, none⟩), .int .i64 3] ?_; (with_reducible refine (spec_l1Once.calls g s0_0 t141 t142 3 false t145 t146 w0 _ ?side1 ?side2 A5.out).mono ?_); (case side1 => exact IsS79.qHI0); (case side2 => exact IsS79.bHI0); rintro e w60 ⟨rfl, hi, hb, hk⟩; refine ⟨_, rfl, ?_⟩; have n_ := aT (kV hk NB133_143 BK133 NB133_0) (aT (KeepBut.blk hk (g' := gb143) (o := .cells #[.int .i64 t134, .int .i64 t137, .int .i64 t140] 25 (0, 0)) (bP BK143) NB143_0.out (by simp)) (aT (KeepBut.trans kK hk (.inl rfl)) (aT (hb) (aM (hi))))); clear BK133 BK143 HK HB HI0; obtain ⟨BK133, BK143, HK, HB, HI0⟩ := n_; (try clear hb); (try clear hk); (try clear hi)) | ((with_reducible refine gC 52 rfl ?_); refine gL (some 15) Try.func52 #[.pointer (some ⟨g, 0, none⟩), .int .i64 3] ?_; (with_reducible refine (spec_l1Once.calls g s0_0 t145 t146 3 false t151 t152 w0 _ ?side1 ?side2 A37.out).mono ?_); (case side1 => exact IsS79.qHI0); (case side2 => exact IsS79.bHI0); rintro e w61 ⟨rfl, hi, hb, hk⟩; refine ⟨_, rfl, ?_⟩; have n_ := aT (kW hk BK133 NB133_0) (aT (kW hk BK143 NB143_0) (aT (KeepBut.trans kK hk (.inl rfl)) (aT (hb) (aM (hi))))); clear BK133 BK143 HK HB HI0; obtain ⟨BK133, BK143, HK, HB, HI0⟩ := n_; (try clear hb); (try clear hk); (try clear hi); obtain ⟨⟨hcz62_0, hcz62_1, hcz62_2⟩, hfz62_0, hfz62_1, hfz62_2⟩ := cF3 BK143; have hnb63 := NB133_0.out; have hnc63 := NB0_133.out; obtain ⟨⟨hcz64_0, hcz64_1, hcz64_2⟩, hfz64_0, hfz64_1, hfz64_2⟩ := cF3 BK133))
 refine bodyPost_ret (results_cell_row rfl _ _ gb133 25 #[.int .i64 t134, .int .i64 t137, .int .i64 t140] (0, 0) _ rfl (bP BK133) Try.underlying25 rfl (by kernel_rfl)) rfl ?_
 exact ⟨eE, IsS79.qHI0, IsS79.bHI0, kK⟩

/-! ### spec_l4Any: function 46 -/
def spec_l4Any.f (s0_0 : List Int) (s0_1 : Int) (s0_2 : Int) : Option (Int × Int × Int × Int × Int) := (spec_l4Rest.f s0_0 s0_1 s0_2).bind fun bt154 => ((spec_l1Once.f s0_0 bt154.2.2.2.1 bt154.2.2.2.2 8).bind fun bt160 => (if bt160.1 = true then ((spec_l1Below.f s0_0 bt160.2.1 bt160.2.2 3).bind fun bt163 => (if bt163.1 = 0 then ((spec_l1PickInt.f s0_0 bt163.2.1 bt163.2.2 (([(-1), 8] : List Int))).bind fun bt169 => (some (bt169.1, bt154.2.1, bt154.2.2.1, bt169.2.1, bt169.2.2))) else (if bt163.1 = 1 then ((spec_l1PickInt.f s0_0 bt163.2.1 bt163.2.2 (([(-1), 256] : List Int))).bind fun bt175 => (some (bt154.1, bt175.1, bt154.2.2.1, bt175.2.1, bt175.2.2))) else ((spec_l1PickInt.f s0_0 bt163.2.1 bt163.2.2 (([(-1), 100000, 100001] : List Int))).bind fun bt181 => (some (bt154.1, bt154.2.1, bt181.1, bt181.2.1, bt181.2.2)))))) else (some (bt154.1, bt154.2.1, bt154.2.2.1, bt160.2.1, bt160.2.2))))
set_option maxHeartbeats 8000000 in
set_option maxRecDepth 100000 in
theorem spec_l4Any.calls (g : Nat) (s0_0 : List Int) (s0_1 : Int) (s0_2 : Int) (r1 : Int) (r2 : Int) (r3 : Int) (r4 : Int) (r5 : Int) (w0 w : World) (hI : IsS79 w0 w g s0_0 s0_1 s0_2) (hB : Below w0.heap.size w0 w) (h : spec_l4Any.f s0_0 s0_1 s0_2 = some (r1, r2, r3, r4, r5)) :
  Calls Try.prog 46 #[.pointer (some ⟨g, 0, none⟩)] w fun e w' => e = .returned (.agg #[.int .i64 r1, .int .i64 r2, .int .i64 r3]) ∧ IsS79 w0 w' g s0_0 r4 r5 ∧ Below w0.heap.size w0 w' ∧ KeepBut w w' g none := by
 have hu25 := Try.underlying25
 have HI0 := Aside0.mk hI
 have HK := Aside0.mk (KeepBut.refl w g none)
 have HL := Aside0.mk hB.size
 clear hI
 have HW0 := Aside0.mk hB.size
 have HB := Aside0.mk hB
 clear hB
 have H := h
 clear h
 unfold spec_l4Any.f at H
 obtain ⟨⟨t154, t155, t156, t157, t158⟩, A2, H⟩ := oB H
 dsimp only at H
 obtain ⟨⟨t160, t161, t162⟩, A3, H⟩ := oB H
 dsimp only at H
 by_cases c4 : t160 = true
 ·subst c4
  rw [if_pos rfl] at H
  obtain ⟨⟨t163, t164, t165⟩, A5, H⟩ := oB H
  dsimp only at H
  by_cases c6 : t163 = 0
  ·rw [if_pos c6] at H
   have c6b0 : (t163 == 0) = true := beq_iff_eq.mpr c6
   have c6b1 : (t163 != 0) = false := bne_eq_false_iff_eq.mpr c6
   clear c6
   obtain ⟨y166, hy166⟩ : ∃ y_ : List Int, y_ = (([(-1), 8] : List Int)) := ⟨_, rfl⟩
   replace H : ((spec_l1PickInt.f s0_0 t164 t165 y166).bind fun bt169 => (some (bt169.1, t155, t156, bt169.2.1, bt169.2.2))) = some (r1, r2, r3, r4, r5) := by first | (rw [hy166]; with_reducible exact H) | (have H2_ := (Option.bind_some _ _).symm.trans H; rw [hy166]; with_reducible exact H2_) | (have H2_ := (Option.bind_some _ _).symm.trans H; with_reducible exact H2_) | with_reducible exact H | (rw [hy166]; exact H) | exact H
   have Ny166 := Aside0.mk hy166
   clear hy166
   obtain ⟨⟨t169, t170, t171⟩, A7, H⟩ := oB H
   dsimp only at H
   simp only [Option.some.injEq, Prod.mk.injEq] at H
   obtain ⟨rfl, rfl, rfl, rfl, rfl⟩ := H
   go_enter Try.func46, Try.ntmps46
   go_wp2_with (first | ((with_reducible refine gD 2 rfl ?_); refine bE #[.int .i64 0, .int .i64 0, .int .i64 0] 25 ?_; intro gb153 hg w8 hbox hb; have n_ := aT (IsS79.below IsS79.qHI0 hb) (aT (KeepBut.trans kK (KeepBut.of_below hb g none) (.inl rfl)) (aT (below_step IsS79.bHI0 hb) (aT (hbox) (aT ((kZ hg : w.heap.size ≤ gb153)) (aT ((Nat.le_trans HW0.out (kZ hg : w.heap.size ≤ gb153) : w0.heap.size ≤ gb153)) (aT ((by rw [hg]; exact Nat.ne_of_lt (IsS79.lt (show IsS79 w0 _ g s0_0 s0_1 s0_2 from IsS79.qHI0)) : g ≠ gb153)) (aM ((by rw [hg]; exact Nat.ne_of_gt (IsS79.lt (show IsS79 w0 _ g s0_0 s0_1 s0_2 from IsS79.qHI0)) : gb153 ≠ g))))))))); clear HI0 HK HB; obtain ⟨HI0, HK, HB, BK153, GW153, GE153, NB0_153, NB153_0⟩ := n_; clear hb hbox hg) | ((with_reducible refine gC 51 rfl ?_); refine gL (some 5) Try.func51 #[.pointer (some ⟨g, 0, none⟩)] ?_; (with_reducible refine (spec_l4Rest.calls g s0_0 s0_1 s0_2 t154 t155 t156 t157 t158 w0 _ ?side1 ?side2 A2.out).mono ?_); (case side1 => exact IsS79.qHI0); (case side2 => exact IsS79.bHI0); rintro e w9 ⟨rfl, hi, hb, hk⟩; refine ⟨_, rfl, ?_⟩; have n_ := aT (kW hk BK153 NB153_0) (aT (KeepBut.trans kK hk (.inl rfl)) (aT (hb) (aM (hi)))); clear BK153 HK HB HI0; obtain ⟨BK153, HK, HB, HI0⟩ := n_; (try clear hb); (try clear hk); (try clear hi)) | ((with_reducible refine gD 3 rfl ?_); refine bE #[.int .i64 0, .int .i64 0, .int .i64 0] 25 ?_; intro gb159 hg w10 hbox hb; have n_ := aT (IsS79.below IsS79.qHI0 hb) (aT (bB BK153 hb) (aT (KeepBut.trans kK (KeepBut.of_below hb g none) (.inl rfl)) (aT (below_step IsS79.bHI0 hb) (aT (hbox) (aT ((kZ hg : w.heap.size ≤ gb159)) (aT ((Nat.le_trans HW0.out (kZ hg : w.heap.size ≤ gb159) : w0.heap.size ≤ gb159)) (aT (lB hg BK153) (aT (gB hg BK153) (aT ((by rw [hg]; exact Nat.ne_of_lt (IsS79.lt (show IsS79 w0 _ g s0_0 t157 t158 from IsS79.qHI0)) : g ≠ gb159)) (aM ((by rw [hg]; exact Nat.ne_of_gt (IsS79.lt (show IsS79 w0 _ g s0_0 t157 t158 from IsS79.qHI0)) : gb159 ≠ g)))))))))))); clear HI0 BK153 HK HB; obtain ⟨HI0, BK153, HK, HB, BK159, GW159, GE159, NB153_159, NB159_153, NB0_159, NB159_0⟩ := n_; clear hb hbox hg; have hnb11 := NB159_153.out; have hnc11 := NB153_159.out; have hnb12 := NB159_0.out; have hnc12 := NB0_159.out; obtain ⟨⟨hcz13_0, hcz13_1, hcz13_2⟩, hfz13_0, hfz13_1, hfz13_2⟩ := cF3 BK159) | ((with_reducible refine gC 52 rfl ?_); refine gL (some 7) Try.func52 #[.pointer (some ⟨g, 0, none⟩), .int .i64 8] ?_; (with_reducible refine (spec_l1Once.calls g s0_0 t157 t158 8 true t161 t162 w0 _ ?side1 ?side2 A3.out).mono ?_); (case side1 => exact IsS79.qHI0); (case side2 => exact IsS79.bHI0); rintro e w14 ⟨rfl, hi, hb, hk⟩; refine ⟨_, rfl, ?_⟩; have n_ := aT (kV hk NB153_159 BK153 NB153_0) (aT (KeepBut.blk hk (g' := gb159) (o := .cells #[.int .i64 t154, .int .i64 t155, .int .i64 t156] 25 (0, 0)) (bP BK159) NB159_0.out (by simp)) (aT (KeepBut.trans kK hk (.inl rfl)) (aT (hb) (aM (hi))))); clear BK153 BK159 HK HB HI0; obtain ⟨BK153, BK159, HK, HB, HI0⟩ := n_; (try clear hb); (try clear hk); (try clear hi)) | ((with_reducible refine gC 50 rfl ?_); refine gL (some 9) Try.func50 #[.pointer (some ⟨g, 0, none⟩), .int .i64 3] ?_; (with_reducible refine (spec_l1Below.calls g s0_0 t161 t162 3 t163 t164 t165 w0 _ ?side1 ?side2 A5.out).mono ?_); (case side1 => exact IsS79.qHI0); (case side2 => exact IsS79.bHI0); rintro e w15 ⟨rfl, hi, hb, hk⟩; refine ⟨_, rfl, ?_⟩; have n_ := aT (kW hk BK153 NB153_0) (aT (kW hk BK159 NB159_0) (aT (KeepBut.trans kK hk (.inl rfl)) (aT (hb) (aM (hi))))); clear BK153 BK159 HK HB HI0; obtain ⟨BK153, BK159, HK, HB, HI0⟩ := n_; (try clear hb); (try clear hk); (try clear hi)) | ((with_reducible refine gate_dst (N := 17) rfl ?_); refine Kd.R_lit (Kd.int .i64) _ 3 ?hg (N := 17) ?hd (xs := ([(-1), 8] : List Int)) (inner := [.int .i64 (-1), .int .i64 8]) (ok := fun _ => True) (okp := fun _ => True) ?hr ?hp (fun _ hk => hk) trivial (Below.refl _ _) (Nat.le_refl _) (by simp) ?_; (case hd => rfl); (case hg => rfl); (case hr => first | (go_simp; done) | (go_simp; rfl)); (case hp => exact (Reps.one (show Kd.M (Kd.int .i64) _ _ _ (-1) [.int .i64 (-1)] from rfl) (Reps.one (show Kd.M (Kd.int .i64) _ _ _ 8 [.int .i64 8] from rfl) (Reps.none _ _)))); intro v167 w16 ho17 hb hg_ hnew_; clear hg_ hnew_; (first | rw [← Ny166.out] at ho17 | (simp only [Int.reduceToNat] at ho17; rw [← Ny166.out] at ho17)); have n_ := aT (Kd.R_lower ho17 kL) (aT (IsS79.below IsS79.qHI0 hb) (aT (bB BK153 hb) (aT (bB BK159 hb) (aT (KeepBut.trans kK (KeepBut.of_below hb g none) (.inl rfl)) (aM (below_step IsS79.bHI0 hb)))))); clear HI0 BK153 BK159 HK HB; obtain ⟨HO168, HI0, BK153, BK159, HK, HB⟩ := n_; clear hb ho17; obtain ⟨Ao18, co18, eo18⟩ := Kd.R_slice HO168.out; subst eo18) | ((with_reducible refine gC 49 rfl ?_); refine gL (some 18) Try.func49 #[.pointer (some ⟨g, 0, none⟩), .slice Ao18 y166.length co18] ?_; (with_reducible refine (spec_l1PickInt.calls g s0_0 t164 t165 _ _ y166 t169 t170 t171 w0 _ ?side1 ?side2 ?side3 ?side4 ?side5 A7.out).mono ?_); (case side1 => exact IsS79.qHI0); (case side2 => exact IsS79.bHI0); (case side3 => exact cA ((Kd.R_reads' HO168.out).2.2)); (case side4 => exact (Kd.R_reads' HO168.out).2.1); (case side5 => exact far_slice (IsS79.own_ne HI0.out HO168.out (by decide))); rintro e w19 ⟨rfl, hi, hb, hk⟩; refine ⟨_, rfl, ?_⟩; have n_ := aT (kW hk BK153 NB153_0) (aT (kW hk BK159 NB159_0) (aT (IsS79.rK hk (kR HO168.out) (show IsS79 w0 _ g s0_0 t164 t165 from IsS79.qHI0)) (aT (KeepBut.trans kK hk (.inl rfl)) (aT (hb) (aM (hi)))))); clear BK153 BK159 HO168 HK HB HI0; obtain ⟨BK153, BK159, HO168, HK, HB, HI0⟩ := n_; (try clear hb); (try clear hk); (try clear hi); obtain ⟨⟨hcz20_0, hcz20_1, hcz20_2⟩, hfz20_0, hfz20_1, hfz20_2⟩ := cF3 BK159; have hnb21 := NB153_0.out; have hnc21 := NB0_153.out; obtain ⟨⟨hcz22_0, hcz22_1, hcz22_2⟩, hfz22_0, hfz22_1, hfz22_2⟩ := cF3 BK153))
   refine bodyPost_ret (results_cell_row rfl _ _ gb153 25 #[.int .i64 t169, .int .i64 t155, .int .i64 t156] (0, 0) _ rfl (bQ BK153) Try.underlying25 rfl (by kernel_rfl)) rfl ?_
   exact ⟨eE, IsS79.qHI0, IsS79.bHI0, kK⟩
  rw [if_neg c6] at H
  have c6b0 : (t163 == 0) = false := beq_eq_false_iff_ne.mpr c6
  have c6b1 : (t163 != 0) = true := bne_iff_ne.mpr c6
  by_cases c23 : t163 = 1
  ·rw [if_pos c23] at H
   have c23b0 : (t163 == 1) = true := beq_iff_eq.mpr c23
   have c23b1 : (t163 != 1) = false := bne_eq_false_iff_eq.mpr c23
   clear c23
   obtain ⟨y172, hy172⟩ : ∃ y_ : List Int, y_ = (([(-1), 256] : List Int)) := ⟨_, rfl⟩
   replace H : ((spec_l1PickInt.f s0_0 t164 t165 y172).bind fun bt175 => (some (t154, bt175.1, t156, bt175.2.1, bt175.2.2))) = some (r1, r2, r3, r4, r5) := by first | (rw [hy172]; with_reducible exact H) | (have H2_ := (Option.bind_some _ _).symm.trans H; rw [hy172]; with_reducible exact H2_) | (have H2_ := (Option.bind_some _ _).symm.trans H; with_reducible exact H2_) | with_reducible exact H | (rw [hy172]; exact H) | exact H
   have Ny172 := Aside0.mk hy172
   clear hy172
   obtain ⟨⟨t175, t176, t177⟩, A24, H⟩ := oB H
   dsimp only at H
   simp only [Option.some.injEq, Prod.mk.injEq] at H
   obtain ⟨rfl, rfl, rfl, rfl, rfl⟩ := H
   go_enter Try.func46, Try.ntmps46
   go_wp2_with (first | ((with_reducible refine gD 2 rfl ?_); refine bE #[.int .i64 0, .int .i64 0, .int .i64 0] 25 ?_; intro gb153 hg w25 hbox hb; have n_ := aT (IsS79.below IsS79.qHI0 hb) (aT (KeepBut.trans kK (KeepBut.of_below hb g none) (.inl rfl)) (aT (below_step IsS79.bHI0 hb) (aT (hbox) (aT ((kZ hg : w.heap.size ≤ gb153)) (aT ((Nat.le_trans HW0.out (kZ hg : w.heap.size ≤ gb153) : w0.heap.size ≤ gb153)) (aT ((by rw [hg]; exact Nat.ne_of_lt (IsS79.lt (show IsS79 w0 _ g s0_0 s0_1 s0_2 from IsS79.qHI0)) : g ≠ gb153)) (aM ((by rw [hg]; exact Nat.ne_of_gt (IsS79.lt (show IsS79 w0 _ g s0_0 s0_1 s0_2 from IsS79.qHI0)) : gb153 ≠ g))))))))); clear HI0 HK HB; obtain ⟨HI0, HK, HB, BK153, GW153, GE153, NB0_153, NB153_0⟩ := n_; clear hb hbox hg) | ((with_reducible refine gC 51 rfl ?_); refine gL (some 5) Try.func51 #[.pointer (some ⟨g, 0, none⟩)] ?_; (with_reducible refine (spec_l4Rest.calls g s0_0 s0_1 s0_2 t154 t155 t156 t157 t158 w0 _ ?side1 ?side2 A2.out).mono ?_); (case side1 => exact IsS79.qHI0); (case side2 => exact IsS79.bHI0); rintro e w26 ⟨rfl, hi, hb, hk⟩; refine ⟨_, rfl, ?_⟩; have n_ := aT (kW hk BK153 NB153_0) (aT (KeepBut.trans kK hk (.inl rfl)) (aT (hb) (aM (hi)))); clear BK153 HK HB HI0; obtain ⟨BK153, HK, HB, HI0⟩ := n_; (try clear hb); (try clear hk); (try clear hi)) | ((with_reducible refine gD 3 rfl ?_); refine bE #[.int .i64 0, .int .i64 0, .int .i64 0] 25 ?_; intro gb159 hg w27 hbox hb; have n_ := aT (IsS79.below IsS79.qHI0 hb) (aT (bB BK153 hb) (aT (KeepBut.trans kK (KeepBut.of_below hb g none) (.inl rfl)) (aT (below_step IsS79.bHI0 hb) (aT (hbox) (aT ((kZ hg : w.heap.size ≤ gb159)) (aT ((Nat.le_trans HW0.out (kZ hg : w.heap.size ≤ gb159) : w0.heap.size ≤ gb159)) (aT (lB hg BK153) (aT (gB hg BK153) (aT ((by rw [hg]; exact Nat.ne_of_lt (IsS79.lt (show IsS79 w0 _ g s0_0 t157 t158 from IsS79.qHI0)) : g ≠ gb159)) (aM ((by rw [hg]; exact Nat.ne_of_gt (IsS79.lt (show IsS79 w0 _ g s0_0 t157 t158 from IsS79.qHI0)) : gb159 ≠ g)))))))))))); clear HI0 BK153 HK HB; obtain ⟨HI0, BK153, HK, HB, BK159, GW159, GE159, NB153_159, NB159_153, NB0_159, NB159_0⟩ := n_; clear hb hbox hg; have hnb28 := NB159_153.out; have hnc28 := NB153_159.out; have hnb29 := NB159_0.out; have hnc29 := NB0_159.out; obtain ⟨⟨hcz30_0, hcz30_1, hcz30_2⟩, hfz30_0, hfz30_1, hfz30_2⟩ := cF3 BK159) | ((with_reducible refine gC 52 rfl ?_); refine gL (some 7) Try.func52 #[.pointer (some ⟨g, 0, none⟩), .int .i64 8] ?_; (with_reducible refine (spec_l1Once.calls g s0_0 t157 t158 8 true t161 t162 w0 _ ?side1 ?side2 A3.out).mono ?_); (case side1 => exact IsS79.qHI0); (case side2 => exact IsS79.bHI0); rintro e w31 ⟨rfl, hi, hb, hk⟩; refine ⟨_, rfl, ?_⟩; have n_ := aT (kV hk NB153_159 BK153 NB153_0) (aT (KeepBut.blk hk (g' := gb159) (o := .cells #[.int .i64 t154, .int .i64 t155, .int .i64 t156] 25 (0, 0)) (bP BK159) NB159_0.out (by simp)) (aT (KeepBut.trans kK hk (.inl rfl)) (aT (hb) (aM (hi))))); clear BK153 BK159 HK HB HI0; obtain ⟨BK153, BK159, HK, HB, HI0⟩ := n_; (try clear hb); (try clear hk); (try clear hi)) | ((with_reducible refine gC 50 rfl ?_); refine gL (some 9) Try.func50 #[.pointer (some ⟨g, 0, none⟩), .int .i64 3] ?_; (with_reducible refine (spec_l1Below.calls g s0_0 t161 t162 3 t163 t164 t165 w0 _ ?side1 ?side2 A5.out).mono ?_); (case side1 => exact IsS79.qHI0); (case side2 => exact IsS79.bHI0); rintro e w32 ⟨rfl, hi, hb, hk⟩; refine ⟨_, rfl, ?_⟩; have n_ := aT (kW hk BK153 NB153_0) (aT (kW hk BK159 NB159_0) (aT (KeepBut.trans kK hk (.inl rfl)) (aT (hb) (aM (hi))))); clear BK153 BK159 HK HB HI0; obtain ⟨BK153, BK159, HK, HB, HI0⟩ := n_; (try clear hb); (try clear hk); (try clear hi)) | ((with_reducible refine gate_dst (N := 23) rfl ?_); refine Kd.R_lit (Kd.int .i64) _ 3 ?hg (N := 23) ?hd (xs := ([(-1), 256] : List Int)) (inner := [.int .i64 (-1), .int .i64 256]) (ok := fun _ => True) (okp := fun _ => True) ?hr ?hp (fun _ hk => hk) trivial (Below.refl _ _) (Nat.le_refl _) (by simp) ?_; (case hd => rfl); (case hg => rfl); (case hr => first | (go_simp; done) | (go_simp; rfl)); (case hp => exact (Reps.one (show Kd.M (Kd.int .i64) _ _ _ (-1) [.int .i64 (-1)] from rfl) (Reps.one (show Kd.M (Kd.int .i64) _ _ _ 256 [.int .i64 256] from rfl) (Reps.none _ _)))); intro v173 w33 ho34 hb hg_ hnew_; clear hg_ hnew_; (first | rw [← Ny172.out] at ho34 | (simp only [Int.reduceToNat] at ho34; rw [← Ny172.out] at ho34)); have n_ := aT (Kd.R_lower ho34 kL) (aT (IsS79.below IsS79.qHI0 hb) (aT (bB BK153 hb) (aT (bB BK159 hb) (aT (KeepBut.trans kK (KeepBut.of_below hb g none) (.inl rfl)) (aM (below_step IsS79.bHI0 hb)))))); clear HI0 BK153 BK159 HK HB; obtain ⟨HO174, HI0, BK153, BK159, HK, HB⟩ := n_; clear hb ho34; obtain ⟨Ao35, co35, eo35⟩ := Kd.R_slice HO174.out; subst eo35) | ((with_reducible refine gC 49 rfl ?_); refine gL (some 24) Try.func49 #[.pointer (some ⟨g, 0, none⟩), .slice Ao35 y172.length co35] ?_; (with_reducible refine (spec_l1PickInt.calls g s0_0 t164 t165 _ _ y172 t175 t176 t177 w0 _ ?side1 ?side2 ?side3 ?side4 ?side5 A24.out).mono ?_); (case side1 => exact IsS79.qHI0); (case side2 => exact IsS79.bHI0); (case side3 => exact cA ((Kd.R_reads' HO174.out).2.2)); (case side4 => exact (Kd.R_reads' HO174.out).2.1); (case side5 => exact far_slice (IsS79.own_ne HI0.out HO174.out (by decide))); rintro e w36 ⟨rfl, hi, hb, hk⟩; refine ⟨_, rfl, ?_⟩; have n_ := aT (kW hk BK153 NB153_0) (aT (kW hk BK159 NB159_0) (aT (IsS79.rK hk (kR HO174.out) (show IsS79 w0 _ g s0_0 t164 t165 from IsS79.qHI0)) (aT (KeepBut.trans kK hk (.inl rfl)) (aT (hb) (aM (hi)))))); clear BK153 BK159 HO174 HK HB HI0; obtain ⟨BK153, BK159, HO174, HK, HB, HI0⟩ := n_; (try clear hb); (try clear hk); (try clear hi); obtain ⟨⟨hcz37_0, hcz37_1, hcz37_2⟩, hfz37_0, hfz37_1, hfz37_2⟩ := cF3 BK159; have hnb38 := NB153_0.out; have hnc38 := NB0_153.out; obtain ⟨⟨hcz39_0, hcz39_1, hcz39_2⟩, hfz39_0, hfz39_1, hfz39_2⟩ := cF3 BK153))
   refine bodyPost_ret (results_cell_row rfl _ _ gb153 25 #[.int .i64 t154, .int .i64 t175, .int .i64 t156] (0, 0) _ rfl (bQ BK153) Try.underlying25 rfl (by kernel_rfl)) rfl ?_
   exact ⟨eE, IsS79.qHI0, IsS79.bHI0, kK⟩
  rw [if_neg c23] at H
  have c23b0 : (t163 == 1) = false := beq_eq_false_iff_ne.mpr c23
  have c23b1 : (t163 != 1) = true := bne_iff_ne.mpr c23
  obtain ⟨y178, hy178⟩ : ∃ y_ : List Int, y_ = (([(-1), 100000, 100001] : List Int)) := ⟨_, rfl⟩
  replace H : ((spec_l1PickInt.f s0_0 t164 t165 y178).bind fun bt181 => (some (t154, t155, bt181.1, bt181.2.1, bt181.2.2))) = some (r1, r2, r3, r4, r5) := by first | (rw [hy178]; with_reducible exact H) | (have H2_ := (Option.bind_some _ _).symm.trans H; rw [hy178]; with_reducible exact H2_) | (have H2_ := (Option.bind_some _ _).symm.trans H; with_reducible exact H2_) | with_reducible exact H | (rw [hy178]; exact H) | exact H
  have Ny178 := Aside0.mk hy178
  clear hy178
  obtain ⟨⟨t181, t182, t183⟩, A40, H⟩ := oB H
  dsimp only at H
  simp only [Option.some.injEq, Prod.mk.injEq] at H
  obtain ⟨rfl, rfl, rfl, rfl, rfl⟩ := H
  go_enter Try.func46, Try.ntmps46
  go_wp2_with (first | ((with_reducible refine gD 2 rfl ?_); refine bE #[.int .i64 0, .int .i64 0, .int .i64 0] 25 ?_; intro gb153 hg w41 hbox hb; have n_ := aT (IsS79.below IsS79.qHI0 hb) (aT (KeepBut.trans kK (KeepBut.of_below hb g none) (.inl rfl)) (aT (below_step IsS79.bHI0 hb) (aT (hbox) (aT ((kZ hg : w.heap.size ≤ gb153)) (aT ((Nat.le_trans HW0.out (kZ hg : w.heap.size ≤ gb153) : w0.heap.size ≤ gb153)) (aT ((by rw [hg]; exact Nat.ne_of_lt (IsS79.lt (show IsS79 w0 _ g s0_0 s0_1 s0_2 from IsS79.qHI0)) : g ≠ gb153)) (aM ((by rw [hg]; exact Nat.ne_of_gt (IsS79.lt (show IsS79 w0 _ g s0_0 s0_1 s0_2 from IsS79.qHI0)) : gb153 ≠ g))))))))); clear HI0 HK HB; obtain ⟨HI0, HK, HB, BK153, GW153, GE153, NB0_153, NB153_0⟩ := n_; clear hb hbox hg) | ((with_reducible refine gC 51 rfl ?_); refine gL (some 5) Try.func51 #[.pointer (some ⟨g, 0, none⟩)] ?_; (with_reducible refine (spec_l4Rest.calls g s0_0 s0_1 s0_2 t154 t155 t156 t157 t158 w0 _ ?side1 ?side2 A2.out).mono ?_); (case side1 => exact IsS79.qHI0); (case side2 => exact IsS79.bHI0); rintro e w42 ⟨rfl, hi, hb, hk⟩; refine ⟨_, rfl, ?_⟩; have n_ := aT (kW hk BK153 NB153_0) (aT (KeepBut.trans kK hk (.inl rfl)) (aT (hb) (aM (hi)))); clear BK153 HK HB HI0; obtain ⟨BK153, HK, HB, HI0⟩ := n_; (try clear hb); (try clear hk); (try clear hi)) | ((with_reducible refine gD 3 rfl ?_); refine bE #[.int .i64 0, .int .i64 0, .int .i64 0] 25 ?_; intro gb159 hg w43 hbox hb; have n_ := aT (IsS79.below IsS79.qHI0 hb) (aT (bB BK153 hb) (aT (KeepBut.trans kK (KeepBut.of_below hb g none) (.inl rfl)) (aT (below_step IsS79.bHI0 hb) (aT (hbox) (aT ((kZ hg : w.heap.size ≤ gb159)) (aT ((Nat.le_trans HW0.out (kZ hg : w.heap.size ≤ gb159) : w0.heap.size ≤ gb159)) (aT (lB hg BK153) (aT (gB hg BK153) (aT ((by rw [hg]; exact Nat.ne_of_lt (IsS79.lt (show IsS79 w0 _ g s0_0 t157 t158 from IsS79.qHI0)) : g ≠ gb159)) (aM ((by rw [hg]; exact Nat.ne_of_gt (IsS79.lt (show IsS79 w0 _ g s0_0 t157 t158 from IsS79.qHI0)) : gb159 ≠ g)))))))))))); clear HI0 BK153 HK HB; obtain ⟨HI0, BK153, HK, HB, BK159, GW159, GE159, NB153_159, NB159_153, NB0_159, NB159_0⟩ := n_; clear hb hbox hg; have hnb44 := NB159_153.out; have hnc44 := NB153_159.out; have hnb45 := NB159_0.out; have hnc45 := NB0_159.out; obtain ⟨⟨hcz46_0, hcz46_1, hcz46_2⟩, hfz46_0, hfz46_1, hfz46_2⟩ := cF3 BK159) | ((with_reducible refine gC 52 rfl ?_); refine gL (some 7) Try.func52 #[.pointer (some ⟨g, 0, none⟩), .int .i64 8] ?_; (with_reducible refine (spec_l1Once.calls g s0_0 t157 t158 8 true t161 t162 w0 _ ?side1 ?side2 A3.out).mono ?_); (case side1 => exact IsS79.qHI0); (case side2 => exact IsS79.bHI0); rintro e w47 ⟨rfl, hi, hb, hk⟩; refine ⟨_, rfl, ?_⟩; have n_ := aT (kV hk NB153_159 BK153 NB153_0) (aT (KeepBut.blk hk (g' := gb159) (o := .cells #[.int .i64 t154, .int .i64 t155, .int .i64 t156] 25 (0, 0)) (bP BK159) NB159_0.out (by simp)) (aT (KeepBut.trans kK hk (.inl rfl)) (aT (hb) (aM (hi))))); clear BK153 BK159 HK HB HI0; obtain ⟨BK153, BK159, HK, HB, HI0⟩ := n_; (try clear hb); (try clear hk); (try clear hi)) | ((with_reducible refine gC 50 rfl ?_); refine gL (some 9) Try.func50 #[.pointer (some ⟨g, 0, none⟩), .int .i64 3] ?_; (with_reducible refine (spec_l1Below.calls g s0_0 t161 t162 3 t163 t164 t165 w0 _ ?side1 ?side2 A5.out).mono ?_); (case side1 => exact IsS79.qHI0); (case side2 => exact IsS79.bHI0); rintro e w48 ⟨rfl, hi, hb, hk⟩; refine ⟨_, rfl, ?_⟩; have n_ := aT (kW hk BK153 NB153_0) (aT (kW hk BK159 NB159_0) (aT (KeepBut.trans kK hk (.inl rfl)) (aT (hb) (aM (hi))))); clear BK153 BK159 HK HB HI0; obtain ⟨BK153, BK159, HK, HB, HI0⟩ := n_; (try clear hb); (try clear hk); (try clear hi)) | ((with_reducible refine gate_dst (N := 11) rfl ?_); refine Kd.R_lit (Kd.int .i64) _ 3 ?hg (N := 11) ?hd (xs := ([(-1), 100000, 100001] : List Int)) (inner := [.int .i64 (-1), .int .i64 100000, .int .i64 100001]) (ok := fun _ => True) (okp := fun _ => True) ?hr ?hp (fun _ hk => hk) trivial (Below.refl _ _) (Nat.le_refl _) (by simp) ?_; (case hd => rfl); (case hg => rfl); (case hr => first | (go_simp; done) | (go_simp; rfl)); (case hp => exact (Reps.one (show Kd.M (Kd.int .i64) _ _ _ (-1) [.int .i64 (-1)] from rfl) (Reps.one (show Kd.M (Kd.int .i64) _ _ _ 100000 [.int .i64 100000] from rfl) (Reps.one (show Kd.M (Kd.int .i64) _ _ _ 100001 [.int .i64 100001] from rfl) (Reps.none _ _))))); intro v179 w49 ho50 hb hg_ hnew_; clear hg_ hnew_; (first | rw [← Ny178.out] at ho50 | (simp only [Int.reduceToNat] at ho50; rw [← Ny178.out] at ho50)); have n_ := aT (Kd.R_lower ho50 kL) (aT (IsS79.below IsS79.qHI0 hb) (aT (bB BK153 hb) (aT (bB BK159 hb) (aT (KeepBut.trans kK (KeepBut.of_below hb g none) (.inl rfl)) (aM (below_step IsS79.bHI0 hb)))))); clear HI0 BK153 BK159 HK HB; obtain ⟨HO180, HI0, BK153, BK159, HK, HB⟩ := n_; clear hb ho50; obtain ⟨Ao51, co51, eo51⟩ := Kd.R_slice HO180.out; subst eo51) | ((with_reducible refine gC 49 rfl ?_); refine gL (some 12) Try.func49 #[.pointer (some ⟨g, 0, none⟩), .slice Ao51 y178.length co51] ?_; (with_reducible refine (spec_l1PickInt.calls g s0_0 t164 t165 _ _ y178 t181 t182 t183 w0 _ ?side1 ?side2 ?side3 ?side4 ?side5 A40.out).mono ?_); (case side1 => exact IsS79.qHI0); (case side2 => exact IsS79.bHI0); (case side3 => exact cA ((Kd.R_reads' HO180.out).2.2)); (case side4 => exact (Kd.R_reads' HO180.out).2.1); (case side5 => exact far_slice (IsS79.own_ne HI0.out HO180.out (by decide))); rintro e w52 ⟨rfl, hi, hb, hk⟩; refine ⟨_, rfl, ?_⟩; have n_ := aT (kW hk BK153 NB153_0) (aT (kW hk BK159 NB159_0) (aT (IsS79.rK hk (kR HO180.out) (show IsS79 w0 _ g s0_0 t164 t165 from IsS79.qHI0)) (aT (KeepBut.trans kK hk (.inl rfl)) (aT (hb) (aM (hi)))))); clear BK153 BK159 HO180 HK HB HI0; obtain ⟨BK153, BK159, HO180, HK, HB, HI0⟩ := n_; (try clear hb); (try clear hk); (try clear hi); obtain ⟨⟨hcz53_0, hcz53_1, hcz53_2⟩, hfz53_0, hfz53_1, hfz53_2⟩ := cF3 BK159; have hnb54 := NB153_0.out; have hnc54 := NB0_153.out; obtain ⟨⟨hcz55_0, hcz55_1, hcz55_2⟩, hfz55_0, hfz55_1, hfz55_2⟩ := cF3 BK153))
  refine bodyPost_ret (results_cell_row rfl _ _ gb153 25 #[.int .i64 t154, .int .i64 t155, .int .i64 t181] (0, 0) _ rfl (bQ BK153) Try.underlying25 rfl (by kernel_rfl)) rfl ?_
  exact ⟨eE, IsS79.qHI0, IsS79.bHI0, kK⟩
 replace c4 := Bool.eq_false_iff.mpr c4
 subst c4
 rw [if_neg nF] at H
 simp only [Option.some.injEq, Prod.mk.injEq] at H
 obtain ⟨rfl, rfl, rfl, rfl, rfl⟩ := H
 go_enter Try.func46, Try.ntmps46
 go_wp2_with (first | ((with_reducible refine gD 2 rfl ?_); refine bE #[.int .i64 0, .int .i64 0, .int .i64 0] 25 ?_; intro gb153 hg w56 hbox hb; have n_ := aT (IsS79.below IsS79.qHI0 hb) (aT (KeepBut.trans kK (KeepBut.of_below hb g none) (.inl rfl)) (aT (below_step IsS79.bHI0 hb) (aT (hbox) (aT ((kZ hg : w.heap.size ≤ gb153)) (aT ((Nat.le_trans HW0.out (kZ hg : w.heap.size ≤ gb153) : w0.heap.size ≤ gb153)) (aT ((by rw [hg]; exact Nat.ne_of_lt (IsS79.lt (show IsS79 w0 _ g s0_0 s0_1 s0_2 from IsS79.qHI0)) : g ≠ gb153)) (aM ((by rw [hg]; exact Nat.ne_of_gt (IsS79.lt (show IsS79 w0 _ g s0_0 s0_1 s0_2 from IsS79.qHI0)) : gb153 ≠ g))))))))); clear HI0 HK HB; obtain ⟨HI0, HK, HB, BK153, GW153, GE153, NB0_153, NB153_0⟩ := n_; clear hb hbox hg) | ((with_reducible refine gC 51 rfl ?_); refine gL (some 5) Try.func51 #[.pointer (some ⟨g, 0, none⟩)] ?_; (with_reducible refine (spec_l4Rest.calls g s0_0 s0_1 s0_2 t154 t155 t156 t157 t158 w0 _ ?side1 ?side2 A2.out).mono ?_); (case side1 => exact IsS79.qHI0); (case side2 => exact IsS79.bHI0); rintro e w57 ⟨rfl, hi, hb, hk⟩; refine ⟨_, rfl, ?_⟩; have n_ := aT (kW hk BK153 NB153_0) (aT (KeepBut.trans kK hk (.inl rfl)) (aT (hb) (aM (hi)))); clear BK153 HK HB HI0; obtain ⟨BK153, HK, HB, HI0⟩ := n_; (try clear hb); (try clear hk); (try clear hi)) | ((with_reducible refine gD 3 rfl ?_); refine bE #[.int .i64 0, .int .i64 0, .int .i64 0] 25 ?_; intro gb159 hg w58 hbox hb; have n_ := aT (IsS79.below IsS79.qHI0 hb) (aT (bB BK153 hb) (aT (KeepBut.trans kK (KeepBut.of_below hb g none) (.inl rfl)) (aT (below_step IsS79.bHI0 hb) (aT (hbox) (aT ((kZ hg : w.heap.size ≤ gb159)) (aT ((Nat.le_trans HW0.out (kZ hg : w.heap.size ≤ gb159) : w0.heap.size ≤ gb159)) (aT (lB hg BK153) (aT (gB hg BK153) (aT ((by rw [hg]; exact Nat.ne_of_lt (IsS79.lt (show IsS79 w0 _ g s0_0 t157 t158 from IsS79.qHI0)) : g ≠ gb159)) (aM ((by rw [hg]; exact Nat.ne_of_gt (IsS79.lt (show IsS79 w0 _ g s0_0 t157 t158 from IsS79.qHI0)) : gb159 ≠ g)))))))))))); clear HI0 BK153 HK HB; obtain ⟨HI0, BK153, HK, HB, BK159, GW159, GE159, NB153_159, NB159_153, NB0_159, NB159_0⟩ := n_; clear hb hbox hg; have hnb59 := NB159_153.out; have hnc59 := NB153_159.out; have hnb60 := NB159_0.out; have hnc60 := NB0_159.out; obtain ⟨⟨hcz61_0, hcz61_1, hcz61_2⟩, hfz61_0, hfz61_1, hfz61_2⟩ := cF3 BK159) | ((with_reducible refine gC 52 rfl ?_); refine gL (some 7) Try.func52 #[.pointer (some ⟨g, 0, none⟩), .int .i64 8] ?_; (with_reducible refine (spec_l1Once.calls g s0_0 t157 t158 8 false t161 t162 w0 _ ?side1 ?side2 A3.out).mono ?_); (case side1 => exact IsS79.qHI0); (case side2 => exact IsS79.bHI0); rintro e w62 ⟨rfl, hi, hb, hk⟩; refine ⟨_, rfl, ?_⟩; have n_ := aT (kV hk NB153_159 BK153 NB153_0) (aT (KeepBut.blk hk (g' := gb159) (o := .cells #[.int .i64 t154, .int .i64 t155, .int .i64 t156] 25 (0, 0)) (bP BK159) NB159_0.out (by simp)) (aT (KeepBut.trans kK hk (.inl rfl)) (aT (hb) (aM (hi))))); clear BK153 BK159 HK HB HI0; obtain ⟨BK153, BK159, HK, HB, HI0⟩ := n_; (try clear hb); (try clear hk); (try clear hi); obtain ⟨⟨hcz63_0, hcz63_1, hcz63_2⟩, hfz63_0, hfz63_1, hfz63_2⟩ := cF3 BK159; have hnb64 := NB153_0.out; have hnc64 := NB0_153.out; obtain ⟨⟨hcz65_0, hcz65_1, hcz65_2⟩, hfz65_0, hfz65_1, hfz65_2⟩ := cF3 BK153))
 refine bodyPost_ret (results_cell_row rfl _ _ gb153 25 #[.int .i64 t154, .int .i64 t155, .int .i64 t156] (0, 0) _ rfl (bP BK153) Try.underlying25 rfl (by kernel_rfl)) rfl ?_
 exact ⟨eE, IsS79.qHI0, IsS79.bHI0, kK⟩

end Go.Proofs.Ytaldemgfndmmlaa.OFnTickets
-- wrapped
-- halved
-- squeezed
-- squeezed2
-- squeezed3
