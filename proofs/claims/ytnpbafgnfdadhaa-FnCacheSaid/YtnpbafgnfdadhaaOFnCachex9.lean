-- walks of this claim, written by a program of mine
import Derived.Test.YtnpbafgnfdadhaaOFnCachex0
import Derived.Test.YtnpbafgnfdadhaaOFnCachex7
import Derived.Test.YtnpbafgnfdadhaaOFnCachex8
namespace Go.Proofs.Ytnpbafgnfdadhaa.OFnCache
open Go.RowKit Go.Proofs.Ytnpbafgnfdadhaa.OWord Go.Proofs.YtnpbafgnfdadhaaW.PrintWords Go.Proofs.YtnpbafgnfdadhaaW.PrintLast Go.Proofs.YtnpbafgnfdadhaaW.PrintMore
attribute [local go_sem] max2_int min2_int max_two min_two max_three min_three max_four min_four   -- for this text's walks alone
set_option linter.unusedVariables false
set_option linter.unusedSimpArgs false

/-! ### impl_CacheTry: function 7 -/
mutual
def impl_CacheTry.l0 : Nat → Int → Int → List (S28) → List (S28) → Int → Int → Int → List (S28) → Int → Int → Int → Int → List (S28) → Option (Int × (List (S28)) × Int)
 | 0, _, _, _, _, _, _, _, _, _, _, _, _, _ => none
 | k + 1, x2, x3, x11, x22, x23, x24, x363000, x363001, x364000, x364001, x364002, x371000, x371001 => if x24 < x23 then (if 0 ≤ x24 then (if x24 < (x22.length : Int) then (if ((rd_T28 x22 x24).f1) ≥ (wrap64 (x2 - x3)) then (if x11.length < 5864062014805 then (impl_CacheTry.l0 k x2 x3 (x11 ++ [(⟨(rd_T28 x22 x24).f0, (rd_T28 x22 x24).f1, (rd_T28 x22 x24).f2⟩ : S28)]) x22 x23 (wrap64 (x24 + 1)) x363000 x363001 x364000 x364001 x364002 x371000 x371001) else (none)) else (impl_CacheTry.l0 k x2 x3 x11 x22 x23 (wrap64 (x24 + 1)) x363000 x363001 x364000 x364001 x364002 x371000 x371001)) else (none)) else (none)) else ((impl_authOk.f x364000 x364001 x364002).bind fun t379 => (if t379 = true then ((impl_isTime.f x2).bind fun t380 => (if t380 = true then ((impl_isSkew.f x3).bind fun t381 => (impl_CacheTry.j1 k x2 x3 x11 (!t381) x363000 x363001 x364000 x364001 x364002 x371000 x371001)) else (impl_CacheTry.j1 k x2 x3 x11 true x363000 x363001 x364000 x364001 x364002 x371000 x371001))) else (impl_CacheTry.j1 k x2 x3 x11 true x363000 x363001 x364000 x364001 x364002 x371000 x371001)))
def impl_CacheTry.j1 : Nat → Int → Int → List (S28) → Bool → Int → List (S28) → Int → Int → Int → Int → List (S28) → Option (Int × (List (S28)) × Int)
 | 0, _, _, _, _, _, _, _, _, _, _, _ => none
 | k + 1, x2, x3, x11, x39, x363000, x363001, x364000, x364001, x364002, x371000, x371001 => if x39 = true then (some (x371000, x371001, 1)) else ((impl_apart.f x2 x364001).bind fun t382 => (if t382 > x3 then (some (x371000, x371001, 2)) else (if x2 ≤ x363000 then (some (x371000, x371001, 3)) else ((impl_Auth_31.f k x363001 x364000 x364001 x364002).bind fun t383 => (if t383 = true then (some (x371000, x371001, 4)) else (if (x11.length : Int) = 6 then (some (x371000, x371001, 5)) else (if x11.length < 5864062014805 then (some (x371000, (x11 ++ [(⟨x364000, x364001, x364002⟩ : S28)]), 0)) else (none))))))))
end
def impl_CacheTry.f (k : Nat) (a0_0 : Int) (l0_1 : List (S28)) (a1_0 : Int) (a1_1 : Int) (a1_2 : Int) (a2 : Int) (a3 : Int) : Option (Int × (List (S28)) × Int) := (impl_CacheOk.f k a0_0 l0_1).bind fun t365 => (if t365 = true then ((impl_copyCache.f a0_0 l0_1).bind fun bt366 => (impl_CacheTry.l0 k a2 a3 (([] : List (S28))) l0_1 (l0_1.length : Int) 0 a0_0 l0_1 a1_0 a1_1 a1_2 bt366.1 bt366.2)) else (some (0, ([] : List (S28)), 1)))
theorem impl_CacheTry.mono_l : ∀ k, (∀ y0 y1 y2 y3 y4 y5 y6 y7 y8 y9 y10 y11 y12, LeO (impl_CacheTry.l0 k y0 y1 y2 y3 y4 y5 y6 y7 y8 y9 y10 y11 y12) (impl_CacheTry.l0 (k + 1) y0 y1 y2 y3 y4 y5 y6 y7 y8 y9 y10 y11 y12)) ∧ (∀ y0 y1 y2 y3 y4 y5 y6 y7 y8 y9 y10, LeO (impl_CacheTry.j1 k y0 y1 y2 y3 y4 y5 y6 y7 y8 y9 y10) (impl_CacheTry.j1 (k + 1) y0 y1 y2 y3 y4 y5 y6 y7 y8 y9 y10))
 | 0 => ⟨fun _ _ _ _ _ _ _ _ _ _ _ _ _ r h => by simp [impl_CacheTry.l0] at h, fun _ _ _ _ _ _ _ _ _ _ _ r h => by simp [impl_CacheTry.j1] at h⟩
 | k + 1 => by
  obtain ⟨ih0, ih1⟩ := impl_CacheTry.mono_l k
  refine ⟨?_, ?_⟩
  ·intro y0 y1 y2 y3 y4 y5 y6 y7 y8 y9 y10 y11 y12
   unfold impl_CacheTry.l0
   repeat' first
   | (with_reducible exact ih0 _ _ _ _ _ _ _ _ _ _ _ _ _)
   | (with_reducible exact ih1 _ _ _ _ _ _ _ _ _ _ _)
   | (with_reducible exact impl_Auth_31.mono _ _ _ _ _)
   | (with_reducible exact impl_CacheOk.mono _ _ _)
   | (with_reducible exact LeO.refl _)
   | (with_reducible exact LeO.none _)
   | (with_reducible refine LeO.ite ?_ ?_)
   | (with_reducible refine LeO.bind ?_ (fun _ => ?_))
   | exact ih0 _ _ _ _ _ _ _ _ _ _ _ _ _
   | exact ih1 _ _ _ _ _ _ _ _ _ _ _
   | exact impl_Auth_31.mono _ _ _ _ _
   | exact impl_CacheOk.mono _ _ _
   | exact LeO.none _
   | refine LeO.ite ?_ ?_
   | refine LeO.bind ?_ (fun _ => ?_)
  ·intro y0 y1 y2 y3 y4 y5 y6 y7 y8 y9 y10
   unfold impl_CacheTry.j1
   repeat' first
   | (with_reducible exact ih0 _ _ _ _ _ _ _ _ _ _ _ _ _)
   | (with_reducible exact ih1 _ _ _ _ _ _ _ _ _ _ _)
   | (with_reducible exact impl_Auth_31.mono _ _ _ _ _)
   | (with_reducible exact impl_CacheOk.mono _ _ _)
   | (with_reducible exact LeO.refl _)
   | (with_reducible exact LeO.none _)
   | (with_reducible refine LeO.ite ?_ ?_)
   | (with_reducible refine LeO.bind ?_ (fun _ => ?_))
   | exact ih0 _ _ _ _ _ _ _ _ _ _ _ _ _
   | exact ih1 _ _ _ _ _ _ _ _ _ _ _
   | exact impl_Auth_31.mono _ _ _ _ _
   | exact impl_CacheOk.mono _ _ _
   | exact LeO.none _
   | refine LeO.ite ?_ ?_
   | refine LeO.bind ?_ (fun _ => ?_)
theorem impl_CacheTry.mono : ∀ a0 a1 a2 a3 a4 a5 a6 k, LeO (impl_CacheTry.f k a0 a1 a2 a3 a4 a5 a6) (impl_CacheTry.f (k + 1) a0 a1 a2 a3 a4 a5 a6) := by
 intro a0 a1 a2 a3 a4 a5 a6 k
 obtain ⟨ih0, ih1⟩ := impl_CacheTry.mono_l k
 unfold impl_CacheTry.f
 repeat' first
   | (with_reducible exact ih0 _ _ _ _ _ _ _ _ _ _ _ _ _)
   | (with_reducible exact ih1 _ _ _ _ _ _ _ _ _ _ _)
   | (with_reducible exact impl_Auth_31.mono _ _ _ _ _)
   | (with_reducible exact impl_CacheOk.mono _ _ _)
   | (with_reducible exact LeO.refl _)
   | (with_reducible exact LeO.none _)
   | (with_reducible refine LeO.ite ?_ ?_)
   | (with_reducible refine LeO.bind ?_ (fun _ => ?_))
   | exact ih0 _ _ _ _ _ _ _ _ _ _ _ _ _
   | exact ih1 _ _ _ _ _ _ _ _ _ _ _
   | exact impl_Auth_31.mono _ _ _ _ _
   | exact impl_CacheOk.mono _ _ _
   | exact LeO.none _
   | refine LeO.ite ?_ ?_
   | refine LeO.bind ?_ (fun _ => ?_)
set_option maxHeartbeats 8000000 in
set_option maxRecDepth 100000 in
theorem impl_CacheTry.calls (k : Nat) (a0_0 : Int) (A0_1 : Option Addr) (c0_1 : Nat) (l0_1 : List (S28)) (a1_0 : Int) (a1_1 : Int) (a1_2 : Int) (a2 : Int) (a3 : Int) (r1 : Int) (r2 : List (S28)) (r3 : Int) (w : World) (hr0_1 : Kd.C k28 w A0_1 l0_1.length l0_1) (hc0_1 : l0_1.length ≤ c0_1) (h : impl_CacheTry.f k a0_0 l0_1 a1_0 a1_1 a1_2 a2 a3 = some (r1, r2, r3)) :
  Calls Try.prog 7 #[.agg #[.int .i64 a0_0, .slice A0_1 l0_1.length c0_1], .agg #[.int .i64 a1_0, .int .i64 a1_1, .int .i64 a1_2], .int .i64 a2, .int .i64 a3] w fun e w' => ∃ v1_ : Value, e = .returned (.tuple #[.agg #[.int .i64 r1, v1_], .int .i64 r3]) ∧ Kd.R k28 28 w' w.heap.size (fun _ => True) v1_ r2 ∧ Below w.heap.size w w' := by
 have hu26 := Try.underlying26
 have hu28 := Try.underlying28
 have HR0_1 := Aside0.mk hr0_1
 have HC0_1 := Aside0.mk hc0_1
 clear hr0_1 hc0_1
 have HB := Aside0.mk (Below.refl w.heap.size w)
 have H : ((impl_CacheOk.f k a0_0 l0_1).bind fun t365 => (if t365 = true then ((impl_copyCache.f a0_0 l0_1).bind fun bt366 => (impl_CacheTry.l0 k a2 a3 (([] : List (S28))) l0_1 (l0_1.length : Int) 0 a0_0 l0_1 a1_0 a1_1 a1_2 bt366.1 bt366.2)) else (some (0, ([] : List (S28)), 1)))) = some (r1, r2, r3) := h
 clear h
 replace H := Option.bind_eq_some_iff.mp H
 obtain ⟨t365, A50, H⟩ := H
 replace H : (if t365 = true then ((impl_copyCache.f a0_0 l0_1).bind fun bt366 => (impl_CacheTry.l0 k a2 a3 (([] : List (S28))) l0_1 (l0_1.length : Int) 0 a0_0 l0_1 a1_0 a1_1 a1_2 bt366.1 bt366.2)) else (some (0, ([] : List (S28)), 1))) = some (r1, r2, r3) := H
 have A5 := Aside0.mk A50
 clear A50
 by_cases c6 : t365 = true
 ·subst c6
  have H1 : ((impl_copyCache.f a0_0 l0_1).bind fun bt366 => (impl_CacheTry.l0 k a2 a3 (([] : List (S28))) l0_1 (l0_1.length : Int) 0 a0_0 l0_1 a1_0 a1_1 a1_2 bt366.1 bt366.2)) = some (r1, r2, r3) := by rw [if_pos rfl] at H; exact H
  clear H
  have H := H1
  clear H1
  replace H := Option.bind_eq_some_iff.mp H
  obtain ⟨⟨t366, t367⟩, A70, H⟩ := H
  replace H : (impl_CacheTry.l0 k a2 a3 (([] : List (S28))) l0_1 (l0_1.length : Int) 0 a0_0 l0_1 a1_0 a1_1 a1_2 t366 t367) = some (r1, r2, r3) := H
  have A7 := Aside0.mk A70
  clear A70
  obtain ⟨y371, hy371⟩ : ∃ y_ : List (S28), y_ = (([] : List (S28))) := ⟨_, rfl⟩
  replace H : (impl_CacheTry.l0 k a2 a3 y371 l0_1 (l0_1.length : Int) 0 a0_0 l0_1 a1_0 a1_1 a1_2 t366 t367) = some (r1, r2, r3) := by first | (rw [hy371]; with_reducible exact H) | (have H2_ := (Option.bind_some _ _).symm.trans H; rw [hy371]; with_reducible exact H2_) | (have H2_ := (Option.bind_some _ _).symm.trans H; with_reducible exact H2_) | with_reducible exact H | (rw [hy371]; exact H) | exact H
  have Ny371 := Aside0.mk hy371
  clear hy371
  have H' := Aside0.mk H
  clear H
  go_enter Try.func7, Try.ntmps7
  go_wp2_with (first | ((with_reducible refine gate_dst (N := 4) rfl ?_); refine box_event ?hg (N := 4) ?hd (cs := #[.int .i64 a0_0, .slice A0_1 l0_1.length c0_1]) (t := 26) ?hr ?_; (case hd => rfl); (case hg => rfl); (case hr => first | (go_simp; done) | (go_simp; rfl)); intro gb362 hg w8 hbox hb; have n0_ := Aside0.mk (below_step bH hb); have n1_ := Aside0.mk (hbox); have n2_ := Aside0.mk ((bZ hg : w.heap.size ≤ gb362)); have n3_ := Aside0.mk ((bZ hg : w.heap.size ≤ gb362)); clear HB; have HB := n0_; have BK362 := n1_; have GW362 := n2_; have GE362 := n3_; clear n0_ n1_ n2_ n3_; clear hb hbox hg) | ((with_reducible refine gate_dst (N := 5) rfl ?_); refine box_event ?hg (N := 5) ?hd (cs := #[.int .i64 a1_0, .int .i64 a1_1, .int .i64 a1_2]) (t := 28) ?hr ?_; (case hd => rfl); (case hg => rfl); (case hr => first | (go_simp; done) | (go_simp; rfl)); intro gb363 hg w9 hbox hb; have n0_ := Aside0.mk (blk_below (kB BK362.out) hb); have n1_ := Aside0.mk (below_step bS hb); have n2_ := Aside0.mk (hbox); have n3_ := Aside0.mk ((bZ hg : w.heap.size ≤ gb363)); have n4_ := Aside0.mk ((bZ hg : w.heap.size ≤ gb363)); have n5_ := Aside0.mk ((nL hg BK362.out : gb362 ≠ gb363)); have n6_ := Aside0.mk ((nG hg BK362.out : gb363 ≠ gb362)); clear BK362; clear HB; have BK362 := n0_; have HB := n1_; have BK363 := n2_; have GW363 := n3_; have GE363 := n4_; have NB362_363 := n5_; have NB363_362 := n6_; clear n0_ n1_ n2_ n3_ n4_ n5_ n6_; clear hb hbox hg) | ((with_reducible refine gate_dst (N := 8) rfl ?_); refine box_event ?hg (N := 8) ?hd (cs := #[.int .i64 0, .slice none 0 0]) (t := 26) ?hr ?_; (case hd => rfl); (case hg => rfl); (case hr => first | (go_simp; done) | (go_simp; rfl)); intro gb364 hg w10 hbox hb; have n0_ := Aside0.mk (blk_below (kB BK362.out) hb); have n1_ := Aside0.mk (blk_below (kB BK363.out) hb); have n2_ := Aside0.mk (below_step bS hb); have n3_ := Aside0.mk (hbox); have n4_ := Aside0.mk ((bZ hg : w.heap.size ≤ gb364)); have n5_ := Aside0.mk ((bZ hg : w.heap.size ≤ gb364)); have n6_ := Aside0.mk ((nL hg BK362.out : gb362 ≠ gb364)); have n7_ := Aside0.mk ((nG hg BK362.out : gb364 ≠ gb362)); have n8_ := Aside0.mk ((nL hg BK363.out : gb363 ≠ gb364)); have n9_ := Aside0.mk ((nG hg BK363.out : gb364 ≠ gb363)); clear BK362; clear BK363; clear HB; have BK362 := n0_; have BK363 := n1_; have HB := n2_; have BK364 := n3_; have GW364 := n4_; have GE364 := n5_; have NB362_364 := n6_; have NB364_362 := n7_; have NB363_364 := n8_; have NB364_363 := n9_; clear n0_ n1_ n2_ n3_ n4_ n5_ n6_ n7_ n8_ n9_; clear hb hbox hg; have hnb11 := NB362_363.out; have hnc11 := NB363_362.out; have hnb12 := NB362_364.out; have hnc12 := NB364_362.out; have hcz13_0 : w10.cell? ⟨gb362, 0, none⟩ = some (.int .i64 a0_0) := (blk_cell BK362.out 0).trans rfl; have hcz13_1 : w10.cell? ⟨gb362, 1, none⟩ = some (.slice A0_1 l0_1.length c0_1) := (blk_cell BK362.out 1).trans rfl; have hfz13_0 := blk_frozen BK362.out 0; have hfz13_1 := blk_frozen BK362.out 1) | ((with_reducible refine gate_callee (f := 25) rfl ?_); refine goesL_ (some 15) rfl rfl Try.func25 (by kernel_rfl) rfl #[.agg #[.int .i64 a0_0, .slice A0_1 l0_1.length c0_1]] rfl eA ?_; (with_reducible refine (impl_CacheOk.calls k a0_0 _ _ l0_1 true _ ?side1 ?side2 A5.out).mono ?_); (case side1 => repeat (first | exact (Kd.C_below HR0_1.out HB.out) | (with_reducible refine Kd.C_alloc ?_ _) | (with_reducible refine Kd.C_drewN ?_ _) | (with_reducible refine Kd.C_drew ?_))); (case side2 => exact HC0_1.out); rintro e w14 ⟨rfl, hb⟩; refine ⟨_, rfl, ?_⟩; have n0_ := Aside0.mk (blk_below (kB BK362.out) hb); have n1_ := Aside0.mk (blk_below (kB BK363.out) hb); have n2_ := Aside0.mk (blk_below (kB BK364.out) hb); have n3_ := Aside0.mk (below_step bS hb); clear BK362; clear BK363; clear BK364; clear HB; have BK362 := n0_; have BK363 := n1_; have BK364 := n2_; have HB := n3_; clear n0_ n1_ n2_ n3_; (try clear hb); (try clear hb2); (try clear hk); (try clear hi); have hcz15_0 : w14.cell? ⟨gb362, 0, none⟩ = some (.int .i64 a0_0) := (blk_cell BK362.out 0).trans rfl; have hcz15_1 : w14.cell? ⟨gb362, 1, none⟩ = some (.slice A0_1 l0_1.length c0_1) := (blk_cell BK362.out 1).trans rfl; have hfz15_0 := blk_frozen BK362.out 0; have hfz15_1 := blk_frozen BK362.out 1) | ((with_reducible refine gate_callee (f := 26) rfl ?_); refine goesL_ (some 19) rfl rfl Try.func26 (by kernel_rfl) rfl #[.agg #[.int .i64 a0_0, .slice A0_1 l0_1.length c0_1]] rfl eA ?_; (with_reducible refine (impl_copyCache.calls a0_0 _ _ l0_1 t366 t367 _ ?side1 ?side2 A7.out).mono ?_); (case side1 => repeat (first | exact (Kd.C_below HR0_1.out HB.out) | (with_reducible refine Kd.C_alloc ?_ _) | (with_reducible refine Kd.C_drewN ?_ _) | (with_reducible refine Kd.C_drew ?_))); (case side2 => exact HC0_1.out); rintro e w16 ⟨v368, rfl, ho0, hb⟩; refine ⟨_, rfl, ?_⟩; have n0_ := Aside0.mk (Kd.R_lower (Kd.R_newB ho0 (g := gb363) (o := .cells #[.int .i64 a1_0, .int .i64 a1_1, .int .i64 a1_2] 28 (0, 0)) (kB BK363.out)) (below_size bS)); have n1_ := Aside0.mk (blk_below (kB BK362.out) hb); have n2_ := Aside0.mk (blk_below (kB BK363.out) hb); have n3_ := Aside0.mk (blk_below (kB BK364.out) hb); have n4_ := Aside0.mk (below_step bS hb); clear BK362; clear BK363; clear BK364; clear HB; have HO369 := n0_; have BK362 := n1_; have BK363 := n2_; have BK364 := n3_; have HB := n4_; clear n0_ n1_ n2_ n3_ n4_; (try clear hb); (try clear hb2); (try clear hk); (try clear hi); (try clear ho0)) | ((with_reducible refine gate_dst (N := 10) rfl ?_); refine box_event ?hg (N := 10) ?hd (cs := #[.int .i64 0, .slice none 0 0]) (t := 26) ?hr ?_; (case hd => rfl); (case hg => rfl); (case hr => first | (go_simp; done) | (go_simp; rfl)); intro gb370 hg w17 hbox hb; have n0_ := Aside0.mk (Kd.R_below (kR HO369.out) hb); have n1_ := Aside0.mk (blk_below (kB BK362.out) hb); have n2_ := Aside0.mk (blk_below (kB BK363.out) hb); have n3_ := Aside0.mk (blk_below (kB BK364.out) hb); have n4_ := Aside0.mk (below_step bS hb); have n5_ := Aside0.mk (hbox); have n6_ := Aside0.mk ((bZ hg : w.heap.size ≤ gb370)); have n7_ := Aside0.mk ((bZ hg : w.heap.size ≤ gb370)); have n8_ := Aside0.mk ((nL hg BK362.out : gb362 ≠ gb370)); have n9_ := Aside0.mk ((nG hg BK362.out : gb370 ≠ gb362)); have n10_ := Aside0.mk ((nL hg BK363.out : gb363 ≠ gb370)); have n11_ := Aside0.mk ((nG hg BK363.out : gb370 ≠ gb363)); have n12_ := Aside0.mk ((nL hg BK364.out : gb364 ≠ gb370)); have n13_ := Aside0.mk ((nG hg BK364.out : gb370 ≠ gb364)); clear HO369; clear BK362; clear BK363; clear BK364; clear HB; have HO369 := n0_; have BK362 := n1_; have BK363 := n2_; have BK364 := n3_; have HB := n4_; have BK370 := n5_; have GW370 := n6_; have GE370 := n7_; have NB362_370 := n8_; have NB370_362 := n9_; have NB363_370 := n10_; have NB370_363 := n11_; have NB364_370 := n12_; have NB370_364 := n13_; clear n0_ n1_ n2_ n3_ n4_ n5_ n6_ n7_ n8_ n9_ n10_ n11_ n12_ n13_; clear hb hbox hg; have hnb18 := NB370_362.out; have hnc18 := NB362_370.out; have hnb19 := NB370_363.out; have hnc19 := NB363_370.out; have hnb20 := NB370_364.out; have hnc20 := NB364_370.out; have hcz21_0 : w17.cell? ⟨gb370, 0, none⟩ = some (.int .i64 0) := (blk_cell BK370.out 0).trans rfl; have hcz21_1 : w17.cell? ⟨gb370, 1, none⟩ = some (.slice none 0 0) := (blk_cell BK370.out 1).trans rfl; have hfz21_0 := blk_frozen BK370.out 0; have hfz21_1 := blk_frozen BK370.out 1; obtain ⟨Ao22, co22, eo22⟩ := Kd.R_slice HO369.out; subst eo22) | ((with_reducible refine gate_dst (N := 20) rfl ?_); refine Kd.R_lit k28 _ 28 ?hg (N := 20) ?hd (xs := ([] : List (S28))) (inner := []) (ok := fun _ => True) (okp := fun _ => True) ?hr ?hp (fun _ hk => hk) trivial (Below.refl _ _) (Nat.le_refl _) (by simp) ?_; (case hd => rfl); (case hg => rfl); (case hr => first | (go_simp; done) | (go_simp; rfl)); (case hp => exact (Reps.none _ _)); intro v372 w23 ho24 hb hg_ hnew_; clear hg_ hnew_; (first | rw [← Ny371.out] at ho24 | (simp only [Int.reduceToNat] at ho24; rw [← Ny371.out] at ho24)); have n0_ := Aside0.mk (Kd.R_elder' (by (with_reducible repeat (first | apply Kd.R_alloc | apply Kd.R_drewN | apply Kd.R_drew)); exact (Kd.R_mono (Kd.R_far (p := ⟨gb370, 1, none⟩) (Kd.R_far (p := ⟨gb370, 0, none⟩) (Kd.R_types HO369.out BK370.out (by decide)) (fun _ hk => hk.2) (.int .i64 t366)) (fun _ hk => hk.2) (.slice Ao22 t367.length co22)) (fun _ h_ => h_.1))) (Kd.R_base ho24) hb); have n1_ := Aside0.mk (Kd.R_lower (Kd.R_newB (Kd.R_new' ho24 (Kd.R_lt (by (with_reducible repeat (first | apply Kd.R_alloc | apply Kd.R_drewN | apply Kd.R_drew)); exact (Kd.R_mono (Kd.R_far (p := ⟨gb370, 1, none⟩) (Kd.R_far (p := ⟨gb370, 0, none⟩) (Kd.R_types HO369.out BK370.out (by decide)) (fun _ hk => hk.2) (.int .i64 t366)) (fun _ hk => hk.2) (.slice Ao22 t367.length co22)) (fun _ h_ => h_.1))))) (g := gb363) (o := .cells #[.int .i64 a1_0, .int .i64 a1_1, .int .i64 a1_2] 28 (0, 0)) (by (with_reducible repeat (first | refine blk_drewN ?_ _ | refine blk_drew ?_ | refine blk_alloc ?_ _)); refine blk_far ?_ NB363_370.out _; (with_reducible repeat (first | refine blk_drewN ?_ _ | refine blk_drew ?_ | refine blk_alloc ?_ _)); refine blk_far ?_ NB363_370.out _; (with_reducible repeat (first | refine blk_drewN ?_ _ | refine blk_drew ?_ | refine blk_alloc ?_ _)); exact BK363.out)) (below_size bS)); have n2_ := Aside0.mk (blk_below (g := gb362) (o := .cells #[.int .i64 a0_0, .slice A0_1 l0_1.length c0_1] 26 (0, 0)) (by (with_reducible repeat (first | refine blk_drewN ?_ _ | refine blk_drew ?_ | refine blk_alloc ?_ _)); refine blk_far ?_ NB362_370.out _; (with_reducible repeat (first | refine blk_drewN ?_ _ | refine blk_drew ?_ | refine blk_alloc ?_ _)); refine blk_far ?_ NB362_370.out _; (with_reducible repeat (first | refine blk_drewN ?_ _ | refine blk_drew ?_ | refine blk_alloc ?_ _)); exact BK362.out) hb); have n3_ := Aside0.mk (blk_below (g := gb363) (o := .cells #[.int .i64 a1_0, .int .i64 a1_1, .int .i64 a1_2] 28 (0, 0)) (by (with_reducible repeat (first | refine blk_drewN ?_ _ | refine blk_drew ?_ | refine blk_alloc ?_ _)); refine blk_far ?_ NB363_370.out _; (with_reducible repeat (first | refine blk_drewN ?_ _ | refine blk_drew ?_ | refine blk_alloc ?_ _)); refine blk_far ?_ NB363_370.out _; (with_reducible repeat (first | refine blk_drewN ?_ _ | refine blk_drew ?_ | refine blk_alloc ?_ _)); exact BK363.out) hb); have n4_ := Aside0.mk (blk_below (g := gb364) (o := .cells #[.int .i64 0, .slice none 0 0] 26 (0, 0)) (by (with_reducible repeat (first | refine blk_drewN ?_ _ | refine blk_drew ?_ | refine blk_alloc ?_ _)); refine blk_far ?_ NB364_370.out _; (with_reducible repeat (first | refine blk_drewN ?_ _ | refine blk_drew ?_ | refine blk_alloc ?_ _)); refine blk_far ?_ NB364_370.out _; (with_reducible repeat (first | refine blk_drewN ?_ _ | refine blk_drew ?_ | refine blk_alloc ?_ _)); exact BK364.out) hb); have n5_ := Aside0.mk (blk_below (g := gb370) (o := .cells #[.int .i64 t366, .slice Ao22 t367.length co22] 26 (0, 0)) (by (with_reducible repeat (first | refine blk_drewN ?_ _ | refine blk_drew ?_ | refine blk_alloc ?_ _)); refine blk_put (cs := #[.int .i64 t366, .slice none 0 0]) ?_ 1 _ rfl; (with_reducible repeat (first | refine blk_drewN ?_ _ | refine blk_drew ?_ | refine blk_alloc ?_ _)); refine blk_put (cs := #[.int .i64 0, .slice none 0 0]) ?_ 0 _ rfl; (with_reducible repeat (first | refine blk_drewN ?_ _ | refine blk_drew ?_ | refine blk_alloc ?_ _)); exact BK370.out) hb); have n6_ := Aside0.mk (below_step bS hb); clear HO369; clear BK362; clear BK363; clear BK364; clear BK370; clear HB; have HO369 := n0_; have HO373 := n1_; have BK362 := n2_; have BK363 := n3_; have BK364 := n4_; have BK370 := n5_; have HB := n6_; clear n0_ n1_ n2_ n3_ n4_ n5_ n6_; clear hb ho24; have hcz25_0 : w23.cell? ⟨gb362, 0, none⟩ = some (.int .i64 a0_0) := (blk_cell BK362.out 0).trans rfl; have hcz25_1 : w23.cell? ⟨gb362, 1, none⟩ = some (.slice A0_1 l0_1.length c0_1) := (blk_cell BK362.out 1).trans rfl; have hfz25_0 := blk_frozen BK362.out 0; have hfz25_1 := blk_frozen BK362.out 1))
  go_loopg [11, 24] k (fun kq v11 v24 w' => ∃ (x11_1 : List (S28)) (x24_1 : Int), v24 = .int .i64 x24_1 ∧ Aside0 (impl_CacheTry.l0 kq a2 a3 x11_1 l0_1 (l0_1.length : Int) x24_1 a0_0 l0_1 a1_0 a1_1 a1_2 t366 t367 = some (r1, r2, r3)) ∧ Aside0 (kq ≤ k) ∧ Aside0 (Kd.R k28 28 w' w.heap.size (fun k_ => some k_ ≠ ((.slice Ao22 t367.length co22) : Value).ownBlock ∧ k_ ≠ gb363) v11 x11_1) ∧ Aside0 (Kd.R k28 28 w' w.heap.size (fun k_ => some k_ ≠ (v11 : Value).ownBlock ∧ k_ ≠ gb363) (.slice Ao22 t367.length co22) t367) ∧ Aside0 (w'.heap[gb362]? = some (.cells #[.int .i64 a0_0, (.slice A0_1 l0_1.length c0_1)] 26 (0, 0))) ∧ Aside0 (w'.heap[gb363]? = some (.cells #[.int .i64 a1_0, .int .i64 a1_1, .int .i64 a1_2] 28 (0, 0))) ∧ Aside0 (w'.heap[gb364]? = some (.cells #[.int .i64 0, (.slice none 0 0)] 26 (0, 0))) ∧ Aside0 (w'.heap[gb370]? = some (.cells #[.int .i64 t366, (.slice Ao22 t367.length co22)] 26 (0, 0))) ∧ Aside0 (Below w.heap.size w w'))
  case atStart => exact ⟨(y371), (0), eX, H', ⟨Nat.le_refl _⟩, ⟨by (with_reducible repeat (first | apply Kd.R_alloc | apply Kd.R_drewN | apply Kd.R_drew)); exact Kd.R_mono HO373.out (fun _ hk => ⟨hk.1.2, hk.2⟩)⟩, ⟨by (with_reducible repeat (first | apply Kd.R_alloc | apply Kd.R_drewN | apply Kd.R_drew)); exact Kd.R_mono HO369.out (fun _ hk => ⟨hk.2, hk.1.2⟩)⟩, ⟨by (with_reducible repeat (first | refine blk_drewN ?_ _ | refine blk_drew ?_ | refine blk_alloc ?_ _)); exact BK362.out⟩, ⟨by (with_reducible repeat (first | refine blk_drewN ?_ _ | refine blk_drew ?_ | refine blk_alloc ?_ _)); exact BK363.out⟩, ⟨by (with_reducible repeat (first | refine blk_drewN ?_ _ | refine blk_drew ?_ | refine blk_alloc ?_ _)); exact BK364.out⟩, ⟨by (with_reducible repeat (first | refine blk_drewN ?_ _ | refine blk_drew ?_ | refine blk_alloc ?_ _)); exact BK370.out⟩, ⟨by repeat (first | (with_reducible first | exact HB.out | apply below_alloc | apply pw_below_drewN | apply below_drew1 | refine below_set ?_ GE362.out | refine below_set ?_ GE363.out | refine below_set ?_ GE364.out | refine below_set ?_ GE370.out) | exact HB.out)⟩⟩
  case round =>
   clear H'
   try clear c1
   try clear c2
   try clear p2
   try clear c6
   try clear c7
   try clear c11
   try clear c12
   try clear c18
   try clear c19
   try clear c20
   try clear c25
   try clear hcz13_0
   try clear hcz13_1
   try clear hcz15_0
   try clear hcz15_1
   try clear hcz21_0
   try clear hcz21_1
   try clear hcz25_0
   try clear hcz25_1
   try clear hfz13_0
   try clear hfz13_1
   try clear hfz15_0
   try clear hfz15_1
   try clear hfz21_0
   try clear hfz21_1
   try clear hfz25_0
   try clear hfz25_1
   obtain ⟨x11_1, x24_1, rfl, HA, HK1, HO_11, HO_371001, BK362, BK363, BK364, BK370, HB⟩ := hrel
   cases gk with
   | zero => exact absurd HA.out (by simp [impl_CacheTry.l0])
   | succ k1 =>
    have H := HA.out
    clear HA
    simp only [impl_CacheTry.l0] at H
    by_cases c26 : x24_1 < (l0_1.length : Int)
    ·rw [if_pos c26] at H
     have c26b0 : decide (x24_1 < (l0_1.length : Int)) = true := decide_eq_true c26
     clear c26
     by_cases c27 : 0 ≤ x24_1
     ·rw [if_pos c27] at H
      have c27b0 : decide (0 ≤ x24_1) = true := decide_eq_true c27
      clear c27
      by_cases c28 : x24_1 < (l0_1.length : Int)
      ·rw [if_pos c28] at H
       have c28b0 : decide (x24_1 < (l0_1.length : Int)) = true := decide_eq_true c28
       clear c28
       by_cases c29 : ((rd_T28 l0_1 x24_1).f1) ≥ (wrap64 (a2 - a3))
       ·rw [if_pos c29] at H
        have c29b0 : decide ((wrap64 (a2 - a3)) ≤ ((rd_T28 l0_1 x24_1).f1)) = true := decide_eq_true c29
        clear c29
        by_cases c30 : x11_1.length < 5864062014805
        ·rw [if_pos c30] at H
         have LMc30 := Aside0.mk c30
         clear c30
         obtain ⟨y376, hy376⟩ : ∃ y_ : List (S28), y_ = (x11_1 ++ [(⟨(rd_T28 l0_1 x24_1).f0, (rd_T28 l0_1 x24_1).f1, (rd_T28 l0_1 x24_1).f2⟩ : S28)]) := ⟨_, rfl⟩
         replace H : (impl_CacheTry.l0 k1 a2 a3 y376 l0_1 (l0_1.length : Int) (wrap64 (x24_1 + 1)) a0_0 l0_1 a1_0 a1_1 a1_2 t366 t367) = some (r1, r2, r3) := by first | (rw [hy376]; with_reducible exact H) | (have H2_ := (Option.bind_some _ _).symm.trans H; rw [hy376]; with_reducible exact H2_) | (have H2_ := (Option.bind_some _ _).symm.trans H; with_reducible exact H2_) | with_reducible exact H | (rw [hy376]; exact H) | exact H
         have Ny376 := Aside0.mk hy376
         clear hy376
         have H' := Aside0.mk H
         clear H
         have p374 : 0 ≤ (x24_1 : Int) := of_decide_eq_true aA
         have q374 : x24_1 < (l0_1.length : Int) := of_decide_eq_true aA
         obtain ⟨ad374, e374, hx374_0, hx374_1, hx374_2⟩ := at_T28 HR0_1.out x24_1 p374 q374
         cases e374
         replace hx374_0 := (HB.out.cell (World.block_lt_of_cell? w _ hx374_0)).trans hx374_0
         replace hx374_1 := (HB.out.cell (World.block_lt_of_cell? w _ hx374_1)).trans hx374_1
         replace hx374_2 := (HB.out.cell (World.block_lt_of_cell? w _ hx374_2)).trans hx374_2
         replace p374 := eq_true p374
         replace q374 := eq_true q374
         go_wp2_with (first | ((with_reducible refine gate_dst (N := 13) rfl ?_); refine box_event ?hg (N := 13) ?hd (cs := #[.int .i64 0, .int .i64 0, .int .i64 0]) (t := 28) ?hr ?_; (case hd => rfl); (case hg => rfl); (case hr => first | (go_simp; done) | (go_simp; rfl)); intro gb375 hg w31 hbox hb; have n0_ := Aside0.mk (Kd.R_below (Kd.R_elderB (kR HO_11.out) gb375 (Nat.le_of_eq hg.symm)) hb); have n1_ := Aside0.mk (Kd.R_below (Kd.R_elderB (kR HO_371001.out) gb375 (Nat.le_of_eq hg.symm)) hb); have n2_ := Aside0.mk (blk_below (kB BK362.out) hb); have n3_ := Aside0.mk (blk_below (kB BK363.out) hb); have n4_ := Aside0.mk (blk_below (kB BK364.out) hb); have n5_ := Aside0.mk (blk_below (kB BK370.out) hb); have n6_ := Aside0.mk (below_step bS hb); have n7_ := Aside0.mk (hbox); have n8_ := Aside0.mk ((bZ hg : w.heap.size ≤ gb375)); have n9_ := Aside0.mk ((bZ hg : w.heap.size ≤ gb375)); have n10_ := Aside0.mk ((nL hg BK362.out : gb362 ≠ gb375)); have n11_ := Aside0.mk ((nG hg BK362.out : gb375 ≠ gb362)); have n12_ := Aside0.mk ((nL hg BK363.out : gb363 ≠ gb375)); have n13_ := Aside0.mk ((nG hg BK363.out : gb375 ≠ gb363)); have n14_ := Aside0.mk ((nL hg BK364.out : gb364 ≠ gb375)); have n15_ := Aside0.mk ((nG hg BK364.out : gb375 ≠ gb364)); have n16_ := Aside0.mk ((nL hg BK370.out : gb370 ≠ gb375)); have n17_ := Aside0.mk ((nG hg BK370.out : gb375 ≠ gb370)); clear HO_11; clear HO_371001; clear BK362; clear BK363; clear BK364; clear BK370; clear HB; have HO_11 := n0_; have HO_371001 := n1_; have BK362 := n2_; have BK363 := n3_; have BK364 := n4_; have BK370 := n5_; have HB := n6_; have BK375 := n7_; have GW375 := n8_; have GE375 := n9_; have NB362_375 := n10_; have NB375_362 := n11_; have NB363_375 := n12_; have NB375_363 := n13_; have NB364_375 := n14_; have NB375_364 := n15_; have NB370_375 := n16_; have NB375_370 := n17_; clear n0_ n1_ n2_ n3_ n4_ n5_ n6_ n7_ n8_ n9_ n10_ n11_ n12_ n13_ n14_ n15_ n16_ n17_; clear hb hbox hg; have hnb32 := NB375_362.out; have hnc32 := NB362_375.out; have hnb33 := NB375_363.out; have hnc33 := NB363_375.out; have hnb34 := NB375_364.out; have hnc34 := NB364_375.out; have hnb35 := NB375_370.out; have hnc35 := NB370_375.out; have hcz36_0 : w31.cell? ⟨gb375, 0, none⟩ = some (.int .i64 0) := (blk_cell BK375.out 0).trans rfl; have hcz36_1 : w31.cell? ⟨gb375, 1, none⟩ = some (.int .i64 0) := (blk_cell BK375.out 1).trans rfl; have hcz36_2 : w31.cell? ⟨gb375, 2, none⟩ = some (.int .i64 0) := (blk_cell BK375.out 2).trans rfl; have hfz36_0 := blk_frozen BK375.out 0; have hfz36_1 := blk_frozen BK375.out 1; have hfz36_2 := blk_frozen BK375.out 2) | ((with_reducible refine gate_builtin (b := .append) (xs := #[.tmp 34, .tmp 36]) rfl ?_); at_builtin; refine Kd.R_append k28 (w0 := w) w.heap.size rfl (.tmp 34) (.tmp 36) 24 28 (.agg #[(.int .i64 0), (.int .i64 0), (.int .i64 0)]) 24 rfl Try.underlying24 info28 rfl (by decide) (by omega) u11 x11_1 (⟨(rd_T28 l0_1 x24_1).f0, (rd_T28 l0_1 x24_1).f1, (rd_T28 l0_1 x24_1).f2⟩ : S28) [.int .i64 ((rd_T28 l0_1 x24_1).f0), .int .i64 ((rd_T28 l0_1 x24_1).f1), .int .i64 ((rd_T28 l0_1 x24_1).f2)] (fun k_ => some k_ ≠ (.slice Ao22 t367.length co22 : Value).ownBlock ∧ k_ ≠ gb363 ∧ k_ ≠ gb375) (fun _ => False) rfl (by first | (go_simp; done) | (go_simp; rfl)) ?aP (fun _ hk => hk.elim) ?aF ?aO ?aB ?aS ?aL ?_; (case aP => exact k28_mkM _ _ _ (⟨(rd_T28 l0_1 x24_1).f0, (rd_T28 l0_1 x24_1).f1, (rd_T28 l0_1 x24_1).f2⟩ : S28)); (case aB => exact bS); (case aF => exact (fun k_ hk => ⟨Kd.fresh' (Kd.R_lt (by (with_reducible repeat (first | apply Kd.R_alloc | apply Kd.R_drewN | apply Kd.R_drew)); exact (Kd.R_mono (Kd.R_far (p := ⟨gb375, 2, none⟩) (Kd.R_far (p := ⟨gb375, 1, none⟩) (Kd.R_far (p := ⟨gb375, 0, none⟩) (Kd.R_mono HO_371001.out (fun k_ hk => (⟨hk, hk.2⟩ : _ ∧ k_ ≠ gb375))) (fun _ hk => hk.2) (.int .i64 ((rd_T28 l0_1 x24_1).f0))) (fun _ hk => hk.2) (.int .i64 ((rd_T28 l0_1 x24_1).f1))) (fun _ hk => hk.2) (.int .i64 ((rd_T28 l0_1 x24_1).f2))) (fun _ h_ => h_.1)))) k_ hk, Kd.freshB (g := gb363) (o := .cells #[.int .i64 a1_0, .int .i64 a1_1, .int .i64 a1_2] 28 (0, 0)) (by (with_reducible repeat (first | refine blk_drewN ?_ _ | refine blk_drew ?_ | refine blk_alloc ?_ _)); refine blk_far ?_ NB363_375.out _; (with_reducible repeat (first | refine blk_drewN ?_ _ | refine blk_drew ?_ | refine blk_alloc ?_ _)); refine blk_far ?_ NB363_375.out _; (with_reducible repeat (first | refine blk_drewN ?_ _ | refine blk_drew ?_ | refine blk_alloc ?_ _)); refine blk_far ?_ NB363_375.out _; (with_reducible repeat (first | refine blk_drewN ?_ _ | refine blk_drew ?_ | refine blk_alloc ?_ _)); exact BK363.out) k_ hk, Kd.freshB (g := gb375) (o := .cells #[.int .i64 ((rd_T28 l0_1 x24_1).f0), .int .i64 ((rd_T28 l0_1 x24_1).f1), .int .i64 ((rd_T28 l0_1 x24_1).f2)] 28 (0, 0)) (by (with_reducible repeat (first | refine blk_drewN ?_ _ | refine blk_drew ?_ | refine blk_alloc ?_ _)); refine blk_put (cs := #[.int .i64 ((rd_T28 l0_1 x24_1).f0), .int .i64 ((rd_T28 l0_1 x24_1).f1), .int .i64 0]) ?_ 2 _ rfl; (with_reducible repeat (first | refine blk_drewN ?_ _ | refine blk_drew ?_ | refine blk_alloc ?_ _)); refine blk_put (cs := #[.int .i64 ((rd_T28 l0_1 x24_1).f0), .int .i64 0, .int .i64 0]) ?_ 1 _ rfl; (with_reducible repeat (first | refine blk_drewN ?_ _ | refine blk_drew ?_ | refine blk_alloc ?_ _)); refine blk_put (cs := #[.int .i64 0, .int .i64 0, .int .i64 0]) ?_ 0 _ rfl; (with_reducible repeat (first | refine blk_drewN ?_ _ | refine blk_drew ?_ | refine blk_alloc ?_ _)); exact BK375.out) k_ hk⟩)); (case aO => exact (by (with_reducible repeat (first | apply Kd.R_alloc | apply Kd.R_drewN | apply Kd.R_drew)); exact Kd.R_mono (Kd.R_far (p := ⟨gb375, 2, none⟩) (Kd.R_far (p := ⟨gb375, 1, none⟩) (Kd.R_far (p := ⟨gb375, 0, none⟩) (Kd.R_mono HO_11.out (fun k_ hk => (⟨hk, hk.2⟩ : _ ∧ k_ ≠ gb375))) (fun _ hk => hk.2) (.int .i64 ((rd_T28 l0_1 x24_1).f0))) (fun _ hk => hk.2) (.int .i64 ((rd_T28 l0_1 x24_1).f1))) (fun _ hk => hk.2) (.int .i64 ((rd_T28 l0_1 x24_1).f2))) (fun _ hk => ⟨hk.1.1.1, ⟨hk.1.1.2, hk.1.2⟩⟩))); (case aS => exact (below_size bS)); (case aL => have := LMc30.out; omega); intro v377 w37 ho hb hg hat; rw [← Ny376.out] at ho; have n0_ := Aside0.mk (Kd.R_after (ok := (fun k_ => k_ ≠ gb363 ∧ k_ ≠ gb375)) (by (with_reducible repeat (first | apply Kd.R_alloc | apply Kd.R_drewN | apply Kd.R_drew)); exact Kd.R_mono (Kd.R_far (p := ⟨gb375, 2, none⟩) (Kd.R_far (p := ⟨gb375, 1, none⟩) (Kd.R_far (p := ⟨gb375, 0, none⟩) (Kd.R_mono HO_371001.out (fun k_ hk => (⟨hk, hk.2⟩ : _ ∧ k_ ≠ gb375))) (fun _ hk => hk.2) (.int .i64 ((rd_T28 l0_1 x24_1).f0))) (fun _ hk => hk.2) (.int .i64 ((rd_T28 l0_1 x24_1).f1))) (fun _ hk => hk.2) (.int .i64 ((rd_T28 l0_1 x24_1).f2))) (fun _ hk => ⟨⟨hk.1.1.2, hk.1.2⟩, hk.1.1.1⟩)) hg hat); have n1_ := Aside0.mk (blk_grown (g := gb362) (o := .cells #[.int .i64 a0_0, .slice (some ad374) l0_1.length c0_1] 26 (0, 0)) (by (with_reducible repeat (first | refine blk_drewN ?_ _ | refine blk_drew ?_ | refine blk_alloc ?_ _)); refine blk_far ?_ NB362_375.out _; (with_reducible repeat (first | refine blk_drewN ?_ _ | refine blk_drew ?_ | refine blk_alloc ?_ _)); refine blk_far ?_ NB362_375.out _; (with_reducible repeat (first | refine blk_drewN ?_ _ | refine blk_drew ?_ | refine blk_alloc ?_ _)); refine blk_far ?_ NB362_375.out _; (with_reducible repeat (first | refine blk_drewN ?_ _ | refine blk_drew ?_ | refine blk_alloc ?_ _)); exact BK362.out) hg (Kd.R_ne HO_11.out BK362.out (by decide))); have n2_ := Aside0.mk (blk_grown (g := gb363) (o := .cells #[.int .i64 a1_0, .int .i64 a1_1, .int .i64 a1_2] 28 (0, 0)) (by (with_reducible repeat (first | refine blk_drewN ?_ _ | refine blk_drew ?_ | refine blk_alloc ?_ _)); refine blk_far ?_ NB363_375.out _; (with_reducible repeat (first | refine blk_drewN ?_ _ | refine blk_drew ?_ | refine blk_alloc ?_ _)); refine blk_far ?_ NB363_375.out _; (with_reducible repeat (first | refine blk_drewN ?_ _ | refine blk_drew ?_ | refine blk_alloc ?_ _)); refine blk_far ?_ NB363_375.out _; (with_reducible repeat (first | refine blk_drewN ?_ _ | refine blk_drew ?_ | refine blk_alloc ?_ _)); exact BK363.out) hg (Kd.R_away HO_11.out (fun _ hk => hk.1.2))); have n3_ := Aside0.mk (blk_grown (g := gb364) (o := .cells #[.int .i64 0, .slice none 0 0] 26 (0, 0)) (by (with_reducible repeat (first | refine blk_drewN ?_ _ | refine blk_drew ?_ | refine blk_alloc ?_ _)); refine blk_far ?_ NB364_375.out _; (with_reducible repeat (first | refine blk_drewN ?_ _ | refine blk_drew ?_ | refine blk_alloc ?_ _)); refine blk_far ?_ NB364_375.out _; (with_reducible repeat (first | refine blk_drewN ?_ _ | refine blk_drew ?_ | refine blk_alloc ?_ _)); refine blk_far ?_ NB364_375.out _; (with_reducible repeat (first | refine blk_drewN ?_ _ | refine blk_drew ?_ | refine blk_alloc ?_ _)); exact BK364.out) hg (Kd.R_ne HO_11.out BK364.out (by decide))); have n4_ := Aside0.mk (blk_grown (g := gb370) (o := .cells #[.int .i64 t366, .slice Ao22 t367.length co22] 26 (0, 0)) (by (with_reducible repeat (first | refine blk_drewN ?_ _ | refine blk_drew ?_ | refine blk_alloc ?_ _)); refine blk_far ?_ NB370_375.out _; (with_reducible repeat (first | refine blk_drewN ?_ _ | refine blk_drew ?_ | refine blk_alloc ?_ _)); refine blk_far ?_ NB370_375.out _; (with_reducible repeat (first | refine blk_drewN ?_ _ | refine blk_drew ?_ | refine blk_alloc ?_ _)); refine blk_far ?_ NB370_375.out _; (with_reducible repeat (first | refine blk_drewN ?_ _ | refine blk_drew ?_ | refine blk_alloc ?_ _)); exact BK370.out) hg (Kd.R_ne HO_11.out BK370.out (by decide))); have n5_ := Aside0.mk (blk_grown (g := gb375) (o := .cells #[.int .i64 ((rd_T28 l0_1 x24_1).f0), .int .i64 ((rd_T28 l0_1 x24_1).f1), .int .i64 ((rd_T28 l0_1 x24_1).f2)] 28 (0, 0)) (by (with_reducible repeat (first | refine blk_drewN ?_ _ | refine blk_drew ?_ | refine blk_alloc ?_ _)); refine blk_put (cs := #[.int .i64 ((rd_T28 l0_1 x24_1).f0), .int .i64 ((rd_T28 l0_1 x24_1).f1), .int .i64 0]) ?_ 2 _ rfl; (with_reducible repeat (first | refine blk_drewN ?_ _ | refine blk_drew ?_ | refine blk_alloc ?_ _)); refine blk_put (cs := #[.int .i64 ((rd_T28 l0_1 x24_1).f0), .int .i64 0, .int .i64 0]) ?_ 1 _ rfl; (with_reducible repeat (first | refine blk_drewN ?_ _ | refine blk_drew ?_ | refine blk_alloc ?_ _)); refine blk_put (cs := #[.int .i64 0, .int .i64 0, .int .i64 0]) ?_ 0 _ rfl; (with_reducible repeat (first | refine blk_drewN ?_ _ | refine blk_drew ?_ | refine blk_alloc ?_ _)); exact BK375.out) hg (Kd.R_away HO_11.out (fun _ hk => hk.2))); have n6_ := Aside0.mk (hb); have n7_ := Aside0.mk (ho); clear HO_371001; clear BK362; clear BK363; clear BK364; clear BK370; clear BK375; clear HB; clear HO_11; have HO_371001 := n0_; have BK362 := n1_; have BK363 := n2_; have BK364 := n3_; have BK370 := n4_; have BK375 := n5_; have HB := n6_; have HO378 := n7_; clear n0_ n1_ n2_ n3_ n4_ n5_ n6_ n7_; clear ho hb hg hat))
         go_roundg k1
         case measure => have := HK1.out; omega
         case rel => exact ⟨(y376), (wrap64 (x24_1 + 1)), eX, H', ⟨by have := HK1.out; omega⟩, ⟨by (with_reducible repeat (first | apply Kd.R_alloc | apply Kd.R_drewN | apply Kd.R_drew)); exact Kd.R_mono HO378.out (fun _ hk => ⟨hk.1, hk.2.1⟩)⟩, ⟨by (with_reducible repeat (first | apply Kd.R_alloc | apply Kd.R_drewN | apply Kd.R_drew)); exact Kd.R_mono HO_371001.out (fun _ hk => ⟨hk.2, hk.1.1⟩)⟩, ⟨by (with_reducible repeat (first | refine blk_drewN ?_ _ | refine blk_drew ?_ | refine blk_alloc ?_ _)); exact BK362.out⟩, ⟨by (with_reducible repeat (first | refine blk_drewN ?_ _ | refine blk_drew ?_ | refine blk_alloc ?_ _)); exact BK363.out⟩, ⟨by (with_reducible repeat (first | refine blk_drewN ?_ _ | refine blk_drew ?_ | refine blk_alloc ?_ _)); exact BK364.out⟩, ⟨by (with_reducible repeat (first | refine blk_drewN ?_ _ | refine blk_drew ?_ | refine blk_alloc ?_ _)); exact BK370.out⟩, ⟨by repeat (first | (with_reducible first | exact HB.out | apply below_alloc | apply pw_below_drewN | apply below_drew1 | refine below_set ?_ GE362.out | refine below_set ?_ GE363.out | refine below_set ?_ GE364.out | refine below_set ?_ GE370.out | refine below_set ?_ GE375.out) | exact HB.out)⟩⟩
        ·rw [if_neg c30] at H
         exact absurd H (by simp)
       ·rw [if_neg c29] at H
        have c29b0 : decide ((wrap64 (a2 - a3)) ≤ ((rd_T28 l0_1 x24_1).f1)) = false := decide_eq_false c29
        clear c29
        have H' := Aside0.mk H
        clear H
        have p374 : 0 ≤ (x24_1 : Int) := of_decide_eq_true aA
        have q374 : x24_1 < (l0_1.length : Int) := of_decide_eq_true aA
        obtain ⟨ad374, e374, hx374_0, hx374_1, hx374_2⟩ := at_T28 HR0_1.out x24_1 p374 q374
        cases e374
        replace hx374_0 := (HB.out.cell (World.block_lt_of_cell? w _ hx374_0)).trans hx374_0
        replace hx374_1 := (HB.out.cell (World.block_lt_of_cell? w _ hx374_1)).trans hx374_1
        replace hx374_2 := (HB.out.cell (World.block_lt_of_cell? w _ hx374_2)).trans hx374_2
        replace p374 := eq_true p374
        replace q374 := eq_true q374
        go_wp2_with (first | ((with_reducible refine gate_dst (N := 13) rfl ?_); refine box_event ?hg (N := 13) ?hd (cs := #[.int .i64 0, .int .i64 0, .int .i64 0]) (t := 28) ?hr ?_; (case hd => rfl); (case hg => rfl); (case hr => first | (go_simp; done) | (go_simp; rfl)); intro gb375 hg w38 hbox hb; have n0_ := Aside0.mk (Kd.R_below (Kd.R_elderB (kR HO_11.out) gb375 (Nat.le_of_eq hg.symm)) hb); have n1_ := Aside0.mk (Kd.R_below (Kd.R_elderB (kR HO_371001.out) gb375 (Nat.le_of_eq hg.symm)) hb); have n2_ := Aside0.mk (blk_below (kB BK362.out) hb); have n3_ := Aside0.mk (blk_below (kB BK363.out) hb); have n4_ := Aside0.mk (blk_below (kB BK364.out) hb); have n5_ := Aside0.mk (blk_below (kB BK370.out) hb); have n6_ := Aside0.mk (below_step bS hb); have n7_ := Aside0.mk (hbox); have n8_ := Aside0.mk ((bZ hg : w.heap.size ≤ gb375)); have n9_ := Aside0.mk ((bZ hg : w.heap.size ≤ gb375)); have n10_ := Aside0.mk ((nL hg BK362.out : gb362 ≠ gb375)); have n11_ := Aside0.mk ((nG hg BK362.out : gb375 ≠ gb362)); have n12_ := Aside0.mk ((nL hg BK363.out : gb363 ≠ gb375)); have n13_ := Aside0.mk ((nG hg BK363.out : gb375 ≠ gb363)); have n14_ := Aside0.mk ((nL hg BK364.out : gb364 ≠ gb375)); have n15_ := Aside0.mk ((nG hg BK364.out : gb375 ≠ gb364)); have n16_ := Aside0.mk ((nL hg BK370.out : gb370 ≠ gb375)); have n17_ := Aside0.mk ((nG hg BK370.out : gb375 ≠ gb370)); clear HO_11; clear HO_371001; clear BK362; clear BK363; clear BK364; clear BK370; clear HB; have HO_11 := n0_; have HO_371001 := n1_; have BK362 := n2_; have BK363 := n3_; have BK364 := n4_; have BK370 := n5_; have HB := n6_; have BK375 := n7_; have GW375 := n8_; have GE375 := n9_; have NB362_375 := n10_; have NB375_362 := n11_; have NB363_375 := n12_; have NB375_363 := n13_; have NB364_375 := n14_; have NB375_364 := n15_; have NB370_375 := n16_; have NB375_370 := n17_; clear n0_ n1_ n2_ n3_ n4_ n5_ n6_ n7_ n8_ n9_ n10_ n11_ n12_ n13_ n14_ n15_ n16_ n17_; clear hb hbox hg; have hnb39 := NB375_362.out; have hnc39 := NB362_375.out; have hnb40 := NB375_363.out; have hnc40 := NB363_375.out; have hnb41 := NB375_364.out; have hnc41 := NB364_375.out; have hnb42 := NB375_370.out; have hnc42 := NB370_375.out; have hcz43_0 : w38.cell? ⟨gb375, 0, none⟩ = some (.int .i64 0) := (blk_cell BK375.out 0).trans rfl; have hcz43_1 : w38.cell? ⟨gb375, 1, none⟩ = some (.int .i64 0) := (blk_cell BK375.out 1).trans rfl; have hcz43_2 : w38.cell? ⟨gb375, 2, none⟩ = some (.int .i64 0) := (blk_cell BK375.out 2).trans rfl; have hfz43_0 := blk_frozen BK375.out 0; have hfz43_1 := blk_frozen BK375.out 1; have hfz43_2 := blk_frozen BK375.out 2))
        go_roundg k1
        case measure => have := HK1.out; omega
        case rel => exact ⟨(x11_1), (wrap64 (x24_1 + 1)), eX, H', ⟨by have := HK1.out; omega⟩, ⟨by (with_reducible repeat (first | apply Kd.R_alloc | apply Kd.R_drewN | apply Kd.R_drew)); exact Kd.R_mono (Kd.R_far (p := ⟨gb375, 2, none⟩) (Kd.R_far (p := ⟨gb375, 1, none⟩) (Kd.R_far (p := ⟨gb375, 0, none⟩) (Kd.R_mono HO_11.out (fun k_ hk => (⟨hk, hk.2⟩ : _ ∧ k_ ≠ gb375))) (fun _ hk => hk.2) (.int .i64 ((rd_T28 l0_1 x24_1).f0))) (fun _ hk => hk.2) (.int .i64 ((rd_T28 l0_1 x24_1).f1))) (fun _ hk => hk.2) (.int .i64 ((rd_T28 l0_1 x24_1).f2))) (fun _ hk => ⟨hk.1.1.1, hk.1.1.2⟩)⟩, ⟨by (with_reducible repeat (first | apply Kd.R_alloc | apply Kd.R_drewN | apply Kd.R_drew)); exact Kd.R_mono (Kd.R_far (p := ⟨gb375, 2, none⟩) (Kd.R_far (p := ⟨gb375, 1, none⟩) (Kd.R_far (p := ⟨gb375, 0, none⟩) (Kd.R_mono HO_371001.out (fun k_ hk => (⟨hk, hk.2⟩ : _ ∧ k_ ≠ gb375))) (fun _ hk => hk.2) (.int .i64 ((rd_T28 l0_1 x24_1).f0))) (fun _ hk => hk.2) (.int .i64 ((rd_T28 l0_1 x24_1).f1))) (fun _ hk => hk.2) (.int .i64 ((rd_T28 l0_1 x24_1).f2))) (fun _ hk => ⟨hk.1.1.1, hk.1.1.2⟩)⟩, ⟨by (with_reducible repeat (first | refine blk_drewN ?_ _ | refine blk_drew ?_ | refine blk_alloc ?_ _)); refine blk_far ?_ NB362_375.out _; (with_reducible repeat (first | refine blk_drewN ?_ _ | refine blk_drew ?_ | refine blk_alloc ?_ _)); refine blk_far ?_ NB362_375.out _; (with_reducible repeat (first | refine blk_drewN ?_ _ | refine blk_drew ?_ | refine blk_alloc ?_ _)); refine blk_far ?_ NB362_375.out _; (with_reducible repeat (first | refine blk_drewN ?_ _ | refine blk_drew ?_ | refine blk_alloc ?_ _)); exact BK362.out⟩, ⟨by (with_reducible repeat (first | refine blk_drewN ?_ _ | refine blk_drew ?_ | refine blk_alloc ?_ _)); refine blk_far ?_ NB363_375.out _; (with_reducible repeat (first | refine blk_drewN ?_ _ | refine blk_drew ?_ | refine blk_alloc ?_ _)); refine blk_far ?_ NB363_375.out _; (with_reducible repeat (first | refine blk_drewN ?_ _ | refine blk_drew ?_ | refine blk_alloc ?_ _)); refine blk_far ?_ NB363_375.out _; (with_reducible repeat (first | refine blk_drewN ?_ _ | refine blk_drew ?_ | refine blk_alloc ?_ _)); exact BK363.out⟩, ⟨by (with_reducible repeat (first | refine blk_drewN ?_ _ | refine blk_drew ?_ | refine blk_alloc ?_ _)); refine blk_far ?_ NB364_375.out _; (with_reducible repeat (first | refine blk_drewN ?_ _ | refine blk_drew ?_ | refine blk_alloc ?_ _)); refine blk_far ?_ NB364_375.out _; (with_reducible repeat (first | refine blk_drewN ?_ _ | refine blk_drew ?_ | refine blk_alloc ?_ _)); refine blk_far ?_ NB364_375.out _; (with_reducible repeat (first | refine blk_drewN ?_ _ | refine blk_drew ?_ | refine blk_alloc ?_ _)); exact BK364.out⟩, ⟨by (with_reducible repeat (first | refine blk_drewN ?_ _ | refine blk_drew ?_ | refine blk_alloc ?_ _)); refine blk_far ?_ NB370_375.out _; (with_reducible repeat (first | refine blk_drewN ?_ _ | refine blk_drew ?_ | refine blk_alloc ?_ _)); refine blk_far ?_ NB370_375.out _; (with_reducible repeat (first | refine blk_drewN ?_ _ | refine blk_drew ?_ | refine blk_alloc ?_ _)); refine blk_far ?_ NB370_375.out _; (with_reducible repeat (first | refine blk_drewN ?_ _ | refine blk_drew ?_ | refine blk_alloc ?_ _)); exact BK370.out⟩, ⟨by repeat (first | (with_reducible first | exact HB.out | apply below_alloc | apply pw_below_drewN | apply below_drew1 | refine below_set ?_ GE362.out | refine below_set ?_ GE363.out | refine below_set ?_ GE364.out | refine below_set ?_ GE370.out | refine below_set ?_ GE375.out) | exact HB.out)⟩⟩
      ·rw [if_neg c28] at H
       exact absurd H (by simp)
     ·rw [if_neg c27] at H
      exact absurd H (by simp)
    ·rw [if_neg c26] at H
     have c26b0 : decide (x24_1 < (l0_1.length : Int)) = false := decide_eq_false c26
     clear c26
     have HC44 := Aside0.mk H
     clear H
     go_upto_region 11 with (fail)
     go_cut [39] (fun v39 wc => ∃ (kq : Nat) (x39_43 : Bool), v39 = .bool x39_43 ∧ Aside0 (impl_CacheTry.j1 kq a2 a3 x11_1 x39_43 a0_0 l0_1 a1_0 a1_1 a1_2 t366 t367 = some (r1, r2, r3)) ∧ Aside0 (kq ≤ k1) ∧ Aside0 (Kd.R k28 28 wc w.heap.size (fun k_ => some k_ ≠ ((.slice Ao22 t367.length co22) : Value).ownBlock ∧ k_ ≠ gb363) u11 x11_1) ∧ Aside0 (Kd.R k28 28 wc w.heap.size (fun k_ => some k_ ≠ (u11 : Value).ownBlock ∧ k_ ≠ gb363) (.slice Ao22 t367.length co22) t367) ∧ Aside0 (wc.heap[gb362]? = some (.cells #[.int .i64 a0_0, (.slice A0_1 l0_1.length c0_1)] 26 (0, 0))) ∧ Aside0 (wc.heap[gb363]? = some (.cells #[.int .i64 a1_0, .int .i64 a1_1, .int .i64 a1_2] 28 (0, 0))) ∧ Aside0 (wc.heap[gb364]? = some (.cells #[.int .i64 0, (.slice none 0 0)] 26 (0, 0))) ∧ Aside0 (wc.heap[gb370]? = some (.cells #[.int .i64 t366, (.slice Ao22 t367.length co22)] 26 (0, 0))) ∧ Aside0 (Below w.heap.size w wc))
     case first =>
      have H := HC44.out
      clear HC44
      replace H := Option.bind_eq_some_iff.mp H
      obtain ⟨t379, A450, H⟩ := H
      replace H : (if t379 = true then ((impl_isTime.f a2).bind fun t380 => (if t380 = true then ((impl_isSkew.f a3).bind fun t381 => (impl_CacheTry.j1 k1 a2 a3 x11_1 (!t381) a0_0 l0_1 a1_0 a1_1 a1_2 t366 t367)) else (impl_CacheTry.j1 k1 a2 a3 x11_1 true a0_0 l0_1 a1_0 a1_1 a1_2 t366 t367))) else (impl_CacheTry.j1 k1 a2 a3 x11_1 true a0_0 l0_1 a1_0 a1_1 a1_2 t366 t367)) = some (r1, r2, r3) := H
      have A45 := Aside0.mk A450
      clear A450
      by_cases c46 : t379 = true
      ·subst c46
       have H1 : ((impl_isTime.f a2).bind fun t380 => (if t380 = true then ((impl_isSkew.f a3).bind fun t381 => (impl_CacheTry.j1 k1 a2 a3 x11_1 (!t381) a0_0 l0_1 a1_0 a1_1 a1_2 t366 t367)) else (impl_CacheTry.j1 k1 a2 a3 x11_1 true a0_0 l0_1 a1_0 a1_1 a1_2 t366 t367))) = some (r1, r2, r3) := by rw [if_pos rfl] at H; exact H
       clear H
       have H := H1
       clear H1
       replace H := Option.bind_eq_some_iff.mp H
       obtain ⟨t380, A470, H⟩ := H
       replace H : (if t380 = true then ((impl_isSkew.f a3).bind fun t381 => (impl_CacheTry.j1 k1 a2 a3 x11_1 (!t381) a0_0 l0_1 a1_0 a1_1 a1_2 t366 t367)) else (impl_CacheTry.j1 k1 a2 a3 x11_1 true a0_0 l0_1 a1_0 a1_1 a1_2 t366 t367)) = some (r1, r2, r3) := H
       have A47 := Aside0.mk A470
       clear A470
       by_cases c48 : t380 = true
       ·subst c48
        have H1 : ((impl_isSkew.f a3).bind fun t381 => (impl_CacheTry.j1 k1 a2 a3 x11_1 (!t381) a0_0 l0_1 a1_0 a1_1 a1_2 t366 t367)) = some (r1, r2, r3) := by rw [if_pos rfl] at H; exact H
        clear H
        have H := H1
        clear H1
        replace H := Option.bind_eq_some_iff.mp H
        obtain ⟨t381, A490, H⟩ := H
        replace H : (impl_CacheTry.j1 k1 a2 a3 x11_1 (!t381) a0_0 l0_1 a1_0 a1_1 a1_2 t366 t367) = some (r1, r2, r3) := H
        have A49 := Aside0.mk A490
        clear A490
        have H' := Aside0.mk H
        clear H
        have hnb50 := NB363_362.out
        have hnc50 := NB362_363.out
        have hnb51 := NB363_364.out
        have hnc51 := NB364_363.out
        have hnb52 := NB363_370.out
        have hnc52 := NB370_363.out
        have hcz53_0 : wr.cell? ⟨gb363, 0, none⟩ = some (.int .i64 a1_0) := (blk_cell BK363.out 0).trans rfl
        have hcz53_1 : wr.cell? ⟨gb363, 1, none⟩ = some (.int .i64 a1_1) := (blk_cell BK363.out 1).trans rfl
        have hcz53_2 : wr.cell? ⟨gb363, 2, none⟩ = some (.int .i64 a1_2) := (blk_cell BK363.out 2).trans rfl
        have hfz53_0 := blk_frozen BK363.out 0
        have hfz53_1 := blk_frozen BK363.out 1
        have hfz53_2 := blk_frozen BK363.out 2
        go_wp2_with (first | ((with_reducible refine gate_callee (f := 27) rfl ?_); refine goesL_ (some 41) rfl rfl Try.func27 (by kernel_rfl) rfl #[.agg #[.int .i64 a1_0, .int .i64 a1_1, .int .i64 a1_2]] rfl eA ?_; (with_reducible refine (impl_authOk.calls a1_0 a1_1 a1_2 true _ A45.out).mono ?_); rintro e w54 ⟨rfl, hb⟩; refine ⟨_, rfl, ?_⟩; have n0_ := Aside0.mk (Kd.R_below (kR HO_11.out) hb); have n1_ := Aside0.mk (Kd.R_below (kR HO_371001.out) hb); have n2_ := Aside0.mk (blk_below (kB BK362.out) hb); have n3_ := Aside0.mk (blk_below (kB BK363.out) hb); have n4_ := Aside0.mk (blk_below (kB BK364.out) hb); have n5_ := Aside0.mk (blk_below (kB BK370.out) hb); have n6_ := Aside0.mk (below_step bS hb); clear HO_11; clear HO_371001; clear BK362; clear BK363; clear BK364; clear BK370; clear HB; have HO_11 := n0_; have HO_371001 := n1_; have BK362 := n2_; have BK363 := n3_; have BK364 := n4_; have BK370 := n5_; have HB := n6_; clear n0_ n1_ n2_ n3_ n4_ n5_ n6_; (try clear hb); (try clear hb2); (try clear hk); (try clear hi)) | (go_at_call 28; (with_reducible refine (impl_isTime.calls a2 true _ A47.out).mono ?_); rintro e w' ⟨rfl, ⟨nd, rfl⟩⟩) | (go_at_call 29; (with_reducible refine (impl_isSkew.calls a3 t381 _ A49.out).mono ?_); rintro e w' ⟨rfl, ⟨nd, rfl⟩⟩))
        go_meet
        case rel => exact ⟨_, (!t381), eX, H', ⟨by have := HK1.out; first | omega | exact Nat.le_refl _⟩, ⟨by (with_reducible repeat (first | apply Kd.R_alloc | apply Kd.R_drewN | apply Kd.R_drew)); exact HO_11.out⟩, ⟨by (with_reducible repeat (first | apply Kd.R_alloc | apply Kd.R_drewN | apply Kd.R_drew)); exact HO_371001.out⟩, ⟨by (with_reducible repeat (first | refine blk_drewN ?_ _ | refine blk_drew ?_ | refine blk_alloc ?_ _)); exact BK362.out⟩, ⟨by (with_reducible repeat (first | refine blk_drewN ?_ _ | refine blk_drew ?_ | refine blk_alloc ?_ _)); exact BK363.out⟩, ⟨by (with_reducible repeat (first | refine blk_drewN ?_ _ | refine blk_drew ?_ | refine blk_alloc ?_ _)); exact BK364.out⟩, ⟨by (with_reducible repeat (first | refine blk_drewN ?_ _ | refine blk_drew ?_ | refine blk_alloc ?_ _)); exact BK370.out⟩, ⟨by repeat (first | (with_reducible first | exact HB.out | apply below_alloc | apply pw_below_drewN | apply below_drew1 | refine below_set ?_ GE362.out | refine below_set ?_ GE363.out | refine below_set ?_ GE364.out | refine below_set ?_ GE370.out) | exact HB.out)⟩⟩
       ·replace c48 := Bool.eq_false_iff.mpr c48
        subst c48
        have H1 : (impl_CacheTry.j1 k1 a2 a3 x11_1 true a0_0 l0_1 a1_0 a1_1 a1_2 t366 t367) = some (r1, r2, r3) := by rw [if_neg (show ¬ (false = true) by decide)] at H; exact H
        clear H
        have H := H1
        clear H1
        have H' := Aside0.mk H
        clear H
        have hnb55 := NB363_362.out
        have hnc55 := NB362_363.out
        have hnb56 := NB363_364.out
        have hnc56 := NB364_363.out
        have hnb57 := NB363_370.out
        have hnc57 := NB370_363.out
        have hcz58_0 : wr.cell? ⟨gb363, 0, none⟩ = some (.int .i64 a1_0) := (blk_cell BK363.out 0).trans rfl
        have hcz58_1 : wr.cell? ⟨gb363, 1, none⟩ = some (.int .i64 a1_1) := (blk_cell BK363.out 1).trans rfl
        have hcz58_2 : wr.cell? ⟨gb363, 2, none⟩ = some (.int .i64 a1_2) := (blk_cell BK363.out 2).trans rfl
        have hfz58_0 := blk_frozen BK363.out 0
        have hfz58_1 := blk_frozen BK363.out 1
        have hfz58_2 := blk_frozen BK363.out 2
        go_wp2_with (first | ((with_reducible refine gate_callee (f := 27) rfl ?_); refine goesL_ (some 41) rfl rfl Try.func27 (by kernel_rfl) rfl #[.agg #[.int .i64 a1_0, .int .i64 a1_1, .int .i64 a1_2]] rfl eA ?_; (with_reducible refine (impl_authOk.calls a1_0 a1_1 a1_2 true _ A45.out).mono ?_); rintro e w59 ⟨rfl, hb⟩; refine ⟨_, rfl, ?_⟩; have n0_ := Aside0.mk (Kd.R_below (kR HO_11.out) hb); have n1_ := Aside0.mk (Kd.R_below (kR HO_371001.out) hb); have n2_ := Aside0.mk (blk_below (kB BK362.out) hb); have n3_ := Aside0.mk (blk_below (kB BK363.out) hb); have n4_ := Aside0.mk (blk_below (kB BK364.out) hb); have n5_ := Aside0.mk (blk_below (kB BK370.out) hb); have n6_ := Aside0.mk (below_step bS hb); clear HO_11; clear HO_371001; clear BK362; clear BK363; clear BK364; clear BK370; clear HB; have HO_11 := n0_; have HO_371001 := n1_; have BK362 := n2_; have BK363 := n3_; have BK364 := n4_; have BK370 := n5_; have HB := n6_; clear n0_ n1_ n2_ n3_ n4_ n5_ n6_; (try clear hb); (try clear hb2); (try clear hk); (try clear hi)) | (go_at_call 28; (with_reducible refine (impl_isTime.calls a2 false _ A47.out).mono ?_); rintro e w' ⟨rfl, ⟨nd, rfl⟩⟩))
        go_meet
        case rel => exact ⟨_, (true), eX, H', ⟨by have := HK1.out; first | omega | exact Nat.le_refl _⟩, ⟨by (with_reducible repeat (first | apply Kd.R_alloc | apply Kd.R_drewN | apply Kd.R_drew)); exact HO_11.out⟩, ⟨by (with_reducible repeat (first | apply Kd.R_alloc | apply Kd.R_drewN | apply Kd.R_drew)); exact HO_371001.out⟩, ⟨by (with_reducible repeat (first | refine blk_drewN ?_ _ | refine blk_drew ?_ | refine blk_alloc ?_ _)); exact BK362.out⟩, ⟨by (with_reducible repeat (first | refine blk_drewN ?_ _ | refine blk_drew ?_ | refine blk_alloc ?_ _)); exact BK363.out⟩, ⟨by (with_reducible repeat (first | refine blk_drewN ?_ _ | refine blk_drew ?_ | refine blk_alloc ?_ _)); exact BK364.out⟩, ⟨by (with_reducible repeat (first | refine blk_drewN ?_ _ | refine blk_drew ?_ | refine blk_alloc ?_ _)); exact BK370.out⟩, ⟨by repeat (first | (with_reducible first | exact HB.out | apply below_alloc | apply pw_below_drewN | apply below_drew1 | refine below_set ?_ GE362.out | refine below_set ?_ GE363.out | refine below_set ?_ GE364.out | refine below_set ?_ GE370.out) | exact HB.out)⟩⟩
      ·replace c46 := Bool.eq_false_iff.mpr c46
       subst c46
       have H1 : (impl_CacheTry.j1 k1 a2 a3 x11_1 true a0_0 l0_1 a1_0 a1_1 a1_2 t366 t367) = some (r1, r2, r3) := by rw [if_neg (show ¬ (false = true) by decide)] at H; exact H
       clear H
       have H := H1
       clear H1
       have H' := Aside0.mk H
       clear H
       have hnb60 := NB363_362.out
       have hnc60 := NB362_363.out
       have hnb61 := NB363_364.out
       have hnc61 := NB364_363.out
       have hnb62 := NB363_370.out
       have hnc62 := NB370_363.out
       have hcz63_0 : wr.cell? ⟨gb363, 0, none⟩ = some (.int .i64 a1_0) := (blk_cell BK363.out 0).trans rfl
       have hcz63_1 : wr.cell? ⟨gb363, 1, none⟩ = some (.int .i64 a1_1) := (blk_cell BK363.out 1).trans rfl
       have hcz63_2 : wr.cell? ⟨gb363, 2, none⟩ = some (.int .i64 a1_2) := (blk_cell BK363.out 2).trans rfl
       have hfz63_0 := blk_frozen BK363.out 0
       have hfz63_1 := blk_frozen BK363.out 1
       have hfz63_2 := blk_frozen BK363.out 2
       go_wp2_with (first | ((with_reducible refine gate_callee (f := 27) rfl ?_); refine goesL_ (some 41) rfl rfl Try.func27 (by kernel_rfl) rfl #[.agg #[.int .i64 a1_0, .int .i64 a1_1, .int .i64 a1_2]] rfl eA ?_; (with_reducible refine (impl_authOk.calls a1_0 a1_1 a1_2 false _ A45.out).mono ?_); rintro e w64 ⟨rfl, hb⟩; refine ⟨_, rfl, ?_⟩; have n0_ := Aside0.mk (Kd.R_below (kR HO_11.out) hb); have n1_ := Aside0.mk (Kd.R_below (kR HO_371001.out) hb); have n2_ := Aside0.mk (blk_below (kB BK362.out) hb); have n3_ := Aside0.mk (blk_below (kB BK363.out) hb); have n4_ := Aside0.mk (blk_below (kB BK364.out) hb); have n5_ := Aside0.mk (blk_below (kB BK370.out) hb); have n6_ := Aside0.mk (below_step bS hb); clear HO_11; clear HO_371001; clear BK362; clear BK363; clear BK364; clear BK370; clear HB; have HO_11 := n0_; have HO_371001 := n1_; have BK362 := n2_; have BK363 := n3_; have BK364 := n4_; have BK370 := n5_; have HB := n6_; clear n0_ n1_ n2_ n3_ n4_ n5_ n6_; (try clear hb); (try clear hb2); (try clear hk); (try clear hi)))
       go_meet
       case rel => exact ⟨_, (true), eX, H', ⟨by have := HK1.out; first | omega | exact Nat.le_refl _⟩, ⟨by (with_reducible repeat (first | apply Kd.R_alloc | apply Kd.R_drewN | apply Kd.R_drew)); exact HO_11.out⟩, ⟨by (with_reducible repeat (first | apply Kd.R_alloc | apply Kd.R_drewN | apply Kd.R_drew)); exact HO_371001.out⟩, ⟨by (with_reducible repeat (first | refine blk_drewN ?_ _ | refine blk_drew ?_ | refine blk_alloc ?_ _)); exact BK362.out⟩, ⟨by (with_reducible repeat (first | refine blk_drewN ?_ _ | refine blk_drew ?_ | refine blk_alloc ?_ _)); exact BK363.out⟩, ⟨by (with_reducible repeat (first | refine blk_drewN ?_ _ | refine blk_drew ?_ | refine blk_alloc ?_ _)); exact BK364.out⟩, ⟨by (with_reducible repeat (first | refine blk_drewN ?_ _ | refine blk_drew ?_ | refine blk_alloc ?_ _)); exact BK370.out⟩, ⟨by repeat (first | (with_reducible first | exact HB.out | apply below_alloc | apply pw_below_drewN | apply below_drew1 | refine below_set ?_ GE362.out | refine below_set ?_ GE363.out | refine below_set ?_ GE364.out | refine below_set ?_ GE370.out) | exact HB.out)⟩⟩
     case rest =>
      clear HC44
      try clear c1
      try clear c2
      try clear p2
      try clear c3
      try clear p3
      try clear q3
      try clear hx3
      try clear c4
      try clear c5
      try clear c6
      try clear p6
      try clear c7
      try clear c11
      try clear c12
      try clear c18
      try clear c19
      try clear c20
      try clear c25
      try clear c26
      try clear c26b0
      try clear c27
      try clear c27b0
      try clear c28
      try clear c28b0
      try clear c29
      try clear c29b0
      try clear c30
      try clear c32
      try clear c33
      try clear c34
      try clear c35
      try clear p37
      try clear q37
      try clear hx37
      try clear c39
      try clear c40
      try clear c41
      try clear c42
      try clear c46
      try clear c48
      try clear c50
      try clear c51
      try clear c52
      try clear c55
      try clear c56
      try clear c57
      try clear c60
      try clear c61
      try clear c62
      try clear p64
      try clear hcz13_0
      try clear hcz13_1
      try clear hcz15_0
      try clear hcz15_1
      try clear hcz21_0
      try clear hcz21_1
      try clear hcz25_0
      try clear hcz25_1
      try clear hcz36_0
      try clear hcz36_1
      try clear hcz36_2
      try clear hcz43_0
      try clear hcz43_1
      try clear hcz43_2
      try clear hcz53_0
      try clear hcz53_1
      try clear hcz53_2
      try clear hcz58_0
      try clear hcz58_1
      try clear hcz58_2
      try clear hcz63_0
      try clear hcz63_1
      try clear hcz63_2
      try clear hfz13_0
      try clear hfz13_1
      try clear hfz15_0
      try clear hfz15_1
      try clear hfz21_0
      try clear hfz21_1
      try clear hfz25_0
      try clear hfz25_1
      try clear hfz36_0
      try clear hfz36_1
      try clear hfz36_2
      try clear hfz43_0
      try clear hfz43_1
      try clear hfz43_2
      try clear hfz53_0
      try clear hfz53_1
      try clear hfz53_2
      try clear hfz58_0
      try clear hfz58_1
      try clear hfz58_2
      try clear hfz63_0
      try clear hfz63_1
      try clear hfz63_2
      try clear hx374_0
      try clear hx374_1
      try clear hx374_2
      try clear p2
      try clear p374
      try clear q374
      obtain ⟨kq, x39_43, rfl, HA, HJ43, HO_11, HO_371001, BK362, BK363, BK364, BK370, HB⟩ := hcut
      cases kq with
      | zero => exact absurd HA.out (by simp [impl_CacheTry.j1])
      | succ kj43 =>
       have H := HA.out
       clear HA
       simp only [impl_CacheTry.j1] at H
       by_cases c65 : x39_43 = true
       ·subst c65
        have H1 : (some (t366, t367, 1)) = some (r1, r2, r3) := by rw [if_pos rfl] at H; exact H
        clear H
        have H := H1
        clear H1
        simp only [Option.some.injEq, Prod.mk.injEq] at H
        obtain ⟨rfl, rfl, rfl⟩ := H
        have hnb66 := NB370_362.out
        have hnc66 := NB362_370.out
        have hnb67 := NB370_363.out
        have hnc67 := NB363_370.out
        have hnb68 := NB370_364.out
        have hnc68 := NB364_370.out
        have hcz69_0 : wc.cell? ⟨gb370, 0, none⟩ = some (.int .i64 t366) := (blk_cell BK370.out 0).trans rfl
        have hcz69_1 : wc.cell? ⟨gb370, 1, none⟩ = some (.slice Ao22 t367.length co22) := (blk_cell BK370.out 1).trans rfl
        have hfz69_0 := blk_frozen BK370.out 0
        have hfz69_1 := blk_frozen BK370.out 1
        have hnb70 := NB364_362.out
        have hnc70 := NB362_364.out
        have hnb71 := NB364_363.out
        have hnc71 := NB363_364.out
        have hcz72_0 : wc.cell? ⟨gb364, 0, none⟩ = some (.int .i64 0) := (blk_cell BK364.out 0).trans rfl
        have hcz72_1 : wc.cell? ⟨gb364, 1, none⟩ = some (.slice none 0 0) := (blk_cell BK364.out 1).trans rfl
        have hfz72_0 := blk_frozen BK364.out 0
        have hfz72_1 := blk_frozen BK364.out 1
        go_wp2
        refine bodyPost_ret (results_ct rfl _ _ gb364 26 #[.int .i64 t366, .slice Ao22 t367.length co22] (0, 0) _ rfl (by (with_reducible repeat (first | refine blk_drewN ?_ _ | refine blk_drew ?_ | refine blk_alloc ?_ _)); refine blk_put (cs := #[.int .i64 t366, .slice none 0 0]) ?_ 1 _ rfl; (with_reducible repeat (first | refine blk_drewN ?_ _ | refine blk_drew ?_ | refine blk_alloc ?_ _)); refine blk_put (cs := #[.int .i64 0, .slice none 0 0]) ?_ 0 _ rfl; (with_reducible repeat (first | refine blk_drewN ?_ _ | refine blk_drew ?_ | refine blk_alloc ?_ _)); exact BK364.out) Try.underlying26 rfl (by kernel_rfl)) rfl ?_
        exact ⟨_, by first | rfl | (simp [errW_none, errW_some] <;> rfl) | (simp [*, errW_none, errW_some] <;> rfl), by (with_reducible repeat (first | apply Kd.R_alloc | apply Kd.R_drewN | apply Kd.R_drew)); exact Kd.R_mono (Kd.R_far (p := ⟨gb364, 1, none⟩) (Kd.R_far (p := ⟨gb364, 0, none⟩) (Kd.R_types HO_371001.out BK364.out (by decide)) (fun _ hk => hk.2) (.int .i64 t366)) (fun _ hk => hk.2) (.slice Ao22 t367.length co22)) (fun _ hk => trivial), bS⟩
       ·replace c65 := Bool.eq_false_iff.mpr c65
        subst c65
        have H1 : ((impl_apart.f a2 a1_1).bind fun t382 => (if t382 > a3 then (some (t366, t367, 2)) else (if a2 ≤ a0_0 then (some (t366, t367, 3)) else ((impl_Auth_31.f kj43 l0_1 a1_0 a1_1 a1_2).bind fun t383 => (if t383 = true then (some (t366, t367, 4)) else (if (x11_1.length : Int) = 6 then (some (t366, t367, 5)) else (if x11_1.length < 5864062014805 then (some (t366, (x11_1 ++ [(⟨a1_0, a1_1, a1_2⟩ : S28)]), 0)) else (none)))))))) = some (r1, r2, r3) := by rw [if_neg (show ¬ (false = true) by decide)] at H; exact H
        clear H
        have H := H1
        clear H1
        replace H := Option.bind_eq_some_iff.mp H
        obtain ⟨t382, A730, H⟩ := H
        replace H : (if t382 > a3 then (some (t366, t367, 2)) else (if a2 ≤ a0_0 then (some (t366, t367, 3)) else ((impl_Auth_31.f kj43 l0_1 a1_0 a1_1 a1_2).bind fun t383 => (if t383 = true then (some (t366, t367, 4)) else (if (x11_1.length : Int) = 6 then (some (t366, t367, 5)) else (if x11_1.length < 5864062014805 then (some (t366, (x11_1 ++ [(⟨a1_0, a1_1, a1_2⟩ : S28)]), 0)) else (none))))))) = some (r1, r2, r3) := H
        have A73 := Aside0.mk A730
        clear A730
        by_cases c74 : t382 > a3
        ·rw [if_pos c74] at H
         have c74b0 : decide (a3 < t382) = true := decide_eq_true c74
         clear c74
         simp only [Option.some.injEq, Prod.mk.injEq] at H
         obtain ⟨rfl, rfl, rfl⟩ := H
         have hnb75 := NB363_362.out
         have hnc75 := NB362_363.out
         have hnb76 := NB363_364.out
         have hnc76 := NB364_363.out
         have hnb77 := NB363_370.out
         have hnc77 := NB370_363.out
         have hcz78_0 : wc.cell? ⟨gb363, 0, none⟩ = some (.int .i64 a1_0) := (blk_cell BK363.out 0).trans rfl
         have hcz78_1 : wc.cell? ⟨gb363, 1, none⟩ = some (.int .i64 a1_1) := (blk_cell BK363.out 1).trans rfl
         have hcz78_2 : wc.cell? ⟨gb363, 2, none⟩ = some (.int .i64 a1_2) := (blk_cell BK363.out 2).trans rfl
         have hfz78_0 := blk_frozen BK363.out 0
         have hfz78_1 := blk_frozen BK363.out 1
         have hfz78_2 := blk_frozen BK363.out 2
         go_wp2_with (first | ((with_reducible refine gate_callee (f := 30) rfl ?_); refine goesL_ (some 58) rfl rfl Try.func30 (by kernel_rfl) rfl #[.int .i64 a2, .int .i64 a1_1] rfl eA ?_; (with_reducible refine (impl_apart.calls a2 a1_1 t382 _ A73.out).mono ?_); rintro e w79 ⟨rfl, hb⟩; refine ⟨_, rfl, ?_⟩; have n0_ := Aside0.mk (Kd.R_below (kR HO_11.out) hb); have n1_ := Aside0.mk (Kd.R_below (kR HO_371001.out) hb); have n2_ := Aside0.mk (blk_below (kB BK362.out) hb); have n3_ := Aside0.mk (blk_below (kB BK363.out) hb); have n4_ := Aside0.mk (blk_below (kB BK364.out) hb); have n5_ := Aside0.mk (blk_below (kB BK370.out) hb); have n6_ := Aside0.mk (below_step bS hb); clear HO_11; clear HO_371001; clear BK362; clear BK363; clear BK364; clear BK370; clear HB; have HO_11 := n0_; have HO_371001 := n1_; have BK362 := n2_; have BK363 := n3_; have BK364 := n4_; have BK370 := n5_; have HB := n6_; clear n0_ n1_ n2_ n3_ n4_ n5_ n6_; (try clear hb); (try clear hb2); (try clear hk); (try clear hi); have hnb80 := NB370_362.out; have hnc80 := NB362_370.out; have hnb81 := NB370_364.out; have hnc81 := NB364_370.out; have hcz82_0 : w79.cell? ⟨gb370, 0, none⟩ = some (.int .i64 t366) := (blk_cell BK370.out 0).trans rfl; have hcz82_1 : w79.cell? ⟨gb370, 1, none⟩ = some (.slice Ao22 t367.length co22) := (blk_cell BK370.out 1).trans rfl; have hfz82_0 := blk_frozen BK370.out 0; have hfz82_1 := blk_frozen BK370.out 1; have hnb83 := NB364_362.out; have hnc83 := NB362_364.out; have hcz84_0 : w79.cell? ⟨gb364, 0, none⟩ = some (.int .i64 0) := (blk_cell BK364.out 0).trans rfl; have hcz84_1 : w79.cell? ⟨gb364, 1, none⟩ = some (.slice none 0 0) := (blk_cell BK364.out 1).trans rfl; have hfz84_0 := blk_frozen BK364.out 0; have hfz84_1 := blk_frozen BK364.out 1))
         refine bodyPost_ret (results_ct rfl _ _ gb364 26 #[.int .i64 t366, .slice Ao22 t367.length co22] (0, 0) _ rfl (by (with_reducible repeat (first | refine blk_drewN ?_ _ | refine blk_drew ?_ | refine blk_alloc ?_ _)); refine blk_put (cs := #[.int .i64 t366, .slice none 0 0]) ?_ 1 _ rfl; (with_reducible repeat (first | refine blk_drewN ?_ _ | refine blk_drew ?_ | refine blk_alloc ?_ _)); refine blk_put (cs := #[.int .i64 0, .slice none 0 0]) ?_ 0 _ rfl; (with_reducible repeat (first | refine blk_drewN ?_ _ | refine blk_drew ?_ | refine blk_alloc ?_ _)); exact BK364.out) Try.underlying26 rfl (by kernel_rfl)) rfl ?_
         exact ⟨_, by first | rfl | (simp [errW_none, errW_some] <;> rfl) | (simp [*, errW_none, errW_some] <;> rfl), by (with_reducible repeat (first | apply Kd.R_alloc | apply Kd.R_drewN | apply Kd.R_drew)); exact Kd.R_mono (Kd.R_far (p := ⟨gb364, 1, none⟩) (Kd.R_far (p := ⟨gb364, 0, none⟩) (Kd.R_types HO_371001.out BK364.out (by decide)) (fun _ hk => hk.2) (.int .i64 t366)) (fun _ hk => hk.2) (.slice Ao22 t367.length co22)) (fun _ hk => trivial), bS⟩
        ·rw [if_neg c74] at H
         have c74b0 : decide (a3 < t382) = false := decide_eq_false c74
         clear c74
         by_cases c85 : a2 ≤ a0_0
         ·rw [if_pos c85] at H
          have c85b0 : decide (a2 ≤ a0_0) = true := decide_eq_true c85
          clear c85
          simp only [Option.some.injEq, Prod.mk.injEq] at H
          obtain ⟨rfl, rfl, rfl⟩ := H
          have hnb86 := NB363_362.out
          have hnc86 := NB362_363.out
          have hnb87 := NB363_364.out
          have hnc87 := NB364_363.out
          have hnb88 := NB363_370.out
          have hnc88 := NB370_363.out
          have hcz89_0 : wc.cell? ⟨gb363, 0, none⟩ = some (.int .i64 a1_0) := (blk_cell BK363.out 0).trans rfl
          have hcz89_1 : wc.cell? ⟨gb363, 1, none⟩ = some (.int .i64 a1_1) := (blk_cell BK363.out 1).trans rfl
          have hcz89_2 : wc.cell? ⟨gb363, 2, none⟩ = some (.int .i64 a1_2) := (blk_cell BK363.out 2).trans rfl
          have hfz89_0 := blk_frozen BK363.out 0
          have hfz89_1 := blk_frozen BK363.out 1
          have hfz89_2 := blk_frozen BK363.out 2
          go_wp2_with (first | ((with_reducible refine gate_callee (f := 30) rfl ?_); refine goesL_ (some 58) rfl rfl Try.func30 (by kernel_rfl) rfl #[.int .i64 a2, .int .i64 a1_1] rfl eA ?_; (with_reducible refine (impl_apart.calls a2 a1_1 t382 _ A73.out).mono ?_); rintro e w90 ⟨rfl, hb⟩; refine ⟨_, rfl, ?_⟩; have n0_ := Aside0.mk (Kd.R_below (kR HO_11.out) hb); have n1_ := Aside0.mk (Kd.R_below (kR HO_371001.out) hb); have n2_ := Aside0.mk (blk_below (kB BK362.out) hb); have n3_ := Aside0.mk (blk_below (kB BK363.out) hb); have n4_ := Aside0.mk (blk_below (kB BK364.out) hb); have n5_ := Aside0.mk (blk_below (kB BK370.out) hb); have n6_ := Aside0.mk (below_step bS hb); clear HO_11; clear HO_371001; clear BK362; clear BK363; clear BK364; clear BK370; clear HB; have HO_11 := n0_; have HO_371001 := n1_; have BK362 := n2_; have BK363 := n3_; have BK364 := n4_; have BK370 := n5_; have HB := n6_; clear n0_ n1_ n2_ n3_ n4_ n5_ n6_; (try clear hb); (try clear hb2); (try clear hk); (try clear hi); have hnb91 := NB362_364.out; have hnc91 := NB364_362.out; have hnb92 := NB362_370.out; have hnc92 := NB370_362.out; have hcz93_0 : w90.cell? ⟨gb362, 0, none⟩ = some (.int .i64 a0_0) := (blk_cell BK362.out 0).trans rfl; have hcz93_1 : w90.cell? ⟨gb362, 1, none⟩ = some (.slice A0_1 l0_1.length c0_1) := (blk_cell BK362.out 1).trans rfl; have hfz93_0 := blk_frozen BK362.out 0; have hfz93_1 := blk_frozen BK362.out 1; have hnb94 := NB370_364.out; have hnc94 := NB364_370.out; have hcz95_0 : w90.cell? ⟨gb370, 0, none⟩ = some (.int .i64 t366) := (blk_cell BK370.out 0).trans rfl; have hcz95_1 : w90.cell? ⟨gb370, 1, none⟩ = some (.slice Ao22 t367.length co22) := (blk_cell BK370.out 1).trans rfl; have hfz95_0 := blk_frozen BK370.out 0; have hfz95_1 := blk_frozen BK370.out 1; have hcz96_0 : w90.cell? ⟨gb364, 0, none⟩ = some (.int .i64 0) := (blk_cell BK364.out 0).trans rfl; have hcz96_1 : w90.cell? ⟨gb364, 1, none⟩ = some (.slice none 0 0) := (blk_cell BK364.out 1).trans rfl; have hfz96_0 := blk_frozen BK364.out 0; have hfz96_1 := blk_frozen BK364.out 1))
          refine bodyPost_ret (results_ct rfl _ _ gb364 26 #[.int .i64 t366, .slice Ao22 t367.length co22] (0, 0) _ rfl (by (with_reducible repeat (first | refine blk_drewN ?_ _ | refine blk_drew ?_ | refine blk_alloc ?_ _)); refine blk_put (cs := #[.int .i64 t366, .slice none 0 0]) ?_ 1 _ rfl; (with_reducible repeat (first | refine blk_drewN ?_ _ | refine blk_drew ?_ | refine blk_alloc ?_ _)); refine blk_put (cs := #[.int .i64 0, .slice none 0 0]) ?_ 0 _ rfl; (with_reducible repeat (first | refine blk_drewN ?_ _ | refine blk_drew ?_ | refine blk_alloc ?_ _)); exact BK364.out) Try.underlying26 rfl (by kernel_rfl)) rfl ?_
          exact ⟨_, by first | rfl | (simp [errW_none, errW_some] <;> rfl) | (simp [*, errW_none, errW_some] <;> rfl), by (with_reducible repeat (first | apply Kd.R_alloc | apply Kd.R_drewN | apply Kd.R_drew)); exact Kd.R_mono (Kd.R_far (p := ⟨gb364, 1, none⟩) (Kd.R_far (p := ⟨gb364, 0, none⟩) (Kd.R_types HO_371001.out BK364.out (by decide)) (fun _ hk => hk.2) (.int .i64 t366)) (fun _ hk => hk.2) (.slice Ao22 t367.length co22)) (fun _ hk => trivial), bS⟩
         ·rw [if_neg c85] at H
          have c85b0 : decide (a2 ≤ a0_0) = false := decide_eq_false c85
          clear c85
          replace H := Option.bind_eq_some_iff.mp H
          obtain ⟨t383, A970, H⟩ := H
          replace H : (if t383 = true then (some (t366, t367, 4)) else (if (x11_1.length : Int) = 6 then (some (t366, t367, 5)) else (if x11_1.length < 5864062014805 then (some (t366, (x11_1 ++ [(⟨a1_0, a1_1, a1_2⟩ : S28)]), 0)) else (none)))) = some (r1, r2, r3) := H
          have A97 := Aside0.mk A970
          clear A970
          by_cases c98 : t383 = true
          ·subst c98
           have H1 : (some (t366, t367, 4)) = some (r1, r2, r3) := by rw [if_pos rfl] at H; exact H
           clear H
           have H := H1
           clear H1
           simp only [Option.some.injEq, Prod.mk.injEq] at H
           obtain ⟨rfl, rfl, rfl⟩ := H
           have hnb99 := NB363_362.out
           have hnc99 := NB362_363.out
           have hnb100 := NB363_364.out
           have hnc100 := NB364_363.out
           have hnb101 := NB363_370.out
           have hnc101 := NB370_363.out
           have hcz102_0 : wc.cell? ⟨gb363, 0, none⟩ = some (.int .i64 a1_0) := (blk_cell BK363.out 0).trans rfl
           have hcz102_1 : wc.cell? ⟨gb363, 1, none⟩ = some (.int .i64 a1_1) := (blk_cell BK363.out 1).trans rfl
           have hcz102_2 : wc.cell? ⟨gb363, 2, none⟩ = some (.int .i64 a1_2) := (blk_cell BK363.out 2).trans rfl
           have hfz102_0 := blk_frozen BK363.out 0
           have hfz102_1 := blk_frozen BK363.out 1
           have hfz102_2 := blk_frozen BK363.out 2
           go_wp2_with (first | ((with_reducible refine gate_callee (f := 30) rfl ?_); refine goesL_ (some 58) rfl rfl Try.func30 (by kernel_rfl) rfl #[.int .i64 a2, .int .i64 a1_1] rfl eA ?_; (with_reducible refine (impl_apart.calls a2 a1_1 t382 _ A73.out).mono ?_); rintro e w103 ⟨rfl, hb⟩; refine ⟨_, rfl, ?_⟩; have n0_ := Aside0.mk (Kd.R_below (kR HO_11.out) hb); have n1_ := Aside0.mk (Kd.R_below (kR HO_371001.out) hb); have n2_ := Aside0.mk (blk_below (kB BK362.out) hb); have n3_ := Aside0.mk (blk_below (kB BK363.out) hb); have n4_ := Aside0.mk (blk_below (kB BK364.out) hb); have n5_ := Aside0.mk (blk_below (kB BK370.out) hb); have n6_ := Aside0.mk (below_step bS hb); clear HO_11; clear HO_371001; clear BK362; clear BK363; clear BK364; clear BK370; clear HB; have HO_11 := n0_; have HO_371001 := n1_; have BK362 := n2_; have BK363 := n3_; have BK364 := n4_; have BK370 := n5_; have HB := n6_; clear n0_ n1_ n2_ n3_ n4_ n5_ n6_; (try clear hb); (try clear hb2); (try clear hk); (try clear hi); have hnb104 := NB362_364.out; have hnc104 := NB364_362.out; have hnb105 := NB362_370.out; have hnc105 := NB370_362.out; have hcz106_0 : w103.cell? ⟨gb362, 0, none⟩ = some (.int .i64 a0_0) := (blk_cell BK362.out 0).trans rfl; have hcz106_1 : w103.cell? ⟨gb362, 1, none⟩ = some (.slice A0_1 l0_1.length c0_1) := (blk_cell BK362.out 1).trans rfl; have hfz106_0 := blk_frozen BK362.out 0; have hfz106_1 := blk_frozen BK362.out 1; have hcz107_0 : w103.cell? ⟨gb363, 0, none⟩ = some (.int .i64 a1_0) := (blk_cell BK363.out 0).trans rfl; have hcz107_1 : w103.cell? ⟨gb363, 1, none⟩ = some (.int .i64 a1_1) := (blk_cell BK363.out 1).trans rfl; have hcz107_2 : w103.cell? ⟨gb363, 2, none⟩ = some (.int .i64 a1_2) := (blk_cell BK363.out 2).trans rfl; have hfz107_0 := blk_frozen BK363.out 0; have hfz107_1 := blk_frozen BK363.out 1; have hfz107_2 := blk_frozen BK363.out 2) | ((with_reducible refine gate_callee (f := 31) rfl ?_); refine goesL_ (some 72) rfl rfl Try.func31 (by kernel_rfl) rfl #[.slice A0_1 l0_1.length c0_1, .agg #[.int .i64 a1_0, .int .i64 a1_1, .int .i64 a1_2]] rfl eA ?_; (with_reducible refine (impl_Auth_31.calls kj43 _ _ l0_1 a1_0 a1_1 a1_2 true _ ?side1 ?side2 A97.out).mono ?_); (case side1 => repeat (first | exact (Kd.C_below HR0_1.out HB.out) | (with_reducible refine Kd.C_alloc ?_ _) | (with_reducible refine Kd.C_drewN ?_ _) | (with_reducible refine Kd.C_drew ?_))); (case side2 => exact HC0_1.out); rintro e w108 ⟨rfl, hb⟩; refine ⟨_, rfl, ?_⟩; have n0_ := Aside0.mk (Kd.R_below (kR HO_11.out) hb); have n1_ := Aside0.mk (Kd.R_below (kR HO_371001.out) hb); have n2_ := Aside0.mk (blk_below (kB BK362.out) hb); have n3_ := Aside0.mk (blk_below (kB BK363.out) hb); have n4_ := Aside0.mk (blk_below (kB BK364.out) hb); have n5_ := Aside0.mk (blk_below (kB BK370.out) hb); have n6_ := Aside0.mk (below_step bS hb); clear HO_11; clear HO_371001; clear BK362; clear BK363; clear BK364; clear BK370; clear HB; have HO_11 := n0_; have HO_371001 := n1_; have BK362 := n2_; have BK363 := n3_; have BK364 := n4_; have BK370 := n5_; have HB := n6_; clear n0_ n1_ n2_ n3_ n4_ n5_ n6_; (try clear hb); (try clear hb2); (try clear hk); (try clear hi); have hnb109 := NB370_364.out; have hnc109 := NB364_370.out; have hcz110_0 : w108.cell? ⟨gb370, 0, none⟩ = some (.int .i64 t366) := (blk_cell BK370.out 0).trans rfl; have hcz110_1 : w108.cell? ⟨gb370, 1, none⟩ = some (.slice Ao22 t367.length co22) := (blk_cell BK370.out 1).trans rfl; have hfz110_0 := blk_frozen BK370.out 0; have hfz110_1 := blk_frozen BK370.out 1; have hcz111_0 : w108.cell? ⟨gb364, 0, none⟩ = some (.int .i64 0) := (blk_cell BK364.out 0).trans rfl; have hcz111_1 : w108.cell? ⟨gb364, 1, none⟩ = some (.slice none 0 0) := (blk_cell BK364.out 1).trans rfl; have hfz111_0 := blk_frozen BK364.out 0; have hfz111_1 := blk_frozen BK364.out 1))
           refine bodyPost_ret (results_ct rfl _ _ gb364 26 #[.int .i64 t366, .slice Ao22 t367.length co22] (0, 0) _ rfl (by (with_reducible repeat (first | refine blk_drewN ?_ _ | refine blk_drew ?_ | refine blk_alloc ?_ _)); refine blk_put (cs := #[.int .i64 t366, .slice none 0 0]) ?_ 1 _ rfl; (with_reducible repeat (first | refine blk_drewN ?_ _ | refine blk_drew ?_ | refine blk_alloc ?_ _)); refine blk_put (cs := #[.int .i64 0, .slice none 0 0]) ?_ 0 _ rfl; (with_reducible repeat (first | refine blk_drewN ?_ _ | refine blk_drew ?_ | refine blk_alloc ?_ _)); exact BK364.out) Try.underlying26 rfl (by kernel_rfl)) rfl ?_
           exact ⟨_, by first | rfl | (simp [errW_none, errW_some] <;> rfl) | (simp [*, errW_none, errW_some] <;> rfl), by (with_reducible repeat (first | apply Kd.R_alloc | apply Kd.R_drewN | apply Kd.R_drew)); exact Kd.R_mono (Kd.R_far (p := ⟨gb364, 1, none⟩) (Kd.R_far (p := ⟨gb364, 0, none⟩) (Kd.R_types HO_371001.out BK364.out (by decide)) (fun _ hk => hk.2) (.int .i64 t366)) (fun _ hk => hk.2) (.slice Ao22 t367.length co22)) (fun _ hk => trivial), bS⟩
          ·replace c98 := Bool.eq_false_iff.mpr c98
           subst c98
           have H1 : (if (x11_1.length : Int) = 6 then (some (t366, t367, 5)) else (if x11_1.length < 5864062014805 then (some (t366, (x11_1 ++ [(⟨a1_0, a1_1, a1_2⟩ : S28)]), 0)) else (none))) = some (r1, r2, r3) := by rw [if_neg (show ¬ (false = true) by decide)] at H; exact H
           clear H
           have H := H1
           clear H1
           by_cases c112 : (x11_1.length : Int) = 6
           ·rw [if_pos c112] at H
            have c112b0 : ((x11_1.length : Int) == 6) = true := beq_iff_eq.mpr c112
            have c112b1 : ((x11_1.length : Int) != 6) = false := bne_eq_false_iff_eq.mpr c112
            clear c112
            simp only [Option.some.injEq, Prod.mk.injEq] at H
            obtain ⟨rfl, rfl, rfl⟩ := H
            have hnb113 := NB363_362.out
            have hnc113 := NB362_363.out
            have hnb114 := NB363_364.out
            have hnc114 := NB364_363.out
            have hnb115 := NB363_370.out
            have hnc115 := NB370_363.out
            have hcz116_0 : wc.cell? ⟨gb363, 0, none⟩ = some (.int .i64 a1_0) := (blk_cell BK363.out 0).trans rfl
            have hcz116_1 : wc.cell? ⟨gb363, 1, none⟩ = some (.int .i64 a1_1) := (blk_cell BK363.out 1).trans rfl
            have hcz116_2 : wc.cell? ⟨gb363, 2, none⟩ = some (.int .i64 a1_2) := (blk_cell BK363.out 2).trans rfl
            have hfz116_0 := blk_frozen BK363.out 0
            have hfz116_1 := blk_frozen BK363.out 1
            have hfz116_2 := blk_frozen BK363.out 2
            go_wp2_with (first | ((with_reducible refine gate_callee (f := 30) rfl ?_); refine goesL_ (some 58) rfl rfl Try.func30 (by kernel_rfl) rfl #[.int .i64 a2, .int .i64 a1_1] rfl eA ?_; (with_reducible refine (impl_apart.calls a2 a1_1 t382 _ A73.out).mono ?_); rintro e w117 ⟨rfl, hb⟩; refine ⟨_, rfl, ?_⟩; have n0_ := Aside0.mk (Kd.R_below (kR HO_11.out) hb); have n1_ := Aside0.mk (Kd.R_below (kR HO_371001.out) hb); have n2_ := Aside0.mk (blk_below (kB BK362.out) hb); have n3_ := Aside0.mk (blk_below (kB BK363.out) hb); have n4_ := Aside0.mk (blk_below (kB BK364.out) hb); have n5_ := Aside0.mk (blk_below (kB BK370.out) hb); have n6_ := Aside0.mk (below_step bS hb); clear HO_11; clear HO_371001; clear BK362; clear BK363; clear BK364; clear BK370; clear HB; have HO_11 := n0_; have HO_371001 := n1_; have BK362 := n2_; have BK363 := n3_; have BK364 := n4_; have BK370 := n5_; have HB := n6_; clear n0_ n1_ n2_ n3_ n4_ n5_ n6_; (try clear hb); (try clear hb2); (try clear hk); (try clear hi); have hnb118 := NB362_364.out; have hnc118 := NB364_362.out; have hnb119 := NB362_370.out; have hnc119 := NB370_362.out; have hcz120_0 : w117.cell? ⟨gb362, 0, none⟩ = some (.int .i64 a0_0) := (blk_cell BK362.out 0).trans rfl; have hcz120_1 : w117.cell? ⟨gb362, 1, none⟩ = some (.slice A0_1 l0_1.length c0_1) := (blk_cell BK362.out 1).trans rfl; have hfz120_0 := blk_frozen BK362.out 0; have hfz120_1 := blk_frozen BK362.out 1; have hcz121_0 : w117.cell? ⟨gb363, 0, none⟩ = some (.int .i64 a1_0) := (blk_cell BK363.out 0).trans rfl; have hcz121_1 : w117.cell? ⟨gb363, 1, none⟩ = some (.int .i64 a1_1) := (blk_cell BK363.out 1).trans rfl; have hcz121_2 : w117.cell? ⟨gb363, 2, none⟩ = some (.int .i64 a1_2) := (blk_cell BK363.out 2).trans rfl; have hfz121_0 := blk_frozen BK363.out 0; have hfz121_1 := blk_frozen BK363.out 1; have hfz121_2 := blk_frozen BK363.out 2) | ((with_reducible refine gate_callee (f := 31) rfl ?_); refine goesL_ (some 72) rfl rfl Try.func31 (by kernel_rfl) rfl #[.slice A0_1 l0_1.length c0_1, .agg #[.int .i64 a1_0, .int .i64 a1_1, .int .i64 a1_2]] rfl eA ?_; (with_reducible refine (impl_Auth_31.calls kj43 _ _ l0_1 a1_0 a1_1 a1_2 false _ ?side1 ?side2 A97.out).mono ?_); (case side1 => repeat (first | exact (Kd.C_below HR0_1.out HB.out) | (with_reducible refine Kd.C_alloc ?_ _) | (with_reducible refine Kd.C_drewN ?_ _) | (with_reducible refine Kd.C_drew ?_))); (case side2 => exact HC0_1.out); rintro e w122 ⟨rfl, hb⟩; refine ⟨_, rfl, ?_⟩; have n0_ := Aside0.mk (Kd.R_below (kR HO_11.out) hb); have n1_ := Aside0.mk (Kd.R_below (kR HO_371001.out) hb); have n2_ := Aside0.mk (blk_below (kB BK362.out) hb); have n3_ := Aside0.mk (blk_below (kB BK363.out) hb); have n4_ := Aside0.mk (blk_below (kB BK364.out) hb); have n5_ := Aside0.mk (blk_below (kB BK370.out) hb); have n6_ := Aside0.mk (below_step bS hb); clear HO_11; clear HO_371001; clear BK362; clear BK363; clear BK364; clear BK370; clear HB; have HO_11 := n0_; have HO_371001 := n1_; have BK362 := n2_; have BK363 := n3_; have BK364 := n4_; have BK370 := n5_; have HB := n6_; clear n0_ n1_ n2_ n3_ n4_ n5_ n6_; (try clear hb); (try clear hb2); (try clear hk); (try clear hi); obtain ⟨Ao123, co123, eo123⟩ := Kd.R_slice HO_11.out; subst eo123; have hnb124 := NB370_364.out; have hnc124 := NB364_370.out; have hcz125_0 : w122.cell? ⟨gb370, 0, none⟩ = some (.int .i64 t366) := (blk_cell BK370.out 0).trans rfl; have hcz125_1 : w122.cell? ⟨gb370, 1, none⟩ = some (.slice Ao22 t367.length co22) := (blk_cell BK370.out 1).trans rfl; have hfz125_0 := blk_frozen BK370.out 0; have hfz125_1 := blk_frozen BK370.out 1; have hcz126_0 : w122.cell? ⟨gb364, 0, none⟩ = some (.int .i64 0) := (blk_cell BK364.out 0).trans rfl; have hcz126_1 : w122.cell? ⟨gb364, 1, none⟩ = some (.slice none 0 0) := (blk_cell BK364.out 1).trans rfl; have hfz126_0 := blk_frozen BK364.out 0; have hfz126_1 := blk_frozen BK364.out 1))
            refine bodyPost_ret (results_ct rfl _ _ gb364 26 #[.int .i64 t366, .slice Ao22 t367.length co22] (0, 0) _ rfl (by (with_reducible repeat (first | refine blk_drewN ?_ _ | refine blk_drew ?_ | refine blk_alloc ?_ _)); refine blk_put (cs := #[.int .i64 t366, .slice none 0 0]) ?_ 1 _ rfl; (with_reducible repeat (first | refine blk_drewN ?_ _ | refine blk_drew ?_ | refine blk_alloc ?_ _)); refine blk_put (cs := #[.int .i64 0, .slice none 0 0]) ?_ 0 _ rfl; (with_reducible repeat (first | refine blk_drewN ?_ _ | refine blk_drew ?_ | refine blk_alloc ?_ _)); exact BK364.out) Try.underlying26 rfl (by kernel_rfl)) rfl ?_
            exact ⟨_, by first | rfl | (simp [errW_none, errW_some] <;> rfl) | (simp [*, errW_none, errW_some] <;> rfl), by (with_reducible repeat (first | apply Kd.R_alloc | apply Kd.R_drewN | apply Kd.R_drew)); exact Kd.R_mono (Kd.R_far (p := ⟨gb364, 1, none⟩) (Kd.R_far (p := ⟨gb364, 0, none⟩) (Kd.R_types HO_371001.out BK364.out (by decide)) (fun _ hk => hk.2) (.int .i64 t366)) (fun _ hk => hk.2) (.slice Ao22 t367.length co22)) (fun _ hk => trivial), bS⟩
           ·rw [if_neg c112] at H
            have c112b0 : ((x11_1.length : Int) == 6) = false := beq_eq_false_iff_ne.mpr c112
            have c112b1 : ((x11_1.length : Int) != 6) = true := bne_iff_ne.mpr c112
            by_cases c127 : x11_1.length < 5864062014805
            ·rw [if_pos c127] at H
             have LMc127 := Aside0.mk c127
             clear c127
             obtain ⟨y384, hy384⟩ : ∃ y_ : List (S28), y_ = (x11_1 ++ [(⟨a1_0, a1_1, a1_2⟩ : S28)]) := ⟨_, rfl⟩
             replace H : (some (t366, y384, 0)) = some (r1, r2, r3) := by first | (rw [hy384]; with_reducible exact H) | (have H2_ := (Option.bind_some _ _).symm.trans H; rw [hy384]; with_reducible exact H2_) | (have H2_ := (Option.bind_some _ _).symm.trans H; with_reducible exact H2_) | with_reducible exact H | (rw [hy384]; exact H) | exact H
             have Ny384 := Aside0.mk hy384
             clear hy384
             simp only [Option.some.injEq, Prod.mk.injEq] at H
             obtain ⟨rfl, rfl, rfl⟩ := H
             have hnb128 := NB363_362.out
             have hnc128 := NB362_363.out
             have hnb129 := NB363_364.out
             have hnc129 := NB364_363.out
             have hnb130 := NB363_370.out
             have hnc130 := NB370_363.out
             have hcz131_0 : wc.cell? ⟨gb363, 0, none⟩ = some (.int .i64 a1_0) := (blk_cell BK363.out 0).trans rfl
             have hcz131_1 : wc.cell? ⟨gb363, 1, none⟩ = some (.int .i64 a1_1) := (blk_cell BK363.out 1).trans rfl
             have hcz131_2 : wc.cell? ⟨gb363, 2, none⟩ = some (.int .i64 a1_2) := (blk_cell BK363.out 2).trans rfl
             have hfz131_0 := blk_frozen BK363.out 0
             have hfz131_1 := blk_frozen BK363.out 1
             have hfz131_2 := blk_frozen BK363.out 2
             go_wp2_with (first | ((with_reducible refine gate_callee (f := 30) rfl ?_); refine goesL_ (some 58) rfl rfl Try.func30 (by kernel_rfl) rfl #[.int .i64 a2, .int .i64 a1_1] rfl eA ?_; (with_reducible refine (impl_apart.calls a2 a1_1 t382 _ A73.out).mono ?_); rintro e w132 ⟨rfl, hb⟩; refine ⟨_, rfl, ?_⟩; have n0_ := Aside0.mk (Kd.R_below (kR HO_11.out) hb); have n1_ := Aside0.mk (Kd.R_below (kR HO_371001.out) hb); have n2_ := Aside0.mk (blk_below (kB BK362.out) hb); have n3_ := Aside0.mk (blk_below (kB BK363.out) hb); have n4_ := Aside0.mk (blk_below (kB BK364.out) hb); have n5_ := Aside0.mk (blk_below (kB BK370.out) hb); have n6_ := Aside0.mk (below_step bS hb); clear HO_11; clear HO_371001; clear BK362; clear BK363; clear BK364; clear BK370; clear HB; have HO_11 := n0_; have HO_371001 := n1_; have BK362 := n2_; have BK363 := n3_; have BK364 := n4_; have BK370 := n5_; have HB := n6_; clear n0_ n1_ n2_ n3_ n4_ n5_ n6_; (try clear hb); (try clear hb2); (try clear hk); (try clear hi); have hnb133 := NB362_364.out; have hnc133 := NB364_362.out; have hnb134 := NB362_370.out; have hnc134 := NB370_362.out; have hcz135_0 : w132.cell? ⟨gb362, 0, none⟩ = some (.int .i64 a0_0) := (blk_cell BK362.out 0).trans rfl; have hcz135_1 : w132.cell? ⟨gb362, 1, none⟩ = some (.slice A0_1 l0_1.length c0_1) := (blk_cell BK362.out 1).trans rfl; have hfz135_0 := blk_frozen BK362.out 0; have hfz135_1 := blk_frozen BK362.out 1; have hcz136_0 : w132.cell? ⟨gb363, 0, none⟩ = some (.int .i64 a1_0) := (blk_cell BK363.out 0).trans rfl; have hcz136_1 : w132.cell? ⟨gb363, 1, none⟩ = some (.int .i64 a1_1) := (blk_cell BK363.out 1).trans rfl; have hcz136_2 : w132.cell? ⟨gb363, 2, none⟩ = some (.int .i64 a1_2) := (blk_cell BK363.out 2).trans rfl; have hfz136_0 := blk_frozen BK363.out 0; have hfz136_1 := blk_frozen BK363.out 1; have hfz136_2 := blk_frozen BK363.out 2) | ((with_reducible refine gate_callee (f := 31) rfl ?_); refine goesL_ (some 72) rfl rfl Try.func31 (by kernel_rfl) rfl #[.slice A0_1 l0_1.length c0_1, .agg #[.int .i64 a1_0, .int .i64 a1_1, .int .i64 a1_2]] rfl eA ?_; (with_reducible refine (impl_Auth_31.calls kj43 _ _ l0_1 a1_0 a1_1 a1_2 false _ ?side1 ?side2 A97.out).mono ?_); (case side1 => repeat (first | exact (Kd.C_below HR0_1.out HB.out) | (with_reducible refine Kd.C_alloc ?_ _) | (with_reducible refine Kd.C_drewN ?_ _) | (with_reducible refine Kd.C_drew ?_))); (case side2 => exact HC0_1.out); rintro e w137 ⟨rfl, hb⟩; refine ⟨_, rfl, ?_⟩; have n0_ := Aside0.mk (Kd.R_below (kR HO_11.out) hb); have n1_ := Aside0.mk (Kd.R_below (kR HO_371001.out) hb); have n2_ := Aside0.mk (blk_below (kB BK362.out) hb); have n3_ := Aside0.mk (blk_below (kB BK363.out) hb); have n4_ := Aside0.mk (blk_below (kB BK364.out) hb); have n5_ := Aside0.mk (blk_below (kB BK370.out) hb); have n6_ := Aside0.mk (below_step bS hb); clear HO_11; clear HO_371001; clear BK362; clear BK363; clear BK364; clear BK370; clear HB; have HO_11 := n0_; have HO_371001 := n1_; have BK362 := n2_; have BK363 := n3_; have BK364 := n4_; have BK370 := n5_; have HB := n6_; clear n0_ n1_ n2_ n3_ n4_ n5_ n6_; (try clear hb); (try clear hb2); (try clear hk); (try clear hi); obtain ⟨Ao138, co138, eo138⟩ := Kd.R_slice HO_11.out; subst eo138; have hcz139_0 : w137.cell? ⟨gb363, 0, none⟩ = some (.int .i64 a1_0) := (blk_cell BK363.out 0).trans rfl; have hcz139_1 : w137.cell? ⟨gb363, 1, none⟩ = some (.int .i64 a1_1) := (blk_cell BK363.out 1).trans rfl; have hcz139_2 : w137.cell? ⟨gb363, 2, none⟩ = some (.int .i64 a1_2) := (blk_cell BK363.out 2).trans rfl; have hfz139_0 := blk_frozen BK363.out 0; have hfz139_1 := blk_frozen BK363.out 1; have hfz139_2 := blk_frozen BK363.out 2) | ((with_reducible refine gate_builtin (b := .append) (xs := #[.tmp 79, .tmp 81]) rfl ?_); at_builtin; refine Kd.R_append k28 (w0 := w) w.heap.size rfl (.tmp 79) (.tmp 81) 24 28 (.agg #[(.int .i64 0), (.int .i64 0), (.int .i64 0)]) 24 rfl Try.underlying24 info28 rfl (by decide) (by omega) (.slice Ao138 x11_1.length co138) x11_1 (⟨a1_0, a1_1, a1_2⟩ : S28) [.int .i64 a1_0, .int .i64 a1_1, .int .i64 a1_2] (fun k_ => some k_ ≠ (.slice Ao22 t367.length co22 : Value).ownBlock ∧ k_ ≠ gb363) (fun _ => False) rfl rfl ?aP (fun _ hk => hk.elim) ?aF ?aO ?aB ?aS ?aL ?_; (case aP => exact k28_mkM _ _ _ (⟨a1_0, a1_1, a1_2⟩ : S28)); (case aB => exact bS); (case aF => exact (fun k_ hk => ⟨Kd.fresh' (Kd.R_lt (kR HO_371001.out)) k_ hk, Kd.freshB (g := gb363) (o := .cells #[.int .i64 a1_0, .int .i64 a1_1, .int .i64 a1_2] 28 (0, 0)) (kB BK363.out) k_ hk⟩)); (case aO => exact (kR HO_11.out)); (case aS => exact (below_size bS)); (case aL => have := LMc127.out; omega); intro v385 w140 ho hb hg hat; rw [← Ny384.out] at ho; have n0_ := Aside0.mk (Kd.R_after (ok := (fun k_ => k_ ≠ gb363)) (by (with_reducible repeat (first | apply Kd.R_alloc | apply Kd.R_drewN | apply Kd.R_drew)); exact Kd.R_mono HO_371001.out (fun _ hk => ⟨hk.2, hk.1⟩)) hg hat); have n1_ := Aside0.mk (blk_grown (g := gb362) (o := .cells #[.int .i64 a0_0, .slice A0_1 l0_1.length c0_1] 26 (0, 0)) (kB BK362.out) hg (Kd.R_ne HO_11.out BK362.out (by decide))); have n2_ := Aside0.mk (blk_grown (g := gb363) (o := .cells #[.int .i64 a1_0, .int .i64 a1_1, .int .i64 a1_2] 28 (0, 0)) (kB BK363.out) hg (Kd.R_away HO_11.out (fun _ hk => hk.2))); have n3_ := Aside0.mk (blk_grown (g := gb364) (o := .cells #[.int .i64 0, .slice none 0 0] 26 (0, 0)) (kB BK364.out) hg (Kd.R_ne HO_11.out BK364.out (by decide))); have n4_ := Aside0.mk (blk_grown (g := gb370) (o := .cells #[.int .i64 t366, .slice Ao22 t367.length co22] 26 (0, 0)) (kB BK370.out) hg (Kd.R_ne HO_11.out BK370.out (by decide))); have n5_ := Aside0.mk (hb); have n6_ := Aside0.mk (ho); clear HO_371001; clear BK362; clear BK363; clear BK364; clear BK370; clear HB; clear HO_11; have HO_371001 := n0_; have BK362 := n1_; have BK363 := n2_; have BK364 := n3_; have BK370 := n4_; have HB := n5_; have HO386 := n6_; clear n0_ n1_ n2_ n3_ n4_ n5_ n6_; clear ho hb hg hat; obtain ⟨Ao141, co141, eo141⟩ := Kd.R_slice HO386.out; subst eo141; have hnb142 := NB370_364.out; have hnc142 := NB364_370.out; have hcz143_0 : w140.cell? ⟨gb370, 0, none⟩ = some (.int .i64 t366) := (blk_cell BK370.out 0).trans rfl; have hcz143_1 : w140.cell? ⟨gb370, 1, none⟩ = some (.slice Ao22 t367.length co22) := (blk_cell BK370.out 1).trans rfl; have hfz143_0 := blk_frozen BK370.out 0; have hfz143_1 := blk_frozen BK370.out 1; have hcz144_0 : w140.cell? ⟨gb364, 0, none⟩ = some (.int .i64 0) := (blk_cell BK364.out 0).trans rfl; have hcz144_1 : w140.cell? ⟨gb364, 1, none⟩ = some (.slice none 0 0) := (blk_cell BK364.out 1).trans rfl; have hfz144_0 := blk_frozen BK364.out 0; have hfz144_1 := blk_frozen BK364.out 1))
             refine bodyPost_ret (results_ct rfl _ _ gb364 26 #[.int .i64 t366, .slice Ao141 y384.length co141] (0, 0) _ rfl (by (with_reducible repeat (first | refine blk_drewN ?_ _ | refine blk_drew ?_ | refine blk_alloc ?_ _)); refine blk_put (cs := #[.int .i64 t366, .slice none 0 0]) ?_ 1 _ rfl; (with_reducible repeat (first | refine blk_drewN ?_ _ | refine blk_drew ?_ | refine blk_alloc ?_ _)); refine blk_put (cs := #[.int .i64 0, .slice none 0 0]) ?_ 0 _ rfl; (with_reducible repeat (first | refine blk_drewN ?_ _ | refine blk_drew ?_ | refine blk_alloc ?_ _)); refine blk_far ?_ NB364_370.out _; (with_reducible repeat (first | refine blk_drewN ?_ _ | refine blk_drew ?_ | refine blk_alloc ?_ _)); exact BK364.out) Try.underlying26 rfl (by kernel_rfl)) rfl ?_
             exact ⟨_, by first | rfl | (simp [errW_none, errW_some] <;> rfl) | (simp [*, errW_none, errW_some] <;> rfl), by (with_reducible repeat (first | apply Kd.R_alloc | apply Kd.R_drewN | apply Kd.R_drew)); exact Kd.R_mono (Kd.R_far (p := ⟨gb364, 1, none⟩) (Kd.R_far (p := ⟨gb364, 0, none⟩) (Kd.R_far (p := ⟨gb370, 1, none⟩) (Kd.R_types (Kd.R_types HO386.out BK370.out (by decide)) BK364.out (by decide)) (fun _ hk => hk.1.2) (.slice Ao141 y384.length co141)) (fun _ hk => hk.2) (.int .i64 t366)) (fun _ hk => hk.2) (.slice Ao141 y384.length co141)) (fun _ hk => trivial), bS⟩
            ·rw [if_neg c127] at H
             exact absurd H (by simp)
 ·replace c6 := Bool.eq_false_iff.mpr c6
  subst c6
  have H1 : (some (0, ([] : List (S28)), 1)) = some (r1, r2, r3) := by rw [if_neg (show ¬ (false = true) by decide)] at H; exact H
  clear H
  have H := H1
  clear H1
  simp only [Option.some.injEq, Prod.mk.injEq] at H
  obtain ⟨rfl, rfl, rfl⟩ := H
  go_enter Try.func7, Try.ntmps7
  go_wp2_with (first | ((with_reducible refine gate_dst (N := 4) rfl ?_); refine box_event ?hg (N := 4) ?hd (cs := #[.int .i64 a0_0, .slice A0_1 l0_1.length c0_1]) (t := 26) ?hr ?_; (case hd => rfl); (case hg => rfl); (case hr => first | (go_simp; done) | (go_simp; rfl)); intro gb362 hg w145 hbox hb; have n0_ := Aside0.mk (below_step bH hb); have n1_ := Aside0.mk (hbox); have n2_ := Aside0.mk ((bZ hg : w.heap.size ≤ gb362)); have n3_ := Aside0.mk ((bZ hg : w.heap.size ≤ gb362)); clear HB; have HB := n0_; have BK362 := n1_; have GW362 := n2_; have GE362 := n3_; clear n0_ n1_ n2_ n3_; clear hb hbox hg) | ((with_reducible refine gate_dst (N := 5) rfl ?_); refine box_event ?hg (N := 5) ?hd (cs := #[.int .i64 a1_0, .int .i64 a1_1, .int .i64 a1_2]) (t := 28) ?hr ?_; (case hd => rfl); (case hg => rfl); (case hr => first | (go_simp; done) | (go_simp; rfl)); intro gb363 hg w146 hbox hb; have n0_ := Aside0.mk (blk_below (kB BK362.out) hb); have n1_ := Aside0.mk (below_step bS hb); have n2_ := Aside0.mk (hbox); have n3_ := Aside0.mk ((bZ hg : w.heap.size ≤ gb363)); have n4_ := Aside0.mk ((bZ hg : w.heap.size ≤ gb363)); have n5_ := Aside0.mk ((nL hg BK362.out : gb362 ≠ gb363)); have n6_ := Aside0.mk ((nG hg BK362.out : gb363 ≠ gb362)); clear BK362; clear HB; have BK362 := n0_; have HB := n1_; have BK363 := n2_; have GW363 := n3_; have GE363 := n4_; have NB362_363 := n5_; have NB363_362 := n6_; clear n0_ n1_ n2_ n3_ n4_ n5_ n6_; clear hb hbox hg) | ((with_reducible refine gate_dst (N := 8) rfl ?_); refine box_event ?hg (N := 8) ?hd (cs := #[.int .i64 0, .slice none 0 0]) (t := 26) ?hr ?_; (case hd => rfl); (case hg => rfl); (case hr => first | (go_simp; done) | (go_simp; rfl)); intro gb364 hg w147 hbox hb; have n0_ := Aside0.mk (blk_below (kB BK362.out) hb); have n1_ := Aside0.mk (blk_below (kB BK363.out) hb); have n2_ := Aside0.mk (below_step bS hb); have n3_ := Aside0.mk (hbox); have n4_ := Aside0.mk ((bZ hg : w.heap.size ≤ gb364)); have n5_ := Aside0.mk ((bZ hg : w.heap.size ≤ gb364)); have n6_ := Aside0.mk ((nL hg BK362.out : gb362 ≠ gb364)); have n7_ := Aside0.mk ((nG hg BK362.out : gb364 ≠ gb362)); have n8_ := Aside0.mk ((nL hg BK363.out : gb363 ≠ gb364)); have n9_ := Aside0.mk ((nG hg BK363.out : gb364 ≠ gb363)); clear BK362; clear BK363; clear HB; have BK362 := n0_; have BK363 := n1_; have HB := n2_; have BK364 := n3_; have GW364 := n4_; have GE364 := n5_; have NB362_364 := n6_; have NB364_362 := n7_; have NB363_364 := n8_; have NB364_363 := n9_; clear n0_ n1_ n2_ n3_ n4_ n5_ n6_ n7_ n8_ n9_; clear hb hbox hg; have hnb148 := NB362_363.out; have hnc148 := NB363_362.out; have hnb149 := NB362_364.out; have hnc149 := NB364_362.out; have hcz150_0 : w147.cell? ⟨gb362, 0, none⟩ = some (.int .i64 a0_0) := (blk_cell BK362.out 0).trans rfl; have hcz150_1 : w147.cell? ⟨gb362, 1, none⟩ = some (.slice A0_1 l0_1.length c0_1) := (blk_cell BK362.out 1).trans rfl; have hfz150_0 := blk_frozen BK362.out 0; have hfz150_1 := blk_frozen BK362.out 1) | ((with_reducible refine gate_callee (f := 25) rfl ?_); refine goesL_ (some 15) rfl rfl Try.func25 (by kernel_rfl) rfl #[.agg #[.int .i64 a0_0, .slice A0_1 l0_1.length c0_1]] rfl eA ?_; (with_reducible refine (impl_CacheOk.calls k a0_0 _ _ l0_1 false _ ?side1 ?side2 A5.out).mono ?_); (case side1 => repeat (first | exact (Kd.C_below HR0_1.out HB.out) | (with_reducible refine Kd.C_alloc ?_ _) | (with_reducible refine Kd.C_drewN ?_ _) | (with_reducible refine Kd.C_drew ?_))); (case side2 => exact HC0_1.out); rintro e w151 ⟨rfl, hb⟩; refine ⟨_, rfl, ?_⟩; have n0_ := Aside0.mk (blk_below (kB BK362.out) hb); have n1_ := Aside0.mk (blk_below (kB BK363.out) hb); have n2_ := Aside0.mk (blk_below (kB BK364.out) hb); have n3_ := Aside0.mk (below_step bS hb); clear BK362; clear BK363; clear BK364; clear HB; have BK362 := n0_; have BK363 := n1_; have BK364 := n2_; have HB := n3_; clear n0_ n1_ n2_ n3_; (try clear hb); (try clear hb2); (try clear hk); (try clear hi); have hnb152 := NB364_363.out; have hnc152 := NB363_364.out; have hcz153_0 : w151.cell? ⟨gb364, 0, none⟩ = some (.int .i64 0) := (blk_cell BK364.out 0).trans rfl; have hcz153_1 : w151.cell? ⟨gb364, 1, none⟩ = some (.slice none 0 0) := (blk_cell BK364.out 1).trans rfl; have hfz153_0 := blk_frozen BK364.out 0; have hfz153_1 := blk_frozen BK364.out 1))
  refine bodyPost_ret (results_ct rfl _ _ gb364 26 #[.int .i64 0, .slice none 0 0] (0, 0) _ rfl (by (with_reducible repeat (first | refine blk_drewN ?_ _ | refine blk_drew ?_ | refine blk_alloc ?_ _)); refine blk_put (cs := #[.int .i64 0, .slice none 0 0]) ?_ 1 _ rfl; (with_reducible repeat (first | refine blk_drewN ?_ _ | refine blk_drew ?_ | refine blk_alloc ?_ _)); refine blk_put (cs := #[.int .i64 0, .slice none 0 0]) ?_ 0 _ rfl; (with_reducible repeat (first | refine blk_drewN ?_ _ | refine blk_drew ?_ | refine blk_alloc ?_ _)); exact BK364.out) Try.underlying26 rfl (by kernel_rfl)) rfl ?_
  exact ⟨_, by first | rfl | (simp [errW_none, errW_some] <;> rfl) | (simp [*, errW_none, errW_some] <;> rfl), by first | exact Kd.R_nil _ _ _ _ _ | exact Kd.N_nil _ _ _ _ _ | exact Kd.V_nil _ _ _ _ _ | exact Kd.Q_nil _ _ _ _ _ | exact Kd.S_nil _ _ _ _ _, bS⟩

/-! ### impl_NewCache: function 37 -/
def impl_NewCache.f  : Option (Int × (List (S28))) := some ((-1), ([] : List (S28)))
set_option maxHeartbeats 8000000 in
set_option maxRecDepth 100000 in
theorem impl_NewCache.calls  (r1 : Int) (r2 : List (S28)) (w : World) (h : impl_NewCache.f  = some (r1, r2)) :
  Calls Try.prog 37 #[] w fun e w' => ∃ v1_ : Value, e = .returned (.agg #[.int .i64 r1, v1_]) ∧ Kd.R k28 28 w' w.heap.size (fun _ => True) v1_ r2 ∧ Below w.heap.size w w' := by
 have hu26 := Try.underlying26
 have HB := Aside0.mk (Below.refl w.heap.size w)
 have H : (some ((-1), ([] : List (S28)))) = some (r1, r2) := h
 clear h
 simp only [Option.some.injEq, Prod.mk.injEq] at H
 obtain ⟨rfl, rfl⟩ := H
 go_enter Try.func37, Try.ntmps37
 go_wp2_with (first | ((with_reducible refine gate_dst (N := 0) rfl ?_); refine box_event ?hg (N := 0) ?hd (cs := #[.int .i64 0, .slice none 0 0]) (t := 26) ?hr ?_; (case hd => rfl); (case hg => rfl); (case hr => first | (go_simp; done) | (go_simp; rfl)); intro gb387 hg w1 hbox hb; have n0_ := Aside0.mk (below_step bH hb); have n1_ := Aside0.mk (hbox); have n2_ := Aside0.mk ((bZ hg : w.heap.size ≤ gb387)); have n3_ := Aside0.mk ((bZ hg : w.heap.size ≤ gb387)); clear HB; have HB := n0_; have BK387 := n1_; have GW387 := n2_; have GE387 := n3_; clear n0_ n1_ n2_ n3_; clear hb hbox hg; have hcz2_0 : w1.cell? ⟨gb387, 0, none⟩ = some (.int .i64 0) := (blk_cell BK387.out 0).trans rfl; have hcz2_1 : w1.cell? ⟨gb387, 1, none⟩ = some (.slice none 0 0) := (blk_cell BK387.out 1).trans rfl; have hfz2_0 := blk_frozen BK387.out 0; have hfz2_1 := blk_frozen BK387.out 1))
 refine bodyPost_ret (results_cell_row rfl _ _ gb387 26 #[.int .i64 (-1), .slice none 0 0] (0, 0) _ rfl (by (with_reducible repeat (first | refine blk_drewN ?_ _ | refine blk_drew ?_ | refine blk_alloc ?_ _)); refine blk_put (cs := #[.int .i64 (-1), .slice none 0 0]) ?_ 1 _ rfl; (with_reducible repeat (first | refine blk_drewN ?_ _ | refine blk_drew ?_ | refine blk_alloc ?_ _)); refine blk_put (cs := #[.int .i64 0, .slice none 0 0]) ?_ 0 _ rfl; (with_reducible repeat (first | refine blk_drewN ?_ _ | refine blk_drew ?_ | refine blk_alloc ?_ _)); exact BK387.out) Try.underlying26 rfl (by kernel_rfl)) rfl ?_
 exact ⟨_, by first | rfl | (simp [errW_none, errW_some] <;> rfl) | (simp [*, errW_none, errW_some] <;> rfl), by first | exact Kd.R_nil _ _ _ _ _ | exact Kd.N_nil _ _ _ _ _ | exact Kd.V_nil _ _ _ _ _ | exact Kd.Q_nil _ _ _ _ _ | exact Kd.S_nil _ _ _ _ _, bS⟩

/-! ### impl_Restart: function 10 -/
def impl_Restart.f (a0 : Int) (a1 : Int) : Option (Int × (List (S28))) := (impl_isTime.f a0).bind fun t389 => (if t389 = true then ((impl_isSkew.f a1).bind fun t390 => (if t390 = true then (some (wrap64 (a0 + (wrap64 (2 * a1))), ([] : List (S28)))) else ((impl_NewCache.f).bind fun bt391 => (some (bt391.1, bt391.2))))) else ((impl_NewCache.f).bind fun bt395 => (some (bt395.1, bt395.2))))
set_option maxHeartbeats 8000000 in
set_option maxRecDepth 100000 in
theorem impl_Restart.calls (a0 : Int) (a1 : Int) (r1 : Int) (r2 : List (S28)) (w : World) (h : impl_Restart.f a0 a1 = some (r1, r2)) :
  Calls Try.prog 10 #[.int .i64 a0, .int .i64 a1] w fun e w' => ∃ v1_ : Value, e = .returned (.agg #[.int .i64 r1, v1_]) ∧ Kd.R k28 28 w' w.heap.size (fun _ => True) v1_ r2 ∧ Below w.heap.size w w' := by
 have hu26 := Try.underlying26
 have HB := Aside0.mk (Below.refl w.heap.size w)
 have H : ((impl_isTime.f a0).bind fun t389 => (if t389 = true then ((impl_isSkew.f a1).bind fun t390 => (if t390 = true then (some (wrap64 (a0 + (wrap64 (2 * a1))), ([] : List (S28)))) else ((impl_NewCache.f).bind fun bt391 => (some (bt391.1, bt391.2))))) else ((impl_NewCache.f).bind fun bt395 => (some (bt395.1, bt395.2))))) = some (r1, r2) := h
 clear h
 replace H := Option.bind_eq_some_iff.mp H
 obtain ⟨t389, A30, H⟩ := H
 replace H : (if t389 = true then ((impl_isSkew.f a1).bind fun t390 => (if t390 = true then (some (wrap64 (a0 + (wrap64 (2 * a1))), ([] : List (S28)))) else ((impl_NewCache.f).bind fun bt391 => (some (bt391.1, bt391.2))))) else ((impl_NewCache.f).bind fun bt395 => (some (bt395.1, bt395.2)))) = some (r1, r2) := H
 have A3 := Aside0.mk A30
 clear A30
 by_cases c4 : t389 = true
 ·subst c4
  have H1 : ((impl_isSkew.f a1).bind fun t390 => (if t390 = true then (some (wrap64 (a0 + (wrap64 (2 * a1))), ([] : List (S28)))) else ((impl_NewCache.f).bind fun bt391 => (some (bt391.1, bt391.2))))) = some (r1, r2) := by rw [if_pos rfl] at H; exact H
  clear H
  have H := H1
  clear H1
  replace H := Option.bind_eq_some_iff.mp H
  obtain ⟨t390, A50, H⟩ := H
  replace H : (if t390 = true then (some (wrap64 (a0 + (wrap64 (2 * a1))), ([] : List (S28)))) else ((impl_NewCache.f).bind fun bt391 => (some (bt391.1, bt391.2)))) = some (r1, r2) := H
  have A5 := Aside0.mk A50
  clear A50
  by_cases c6 : t390 = true
  ·subst c6
   have H1 : (some (wrap64 (a0 + (wrap64 (2 * a1))), ([] : List (S28)))) = some (r1, r2) := by rw [if_pos rfl] at H; exact H
   clear H
   have H := H1
   clear H1
   simp only [Option.some.injEq, Prod.mk.injEq] at H
   obtain ⟨rfl, rfl⟩ := H
   go_enter Try.func10, Try.ntmps10
   go_wp2_with (first | ((with_reducible refine gate_dst (N := 4) rfl ?_); refine box_event ?hg (N := 4) ?hd (cs := #[.int .i64 0, .slice none 0 0]) (t := 26) ?hr ?_; (case hd => rfl); (case hg => rfl); (case hr => first | (go_simp; done) | (go_simp; rfl)); intro gb388 hg w7 hbox hb; have n0_ := Aside0.mk (below_step bH hb); have n1_ := Aside0.mk (hbox); have n2_ := Aside0.mk ((bZ hg : w.heap.size ≤ gb388)); have n3_ := Aside0.mk ((bZ hg : w.heap.size ≤ gb388)); clear HB; have HB := n0_; have BK388 := n1_; have GW388 := n2_; have GE388 := n3_; clear n0_ n1_ n2_ n3_; clear hb hbox hg) | ((with_reducible refine gate_callee (f := 28) rfl ?_); refine goesL_ (some 6) rfl rfl Try.func28 (by kernel_rfl) rfl #[.int .i64 a0] rfl eA ?_; (with_reducible refine (impl_isTime.calls a0 true _ A3.out).mono ?_); rintro e w' ⟨rfl, ⟨nd, rfl⟩⟩; refine ⟨_, rfl, ?_⟩; (try (rw [drewN_self w7]; generalize hq_ : World.drewN w7 _ = w7; have n0_ : Aside0 (w7.heap[gb388]? = some (.cells #[.int .i64 0, .slice none 0 0] 26 (0, 0))) := ⟨by rw [← hq_]; exact (kB BK388.out)⟩; have n1_ : Aside0 (Below w.heap.size w w7) := ⟨by rw [← hq_]; exact bS⟩; clear BK388 HB hq_; have BK388 := n0_; have HB := n1_; clear n0_ n1_))) | (go_at_call 29; (with_reducible refine (impl_isSkew.calls a1 true _ A5.out).mono ?_); rintro e w' ⟨rfl, ⟨nd, rfl⟩⟩; (try (rw [drewN_self w7]; generalize hq_ : World.drewN w7 _ = w7; have n0_ : Aside0 (w7.heap[gb388]? = some (.cells #[.int .i64 0, .slice none 0 0] 26 (0, 0))) := ⟨by rw [← hq_]; exact (kB BK388.out)⟩; have n1_ : Aside0 (Below w.heap.size w w7) := ⟨by rw [← hq_]; exact bS⟩; clear BK388 HB hq_; have BK388 := n0_; have HB := n1_; clear n0_ n1_)); have hcz8_0 : w7.cell? ⟨gb388, 0, none⟩ = some (.int .i64 0) := (blk_cell BK388.out 0).trans rfl; have hcz8_1 : w7.cell? ⟨gb388, 1, none⟩ = some (.slice none 0 0) := (blk_cell BK388.out 1).trans rfl; have hfz8_0 := blk_frozen BK388.out 0; have hfz8_1 := blk_frozen BK388.out 1))
   refine bodyPost_ret (results_cell_row rfl _ _ gb388 26 #[.int .i64 (wrap64 (a0 + (wrap64 (2 * a1)))), .slice none 0 0] (0, 0) _ rfl (by (with_reducible repeat (first | refine blk_drewN ?_ _ | refine blk_drew ?_ | refine blk_alloc ?_ _)); refine blk_put (cs := #[.int .i64 (wrap64 (a0 + (wrap64 (2 * a1)))), .slice none 0 0]) ?_ 1 _ rfl; (with_reducible repeat (first | refine blk_drewN ?_ _ | refine blk_drew ?_ | refine blk_alloc ?_ _)); refine blk_put (cs := #[.int .i64 0, .slice none 0 0]) ?_ 0 _ rfl; (with_reducible repeat (first | refine blk_drewN ?_ _ | refine blk_drew ?_ | refine blk_alloc ?_ _)); exact BK388.out) Try.underlying26 rfl (by kernel_rfl)) rfl ?_
   exact ⟨_, by first | rfl | (simp [errW_none, errW_some] <;> rfl) | (simp [*, errW_none, errW_some] <;> rfl), by first | exact Kd.R_nil _ _ _ _ _ | exact Kd.N_nil _ _ _ _ _ | exact Kd.V_nil _ _ _ _ _ | exact Kd.Q_nil _ _ _ _ _ | exact Kd.S_nil _ _ _ _ _, bS⟩
  ·replace c6 := Bool.eq_false_iff.mpr c6
   subst c6
   have H1 : ((impl_NewCache.f).bind fun bt391 => (some (bt391.1, bt391.2))) = some (r1, r2) := by rw [if_neg (show ¬ (false = true) by decide)] at H; exact H
   clear H
   have H := H1
   clear H1
   replace H := Option.bind_eq_some_iff.mp H
   obtain ⟨⟨t391, t392⟩, A90, H⟩ := H
   replace H : (some (t391, t392)) = some (r1, r2) := H
   have A9 := Aside0.mk A90
   clear A90
   simp only [Option.some.injEq, Prod.mk.injEq] at H
   obtain ⟨rfl, rfl⟩ := H
   go_enter Try.func10, Try.ntmps10
   go_wp2_with (first | ((with_reducible refine gate_dst (N := 4) rfl ?_); refine box_event ?hg (N := 4) ?hd (cs := #[.int .i64 0, .slice none 0 0]) (t := 26) ?hr ?_; (case hd => rfl); (case hg => rfl); (case hr => first | (go_simp; done) | (go_simp; rfl)); intro gb388 hg w10 hbox hb; have n0_ := Aside0.mk (below_step bH hb); have n1_ := Aside0.mk (hbox); have n2_ := Aside0.mk ((bZ hg : w.heap.size ≤ gb388)); have n3_ := Aside0.mk ((bZ hg : w.heap.size ≤ gb388)); clear HB; have HB := n0_; have BK388 := n1_; have GW388 := n2_; have GE388 := n3_; clear n0_ n1_ n2_ n3_; clear hb hbox hg) | ((with_reducible refine gate_callee (f := 28) rfl ?_); refine goesL_ (some 6) rfl rfl Try.func28 (by kernel_rfl) rfl #[.int .i64 a0] rfl eA ?_; (with_reducible refine (impl_isTime.calls a0 true _ A3.out).mono ?_); rintro e w' ⟨rfl, ⟨nd, rfl⟩⟩; refine ⟨_, rfl, ?_⟩; (try (rw [drewN_self w10]; generalize hq_ : World.drewN w10 _ = w10; have n0_ : Aside0 (w10.heap[gb388]? = some (.cells #[.int .i64 0, .slice none 0 0] 26 (0, 0))) := ⟨by rw [← hq_]; exact (kB BK388.out)⟩; have n1_ : Aside0 (Below w.heap.size w w10) := ⟨by rw [← hq_]; exact bS⟩; clear BK388 HB hq_; have BK388 := n0_; have HB := n1_; clear n0_ n1_))) | (go_at_call 29; (with_reducible refine (impl_isSkew.calls a1 false _ A5.out).mono ?_); rintro e w' ⟨rfl, ⟨nd, rfl⟩⟩; (try (rw [drewN_self w10]; generalize hq_ : World.drewN w10 _ = w10; have n0_ : Aside0 (w10.heap[gb388]? = some (.cells #[.int .i64 0, .slice none 0 0] 26 (0, 0))) := ⟨by rw [← hq_]; exact (kB BK388.out)⟩; have n1_ : Aside0 (Below w.heap.size w w10) := ⟨by rw [← hq_]; exact bS⟩; clear BK388 HB hq_; have BK388 := n0_; have HB := n1_; clear n0_ n1_))) | ((with_reducible refine gate_callee (f := 37) rfl ?_); refine goesL_ (some 13) rfl rfl Try.func37 (by kernel_rfl) rfl #[] rfl eA ?_; (with_reducible refine (impl_NewCache.calls  t391 t392 _ A9.out).mono ?_); rintro e w11 ⟨v393, rfl, ho0, hb⟩; refine ⟨_, rfl, ?_⟩; have n0_ := Aside0.mk (Kd.R_lower ho0 (below_size bS)); have n1_ := Aside0.mk (blk_below (kB BK388.out) hb); have n2_ := Aside0.mk (below_step bS hb); clear BK388; clear HB; have HO394 := n0_; have BK388 := n1_; have HB := n2_; clear n0_ n1_ n2_; (try clear hb); (try clear hb2); (try clear hk); (try clear hi); (try clear ho0); have hcz12_0 : w11.cell? ⟨gb388, 0, none⟩ = some (.int .i64 0) := (blk_cell BK388.out 0).trans rfl; have hcz12_1 : w11.cell? ⟨gb388, 1, none⟩ = some (.slice none 0 0) := (blk_cell BK388.out 1).trans rfl; have hfz12_0 := blk_frozen BK388.out 0; have hfz12_1 := blk_frozen BK388.out 1; obtain ⟨Ao13, co13, eo13⟩ := Kd.R_slice HO394.out; subst eo13))
   refine bodyPost_ret (results_cell_row rfl _ _ gb388 26 #[.int .i64 t391, .slice Ao13 t392.length co13] (0, 0) _ rfl (by (with_reducible repeat (first | refine blk_drewN ?_ _ | refine blk_drew ?_ | refine blk_alloc ?_ _)); refine blk_put (cs := #[.int .i64 t391, .slice none 0 0]) ?_ 1 _ rfl; (with_reducible repeat (first | refine blk_drewN ?_ _ | refine blk_drew ?_ | refine blk_alloc ?_ _)); refine blk_put (cs := #[.int .i64 0, .slice none 0 0]) ?_ 0 _ rfl; (with_reducible repeat (first | refine blk_drewN ?_ _ | refine blk_drew ?_ | refine blk_alloc ?_ _)); exact BK388.out) Try.underlying26 rfl (by kernel_rfl)) rfl ?_
   exact ⟨_, by first | rfl | (simp [errW_none, errW_some] <;> rfl) | (simp [*, errW_none, errW_some] <;> rfl), by (with_reducible repeat (first | apply Kd.R_alloc | apply Kd.R_drewN | apply Kd.R_drew)); exact Kd.R_mono (Kd.R_far (p := ⟨gb388, 1, none⟩) (Kd.R_far (p := ⟨gb388, 0, none⟩) (Kd.R_types HO394.out BK388.out (by decide)) (fun _ hk => hk.2) (.int .i64 t391)) (fun _ hk => hk.2) (.slice Ao13 t392.length co13)) (fun _ hk => trivial), bS⟩
 ·replace c4 := Bool.eq_false_iff.mpr c4
  subst c4
  have H1 : ((impl_NewCache.f).bind fun bt395 => (some (bt395.1, bt395.2))) = some (r1, r2) := by rw [if_neg (show ¬ (false = true) by decide)] at H; exact H
  clear H
  have H := H1
  clear H1
  replace H := Option.bind_eq_some_iff.mp H
  obtain ⟨⟨t395, t396⟩, A140, H⟩ := H
  replace H : (some (t395, t396)) = some (r1, r2) := H
  have A14 := Aside0.mk A140
  clear A140
  simp only [Option.some.injEq, Prod.mk.injEq] at H
  obtain ⟨rfl, rfl⟩ := H
  go_enter Try.func10, Try.ntmps10
  go_wp2_with (first | ((with_reducible refine gate_dst (N := 4) rfl ?_); refine box_event ?hg (N := 4) ?hd (cs := #[.int .i64 0, .slice none 0 0]) (t := 26) ?hr ?_; (case hd => rfl); (case hg => rfl); (case hr => first | (go_simp; done) | (go_simp; rfl)); intro gb388 hg w15 hbox hb; have n0_ := Aside0.mk (below_step bH hb); have n1_ := Aside0.mk (hbox); have n2_ := Aside0.mk ((bZ hg : w.heap.size ≤ gb388)); have n3_ := Aside0.mk ((bZ hg : w.heap.size ≤ gb388)); clear HB; have HB := n0_; have BK388 := n1_; have GW388 := n2_; have GE388 := n3_; clear n0_ n1_ n2_ n3_; clear hb hbox hg) | ((with_reducible refine gate_callee (f := 28) rfl ?_); refine goesL_ (some 6) rfl rfl Try.func28 (by kernel_rfl) rfl #[.int .i64 a0] rfl eA ?_; (with_reducible refine (impl_isTime.calls a0 false _ A3.out).mono ?_); rintro e w' ⟨rfl, ⟨nd, rfl⟩⟩; refine ⟨_, rfl, ?_⟩; (try (rw [drewN_self w15]; generalize hq_ : World.drewN w15 _ = w15; have n0_ : Aside0 (w15.heap[gb388]? = some (.cells #[.int .i64 0, .slice none 0 0] 26 (0, 0))) := ⟨by rw [← hq_]; exact (kB BK388.out)⟩; have n1_ : Aside0 (Below w.heap.size w w15) := ⟨by rw [← hq_]; exact bS⟩; clear BK388 HB hq_; have BK388 := n0_; have HB := n1_; clear n0_ n1_))) | ((with_reducible refine gate_callee (f := 37) rfl ?_); refine goesL_ (some 13) rfl rfl Try.func37 (by kernel_rfl) rfl #[] rfl eA ?_; (with_reducible refine (impl_NewCache.calls  t395 t396 _ A14.out).mono ?_); rintro e w16 ⟨v397, rfl, ho0, hb⟩; refine ⟨_, rfl, ?_⟩; have n0_ := Aside0.mk (Kd.R_lower ho0 (below_size bS)); have n1_ := Aside0.mk (blk_below (kB BK388.out) hb); have n2_ := Aside0.mk (below_step bS hb); clear BK388; clear HB; have HO398 := n0_; have BK388 := n1_; have HB := n2_; clear n0_ n1_ n2_; (try clear hb); (try clear hb2); (try clear hk); (try clear hi); (try clear ho0); have hcz17_0 : w16.cell? ⟨gb388, 0, none⟩ = some (.int .i64 0) := (blk_cell BK388.out 0).trans rfl; have hcz17_1 : w16.cell? ⟨gb388, 1, none⟩ = some (.slice none 0 0) := (blk_cell BK388.out 1).trans rfl; have hfz17_0 := blk_frozen BK388.out 0; have hfz17_1 := blk_frozen BK388.out 1; obtain ⟨Ao18, co18, eo18⟩ := Kd.R_slice HO398.out; subst eo18))
  refine bodyPost_ret (results_cell_row rfl _ _ gb388 26 #[.int .i64 t395, .slice Ao18 t396.length co18] (0, 0) _ rfl (by (with_reducible repeat (first | refine blk_drewN ?_ _ | refine blk_drew ?_ | refine blk_alloc ?_ _)); refine blk_put (cs := #[.int .i64 t395, .slice none 0 0]) ?_ 1 _ rfl; (with_reducible repeat (first | refine blk_drewN ?_ _ | refine blk_drew ?_ | refine blk_alloc ?_ _)); refine blk_put (cs := #[.int .i64 0, .slice none 0 0]) ?_ 0 _ rfl; (with_reducible repeat (first | refine blk_drewN ?_ _ | refine blk_drew ?_ | refine blk_alloc ?_ _)); exact BK388.out) Try.underlying26 rfl (by kernel_rfl)) rfl ?_
  exact ⟨_, by first | rfl | (simp [errW_none, errW_some] <;> rfl) | (simp [*, errW_none, errW_some] <;> rfl), by (with_reducible repeat (first | apply Kd.R_alloc | apply Kd.R_drewN | apply Kd.R_drew)); exact Kd.R_mono (Kd.R_far (p := ⟨gb388, 1, none⟩) (Kd.R_far (p := ⟨gb388, 0, none⟩) (Kd.R_types HO398.out BK388.out (by decide)) (fun _ hk => hk.2) (.int .i64 t395)) (fun _ hk => hk.2) (.slice Ao18 t396.length co18)) (fun _ hk => trivial), bS⟩

/-! ### laws_at: function 11 -/
def laws_at.f (l0 : List Int) (a1 : Int) : Option (Int) := if a1 < (l0.length : Int) then (if 0 ≤ a1 then (some (wrap64 (rd l0 a1))) else (none)) else (some (Int.tmod (wrap64 ((wrap64 (a1 * 37)) + (wrap64 ((l0.length : Int) * 11)))) 256))
set_option maxHeartbeats 8000000 in
set_option maxRecDepth 100000 in
theorem laws_at.calls (A0 : Option Addr) (c0 : Nat) (l0 : List Int) (a1 : Int) (r : Int) (w : World) (hr0 : Kd.C (Kd.int .u8) w A0 l0.length l0) (hc0 : l0.length ≤ c0) (h : laws_at.f l0 a1 = some r) :
  Calls Try.prog 11 #[.slice A0 l0.length c0, .int .i64 a1] w fun e w' => e = .returned (.int .i64 r) ∧ Drawn0 w w' := by
 have HR0 := Aside0.mk hr0
 have HC0 := Aside0.mk hc0
 clear hr0 hc0
 have H : (if a1 < (l0.length : Int) then (if 0 ≤ a1 then (some (wrap64 (rd l0 a1))) else (none)) else (some (Int.tmod (wrap64 ((wrap64 (a1 * 37)) + (wrap64 ((l0.length : Int) * 11)))) 256))) = some r := h
 clear h
 by_cases c3 : a1 < (l0.length : Int)
 ·rw [if_pos c3] at H
  have c3b0 : decide (a1 < (l0.length : Int)) = true := decide_eq_true c3
  clear c3
  by_cases c4 : 0 ≤ a1
  ·rw [if_pos c4] at H
   have c4b0 : decide (0 ≤ a1) = true := decide_eq_true c4
   clear c4
   obtain rfl := Option.some.inj H
   have p399 : 0 ≤ (a1 : Int) := of_decide_eq_true aA
   have q399 : a1 < (l0.length : Int) := of_decide_eq_true aA
   obtain ⟨ad399, e399, hx399_0⟩ := Kd.at_int HR0.out a1 p399 q399
   cases e399
   replace p399 := eq_true p399
   replace q399 := eq_true q399
   go_enter Try.func11, Try.ntmps11
   go_wp2
   go_ret
   exact ⟨by first | rfl | (simp; done) | (simp [*]; done), by repeat (first | exact Drawn0.refl _ | apply Drawn0.step)⟩
  ·rw [if_neg c4] at H
   exact absurd H (by simp)
 ·rw [if_neg c3] at H
  have c3b0 : decide (a1 < (l0.length : Int)) = false := decide_eq_false c3
  clear c3
  obtain rfl := Option.some.inj H
  go_enter Try.func11, Try.ntmps11
  go_wp2
  go_ret
  exact ⟨by first | rfl | (simp; done) | (simp [*]; done), by repeat (first | exact Drawn0.refl _ | apply Drawn0.step)⟩

end Go.Proofs.Ytnpbafgnfdadhaa.OFnCache
-- halved
-- squeezed
