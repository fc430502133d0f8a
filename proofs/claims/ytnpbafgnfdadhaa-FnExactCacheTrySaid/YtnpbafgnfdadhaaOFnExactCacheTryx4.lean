-- walks of this claim, written by a program of mine
import Derived.Test.YtnpbafgnfdadhaaOFnExactCacheTryx0
import Derived.Test.YtnpbafgnfdadhaaOFnExactCacheTryx1
import Derived.Test.YtnpbafgnfdadhaaOFnExactCacheTryx2
import Derived.Test.YtnpbafgnfdadhaaOFnExactCacheTryx3
namespace Go.Proofs.Ytnpbafgnfdadhaa.OFnExactCacheTry
open Go.RowKit Go.Proofs.Ytnpbafgnfdadhaa.OWord Go.Proofs.YtnpbafgnfdadhaaW.PrintWords Go.Proofs.YtnpbafgnfdadhaaW.PrintLast Go.Proofs.YtnpbafgnfdadhaaW.PrintMore
attribute [local go_sem] max2_int min2_int max_two min_two max_three min_three max_four min_four   -- for this text's walks alone
set_option linter.unusedVariables false
set_option linter.unusedSimpArgs false

attribute [local go_sem high] eqA28
/-! ### impl_CacheTry: function 7 -/
mutual
def impl_CacheTry.l0 : Nat → Int → Int → List (S28) → List (S28) → Int → Int → Int → List (S28) → Int → Int → Int → Int → List (S28) → Option (Int × (List (S28)) × Int)
 | 0, _, _, _, _, _, _, _, _, _, _, _, _, _ => none
 | k + 1, x2, x3, x11, x22, x23, x24, x128000, x128001, x129000, x129001, x129002, x136000, x136001 => if x24 < x23 then (if 0 ≤ x24 then (if x24 < (x22.length : Int) then (if ((rd_T28 x22 x24).f1) ≥ (wrap64 (x2 - x3)) then (if x11.length < 5864062014805 then (impl_CacheTry.l0 k x2 x3 (x11 ++ [(⟨(rd_T28 x22 x24).f0, (rd_T28 x22 x24).f1, (rd_T28 x22 x24).f2⟩ : S28)]) x22 x23 (wrap64 (x24 + 1)) x128000 x128001 x129000 x129001 x129002 x136000 x136001) else (none)) else (impl_CacheTry.l0 k x2 x3 x11 x22 x23 (wrap64 (x24 + 1)) x128000 x128001 x129000 x129001 x129002 x136000 x136001)) else (none)) else (none)) else ((impl_authOk.f x129000 x129001 x129002).bind fun t144 => (if t144 = true then ((impl_isTime.f x2).bind fun t145 => (if t145 = true then ((impl_isSkew.f x3).bind fun t146 => (impl_CacheTry.j1 k x2 x3 x11 (!t146) x128000 x128001 x129000 x129001 x129002 x136000 x136001)) else (impl_CacheTry.j1 k x2 x3 x11 true x128000 x128001 x129000 x129001 x129002 x136000 x136001))) else (impl_CacheTry.j1 k x2 x3 x11 true x128000 x128001 x129000 x129001 x129002 x136000 x136001)))
def impl_CacheTry.j1 : Nat → Int → Int → List (S28) → Bool → Int → List (S28) → Int → Int → Int → Int → List (S28) → Option (Int × (List (S28)) × Int)
 | 0, _, _, _, _, _, _, _, _, _, _, _ => none
 | k + 1, x2, x3, x11, x39, x128000, x128001, x129000, x129001, x129002, x136000, x136001 => if x39 = true then (some (x136000, x136001, 1)) else ((impl_apart.f x2 x129001).bind fun t147 => (if t147 > x3 then (some (x136000, x136001, 2)) else (if x2 ≤ x128000 then (some (x136000, x136001, 3)) else ((impl_Auth_31.f k x128001 x129000 x129001 x129002).bind fun t148 => (if t148 = true then (some (x136000, x136001, 4)) else (if (x11.length : Int) = 6 then (some (x136000, x136001, 5)) else (if x11.length < 5864062014805 then (some (x136000, (x11 ++ [(⟨x129000, x129001, x129002⟩ : S28)]), 0)) else (none))))))))
end
def impl_CacheTry.f (k : Nat) (a0_0 : Int) (l0_1 : List (S28)) (a1_0 : Int) (a1_1 : Int) (a1_2 : Int) (a2 : Int) (a3 : Int) : Option (Int × (List (S28)) × Int) := (impl_CacheOk.f k a0_0 l0_1).bind fun t130 => (if t130 = true then ((impl_copyCache.f a0_0 l0_1).bind fun bt131 => (impl_CacheTry.l0 k a2 a3 (([] : List (S28))) l0_1 (l0_1.length : Int) 0 a0_0 l0_1 a1_0 a1_1 a1_2 bt131.1 bt131.2)) else (some (0, ([] : List (S28)), 1)))
theorem impl_CacheTry.mono_l : ∀ k, (∀ y0 y1 y2 y3 y4 y5 y6 y7 y8 y9 y10 y11 y12, LeO (impl_CacheTry.l0 k y0 y1 y2 y3 y4 y5 y6 y7 y8 y9 y10 y11 y12) (impl_CacheTry.l0 (k + 1) y0 y1 y2 y3 y4 y5 y6 y7 y8 y9 y10 y11 y12)) ∧ (∀ y0 y1 y2 y3 y4 y5 y6 y7 y8 y9 y10, LeO (impl_CacheTry.j1 k y0 y1 y2 y3 y4 y5 y6 y7 y8 y9 y10) (impl_CacheTry.j1 (k + 1) y0 y1 y2 y3 y4 y5 y6 y7 y8 y9 y10))
 | 0 => ⟨fun _ _ _ _ _ _ _ _ _ _ _ _ _ r h => by simp [impl_CacheTry.l0] at h, fun _ _ _ _ _ _ _ _ _ _ _ r h => by simp [impl_CacheTry.j1] at h⟩
 | k + 1 => by
  obtain ⟨ih0, ih1⟩ := impl_CacheTry.mono_l k
  refine ⟨?_, ?_⟩
  ·intro y0 y1 y2 y3 y4 y5 y6 y7 y8 y9 y10 y11 y12
   unfold impl_CacheTry.l0
   repeat' first
   | (with_reducible exact ih0 _ _ _ _ _ _ _ _ _ _ _ _ _)
   | (with_reducible exact ih1 _ _ _ _ _ _ _ _ _ _ _)
   | (with_reducible exact impl_Auth_31.mono _ _ _ _ _)
   | (with_reducible exact impl_CacheOk.mono _ _ _)
   | (with_reducible exact LeO.refl _)
   | (with_reducible exact LeO.none _)
   | (with_reducible refine LeO.ite ?_ ?_)
   | (with_reducible refine LeO.bind ?_ (fun _ => ?_))
   | exact ih0 _ _ _ _ _ _ _ _ _ _ _ _ _
   | exact ih1 _ _ _ _ _ _ _ _ _ _ _
   | exact impl_Auth_31.mono _ _ _ _ _
   | exact impl_CacheOk.mono _ _ _
   | exact LeO.none _
   | refine LeO.ite ?_ ?_
   | refine LeO.bind ?_ (fun _ => ?_)
  ·intro y0 y1 y2 y3 y4 y5 y6 y7 y8 y9 y10
   unfold impl_CacheTry.j1
   repeat' first
   | (with_reducible exact ih0 _ _ _ _ _ _ _ _ _ _ _ _ _)
   | (with_reducible exact ih1 _ _ _ _ _ _ _ _ _ _ _)
   | (with_reducible exact impl_Auth_31.mono _ _ _ _ _)
   | (with_reducible exact impl_CacheOk.mono _ _ _)
   | (with_reducible exact LeO.refl _)
   | (with_reducible exact LeO.none _)
   | (with_reducible refine LeO.ite ?_ ?_)
   | (with_reducible refine LeO.bind ?_ (fun _ => ?_))
   | exact ih0 _ _ _ _ _ _ _ _ _ _ _ _ _
   | exact ih1 _ _ _ _ _ _ _ _ _ _ _
   | exact impl_Auth_31.mono _ _ _ _ _
   | exact impl_CacheOk.mono _ _ _
   | exact LeO.none _
   | refine LeO.ite ?_ ?_
   | refine LeO.bind ?_ (fun _ => ?_)
theorem impl_CacheTry.mono : ∀ a0 a1 a2 a3 a4 a5 a6 k, LeO (impl_CacheTry.f k a0 a1 a2 a3 a4 a5 a6) (impl_CacheTry.f (k + 1) a0 a1 a2 a3 a4 a5 a6) := by
 intro a0 a1 a2 a3 a4 a5 a6 k
 obtain ⟨ih0, ih1⟩ := impl_CacheTry.mono_l k
 unfold impl_CacheTry.f
 repeat' first
   | (with_reducible exact ih0 _ _ _ _ _ _ _ _ _ _ _ _ _)
   | (with_reducible exact ih1 _ _ _ _ _ _ _ _ _ _ _)
   | (with_reducible exact impl_Auth_31.mono _ _ _ _ _)
   | (with_reducible exact impl_CacheOk.mono _ _ _)
   | (with_reducible exact LeO.refl _)
   | (with_reducible exact LeO.none _)
   | (with_reducible refine LeO.ite ?_ ?_)
   | (with_reducible refine LeO.bind ?_ (fun _ => ?_))
   | exact ih0 _ _ _ _ _ _ _ _ _ _ _ _ _
   | exact ih1 _ _ _ _ _ _ _ _ _ _ _
   | exact impl_Auth_31.mono _ _ _ _ _
   | exact impl_CacheOk.mono _ _ _
   | exact LeO.none _
   | refine LeO.ite ?_ ?_
   | refine LeO.bind ?_ (fun _ => ?_)
set_option maxHeartbeats 8000000 in
set_option maxRecDepth 100000 in
theorem impl_CacheTry.calls (k : Nat) (a0_0 : Int) (A0_1 : Option Addr) (c0_1 : Nat) (l0_1 : List (S28)) (a1_0 : Int) (a1_1 : Int) (a1_2 : Int) (a2 : Int) (a3 : Int) (r1 : Int) (r2 : List (S28)) (r3 : Int) (w : World) (hr0_1 : Kd.C k28 w A0_1 l0_1.length l0_1) (hc0_1 : l0_1.length ≤ c0_1) (h : impl_CacheTry.f k a0_0 l0_1 a1_0 a1_1 a1_2 a2 a3 = some (r1, r2, r3)) :
  Calls Try.prog 7 #[.agg #[.int .i64 a0_0, .slice A0_1 l0_1.length c0_1], .agg #[.int .i64 a1_0, .int .i64 a1_1, .int .i64 a1_2], .int .i64 a2, .int .i64 a3] w fun e w' => ∃ v1_ : Value, e = .returned (.tuple #[.agg #[.int .i64 r1, v1_], .int .i64 r3]) ∧ Kd.R k28 28 w' w.heap.size (fun _ => True) v1_ r2 ∧ Below w.heap.size w w' := by
 have hu26 := Try.underlying26
 have hu28 := Try.underlying28
 have HR0_1 := Aside0.mk hr0_1
 have HC0_1 := Aside0.mk hc0_1
 clear hr0_1 hc0_1
 have HB := Aside0.mk (Below.refl w.heap.size w)
 have H : ((impl_CacheOk.f k a0_0 l0_1).bind fun t130 => (if t130 = true then ((impl_copyCache.f a0_0 l0_1).bind fun bt131 => (impl_CacheTry.l0 k a2 a3 (([] : List (S28))) l0_1 (l0_1.length : Int) 0 a0_0 l0_1 a1_0 a1_1 a1_2 bt131.1 bt131.2)) else (some (0, ([] : List (S28)), 1)))) = some (r1, r2, r3) := h
 clear h
 replace H := Option.bind_eq_some_iff.mp H
 obtain ⟨t130, A50, H⟩ := H
 replace H : (if t130 = true then ((impl_copyCache.f a0_0 l0_1).bind fun bt131 => (impl_CacheTry.l0 k a2 a3 (([] : List (S28))) l0_1 (l0_1.length : Int) 0 a0_0 l0_1 a1_0 a1_1 a1_2 bt131.1 bt131.2)) else (some (0, ([] : List (S28)), 1))) = some (r1, r2, r3) := H
 have A5 := Aside0.mk A50
 clear A50
 by_cases c6 : t130 = true
 ·subst c6
  have H1 : ((impl_copyCache.f a0_0 l0_1).bind fun bt131 => (impl_CacheTry.l0 k a2 a3 (([] : List (S28))) l0_1 (l0_1.length : Int) 0 a0_0 l0_1 a1_0 a1_1 a1_2 bt131.1 bt131.2)) = some (r1, r2, r3) := by rw [if_pos rfl] at H; exact H
  clear H
  have H := H1
  clear H1
  replace H := Option.bind_eq_some_iff.mp H
  obtain ⟨⟨t131, t132⟩, A70, H⟩ := H
  replace H : (impl_CacheTry.l0 k a2 a3 (([] : List (S28))) l0_1 (l0_1.length : Int) 0 a0_0 l0_1 a1_0 a1_1 a1_2 t131 t132) = some (r1, r2, r3) := H
  have A7 := Aside0.mk A70
  clear A70
  obtain ⟨y136, hy136⟩ : ∃ y_ : List (S28), y_ = (([] : List (S28))) := ⟨_, rfl⟩
  replace H : (impl_CacheTry.l0 k a2 a3 y136 l0_1 (l0_1.length : Int) 0 a0_0 l0_1 a1_0 a1_1 a1_2 t131 t132) = some (r1, r2, r3) := by first | (rw [hy136]; with_reducible exact H) | (have H2_ := (Option.bind_some _ _).symm.trans H; rw [hy136]; with_reducible exact H2_) | (have H2_ := (Option.bind_some _ _).symm.trans H; with_reducible exact H2_) | with_reducible exact H | (rw [hy136]; exact H) | exact H
  have Ny136 := Aside0.mk hy136
  clear hy136
  have H' := Aside0.mk H
  clear H
  go_enter Try.func7, Try.ntmps7
  go_wp2_with (first | ((with_reducible refine gate_dst (N := 4) rfl ?_); refine box_event ?hg (N := 4) ?hd (cs := #[.int .i64 a0_0, .slice A0_1 l0_1.length c0_1]) (t := 26) ?hr ?_; (case hd => rfl); (case hg => rfl); (case hr => first | (go_simp; done) | (go_simp; rfl)); intro gb127 hg w8 hbox hb; have n0_ := Aside0.mk (below_step bH hb); have n1_ := Aside0.mk (hbox); have n2_ := Aside0.mk ((bZ hg : w.heap.size ≤ gb127)); have n3_ := Aside0.mk ((bZ hg : w.heap.size ≤ gb127)); clear HB; have HB := n0_; have BK127 := n1_; have GW127 := n2_; have GE127 := n3_; clear n0_ n1_ n2_ n3_; clear hb hbox hg) | ((with_reducible refine gate_dst (N := 5) rfl ?_); refine box_event ?hg (N := 5) ?hd (cs := #[.int .i64 a1_0, .int .i64 a1_1, .int .i64 a1_2]) (t := 28) ?hr ?_; (case hd => rfl); (case hg => rfl); (case hr => first | (go_simp; done) | (go_simp; rfl)); intro gb128 hg w9 hbox hb; have n0_ := Aside0.mk (blk_below (kB BK127.out) hb); have n1_ := Aside0.mk (below_step bS hb); have n2_ := Aside0.mk (hbox); have n3_ := Aside0.mk ((bZ hg : w.heap.size ≤ gb128)); have n4_ := Aside0.mk ((bZ hg : w.heap.size ≤ gb128)); have n5_ := Aside0.mk ((nL hg BK127.out : gb127 ≠ gb128)); have n6_ := Aside0.mk ((nG hg BK127.out : gb128 ≠ gb127)); clear BK127; clear HB; have BK127 := n0_; have HB := n1_; have BK128 := n2_; have GW128 := n3_; have GE128 := n4_; have NB127_128 := n5_; have NB128_127 := n6_; clear n0_ n1_ n2_ n3_ n4_ n5_ n6_; clear hb hbox hg) | ((with_reducible refine gate_dst (N := 8) rfl ?_); refine box_event ?hg (N := 8) ?hd (cs := #[.int .i64 0, .slice none 0 0]) (t := 26) ?hr ?_; (case hd => rfl); (case hg => rfl); (case hr => first | (go_simp; done) | (go_simp; rfl)); intro gb129 hg w10 hbox hb; have n0_ := Aside0.mk (blk_below (kB BK127.out) hb); have n1_ := Aside0.mk (blk_below (kB BK128.out) hb); have n2_ := Aside0.mk (below_step bS hb); have n3_ := Aside0.mk (hbox); have n4_ := Aside0.mk ((bZ hg : w.heap.size ≤ gb129)); have n5_ := Aside0.mk ((bZ hg : w.heap.size ≤ gb129)); have n6_ := Aside0.mk ((nL hg BK127.out : gb127 ≠ gb129)); have n7_ := Aside0.mk ((nG hg BK127.out : gb129 ≠ gb127)); have n8_ := Aside0.mk ((nL hg BK128.out : gb128 ≠ gb129)); have n9_ := Aside0.mk ((nG hg BK128.out : gb129 ≠ gb128)); clear BK127; clear BK128; clear HB; have BK127 := n0_; have BK128 := n1_; have HB := n2_; have BK129 := n3_; have GW129 := n4_; have GE129 := n5_; have NB127_129 := n6_; have NB129_127 := n7_; have NB128_129 := n8_; have NB129_128 := n9_; clear n0_ n1_ n2_ n3_ n4_ n5_ n6_ n7_ n8_ n9_; clear hb hbox hg; have hnb11 := NB127_128.out; have hnc11 := NB128_127.out; have hnb12 := NB127_129.out; have hnc12 := NB129_127.out; have hcz13_0 : w10.cell? ⟨gb127, 0, none⟩ = some (.int .i64 a0_0) := (blk_cell BK127.out 0).trans rfl; have hcz13_1 : w10.cell? ⟨gb127, 1, none⟩ = some (.slice A0_1 l0_1.length c0_1) := (blk_cell BK127.out 1).trans rfl; have hfz13_0 := blk_frozen BK127.out 0; have hfz13_1 := blk_frozen BK127.out 1) | ((with_reducible refine gate_callee (f := 25) rfl ?_); refine goesL_ (some 15) rfl rfl Try.func25 (by kernel_rfl) rfl #[.agg #[.int .i64 a0_0, .slice A0_1 l0_1.length c0_1]] rfl eA ?_; (with_reducible refine (impl_CacheOk.calls k a0_0 _ _ l0_1 true _ ?side1 ?side2 A5.out).mono ?_); (case side1 => repeat (first | exact (Kd.C_below HR0_1.out HB.out) | (with_reducible refine Kd.C_alloc ?_ _) | (with_reducible refine Kd.C_drewN ?_ _) | (with_reducible refine Kd.C_drew ?_))); (case side2 => exact HC0_1.out); rintro e w14 ⟨rfl, hb⟩; refine ⟨_, rfl, ?_⟩; have n0_ := Aside0.mk (blk_below (kB BK127.out) hb); have n1_ := Aside0.mk (blk_below (kB BK128.out) hb); have n2_ := Aside0.mk (blk_below (kB BK129.out) hb); have n3_ := Aside0.mk (below_step bS hb); clear BK127; clear BK128; clear BK129; clear HB; have BK127 := n0_; have BK128 := n1_; have BK129 := n2_; have HB := n3_; clear n0_ n1_ n2_ n3_; (try clear hb); (try clear hb2); (try clear hk); (try clear hi); have hcz15_0 : w14.cell? ⟨gb127, 0, none⟩ = some (.int .i64 a0_0) := (blk_cell BK127.out 0).trans rfl; have hcz15_1 : w14.cell? ⟨gb127, 1, none⟩ = some (.slice A0_1 l0_1.length c0_1) := (blk_cell BK127.out 1).trans rfl; have hfz15_0 := blk_frozen BK127.out 0; have hfz15_1 := blk_frozen BK127.out 1) | ((with_reducible refine gate_callee (f := 26) rfl ?_); refine goesL_ (some 19) rfl rfl Try.func26 (by kernel_rfl) rfl #[.agg #[.int .i64 a0_0, .slice A0_1 l0_1.length c0_1]] rfl eA ?_; (with_reducible refine (impl_copyCache.calls a0_0 _ _ l0_1 t131 t132 _ ?side1 ?side2 A7.out).mono ?_); (case side1 => repeat (first | exact (Kd.C_below HR0_1.out HB.out) | (with_reducible refine Kd.C_alloc ?_ _) | (with_reducible refine Kd.C_drewN ?_ _) | (with_reducible refine Kd.C_drew ?_))); (case side2 => exact HC0_1.out); rintro e w16 ⟨v133, rfl, ho0, hb⟩; refine ⟨_, rfl, ?_⟩; have n0_ := Aside0.mk (Kd.R_lower (Kd.R_newB ho0 (g := gb128) (o := .cells #[.int .i64 a1_0, .int .i64 a1_1, .int .i64 a1_2] 28 (0, 0)) (kB BK128.out)) (below_size bS)); have n1_ := Aside0.mk (blk_below (kB BK127.out) hb); have n2_ := Aside0.mk (blk_below (kB BK128.out) hb); have n3_ := Aside0.mk (blk_below (kB BK129.out) hb); have n4_ := Aside0.mk (below_step bS hb); clear BK127; clear BK128; clear BK129; clear HB; have HO134 := n0_; have BK127 := n1_; have BK128 := n2_; have BK129 := n3_; have HB := n4_; clear n0_ n1_ n2_ n3_ n4_; (try clear hb); (try clear hb2); (try clear hk); (try clear hi); (try clear ho0)) | ((with_reducible refine gate_dst (N := 10) rfl ?_); refine box_event ?hg (N := 10) ?hd (cs := #[.int .i64 0, .slice none 0 0]) (t := 26) ?hr ?_; (case hd => rfl); (case hg => rfl); (case hr => first | (go_simp; done) | (go_simp; rfl)); intro gb135 hg w17 hbox hb; have n0_ := Aside0.mk (Kd.R_below (kR HO134.out) hb); have n1_ := Aside0.mk (blk_below (kB BK127.out) hb); have n2_ := Aside0.mk (blk_below (kB BK128.out) hb); have n3_ := Aside0.mk (blk_below (kB BK129.out) hb); have n4_ := Aside0.mk (below_step bS hb); have n5_ := Aside0.mk (hbox); have n6_ := Aside0.mk ((bZ hg : w.heap.size ≤ gb135)); have n7_ := Aside0.mk ((bZ hg : w.heap.size ≤ gb135)); have n8_ := Aside0.mk ((nL hg BK127.out : gb127 ≠ gb135)); have n9_ := Aside0.mk ((nG hg BK127.out : gb135 ≠ gb127)); have n10_ := Aside0.mk ((nL hg BK128.out : gb128 ≠ gb135)); have n11_ := Aside0.mk ((nG hg BK128.out : gb135 ≠ gb128)); have n12_ := Aside0.mk ((nL hg BK129.out : gb129 ≠ gb135)); have n13_ := Aside0.mk ((nG hg BK129.out : gb135 ≠ gb129)); clear HO134; clear BK127; clear BK128; clear BK129; clear HB; have HO134 := n0_; have BK127 := n1_; have BK128 := n2_; have BK129 := n3_; have HB := n4_; have BK135 := n5_; have GW135 := n6_; have GE135 := n7_; have NB127_135 := n8_; have NB135_127 := n9_; have NB128_135 := n10_; have NB135_128 := n11_; have NB129_135 := n12_; have NB135_129 := n13_; clear n0_ n1_ n2_ n3_ n4_ n5_ n6_ n7_ n8_ n9_ n10_ n11_ n12_ n13_; clear hb hbox hg; have hnb18 := NB135_127.out; have hnc18 := NB127_135.out; have hnb19 := NB135_128.out; have hnc19 := NB128_135.out; have hnb20 := NB135_129.out; have hnc20 := NB129_135.out; have hcz21_0 : w17.cell? ⟨gb135, 0, none⟩ = some (.int .i64 0) := (blk_cell BK135.out 0).trans rfl; have hcz21_1 : w17.cell? ⟨gb135, 1, none⟩ = some (.slice none 0 0) := (blk_cell BK135.out 1).trans rfl; have hfz21_0 := blk_frozen BK135.out 0; have hfz21_1 := blk_frozen BK135.out 1; obtain ⟨Ao22, co22, eo22⟩ := Kd.R_slice HO134.out; subst eo22) | ((with_reducible refine gate_dst (N := 20) rfl ?_); refine Kd.R_lit k28 _ 28 ?hg (N := 20) ?hd (xs := ([] : List (S28))) (inner := []) (ok := fun _ => True) (okp := fun _ => True) ?hr ?hp (fun _ hk => hk) trivial (Below.refl _ _) (Nat.le_refl _) (by simp) ?_; (case hd => rfl); (case hg => rfl); (case hr => first | (go_simp; done) | (go_simp; rfl)); (case hp => exact (Reps.none _ _)); intro v137 w23 ho24 hb hg_ hnew_; clear hg_ hnew_; (first | rw [← Ny136.out] at ho24 | (simp only [Int.reduceToNat] at ho24; rw [← Ny136.out] at ho24)); have n0_ := Aside0.mk (Kd.R_elder' (by (with_reducible repeat (first | apply Kd.R_alloc | apply Kd.R_drewN | apply Kd.R_drew)); exact (Kd.R_mono (Kd.R_far (p := ⟨gb135, 1, none⟩) (Kd.R_far (p := ⟨gb135, 0, none⟩) (Kd.R_types HO134.out BK135.out (by decide)) (fun _ hk => hk.2) (.int .i64 t131)) (fun _ hk => hk.2) (.slice Ao22 t132.length co22)) (fun _ h_ => h_.1))) (Kd.R_base ho24) hb); have n1_ := Aside0.mk (Kd.R_lower (Kd.R_newB (Kd.R_new' ho24 (Kd.R_lt (by (with_reducible repeat (first | apply Kd.R_alloc | apply Kd.R_drewN | apply Kd.R_drew)); exact (Kd.R_mono (Kd.R_far (p := ⟨gb135, 1, none⟩) (Kd.R_far (p := ⟨gb135, 0, none⟩) (Kd.R_types HO134.out BK135.out (by decide)) (fun _ hk => hk.2) (.int .i64 t131)) (fun _ hk => hk.2) (.slice Ao22 t132.length co22)) (fun _ h_ => h_.1))))) (g := gb128) (o := .cells #[.int .i64 a1_0, .int .i64 a1_1, .int .i64 a1_2] 28 (0, 0)) (by (with_reducible repeat (first | refine blk_drewN ?_ _ | refine blk_drew ?_ | refine blk_alloc ?_ _)); refine blk_far ?_ NB128_135.out _; (with_reducible repeat (first | refine blk_drewN ?_ _ | refine blk_drew ?_ | refine blk_alloc ?_ _)); refine blk_far ?_ NB128_135.out _; (with_reducible repeat (first | refine blk_drewN ?_ _ | refine blk_drew ?_ | refine blk_alloc ?_ _)); exact BK128.out)) (below_size bS)); have n2_ := Aside0.mk (blk_below (g := gb127) (o := .cells #[.int .i64 a0_0, .slice A0_1 l0_1.length c0_1] 26 (0, 0)) (by (with_reducible repeat (first | refine blk_drewN ?_ _ | refine blk_drew ?_ | refine blk_alloc ?_ _)); refine blk_far ?_ NB127_135.out _; (with_reducible repeat (first | refine blk_drewN ?_ _ | refine blk_drew ?_ | refine blk_alloc ?_ _)); refine blk_far ?_ NB127_135.out _; (with_reducible repeat (first | refine blk_drewN ?_ _ | refine blk_drew ?_ | refine blk_alloc ?_ _)); exact BK127.out) hb); have n3_ := Aside0.mk (blk_below (g := gb128) (o := .cells #[.int .i64 a1_0, .int .i64 a1_1, .int .i64 a1_2] 28 (0, 0)) (by (with_reducible repeat (first | refine blk_drewN ?_ _ | refine blk_drew ?_ | refine blk_alloc ?_ _)); refine blk_far ?_ NB128_135.out _; (with_reducible repeat (first | refine blk_drewN ?_ _ | refine blk_drew ?_ | refine blk_alloc ?_ _)); refine blk_far ?_ NB128_135.out _; (with_reducible repeat (first | refine blk_drewN ?_ _ | refine blk_drew ?_ | refine blk_alloc ?_ _)); exact BK128.out) hb); have n4_ := Aside0.mk (blk_below (g := gb129) (o := .cells #[.int .i64 0, .slice none 0 0] 26 (0, 0)) (by (with_reducible repeat (first | refine blk_drewN ?_ _ | refine blk_drew ?_ | refine blk_alloc ?_ _)); refine blk_far ?_ NB129_135.out _; (with_reducible repeat (first | refine blk_drewN ?_ _ | refine blk_drew ?_ | refine blk_alloc ?_ _)); refine blk_far ?_ NB129_135.out _; (with_reducible repeat (first | refine blk_drewN ?_ _ | refine blk_drew ?_ | refine blk_alloc ?_ _)); exact BK129.out) hb); have n5_ := Aside0.mk (blk_below (g := gb135) (o := .cells #[.int .i64 t131, .slice Ao22 t132.length co22] 26 (0, 0)) (by (with_reducible repeat (first | refine blk_drewN ?_ _ | refine blk_drew ?_ | refine blk_alloc ?_ _)); refine blk_put (cs := #[.int .i64 t131, .slice none 0 0]) ?_ 1 _ rfl; (with_reducible repeat (first | refine blk_drewN ?_ _ | refine blk_drew ?_ | refine blk_alloc ?_ _)); refine blk_put (cs := #[.int .i64 0, .slice none 0 0]) ?_ 0 _ rfl; (with_reducible repeat (first | refine blk_drewN ?_ _ | refine blk_drew ?_ | refine blk_alloc ?_ _)); exact BK135.out) hb); have n6_ := Aside0.mk (below_step bS hb); clear HO134; clear BK127; clear BK128; clear BK129; clear BK135; clear HB; have HO134 := n0_; have HO138 := n1_; have BK127 := n2_; have BK128 := n3_; have BK129 := n4_; have BK135 := n5_; have HB := n6_; clear n0_ n1_ n2_ n3_ n4_ n5_ n6_; clear hb ho24; have hcz25_0 : w23.cell? ⟨gb127, 0, none⟩ = some (.int .i64 a0_0) := (blk_cell BK127.out 0).trans rfl; have hcz25_1 : w23.cell? ⟨gb127, 1, none⟩ = some (.slice A0_1 l0_1.length c0_1) := (blk_cell BK127.out 1).trans rfl; have hfz25_0 := blk_frozen BK127.out 0; have hfz25_1 := blk_frozen BK127.out 1))
  go_loopg [11, 24] k (fun kq v11 v24 w' => ∃ (x11_1 : List (S28)) (x24_1 : Int), v24 = .int .i64 x24_1 ∧ Aside0 (impl_CacheTry.l0 kq a2 a3 x11_1 l0_1 (l0_1.length : Int) x24_1 a0_0 l0_1 a1_0 a1_1 a1_2 t131 t132 = some (r1, r2, r3)) ∧ Aside0 (kq ≤ k) ∧ Aside0 (Kd.R k28 28 w' w.heap.size (fun k_ => some k_ ≠ ((.slice Ao22 t132.length co22) : Value).ownBlock ∧ k_ ≠ gb128) v11 x11_1) ∧ Aside0 (Kd.R k28 28 w' w.heap.size (fun k_ => some k_ ≠ (v11 : Value).ownBlock ∧ k_ ≠ gb128) (.slice Ao22 t132.length co22) t132) ∧ Aside0 (w'.heap[gb127]? = some (.cells #[.int .i64 a0_0, (.slice A0_1 l0_1.length c0_1)] 26 (0, 0))) ∧ Aside0 (w'.heap[gb128]? = some (.cells #[.int .i64 a1_0, .int .i64 a1_1, .int .i64 a1_2] 28 (0, 0))) ∧ Aside0 (w'.heap[gb129]? = some (.cells #[.int .i64 0, (.slice none 0 0)] 26 (0, 0))) ∧ Aside0 (w'.heap[gb135]? = some (.cells #[.int .i64 t131, (.slice Ao22 t132.length co22)] 26 (0, 0))) ∧ Aside0 (Below w.heap.size w w'))
  case atStart => exact ⟨(y136), (0), eX, H', ⟨Nat.le_refl _⟩, ⟨by (with_reducible repeat (first | apply Kd.R_alloc | apply Kd.R_drewN | apply Kd.R_drew)); exact Kd.R_mono HO138.out (fun _ hk => ⟨hk.1.2, hk.2⟩)⟩, ⟨by (with_reducible repeat (first | apply Kd.R_alloc | apply Kd.R_drewN | apply Kd.R_drew)); exact Kd.R_mono HO134.out (fun _ hk => ⟨hk.2, hk.1.2⟩)⟩, ⟨by (with_reducible repeat (first | refine blk_drewN ?_ _ | refine blk_drew ?_ | refine blk_alloc ?_ _)); exact BK127.out⟩, ⟨by (with_reducible repeat (first | refine blk_drewN ?_ _ | refine blk_drew ?_ | refine blk_alloc ?_ _)); exact BK128.out⟩, ⟨by (with_reducible repeat (first | refine blk_drewN ?_ _ | refine blk_drew ?_ | refine blk_alloc ?_ _)); exact BK129.out⟩, ⟨by (with_reducible repeat (first | refine blk_drewN ?_ _ | refine blk_drew ?_ | refine blk_alloc ?_ _)); exact BK135.out⟩, ⟨by repeat (first | (with_reducible first | exact HB.out | apply below_alloc | apply pw_below_drewN | apply below_drew1 | refine below_set ?_ GE127.out | refine below_set ?_ GE128.out | refine below_set ?_ GE129.out | refine below_set ?_ GE135.out) | exact HB.out)⟩⟩
  case round =>
   clear H'
   try clear c1
   try clear c2
   try clear p2
   try clear c6
   try clear c7
   try clear c11
   try clear c12
   try clear c18
   try clear c19
   try clear c20
   try clear c25
   try clear hcz13_0
   try clear hcz13_1
   try clear hcz15_0
   try clear hcz15_1
   try clear hcz21_0
   try clear hcz21_1
   try clear hcz25_0
   try clear hcz25_1
   try clear hfz13_0
   try clear hfz13_1
   try clear hfz15_0
   try clear hfz15_1
   try clear hfz21_0
   try clear hfz21_1
   try clear hfz25_0
   try clear hfz25_1
   obtain ⟨x11_1, x24_1, rfl, HA, HK1, HO_11, HO_136001, BK127, BK128, BK129, BK135, HB⟩ := hrel
   cases gk with
   | zero => exact absurd HA.out (by simp [impl_CacheTry.l0])
   | succ k1 =>
    have H := HA.out
    clear HA
    simp only [impl_CacheTry.l0] at H
    by_cases c26 : x24_1 < (l0_1.length : Int)
    ·rw [if_pos c26] at H
     have c26b0 : decide (x24_1 < (l0_1.length : Int)) = true := decide_eq_true c26
     clear c26
     by_cases c27 : 0 ≤ x24_1
     ·rw [if_pos c27] at H
      have c27b0 : decide (0 ≤ x24_1) = true := decide_eq_true c27
      clear c27
      by_cases c28 : x24_1 < (l0_1.length : Int)
      ·rw [if_pos c28] at H
       have c28b0 : decide (x24_1 < (l0_1.length : Int)) = true := decide_eq_true c28
       clear c28
       by_cases c29 : ((rd_T28 l0_1 x24_1).f1) ≥ (wrap64 (a2 - a3))
       ·rw [if_pos c29] at H
        have c29b0 : decide ((wrap64 (a2 - a3)) ≤ ((rd_T28 l0_1 x24_1).f1)) = true := decide_eq_true c29
        clear c29
        by_cases c30 : x11_1.length < 5864062014805
        ·rw [if_pos c30] at H
         have LMc30 := Aside0.mk c30
         clear c30
         obtain ⟨y141, hy141⟩ : ∃ y_ : List (S28), y_ = (x11_1 ++ [(⟨(rd_T28 l0_1 x24_1).f0, (rd_T28 l0_1 x24_1).f1, (rd_T28 l0_1 x24_1).f2⟩ : S28)]) := ⟨_, rfl⟩
         replace H : (impl_CacheTry.l0 k1 a2 a3 y141 l0_1 (l0_1.length : Int) (wrap64 (x24_1 + 1)) a0_0 l0_1 a1_0 a1_1 a1_2 t131 t132) = some (r1, r2, r3) := by first | (rw [hy141]; with_reducible exact H) | (have H2_ := (Option.bind_some _ _).symm.trans H; rw [hy141]; with_reducible exact H2_) | (have H2_ := (Option.bind_some _ _).symm.trans H; with_reducible exact H2_) | with_reducible exact H | (rw [hy141]; exact H) | exact H
         have Ny141 := Aside0.mk hy141
         clear hy141
         have H' := Aside0.mk H
         clear H
         have p139 : 0 ≤ (x24_1 : Int) := of_decide_eq_true aA
         have q139 : x24_1 < (l0_1.length : Int) := of_decide_eq_true aA
         obtain ⟨ad139, e139, hx139_0, hx139_1, hx139_2⟩ := at_T28 HR0_1.out x24_1 p139 q139
         cases e139
         replace hx139_0 := (HB.out.cell (World.block_lt_of_cell? w _ hx139_0)).trans hx139_0
         replace hx139_1 := (HB.out.cell (World.block_lt_of_cell? w _ hx139_1)).trans hx139_1
         replace hx139_2 := (HB.out.cell (World.block_lt_of_cell? w _ hx139_2)).trans hx139_2
         replace p139 := eq_true p139
         replace q139 := eq_true q139
         go_wp2_with (first | ((with_reducible refine gate_dst (N := 13) rfl ?_); refine box_event ?hg (N := 13) ?hd (cs := #[.int .i64 0, .int .i64 0, .int .i64 0]) (t := 28) ?hr ?_; (case hd => rfl); (case hg => rfl); (case hr => first | (go_simp; done) | (go_simp; rfl)); intro gb140 hg w31 hbox hb; have n0_ := Aside0.mk (Kd.R_below (Kd.R_elderB (kR HO_11.out) gb140 (Nat.le_of_eq hg.symm)) hb); have n1_ := Aside0.mk (Kd.R_below (Kd.R_elderB (kR HO_136001.out) gb140 (Nat.le_of_eq hg.symm)) hb); have n2_ := Aside0.mk (blk_below (kB BK127.out) hb); have n3_ := Aside0.mk (blk_below (kB BK128.out) hb); have n4_ := Aside0.mk (blk_below (kB BK129.out) hb); have n5_ := Aside0.mk (blk_below (kB BK135.out) hb); have n6_ := Aside0.mk (below_step bS hb); have n7_ := Aside0.mk (hbox); have n8_ := Aside0.mk ((bZ hg : w.heap.size ≤ gb140)); have n9_ := Aside0.mk ((bZ hg : w.heap.size ≤ gb140)); have n10_ := Aside0.mk ((nL hg BK127.out : gb127 ≠ gb140)); have n11_ := Aside0.mk ((nG hg BK127.out : gb140 ≠ gb127)); have n12_ := Aside0.mk ((nL hg BK128.out : gb128 ≠ gb140)); have n13_ := Aside0.mk ((nG hg BK128.out : gb140 ≠ gb128)); have n14_ := Aside0.mk ((nL hg BK129.out : gb129 ≠ gb140)); have n15_ := Aside0.mk ((nG hg BK129.out : gb140 ≠ gb129)); have n16_ := Aside0.mk ((nL hg BK135.out : gb135 ≠ gb140)); have n17_ := Aside0.mk ((nG hg BK135.out : gb140 ≠ gb135)); clear HO_11; clear HO_136001; clear BK127; clear BK128; clear BK129; clear BK135; clear HB; have HO_11 := n0_; have HO_136001 := n1_; have BK127 := n2_; have BK128 := n3_; have BK129 := n4_; have BK135 := n5_; have HB := n6_; have BK140 := n7_; have GW140 := n8_; have GE140 := n9_; have NB127_140 := n10_; have NB140_127 := n11_; have NB128_140 := n12_; have NB140_128 := n13_; have NB129_140 := n14_; have NB140_129 := n15_; have NB135_140 := n16_; have NB140_135 := n17_; clear n0_ n1_ n2_ n3_ n4_ n5_ n6_ n7_ n8_ n9_ n10_ n11_ n12_ n13_ n14_ n15_ n16_ n17_; clear hb hbox hg; have hnb32 := NB140_127.out; have hnc32 := NB127_140.out; have hnb33 := NB140_128.out; have hnc33 := NB128_140.out; have hnb34 := NB140_129.out; have hnc34 := NB129_140.out; have hnb35 := NB140_135.out; have hnc35 := NB135_140.out; have hcz36_0 : w31.cell? ⟨gb140, 0, none⟩ = some (.int .i64 0) := (blk_cell BK140.out 0).trans rfl; have hcz36_1 : w31.cell? ⟨gb140, 1, none⟩ = some (.int .i64 0) := (blk_cell BK140.out 1).trans rfl; have hcz36_2 : w31.cell? ⟨gb140, 2, none⟩ = some (.int .i64 0) := (blk_cell BK140.out 2).trans rfl; have hfz36_0 := blk_frozen BK140.out 0; have hfz36_1 := blk_frozen BK140.out 1; have hfz36_2 := blk_frozen BK140.out 2) | ((with_reducible refine gate_builtin (b := .append) (xs := #[.tmp 34, .tmp 36]) rfl ?_); at_builtin; refine Kd.R_append k28 (w0 := w) w.heap.size rfl (.tmp 34) (.tmp 36) 24 28 (.agg #[(.int .i64 0), (.int .i64 0), (.int .i64 0)]) 24 rfl Try.underlying24 info28 rfl (by decide) (by omega) u11 x11_1 (⟨(rd_T28 l0_1 x24_1).f0, (rd_T28 l0_1 x24_1).f1, (rd_T28 l0_1 x24_1).f2⟩ : S28) [.int .i64 ((rd_T28 l0_1 x24_1).f0), .int .i64 ((rd_T28 l0_1 x24_1).f1), .int .i64 ((rd_T28 l0_1 x24_1).f2)] (fun k_ => some k_ ≠ (.slice Ao22 t132.length co22 : Value).ownBlock ∧ k_ ≠ gb128 ∧ k_ ≠ gb140) (fun _ => False) rfl (by first | (go_simp; done) | (go_simp; rfl)) ?aP (fun _ hk => hk.elim) ?aF ?aO ?aB ?aS ?aL ?_; (case aP => exact k28_mkM _ _ _ (⟨(rd_T28 l0_1 x24_1).f0, (rd_T28 l0_1 x24_1).f1, (rd_T28 l0_1 x24_1).f2⟩ : S28)); (case aB => exact bS); (case aF => exact (fun k_ hk => ⟨Kd.fresh' (Kd.R_lt (by (with_reducible repeat (first | apply Kd.R_alloc | apply Kd.R_drewN | apply Kd.R_drew)); exact (Kd.R_mono (Kd.R_far (p := ⟨gb140, 2, none⟩) (Kd.R_far (p := ⟨gb140, 1, none⟩) (Kd.R_far (p := ⟨gb140, 0, none⟩) (Kd.R_mono HO_136001.out (fun k_ hk => (⟨hk, hk.2⟩ : _ ∧ k_ ≠ gb140))) (fun _ hk => hk.2) (.int .i64 ((rd_T28 l0_1 x24_1).f0))) (fun _ hk => hk.2) (.int .i64 ((rd_T28 l0_1 x24_1).f1))) (fun _ hk => hk.2) (.int .i64 ((rd_T28 l0_1 x24_1).f2))) (fun _ h_ => h_.1)))) k_ hk, Kd.freshB (g := gb128) (o := .cells #[.int .i64 a1_0, .int .i64 a1_1, .int .i64 a1_2] 28 (0, 0)) (by (with_reducible repeat (first | refine blk_drewN ?_ _ | refine blk_drew ?_ | refine blk_alloc ?_ _)); refine blk_far ?_ NB128_140.out _; (with_reducible repeat (first | refine blk_drewN ?_ _ | refine blk_drew ?_ | refine blk_alloc ?_ _)); refine blk_far ?_ NB128_140.out _; (with_reducible repeat (first | refine blk_drewN ?_ _ | refine blk_drew ?_ | refine blk_alloc ?_ _)); refine blk_far ?_ NB128_140.out _; (with_reducible repeat (first | refine blk_drewN ?_ _ | refine blk_drew ?_ | refine blk_alloc ?_ _)); exact BK128.out) k_ hk, Kd.freshB (g := gb140) (o := .cells #[.int .i64 ((rd_T28 l0_1 x24_1).f0), .int .i64 ((rd_T28 l0_1 x24_1).f1), .int .i64 ((rd_T28 l0_1 x24_1).f2)] 28 (0, 0)) (by (with_reducible repeat (first | refine blk_drewN ?_ _ | refine blk_drew ?_ | refine blk_alloc ?_ _)); refine blk_put (cs := #[.int .i64 ((rd_T28 l0_1 x24_1).f0), .int .i64 ((rd_T28 l0_1 x24_1).f1), .int .i64 0]) ?_ 2 _ rfl; (with_reducible repeat (first | refine blk_drewN ?_ _ | refine blk_drew ?_ | refine blk_alloc ?_ _)); refine blk_put (cs := #[.int .i64 ((rd_T28 l0_1 x24_1).f0), .int .i64 0, .int .i64 0]) ?_ 1 _ rfl; (with_reducible repeat (first | refine blk_drewN ?_ _ | refine blk_drew ?_ | refine blk_alloc ?_ _)); refine blk_put (cs := #[.int .i64 0, .int .i64 0, .int .i64 0]) ?_ 0 _ rfl; (with_reducible repeat (first | refine blk_drewN ?_ _ | refine blk_drew ?_ | refine blk_alloc ?_ _)); exact BK140.out) k_ hk⟩)); (case aO => exact (by (with_reducible repeat (first | apply Kd.R_alloc | apply Kd.R_drewN | apply Kd.R_drew)); exact Kd.R_mono (Kd.R_far (p := ⟨gb140, 2, none⟩) (Kd.R_far (p := ⟨gb140, 1, none⟩) (Kd.R_far (p := ⟨gb140, 0, none⟩) (Kd.R_mono HO_11.out (fun k_ hk => (⟨hk, hk.2⟩ : _ ∧ k_ ≠ gb140))) (fun _ hk => hk.2) (.int .i64 ((rd_T28 l0_1 x24_1).f0))) (fun _ hk => hk.2) (.int .i64 ((rd_T28 l0_1 x24_1).f1))) (fun _ hk => hk.2) (.int .i64 ((rd_T28 l0_1 x24_1).f2))) (fun _ hk => ⟨hk.1.1.1, ⟨hk.1.1.2, hk.1.2⟩⟩))); (case aS => exact (below_size bS)); (case aL => have := LMc30.out; omega); intro v142 w37 ho hb hg hat; rw [← Ny141.out] at ho; have n0_ := Aside0.mk (Kd.R_after (ok := (fun k_ => k_ ≠ gb128 ∧ k_ ≠ gb140)) (by (with_reducible repeat (first | apply Kd.R_alloc | apply Kd.R_drewN | apply Kd.R_drew)); exact Kd.R_mono (Kd.R_far (p := ⟨gb140, 2, none⟩) (Kd.R_far (p := ⟨gb140, 1, none⟩) (Kd.R_far (p := ⟨gb140, 0, none⟩) (Kd.R_mono HO_136001.out (fun k_ hk => (⟨hk, hk.2⟩ : _ ∧ k_ ≠ gb140))) (fun _ hk => hk.2) (.int .i64 ((rd_T28 l0_1 x24_1).f0))) (fun _ hk => hk.2) (.int .i64 ((rd_T28 l0_1 x24_1).f1))) (fun _ hk => hk.2) (.int .i64 ((rd_T28 l0_1 x24_1).f2))) (fun _ hk => ⟨⟨hk.1.1.2, hk.1.2⟩, hk.1.1.1⟩)) hg hat); have n1_ := Aside0.mk (blk_grown (g := gb127) (o := .cells #[.int .i64 a0_0, .slice (some ad139) l0_1.length c0_1] 26 (0, 0)) (by (with_reducible repeat (first | refine blk_drewN ?_ _ | refine blk_drew ?_ | refine blk_alloc ?_ _)); refine blk_far ?_ NB127_140.out _; (with_reducible repeat (first | refine blk_drewN ?_ _ | refine blk_drew ?_ | refine blk_alloc ?_ _)); refine blk_far ?_ NB127_140.out _; (with_reducible repeat (first | refine blk_drewN ?_ _ | refine blk_drew ?_ | refine blk_alloc ?_ _)); refine blk_far ?_ NB127_140.out _; (with_reducible repeat (first | refine blk_drewN ?_ _ | refine blk_drew ?_ | refine blk_alloc ?_ _)); exact BK127.out) hg (Kd.R_ne HO_11.out BK127.out (by decide))); have n2_ := Aside0.mk (blk_grown (g := gb128) (o := .cells #[.int .i64 a1_0, .int .i64 a1_1, .int .i64 a1_2] 28 (0, 0)) (by (with_reducible repeat (first | refine blk_drewN ?_ _ | refine blk_drew ?_ | refine blk_alloc ?_ _)); refine blk_far ?_ NB128_140.out _; (with_reducible repeat (first | refine blk_drewN ?_ _ | refine blk_drew ?_ | refine blk_alloc ?_ _)); refine blk_far ?_ NB128_140.out _; (with_reducible repeat (first | refine blk_drewN ?_ _ | refine blk_drew ?_ | refine blk_alloc ?_ _)); refine blk_far ?_ NB128_140.out _; (with_reducible repeat (first | refine blk_drewN ?_ _ | refine blk_drew ?_ | refine blk_alloc ?_ _)); exact BK128.out) hg (Kd.R_away HO_11.out (fun _ hk => hk.1.2))); have n3_ := Aside0.mk (blk_grown (g := gb129) (o := .cells #[.int .i64 0, .slice none 0 0] 26 (0, 0)) (by (with_reducible repeat (first | refine blk_drewN ?_ _ | refine blk_drew ?_ | refine blk_alloc ?_ _)); refine blk_far ?_ NB129_140.out _; (with_reducible repeat (first | refine blk_drewN ?_ _ | refine blk_drew ?_ | refine blk_alloc ?_ _)); refine blk_far ?_ NB129_140.out _; (with_reducible repeat (first | refine blk_drewN ?_ _ | refine blk_drew ?_ | refine blk_alloc ?_ _)); refine blk_far ?_ NB129_140.out _; (with_reducible repeat (first | refine blk_drewN ?_ _ | refine blk_drew ?_ | refine blk_alloc ?_ _)); exact BK129.out) hg (Kd.R_ne HO_11.out BK129.out (by decide))); have n4_ := Aside0.mk (blk_grown (g := gb135) (o := .cells #[.int .i64 t131, .slice Ao22 t132.length co22] 26 (0, 0)) (by (with_reducible repeat (first | refine blk_drewN ?_ _ | refine blk_drew ?_ | refine blk_alloc ?_ _)); refine blk_far ?_ NB135_140.out _; (with_reducible repeat (first | refine blk_drewN ?_ _ | refine blk_drew ?_ | refine blk_alloc ?_ _)); refine blk_far ?_ NB135_140.out _; (with_reducible repeat (first | refine blk_drewN ?_ _ | refine blk_drew ?_ | refine blk_alloc ?_ _)); refine blk_far ?_ NB135_140.out _; (with_reducible repeat (first | refine blk_drewN ?_ _ | refine blk_drew ?_ | refine blk_alloc ?_ _)); exact BK135.out) hg (Kd.R_ne HO_11.out BK135.out (by decide))); have n5_ := Aside0.mk (blk_grown (g := gb140) (o := .cells #[.int .i64 ((rd_T28 l0_1 x24_1).f0), .int .i64 ((rd_T28 l0_1 x24_1).f1), .int .i64 ((rd_T28 l0_1 x24_1).f2)] 28 (0, 0)) (by (with_reducible repeat (first | refine blk_drewN ?_ _ | refine blk_drew ?_ | refine blk_alloc ?_ _)); refine blk_put (cs := #[.int .i64 ((rd_T28 l0_1 x24_1).f0), .int .i64 ((rd_T28 l0_1 x24_1).f1), .int .i64 0]) ?_ 2 _ rfl; (with_reducible repeat (first | refine blk_drewN ?_ _ | refine blk_drew ?_ | refine blk_alloc ?_ _)); refine blk_put (cs := #[.int .i64 ((rd_T28 l0_1 x24_1).f0), .int .i64 0, .int .i64 0]) ?_ 1 _ rfl; (with_reducible repeat (first | refine blk_drewN ?_ _ | refine blk_drew ?_ | refine blk_alloc ?_ _)); refine blk_put (cs := #[.int .i64 0, .int .i64 0, .int .i64 0]) ?_ 0 _ rfl; (with_reducible repeat (first | refine blk_drewN ?_ _ | refine blk_drew ?_ | refine blk_alloc ?_ _)); exact BK140.out) hg (Kd.R_away HO_11.out (fun _ hk => hk.2))); have n6_ := Aside0.mk (hb); have n7_ := Aside0.mk (ho); clear HO_136001; clear BK127; clear BK128; clear BK129; clear BK135; clear BK140; clear HB; clear HO_11; have HO_136001 := n0_; have BK127 := n1_; have BK128 := n2_; have BK129 := n3_; have BK135 := n4_; have BK140 := n5_; have HB := n6_; have HO143 := n7_; clear n0_ n1_ n2_ n3_ n4_ n5_ n6_ n7_; clear ho hb hg hat))
         go_roundg k1
         case measure => have := HK1.out; omega
         case rel => exact ⟨(y141), (wrap64 (x24_1 + 1)), eX, H', ⟨by have := HK1.out; omega⟩, ⟨by (with_reducible repeat (first | apply Kd.R_alloc | apply Kd.R_drewN | apply Kd.R_drew)); exact Kd.R_mono HO143.out (fun _ hk => ⟨hk.1, hk.2.1⟩)⟩, ⟨by (with_reducible repeat (first | apply Kd.R_alloc | apply Kd.R_drewN | apply Kd.R_drew)); exact Kd.R_mono HO_136001.out (fun _ hk => ⟨hk.2, hk.1.1⟩)⟩, ⟨by (with_reducible repeat (first | refine blk_drewN ?_ _ | refine blk_drew ?_ | refine blk_alloc ?_ _)); exact BK127.out⟩, ⟨by (with_reducible repeat (first | refine blk_drewN ?_ _ | refine blk_drew ?_ | refine blk_alloc ?_ _)); exact BK128.out⟩, ⟨by (with_reducible repeat (first | refine blk_drewN ?_ _ | refine blk_drew ?_ | refine blk_alloc ?_ _)); exact BK129.out⟩, ⟨by (with_reducible repeat (first | refine blk_drewN ?_ _ | refine blk_drew ?_ | refine blk_alloc ?_ _)); exact BK135.out⟩, ⟨by repeat (first | (with_reducible first | exact HB.out | apply below_alloc | apply pw_below_drewN | apply below_drew1 | refine below_set ?_ GE127.out | refine below_set ?_ GE128.out | refine below_set ?_ GE129.out | refine below_set ?_ GE135.out | refine below_set ?_ GE140.out) | exact HB.out)⟩⟩
        ·rw [if_neg c30] at H
         exact absurd H (by simp)
       ·rw [if_neg c29] at H
        have c29b0 : decide ((wrap64 (a2 - a3)) ≤ ((rd_T28 l0_1 x24_1).f1)) = false := decide_eq_false c29
        clear c29
        have H' := Aside0.mk H
        clear H
        have p139 : 0 ≤ (x24_1 : Int) := of_decide_eq_true aA
        have q139 : x24_1 < (l0_1.length : Int) := of_decide_eq_true aA
        obtain ⟨ad139, e139, hx139_0, hx139_1, hx139_2⟩ := at_T28 HR0_1.out x24_1 p139 q139
        cases e139
        replace hx139_0 := (HB.out.cell (World.block_lt_of_cell? w _ hx139_0)).trans hx139_0
        replace hx139_1 := (HB.out.cell (World.block_lt_of_cell? w _ hx139_1)).trans hx139_1
        replace hx139_2 := (HB.out.cell (World.block_lt_of_cell? w _ hx139_2)).trans hx139_2
        replace p139 := eq_true p139
        replace q139 := eq_true q139
        go_wp2_with (first | ((with_reducible refine gate_dst (N := 13) rfl ?_); refine box_event ?hg (N := 13) ?hd (cs := #[.int .i64 0, .int .i64 0, .int .i64 0]) (t := 28) ?hr ?_; (case hd => rfl); (case hg => rfl); (case hr => first | (go_simp; done) | (go_simp; rfl)); intro gb140 hg w38 hbox hb; have n0_ := Aside0.mk (Kd.R_below (Kd.R_elderB (kR HO_11.out) gb140 (Nat.le_of_eq hg.symm)) hb); have n1_ := Aside0.mk (Kd.R_below (Kd.R_elderB (kR HO_136001.out) gb140 (Nat.le_of_eq hg.symm)) hb); have n2_ := Aside0.mk (blk_below (kB BK127.out) hb); have n3_ := Aside0.mk (blk_below (kB BK128.out) hb); have n4_ := Aside0.mk (blk_below (kB BK129.out) hb); have n5_ := Aside0.mk (blk_below (kB BK135.out) hb); have n6_ := Aside0.mk (below_step bS hb); have n7_ := Aside0.mk (hbox); have n8_ := Aside0.mk ((bZ hg : w.heap.size ≤ gb140)); have n9_ := Aside0.mk ((bZ hg : w.heap.size ≤ gb140)); have n10_ := Aside0.mk ((nL hg BK127.out : gb127 ≠ gb140)); have n11_ := Aside0.mk ((nG hg BK127.out : gb140 ≠ gb127)); have n12_ := Aside0.mk ((nL hg BK128.out : gb128 ≠ gb140)); have n13_ := Aside0.mk ((nG hg BK128.out : gb140 ≠ gb128)); have n14_ := Aside0.mk ((nL hg BK129.out : gb129 ≠ gb140)); have n15_ := Aside0.mk ((nG hg BK129.out : gb140 ≠ gb129)); have n16_ := Aside0.mk ((nL hg BK135.out : gb135 ≠ gb140)); have n17_ := Aside0.mk ((nG hg BK135.out : gb140 ≠ gb135)); clear HO_11; clear HO_136001; clear BK127; clear BK128; clear BK129; clear BK135; clear HB; have HO_11 := n0_; have HO_136001 := n1_; have BK127 := n2_; have BK128 := n3_; have BK129 := n4_; have BK135 := n5_; have HB := n6_; have BK140 := n7_; have GW140 := n8_; have GE140 := n9_; have NB127_140 := n10_; have NB140_127 := n11_; have NB128_140 := n12_; have NB140_128 := n13_; have NB129_140 := n14_; have NB140_129 := n15_; have NB135_140 := n16_; have NB140_135 := n17_; clear n0_ n1_ n2_ n3_ n4_ n5_ n6_ n7_ n8_ n9_ n10_ n11_ n12_ n13_ n14_ n15_ n16_ n17_; clear hb hbox hg; have hnb39 := NB140_127.out; have hnc39 := NB127_140.out; have hnb40 := NB140_128.out; have hnc40 := NB128_140.out; have hnb41 := NB140_129.out; have hnc41 := NB129_140.out; have hnb42 := NB140_135.out; have hnc42 := NB135_140.out; have hcz43_0 : w38.cell? ⟨gb140, 0, none⟩ = some (.int .i64 0) := (blk_cell BK140.out 0).trans rfl; have hcz43_1 : w38.cell? ⟨gb140, 1, none⟩ = some (.int .i64 0) := (blk_cell BK140.out 1).trans rfl; have hcz43_2 : w38.cell? ⟨gb140, 2, none⟩ = some (.int .i64 0) := (blk_cell BK140.out 2).trans rfl; have hfz43_0 := blk_frozen BK140.out 0; have hfz43_1 := blk_frozen BK140.out 1; have hfz43_2 := blk_frozen BK140.out 2))
        go_roundg k1
        case measure => have := HK1.out; omega
        case rel => exact ⟨(x11_1), (wrap64 (x24_1 + 1)), eX, H', ⟨by have := HK1.out; omega⟩, ⟨by (with_reducible repeat (first | apply Kd.R_alloc | apply Kd.R_drewN | apply Kd.R_drew)); exact Kd.R_mono (Kd.R_far (p := ⟨gb140, 2, none⟩) (Kd.R_far (p := ⟨gb140, 1, none⟩) (Kd.R_far (p := ⟨gb140, 0, none⟩) (Kd.R_mono HO_11.out (fun k_ hk => (⟨hk, hk.2⟩ : _ ∧ k_ ≠ gb140))) (fun _ hk => hk.2) (.int .i64 ((rd_T28 l0_1 x24_1).f0))) (fun _ hk => hk.2) (.int .i64 ((rd_T28 l0_1 x24_1).f1))) (fun _ hk => hk.2) (.int .i64 ((rd_T28 l0_1 x24_1).f2))) (fun _ hk => ⟨hk.1.1.1, hk.1.1.2⟩)⟩, ⟨by (with_reducible repeat (first | apply Kd.R_alloc | apply Kd.R_drewN | apply Kd.R_drew)); exact Kd.R_mono (Kd.R_far (p := ⟨gb140, 2, none⟩) (Kd.R_far (p := ⟨gb140, 1, none⟩) (Kd.R_far (p := ⟨gb140, 0, none⟩) (Kd.R_mono HO_136001.out (fun k_ hk => (⟨hk, hk.2⟩ : _ ∧ k_ ≠ gb140))) (fun _ hk => hk.2) (.int .i64 ((rd_T28 l0_1 x24_1).f0))) (fun _ hk => hk.2) (.int .i64 ((rd_T28 l0_1 x24_1).f1))) (fun _ hk => hk.2) (.int .i64 ((rd_T28 l0_1 x24_1).f2))) (fun _ hk => ⟨hk.1.1.1, hk.1.1.2⟩)⟩, ⟨by (with_reducible repeat (first | refine blk_drewN ?_ _ | refine blk_drew ?_ | refine blk_alloc ?_ _)); refine blk_far ?_ NB127_140.out _; (with_reducible repeat (first | refine blk_drewN ?_ _ | refine blk_drew ?_ | refine blk_alloc ?_ _)); refine blk_far ?_ NB127_140.out _; (with_reducible repeat (first | refine blk_drewN ?_ _ | refine blk_drew ?_ | refine blk_alloc ?_ _)); refine blk_far ?_ NB127_140.out _; (with_reducible repeat (first | refine blk_drewN ?_ _ | refine blk_drew ?_ | refine blk_alloc ?_ _)); exact BK127.out⟩, ⟨by (with_reducible repeat (first | refine blk_drewN ?_ _ | refine blk_drew ?_ | refine blk_alloc ?_ _)); refine blk_far ?_ NB128_140.out _; (with_reducible repeat (first | refine blk_drewN ?_ _ | refine blk_drew ?_ | refine blk_alloc ?_ _)); refine blk_far ?_ NB128_140.out _; (with_reducible repeat (first | refine blk_drewN ?_ _ | refine blk_drew ?_ | refine blk_alloc ?_ _)); refine blk_far ?_ NB128_140.out _; (with_reducible repeat (first | refine blk_drewN ?_ _ | refine blk_drew ?_ | refine blk_alloc ?_ _)); exact BK128.out⟩, ⟨by (with_reducible repeat (first | refine blk_drewN ?_ _ | refine blk_drew ?_ | refine blk_alloc ?_ _)); refine blk_far ?_ NB129_140.out _; (with_reducible repeat (first | refine blk_drewN ?_ _ | refine blk_drew ?_ | refine blk_alloc ?_ _)); refine blk_far ?_ NB129_140.out _; (with_reducible repeat (first | refine blk_drewN ?_ _ | refine blk_drew ?_ | refine blk_alloc ?_ _)); refine blk_far ?_ NB129_140.out _; (with_reducible repeat (first | refine blk_drewN ?_ _ | refine blk_drew ?_ | refine blk_alloc ?_ _)); exact BK129.out⟩, ⟨by (with_reducible repeat (first | refine blk_drewN ?_ _ | refine blk_drew ?_ | refine blk_alloc ?_ _)); refine blk_far ?_ NB135_140.out _; (with_reducible repeat (first | refine blk_drewN ?_ _ | refine blk_drew ?_ | refine blk_alloc ?_ _)); refine blk_far ?_ NB135_140.out _; (with_reducible repeat (first | refine blk_drewN ?_ _ | refine blk_drew ?_ | refine blk_alloc ?_ _)); refine blk_far ?_ NB135_140.out _; (with_reducible repeat (first | refine blk_drewN ?_ _ | refine blk_drew ?_ | refine blk_alloc ?_ _)); exact BK135.out⟩, ⟨by repeat (first | (with_reducible first | exact HB.out | apply below_alloc | apply pw_below_drewN | apply below_drew1 | refine below_set ?_ GE127.out | refine below_set ?_ GE128.out | refine below_set ?_ GE129.out | refine below_set ?_ GE135.out | refine below_set ?_ GE140.out) | exact HB.out)⟩⟩
      ·rw [if_neg c28] at H
       exact absurd H (by simp)
     ·rw [if_neg c27] at H
      exact absurd H (by simp)
    ·rw [if_neg c26] at H
     have c26b0 : decide (x24_1 < (l0_1.length : Int)) = false := decide_eq_false c26
     clear c26
     have HC44 := Aside0.mk H
     clear H
     go_upto_region 11 with (fail)
     go_cut [39] (fun v39 wc => ∃ (kq : Nat) (x39_43 : Bool), v39 = .bool x39_43 ∧ Aside0 (impl_CacheTry.j1 kq a2 a3 x11_1 x39_43 a0_0 l0_1 a1_0 a1_1 a1_2 t131 t132 = some (r1, r2, r3)) ∧ Aside0 (kq ≤ k1) ∧ Aside0 (Kd.R k28 28 wc w.heap.size (fun k_ => some k_ ≠ ((.slice Ao22 t132.length co22) : Value).ownBlock ∧ k_ ≠ gb128) u11 x11_1) ∧ Aside0 (Kd.R k28 28 wc w.heap.size (fun k_ => some k_ ≠ (u11 : Value).ownBlock ∧ k_ ≠ gb128) (.slice Ao22 t132.length co22) t132) ∧ Aside0 (wc.heap[gb127]? = some (.cells #[.int .i64 a0_0, (.slice A0_1 l0_1.length c0_1)] 26 (0, 0))) ∧ Aside0 (wc.heap[gb128]? = some (.cells #[.int .i64 a1_0, .int .i64 a1_1, .int .i64 a1_2] 28 (0, 0))) ∧ Aside0 (wc.heap[gb129]? = some (.cells #[.int .i64 0, (.slice none 0 0)] 26 (0, 0))) ∧ Aside0 (wc.heap[gb135]? = some (.cells #[.int .i64 t131, (.slice Ao22 t132.length co22)] 26 (0, 0))) ∧ Aside0 (Below w.heap.size w wc))
     case first =>
      have H := HC44.out
      clear HC44
      replace H := Option.bind_eq_some_iff.mp H
      obtain ⟨t144, A450, H⟩ := H
      replace H : (if t144 = true then ((impl_isTime.f a2).bind fun t145 => (if t145 = true then ((impl_isSkew.f a3).bind fun t146 => (impl_CacheTry.j1 k1 a2 a3 x11_1 (!t146) a0_0 l0_1 a1_0 a1_1 a1_2 t131 t132)) else (impl_CacheTry.j1 k1 a2 a3 x11_1 true a0_0 l0_1 a1_0 a1_1 a1_2 t131 t132))) else (impl_CacheTry.j1 k1 a2 a3 x11_1 true a0_0 l0_1 a1_0 a1_1 a1_2 t131 t132)) = some (r1, r2, r3) := H
      have A45 := Aside0.mk A450
      clear A450
      by_cases c46 : t144 = true
      ·subst c46
       have H1 : ((impl_isTime.f a2).bind fun t145 => (if t145 = true then ((impl_isSkew.f a3).bind fun t146 => (impl_CacheTry.j1 k1 a2 a3 x11_1 (!t146) a0_0 l0_1 a1_0 a1_1 a1_2 t131 t132)) else (impl_CacheTry.j1 k1 a2 a3 x11_1 true a0_0 l0_1 a1_0 a1_1 a1_2 t131 t132))) = some (r1, r2, r3) := by rw [if_pos rfl] at H; exact H
       clear H
       have H := H1
       clear H1
       replace H := Option.bind_eq_some_iff.mp H
       obtain ⟨t145, A470, H⟩ := H
       replace H : (if t145 = true then ((impl_isSkew.f a3).bind fun t146 => (impl_CacheTry.j1 k1 a2 a3 x11_1 (!t146) a0_0 l0_1 a1_0 a1_1 a1_2 t131 t132)) else (impl_CacheTry.j1 k1 a2 a3 x11_1 true a0_0 l0_1 a1_0 a1_1 a1_2 t131 t132)) = some (r1, r2, r3) := H
       have A47 := Aside0.mk A470
       clear A470
       by_cases c48 : t145 = true
       ·subst c48
        have H1 : ((impl_isSkew.f a3).bind fun t146 => (impl_CacheTry.j1 k1 a2 a3 x11_1 (!t146) a0_0 l0_1 a1_0 a1_1 a1_2 t131 t132)) = some (r1, r2, r3) := by rw [if_pos rfl] at H; exact H
        clear H
        have H := H1
        clear H1
        replace H := Option.bind_eq_some_iff.mp H
        obtain ⟨t146, A490, H⟩ := H
        replace H : (impl_CacheTry.j1 k1 a2 a3 x11_1 (!t146) a0_0 l0_1 a1_0 a1_1 a1_2 t131 t132) = some (r1, r2, r3) := H
        have A49 := Aside0.mk A490
        clear A490
        have H' := Aside0.mk H
        clear H
        have hnb50 := NB128_127.out
        have hnc50 := NB127_128.out
        have hnb51 := NB128_129.out
        have hnc51 := NB129_128.out
        have hnb52 := NB128_135.out
        have hnc52 := NB135_128.out
        have hcz53_0 : wr.cell? ⟨gb128, 0, none⟩ = some (.int .i64 a1_0) := (blk_cell BK128.out 0).trans rfl
        have hcz53_1 : wr.cell? ⟨gb128, 1, none⟩ = some (.int .i64 a1_1) := (blk_cell BK128.out 1).trans rfl
        have hcz53_2 : wr.cell? ⟨gb128, 2, none⟩ = some (.int .i64 a1_2) := (blk_cell BK128.out 2).trans rfl
        have hfz53_0 := blk_frozen BK128.out 0
        have hfz53_1 := blk_frozen BK128.out 1
        have hfz53_2 := blk_frozen BK128.out 2
        go_wp2_with (first | ((with_reducible refine gate_callee (f := 27) rfl ?_); refine goesL_ (some 41) rfl rfl Try.func27 (by kernel_rfl) rfl #[.agg #[.int .i64 a1_0, .int .i64 a1_1, .int .i64 a1_2]] rfl eA ?_; (with_reducible refine (impl_authOk.calls a1_0 a1_1 a1_2 true _ A45.out).mono ?_); rintro e w54 ⟨rfl, hb⟩; refine ⟨_, rfl, ?_⟩; have n0_ := Aside0.mk (Kd.R_below (kR HO_11.out) hb); have n1_ := Aside0.mk (Kd.R_below (kR HO_136001.out) hb); have n2_ := Aside0.mk (blk_below (kB BK127.out) hb); have n3_ := Aside0.mk (blk_below (kB BK128.out) hb); have n4_ := Aside0.mk (blk_below (kB BK129.out) hb); have n5_ := Aside0.mk (blk_below (kB BK135.out) hb); have n6_ := Aside0.mk (below_step bS hb); clear HO_11; clear HO_136001; clear BK127; clear BK128; clear BK129; clear BK135; clear HB; have HO_11 := n0_; have HO_136001 := n1_; have BK127 := n2_; have BK128 := n3_; have BK129 := n4_; have BK135 := n5_; have HB := n6_; clear n0_ n1_ n2_ n3_ n4_ n5_ n6_; (try clear hb); (try clear hb2); (try clear hk); (try clear hi)) | (go_at_call 28; (with_reducible refine (impl_isTime.calls a2 true _ A47.out).mono ?_); rintro e w' ⟨rfl, ⟨nd, rfl⟩⟩) | (go_at_call 29; (with_reducible refine (impl_isSkew.calls a3 t146 _ A49.out).mono ?_); rintro e w' ⟨rfl, ⟨nd, rfl⟩⟩))
        go_meet
        case rel => exact ⟨_, (!t146), eX, H', ⟨by have := HK1.out; first | omega | exact Nat.le_refl _⟩, ⟨by (with_reducible repeat (first | apply Kd.R_alloc | apply Kd.R_drewN | apply Kd.R_drew)); exact HO_11.out⟩, ⟨by (with_reducible repeat (first | apply Kd.R_alloc | apply Kd.R_drewN | apply Kd.R_drew)); exact HO_136001.out⟩, ⟨by (with_reducible repeat (first | refine blk_drewN ?_ _ | refine blk_drew ?_ | refine blk_alloc ?_ _)); exact BK127.out⟩, ⟨by (with_reducible repeat (first | refine blk_drewN ?_ _ | refine blk_drew ?_ | refine blk_alloc ?_ _)); exact BK128.out⟩, ⟨by (with_reducible repeat (first | refine blk_drewN ?_ _ | refine blk_drew ?_ | refine blk_alloc ?_ _)); exact BK129.out⟩, ⟨by (with_reducible repeat (first | refine blk_drewN ?_ _ | refine blk_drew ?_ | refine blk_alloc ?_ _)); exact BK135.out⟩, ⟨by repeat (first | (with_reducible first | exact HB.out | apply below_alloc | apply pw_below_drewN | apply below_drew1 | refine below_set ?_ GE127.out | refine below_set ?_ GE128.out | refine below_set ?_ GE129.out | refine below_set ?_ GE135.out) | exact HB.out)⟩⟩
       ·replace c48 := Bool.eq_false_iff.mpr c48
        subst c48
        have H1 : (impl_CacheTry.j1 k1 a2 a3 x11_1 true a0_0 l0_1 a1_0 a1_1 a1_2 t131 t132) = some (r1, r2, r3) := by rw [if_neg (show ¬ (false = true) by decide)] at H; exact H
        clear H
        have H := H1
        clear H1
        have H' := Aside0.mk H
        clear H
        have hnb55 := NB128_127.out
        have hnc55 := NB127_128.out
        have hnb56 := NB128_129.out
        have hnc56 := NB129_128.out
        have hnb57 := NB128_135.out
        have hnc57 := NB135_128.out
        have hcz58_0 : wr.cell? ⟨gb128, 0, none⟩ = some (.int .i64 a1_0) := (blk_cell BK128.out 0).trans rfl
        have hcz58_1 : wr.cell? ⟨gb128, 1, none⟩ = some (.int .i64 a1_1) := (blk_cell BK128.out 1).trans rfl
        have hcz58_2 : wr.cell? ⟨gb128, 2, none⟩ = some (.int .i64 a1_2) := (blk_cell BK128.out 2).trans rfl
        have hfz58_0 := blk_frozen BK128.out 0
        have hfz58_1 := blk_frozen BK128.out 1
        have hfz58_2 := blk_frozen BK128.out 2
        go_wp2_with (first | ((with_reducible refine gate_callee (f := 27) rfl ?_); refine goesL_ (some 41) rfl rfl Try.func27 (by kernel_rfl) rfl #[.agg #[.int .i64 a1_0, .int .i64 a1_1, .int .i64 a1_2]] rfl eA ?_; (with_reducible refine (impl_authOk.calls a1_0 a1_1 a1_2 true _ A45.out).mono ?_); rintro e w59 ⟨rfl, hb⟩; refine ⟨_, rfl, ?_⟩; have n0_ := Aside0.mk (Kd.R_below (kR HO_11.out) hb); have n1_ := Aside0.mk (Kd.R_below (kR HO_136001.out) hb); have n2_ := Aside0.mk (blk_below (kB BK127.out) hb); have n3_ := Aside0.mk (blk_below (kB BK128.out) hb); have n4_ := Aside0.mk (blk_below (kB BK129.out) hb); have n5_ := Aside0.mk (blk_below (kB BK135.out) hb); have n6_ := Aside0.mk (below_step bS hb); clear HO_11; clear HO_136001; clear BK127; clear BK128; clear BK129; clear BK135; clear HB; have HO_11 := n0_; have HO_136001 := n1_; have BK127 := n2_; have BK128 := n3_; have BK129 := n4_; have BK135 := n5_; have HB := n6_; clear n0_ n1_ n2_ n3_ n4_ n5_ n6_; (try clear hb); (try clear hb2); (try clear hk); (try clear hi)) | (go_at_call 28; (with_reducible refine (impl_isTime.calls a2 false _ A47.out).mono ?_); rintro e w' ⟨rfl, ⟨nd, rfl⟩⟩))
        go_meet
        case rel => exact ⟨_, (true), eX, H', ⟨by have := HK1.out; first | omega | exact Nat.le_refl _⟩, ⟨by (with_reducible repeat (first | apply Kd.R_alloc | apply Kd.R_drewN | apply Kd.R_drew)); exact HO_11.out⟩, ⟨by (with_reducible repeat (first | apply Kd.R_alloc | apply Kd.R_drewN | apply Kd.R_drew)); exact HO_136001.out⟩, ⟨by (with_reducible repeat (first | refine blk_drewN ?_ _ | refine blk_drew ?_ | refine blk_alloc ?_ _)); exact BK127.out⟩, ⟨by (with_reducible repeat (first | refine blk_drewN ?_ _ | refine blk_drew ?_ | refine blk_alloc ?_ _)); exact BK128.out⟩, ⟨by (with_reducible repeat (first | refine blk_drewN ?_ _ | refine blk_drew ?_ | refine blk_alloc ?_ _)); exact BK129.out⟩, ⟨by (with_reducible repeat (first | refine blk_drewN ?_ _ | refine blk_drew ?_ | refine blk_alloc ?_ _)); exact BK135.out⟩, ⟨by repeat (first | (with_reducible first | exact HB.out | apply below_alloc | apply pw_below_drewN | apply below_drew1 | refine below_set ?_ GE127.out | refine below_set ?_ GE128.out | refine below_set ?_ GE129.out | refine below_set ?_ GE135.out) | exact HB.out)⟩⟩
      ·replace c46 := Bool.eq_false_iff.mpr c46
       subst c46
       have H1 : (impl_CacheTry.j1 k1 a2 a3 x11_1 true a0_0 l0_1 a1_0 a1_1 a1_2 t131 t132) = some (r1, r2, r3) := by rw [if_neg (show ¬ (false = true) by decide)] at H; exact H
       clear H
       have H := H1
       clear H1
       have H' := Aside0.mk H
       clear H
       have hnb60 := NB128_127.out
       have hnc60 := NB127_128.out
       have hnb61 := NB128_129.out
       have hnc61 := NB129_128.out
       have hnb62 := NB128_135.out
       have hnc62 := NB135_128.out
       have hcz63_0 : wr.cell? ⟨gb128, 0, none⟩ = some (.int .i64 a1_0) := (blk_cell BK128.out 0).trans rfl
       have hcz63_1 : wr.cell? ⟨gb128, 1, none⟩ = some (.int .i64 a1_1) := (blk_cell BK128.out 1).trans rfl
       have hcz63_2 : wr.cell? ⟨gb128, 2, none⟩ = some (.int .i64 a1_2) := (blk_cell BK128.out 2).trans rfl
       have hfz63_0 := blk_frozen BK128.out 0
       have hfz63_1 := blk_frozen BK128.out 1
       have hfz63_2 := blk_frozen BK128.out 2
       go_wp2_with (first | ((with_reducible refine gate_callee (f := 27) rfl ?_); refine goesL_ (some 41) rfl rfl Try.func27 (by kernel_rfl) rfl #[.agg #[.int .i64 a1_0, .int .i64 a1_1, .int .i64 a1_2]] rfl eA ?_; (with_reducible refine (impl_authOk.calls a1_0 a1_1 a1_2 false _ A45.out).mono ?_); rintro e w64 ⟨rfl, hb⟩; refine ⟨_, rfl, ?_⟩; have n0_ := Aside0.mk (Kd.R_below (kR HO_11.out) hb); have n1_ := Aside0.mk (Kd.R_below (kR HO_136001.out) hb); have n2_ := Aside0.mk (blk_below (kB BK127.out) hb); have n3_ := Aside0.mk (blk_below (kB BK128.out) hb); have n4_ := Aside0.mk (blk_below (kB BK129.out) hb); have n5_ := Aside0.mk (blk_below (kB BK135.out) hb); have n6_ := Aside0.mk (below_step bS hb); clear HO_11; clear HO_136001; clear BK127; clear BK128; clear BK129; clear BK135; clear HB; have HO_11 := n0_; have HO_136001 := n1_; have BK127 := n2_; have BK128 := n3_; have BK129 := n4_; have BK135 := n5_; have HB := n6_; clear n0_ n1_ n2_ n3_ n4_ n5_ n6_; (try clear hb); (try clear hb2); (try clear hk); (try clear hi)))
       go_meet
       case rel => exact ⟨_, (true), eX, H', ⟨by have := HK1.out; first | omega | exact Nat.le_refl _⟩, ⟨by (with_reducible repeat (first | apply Kd.R_alloc | apply Kd.R_drewN | apply Kd.R_drew)); exact HO_11.out⟩, ⟨by (with_reducible repeat (first | apply Kd.R_alloc | apply Kd.R_drewN | apply Kd.R_drew)); exact HO_136001.out⟩, ⟨by (with_reducible repeat (first | refine blk_drewN ?_ _ | refine blk_drew ?_ | refine blk_alloc ?_ _)); exact BK127.out⟩, ⟨by (with_reducible repeat (first | refine blk_drewN ?_ _ | refine blk_drew ?_ | refine blk_alloc ?_ _)); exact BK128.out⟩, ⟨by (with_reducible repeat (first | refine blk_drewN ?_ _ | refine blk_drew ?_ | refine blk_alloc ?_ _)); exact BK129.out⟩, ⟨by (with_reducible repeat (first | refine blk_drewN ?_ _ | refine blk_drew ?_ | refine blk_alloc ?_ _)); exact BK135.out⟩, ⟨by repeat (first | (with_reducible first | exact HB.out | apply below_alloc | apply pw_below_drewN | apply below_drew1 | refine below_set ?_ GE127.out | refine below_set ?_ GE128.out | refine below_set ?_ GE129.out | refine below_set ?_ GE135.out) | exact HB.out)⟩⟩
     case rest =>
      clear HC44
      try clear c1
      try clear p1
      try clear q1
      try clear hx1
      try clear c2
      try clear p2
      try clear c3
      try clear c4
      try clear c5
      try clear c6
      try clear p6
      try clear c7
      try clear c11
      try clear c12
      try clear p13
      try clear q13
      try clear hx13
      try clear c18
      try clear c19
      try clear c20
      try clear c25
      try clear c26
      try clear c26b0
      try clear c27
      try clear c27b0
      try clear c28
      try clear c28b0
      try clear c29
      try clear c29b0
      try clear c30
      try clear c32
      try clear c33
      try clear c34
      try clear c35
      try clear c39
      try clear c40
      try clear c41
      try clear c42
      try clear c46
      try clear c48
      try clear c50
      try clear c51
      try clear c52
      try clear c55
      try clear c56
      try clear c57
      try clear c60
      try clear c61
      try clear c62
      try clear p64
      try clear hcz13_0
      try clear hcz13_1
      try clear hcz15_0
      try clear hcz15_1
      try clear hcz21_0
      try clear hcz21_1
      try clear hcz25_0
      try clear hcz25_1
      try clear hcz36_0
      try clear hcz36_1
      try clear hcz36_2
      try clear hcz43_0
      try clear hcz43_1
      try clear hcz43_2
      try clear hcz53_0
      try clear hcz53_1
      try clear hcz53_2
      try clear hcz58_0
      try clear hcz58_1
      try clear hcz58_2
      try clear hcz63_0
      try clear hcz63_1
      try clear hcz63_2
      try clear hfz13_0
      try clear hfz13_1
      try clear hfz15_0
      try clear hfz15_1
      try clear hfz21_0
      try clear hfz21_1
      try clear hfz25_0
      try clear hfz25_1
      try clear hfz36_0
      try clear hfz36_1
      try clear hfz36_2
      try clear hfz43_0
      try clear hfz43_1
      try clear hfz43_2
      try clear hfz53_0
      try clear hfz53_1
      try clear hfz53_2
      try clear hfz58_0
      try clear hfz58_1
      try clear hfz58_2
      try clear hfz63_0
      try clear hfz63_1
      try clear hfz63_2
      try clear hx139_0
      try clear hx139_1
      try clear hx139_2
      try clear p139
      try clear p2
      try clear q139
      obtain ⟨kq, x39_43, rfl, HA, HJ43, HO_11, HO_136001, BK127, BK128, BK129, BK135, HB⟩ := hcut
      cases kq with
      | zero => exact absurd HA.out (by simp [impl_CacheTry.j1])
      | succ kj43 =>
       have H := HA.out
       clear HA
       simp only [impl_CacheTry.j1] at H
       by_cases c65 : x39_43 = true
       ·subst c65
        have H1 : (some (t131, t132, 1)) = some (r1, r2, r3) := by rw [if_pos rfl] at H; exact H
        clear H
        have H := H1
        clear H1
        simp only [Option.some.injEq, Prod.mk.injEq] at H
        obtain ⟨rfl, rfl, rfl⟩ := H
        have hnb66 := NB135_127.out
        have hnc66 := NB127_135.out
        have hnb67 := NB135_128.out
        have hnc67 := NB128_135.out
        have hnb68 := NB135_129.out
        have hnc68 := NB129_135.out
        have hcz69_0 : wc.cell? ⟨gb135, 0, none⟩ = some (.int .i64 t131) := (blk_cell BK135.out 0).trans rfl
        have hcz69_1 : wc.cell? ⟨gb135, 1, none⟩ = some (.slice Ao22 t132.length co22) := (blk_cell BK135.out 1).trans rfl
        have hfz69_0 := blk_frozen BK135.out 0
        have hfz69_1 := blk_frozen BK135.out 1
        have hnb70 := NB129_127.out
        have hnc70 := NB127_129.out
        have hnb71 := NB129_128.out
        have hnc71 := NB128_129.out
        have hcz72_0 : wc.cell? ⟨gb129, 0, none⟩ = some (.int .i64 0) := (blk_cell BK129.out 0).trans rfl
        have hcz72_1 : wc.cell? ⟨gb129, 1, none⟩ = some (.slice none 0 0) := (blk_cell BK129.out 1).trans rfl
        have hfz72_0 := blk_frozen BK129.out 0
        have hfz72_1 := blk_frozen BK129.out 1
        go_wp2
        refine bodyPost_ret (results_ct rfl _ _ gb129 26 #[.int .i64 t131, .slice Ao22 t132.length co22] (0, 0) _ rfl (by (with_reducible repeat (first | refine blk_drewN ?_ _ | refine blk_drew ?_ | refine blk_alloc ?_ _)); refine blk_put (cs := #[.int .i64 t131, .slice none 0 0]) ?_ 1 _ rfl; (with_reducible repeat (first | refine blk_drewN ?_ _ | refine blk_drew ?_ | refine blk_alloc ?_ _)); refine blk_put (cs := #[.int .i64 0, .slice none 0 0]) ?_ 0 _ rfl; (with_reducible repeat (first | refine blk_drewN ?_ _ | refine blk_drew ?_ | refine blk_alloc ?_ _)); exact BK129.out) Try.underlying26 rfl (by kernel_rfl)) rfl ?_
        exact ⟨_, by first | rfl | (simp [errW_none, errW_some] <;> rfl) | (simp [*, errW_none, errW_some] <;> rfl), by (with_reducible repeat (first | apply Kd.R_alloc | apply Kd.R_drewN | apply Kd.R_drew)); exact Kd.R_mono (Kd.R_far (p := ⟨gb129, 1, none⟩) (Kd.R_far (p := ⟨gb129, 0, none⟩) (Kd.R_types HO_136001.out BK129.out (by decide)) (fun _ hk => hk.2) (.int .i64 t131)) (fun _ hk => hk.2) (.slice Ao22 t132.length co22)) (fun _ hk => trivial), bS⟩
       ·replace c65 := Bool.eq_false_iff.mpr c65
        subst c65
        have H1 : ((impl_apart.f a2 a1_1).bind fun t147 => (if t147 > a3 then (some (t131, t132, 2)) else (if a2 ≤ a0_0 then (some (t131, t132, 3)) else ((impl_Auth_31.f kj43 l0_1 a1_0 a1_1 a1_2).bind fun t148 => (if t148 = true then (some (t131, t132, 4)) else (if (x11_1.length : Int) = 6 then (some (t131, t132, 5)) else (if x11_1.length < 5864062014805 then (some (t131, (x11_1 ++ [(⟨a1_0, a1_1, a1_2⟩ : S28)]), 0)) else (none)))))))) = some (r1, r2, r3) := by rw [if_neg (show ¬ (false = true) by decide)] at H; exact H
        clear H
        have H := H1
        clear H1
        replace H := Option.bind_eq_some_iff.mp H
        obtain ⟨t147, A730, H⟩ := H
        replace H : (if t147 > a3 then (some (t131, t132, 2)) else (if a2 ≤ a0_0 then (some (t131, t132, 3)) else ((impl_Auth_31.f kj43 l0_1 a1_0 a1_1 a1_2).bind fun t148 => (if t148 = true then (some (t131, t132, 4)) else (if (x11_1.length : Int) = 6 then (some (t131, t132, 5)) else (if x11_1.length < 5864062014805 then (some (t131, (x11_1 ++ [(⟨a1_0, a1_1, a1_2⟩ : S28)]), 0)) else (none))))))) = some (r1, r2, r3) := H
        have A73 := Aside0.mk A730
        clear A730
        by_cases c74 : t147 > a3
        ·rw [if_pos c74] at H
         have c74b0 : decide (a3 < t147) = true := decide_eq_true c74
         clear c74
         simp only [Option.some.injEq, Prod.mk.injEq] at H
         obtain ⟨rfl, rfl, rfl⟩ := H
         have hnb75 := NB128_127.out
         have hnc75 := NB127_128.out
         have hnb76 := NB128_129.out
         have hnc76 := NB129_128.out
         have hnb77 := NB128_135.out
         have hnc77 := NB135_128.out
         have hcz78_0 : wc.cell? ⟨gb128, 0, none⟩ = some (.int .i64 a1_0) := (blk_cell BK128.out 0).trans rfl
         have hcz78_1 : wc.cell? ⟨gb128, 1, none⟩ = some (.int .i64 a1_1) := (blk_cell BK128.out 1).trans rfl
         have hcz78_2 : wc.cell? ⟨gb128, 2, none⟩ = some (.int .i64 a1_2) := (blk_cell BK128.out 2).trans rfl
         have hfz78_0 := blk_frozen BK128.out 0
         have hfz78_1 := blk_frozen BK128.out 1
         have hfz78_2 := blk_frozen BK128.out 2
         go_wp2_with (first | ((with_reducible refine gate_callee (f := 30) rfl ?_); refine goesL_ (some 58) rfl rfl Try.func30 (by kernel_rfl) rfl #[.int .i64 a2, .int .i64 a1_1] rfl eA ?_; (with_reducible refine (impl_apart.calls a2 a1_1 t147 _ A73.out).mono ?_); rintro e w79 ⟨rfl, hb⟩; refine ⟨_, rfl, ?_⟩; have n0_ := Aside0.mk (Kd.R_below (kR HO_11.out) hb); have n1_ := Aside0.mk (Kd.R_below (kR HO_136001.out) hb); have n2_ := Aside0.mk (blk_below (kB BK127.out) hb); have n3_ := Aside0.mk (blk_below (kB BK128.out) hb); have n4_ := Aside0.mk (blk_below (kB BK129.out) hb); have n5_ := Aside0.mk (blk_below (kB BK135.out) hb); have n6_ := Aside0.mk (below_step bS hb); clear HO_11; clear HO_136001; clear BK127; clear BK128; clear BK129; clear BK135; clear HB; have HO_11 := n0_; have HO_136001 := n1_; have BK127 := n2_; have BK128 := n3_; have BK129 := n4_; have BK135 := n5_; have HB := n6_; clear n0_ n1_ n2_ n3_ n4_ n5_ n6_; (try clear hb); (try clear hb2); (try clear hk); (try clear hi); have hnb80 := NB135_127.out; have hnc80 := NB127_135.out; have hnb81 := NB135_129.out; have hnc81 := NB129_135.out; have hcz82_0 : w79.cell? ⟨gb135, 0, none⟩ = some (.int .i64 t131) := (blk_cell BK135.out 0).trans rfl; have hcz82_1 : w79.cell? ⟨gb135, 1, none⟩ = some (.slice Ao22 t132.length co22) := (blk_cell BK135.out 1).trans rfl; have hfz82_0 := blk_frozen BK135.out 0; have hfz82_1 := blk_frozen BK135.out 1; have hnb83 := NB129_127.out; have hnc83 := NB127_129.out; have hcz84_0 : w79.cell? ⟨gb129, 0, none⟩ = some (.int .i64 0) := (blk_cell BK129.out 0).trans rfl; have hcz84_1 : w79.cell? ⟨gb129, 1, none⟩ = some (.slice none 0 0) := (blk_cell BK129.out 1).trans rfl; have hfz84_0 := blk_frozen BK129.out 0; have hfz84_1 := blk_frozen BK129.out 1))
         refine bodyPost_ret (results_ct rfl _ _ gb129 26 #[.int .i64 t131, .slice Ao22 t132.length co22] (0, 0) _ rfl (by (with_reducible repeat (first | refine blk_drewN ?_ _ | refine blk_drew ?_ | refine blk_alloc ?_ _)); refine blk_put (cs := #[.int .i64 t131, .slice none 0 0]) ?_ 1 _ rfl; (with_reducible repeat (first | refine blk_drewN ?_ _ | refine blk_drew ?_ | refine blk_alloc ?_ _)); refine blk_put (cs := #[.int .i64 0, .slice none 0 0]) ?_ 0 _ rfl; (with_reducible repeat (first | refine blk_drewN ?_ _ | refine blk_drew ?_ | refine blk_alloc ?_ _)); exact BK129.out) Try.underlying26 rfl (by kernel_rfl)) rfl ?_
         exact ⟨_, by first | rfl | (simp [errW_none, errW_some] <;> rfl) | (simp [*, errW_none, errW_some] <;> rfl), by (with_reducible repeat (first | apply Kd.R_alloc | apply Kd.R_drewN | apply Kd.R_drew)); exact Kd.R_mono (Kd.R_far (p := ⟨gb129, 1, none⟩) (Kd.R_far (p := ⟨gb129, 0, none⟩) (Kd.R_types HO_136001.out BK129.out (by decide)) (fun _ hk => hk.2) (.int .i64 t131)) (fun _ hk => hk.2) (.slice Ao22 t132.length co22)) (fun _ hk => trivial), bS⟩
        ·rw [if_neg c74] at H
         have c74b0 : decide (a3 < t147) = false := decide_eq_false c74
         clear c74
         by_cases c85 : a2 ≤ a0_0
         ·rw [if_pos c85] at H
          have c85b0 : decide (a2 ≤ a0_0) = true := decide_eq_true c85
          clear c85
          simp only [Option.some.injEq, Prod.mk.injEq] at H
          obtain ⟨rfl, rfl, rfl⟩ := H
          have hnb86 := NB128_127.out
          have hnc86 := NB127_128.out
          have hnb87 := NB128_129.out
          have hnc87 := NB129_128.out
          have hnb88 := NB128_135.out
          have hnc88 := NB135_128.out
          have hcz89_0 : wc.cell? ⟨gb128, 0, none⟩ = some (.int .i64 a1_0) := (blk_cell BK128.out 0).trans rfl
          have hcz89_1 : wc.cell? ⟨gb128, 1, none⟩ = some (.int .i64 a1_1) := (blk_cell BK128.out 1).trans rfl
          have hcz89_2 : wc.cell? ⟨gb128, 2, none⟩ = some (.int .i64 a1_2) := (blk_cell BK128.out 2).trans rfl
          have hfz89_0 := blk_frozen BK128.out 0
          have hfz89_1 := blk_frozen BK128.out 1
          have hfz89_2 := blk_frozen BK128.out 2
          go_wp2_with (first | ((with_reducible refine gate_callee (f := 30) rfl ?_); refine goesL_ (some 58) rfl rfl Try.func30 (by kernel_rfl) rfl #[.int .i64 a2, .int .i64 a1_1] rfl eA ?_; (with_reducible refine (impl_apart.calls a2 a1_1 t147 _ A73.out).mono ?_); rintro e w90 ⟨rfl, hb⟩; refine ⟨_, rfl, ?_⟩; have n0_ := Aside0.mk (Kd.R_below (kR HO_11.out) hb); have n1_ := Aside0.mk (Kd.R_below (kR HO_136001.out) hb); have n2_ := Aside0.mk (blk_below (kB BK127.out) hb); have n3_ := Aside0.mk (blk_below (kB BK128.out) hb); have n4_ := Aside0.mk (blk_below (kB BK129.out) hb); have n5_ := Aside0.mk (blk_below (kB BK135.out) hb); have n6_ := Aside0.mk (below_step bS hb); clear HO_11; clear HO_136001; clear BK127; clear BK128; clear BK129; clear BK135; clear HB; have HO_11 := n0_; have HO_136001 := n1_; have BK127 := n2_; have BK128 := n3_; have BK129 := n4_; have BK135 := n5_; have HB := n6_; clear n0_ n1_ n2_ n3_ n4_ n5_ n6_; (try clear hb); (try clear hb2); (try clear hk); (try clear hi); have hnb91 := NB127_129.out; have hnc91 := NB129_127.out; have hnb92 := NB127_135.out; have hnc92 := NB135_127.out; have hcz93_0 : w90.cell? ⟨gb127, 0, none⟩ = some (.int .i64 a0_0) := (blk_cell BK127.out 0).trans rfl; have hcz93_1 : w90.cell? ⟨gb127, 1, none⟩ = some (.slice A0_1 l0_1.length c0_1) := (blk_cell BK127.out 1).trans rfl; have hfz93_0 := blk_frozen BK127.out 0; have hfz93_1 := blk_frozen BK127.out 1; have hnb94 := NB135_129.out; have hnc94 := NB129_135.out; have hcz95_0 : w90.cell? ⟨gb135, 0, none⟩ = some (.int .i64 t131) := (blk_cell BK135.out 0).trans rfl; have hcz95_1 : w90.cell? ⟨gb135, 1, none⟩ = some (.slice Ao22 t132.length co22) := (blk_cell BK135.out 1).trans rfl; have hfz95_0 := blk_frozen BK135.out 0; have hfz95_1 := blk_frozen BK135.out 1; have hcz96_0 : w90.cell? ⟨gb129, 0, none⟩ = some (.int .i64 0) := (blk_cell BK129.out 0).trans rfl; have hcz96_1 : w90.cell? ⟨gb129, 1, none⟩ = some (.slice none 0 0) := (blk_cell BK129.out 1).trans rfl; have hfz96_0 := blk_frozen BK129.out 0; have hfz96_1 := blk_frozen BK129.out 1))
          refine bodyPost_ret (results_ct rfl _ _ gb129 26 #[.int .i64 t131, .slice Ao22 t132.length co22] (0, 0) _ rfl (by (with_reducible repeat (first | refine blk_drewN ?_ _ | refine blk_drew ?_ | refine blk_alloc ?_ _)); refine blk_put (cs := #[.int .i64 t131, .slice none 0 0]) ?_ 1 _ rfl; (with_reducible repeat (first | refine blk_drewN ?_ _ | refine blk_drew ?_ | refine blk_alloc ?_ _)); refine blk_put (cs := #[.int .i64 0, .slice none 0 0]) ?_ 0 _ rfl; (with_reducible repeat (first | refine blk_drewN ?_ _ | refine blk_drew ?_ | refine blk_alloc ?_ _)); exact BK129.out) Try.underlying26 rfl (by kernel_rfl)) rfl ?_
          exact ⟨_, by first | rfl | (simp [errW_none, errW_some] <;> rfl) | (simp [*, errW_none, errW_some] <;> rfl), by (with_reducible repeat (first | apply Kd.R_alloc | apply Kd.R_drewN | apply Kd.R_drew)); exact Kd.R_mono (Kd.R_far (p := ⟨gb129, 1, none⟩) (Kd.R_far (p := ⟨gb129, 0, none⟩) (Kd.R_types HO_136001.out BK129.out (by decide)) (fun _ hk => hk.2) (.int .i64 t131)) (fun _ hk => hk.2) (.slice Ao22 t132.length co22)) (fun _ hk => trivial), bS⟩
         ·rw [if_neg c85] at H
          have c85b0 : decide (a2 ≤ a0_0) = false := decide_eq_false c85
          clear c85
          replace H := Option.bind_eq_some_iff.mp H
          obtain ⟨t148, A970, H⟩ := H
          replace H : (if t148 = true then (some (t131, t132, 4)) else (if (x11_1.length : Int) = 6 then (some (t131, t132, 5)) else (if x11_1.length < 5864062014805 then (some (t131, (x11_1 ++ [(⟨a1_0, a1_1, a1_2⟩ : S28)]), 0)) else (none)))) = some (r1, r2, r3) := H
          have A97 := Aside0.mk A970
          clear A970
          by_cases c98 : t148 = true
          ·subst c98
           have H1 : (some (t131, t132, 4)) = some (r1, r2, r3) := by rw [if_pos rfl] at H; exact H
           clear H
           have H := H1
           clear H1
           simp only [Option.some.injEq, Prod.mk.injEq] at H
           obtain ⟨rfl, rfl, rfl⟩ := H
           have hnb99 := NB128_127.out
           have hnc99 := NB127_128.out
           have hnb100 := NB128_129.out
           have hnc100 := NB129_128.out
           have hnb101 := NB128_135.out
           have hnc101 := NB135_128.out
           have hcz102_0 : wc.cell? ⟨gb128, 0, none⟩ = some (.int .i64 a1_0) := (blk_cell BK128.out 0).trans rfl
           have hcz102_1 : wc.cell? ⟨gb128, 1, none⟩ = some (.int .i64 a1_1) := (blk_cell BK128.out 1).trans rfl
           have hcz102_2 : wc.cell? ⟨gb128, 2, none⟩ = some (.int .i64 a1_2) := (blk_cell BK128.out 2).trans rfl
           have hfz102_0 := blk_frozen BK128.out 0
           have hfz102_1 := blk_frozen BK128.out 1
           have hfz102_2 := blk_frozen BK128.out 2
           go_wp2_with (first | ((with_reducible refine gate_callee (f := 30) rfl ?_); refine goesL_ (some 58) rfl rfl Try.func30 (by kernel_rfl) rfl #[.int .i64 a2, .int .i64 a1_1] rfl eA ?_; (with_reducible refine (impl_apart.calls a2 a1_1 t147 _ A73.out).mono ?_); rintro e w103 ⟨rfl, hb⟩; refine ⟨_, rfl, ?_⟩; have n0_ := Aside0.mk (Kd.R_below (kR HO_11.out) hb); have n1_ := Aside0.mk (Kd.R_below (kR HO_136001.out) hb); have n2_ := Aside0.mk (blk_below (kB BK127.out) hb); have n3_ := Aside0.mk (blk_below (kB BK128.out) hb); have n4_ := Aside0.mk (blk_below (kB BK129.out) hb); have n5_ := Aside0.mk (blk_below (kB BK135.out) hb); have n6_ := Aside0.mk (below_step bS hb); clear HO_11; clear HO_136001; clear BK127; clear BK128; clear BK129; clear BK135; clear HB; have HO_11 := n0_; have HO_136001 := n1_; have BK127 := n2_; have BK128 := n3_; have BK129 := n4_; have BK135 := n5_; have HB := n6_; clear n0_ n1_ n2_ n3_ n4_ n5_ n6_; (try clear hb); (try clear hb2); (try clear hk); (try clear hi); have hnb104 := NB127_129.out; have hnc104 := NB129_127.out; have hnb105 := NB127_135.out; have hnc105 := NB135_127.out; have hcz106_0 : w103.cell? ⟨gb127, 0, none⟩ = some (.int .i64 a0_0) := (blk_cell BK127.out 0).trans rfl; have hcz106_1 : w103.cell? ⟨gb127, 1, none⟩ = some (.slice A0_1 l0_1.length c0_1) := (blk_cell BK127.out 1).trans rfl; have hfz106_0 := blk_frozen BK127.out 0; have hfz106_1 := blk_frozen BK127.out 1; have hcz107_0 : w103.cell? ⟨gb128, 0, none⟩ = some (.int .i64 a1_0) := (blk_cell BK128.out 0).trans rfl; have hcz107_1 : w103.cell? ⟨gb128, 1, none⟩ = some (.int .i64 a1_1) := (blk_cell BK128.out 1).trans rfl; have hcz107_2 : w103.cell? ⟨gb128, 2, none⟩ = some (.int .i64 a1_2) := (blk_cell BK128.out 2).trans rfl; have hfz107_0 := blk_frozen BK128.out 0; have hfz107_1 := blk_frozen BK128.out 1; have hfz107_2 := blk_frozen BK128.out 2) | ((with_reducible refine gate_callee (f := 31) rfl ?_); refine goesL_ (some 72) rfl rfl Try.func31 (by kernel_rfl) rfl #[.slice A0_1 l0_1.length c0_1, .agg #[.int .i64 a1_0, .int .i64 a1_1, .int .i64 a1_2]] rfl eA ?_; (with_reducible refine (impl_Auth_31.calls kj43 _ _ l0_1 a1_0 a1_1 a1_2 true _ ?side1 ?side2 A97.out).mono ?_); (case side1 => repeat (first | exact (Kd.C_below HR0_1.out HB.out) | (with_reducible refine Kd.C_alloc ?_ _) | (with_reducible refine Kd.C_drewN ?_ _) | (with_reducible refine Kd.C_drew ?_))); (case side2 => exact HC0_1.out); rintro e w108 ⟨rfl, hb⟩; refine ⟨_, rfl, ?_⟩; have n0_ := Aside0.mk (Kd.R_below (kR HO_11.out) hb); have n1_ := Aside0.mk (Kd.R_below (kR HO_136001.out) hb); have n2_ := Aside0.mk (blk_below (kB BK127.out) hb); have n3_ := Aside0.mk (blk_below (kB BK128.out) hb); have n4_ := Aside0.mk (blk_below (kB BK129.out) hb); have n5_ := Aside0.mk (blk_below (kB BK135.out) hb); have n6_ := Aside0.mk (below_step bS hb); clear HO_11; clear HO_136001; clear BK127; clear BK128; clear BK129; clear BK135; clear HB; have HO_11 := n0_; have HO_136001 := n1_; have BK127 := n2_; have BK128 := n3_; have BK129 := n4_; have BK135 := n5_; have HB := n6_; clear n0_ n1_ n2_ n3_ n4_ n5_ n6_; (try clear hb); (try clear hb2); (try clear hk); (try clear hi); have hnb109 := NB135_129.out; have hnc109 := NB129_135.out; have hcz110_0 : w108.cell? ⟨gb135, 0, none⟩ = some (.int .i64 t131) := (blk_cell BK135.out 0).trans rfl; have hcz110_1 : w108.cell? ⟨gb135, 1, none⟩ = some (.slice Ao22 t132.length co22) := (blk_cell BK135.out 1).trans rfl; have hfz110_0 := blk_frozen BK135.out 0; have hfz110_1 := blk_frozen BK135.out 1; have hcz111_0 : w108.cell? ⟨gb129, 0, none⟩ = some (.int .i64 0) := (blk_cell BK129.out 0).trans rfl; have hcz111_1 : w108.cell? ⟨gb129, 1, none⟩ = some (.slice none 0 0) := (blk_cell BK129.out 1).trans rfl; have hfz111_0 := blk_frozen BK129.out 0; have hfz111_1 := blk_frozen BK129.out 1))
           refine bodyPost_ret (results_ct rfl _ _ gb129 26 #[.int .i64 t131, .slice Ao22 t132.length co22] (0, 0) _ rfl (by (with_reducible repeat (first | refine blk_drewN ?_ _ | refine blk_drew ?_ | refine blk_alloc ?_ _)); refine blk_put (cs := #[.int .i64 t131, .slice none 0 0]) ?_ 1 _ rfl; (with_reducible repeat (first | refine blk_drewN ?_ _ | refine blk_drew ?_ | refine blk_alloc ?_ _)); refine blk_put (cs := #[.int .i64 0, .slice none 0 0]) ?_ 0 _ rfl; (with_reducible repeat (first | refine blk_drewN ?_ _ | refine blk_drew ?_ | refine blk_alloc ?_ _)); exact BK129.out) Try.underlying26 rfl (by kernel_rfl)) rfl ?_
           exact ⟨_, by first | rfl | (simp [errW_none, errW_some] <;> rfl) | (simp [*, errW_none, errW_some] <;> rfl), by (with_reducible repeat (first | apply Kd.R_alloc | apply Kd.R_drewN | apply Kd.R_drew)); exact Kd.R_mono (Kd.R_far (p := ⟨gb129, 1, none⟩) (Kd.R_far (p := ⟨gb129, 0, none⟩) (Kd.R_types HO_136001.out BK129.out (by decide)) (fun _ hk => hk.2) (.int .i64 t131)) (fun _ hk => hk.2) (.slice Ao22 t132.length co22)) (fun _ hk => trivial), bS⟩
          ·replace c98 := Bool.eq_false_iff.mpr c98
           subst c98
           have H1 : (if (x11_1.length : Int) = 6 then (some (t131, t132, 5)) else (if x11_1.length < 5864062014805 then (some (t131, (x11_1 ++ [(⟨a1_0, a1_1, a1_2⟩ : S28)]), 0)) else (none))) = some (r1, r2, r3) := by rw [if_neg (show ¬ (false = true) by decide)] at H; exact H
           clear H
           have H := H1
           clear H1
           by_cases c112 : (x11_1.length : Int) = 6
           ·rw [if_pos c112] at H
            have c112b0 : ((x11_1.length : Int) == 6) = true := beq_iff_eq.mpr c112
            have c112b1 : ((x11_1.length : Int) != 6) = false := bne_eq_false_iff_eq.mpr c112
            clear c112
            simp only [Option.some.injEq, Prod.mk.injEq] at H
            obtain ⟨rfl, rfl, rfl⟩ := H
            have hnb113 := NB128_127.out
            have hnc113 := NB127_128.out
            have hnb114 := NB128_129.out
            have hnc114 := NB129_128.out
            have hnb115 := NB128_135.out
            have hnc115 := NB135_128.out
            have hcz116_0 : wc.cell? ⟨gb128, 0, none⟩ = some (.int .i64 a1_0) := (blk_cell BK128.out 0).trans rfl
            have hcz116_1 : wc.cell? ⟨gb128, 1, none⟩ = some (.int .i64 a1_1) := (blk_cell BK128.out 1).trans rfl
            have hcz116_2 : wc.cell? ⟨gb128, 2, none⟩ = some (.int .i64 a1_2) := (blk_cell BK128.out 2).trans rfl
            have hfz116_0 := blk_frozen BK128.out 0
            have hfz116_1 := blk_frozen BK128.out 1
            have hfz116_2 := blk_frozen BK128.out 2
            go_wp2_with (first | ((with_reducible refine gate_callee (f := 30) rfl ?_); refine goesL_ (some 58) rfl rfl Try.func30 (by kernel_rfl) rfl #[.int .i64 a2, .int .i64 a1_1] rfl eA ?_; (with_reducible refine (impl_apart.calls a2 a1_1 t147 _ A73.out).mono ?_); rintro e w117 ⟨rfl, hb⟩; refine ⟨_, rfl, ?_⟩; have n0_ := Aside0.mk (Kd.R_below (kR HO_11.out) hb); have n1_ := Aside0.mk (Kd.R_below (kR HO_136001.out) hb); have n2_ := Aside0.mk (blk_below (kB BK127.out) hb); have n3_ := Aside0.mk (blk_below (kB BK128.out) hb); have n4_ := Aside0.mk (blk_below (kB BK129.out) hb); have n5_ := Aside0.mk (blk_below (kB BK135.out) hb); have n6_ := Aside0.mk (below_step bS hb); clear HO_11; clear HO_136001; clear BK127; clear BK128; clear BK129; clear BK135; clear HB; have HO_11 := n0_; have HO_136001 := n1_; have BK127 := n2_; have BK128 := n3_; have BK129 := n4_; have BK135 := n5_; have HB := n6_; clear n0_ n1_ n2_ n3_ n4_ n5_ n6_; (try clear hb); (try clear hb2); (try clear hk); (try clear hi); have hnb118 := NB127_129.out; have hnc118 := NB129_127.out; have hnb119 := NB127_135.out; have hnc119 := NB135_127.out; have hcz120_0 : w117.cell? ⟨gb127, 0, none⟩ = some (.int .i64 a0_0) := (blk_cell BK127.out 0).trans rfl; have hcz120_1 : w117.cell? ⟨gb127, 1, none⟩ = some (.slice A0_1 l0_1.length c0_1) := (blk_cell BK127.out 1).trans rfl; have hfz120_0 := blk_frozen BK127.out 0; have hfz120_1 := blk_frozen BK127.out 1; have hcz121_0 : w117.cell? ⟨gb128, 0, none⟩ = some (.int .i64 a1_0) := (blk_cell BK128.out 0).trans rfl; have hcz121_1 : w117.cell? ⟨gb128, 1, none⟩ = some (.int .i64 a1_1) := (blk_cell BK128.out 1).trans rfl; have hcz121_2 : w117.cell? ⟨gb128, 2, none⟩ = some (.int .i64 a1_2) := (blk_cell BK128.out 2).trans rfl; have hfz121_0 := blk_frozen BK128.out 0; have hfz121_1 := blk_frozen BK128.out 1; have hfz121_2 := blk_frozen BK128.out 2) | ((with_reducible refine gate_callee (f := 31) rfl ?_); refine goesL_ (some 72) rfl rfl Try.func31 (by kernel_rfl) rfl #[.slice A0_1 l0_1.length c0_1, .agg #[.int .i64 a1_0, .int .i64 a1_1, .int .i64 a1_2]] rfl eA ?_; (with_reducible refine (impl_Auth_31.calls kj43 _ _ l0_1 a1_0 a1_1 a1_2 false _ ?side1 ?side2 A97.out).mono ?_); (case side1 => repeat (first | exact (Kd.C_below HR0_1.out HB.out) | (with_reducible refine Kd.C_alloc ?_ _) | (with_reducible refine Kd.C_drewN ?_ _) | (with_reducible refine Kd.C_drew ?_))); (case side2 => exact HC0_1.out); rintro e w122 ⟨rfl, hb⟩; refine ⟨_, rfl, ?_⟩; have n0_ := Aside0.mk (Kd.R_below (kR HO_11.out) hb); have n1_ := Aside0.mk (Kd.R_below (kR HO_136001.out) hb); have n2_ := Aside0.mk (blk_below (kB BK127.out) hb); have n3_ := Aside0.mk (blk_below (kB BK128.out) hb); have n4_ := Aside0.mk (blk_below (kB BK129.out) hb); have n5_ := Aside0.mk (blk_below (kB BK135.out) hb); have n6_ := Aside0.mk (below_step bS hb); clear HO_11; clear HO_136001; clear BK127; clear BK128; clear BK129; clear BK135; clear HB; have HO_11 := n0_; have HO_136001 := n1_; have BK127 := n2_; have BK128 := n3_; have BK129 := n4_; have BK135 := n5_; have HB := n6_; clear n0_ n1_ n2_ n3_ n4_ n5_ n6_; (try clear hb); (try clear hb2); (try clear hk); (try clear hi); obtain ⟨Ao123, co123, eo123⟩ := Kd.R_slice HO_11.out; subst eo123; have hnb124 := NB135_129.out; have hnc124 := NB129_135.out; have hcz125_0 : w122.cell? ⟨gb135, 0, none⟩ = some (.int .i64 t131) := (blk_cell BK135.out 0).trans rfl; have hcz125_1 : w122.cell? ⟨gb135, 1, none⟩ = some (.slice Ao22 t132.length co22) := (blk_cell BK135.out 1).trans rfl; have hfz125_0 := blk_frozen BK135.out 0; have hfz125_1 := blk_frozen BK135.out 1; have hcz126_0 : w122.cell? ⟨gb129, 0, none⟩ = some (.int .i64 0) := (blk_cell BK129.out 0).trans rfl; have hcz126_1 : w122.cell? ⟨gb129, 1, none⟩ = some (.slice none 0 0) := (blk_cell BK129.out 1).trans rfl; have hfz126_0 := blk_frozen BK129.out 0; have hfz126_1 := blk_frozen BK129.out 1))
            refine bodyPost_ret (results_ct rfl _ _ gb129 26 #[.int .i64 t131, .slice Ao22 t132.length co22] (0, 0) _ rfl (by (with_reducible repeat (first | refine blk_drewN ?_ _ | refine blk_drew ?_ | refine blk_alloc ?_ _)); refine blk_put (cs := #[.int .i64 t131, .slice none 0 0]) ?_ 1 _ rfl; (with_reducible repeat (first | refine blk_drewN ?_ _ | refine blk_drew ?_ | refine blk_alloc ?_ _)); refine blk_put (cs := #[.int .i64 0, .slice none 0 0]) ?_ 0 _ rfl; (with_reducible repeat (first | refine blk_drewN ?_ _ | refine blk_drew ?_ | refine blk_alloc ?_ _)); exact BK129.out) Try.underlying26 rfl (by kernel_rfl)) rfl ?_
            exact ⟨_, by first | rfl | (simp [errW_none, errW_some] <;> rfl) | (simp [*, errW_none, errW_some] <;> rfl), by (with_reducible repeat (first | apply Kd.R_alloc | apply Kd.R_drewN | apply Kd.R_drew)); exact Kd.R_mono (Kd.R_far (p := ⟨gb129, 1, none⟩) (Kd.R_far (p := ⟨gb129, 0, none⟩) (Kd.R_types HO_136001.out BK129.out (by decide)) (fun _ hk => hk.2) (.int .i64 t131)) (fun _ hk => hk.2) (.slice Ao22 t132.length co22)) (fun _ hk => trivial), bS⟩
           ·rw [if_neg c112] at H
            have c112b0 : ((x11_1.length : Int) == 6) = false := beq_eq_false_iff_ne.mpr c112
            have c112b1 : ((x11_1.length : Int) != 6) = true := bne_iff_ne.mpr c112
            by_cases c127 : x11_1.length < 5864062014805
            ·rw [if_pos c127] at H
             have LMc127 := Aside0.mk c127
             clear c127
             obtain ⟨y149, hy149⟩ : ∃ y_ : List (S28), y_ = (x11_1 ++ [(⟨a1_0, a1_1, a1_2⟩ : S28)]) := ⟨_, rfl⟩
             replace H : (some (t131, y149, 0)) = some (r1, r2, r3) := by first | (rw [hy149]; with_reducible exact H) | (have H2_ := (Option.bind_some _ _).symm.trans H; rw [hy149]; with_reducible exact H2_) | (have H2_ := (Option.bind_some _ _).symm.trans H; with_reducible exact H2_) | with_reducible exact H | (rw [hy149]; exact H) | exact H
             have Ny149 := Aside0.mk hy149
             clear hy149
             simp only [Option.some.injEq, Prod.mk.injEq] at H
             obtain ⟨rfl, rfl, rfl⟩ := H
             have hnb128 := NB128_127.out
             have hnc128 := NB127_128.out
             have hnb129 := NB128_129.out
             have hnc129 := NB129_128.out
             have hnb130 := NB128_135.out
             have hnc130 := NB135_128.out
             have hcz131_0 : wc.cell? ⟨gb128, 0, none⟩ = some (.int .i64 a1_0) := (blk_cell BK128.out 0).trans rfl
             have hcz131_1 : wc.cell? ⟨gb128, 1, none⟩ = some (.int .i64 a1_1) := (blk_cell BK128.out 1).trans rfl
             have hcz131_2 : wc.cell? ⟨gb128, 2, none⟩ = some (.int .i64 a1_2) := (blk_cell BK128.out 2).trans rfl
             have hfz131_0 := blk_frozen BK128.out 0
             have hfz131_1 := blk_frozen BK128.out 1
             have hfz131_2 := blk_frozen BK128.out 2
             go_wp2_with (first | ((with_reducible refine gate_callee (f := 30) rfl ?_); refine goesL_ (some 58) rfl rfl Try.func30 (by kernel_rfl) rfl #[.int .i64 a2, .int .i64 a1_1] rfl eA ?_; (with_reducible refine (impl_apart.calls a2 a1_1 t147 _ A73.out).mono ?_); rintro e w132 ⟨rfl, hb⟩; refine ⟨_, rfl, ?_⟩; have n0_ := Aside0.mk (Kd.R_below (kR HO_11.out) hb); have n1_ := Aside0.mk (Kd.R_below (kR HO_136001.out) hb); have n2_ := Aside0.mk (blk_below (kB BK127.out) hb); have n3_ := Aside0.mk (blk_below (kB BK128.out) hb); have n4_ := Aside0.mk (blk_below (kB BK129.out) hb); have n5_ := Aside0.mk (blk_below (kB BK135.out) hb); have n6_ := Aside0.mk (below_step bS hb); clear HO_11; clear HO_136001; clear BK127; clear BK128; clear BK129; clear BK135; clear HB; have HO_11 := n0_; have HO_136001 := n1_; have BK127 := n2_; have BK128 := n3_; have BK129 := n4_; have BK135 := n5_; have HB := n6_; clear n0_ n1_ n2_ n3_ n4_ n5_ n6_; (try clear hb); (try clear hb2); (try clear hk); (try clear hi); have hnb133 := NB127_129.out; have hnc133 := NB129_127.out; have hnb134 := NB127_135.out; have hnc134 := NB135_127.out; have hcz135_0 : w132.cell? ⟨gb127, 0, none⟩ = some (.int .i64 a0_0) := (blk_cell BK127.out 0).trans rfl; have hcz135_1 : w132.cell? ⟨gb127, 1, none⟩ = some (.slice A0_1 l0_1.length c0_1) := (blk_cell BK127.out 1).trans rfl; have hfz135_0 := blk_frozen BK127.out 0; have hfz135_1 := blk_frozen BK127.out 1; have hcz136_0 : w132.cell? ⟨gb128, 0, none⟩ = some (.int .i64 a1_0) := (blk_cell BK128.out 0).trans rfl; have hcz136_1 : w132.cell? ⟨gb128, 1, none⟩ = some (.int .i64 a1_1) := (blk_cell BK128.out 1).trans rfl; have hcz136_2 : w132.cell? ⟨gb128, 2, none⟩ = some (.int .i64 a1_2) := (blk_cell BK128.out 2).trans rfl; have hfz136_0 := blk_frozen BK128.out 0; have hfz136_1 := blk_frozen BK128.out 1; have hfz136_2 := blk_frozen BK128.out 2) | ((with_reducible refine gate_callee (f := 31) rfl ?_); refine goesL_ (some 72) rfl rfl Try.func31 (by kernel_rfl) rfl #[.slice A0_1 l0_1.length c0_1, .agg #[.int .i64 a1_0, .int .i64 a1_1, .int .i64 a1_2]] rfl eA ?_; (with_reducible refine (impl_Auth_31.calls kj43 _ _ l0_1 a1_0 a1_1 a1_2 false _ ?side1 ?side2 A97.out).mono ?_); (case side1 => repeat (first | exact (Kd.C_below HR0_1.out HB.out) | (with_reducible refine Kd.C_alloc ?_ _) | (with_reducible refine Kd.C_drewN ?_ _) | (with_reducible refine Kd.C_drew ?_))); (case side2 => exact HC0_1.out); rintro e w137 ⟨rfl, hb⟩; refine ⟨_, rfl, ?_⟩; have n0_ := Aside0.mk (Kd.R_below (kR HO_11.out) hb); have n1_ := Aside0.mk (Kd.R_below (kR HO_136001.out) hb); have n2_ := Aside0.mk (blk_below (kB BK127.out) hb); have n3_ := Aside0.mk (blk_below (kB BK128.out) hb); have n4_ := Aside0.mk (blk_below (kB BK129.out) hb); have n5_ := Aside0.mk (blk_below (kB BK135.out) hb); have n6_ := Aside0.mk (below_step bS hb); clear HO_11; clear HO_136001; clear BK127; clear BK128; clear BK129; clear BK135; clear HB; have HO_11 := n0_; have HO_136001 := n1_; have BK127 := n2_; have BK128 := n3_; have BK129 := n4_; have BK135 := n5_; have HB := n6_; clear n0_ n1_ n2_ n3_ n4_ n5_ n6_; (try clear hb); (try clear hb2); (try clear hk); (try clear hi); obtain ⟨Ao138, co138, eo138⟩ := Kd.R_slice HO_11.out; subst eo138; have hcz139_0 : w137.cell? ⟨gb128, 0, none⟩ = some (.int .i64 a1_0) := (blk_cell BK128.out 0).trans rfl; have hcz139_1 : w137.cell? ⟨gb128, 1, none⟩ = some (.int .i64 a1_1) := (blk_cell BK128.out 1).trans rfl; have hcz139_2 : w137.cell? ⟨gb128, 2, none⟩ = some (.int .i64 a1_2) := (blk_cell BK128.out 2).trans rfl; have hfz139_0 := blk_frozen BK128.out 0; have hfz139_1 := blk_frozen BK128.out 1; have hfz139_2 := blk_frozen BK128.out 2) | ((with_reducible refine gate_builtin (b := .append) (xs := #[.tmp 79, .tmp 81]) rfl ?_); at_builtin; refine Kd.R_append k28 (w0 := w) w.heap.size rfl (.tmp 79) (.tmp 81) 24 28 (.agg #[(.int .i64 0), (.int .i64 0), (.int .i64 0)]) 24 rfl Try.underlying24 info28 rfl (by decide) (by omega) (.slice Ao138 x11_1.length co138) x11_1 (⟨a1_0, a1_1, a1_2⟩ : S28) [.int .i64 a1_0, .int .i64 a1_1, .int .i64 a1_2] (fun k_ => some k_ ≠ (.slice Ao22 t132.length co22 : Value).ownBlock ∧ k_ ≠ gb128) (fun _ => False) rfl rfl ?aP (fun _ hk => hk.elim) ?aF ?aO ?aB ?aS ?aL ?_; (case aP => exact k28_mkM _ _ _ (⟨a1_0, a1_1, a1_2⟩ : S28)); (case aB => exact bS); (case aF => exact (fun k_ hk => ⟨Kd.fresh' (Kd.R_lt (kR HO_136001.out)) k_ hk, Kd.freshB (g := gb128) (o := .cells #[.int .i64 a1_0, .int .i64 a1_1, .int .i64 a1_2] 28 (0, 0)) (kB BK128.out) k_ hk⟩)); (case aO => exact (kR HO_11.out)); (case aS => exact (below_size bS)); (case aL => have := LMc127.out; omega); intro v150 w140 ho hb hg hat; rw [← Ny149.out] at ho; have n0_ := Aside0.mk (Kd.R_after (ok := (fun k_ => k_ ≠ gb128)) (by (with_reducible repeat (first | apply Kd.R_alloc | apply Kd.R_drewN | apply Kd.R_drew)); exact Kd.R_mono HO_136001.out (fun _ hk => ⟨hk.2, hk.1⟩)) hg hat); have n1_ := Aside0.mk (blk_grown (g := gb127) (o := .cells #[.int .i64 a0_0, .slice A0_1 l0_1.length c0_1] 26 (0, 0)) (kB BK127.out) hg (Kd.R_ne HO_11.out BK127.out (by decide))); have n2_ := Aside0.mk (blk_grown (g := gb128) (o := .cells #[.int .i64 a1_0, .int .i64 a1_1, .int .i64 a1_2] 28 (0, 0)) (kB BK128.out) hg (Kd.R_away HO_11.out (fun _ hk => hk.2))); have n3_ := Aside0.mk (blk_grown (g := gb129) (o := .cells #[.int .i64 0, .slice none 0 0] 26 (0, 0)) (kB BK129.out) hg (Kd.R_ne HO_11.out BK129.out (by decide))); have n4_ := Aside0.mk (blk_grown (g := gb135) (o := .cells #[.int .i64 t131, .slice Ao22 t132.length co22] 26 (0, 0)) (kB BK135.out) hg (Kd.R_ne HO_11.out BK135.out (by decide))); have n5_ := Aside0.mk (hb); have n6_ := Aside0.mk (ho); clear HO_136001; clear BK127; clear BK128; clear BK129; clear BK135; clear HB; clear HO_11; have HO_136001 := n0_; have BK127 := n1_; have BK128 := n2_; have BK129 := n3_; have BK135 := n4_; have HB := n5_; have HO151 := n6_; clear n0_ n1_ n2_ n3_ n4_ n5_ n6_; clear ho hb hg hat; obtain ⟨Ao141, co141, eo141⟩ := Kd.R_slice HO151.out; subst eo141; have hnb142 := NB135_129.out; have hnc142 := NB129_135.out; have hcz143_0 : w140.cell? ⟨gb135, 0, none⟩ = some (.int .i64 t131) := (blk_cell BK135.out 0).trans rfl; have hcz143_1 : w140.cell? ⟨gb135, 1, none⟩ = some (.slice Ao22 t132.length co22) := (blk_cell BK135.out 1).trans rfl; have hfz143_0 := blk_frozen BK135.out 0; have hfz143_1 := blk_frozen BK135.out 1; have hcz144_0 : w140.cell? ⟨gb129, 0, none⟩ = some (.int .i64 0) := (blk_cell BK129.out 0).trans rfl; have hcz144_1 : w140.cell? ⟨gb129, 1, none⟩ = some (.slice none 0 0) := (blk_cell BK129.out 1).trans rfl; have hfz144_0 := blk_frozen BK129.out 0; have hfz144_1 := blk_frozen BK129.out 1))
             refine bodyPost_ret (results_ct rfl _ _ gb129 26 #[.int .i64 t131, .slice Ao141 y149.length co141] (0, 0) _ rfl (by (with_reducible repeat (first | refine blk_drewN ?_ _ | refine blk_drew ?_ | refine blk_alloc ?_ _)); refine blk_put (cs := #[.int .i64 t131, .slice none 0 0]) ?_ 1 _ rfl; (with_reducible repeat (first | refine blk_drewN ?_ _ | refine blk_drew ?_ | refine blk_alloc ?_ _)); refine blk_put (cs := #[.int .i64 0, .slice none 0 0]) ?_ 0 _ rfl; (with_reducible repeat (first | refine blk_drewN ?_ _ | refine blk_drew ?_ | refine blk_alloc ?_ _)); refine blk_far ?_ NB129_135.out _; (with_reducible repeat (first | refine blk_drewN ?_ _ | refine blk_drew ?_ | refine blk_alloc ?_ _)); exact BK129.out) Try.underlying26 rfl (by kernel_rfl)) rfl ?_
             exact ⟨_, by first | rfl | (simp [errW_none, errW_some] <;> rfl) | (simp [*, errW_none, errW_some] <;> rfl), by (with_reducible repeat (first | apply Kd.R_alloc | apply Kd.R_drewN | apply Kd.R_drew)); exact Kd.R_mono (Kd.R_far (p := ⟨gb129, 1, none⟩) (Kd.R_far (p := ⟨gb129, 0, none⟩) (Kd.R_far (p := ⟨gb135, 1, none⟩) (Kd.R_types (Kd.R_types HO151.out BK135.out (by decide)) BK129.out (by decide)) (fun _ hk => hk.1.2) (.slice Ao141 y149.length co141)) (fun _ hk => hk.2) (.int .i64 t131)) (fun _ hk => hk.2) (.slice Ao141 y149.length co141)) (fun _ hk => trivial), bS⟩
            ·rw [if_neg c127] at H
             exact absurd H (by simp)
 ·replace c6 := Bool.eq_false_iff.mpr c6
  subst c6
  have H1 : (some (0, ([] : List (S28)), 1)) = some (r1, r2, r3) := by rw [if_neg (show ¬ (false = true) by decide)] at H; exact H
  clear H
  have H := H1
  clear H1
  simp only [Option.some.injEq, Prod.mk.injEq] at H
  obtain ⟨rfl, rfl, rfl⟩ := H
  go_enter Try.func7, Try.ntmps7
  go_wp2_with (first | ((with_reducible refine gate_dst (N := 4) rfl ?_); refine box_event ?hg (N := 4) ?hd (cs := #[.int .i64 a0_0, .slice A0_1 l0_1.length c0_1]) (t := 26) ?hr ?_; (case hd => rfl); (case hg => rfl); (case hr => first | (go_simp; done) | (go_simp; rfl)); intro gb127 hg w145 hbox hb; have n0_ := Aside0.mk (below_step bH hb); have n1_ := Aside0.mk (hbox); have n2_ := Aside0.mk ((bZ hg : w.heap.size ≤ gb127)); have n3_ := Aside0.mk ((bZ hg : w.heap.size ≤ gb127)); clear HB; have HB := n0_; have BK127 := n1_; have GW127 := n2_; have GE127 := n3_; clear n0_ n1_ n2_ n3_; clear hb hbox hg) | ((with_reducible refine gate_dst (N := 5) rfl ?_); refine box_event ?hg (N := 5) ?hd (cs := #[.int .i64 a1_0, .int .i64 a1_1, .int .i64 a1_2]) (t := 28) ?hr ?_; (case hd => rfl); (case hg => rfl); (case hr => first | (go_simp; done) | (go_simp; rfl)); intro gb128 hg w146 hbox hb; have n0_ := Aside0.mk (blk_below (kB BK127.out) hb); have n1_ := Aside0.mk (below_step bS hb); have n2_ := Aside0.mk (hbox); have n3_ := Aside0.mk ((bZ hg : w.heap.size ≤ gb128)); have n4_ := Aside0.mk ((bZ hg : w.heap.size ≤ gb128)); have n5_ := Aside0.mk ((nL hg BK127.out : gb127 ≠ gb128)); have n6_ := Aside0.mk ((nG hg BK127.out : gb128 ≠ gb127)); clear BK127; clear HB; have BK127 := n0_; have HB := n1_; have BK128 := n2_; have GW128 := n3_; have GE128 := n4_; have NB127_128 := n5_; have NB128_127 := n6_; clear n0_ n1_ n2_ n3_ n4_ n5_ n6_; clear hb hbox hg) | ((with_reducible refine gate_dst (N := 8) rfl ?_); refine box_event ?hg (N := 8) ?hd (cs := #[.int .i64 0, .slice none 0 0]) (t := 26) ?hr ?_; (case hd => rfl); (case hg => rfl); (case hr => first | (go_simp; done) | (go_simp; rfl)); intro gb129 hg w147 hbox hb; have n0_ := Aside0.mk (blk_below (kB BK127.out) hb); have n1_ := Aside0.mk (blk_below (kB BK128.out) hb); have n2_ := Aside0.mk (below_step bS hb); have n3_ := Aside0.mk (hbox); have n4_ := Aside0.mk ((bZ hg : w.heap.size ≤ gb129)); have n5_ := Aside0.mk ((bZ hg : w.heap.size ≤ gb129)); have n6_ := Aside0.mk ((nL hg BK127.out : gb127 ≠ gb129)); have n7_ := Aside0.mk ((nG hg BK127.out : gb129 ≠ gb127)); have n8_ := Aside0.mk ((nL hg BK128.out : gb128 ≠ gb129)); have n9_ := Aside0.mk ((nG hg BK128.out : gb129 ≠ gb128)); clear BK127; clear BK128; clear HB; have BK127 := n0_; have BK128 := n1_; have HB := n2_; have BK129 := n3_; have GW129 := n4_; have GE129 := n5_; have NB127_129 := n6_; have NB129_127 := n7_; have NB128_129 := n8_; have NB129_128 := n9_; clear n0_ n1_ n2_ n3_ n4_ n5_ n6_ n7_ n8_ n9_; clear hb hbox hg; have hnb148 := NB127_128.out; have hnc148 := NB128_127.out; have hnb149 := NB127_129.out; have hnc149 := NB129_127.out; have hcz150_0 : w147.cell? ⟨gb127, 0, none⟩ = some (.int .i64 a0_0) := (blk_cell BK127.out 0).trans rfl; have hcz150_1 : w147.cell? ⟨gb127, 1, none⟩ = some (.slice A0_1 l0_1.length c0_1) := (blk_cell BK127.out 1).trans rfl; have hfz150_0 := blk_frozen BK127.out 0; have hfz150_1 := blk_frozen BK127.out 1) | ((with_reducible refine gate_callee (f := 25) rfl ?_); refine goesL_ (some 15) rfl rfl Try.func25 (by kernel_rfl) rfl #[.agg #[.int .i64 a0_0, .slice A0_1 l0_1.length c0_1]] rfl eA ?_; (with_reducible refine (impl_CacheOk.calls k a0_0 _ _ l0_1 false _ ?side1 ?side2 A5.out).mono ?_); (case side1 => repeat (first | exact (Kd.C_below HR0_1.out HB.out) | (with_reducible refine Kd.C_alloc ?_ _) | (with_reducible refine Kd.C_drewN ?_ _) | (with_reducible refine Kd.C_drew ?_))); (case side2 => exact HC0_1.out); rintro e w151 ⟨rfl, hb⟩; refine ⟨_, rfl, ?_⟩; have n0_ := Aside0.mk (blk_below (kB BK127.out) hb); have n1_ := Aside0.mk (blk_below (kB BK128.out) hb); have n2_ := Aside0.mk (blk_below (kB BK129.out) hb); have n3_ := Aside0.mk (below_step bS hb); clear BK127; clear BK128; clear BK129; clear HB; have BK127 := n0_; have BK128 := n1_; have BK129 := n2_; have HB := n3_; clear n0_ n1_ n2_ n3_; (try clear hb); (try clear hb2); (try clear hk); (try clear hi); have hnb152 := NB129_128.out; have hnc152 := NB128_129.out; have hcz153_0 : w151.cell? ⟨gb129, 0, none⟩ = some (.int .i64 0) := (blk_cell BK129.out 0).trans rfl; have hcz153_1 : w151.cell? ⟨gb129, 1, none⟩ = some (.slice none 0 0) := (blk_cell BK129.out 1).trans rfl; have hfz153_0 := blk_frozen BK129.out 0; have hfz153_1 := blk_frozen BK129.out 1))
  refine bodyPost_ret (results_ct rfl _ _ gb129 26 #[.int .i64 0, .slice none 0 0] (0, 0) _ rfl (by (with_reducible repeat (first | refine blk_drewN ?_ _ | refine blk_drew ?_ | refine blk_alloc ?_ _)); refine blk_put (cs := #[.int .i64 0, .slice none 0 0]) ?_ 1 _ rfl; (with_reducible repeat (first | refine blk_drewN ?_ _ | refine blk_drew ?_ | refine blk_alloc ?_ _)); refine blk_put (cs := #[.int .i64 0, .slice none 0 0]) ?_ 0 _ rfl; (with_reducible repeat (first | refine blk_drewN ?_ _ | refine blk_drew ?_ | refine blk_alloc ?_ _)); exact BK129.out) Try.underlying26 rfl (by kernel_rfl)) rfl ?_
  exact ⟨_, by first | rfl | (simp [errW_none, errW_some] <;> rfl) | (simp [*, errW_none, errW_some] <;> rfl), by first | exact Kd.R_nil _ _ _ _ _ | exact Kd.N_nil _ _ _ _ _ | exact Kd.V_nil _ _ _ _ _ | exact Kd.Q_nil _ _ _ _ _ | exact Kd.S_nil _ _ _ _ _, bS⟩

/-! ### spec_l1In: function 34 -/
def spec_l1In.f (a0 : Int) (a1 : Int) (a2 : Int) : Option (Bool) := if a0 ≥ a1 then (some (decide (a0 ≤ a2))) else (some false)
set_option maxHeartbeats 8000000 in
set_option maxRecDepth 100000 in
theorem spec_l1In.calls (a0 : Int) (a1 : Int) (a2 : Int) (r : Bool) (w : World) (h : spec_l1In.f a0 a1 a2 = some r) :
  Calls Try.prog 34 #[.int .i64 a0, .int .i64 a1, .int .i64 a2] w fun e w' => e = .returned (.bool r) ∧ Drawn0 w w' := by
 have H : (if a0 ≥ a1 then (some (decide (a0 ≤ a2))) else (some false)) = some r := h
 clear h
 by_cases c4 : a0 ≥ a1
 ·rw [if_pos c4] at H
  have c4b0 : decide (a1 ≤ a0) = true := decide_eq_true c4
  clear c4
  obtain rfl := Option.some.inj H
  go_enter Try.func34, Try.ntmps34
  go_wp2
  go_ret
  exact ⟨by first | rfl | (simp; done) | (simp [*]; done), by repeat (first | exact Drawn0.refl _ | apply Drawn0.step)⟩
 ·rw [if_neg c4] at H
  have c4b0 : decide (a1 ≤ a0) = false := decide_eq_false c4
  clear c4
  obtain rfl := Option.some.inj H
  go_enter Try.func34, Try.ntmps34
  go_wp2
  go_ret
  exact ⟨by first | rfl | (simp; done) | (simp [*]; done), by repeat (first | exact Drawn0.refl _ | apply Drawn0.step)⟩

/-! ### spec_l5Principal: function 49 -/
def spec_l5Principal.f (a0 : Int) : Option (Bool) := if a0 ≥ 0 then (some (decide (a0 < 6))) else (some false)
set_option maxHeartbeats 8000000 in
set_option maxRecDepth 100000 in
theorem spec_l5Principal.calls (a0 : Int) (r : Bool) (w : World) (h : spec_l5Principal.f a0 = some r) :
  Calls Try.prog 49 #[.int .i64 a0] w fun e w' => e = .returned (.bool r) ∧ Drawn0 w w' := by
 have H : (if a0 ≥ 0 then (some (decide (a0 < 6))) else (some false)) = some r := h
 clear h
 by_cases c2 : a0 ≥ 0
 ·rw [if_pos c2] at H
  have c2b0 : decide (0 ≤ a0) = true := decide_eq_true c2
  clear c2
  obtain rfl := Option.some.inj H
  go_enter Try.func49, Try.ntmps49
  go_wp2
  go_ret
  exact ⟨by first | rfl | (simp; done) | (simp [*]; done), by repeat (first | exact Drawn0.refl _ | apply Drawn0.step)⟩
 ·rw [if_neg c2] at H
  have c2b0 : decide (0 ≤ a0) = false := decide_eq_false c2
  clear c2
  obtain rfl := Option.some.inj H
  go_enter Try.func49, Try.ntmps49
  go_wp2
  go_ret
  exact ⟨by first | rfl | (simp; done) | (simp [*]; done), by repeat (first | exact Drawn0.refl _ | apply Drawn0.step)⟩

/-! ### spec_l5AuthOk: function 33 -/
def spec_l5AuthOk.f (a0_0 : Int) (a0_1 : Int) (a0_2 : Int) : Option (Bool) := (spec_l5Principal.f a0_0).bind fun t153 => (if t153 = true then ((spec_l1In.f a0_1 0 100000).bind fun t154 => (if t154 = true then ((spec_l1In.f a0_2 0 1000000).bind fun t155 => (some t155)) else (some false))) else (some false))
set_option maxHeartbeats 8000000 in
set_option maxRecDepth 100000 in
theorem spec_l5AuthOk.calls (a0_0 : Int) (a0_1 : Int) (a0_2 : Int) (r : Bool) (w : World) (h : spec_l5AuthOk.f a0_0 a0_1 a0_2 = some r) :
  Calls Try.prog 33 #[.agg #[.int .i64 a0_0, .int .i64 a0_1, .int .i64 a0_2]] w fun e w' => e = .returned (.bool r) ∧ Below w.heap.size w w' := by
 have hu28 := Try.underlying28
 have HB := Aside0.mk (Below.refl w.heap.size w)
 have H : ((spec_l5Principal.f a0_0).bind fun t153 => (if t153 = true then ((spec_l1In.f a0_1 0 100000).bind fun t154 => (if t154 = true then ((spec_l1In.f a0_2 0 1000000).bind fun t155 => (some t155)) else (some false))) else (some false))) = some r := h
 clear h
 replace H := Option.bind_eq_some_iff.mp H
 obtain ⟨t153, A20, H⟩ := H
 replace H : (if t153 = true then ((spec_l1In.f a0_1 0 100000).bind fun t154 => (if t154 = true then ((spec_l1In.f a0_2 0 1000000).bind fun t155 => (some t155)) else (some false))) else (some false)) = some r := H
 have A2 := Aside0.mk A20
 clear A20
 by_cases c3 : t153 = true
 ·subst c3
  have H1 : ((spec_l1In.f a0_1 0 100000).bind fun t154 => (if t154 = true then ((spec_l1In.f a0_2 0 1000000).bind fun t155 => (some t155)) else (some false))) = some r := by rw [if_pos rfl] at H; exact H
  clear H
  have H := H1
  clear H1
  replace H := Option.bind_eq_some_iff.mp H
  obtain ⟨t154, A40, H⟩ := H
  replace H : (if t154 = true then ((spec_l1In.f a0_2 0 1000000).bind fun t155 => (some t155)) else (some false)) = some r := H
  have A4 := Aside0.mk A40
  clear A40
  by_cases c5 : t154 = true
  ·subst c5
   have H1 : ((spec_l1In.f a0_2 0 1000000).bind fun t155 => (some t155)) = some r := by rw [if_pos rfl] at H; exact H
   clear H
   have H := H1
   clear H1
   replace H := Option.bind_eq_some_iff.mp H
   obtain ⟨t155, A60, H⟩ := H
   replace H : (some t155) = some r := H
   have A6 := Aside0.mk A60
   clear A60
   obtain rfl := Option.some.inj H
   go_enter Try.func33, Try.ntmps33
   go_wp2_with (first | ((with_reducible refine gate_dst (N := 1) rfl ?_); refine box_event ?hg (N := 1) ?hd (cs := #[.int .i64 a0_0, .int .i64 a0_1, .int .i64 a0_2]) (t := 28) ?hr ?_; (case hd => rfl); (case hg => rfl); (case hr => first | (go_simp; done) | (go_simp; rfl)); intro gb152 hg w7 hbox hb; have n0_ := Aside0.mk (below_step bH hb); have n1_ := Aside0.mk (hbox); have n2_ := Aside0.mk ((bZ hg : w.heap.size ≤ gb152)); have n3_ := Aside0.mk ((bZ hg : w.heap.size ≤ gb152)); clear HB; have HB := n0_; have BK152 := n1_; have GW152 := n2_; have GE152 := n3_; clear n0_ n1_ n2_ n3_; clear hb hbox hg; have hcz8_0 : w7.cell? ⟨gb152, 0, none⟩ = some (.int .i64 a0_0) := (blk_cell BK152.out 0).trans rfl; have hcz8_1 : w7.cell? ⟨gb152, 1, none⟩ = some (.int .i64 a0_1) := (blk_cell BK152.out 1).trans rfl; have hcz8_2 : w7.cell? ⟨gb152, 2, none⟩ = some (.int .i64 a0_2) := (blk_cell BK152.out 2).trans rfl; have hfz8_0 := blk_frozen BK152.out 0; have hfz8_1 := blk_frozen BK152.out 1; have hfz8_2 := blk_frozen BK152.out 2) | ((with_reducible refine gate_callee (f := 49) rfl ?_); refine goesL_ (some 5) rfl rfl Try.func49 (by kernel_rfl) rfl #[.int .i64 a0_0] rfl eA ?_; (with_reducible refine (spec_l5Principal.calls a0_0 true _ A2.out).mono ?_); rintro e w' ⟨rfl, ⟨nd, rfl⟩⟩; refine ⟨_, rfl, ?_⟩) | (go_at_call 34; (with_reducible refine (spec_l1In.calls a0_1 0 100000 true _ A4.out).mono ?_); rintro e w' ⟨rfl, ⟨nd, rfl⟩⟩) | (go_at_call 34; (with_reducible refine (spec_l1In.calls a0_2 0 1000000 t155 _ A6.out).mono ?_); rintro e w' ⟨rfl, ⟨nd, rfl⟩⟩))
   go_ret
   exact ⟨eE, bS⟩
  ·replace c5 := Bool.eq_false_iff.mpr c5
   subst c5
   have H1 : (some false) = some r := by rw [if_neg (show ¬ (false = true) by decide)] at H; exact H
   clear H
   have H := H1
   clear H1
   obtain rfl := Option.some.inj H
   go_enter Try.func33, Try.ntmps33
   go_wp2_with (first | ((with_reducible refine gate_dst (N := 1) rfl ?_); refine box_event ?hg (N := 1) ?hd (cs := #[.int .i64 a0_0, .int .i64 a0_1, .int .i64 a0_2]) (t := 28) ?hr ?_; (case hd => rfl); (case hg => rfl); (case hr => first | (go_simp; done) | (go_simp; rfl)); intro gb152 hg w9 hbox hb; have n0_ := Aside0.mk (below_step bH hb); have n1_ := Aside0.mk (hbox); have n2_ := Aside0.mk ((bZ hg : w.heap.size ≤ gb152)); have n3_ := Aside0.mk ((bZ hg : w.heap.size ≤ gb152)); clear HB; have HB := n0_; have BK152 := n1_; have GW152 := n2_; have GE152 := n3_; clear n0_ n1_ n2_ n3_; clear hb hbox hg; have hcz10_0 : w9.cell? ⟨gb152, 0, none⟩ = some (.int .i64 a0_0) := (blk_cell BK152.out 0).trans rfl; have hcz10_1 : w9.cell? ⟨gb152, 1, none⟩ = some (.int .i64 a0_1) := (blk_cell BK152.out 1).trans rfl; have hcz10_2 : w9.cell? ⟨gb152, 2, none⟩ = some (.int .i64 a0_2) := (blk_cell BK152.out 2).trans rfl; have hfz10_0 := blk_frozen BK152.out 0; have hfz10_1 := blk_frozen BK152.out 1; have hfz10_2 := blk_frozen BK152.out 2) | ((with_reducible refine gate_callee (f := 49) rfl ?_); refine goesL_ (some 5) rfl rfl Try.func49 (by kernel_rfl) rfl #[.int .i64 a0_0] rfl eA ?_; (with_reducible refine (spec_l5Principal.calls a0_0 true _ A2.out).mono ?_); rintro e w' ⟨rfl, ⟨nd, rfl⟩⟩; refine ⟨_, rfl, ?_⟩) | (go_at_call 34; (with_reducible refine (spec_l1In.calls a0_1 0 100000 false _ A4.out).mono ?_); rintro e w' ⟨rfl, ⟨nd, rfl⟩⟩))
   go_ret
   exact ⟨eE, bS⟩
 ·replace c3 := Bool.eq_false_iff.mpr c3
  subst c3
  have H1 : (some false) = some r := by rw [if_neg (show ¬ (false = true) by decide)] at H; exact H
  clear H
  have H := H1
  clear H1
  obtain rfl := Option.some.inj H
  go_enter Try.func33, Try.ntmps33
  go_wp2_with (first | ((with_reducible refine gate_dst (N := 1) rfl ?_); refine box_event ?hg (N := 1) ?hd (cs := #[.int .i64 a0_0, .int .i64 a0_1, .int .i64 a0_2]) (t := 28) ?hr ?_; (case hd => rfl); (case hg => rfl); (case hr => first | (go_simp; done) | (go_simp; rfl)); intro gb152 hg w11 hbox hb; have n0_ := Aside0.mk (below_step bH hb); have n1_ := Aside0.mk (hbox); have n2_ := Aside0.mk ((bZ hg : w.heap.size ≤ gb152)); have n3_ := Aside0.mk ((bZ hg : w.heap.size ≤ gb152)); clear HB; have HB := n0_; have BK152 := n1_; have GW152 := n2_; have GE152 := n3_; clear n0_ n1_ n2_ n3_; clear hb hbox hg; have hcz12_0 : w11.cell? ⟨gb152, 0, none⟩ = some (.int .i64 a0_0) := (blk_cell BK152.out 0).trans rfl; have hcz12_1 : w11.cell? ⟨gb152, 1, none⟩ = some (.int .i64 a0_1) := (blk_cell BK152.out 1).trans rfl; have hcz12_2 : w11.cell? ⟨gb152, 2, none⟩ = some (.int .i64 a0_2) := (blk_cell BK152.out 2).trans rfl; have hfz12_0 := blk_frozen BK152.out 0; have hfz12_1 := blk_frozen BK152.out 1; have hfz12_2 := blk_frozen BK152.out 2) | ((with_reducible refine gate_callee (f := 49) rfl ?_); refine goesL_ (some 5) rfl rfl Try.func49 (by kernel_rfl) rfl #[.int .i64 a0_0] rfl eA ?_; (with_reducible refine (spec_l5Principal.calls a0_0 false _ A2.out).mono ?_); rintro e w' ⟨rfl, ⟨nd, rfl⟩⟩; refine ⟨_, rfl, ?_⟩))
  go_ret
  exact ⟨eE, bS⟩

/-! ### spec_l7Saw: function 36 -/
def spec_l7Saw.l0 : Nat → List (S28) → Int → Int → Int → Int → Option (Bool)
 | 0, _, _, _, _, _ => none
 | k + 1, x0, x5, x157000, x157001, x157002 => if x5 < (x0.length : Int) then (if 0 ≤ x5 then (if (((rd_T28 x0 x5).f0) == x157000 && (((rd_T28 x0 x5).f1) == x157001 && (((rd_T28 x0 x5).f2) == x157002))) = true then (some true) else (spec_l7Saw.l0 k x0 (wrap64 (x5 + 1)) x157000 x157001 x157002)) else (none)) else (some false)
def spec_l7Saw.f (k : Nat) (l0 : List (S28)) (a1_0 : Int) (a1_1 : Int) (a1_2 : Int) : Option (Bool) := spec_l7Saw.l0 k l0 0 a1_0 a1_1 a1_2
theorem spec_l7Saw.mono_l : ∀ k, (∀ y0 y1 y2 y3 y4, LeO (spec_l7Saw.l0 k y0 y1 y2 y3 y4) (spec_l7Saw.l0 (k + 1) y0 y1 y2 y3 y4))
 | 0 => fun _ _ _ _ _ r h => by simp [spec_l7Saw.l0] at h
 | k + 1 => by
  have ih0 := spec_l7Saw.mono_l k
  ·intro y0 y1 y2 y3 y4
   unfold spec_l7Saw.l0
   repeat' first
   | (with_reducible exact ih0 _ _ _ _ _)
   | (with_reducible exact LeO.refl _)
   | (with_reducible exact LeO.none _)
   | (with_reducible refine LeO.ite ?_ ?_)
   | (with_reducible refine LeO.bind ?_ (fun _ => ?_))
   | exact ih0 _ _ _ _ _
   | exact LeO.none _
   | refine LeO.ite ?_ ?_
   | refine LeO.bind ?_ (fun _ => ?_)
theorem spec_l7Saw.mono : ∀ a0 a1 a2 a3 k, LeO (spec_l7Saw.f k a0 a1 a2 a3) (spec_l7Saw.f (k + 1) a0 a1 a2 a3) := by
 intro a0 a1 a2 a3 k
 have ih0 := spec_l7Saw.mono_l k
 unfold spec_l7Saw.f
 repeat' first
   | (with_reducible exact ih0 _ _ _ _ _)
   | (with_reducible exact LeO.refl _)
   | (with_reducible exact LeO.none _)
   | (with_reducible refine LeO.ite ?_ ?_)
   | (with_reducible refine LeO.bind ?_ (fun _ => ?_))
   | exact ih0 _ _ _ _ _
   | exact LeO.none _
   | refine LeO.ite ?_ ?_
   | refine LeO.bind ?_ (fun _ => ?_)
set_option maxHeartbeats 8000000 in
set_option maxRecDepth 100000 in
theorem spec_l7Saw.calls (k : Nat) (A0 : Option Addr) (c0 : Nat) (l0 : List (S28)) (a1_0 : Int) (a1_1 : Int) (a1_2 : Int) (r : Bool) (w : World) (hr0 : Kd.C k28 w A0 l0.length l0) (hc0 : l0.length ≤ c0) (h : spec_l7Saw.f k l0 a1_0 a1_1 a1_2 = some r) :
  Calls Try.prog 36 #[.slice A0 l0.length c0, .agg #[.int .i64 a1_0, .int .i64 a1_1, .int .i64 a1_2]] w fun e w' => e = .returned (.bool r) ∧ Below w.heap.size w w' := by
 have hu28 := Try.underlying28
 have HR0 := Aside0.mk hr0
 have HC0 := Aside0.mk hc0
 clear hr0 hc0
 have HB := Aside0.mk (Below.refl w.heap.size w)
 have H : (spec_l7Saw.l0 k l0 0 a1_0 a1_1 a1_2) = some r := h
 clear h
 have H' := Aside0.mk H
 clear H
 go_enter Try.func36, Try.ntmps36
 go_wp2_with (first | ((with_reducible refine gate_dst (N := 3) rfl ?_); refine box_event ?hg (N := 3) ?hd (cs := #[.int .i64 a1_0, .int .i64 a1_1, .int .i64 a1_2]) (t := 28) ?hr ?_; (case hd => rfl); (case hg => rfl); (case hr => first | (go_simp; done) | (go_simp; rfl)); intro gb156 hg w3 hbox hb; have n0_ := Aside0.mk (below_step bH hb); have n1_ := Aside0.mk (hbox); have n2_ := Aside0.mk ((bZ hg : w.heap.size ≤ gb156)); have n3_ := Aside0.mk ((bZ hg : w.heap.size ≤ gb156)); clear HB; have HB := n0_; have BK156 := n1_; have GW156 := n2_; have GE156 := n3_; clear n0_ n1_ n2_ n3_; clear hb hbox hg))
 repeat (go_quiet (first | ((with_reducible refine gate_dst (N := 3) rfl ?_); refine box_event ?hg (N := 3) ?hd (cs := #[.int .i64 a1_0, .int .i64 a1_1, .int .i64 a1_2]) (t := 28) ?hr ?_; (case hd => rfl); (case hg => rfl); (case hr => first | (go_simp; done) | (go_simp; rfl)); intro gb156 hg w3 hbox hb; have n0_ := Aside0.mk (below_step bH hb); have n1_ := Aside0.mk (hbox); have n2_ := Aside0.mk ((bZ hg : w.heap.size ≤ gb156)); have n3_ := Aside0.mk ((bZ hg : w.heap.size ≤ gb156)); clear HB; have HB := n0_; have BK156 := n1_; have GW156 := n2_; have GE156 := n3_; clear n0_ n1_ n2_ n3_; clear hb hbox hg)); try go_wp2_with (first | ((with_reducible refine gate_dst (N := 3) rfl ?_); refine box_event ?hg (N := 3) ?hd (cs := #[.int .i64 a1_0, .int .i64 a1_1, .int .i64 a1_2]) (t := 28) ?hr ?_; (case hd => rfl); (case hg => rfl); (case hr => first | (go_simp; done) | (go_simp; rfl)); intro gb156 hg w3 hbox hb; have n0_ := Aside0.mk (below_step bH hb); have n1_ := Aside0.mk (hbox); have n2_ := Aside0.mk ((bZ hg : w.heap.size ≤ gb156)); have n3_ := Aside0.mk ((bZ hg : w.heap.size ≤ gb156)); clear HB; have HB := n0_; have BK156 := n1_; have GW156 := n2_; have GE156 := n3_; clear n0_ n1_ n2_ n3_; clear hb hbox hg)))
 go_loopg [5] k (fun kq v5 w' => ∃ (x5_1 : Int), v5 = .int .i64 x5_1 ∧ Aside0 (spec_l7Saw.l0 kq l0 x5_1 a1_0 a1_1 a1_2 = some r) ∧ Aside0 (kq ≤ k) ∧ Aside0 (w'.heap[gb156]? = some (.cells #[.int .i64 a1_0, .int .i64 a1_1, .int .i64 a1_2] 28 (0, 0))) ∧ Aside0 (Below w.heap.size w w'))
 case atStart => exact ⟨(0), eX, H', ⟨Nat.le_refl _⟩, ⟨by (with_reducible repeat (first | refine blk_drewN ?_ _ | refine blk_drew ?_ | refine blk_alloc ?_ _)); exact BK156.out⟩, ⟨by repeat (first | (with_reducible first | exact HB.out | apply below_alloc | apply pw_below_drewN | apply below_drew1 | refine below_set ?_ GE156.out) | exact HB.out)⟩⟩
 case round =>
  clear H'
  try clear p2
  try clear c3
  obtain ⟨x5_1, rfl, HA, HK1, BK156, HB⟩ := hrel
  cases gk with
  | zero => exact absurd HA.out (by simp [spec_l7Saw.l0])
  | succ k1 =>
   have H := HA.out
   clear HA
   simp only [spec_l7Saw.l0] at H
   by_cases c4 : x5_1 < (l0.length : Int)
   ·rw [if_pos c4] at H
    have c4b0 : decide (x5_1 < (l0.length : Int)) = true := decide_eq_true c4
    clear c4
    by_cases c5 : 0 ≤ x5_1
    ·rw [if_pos c5] at H
     have c5b0 : decide (0 ≤ x5_1) = true := decide_eq_true c5
     clear c5
     by_cases c6 : (((rd_T28 l0 x5_1).f0) == a1_0 && (((rd_T28 l0 x5_1).f1) == a1_1 && (((rd_T28 l0 x5_1).f2) == a1_2))) = true
     ·rw [if_pos c6] at H
      have c6b0 : (((rd_T28 l0 x5_1).f0) == a1_0 && (((rd_T28 l0 x5_1).f1) == a1_1 && (((rd_T28 l0 x5_1).f2) == a1_2))) = true := c6
      (try (have c6b1 : decide (((rd_T28 l0 x5_1).f0) = a1_0 && (((rd_T28 l0 x5_1).f1) == a1_1 && (((rd_T28 l0 x5_1).f2) == a1_2))) = true := by simpa using c6))
      (try (have c6b2 : (((rd_T28 l0 x5_1).f0) == a1_0 && (((rd_T28 l0 x5_1).f1) == a1_1 && (((rd_T28 l0 x5_1).f2) == a1_2))) = true := by simpa using c6))
      clear c6
      obtain rfl := Option.some.inj H
      have p157 : 0 ≤ (x5_1 : Int) := of_decide_eq_true aA
      have q157 : x5_1 < (l0.length : Int) := of_decide_eq_true aA
      obtain ⟨ad157, e157, hx157_0, hx157_1, hx157_2⟩ := at_T28 HR0.out x5_1 p157 q157
      cases e157
      replace hx157_0 := (HB.out.cell (World.block_lt_of_cell? w _ hx157_0)).trans hx157_0
      replace hx157_1 := (HB.out.cell (World.block_lt_of_cell? w _ hx157_1)).trans hx157_1
      replace hx157_2 := (HB.out.cell (World.block_lt_of_cell? w _ hx157_2)).trans hx157_2
      replace p157 := eq_true p157
      replace q157 := eq_true q157
      have hcz7_0 : wr.cell? ⟨gb156, 0, none⟩ = some (.int .i64 a1_0) := (blk_cell BK156.out 0).trans rfl
      have hcz7_1 : wr.cell? ⟨gb156, 1, none⟩ = some (.int .i64 a1_1) := (blk_cell BK156.out 1).trans rfl
      have hcz7_2 : wr.cell? ⟨gb156, 2, none⟩ = some (.int .i64 a1_2) := (blk_cell BK156.out 2).trans rfl
      have hfz7_0 := blk_frozen BK156.out 0
      have hfz7_1 := blk_frozen BK156.out 1
      have hfz7_2 := blk_frozen BK156.out 2
      go_wp2
      repeat (go_quiet (fail); try go_wp2)
      go_ret
      exact ⟨eE, bS⟩
     ·rw [if_neg c6] at H
      have c6b0 : (((rd_T28 l0 x5_1).f0) == a1_0 && (((rd_T28 l0 x5_1).f1) == a1_1 && (((rd_T28 l0 x5_1).f2) == a1_2))) = false := by simpa using c6
      (try (have c6b1 : decide (((rd_T28 l0 x5_1).f0) = a1_0 && (((rd_T28 l0 x5_1).f1) == a1_1 && (((rd_T28 l0 x5_1).f2) == a1_2))) = false := by simpa using c6))
      (try (have c6b2 : (((rd_T28 l0 x5_1).f0) == a1_0 && (((rd_T28 l0 x5_1).f1) == a1_1 && (((rd_T28 l0 x5_1).f2) == a1_2))) = false := by simpa using c6))
      (try (have c6b3 : ¬ (((rd_T28 l0 x5_1).f0) = a1_0 && (((rd_T28 l0 x5_1).f1) == a1_1 && (((rd_T28 l0 x5_1).f2) == a1_2))) := by simpa using c6))
      clear c6
      have H' := Aside0.mk H
      clear H
      have p157 : 0 ≤ (x5_1 : Int) := of_decide_eq_true aA
      have q157 : x5_1 < (l0.length : Int) := of_decide_eq_true aA
      obtain ⟨ad157, e157, hx157_0, hx157_1, hx157_2⟩ := at_T28 HR0.out x5_1 p157 q157
      cases e157
      replace hx157_0 := (HB.out.cell (World.block_lt_of_cell? w _ hx157_0)).trans hx157_0
      replace hx157_1 := (HB.out.cell (World.block_lt_of_cell? w _ hx157_1)).trans hx157_1
      replace hx157_2 := (HB.out.cell (World.block_lt_of_cell? w _ hx157_2)).trans hx157_2
      replace p157 := eq_true p157
      replace q157 := eq_true q157
      have hcz8_0 : wr.cell? ⟨gb156, 0, none⟩ = some (.int .i64 a1_0) := (blk_cell BK156.out 0).trans rfl
      have hcz8_1 : wr.cell? ⟨gb156, 1, none⟩ = some (.int .i64 a1_1) := (blk_cell BK156.out 1).trans rfl
      have hcz8_2 : wr.cell? ⟨gb156, 2, none⟩ = some (.int .i64 a1_2) := (blk_cell BK156.out 2).trans rfl
      have hfz8_0 := blk_frozen BK156.out 0
      have hfz8_1 := blk_frozen BK156.out 1
      have hfz8_2 := blk_frozen BK156.out 2
      go_wp2
      repeat (go_quiet (fail); try go_wp2)
      go_roundg k1
      case measure => have := HK1.out; omega
      case rel => exact ⟨(wrap64 (x5_1 + 1)), eX, H', ⟨by have := HK1.out; omega⟩, ⟨by (with_reducible repeat (first | refine blk_drewN ?_ _ | refine blk_drew ?_ | refine blk_alloc ?_ _)); exact BK156.out⟩, ⟨by repeat (first | (with_reducible first | exact HB.out | apply below_alloc | apply pw_below_drewN | apply below_drew1 | refine below_set ?_ GE156.out) | exact HB.out)⟩⟩
    ·rw [if_neg c5] at H
     exact absurd H (by simp)
   ·rw [if_neg c4] at H
    have c4b0 : decide (x5_1 < (l0.length : Int)) = false := decide_eq_false c4
    clear c4
    obtain rfl := Option.some.inj H
    go_wp2
    repeat (go_quiet (fail); try go_wp2)
    go_ret
    exact ⟨eE, bS⟩

end Go.Proofs.Ytnpbafgnfdadhaa.OFnExactCacheTry
-- halved
-- squeezed
