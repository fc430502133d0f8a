-- walks of this claim, written by a program of mine
import Derived.Test.YtnpbafgnfdadhaaOFnCachex0
import Derived.Test.YtnpbafgnfdadhaaOFnCachex2
import Derived.Test.YtnpbafgnfdadhaaOFnCachex5
namespace Go.Proofs.Ytnpbafgnfdadhaa.OFnCache
open Go.RowKit Go.Proofs.Ytnpbafgnfdadhaa.OWord Go.Proofs.YtnpbafgnfdadhaaW.PrintWords Go.Proofs.YtnpbafgnfdadhaaW.PrintLast Go.Proofs.YtnpbafgnfdadhaaW.PrintMore
attribute [local go_sem] max2_int min2_int max_two min_two max_three min_three max_four min_four   -- for this text's walks alone
set_option linter.unusedVariables false
set_option linter.unusedSimpArgs false

/-! ### spec_DrawCacheTry: function 6 -/
mutual
def spec_DrawCacheTry.j0 : Nat → Int → Int → Bool → List Int → Int → Int → Int → Int → Int → Int → List (S28) → Option (Int × (List (S28)) × Int × Int × Int × Int × Int)
 | 0, _, _, _, _, _, _, _, _, _, _, _ => none
 | k + 1, x7, x8, x39, x282000, x282001, x282002, x301000, x301001, x301002, x309000, x309001 => if x39 = true then ((spec_l1Below.f x282000 x282001 x282002 (x309001.length : Int)).bind fun bt312 => (if 0 ≤ bt312.1 then (if bt312.1 < (x309001.length : Int) then ((spec_l1Below.f x282000 bt312.2.1 bt312.2.2 3).bind fun bt316 => (spec_DrawCacheTry.j1 k (wrap64 (((rd_T28 x309001 bt312.1).f1) + bt316.1)) x8 x282000 bt316.2.1 bt316.2.2 ((rd_T28 x309001 bt312.1).f0) ((rd_T28 x309001 bt312.1).f1) ((rd_T28 x309001 bt312.1).f2) x309000 x309001)) else (none)) else (none))) else (spec_DrawCacheTry.j1 k x7 x8 x282000 x282001 x282002 x301000 x301001 x301002 x309000 x309001)
def spec_DrawCacheTry.j1 : Nat → Int → Int → List Int → Int → Int → Int → Int → Int → Int → List (S28) → Option (Int × (List (S28)) × Int × Int × Int × Int × Int)
 | 0, _, _, _, _, _, _, _, _, _, _ => none
 | k + 1, x7, x8, x282000, x282001, x282002, x301000, x301001, x301002, x309000, x309001 => (spec_l1Once.f x282000 x282001 x282002 12).bind fun bt319 => (if bt319.1 = true then ((spec_l5DrawAuth.f x282000 bt319.2.1 bt319.2.2).bind fun bt322 => (spec_DrawCacheTry.j2 k x7 x8 x282000 bt322.2.2.2.1 bt322.2.2.2.2 bt322.1 bt322.2.1 bt322.2.2.1 x309000 x309001)) else (spec_DrawCacheTry.j2 k x7 x8 x282000 bt319.2.1 bt319.2.2 x301000 x301001 x301002 x309000 x309001))
def spec_DrawCacheTry.j2 : Nat → Int → Int → List Int → Int → Int → Int → Int → Int → Int → List (S28) → Option (Int × (List (S28)) × Int × Int × Int × Int × Int)
 | 0, _, _, _, _, _, _, _, _, _, _ => none
 | k + 1, x7, x8, x282000, x282001, x282002, x301000, x301001, x301002, x309000, x309001 => (spec_l1Once.f x282000 x282001 x282002 15).bind fun bt327 => (if bt327.1 = true then ((spec_l1PickInt.f x282000 bt327.2.1 bt327.2.2 (([(-1), 100000, 100001] : List Int))).bind fun bt333 => (some (x309000, x309001, x301000, x301001, x301002, bt333.1, x8))) else (some (x309000, x309001, x301000, x301001, x301002, x7, x8)))
end
def spec_DrawCacheTry.f (k : Nat) (l0 : List Int) : Option (Int × (List (S28)) × Int × Int × Int × Int × Int) := (spec_l1New.f k l0).bind fun bt278 => ((spec_l1Below.f bt278.1 bt278.2.1 bt278.2.2 25).bind fun bt282 => ((spec_l1PickInt.f bt278.1 bt282.2.1 bt282.2.2 (([3, 3, 3, 0, 20, (-1), 21] : List Int))).bind fun bt288 => ((spec_l1Below.f bt278.1 bt288.2.1 bt288.2.2 3).bind fun bt291 => ((spec_l1Below.f bt278.1 bt291.2.1 bt291.2.2 5).bind fun bt294 => ((spec_l1Below.f bt278.1 bt294.2.1 bt294.2.2 3).bind fun bt297 => ((spec_l1Size.f l0 25).bind fun t301 => ((spec_l7Cache.f k bt278.1 bt297.2.1 bt297.2.2 t301).bind fun bt302 => (if (bt302.2.1.length : Int) > 0 then ((spec_l1Once.f bt278.1 bt302.2.2.1 bt302.2.2.2 3).bind fun bt309 => (spec_DrawCacheTry.j0 k bt282.1 bt288.1 bt309.1 bt278.1 bt309.2.1 bt309.2.2 bt291.1 (wrap64 ((wrap64 (bt282.1 + bt294.1)) - 2)) bt297.1 bt302.1 bt302.2.1)) else (spec_DrawCacheTry.j0 k bt282.1 bt288.1 false bt278.1 bt302.2.2.1 bt302.2.2.2 bt291.1 (wrap64 ((wrap64 (bt282.1 + bt294.1)) - 2)) bt297.1 bt302.1 bt302.2.1)))))))))
theorem spec_DrawCacheTry.mono_l : ∀ k, (∀ y0 y1 y2 y3 y4 y5 y6 y7 y8 y9 y10, LeO (spec_DrawCacheTry.j0 k y0 y1 y2 y3 y4 y5 y6 y7 y8 y9 y10) (spec_DrawCacheTry.j0 (k + 1) y0 y1 y2 y3 y4 y5 y6 y7 y8 y9 y10)) ∧ (∀ y0 y1 y2 y3 y4 y5 y6 y7 y8 y9, LeO (spec_DrawCacheTry.j1 k y0 y1 y2 y3 y4 y5 y6 y7 y8 y9) (spec_DrawCacheTry.j1 (k + 1) y0 y1 y2 y3 y4 y5 y6 y7 y8 y9)) ∧ (∀ y0 y1 y2 y3 y4 y5 y6 y7 y8 y9, LeO (spec_DrawCacheTry.j2 k y0 y1 y2 y3 y4 y5 y6 y7 y8 y9) (spec_DrawCacheTry.j2 (k + 1) y0 y1 y2 y3 y4 y5 y6 y7 y8 y9))
 | 0 => ⟨fun _ _ _ _ _ _ _ _ _ _ _ r h => by simp [spec_DrawCacheTry.j0] at h, fun _ _ _ _ _ _ _ _ _ _ r h => by simp [spec_DrawCacheTry.j1] at h, fun _ _ _ _ _ _ _ _ _ _ r h => by simp [spec_DrawCacheTry.j2] at h⟩
 | k + 1 => by
  obtain ⟨ih0, ih1, ih2⟩ := spec_DrawCacheTry.mono_l k
  refine ⟨?_, ?_, ?_⟩
  ·intro y0 y1 y2 y3 y4 y5 y6 y7 y8 y9 y10
   unfold spec_DrawCacheTry.j0
   repeat' first
   | (with_reducible exact ih0 _ _ _ _ _ _ _ _ _ _ _)
   | (with_reducible exact ih1 _ _ _ _ _ _ _ _ _ _)
   | (with_reducible exact ih2 _ _ _ _ _ _ _ _ _ _)
   | (with_reducible exact spec_l1New.mono _ _)
   | (with_reducible exact spec_l7Cache.mono _ _ _ _ _)
   | (with_reducible exact LeO.refl _)
   | (with_reducible exact LeO.none _)
   | (with_reducible refine LeO.ite ?_ ?_)
   | (with_reducible refine LeO.bind ?_ (fun _ => ?_))
   | exact ih0 _ _ _ _ _ _ _ _ _ _ _
   | exact ih1 _ _ _ _ _ _ _ _ _ _
   | exact ih2 _ _ _ _ _ _ _ _ _ _
   | exact spec_l1New.mono _ _
   | exact spec_l7Cache.mono _ _ _ _ _
   | exact LeO.none _
   | refine LeO.ite ?_ ?_
   | refine LeO.bind ?_ (fun _ => ?_)
  ·intro y0 y1 y2 y3 y4 y5 y6 y7 y8 y9
   unfold spec_DrawCacheTry.j1
   repeat' first
   | (with_reducible exact ih0 _ _ _ _ _ _ _ _ _ _ _)
   | (with_reducible exact ih1 _ _ _ _ _ _ _ _ _ _)
   | (with_reducible exact ih2 _ _ _ _ _ _ _ _ _ _)
   | (with_reducible exact spec_l1New.mono _ _)
   | (with_reducible exact spec_l7Cache.mono _ _ _ _ _)
   | (with_reducible exact LeO.refl _)
   | (with_reducible exact LeO.none _)
   | (with_reducible refine LeO.ite ?_ ?_)
   | (with_reducible refine LeO.bind ?_ (fun _ => ?_))
   | exact ih0 _ _ _ _ _ _ _ _ _ _ _
   | exact ih1 _ _ _ _ _ _ _ _ _ _
   | exact ih2 _ _ _ _ _ _ _ _ _ _
   | exact spec_l1New.mono _ _
   | exact spec_l7Cache.mono _ _ _ _ _
   | exact LeO.none _
   | refine LeO.ite ?_ ?_
   | refine LeO.bind ?_ (fun _ => ?_)
  ·intro y0 y1 y2 y3 y4 y5 y6 y7 y8 y9
   unfold spec_DrawCacheTry.j2
   repeat' first
   | (with_reducible exact ih0 _ _ _ _ _ _ _ _ _ _ _)
   | (with_reducible exact ih1 _ _ _ _ _ _ _ _ _ _)
   | (with_reducible exact ih2 _ _ _ _ _ _ _ _ _ _)
   | (with_reducible exact spec_l1New.mono _ _)
   | (with_reducible exact spec_l7Cache.mono _ _ _ _ _)
   | (with_reducible exact LeO.refl _)
   | (with_reducible exact LeO.none _)
   | (with_reducible refine LeO.ite ?_ ?_)
   | (with_reducible refine LeO.bind ?_ (fun _ => ?_))
   | exact ih0 _ _ _ _ _ _ _ _ _ _ _
   | exact ih1 _ _ _ _ _ _ _ _ _ _
   | exact ih2 _ _ _ _ _ _ _ _ _ _
   | exact spec_l1New.mono _ _
   | exact spec_l7Cache.mono _ _ _ _ _
   | exact LeO.none _
   | refine LeO.ite ?_ ?_
   | refine LeO.bind ?_ (fun _ => ?_)
theorem spec_DrawCacheTry.mono : ∀ a0 k, LeO (spec_DrawCacheTry.f k a0) (spec_DrawCacheTry.f (k + 1) a0) := by
 intro a0 k
 obtain ⟨ih0, ih1, ih2⟩ := spec_DrawCacheTry.mono_l k
 unfold spec_DrawCacheTry.f
 repeat' first
   | (with_reducible exact ih0 _ _ _ _ _ _ _ _ _ _ _)
   | (with_reducible exact ih1 _ _ _ _ _ _ _ _ _ _)
   | (with_reducible exact ih2 _ _ _ _ _ _ _ _ _ _)
   | (with_reducible exact spec_l1New.mono _ _)
   | (with_reducible exact spec_l7Cache.mono _ _ _ _ _)
   | (with_reducible exact LeO.refl _)
   | (with_reducible exact LeO.none _)
   | (with_reducible refine LeO.ite ?_ ?_)
   | (with_reducible refine LeO.bind ?_ (fun _ => ?_))
   | exact ih0 _ _ _ _ _ _ _ _ _ _ _
   | exact ih1 _ _ _ _ _ _ _ _ _ _
   | exact ih2 _ _ _ _ _ _ _ _ _ _
   | exact spec_l1New.mono _ _
   | exact spec_l7Cache.mono _ _ _ _ _
   | exact LeO.none _
   | refine LeO.ite ?_ ?_
   | refine LeO.bind ?_ (fun _ => ?_)
def spec_DrawCacheTry.T7 : Bool × List (List Nat × List Nat) := (true, [([], []), ([0], [0]), ([], []), ([], []), ([3], [3]), ([4], [4]), ([2, 5], [2, 5]), ([1, 6], [1, 6]), ([7], [7]), ([8, 6, 0, 1, 2, 3, 4, 5, 6, 7, 8], [8])])
def spec_DrawCacheTry.B7 : List Nat := [0, 1, 0, 0, 8, 24, 60, 127, 255, 511]
theorem spec_DrawCacheTry.tab7 : rtab .any (opsOf Try.f6 7) = spec_DrawCacheTry.T7 := by kernel_rfl
theorem spec_DrawCacheTry.bits7 : waitsOk spec_DrawCacheTry.T7.2 spec_DrawCacheTry.B7 = true := by kernel_rfl
def spec_DrawCacheTry.T13 : Bool × List (List Nat × List Nat) := (true, [([], []), ([], []), ([], []), ([], []), ([0, 0], [0]), ([1, 4, 0, 1, 4], [1]), ([2, 5, 0, 1, 2, 4, 5], [2]), ([3, 6, 0, 1, 2, 3, 4, 5, 6], [3])])
def spec_DrawCacheTry.B13 : List Nat := [0, 0, 0, 0, 1, 19, 55, 127]
theorem spec_DrawCacheTry.tab13 : rtab .any (opsOf Try.f6 13) = spec_DrawCacheTry.T13 := by kernel_rfl
theorem spec_DrawCacheTry.bits13 : waitsOk spec_DrawCacheTry.T13.2 spec_DrawCacheTry.B13 = true := by kernel_rfl
set_option maxHeartbeats 8000000 in
set_option maxRecDepth 100000 in
theorem spec_DrawCacheTry.calls (k : Nat) (A0 : Option Addr) (c0 : Nat) (l0 : List Int) (r1 : Int) (r2 : List (S28)) (r3 : Int) (r4 : Int) (r5 : Int) (r6 : Int) (r7 : Int) (w : World) (hr0 : Kd.C (Kd.int .u8) w A0 l0.length l0) (hc0 : l0.length ≤ c0) (h : spec_DrawCacheTry.f k l0 = some (r1, r2, r3, r4, r5, r6, r7)) :
  Calls Try.prog 6 #[.slice A0 l0.length c0] w fun e w' => ∃ v1_ : Value, e = .returned (.tuple #[.agg #[.int .i64 r1, v1_], .agg #[.int .i64 r3, .int .i64 r4, .int .i64 r5], .int .i64 r6, .int .i64 r7]) ∧ Kd.R k28 28 w' w.heap.size (fun _ => True) v1_ r2 ∧ Below w.heap.size w w' := by
 have hu26 := Try.underlying26
 have hu28 := Try.underlying28
 have HR0 := Aside0.mk hr0
 have HC0 := Aside0.mk hc0
 clear hr0 hc0
 have HB := Aside0.mk (Below.refl w.heap.size w)
 have H : ((spec_l1New.f k l0).bind fun bt278 => ((spec_l1Below.f bt278.1 bt278.2.1 bt278.2.2 25).bind fun bt282 => ((spec_l1PickInt.f bt278.1 bt282.2.1 bt282.2.2 (([3, 3, 3, 0, 20, (-1), 21] : List Int))).bind fun bt288 => ((spec_l1Below.f bt278.1 bt288.2.1 bt288.2.2 3).bind fun bt291 => ((spec_l1Below.f bt278.1 bt291.2.1 bt291.2.2 5).bind fun bt294 => ((spec_l1Below.f bt278.1 bt294.2.1 bt294.2.2 3).bind fun bt297 => ((spec_l1Size.f l0 25).bind fun t301 => ((spec_l7Cache.f k bt278.1 bt297.2.1 bt297.2.2 t301).bind fun bt302 => (if (bt302.2.1.length : Int) > 0 then ((spec_l1Once.f bt278.1 bt302.2.2.1 bt302.2.2.2 3).bind fun bt309 => (spec_DrawCacheTry.j0 k bt282.1 bt288.1 bt309.1 bt278.1 bt309.2.1 bt309.2.2 bt291.1 (wrap64 ((wrap64 (bt282.1 + bt294.1)) - 2)) bt297.1 bt302.1 bt302.2.1)) else (spec_DrawCacheTry.j0 k bt282.1 bt288.1 false bt278.1 bt302.2.2.1 bt302.2.2.2 bt291.1 (wrap64 ((wrap64 (bt282.1 + bt294.1)) - 2)) bt297.1 bt302.1 bt302.2.1)))))))))) = some (r1, r2, r3, r4, r5, r6, r7) := h
 clear h
 replace H := Option.bind_eq_some_iff.mp H
 obtain ⟨⟨t278, t279, t280⟩, A20, H⟩ := H
 replace H : ((spec_l1Below.f t278 t279 t280 25).bind fun bt282 => ((spec_l1PickInt.f t278 bt282.2.1 bt282.2.2 (([3, 3, 3, 0, 20, (-1), 21] : List Int))).bind fun bt288 => ((spec_l1Below.f t278 bt288.2.1 bt288.2.2 3).bind fun bt291 => ((spec_l1Below.f t278 bt291.2.1 bt291.2.2 5).bind fun bt294 => ((spec_l1Below.f t278 bt294.2.1 bt294.2.2 3).bind fun bt297 => ((spec_l1Size.f l0 25).bind fun t301 => ((spec_l7Cache.f k t278 bt297.2.1 bt297.2.2 t301).bind fun bt302 => (if (bt302.2.1.length : Int) > 0 then ((spec_l1Once.f t278 bt302.2.2.1 bt302.2.2.2 3).bind fun bt309 => (spec_DrawCacheTry.j0 k bt282.1 bt288.1 bt309.1 t278 bt309.2.1 bt309.2.2 bt291.1 (wrap64 ((wrap64 (bt282.1 + bt294.1)) - 2)) bt297.1 bt302.1 bt302.2.1)) else (spec_DrawCacheTry.j0 k bt282.1 bt288.1 false t278 bt302.2.2.1 bt302.2.2.2 bt291.1 (wrap64 ((wrap64 (bt282.1 + bt294.1)) - 2)) bt297.1 bt302.1 bt302.2.1))))))))) = some (r1, r2, r3, r4, r5, r6, r7) := H
 have A2 := Aside0.mk A20
 clear A20
 replace H := Option.bind_eq_some_iff.mp H
 obtain ⟨⟨t282, t283, t284⟩, A30, H⟩ := H
 replace H : ((spec_l1PickInt.f t278 t283 t284 (([3, 3, 3, 0, 20, (-1), 21] : List Int))).bind fun bt288 => ((spec_l1Below.f t278 bt288.2.1 bt288.2.2 3).bind fun bt291 => ((spec_l1Below.f t278 bt291.2.1 bt291.2.2 5).bind fun bt294 => ((spec_l1Below.f t278 bt294.2.1 bt294.2.2 3).bind fun bt297 => ((spec_l1Size.f l0 25).bind fun t301 => ((spec_l7Cache.f k t278 bt297.2.1 bt297.2.2 t301).bind fun bt302 => (if (bt302.2.1.length : Int) > 0 then ((spec_l1Once.f t278 bt302.2.2.1 bt302.2.2.2 3).bind fun bt309 => (spec_DrawCacheTry.j0 k t282 bt288.1 bt309.1 t278 bt309.2.1 bt309.2.2 bt291.1 (wrap64 ((wrap64 (t282 + bt294.1)) - 2)) bt297.1 bt302.1 bt302.2.1)) else (spec_DrawCacheTry.j0 k t282 bt288.1 false t278 bt302.2.2.1 bt302.2.2.2 bt291.1 (wrap64 ((wrap64 (t282 + bt294.1)) - 2)) bt297.1 bt302.1 bt302.2.1)))))))) = some (r1, r2, r3, r4, r5, r6, r7) := H
 have A3 := Aside0.mk A30
 clear A30
 obtain ⟨y285, hy285⟩ : ∃ y_ : List Int, y_ = (([3, 3, 3, 0, 20, (-1), 21] : List Int)) := ⟨_, rfl⟩
 replace H : ((spec_l1PickInt.f t278 t283 t284 y285).bind fun bt288 => ((spec_l1Below.f t278 bt288.2.1 bt288.2.2 3).bind fun bt291 => ((spec_l1Below.f t278 bt291.2.1 bt291.2.2 5).bind fun bt294 => ((spec_l1Below.f t278 bt294.2.1 bt294.2.2 3).bind fun bt297 => ((spec_l1Size.f l0 25).bind fun t301 => ((spec_l7Cache.f k t278 bt297.2.1 bt297.2.2 t301).bind fun bt302 => (if (bt302.2.1.length : Int) > 0 then ((spec_l1Once.f t278 bt302.2.2.1 bt302.2.2.2 3).bind fun bt309 => (spec_DrawCacheTry.j0 k t282 bt288.1 bt309.1 t278 bt309.2.1 bt309.2.2 bt291.1 (wrap64 ((wrap64 (t282 + bt294.1)) - 2)) bt297.1 bt302.1 bt302.2.1)) else (spec_DrawCacheTry.j0 k t282 bt288.1 false t278 bt302.2.2.1 bt302.2.2.2 bt291.1 (wrap64 ((wrap64 (t282 + bt294.1)) - 2)) bt297.1 bt302.1 bt302.2.1)))))))) = some (r1, r2, r3, r4, r5, r6, r7) := by first | (rw [hy285]; with_reducible exact H) | (have H2_ := (Option.bind_some _ _).symm.trans H; rw [hy285]; with_reducible exact H2_) | (have H2_ := (Option.bind_some _ _).symm.trans H; with_reducible exact H2_) | with_reducible exact H | (rw [hy285]; exact H) | exact H
 have Ny285 := Aside0.mk hy285
 clear hy285
 replace H := Option.bind_eq_some_iff.mp H
 obtain ⟨⟨t288, t289, t290⟩, A40, H⟩ := H
 replace H : ((spec_l1Below.f t278 t289 t290 3).bind fun bt291 => ((spec_l1Below.f t278 bt291.2.1 bt291.2.2 5).bind fun bt294 => ((spec_l1Below.f t278 bt294.2.1 bt294.2.2 3).bind fun bt297 => ((spec_l1Size.f l0 25).bind fun t301 => ((spec_l7Cache.f k t278 bt297.2.1 bt297.2.2 t301).bind fun bt302 => (if (bt302.2.1.length : Int) > 0 then ((spec_l1Once.f t278 bt302.2.2.1 bt302.2.2.2 3).bind fun bt309 => (spec_DrawCacheTry.j0 k t282 t288 bt309.1 t278 bt309.2.1 bt309.2.2 bt291.1 (wrap64 ((wrap64 (t282 + bt294.1)) - 2)) bt297.1 bt302.1 bt302.2.1)) else (spec_DrawCacheTry.j0 k t282 t288 false t278 bt302.2.2.1 bt302.2.2.2 bt291.1 (wrap64 ((wrap64 (t282 + bt294.1)) - 2)) bt297.1 bt302.1 bt302.2.1))))))) = some (r1, r2, r3, r4, r5, r6, r7) := H
 have A4 := Aside0.mk A40
 clear A40
 replace H := Option.bind_eq_some_iff.mp H
 obtain ⟨⟨t291, t292, t293⟩, A50, H⟩ := H
 replace H : ((spec_l1Below.f t278 t292 t293 5).bind fun bt294 => ((spec_l1Below.f t278 bt294.2.1 bt294.2.2 3).bind fun bt297 => ((spec_l1Size.f l0 25).bind fun t301 => ((spec_l7Cache.f k t278 bt297.2.1 bt297.2.2 t301).bind fun bt302 => (if (bt302.2.1.length : Int) > 0 then ((spec_l1Once.f t278 bt302.2.2.1 bt302.2.2.2 3).bind fun bt309 => (spec_DrawCacheTry.j0 k t282 t288 bt309.1 t278 bt309.2.1 bt309.2.2 t291 (wrap64 ((wrap64 (t282 + bt294.1)) - 2)) bt297.1 bt302.1 bt302.2.1)) else (spec_DrawCacheTry.j0 k t282 t288 false t278 bt302.2.2.1 bt302.2.2.2 t291 (wrap64 ((wrap64 (t282 + bt294.1)) - 2)) bt297.1 bt302.1 bt302.2.1)))))) = some (r1, r2, r3, r4, r5, r6, r7) := H
 have A5 := Aside0.mk A50
 clear A50
 replace H := Option.bind_eq_some_iff.mp H
 obtain ⟨⟨t294, t295, t296⟩, A60, H⟩ := H
 replace H : ((spec_l1Below.f t278 t295 t296 3).bind fun bt297 => ((spec_l1Size.f l0 25).bind fun t301 => ((spec_l7Cache.f k t278 bt297.2.1 bt297.2.2 t301).bind fun bt302 => (if (bt302.2.1.length : Int) > 0 then ((spec_l1Once.f t278 bt302.2.2.1 bt302.2.2.2 3).bind fun bt309 => (spec_DrawCacheTry.j0 k t282 t288 bt309.1 t278 bt309.2.1 bt309.2.2 t291 (wrap64 ((wrap64 (t282 + t294)) - 2)) bt297.1 bt302.1 bt302.2.1)) else (spec_DrawCacheTry.j0 k t282 t288 false t278 bt302.2.2.1 bt302.2.2.2 t291 (wrap64 ((wrap64 (t282 + t294)) - 2)) bt297.1 bt302.1 bt302.2.1))))) = some (r1, r2, r3, r4, r5, r6, r7) := H
 have A6 := Aside0.mk A60
 clear A60
 replace H := Option.bind_eq_some_iff.mp H
 obtain ⟨⟨t297, t298, t299⟩, A70, H⟩ := H
 replace H : ((spec_l1Size.f l0 25).bind fun t301 => ((spec_l7Cache.f k t278 t298 t299 t301).bind fun bt302 => (if (bt302.2.1.length : Int) > 0 then ((spec_l1Once.f t278 bt302.2.2.1 bt302.2.2.2 3).bind fun bt309 => (spec_DrawCacheTry.j0 k t282 t288 bt309.1 t278 bt309.2.1 bt309.2.2 t291 (wrap64 ((wrap64 (t282 + t294)) - 2)) t297 bt302.1 bt302.2.1)) else (spec_DrawCacheTry.j0 k t282 t288 false t278 bt302.2.2.1 bt302.2.2.2 t291 (wrap64 ((wrap64 (t282 + t294)) - 2)) t297 bt302.1 bt302.2.1)))) = some (r1, r2, r3, r4, r5, r6, r7) := H
 have A7 := Aside0.mk A70
 clear A70
 replace H := Option.bind_eq_some_iff.mp H
 obtain ⟨t301, A80, H⟩ := H
 replace H : ((spec_l7Cache.f k t278 t298 t299 t301).bind fun bt302 => (if (bt302.2.1.length : Int) > 0 then ((spec_l1Once.f t278 bt302.2.2.1 bt302.2.2.2 3).bind fun bt309 => (spec_DrawCacheTry.j0 k t282 t288 bt309.1 t278 bt309.2.1 bt309.2.2 t291 (wrap64 ((wrap64 (t282 + t294)) - 2)) t297 bt302.1 bt302.2.1)) else (spec_DrawCacheTry.j0 k t282 t288 false t278 bt302.2.2.1 bt302.2.2.2 t291 (wrap64 ((wrap64 (t282 + t294)) - 2)) t297 bt302.1 bt302.2.1))) = some (r1, r2, r3, r4, r5, r6, r7) := H
 have A8 := Aside0.mk A80
 clear A80
 replace H := Option.bind_eq_some_iff.mp H
 obtain ⟨⟨t302, t303, t306, t307⟩, A90, H⟩ := H
 replace H : (if (t303.length : Int) > 0 then ((spec_l1Once.f t278 t306 t307 3).bind fun bt309 => (spec_DrawCacheTry.j0 k t282 t288 bt309.1 t278 bt309.2.1 bt309.2.2 t291 (wrap64 ((wrap64 (t282 + t294)) - 2)) t297 t302 t303)) else (spec_DrawCacheTry.j0 k t282 t288 false t278 t306 t307 t291 (wrap64 ((wrap64 (t282 + t294)) - 2)) t297 t302 t303)) = some (r1, r2, r3, r4, r5, r6, r7) := H
 have A9 := Aside0.mk A90
 clear A90
 have HC10 := Aside0.mk H
 clear H
 go_enter Try.func6, Try.ntmps6
 go_upto_region 6 with (first | ((with_reducible refine gate_dst (N := 2) rfl ?_); refine box_event ?hg (N := 2) ?hd (cs := #[.int .i64 0, .slice none 0 0]) (t := 26) ?hr ?_; (case hd => rfl); (case hg => rfl); (case hr => first | (go_simp; done) | (go_simp; rfl)); intro gb276 hg w11 hbox hb; have n0_ := Aside0.mk (below_step bH hb); have n1_ := Aside0.mk (hbox); have n2_ := Aside0.mk ((bZ hg : w.heap.size ≤ gb276)); have n3_ := Aside0.mk ((bZ hg : w.heap.size ≤ gb276)); clear HB; have HB := n0_; have BK276 := n1_; have GW276 := n2_; have GE276 := n3_; clear n0_ n1_ n2_ n3_; clear hb hbox hg) | ((with_reducible refine gate_dst (N := 3) rfl ?_); refine box_event ?hg (N := 3) ?hd (cs := #[.int .i64 0, .int .i64 0, .int .i64 0]) (t := 28) ?hr ?_; (case hd => rfl); (case hg => rfl); (case hr => first | (go_simp; done) | (go_simp; rfl)); intro gb277 hg w12 hbox hb; have n0_ := Aside0.mk (blk_below (kB BK276.out) hb); have n1_ := Aside0.mk (below_step bS hb); have n2_ := Aside0.mk (hbox); have n3_ := Aside0.mk ((bZ hg : w.heap.size ≤ gb277)); have n4_ := Aside0.mk ((bZ hg : w.heap.size ≤ gb277)); have n5_ := Aside0.mk ((nL hg BK276.out : gb276 ≠ gb277)); have n6_ := Aside0.mk ((nG hg BK276.out : gb277 ≠ gb276)); clear BK276; clear HB; have BK276 := n0_; have HB := n1_; have BK277 := n2_; have GW277 := n3_; have GE277 := n4_; have NB276_277 := n5_; have NB277_276 := n6_; clear n0_ n1_ n2_ n3_ n4_ n5_ n6_; clear hb hbox hg) | ((with_reducible refine gate_callee (f := 18) rfl ?_); refine goesL_ (some 12) rfl rfl Try.func18 (by kernel_rfl) rfl #[.slice A0 l0.length c0] rfl eA ?_; (with_reducible refine (spec_l1New.calls k _ _ l0 t278 t279 t280 w _ ?side1 ?side2 ?side3 A2.out).mono ?_); (case side1 => repeat (first | (with_reducible first | exact HB.out | apply below_alloc | apply pw_below_drewN | apply below_drew1 | refine below_set ?_ GE276.out | refine below_set ?_ GE277.out) | exact HB.out)); (case side2 => exact HR0.out); (case side3 => exact HC0.out); rintro e w13 ⟨g281, rfl, hi, hb, hb2⟩; refine ⟨_, rfl, ?_⟩; have n0_ := Aside0.mk (blk_below (kB BK276.out) hb2); have n1_ := Aside0.mk (blk_below (kB BK277.out) hb2); have n2_ := Aside0.mk (hb); have n3_ := Aside0.mk (hi); have n4_ := Aside0.mk (IsS66.ne_blk hi (blk_below (kB BK276.out) hb2) (by decide)); have n5_ := Aside0.mk (Ne.symm (IsS66.ne_blk hi (blk_below (kB BK276.out) hb2) (by decide))); have n6_ := Aside0.mk (IsS66.ne_blk hi (blk_below (kB BK277.out) hb2) (by decide)); have n7_ := Aside0.mk (Ne.symm (IsS66.ne_blk hi (blk_below (kB BK277.out) hb2) (by decide))); clear BK276; clear BK277; clear HB; have BK276 := n0_; have BK277 := n1_; have HB := n2_; have HI281 := n3_; have NB281_276 := n4_; have NB276_281 := n5_; have NB281_277 := n6_; have NB277_281 := n7_; clear n0_ n1_ n2_ n3_ n4_ n5_ n6_ n7_; (try clear hb); (try clear hb2); (try clear hk); (try clear hi)) | ((with_reducible refine gate_callee (f := 19) rfl ?_); refine goesL_ (some 14) rfl rfl Try.func19 (by kernel_rfl) rfl #[.pointer (some ⟨g281, 0, none⟩), .int .i64 25] rfl eA ?_; (with_reducible refine (spec_l1Below.calls g281 t278 t279 t280 25 t282 t283 t284 w _ ?side1 ?side2 A3.out).mono ?_); (case side1 => repeat (first | (with_reducible first | exact HI281.out | apply IsS66.alloc | apply IsS66.drewN | apply IsS66.drew | apply IsS66.set_1 | apply IsS66.set_2 | refine IsS66.far ?_ NB281_276.out _ | refine IsS66.far ?_ NB281_277.out _) | exact HI281.out)); (case side2 => repeat (first | (with_reducible first | exact HB.out | apply below_alloc | apply pw_below_drewN | apply below_drew1 | refine below_set ?_ (IsS66.ge HI281.out) | refine below_set ?_ GE276.out | refine below_set ?_ GE277.out) | exact HB.out)); rintro e w14 ⟨rfl, hi, hb, hk⟩; refine ⟨_, rfl, ?_⟩; have n0_ := Aside0.mk (KeepBut.blk hk (g' := gb276) (o := .cells #[.int .i64 0, .slice none 0 0] 26 (0, 0)) (kB BK276.out) NB276_281.out (by simp)); have n1_ := Aside0.mk (KeepBut.blk hk (g' := gb277) (o := .cells #[.int .i64 0, .int .i64 0, .int .i64 0] 28 (0, 0)) (kB BK277.out) NB277_281.out (by simp)); have n2_ := Aside0.mk (hb); have n3_ := Aside0.mk (hi); clear BK276; clear BK277; clear HB; clear HI281; have BK276 := n0_; have BK277 := n1_; have HB := n2_; have HI281 := n3_; clear n0_ n1_ n2_ n3_; (try clear hb); (try clear hb2); (try clear hk); (try clear hi)) | ((with_reducible refine gate_dst (N := 16) rfl ?_); refine Kd.R_lit (Kd.int .i64) _ 3 ?hg (N := 16) ?hd (xs := ([3, 3, 3, 0, 20, (-1), 21] : List Int)) (inner := [.int .i64 3, .int .i64 3, .int .i64 3, .int .i64 0, .int .i64 20, .int .i64 (-1), .int .i64 21]) (ok := fun _ => True) (okp := fun _ => True) ?hr ?hp (fun _ hk => hk) trivial (Below.refl _ _) (Nat.le_refl _) (by simp) ?_; (case hd => rfl); (case hg => rfl); (case hr => first | (go_simp; done) | (go_simp; rfl)); (case hp => exact (Reps.one (show Kd.M (Kd.int .i64) _ _ _ 3 [.int .i64 3] from rfl) (Reps.one (show Kd.M (Kd.int .i64) _ _ _ 3 [.int .i64 3] from rfl) (Reps.one (show Kd.M (Kd.int .i64) _ _ _ 3 [.int .i64 3] from rfl) (Reps.one (show Kd.M (Kd.int .i64) _ _ _ 0 [.int .i64 0] from rfl) (Reps.one (show Kd.M (Kd.int .i64) _ _ _ 20 [.int .i64 20] from rfl) (Reps.one (show Kd.M (Kd.int .i64) _ _ _ (-1) [.int .i64 (-1)] from rfl) (Reps.one (show Kd.M (Kd.int .i64) _ _ _ 21 [.int .i64 21] from rfl) (Reps.none _ _))))))))); intro v286 w15 ho16 hb hg_ hnew_; clear hg_ hnew_; (first | rw [← Ny285.out] at ho16 | (simp only [Int.reduceToNat] at ho16; rw [← Ny285.out] at ho16)); have n0_ := Aside0.mk (Kd.R_lower ho16 (below_size (by repeat (first | (with_reducible first | exact HB.out | apply below_alloc | apply pw_below_drewN | apply below_drew1 | refine below_set ?_ (IsS66.ge HI281.out) | refine below_set ?_ GE276.out | refine below_set ?_ GE277.out) | exact HB.out)))); have n1_ := Aside0.mk (blk_below (kB BK276.out) hb); have n2_ := Aside0.mk (blk_below (kB BK277.out) hb); have n3_ := Aside0.mk (IsS66.below (by repeat (first | (with_reducible first | exact HI281.out | apply IsS66.alloc | apply IsS66.drewN | apply IsS66.drew | apply IsS66.set_1 | apply IsS66.set_2 | refine IsS66.far ?_ NB281_276.out _ | refine IsS66.far ?_ NB281_277.out _) | exact HI281.out)) hb); have n4_ := Aside0.mk (below_step (by repeat (first | (with_reducible first | exact HB.out | apply below_alloc | apply pw_below_drewN | apply below_drew1 | refine below_set ?_ (IsS66.ge HI281.out) | refine below_set ?_ GE276.out | refine below_set ?_ GE277.out) | exact HB.out)) hb); clear BK276; clear BK277; clear HI281; clear HB; have HO287 := n0_; have BK276 := n1_; have BK277 := n2_; have HI281 := n3_; have HB := n4_; clear n0_ n1_ n2_ n3_ n4_; clear hb ho16; obtain ⟨Ao17, co17, eo17⟩ := Kd.R_slice HO287.out; subst eo17) | ((with_reducible refine gate_callee (f := 20) rfl ?_); refine goesL_ (some 17) rfl rfl Try.func20 (by kernel_rfl) rfl #[.pointer (some ⟨g281, 0, none⟩), .slice Ao17 y285.length co17] rfl eA ?_; (with_reducible refine (spec_l1PickInt.calls g281 t278 t283 t284 _ _ y285 t288 t289 t290 w _ ?side1 ?side2 ?side3 ?side4 ?side5 A4.out).mono ?_); (case side1 => repeat (first | (with_reducible first | exact HI281.out | apply IsS66.alloc | apply IsS66.drewN | apply IsS66.drew | apply IsS66.set_1 | apply IsS66.set_2 | refine IsS66.far ?_ NB281_276.out _ | refine IsS66.far ?_ NB281_277.out _) | exact HI281.out)); (case side2 => repeat (first | (with_reducible first | exact HB.out | apply below_alloc | apply pw_below_drewN | apply below_drew1 | refine below_set ?_ (IsS66.ge HI281.out) | refine below_set ?_ GE276.out | refine below_set ?_ GE277.out) | exact HB.out)); (case side3 => repeat (first | exact (Kd.R_reads' HO287.out).2.2 | (with_reducible refine Kd.C_alloc ?_ _) | (with_reducible refine Kd.C_drewN ?_ _) | (with_reducible refine Kd.C_drew ?_))); (case side4 => exact (Kd.R_reads' HO287.out).2.1); (case side5 => exact far_slice (IsS66.own_ne HI281.out HO287.out (by decide))); rintro e w18 ⟨rfl, hi, hb, hk⟩; refine ⟨_, rfl, ?_⟩; have n0_ := Aside0.mk (KeepBut.blk hk (g' := gb276) (o := .cells #[.int .i64 0, .slice none 0 0] 26 (0, 0)) (kB BK276.out) NB276_281.out (by simp)); have n1_ := Aside0.mk (KeepBut.blk hk (g' := gb277) (o := .cells #[.int .i64 0, .int .i64 0, .int .i64 0] 28 (0, 0)) (kB BK277.out) NB277_281.out (by simp)); have n2_ := Aside0.mk (Kd.R_mono (Kd.R_keep (IsS66.apart (show IsS66 w _ g281 t278 t283 t284 from by repeat (first | (with_reducible first | exact HI281.out | apply IsS66.alloc | apply IsS66.drewN | apply IsS66.drew | apply IsS66.set_1 | apply IsS66.set_2 | refine IsS66.far ?_ NB281_276.out _ | refine IsS66.far ?_ NB281_277.out _) | exact HI281.out)) (kR HO287.out) (by decide)) hk (fun _ h => h.2)) (fun _ h => h.1)); have n3_ := Aside0.mk (hb); have n4_ := Aside0.mk (hi); clear BK276; clear BK277; clear HO287; clear HB; clear HI281; have BK276 := n0_; have BK277 := n1_; have HO287 := n2_; have HB := n3_; have HI281 := n4_; clear n0_ n1_ n2_ n3_ n4_; (try clear hb); (try clear hb2); (try clear hk); (try clear hi)) | ((with_reducible refine gate_callee (f := 19) rfl ?_); refine goesL_ (some 19) rfl rfl Try.func19 (by kernel_rfl) rfl #[.pointer (some ⟨g281, 0, none⟩), .int .i64 3] rfl eA ?_; (with_reducible refine (spec_l1Below.calls g281 t278 t289 t290 3 t291 t292 t293 w _ ?side1 ?side2 A5.out).mono ?_); (case side1 => repeat (first | (with_reducible first | exact HI281.out | apply IsS66.alloc | apply IsS66.drewN | apply IsS66.drew | apply IsS66.set_1 | apply IsS66.set_2 | refine IsS66.far ?_ NB281_276.out _ | refine IsS66.far ?_ NB281_277.out _) | exact HI281.out)); (case side2 => repeat (first | (with_reducible first | exact HB.out | apply below_alloc | apply pw_below_drewN | apply below_drew1 | refine below_set ?_ (IsS66.ge HI281.out) | refine below_set ?_ GE276.out | refine below_set ?_ GE277.out) | exact HB.out)); rintro e w19 ⟨rfl, hi, hb, hk⟩; refine ⟨_, rfl, ?_⟩; have n0_ := Aside0.mk (KeepBut.blk hk (g' := gb276) (o := .cells #[.int .i64 0, .slice none 0 0] 26 (0, 0)) (kB BK276.out) NB276_281.out (by simp)); have n1_ := Aside0.mk (KeepBut.blk hk (g' := gb277) (o := .cells #[.int .i64 0, .int .i64 0, .int .i64 0] 28 (0, 0)) (kB BK277.out) NB277_281.out (by simp)); have n2_ := Aside0.mk (Kd.R_mono (Kd.R_keep (IsS66.apart (show IsS66 w _ g281 t278 t289 t290 from by repeat (first | (with_reducible first | exact HI281.out | apply IsS66.alloc | apply IsS66.drewN | apply IsS66.drew | apply IsS66.set_1 | apply IsS66.set_2 | refine IsS66.far ?_ NB281_276.out _ | refine IsS66.far ?_ NB281_277.out _) | exact HI281.out)) (kR HO287.out) (by decide)) hk (fun _ h => h.2)) (fun _ h => h.1)); have n3_ := Aside0.mk (hb); have n4_ := Aside0.mk (hi); clear BK276; clear BK277; clear HO287; clear HB; clear HI281; have BK276 := n0_; have BK277 := n1_; have HO287 := n2_; have HB := n3_; have HI281 := n4_; clear n0_ n1_ n2_ n3_ n4_; (try clear hb); (try clear hb2); (try clear hk); (try clear hi)) | ((with_reducible refine gate_callee (f := 19) rfl ?_); refine goesL_ (some 22) rfl rfl Try.func19 (by kernel_rfl) rfl #[.pointer (some ⟨g281, 0, none⟩), .int .i64 5] rfl eA ?_; (with_reducible refine (spec_l1Below.calls g281 t278 t292 t293 5 t294 t295 t296 w _ ?side1 ?side2 A6.out).mono ?_); (case side1 => repeat (first | (with_reducible first | exact HI281.out | apply IsS66.alloc | apply IsS66.drewN | apply IsS66.drew | apply IsS66.set_1 | apply IsS66.set_2 | refine IsS66.far ?_ NB281_276.out _ | refine IsS66.far ?_ NB281_277.out _) | exact HI281.out)); (case side2 => repeat (first | (with_reducible first | exact HB.out | apply below_alloc | apply pw_below_drewN | apply below_drew1 | refine below_set ?_ (IsS66.ge HI281.out) | refine below_set ?_ GE276.out | refine below_set ?_ GE277.out) | exact HB.out)); rintro e w20 ⟨rfl, hi, hb, hk⟩; refine ⟨_, rfl, ?_⟩; have n0_ := Aside0.mk (KeepBut.blk hk (g' := gb276) (o := .cells #[.int .i64 0, .slice none 0 0] 26 (0, 0)) (kB BK276.out) NB276_281.out (by simp)); have n1_ := Aside0.mk (KeepBut.blk hk (g' := gb277) (o := .cells #[.int .i64 0, .int .i64 0, .int .i64 0] 28 (0, 0)) (kB BK277.out) NB277_281.out (by simp)); have n2_ := Aside0.mk (Kd.R_mono (Kd.R_keep (IsS66.apart (show IsS66 w _ g281 t278 t292 t293 from by repeat (first | (with_reducible first | exact HI281.out | apply IsS66.alloc | apply IsS66.drewN | apply IsS66.drew | apply IsS66.set_1 | apply IsS66.set_2 | refine IsS66.far ?_ NB281_276.out _ | refine IsS66.far ?_ NB281_277.out _) | exact HI281.out)) (kR HO287.out) (by decide)) hk (fun _ h => h.2)) (fun _ h => h.1)); have n3_ := Aside0.mk (hb); have n4_ := Aside0.mk (hi); clear BK276; clear BK277; clear HO287; clear HB; clear HI281; have BK276 := n0_; have BK277 := n1_; have HO287 := n2_; have HB := n3_; have HI281 := n4_; clear n0_ n1_ n2_ n3_ n4_; (try clear hb); (try clear hb2); (try clear hk); (try clear hi)) | ((with_reducible refine gate_callee (f := 19) rfl ?_); refine goesL_ (some 26) rfl rfl Try.func19 (by kernel_rfl) rfl #[.pointer (some ⟨g281, 0, none⟩), .int .i64 3] rfl eA ?_; (with_reducible refine (spec_l1Below.calls g281 t278 t295 t296 3 t297 t298 t299 w _ ?side1 ?side2 A7.out).mono ?_); (case side1 => repeat (first | (with_reducible first | exact HI281.out | apply IsS66.alloc | apply IsS66.drewN | apply IsS66.drew | apply IsS66.set_1 | apply IsS66.set_2 | refine IsS66.far ?_ NB281_276.out _ | refine IsS66.far ?_ NB281_277.out _) | exact HI281.out)); (case side2 => repeat (first | (with_reducible first | exact HB.out | apply below_alloc | apply pw_below_drewN | apply below_drew1 | refine below_set ?_ (IsS66.ge HI281.out) | refine below_set ?_ GE276.out | refine below_set ?_ GE277.out) | exact HB.out)); rintro e w21 ⟨rfl, hi, hb, hk⟩; refine ⟨_, rfl, ?_⟩; have n0_ := Aside0.mk (KeepBut.blk hk (g' := gb276) (o := .cells #[.int .i64 0, .slice none 0 0] 26 (0, 0)) (kB BK276.out) NB276_281.out (by simp)); have n1_ := Aside0.mk (KeepBut.blk hk (g' := gb277) (o := .cells #[.int .i64 0, .int .i64 0, .int .i64 0] 28 (0, 0)) (kB BK277.out) NB277_281.out (by simp)); have n2_ := Aside0.mk (Kd.R_mono (Kd.R_keep (IsS66.apart (show IsS66 w _ g281 t278 t295 t296 from by repeat (first | (with_reducible first | exact HI281.out | apply IsS66.alloc | apply IsS66.drewN | apply IsS66.drew | apply IsS66.set_1 | apply IsS66.set_2 | refine IsS66.far ?_ NB281_276.out _ | refine IsS66.far ?_ NB281_277.out _) | exact HI281.out)) (kR HO287.out) (by decide)) hk (fun _ h => h.2)) (fun _ h => h.1)); have n3_ := Aside0.mk (hb); have n4_ := Aside0.mk (hi); clear BK276; clear BK277; clear HO287; clear HB; clear HI281; have BK276 := n0_; have BK277 := n1_; have HO287 := n2_; have HB := n3_; have HI281 := n4_; clear n0_ n1_ n2_ n3_ n4_; (try clear hb); (try clear hb2); (try clear hk); (try clear hi)) | ((with_reducible refine gate_dst (N := 9) rfl ?_); refine box_event ?hg (N := 9) ?hd (cs := #[.int .i64 0, .int .i64 0, .int .i64 0]) (t := 28) ?hr ?_; (case hd => rfl); (case hg => rfl); (case hr => first | (go_simp; done) | (go_simp; rfl)); intro gb300 hg w22 hbox hb; have n0_ := Aside0.mk (Kd.R_below (kR HO287.out) hb); have n1_ := Aside0.mk (blk_below (kB BK276.out) hb); have n2_ := Aside0.mk (blk_below (kB BK277.out) hb); have n3_ := Aside0.mk (IsS66.below (by repeat (first | (with_reducible first | exact HI281.out | apply IsS66.alloc | apply IsS66.drewN | apply IsS66.drew | apply IsS66.set_1 | apply IsS66.set_2 | refine IsS66.far ?_ NB281_276.out _ | refine IsS66.far ?_ NB281_277.out _) | exact HI281.out)) hb); have n4_ := Aside0.mk (below_step (by repeat (first | (with_reducible first | exact HB.out | apply below_alloc | apply pw_below_drewN | apply below_drew1 | refine below_set ?_ (IsS66.ge HI281.out) | refine below_set ?_ GE276.out | refine below_set ?_ GE277.out) | exact HB.out)) hb); have n5_ := Aside0.mk (hbox); have n6_ := Aside0.mk ((by rw [hg]; exact (below_size (by repeat (first | (with_reducible first | exact HB.out | apply below_alloc | apply pw_below_drewN | apply below_drew1 | refine below_set ?_ (IsS66.ge HI281.out) | refine below_set ?_ GE276.out | refine below_set ?_ GE277.out) | exact HB.out))) : w.heap.size ≤ gb300)); have n7_ := Aside0.mk ((by rw [hg]; exact (below_size (by repeat (first | (with_reducible first | exact HB.out | apply below_alloc | apply pw_below_drewN | apply below_drew1 | refine below_set ?_ (IsS66.ge HI281.out) | refine below_set ?_ GE276.out | refine below_set ?_ GE277.out) | exact HB.out))) : w.heap.size ≤ gb300)); have n8_ := Aside0.mk ((nL hg BK276.out : gb276 ≠ gb300)); have n9_ := Aside0.mk ((nG hg BK276.out : gb300 ≠ gb276)); have n10_ := Aside0.mk ((nL hg BK277.out : gb277 ≠ gb300)); have n11_ := Aside0.mk ((nG hg BK277.out : gb300 ≠ gb277)); have n12_ := Aside0.mk ((by rw [hg]; exact Nat.ne_of_lt (IsS66.lt (show IsS66 w _ g281 t278 t298 t299 from by repeat (first | (with_reducible first | exact HI281.out | apply IsS66.alloc | apply IsS66.drewN | apply IsS66.drew | apply IsS66.set_1 | apply IsS66.set_2 | refine IsS66.far ?_ NB281_276.out _ | refine IsS66.far ?_ NB281_277.out _) | exact HI281.out))) : g281 ≠ gb300)); have n13_ := Aside0.mk ((by rw [hg]; exact Nat.ne_of_gt (IsS66.lt (show IsS66 w _ g281 t278 t298 t299 from by repeat (first | (with_reducible first | exact HI281.out | apply IsS66.alloc | apply IsS66.drewN | apply IsS66.drew | apply IsS66.set_1 | apply IsS66.set_2 | refine IsS66.far ?_ NB281_276.out _ | refine IsS66.far ?_ NB281_277.out _) | exact HI281.out))) : gb300 ≠ g281)); clear HO287; clear BK276; clear BK277; clear HI281; clear HB; have HO287 := n0_; have BK276 := n1_; have BK277 := n2_; have HI281 := n3_; have HB := n4_; have BK300 := n5_; have GW300 := n6_; have GE300 := n7_; have NB276_300 := n8_; have NB300_276 := n9_; have NB277_300 := n10_; have NB300_277 := n11_; have NB281_300 := n12_; have NB300_281 := n13_; clear n0_ n1_ n2_ n3_ n4_ n5_ n6_ n7_ n8_ n9_ n10_ n11_ n12_ n13_; clear hb hbox hg; have hnb23 := NB300_276.out; have hnc23 := NB276_300.out; have hnb24 := NB300_277.out; have hnc24 := NB277_300.out; have hnb25 := NB300_281.out; have hnc25 := NB281_300.out; have hcz26_0 : w22.cell? ⟨gb300, 0, none⟩ = some (.int .i64 0) := (blk_cell BK300.out 0).trans rfl; have hcz26_1 : w22.cell? ⟨gb300, 1, none⟩ = some (.int .i64 0) := (blk_cell BK300.out 1).trans rfl; have hcz26_2 : w22.cell? ⟨gb300, 2, none⟩ = some (.int .i64 0) := (blk_cell BK300.out 2).trans rfl; have hfz26_0 := blk_frozen BK300.out 0; have hfz26_1 := blk_frozen BK300.out 1; have hfz26_2 := blk_frozen BK300.out 2) | ((with_reducible refine gate_callee (f := 22) rfl ?_); refine goesL_ (some 30) rfl rfl Try.func22 (by kernel_rfl) rfl #[.slice A0 l0.length c0, .int .i64 25] rfl eA ?_; (with_reducible refine (spec_l1Size.calls _ _ l0 25 t301 _ ?side1 ?side2 A8.out).mono ?_); (case side1 => exact Kd.C_below HR0.out (by repeat (first | (with_reducible first | exact HB.out | apply below_alloc | apply pw_below_drewN | apply below_drew1 | refine below_set ?_ (IsS66.ge HI281.out) | refine below_set ?_ GE276.out | refine below_set ?_ GE277.out | refine below_set ?_ GE300.out) | exact HB.out))); (case side2 => exact HC0.out); rintro e w' ⟨rfl, ⟨nd, rfl⟩⟩; refine ⟨_, rfl, ?_⟩) | ((with_reducible refine gate_callee (f := 21) rfl ?_); refine goesL_ (some 31) rfl rfl Try.func21 (by kernel_rfl) rfl #[.pointer (some ⟨g281, 0, none⟩), .int .i64 t301] rfl eA ?_; (with_reducible refine (spec_l7Cache.calls k g281 t278 t298 t299 t301 t302 t303 t306 t307 w _ ?side1 ?side2 A9.out).mono ?_); (case side1 => repeat (first | (with_reducible first | exact HI281.out | apply IsS66.alloc | apply IsS66.drewN | apply IsS66.drew | apply IsS66.set_1 | apply IsS66.set_2 | refine IsS66.far ?_ NB281_276.out _ | refine IsS66.far ?_ NB281_277.out _ | refine IsS66.far ?_ NB281_300.out _) | exact HI281.out)); (case side2 => repeat (first | (with_reducible first | exact HB.out | apply below_alloc | apply pw_below_drewN | apply below_drew1 | refine below_set ?_ (IsS66.ge HI281.out) | refine below_set ?_ GE276.out | refine below_set ?_ GE277.out | refine below_set ?_ GE300.out) | exact HB.out)); rintro e w27 ⟨v304, rfl, ho0, hi, hb, hk⟩; refine ⟨_, rfl, ?_⟩; have n0_ := Aside0.mk (KeepBut.blk hk (g' := gb276) (o := .cells #[.int .i64 0, .slice none 0 0] 26 (0, 0)) (by (with_reducible repeat (first | refine blk_drewN ?_ _ | refine blk_drew ?_ | refine blk_alloc ?_ _)); refine blk_far ?_ NB276_300.out _; (with_reducible repeat (first | refine blk_drewN ?_ _ | refine blk_drew ?_ | refine blk_alloc ?_ _)); refine blk_far ?_ NB276_300.out _; (with_reducible repeat (first | refine blk_drewN ?_ _ | refine blk_drew ?_ | refine blk_alloc ?_ _)); refine blk_far ?_ NB276_300.out _; (with_reducible repeat (first | refine blk_drewN ?_ _ | refine blk_drew ?_ | refine blk_alloc ?_ _)); exact BK276.out) NB276_281.out (by simp)); have n1_ := Aside0.mk (KeepBut.blk hk (g' := gb277) (o := .cells #[.int .i64 0, .int .i64 0, .int .i64 0] 28 (0, 0)) (by (with_reducible repeat (first | refine blk_drewN ?_ _ | refine blk_drew ?_ | refine blk_alloc ?_ _)); refine blk_far ?_ NB277_300.out _; (with_reducible repeat (first | refine blk_drewN ?_ _ | refine blk_drew ?_ | refine blk_alloc ?_ _)); refine blk_far ?_ NB277_300.out _; (with_reducible repeat (first | refine blk_drewN ?_ _ | refine blk_drew ?_ | refine blk_alloc ?_ _)); refine blk_far ?_ NB277_300.out _; (with_reducible repeat (first | refine blk_drewN ?_ _ | refine blk_drew ?_ | refine blk_alloc ?_ _)); exact BK277.out) NB277_281.out (by simp)); have n2_ := Aside0.mk (Kd.R_mono (Kd.R_keep (IsS66.apart (show IsS66 w _ g281 t278 t298 t299 from by repeat (first | (with_reducible first | exact HI281.out | apply IsS66.alloc | apply IsS66.drewN | apply IsS66.drew | apply IsS66.set_1 | apply IsS66.set_2 | refine IsS66.far ?_ NB281_276.out _ | refine IsS66.far ?_ NB281_277.out _ | refine IsS66.far ?_ NB281_300.out _) | exact HI281.out)) (by (with_reducible repeat (first | apply Kd.R_alloc | apply Kd.R_drewN | apply Kd.R_drew)); exact (Kd.R_mono (Kd.R_far (p := ⟨gb300, 2, none⟩) (Kd.R_far (p := ⟨gb300, 1, none⟩) (Kd.R_far (p := ⟨gb300, 0, none⟩) (Kd.R_types HO287.out BK300.out (by decide)) (fun _ hk => hk.2) (.int .i64 t291)) (fun _ hk => hk.2) (.int .i64 (wrap64 ((wrap64 (t282 + t294)) - 2)))) (fun _ hk => hk.2) (.int .i64 t297)) (fun _ h_ => h_.1))) (by decide)) hk (fun _ h => h.2)) (fun _ h => h.1)); have n3_ := Aside0.mk (KeepBut.blk hk (g' := gb300) (o := .cells #[.int .i64 t291, .int .i64 (wrap64 ((wrap64 (t282 + t294)) - 2)), .int .i64 t297] 28 (0, 0)) (by (with_reducible repeat (first | refine blk_drewN ?_ _ | refine blk_drew ?_ | refine blk_alloc ?_ _)); refine blk_put (cs := #[.int .i64 t291, .int .i64 (wrap64 ((wrap64 (t282 + t294)) - 2)), .int .i64 0]) ?_ 2 _ rfl; (with_reducible repeat (first | refine blk_drewN ?_ _ | refine blk_drew ?_ | refine blk_alloc ?_ _)); refine blk_put (cs := #[.int .i64 t291, .int .i64 0, .int .i64 0]) ?_ 1 _ rfl; (with_reducible repeat (first | refine blk_drewN ?_ _ | refine blk_drew ?_ | refine blk_alloc ?_ _)); refine blk_put (cs := #[.int .i64 0, .int .i64 0, .int .i64 0]) ?_ 0 _ rfl; (with_reducible repeat (first | refine blk_drewN ?_ _ | refine blk_drew ?_ | refine blk_alloc ?_ _)); exact BK300.out) NB300_281.out (by simp)); have n4_ := Aside0.mk (Kd.R_lower (Kd.R_newB (Kd.R_newB ho0 (g := gb277) (o := .cells #[.int .i64 0, .int .i64 0, .int .i64 0] 28 (0, 0)) (by (with_reducible repeat (first | refine blk_drewN ?_ _ | refine blk_drew ?_ | refine blk_alloc ?_ _)); refine blk_far ?_ NB277_300.out _; (with_reducible repeat (first | refine blk_drewN ?_ _ | refine blk_drew ?_ | refine blk_alloc ?_ _)); refine blk_far ?_ NB277_300.out _; (with_reducible repeat (first | refine blk_drewN ?_ _ | refine blk_drew ?_ | refine blk_alloc ?_ _)); refine blk_far ?_ NB277_300.out _; (with_reducible repeat (first | refine blk_drewN ?_ _ | refine blk_drew ?_ | refine blk_alloc ?_ _)); exact BK277.out)) (g := gb300) (o := .cells #[.int .i64 t291, .int .i64 (wrap64 ((wrap64 (t282 + t294)) - 2)), .int .i64 t297] 28 (0, 0)) (by (with_reducible repeat (first | refine blk_drewN ?_ _ | refine blk_drew ?_ | refine blk_alloc ?_ _)); refine blk_put (cs := #[.int .i64 t291, .int .i64 (wrap64 ((wrap64 (t282 + t294)) - 2)), .int .i64 0]) ?_ 2 _ rfl; (with_reducible repeat (first | refine blk_drewN ?_ _ | refine blk_drew ?_ | refine blk_alloc ?_ _)); refine blk_put (cs := #[.int .i64 t291, .int .i64 0, .int .i64 0]) ?_ 1 _ rfl; (with_reducible repeat (first | refine blk_drewN ?_ _ | refine blk_drew ?_ | refine blk_alloc ?_ _)); refine blk_put (cs := #[.int .i64 0, .int .i64 0, .int .i64 0]) ?_ 0 _ rfl; (with_reducible repeat (first | refine blk_drewN ?_ _ | refine blk_drew ?_ | refine blk_alloc ?_ _)); exact BK300.out)) (below_size (by repeat (first | (with_reducible first | exact HB.out | apply below_alloc | apply pw_below_drewN | apply below_drew1 | refine below_set ?_ (IsS66.ge HI281.out) | refine below_set ?_ GE276.out | refine below_set ?_ GE277.out | refine below_set ?_ GE300.out) | exact HB.out)))); have n5_ := Aside0.mk (hb); have n6_ := Aside0.mk (hi); clear BK276; clear BK277; clear HO287; clear BK300; clear HB; clear HI281; have BK276 := n0_; have BK277 := n1_; have HO287 := n2_; have BK300 := n3_; have HO305 := n4_; have HB := n5_; have HI281 := n6_; clear n0_ n1_ n2_ n3_ n4_ n5_ n6_; (try clear hb); (try clear hb2); (try clear hk); (try clear hi); (try clear ho0)) | ((with_reducible refine gate_dst (N := 10) rfl ?_); refine box_event ?hg (N := 10) ?hd (cs := #[.int .i64 0, .slice none 0 0]) (t := 26) ?hr ?_; (case hd => rfl); (case hg => rfl); (case hr => first | (go_simp; done) | (go_simp; rfl)); intro gb308 hg w28 hbox hb; have n0_ := Aside0.mk (Kd.R_below (kR HO287.out) hb); have n1_ := Aside0.mk (Kd.R_below (kR HO305.out) hb); have n2_ := Aside0.mk (blk_below (kB BK276.out) hb); have n3_ := Aside0.mk (blk_below (kB BK277.out) hb); have n4_ := Aside0.mk (IsS66.below (by repeat (first | (with_reducible first | exact HI281.out | apply IsS66.alloc | apply IsS66.drewN | apply IsS66.drew | apply IsS66.set_1 | apply IsS66.set_2 | refine IsS66.far ?_ NB281_276.out _ | refine IsS66.far ?_ NB281_277.out _ | refine IsS66.far ?_ NB281_300.out _) | exact HI281.out)) hb); have n5_ := Aside0.mk (blk_below (kB BK300.out) hb); have n6_ := Aside0.mk (below_step (by repeat (first | (with_reducible first | exact HB.out | apply below_alloc | apply pw_below_drewN | apply below_drew1 | refine below_set ?_ (IsS66.ge HI281.out) | refine below_set ?_ GE276.out | refine below_set ?_ GE277.out | refine below_set ?_ GE300.out) | exact HB.out)) hb); have n7_ := Aside0.mk (hbox); have n8_ := Aside0.mk ((by rw [hg]; exact (below_size (by repeat (first | (with_reducible first | exact HB.out | apply below_alloc | apply pw_below_drewN | apply below_drew1 | refine below_set ?_ (IsS66.ge HI281.out) | refine below_set ?_ GE276.out | refine below_set ?_ GE277.out | refine below_set ?_ GE300.out) | exact HB.out))) : w.heap.size ≤ gb308)); have n9_ := Aside0.mk ((by rw [hg]; exact (below_size (by repeat (first | (with_reducible first | exact HB.out | apply below_alloc | apply pw_below_drewN | apply below_drew1 | refine below_set ?_ (IsS66.ge HI281.out) | refine below_set ?_ GE276.out | refine below_set ?_ GE277.out | refine below_set ?_ GE300.out) | exact HB.out))) : w.heap.size ≤ gb308)); have n10_ := Aside0.mk ((nL hg BK276.out : gb276 ≠ gb308)); have n11_ := Aside0.mk ((nG hg BK276.out : gb308 ≠ gb276)); have n12_ := Aside0.mk ((nL hg BK277.out : gb277 ≠ gb308)); have n13_ := Aside0.mk ((nG hg BK277.out : gb308 ≠ gb277)); have n14_ := Aside0.mk ((nL hg BK300.out : gb300 ≠ gb308)); have n15_ := Aside0.mk ((nG hg BK300.out : gb308 ≠ gb300)); have n16_ := Aside0.mk ((by rw [hg]; exact Nat.ne_of_lt (IsS66.lt (show IsS66 w _ g281 t278 t306 t307 from by repeat (first | (with_reducible first | exact HI281.out | apply IsS66.alloc | apply IsS66.drewN | apply IsS66.drew | apply IsS66.set_1 | apply IsS66.set_2 | refine IsS66.far ?_ NB281_276.out _ | refine IsS66.far ?_ NB281_277.out _ | refine IsS66.far ?_ NB281_300.out _) | exact HI281.out))) : g281 ≠ gb308)); have n17_ := Aside0.mk ((by rw [hg]; exact Nat.ne_of_gt (IsS66.lt (show IsS66 w _ g281 t278 t306 t307 from by repeat (first | (with_reducible first | exact HI281.out | apply IsS66.alloc | apply IsS66.drewN | apply IsS66.drew | apply IsS66.set_1 | apply IsS66.set_2 | refine IsS66.far ?_ NB281_276.out _ | refine IsS66.far ?_ NB281_277.out _ | refine IsS66.far ?_ NB281_300.out _) | exact HI281.out))) : gb308 ≠ g281)); clear HO287; clear HO305; clear BK276; clear BK277; clear HI281; clear BK300; clear HB; have HO287 := n0_; have HO305 := n1_; have BK276 := n2_; have BK277 := n3_; have HI281 := n4_; have BK300 := n5_; have HB := n6_; have BK308 := n7_; have GW308 := n8_; have GE308 := n9_; have NB276_308 := n10_; have NB308_276 := n11_; have NB277_308 := n12_; have NB308_277 := n13_; have NB300_308 := n14_; have NB308_300 := n15_; have NB281_308 := n16_; have NB308_281 := n17_; clear n0_ n1_ n2_ n3_ n4_ n5_ n6_ n7_ n8_ n9_ n10_ n11_ n12_ n13_ n14_ n15_ n16_ n17_; clear hb hbox hg; have hnb29 := NB308_276.out; have hnc29 := NB276_308.out; have hnb30 := NB308_277.out; have hnc30 := NB277_308.out; have hnb31 := NB308_300.out; have hnc31 := NB300_308.out; have hnb32 := NB308_281.out; have hnc32 := NB281_308.out; have hcz33_0 : w28.cell? ⟨gb308, 0, none⟩ = some (.int .i64 0) := (blk_cell BK308.out 0).trans rfl; have hcz33_1 : w28.cell? ⟨gb308, 1, none⟩ = some (.slice none 0 0) := (blk_cell BK308.out 1).trans rfl; have hfz33_0 := blk_frozen BK308.out 0; have hfz33_1 := blk_frozen BK308.out 1; obtain ⟨Ao34, co34, eo34⟩ := Kd.R_slice HO305.out; subst eo34))
 (try simp only [Act.put, List.setIfInBounds_toArray, List.set_cons_zero, List.set_cons_succ])
 go_cut [39] (fun v39 wc => ∃ (kq : Nat) (x39_9 : Bool) (x282001_9 : Int) (x282002_9 : Int), v39 = .bool x39_9 ∧ Aside0 (spec_DrawCacheTry.j0 kq t282 t288 x39_9 t278 x282001_9 x282002_9 t291 (wrap64 ((wrap64 (t282 + t294)) - 2)) t297 t302 t303 = some (r1, r2, r3, r4, r5, r6, r7)) ∧ Aside0 (kq ≤ k) ∧ Aside0 (Kd.R k28 28 wc w.heap.size (fun k_ => k_ ≠ gb277 ∧ k_ ≠ gb300) (.slice Ao34 t303.length co34) t303) ∧ Aside0 (wc.heap[gb276]? = some (.cells #[.int .i64 0, (.slice none 0 0)] 26 (0, 0))) ∧ Aside0 (wc.heap[gb277]? = some (.cells #[.int .i64 0, .int .i64 0, .int .i64 0] 28 (0, 0))) ∧ Aside0 (wc.heap[gb300]? = some (.cells #[.int .i64 t291, .int .i64 (wrap64 ((wrap64 (t282 + t294)) - 2)), .int .i64 t297] 28 (0, 0))) ∧ Aside0 (wc.heap[gb308]? = some (.cells #[.int .i64 t302, (.slice Ao34 t303.length co34)] 26 (0, 0))) ∧ Aside0 (IsS66 w wc g281 t278 x282001_9 x282002_9) ∧ Aside0 (Below w.heap.size w wc))
 case first =>
  have H := HC10.out
  clear HC10
  by_cases c35 : (t303.length : Int) > 0
  ·rw [if_pos c35] at H
   have c35b0 : decide (0 < (t303.length : Int)) = true := decide_eq_true c35
   have c35b1 : decide (0 < t303.length) = true := decide_eq_true (by omega)
   clear c35
   (first | rw [c35b0] | (simp only [i64_w, i32_w]; rw [c35b0]) | skip)
   replace H := Option.bind_eq_some_iff.mp H
   obtain ⟨⟨t309, t310, t311⟩, A360, H⟩ := H
   replace H : (spec_DrawCacheTry.j0 k t282 t288 t309 t278 t310 t311 t291 (wrap64 ((wrap64 (t282 + t294)) - 2)) t297 t302 t303) = some (r1, r2, r3, r4, r5, r6, r7) := H
   have A36 := Aside0.mk A360
   clear A360
   have H' := Aside0.mk H
   clear H
   have hnb37 := NB308_276.out
   have hnc37 := NB276_308.out
   have hnb38 := NB308_277.out
   have hnc38 := NB277_308.out
   have hnb39 := NB308_300.out
   have hnc39 := NB300_308.out
   have hnb40 := NB308_281.out
   have hnc40 := NB281_308.out
   have hcz41_0 : w28.cell? ⟨gb308, 0, none⟩ = some (.int .i64 0) := (blk_cell BK308.out 0).trans rfl
   have hcz41_1 : w28.cell? ⟨gb308, 1, none⟩ = some (.slice none 0 0) := (blk_cell BK308.out 1).trans rfl
   have hfz41_0 := blk_frozen BK308.out 0
   have hfz41_1 := blk_frozen BK308.out 1
   go_wp2_with (first | (go_at_call 23; (with_reducible refine (spec_l1Once.calls g281 t278 t306 t307 3 t309 t310 t311 w _ ?side1 ?side2 A36.out).mono ?_); (case side1 => repeat (first | (with_reducible first | exact HI281.out | apply IsS66.alloc | apply IsS66.drewN | apply IsS66.drew | apply IsS66.set_1 | apply IsS66.set_2 | refine IsS66.far ?_ NB281_276.out _ | refine IsS66.far ?_ NB281_277.out _ | refine IsS66.far ?_ NB281_300.out _ | refine IsS66.far ?_ NB281_308.out _) | exact HI281.out)); (case side2 => repeat (first | (with_reducible first | exact HB.out | apply below_alloc | apply pw_below_drewN | apply below_drew1 | refine below_set ?_ (IsS66.ge HI281.out) | refine below_set ?_ GE276.out | refine below_set ?_ GE277.out | refine below_set ?_ GE300.out | refine below_set ?_ GE308.out) | exact HB.out)); rintro e w42 ⟨rfl, hi, hb, hk⟩; have n0_ := Aside0.mk (KeepBut.blk hk (g' := gb276) (o := .cells #[.int .i64 0, .slice none 0 0] 26 (0, 0)) (by (with_reducible repeat (first | refine blk_drewN ?_ _ | refine blk_drew ?_ | refine blk_alloc ?_ _)); refine blk_far ?_ NB276_308.out _; (with_reducible repeat (first | refine blk_drewN ?_ _ | refine blk_drew ?_ | refine blk_alloc ?_ _)); refine blk_far ?_ NB276_308.out _; (with_reducible repeat (first | refine blk_drewN ?_ _ | refine blk_drew ?_ | refine blk_alloc ?_ _)); exact BK276.out) NB276_281.out (by simp)); have n1_ := Aside0.mk (KeepBut.blk hk (g' := gb277) (o := .cells #[.int .i64 0, .int .i64 0, .int .i64 0] 28 (0, 0)) (by (with_reducible repeat (first | refine blk_drewN ?_ _ | refine blk_drew ?_ | refine blk_alloc ?_ _)); refine blk_far ?_ NB277_308.out _; (with_reducible repeat (first | refine blk_drewN ?_ _ | refine blk_drew ?_ | refine blk_alloc ?_ _)); refine blk_far ?_ NB277_308.out _; (with_reducible repeat (first | refine blk_drewN ?_ _ | refine blk_drew ?_ | refine blk_alloc ?_ _)); exact BK277.out) NB277_281.out (by simp)); have n2_ := Aside0.mk (Kd.R_mono (Kd.R_keep (IsS66.apart (show IsS66 w _ g281 t278 t306 t307 from by repeat (first | (with_reducible first | exact HI281.out | apply IsS66.alloc | apply IsS66.drewN | apply IsS66.drew | apply IsS66.set_1 | apply IsS66.set_2 | refine IsS66.far ?_ NB281_276.out _ | refine IsS66.far ?_ NB281_277.out _ | refine IsS66.far ?_ NB281_300.out _ | refine IsS66.far ?_ NB281_308.out _) | exact HI281.out)) (by (with_reducible repeat (first | apply Kd.R_alloc | apply Kd.R_drewN | apply Kd.R_drew)); exact (Kd.R_mono (Kd.R_far (p := ⟨gb308, 1, none⟩) (Kd.R_far (p := ⟨gb308, 0, none⟩) (Kd.R_types HO287.out BK308.out (by decide)) (fun _ hk => hk.2) (.int .i64 t302)) (fun _ hk => hk.2) (.slice Ao34 t303.length co34)) (fun _ h_ => h_.1))) (by decide)) hk (fun _ h => h.2)) (fun _ h => h.1)); have n3_ := Aside0.mk (KeepBut.blk hk (g' := gb300) (o := .cells #[.int .i64 t291, .int .i64 (wrap64 ((wrap64 (t282 + t294)) - 2)), .int .i64 t297] 28 (0, 0)) (by (with_reducible repeat (first | refine blk_drewN ?_ _ | refine blk_drew ?_ | refine blk_alloc ?_ _)); refine blk_far ?_ NB300_308.out _; (with_reducible repeat (first | refine blk_drewN ?_ _ | refine blk_drew ?_ | refine blk_alloc ?_ _)); refine blk_far ?_ NB300_308.out _; (with_reducible repeat (first | refine blk_drewN ?_ _ | refine blk_drew ?_ | refine blk_alloc ?_ _)); exact BK300.out) NB300_281.out (by simp)); have n4_ := Aside0.mk (Kd.R_mono (Kd.R_keep (IsS66.apart (show IsS66 w _ g281 t278 t306 t307 from by repeat (first | (with_reducible first | exact HI281.out | apply IsS66.alloc | apply IsS66.drewN | apply IsS66.drew | apply IsS66.set_1 | apply IsS66.set_2 | refine IsS66.far ?_ NB281_276.out _ | refine IsS66.far ?_ NB281_277.out _ | refine IsS66.far ?_ NB281_300.out _ | refine IsS66.far ?_ NB281_308.out _) | exact HI281.out)) (by (with_reducible repeat (first | apply Kd.R_alloc | apply Kd.R_drewN | apply Kd.R_drew)); exact (Kd.R_mono (Kd.R_far (p := ⟨gb308, 1, none⟩) (Kd.R_far (p := ⟨gb308, 0, none⟩) (Kd.R_types HO305.out BK308.out (by decide)) (fun _ hk => hk.2) (.int .i64 t302)) (fun _ hk => hk.2) (.slice Ao34 t303.length co34)) (fun _ h_ => h_.1))) (by decide)) hk (fun _ h => h.2)) (fun _ h => h.1)); have n5_ := Aside0.mk (KeepBut.blk hk (g' := gb308) (o := .cells #[.int .i64 t302, .slice Ao34 t303.length co34] 26 (0, 0)) (by (with_reducible repeat (first | refine blk_drewN ?_ _ | refine blk_drew ?_ | refine blk_alloc ?_ _)); refine blk_put (cs := #[.int .i64 t302, .slice none 0 0]) ?_ 1 _ rfl; (with_reducible repeat (first | refine blk_drewN ?_ _ | refine blk_drew ?_ | refine blk_alloc ?_ _)); refine blk_put (cs := #[.int .i64 0, .slice none 0 0]) ?_ 0 _ rfl; (with_reducible repeat (first | refine blk_drewN ?_ _ | refine blk_drew ?_ | refine blk_alloc ?_ _)); exact BK308.out) NB308_281.out (by simp)); have n6_ := Aside0.mk (hb); have n7_ := Aside0.mk (hi); clear BK276; clear BK277; clear HO287; clear BK300; clear HO305; clear BK308; clear HB; clear HI281; have BK276 := n0_; have BK277 := n1_; have HO287 := n2_; have BK300 := n3_; have HO305 := n4_; have BK308 := n5_; have HB := n6_; have HI281 := n7_; clear n0_ n1_ n2_ n3_ n4_ n5_ n6_ n7_; (try clear hb); (try clear hb2); (try clear hk); (try clear hi)))
   go_meet
   case rel => exact ⟨_, (t309), (t310), (t311), eX, H', ⟨by first | omega | exact Nat.le_refl _⟩, ⟨by (with_reducible repeat (first | apply Kd.R_alloc | apply Kd.R_drewN | apply Kd.R_drew)); exact Kd.R_mono HO305.out (fun _ hk => ⟨hk.1.2, hk.2⟩)⟩, ⟨by (with_reducible repeat (first | refine blk_drewN ?_ _ | refine blk_drew ?_ | refine blk_alloc ?_ _)); exact BK276.out⟩, ⟨by (with_reducible repeat (first | refine blk_drewN ?_ _ | refine blk_drew ?_ | refine blk_alloc ?_ _)); exact BK277.out⟩, ⟨by (with_reducible repeat (first | refine blk_drewN ?_ _ | refine blk_drew ?_ | refine blk_alloc ?_ _)); exact BK300.out⟩, ⟨by (with_reducible repeat (first | refine blk_drewN ?_ _ | refine blk_drew ?_ | refine blk_alloc ?_ _)); exact BK308.out⟩, ⟨by repeat (first | (with_reducible first | exact HI281.out | apply IsS66.alloc | apply IsS66.drewN | apply IsS66.drew | apply IsS66.set_1 | apply IsS66.set_2 | refine IsS66.far ?_ NB281_276.out _ | refine IsS66.far ?_ NB281_277.out _ | refine IsS66.far ?_ NB281_300.out _ | refine IsS66.far ?_ NB281_308.out _) | exact HI281.out)⟩, ⟨by repeat (first | (with_reducible first | exact HB.out | apply below_alloc | apply pw_below_drewN | apply below_drew1 | refine below_set ?_ (IsS66.ge HI281.out) | refine below_set ?_ GE276.out | refine below_set ?_ GE277.out | refine below_set ?_ GE300.out | refine below_set ?_ GE308.out) | exact HB.out)⟩⟩
  ·rw [if_neg c35] at H
   have c35b0 : decide (0 < (t303.length : Int)) = false := decide_eq_false c35
   have c35b1 : decide (0 < t303.length) = false := decide_eq_false (by omega)
   clear c35
   (first | rw [c35b0] | (simp only [i64_w, i32_w]; rw [c35b0]) | skip)
   have H' := Aside0.mk H
   clear H
   have hnb43 := NB308_276.out
   have hnc43 := NB276_308.out
   have hnb44 := NB308_277.out
   have hnc44 := NB277_308.out
   have hnb45 := NB308_300.out
   have hnc45 := NB300_308.out
   have hnb46 := NB308_281.out
   have hnc46 := NB281_308.out
   have hcz47_0 : w28.cell? ⟨gb308, 0, none⟩ = some (.int .i64 0) := (blk_cell BK308.out 0).trans rfl
   have hcz47_1 : w28.cell? ⟨gb308, 1, none⟩ = some (.slice none 0 0) := (blk_cell BK308.out 1).trans rfl
   have hfz47_0 := blk_frozen BK308.out 0
   have hfz47_1 := blk_frozen BK308.out 1
   go_wp2
   go_meet
   case rel => exact ⟨_, (false), (t306), (t307), eX, H', ⟨by first | omega | exact Nat.le_refl _⟩, ⟨by (with_reducible repeat (first | apply Kd.R_alloc | apply Kd.R_drewN | apply Kd.R_drew)); exact Kd.R_mono (Kd.R_far (p := ⟨gb308, 1, none⟩) (Kd.R_far (p := ⟨gb308, 0, none⟩) (Kd.R_types HO305.out BK308.out (by decide)) (fun _ hk => hk.2) (.int .i64 t302)) (fun _ hk => hk.2) (.slice Ao34 t303.length co34)) (fun _ hk => ⟨hk.1.1.2, hk.1.2⟩)⟩, ⟨by (with_reducible repeat (first | refine blk_drewN ?_ _ | refine blk_drew ?_ | refine blk_alloc ?_ _)); refine blk_far ?_ NB276_308.out _; (with_reducible repeat (first | refine blk_drewN ?_ _ | refine blk_drew ?_ | refine blk_alloc ?_ _)); refine blk_far ?_ NB276_308.out _; (with_reducible repeat (first | refine blk_drewN ?_ _ | refine blk_drew ?_ | refine blk_alloc ?_ _)); exact BK276.out⟩, ⟨by (with_reducible repeat (first | refine blk_drewN ?_ _ | refine blk_drew ?_ | refine blk_alloc ?_ _)); refine blk_far ?_ NB277_308.out _; (with_reducible repeat (first | refine blk_drewN ?_ _ | refine blk_drew ?_ | refine blk_alloc ?_ _)); refine blk_far ?_ NB277_308.out _; (with_reducible repeat (first | refine blk_drewN ?_ _ | refine blk_drew ?_ | refine blk_alloc ?_ _)); exact BK277.out⟩, ⟨by (with_reducible repeat (first | refine blk_drewN ?_ _ | refine blk_drew ?_ | refine blk_alloc ?_ _)); refine blk_far ?_ NB300_308.out _; (with_reducible repeat (first | refine blk_drewN ?_ _ | refine blk_drew ?_ | refine blk_alloc ?_ _)); refine blk_far ?_ NB300_308.out _; (with_reducible repeat (first | refine blk_drewN ?_ _ | refine blk_drew ?_ | refine blk_alloc ?_ _)); exact BK300.out⟩, ⟨by (with_reducible repeat (first | refine blk_drewN ?_ _ | refine blk_drew ?_ | refine blk_alloc ?_ _)); refine blk_put (cs := #[.int .i64 t302, .slice none 0 0]) ?_ 1 _ rfl; (with_reducible repeat (first | refine blk_drewN ?_ _ | refine blk_drew ?_ | refine blk_alloc ?_ _)); refine blk_put (cs := #[.int .i64 0, .slice none 0 0]) ?_ 0 _ rfl; (with_reducible repeat (first | refine blk_drewN ?_ _ | refine blk_drew ?_ | refine blk_alloc ?_ _)); exact BK308.out⟩, ⟨by repeat (first | (with_reducible first | exact HI281.out | apply IsS66.alloc | apply IsS66.drewN | apply IsS66.drew | apply IsS66.set_1 | apply IsS66.set_2 | refine IsS66.far ?_ NB281_276.out _ | refine IsS66.far ?_ NB281_277.out _ | refine IsS66.far ?_ NB281_300.out _ | refine IsS66.far ?_ NB281_308.out _) | exact HI281.out)⟩, ⟨by repeat (first | (with_reducible first | exact HB.out | apply below_alloc | apply pw_below_drewN | apply below_drew1 | refine below_set ?_ (IsS66.ge HI281.out) | refine below_set ?_ GE276.out | refine below_set ?_ GE277.out | refine below_set ?_ GE300.out | refine below_set ?_ GE308.out) | exact HB.out)⟩⟩
 case rest =>
  clear HC10
  try clear c1
  try clear c2
  try clear p2
  try clear c3
  try clear c4
  try clear c6
  try clear p6
  try clear c18
  try clear c19
  try clear c20
  try clear c21
  try clear c22
  try clear c23
  try clear c24
  try clear c25
  try clear c29
  try clear c30
  try clear c31
  try clear c32
  try clear c35
  try clear c35b0
  try clear c35b1
  try clear c37
  try clear c38
  try clear c39
  try clear c40
  try clear c43
  try clear c44
  try clear c45
  try clear c46
  try clear hcz26_0
  try clear hcz26_1
  try clear hcz26_2
  try clear hcz33_0
  try clear hcz33_1
  try clear hcz41_0
  try clear hcz41_1
  try clear hcz47_0
  try clear hcz47_1
  try clear hfz26_0
  try clear hfz26_1
  try clear hfz26_2
  try clear hfz33_0
  try clear hfz33_1
  try clear hfz41_0
  try clear hfz41_1
  try clear hfz47_0
  try clear hfz47_1
  obtain ⟨kq, x39_9, x282001_9, x282002_9, rfl, HA, HJ9, HO_309001, BK276, BK277, BK300, BK308, HI281, HB⟩ := hcut
  cases kq with
  | zero => exact absurd HA.out (by simp [spec_DrawCacheTry.j0])
  | succ kj9 =>
   have H := HA.out
   clear HA
   simp only [spec_DrawCacheTry.j0] at H
   have HC48 := Aside0.mk H
   clear H
   go_upto_if 39 with (fail)
   go_cut [7] (fun v7 wc => ∃ (kq : Nat) (x7_47 : Int) (x282001_47 : Int) (x282002_47 : Int) (x301000_47 : Int) (x301001_47 : Int) (x301002_47 : Int), v7 = .int .i64 x7_47 ∧ Aside0 (spec_DrawCacheTry.j1 kq x7_47 t288 t278 x282001_47 x282002_47 x301000_47 x301001_47 x301002_47 t302 t303 = some (r1, r2, r3, r4, r5, r6, r7)) ∧ Aside0 (kq ≤ kj9) ∧ Aside0 (Kd.R k28 28 wc w.heap.size (fun k_ => k_ ≠ gb277 ∧ k_ ≠ gb300) (.slice Ao34 t303.length co34) t303) ∧ Aside0 (wc.heap[gb276]? = some (.cells #[.int .i64 0, (.slice none 0 0)] 26 (0, 0))) ∧ Aside0 (wc.heap[gb277]? = some (.cells #[.int .i64 0, .int .i64 0, .int .i64 0] 28 (0, 0))) ∧ Aside0 (wc.heap[gb300]? = some (.cells #[.int .i64 x301000_47, .int .i64 x301001_47, .int .i64 x301002_47] 28 (0, 0))) ∧ Aside0 (wc.heap[gb308]? = some (.cells #[.int .i64 t302, (.slice Ao34 t303.length co34)] 26 (0, 0))) ∧ Aside0 (IsS66 w wc g281 t278 x282001_47 x282002_47) ∧ Aside0 (Below w.heap.size w wc))
   case first =>
    have H := HC48.out
    clear HC48
    by_cases c49 : x39_9 = true
    ·subst c49
     have H1 : ((spec_l1Below.f t278 x282001_9 x282002_9 (t303.length : Int)).bind fun bt312 => (if 0 ≤ bt312.1 then (if bt312.1 < (t303.length : Int) then ((spec_l1Below.f t278 bt312.2.1 bt312.2.2 3).bind fun bt316 => (spec_DrawCacheTry.j1 kj9 (wrap64 (((rd_T28 t303 bt312.1).f1) + bt316.1)) t288 t278 bt316.2.1 bt316.2.2 ((rd_T28 t303 bt312.1).f0) ((rd_T28 t303 bt312.1).f1) ((rd_T28 t303 bt312.1).f2) t302 t303)) else (none)) else (none))) = some (r1, r2, r3, r4, r5, r6, r7) := by rw [if_pos rfl] at H; exact H
     clear H
     have H := H1
     clear H1
     replace H := Option.bind_eq_some_iff.mp H
     obtain ⟨⟨t312, t313, t314⟩, A500, H⟩ := H
     replace H : (if 0 ≤ t312 then (if t312 < (t303.length : Int) then ((spec_l1Below.f t278 t313 t314 3).bind fun bt316 => (spec_DrawCacheTry.j1 kj9 (wrap64 (((rd_T28 t303 t312).f1) + bt316.1)) t288 t278 bt316.2.1 bt316.2.2 ((rd_T28 t303 t312).f0) ((rd_T28 t303 t312).f1) ((rd_T28 t303 t312).f2) t302 t303)) else (none)) else (none)) = some (r1, r2, r3, r4, r5, r6, r7) := H
     have A50 := Aside0.mk A500
     clear A500
     by_cases c51 : 0 ≤ t312
     ·rw [if_pos c51] at H
      have c51b0 : decide (0 ≤ t312) = true := decide_eq_true c51
      clear c51
      (first | rw [c51b0] | (simp only [i64_w, i32_w]; rw [c51b0]) | skip)
      by_cases c52 : t312 < (t303.length : Int)
      ·rw [if_pos c52] at H
       have c52b0 : decide (t312 < (t303.length : Int)) = true := decide_eq_true c52
       clear c52
       replace H := Option.bind_eq_some_iff.mp H
       obtain ⟨⟨t316, t317, t318⟩, A530, H⟩ := H
       replace H : (spec_DrawCacheTry.j1 kj9 (wrap64 (((rd_T28 t303 t312).f1) + t316)) t288 t278 t317 t318 ((rd_T28 t303 t312).f0) ((rd_T28 t303 t312).f1) ((rd_T28 t303 t312).f2) t302 t303) = some (r1, r2, r3, r4, r5, r6, r7) := H
       have A53 := Aside0.mk A530
       clear A530
       have H' := Aside0.mk H
       clear H
       try go_wp2
       have n0_ := Aside0.mk (Kd.R_drew HO_309001.out)
       have n1_ := Aside0.mk (blk_drew BK276.out)
       have n2_ := Aside0.mk (blk_drew BK277.out)
       have n3_ := Aside0.mk (blk_drew BK300.out)
       have n4_ := Aside0.mk (blk_drew BK308.out)
       have n5_ := Aside0.mk (IsS66.drew HI281.out)
       have n6_ := Aside0.mk (below_drew1 HB.out)
       clear HO_309001 BK276 BK277 BK300 BK308 HI281 HB
       have HO_309001 := n0_
       have BK276 := n1_
       have BK277 := n2_
       have BK300 := n3_
       have BK308 := n4_
       have HI281 := n5_
       have HB := n6_
       clear n0_ n1_ n2_ n3_ n4_ n5_ n6_
       have p315 : 0 ≤ (t312 : Int) := of_decide_eq_true aA
       have q315 : t312 < (t303.length : Int) := of_decide_eq_true aA
       obtain ⟨ad315, e315, hx315_0, hx315_1, hx315_2⟩ := at_T28 (Kd.R_reads' HO_309001.out).2.2 t312 p315 q315
       cases e315
       replace p315 := eq_true p315
       replace q315 := eq_true q315
       refine start_ (n := 10) (S := fun w' => w'.cell? ⟨gb308, 0, none⟩ = some (.int .i64 t302) ∧ w'.cell? ⟨gb308, 1, none⟩ = some (.slice (some ad315) t303.length co34) ∧ w'.cell? (ad315.add ((t312).toNat * 3)) = some (.int .i64 ((rd_T28 t303 t312).f0)) ∧ w'.cell? ⟨(ad315.add ((t312).toNat * 3)).block, (ad315.add ((t312).toNat * 3)).off + 1, none⟩ = some (.int .i64 ((rd_T28 t303 t312).f1)) ∧ w'.cell? ⟨(ad315.add ((t312).toNat * 3)).block, (ad315.add ((t312).toNat * 3)).off + 2, none⟩ = some (.int .i64 ((rd_T28 t303 t312).f2))) (ds := []) #[false, false, false, false, false, false, false, false, false, false] (by kernel_rfl) rfl rfl ⟨(blk_cell BK308.out 0).trans rfl, (blk_cell BK308.out 1).trans rfl, hx315_0, hx315_1, hx315_2⟩ (fun hHeld => ?_); refine with_tabW spec_DrawCacheTry.tab7 spec_DrawCacheTry.bits7 (fun HT_ HW_ => ?_)
       generalize wc.drew = w54 at HO_309001 BK276 BK277 BK300 BK308 HI281 HB hx315_0 hx315_1 hx315_2 hHeld ⊢
       refine pure_ (i := 0) (N := some 40) (v := ?_) (a' := ?_) #[true, false, false, false, false, false, false, false, false, false] rfl rfl (any_of HT_.out (by kernel_rfl)) (fun _ _ _ h => h) (Or.inl ⟨by rfl, ?_⟩) ?_ ?_
       rotate_left
       ·intro w'
        go_simp
        with_reducible rfl
       rotate_left
       ·simp only [Act.put, List.setIfInBounds_toArray, List.set_cons_zero, List.set_cons_succ, i64_w, i32_w]
        rfl
       refine pure_ (i := 2) (N := some 42) (v := ?_) (a' := ?_) #[true, false, true, false, false, false, false, false, false, false] rfl rfl (any_of HT_.out (by kernel_rfl)) (fun _ _ _ h => h) (Or.inl ⟨by rfl, ?_⟩) ?_ ?_
       rotate_left
       ·intro w'
        go_simp
        with_reducible rfl
       rotate_left
       ·simp only [Act.put, List.setIfInBounds_toArray, List.set_cons_zero, List.set_cons_succ, i64_w, i32_w]
        rfl
       refine pure_ (i := 3) (N := some 43) (v := ?_) (a' := ?_) #[true, false, true, true, false, false, false, false, false, false] rfl rfl (any_of HT_.out (by kernel_rfl)) (fun _ _ _ h => h) (Or.inl ⟨by rfl, ?_⟩) ?_ ?_
       rotate_left
       ·intro w'
        go_simp
        with_reducible rfl
       rotate_left
       ·simp only [Act.put, List.setIfInBounds_toArray, List.set_cons_zero, List.set_cons_succ, i64_w, i32_w]
        rfl
       refine take_ (i := 1) (N := some 41) (v := ?_) (a' := ?_) #[true, true, true, true, false, false, false, false, false, false] rfl rfl (take_ofW HT_.out HW_.out (by kernel_rfl)) (fun _ _ _ h => h) (Or.inl ⟨by rfl, ?_⟩) hHeld ?_ ?_
       rotate_left
       ·rintro w' ⟨s0, s1, s2, s3, s4⟩
        go_simp
        with_reducible rfl
       rotate_left
       ·simp only [Act.put, List.setIfInBounds_toArray, List.set_cons_zero, List.set_cons_succ, i64_w, i32_w]
        rfl
       refine take_ (i := 4) (N := some 44) (v := ?_) (a' := ?_) #[true, true, true, true, true, false, false, false, false, false] rfl rfl (take_ofW HT_.out HW_.out (by kernel_rfl)) (fun _ _ _ h => h) (Or.inl ⟨by rfl, ?_⟩) hHeld ?_ ?_
       rotate_left
       ·rintro w' ⟨s0, s1, s2, s3, s4⟩
        go_simp
        with_reducible rfl
       rotate_left
       ·simp only [Act.put, List.setIfInBounds_toArray, List.set_cons_zero, List.set_cons_succ, i64_w, i32_w]
        rfl
       refine pure_ (i := 5) (N := some 45) (v := ?_) (a' := ?_) #[true, true, true, true, true, true, false, false, false, false] rfl rfl (any_of HT_.out (by kernel_rfl)) (fun _ _ _ h => h) (Or.inl ⟨by rfl, ?_⟩) ?_ ?_
       rotate_left
       ·intro w'
        go_simp
        with_reducible rfl
       rotate_left
       ·simp only [Act.put, List.setIfInBounds_toArray, List.set_cons_zero, List.set_cons_succ, i64_w, i32_w]
        rfl
       refine one_ (i := 6) (N := some 46) #[true, true, true, true, true, true, true, false, false, false] rfl rfl (one_of HT_.out (by kernel_rfl)) (by decide) (fun K hK => ?_)
       refine goes_ Try.func19 (by kernel_rfl) rfl #[.pointer (some ⟨g281, 0, none⟩), .int .i64 (t303.length : Int)] (by rfl) rfl rfl eA ?_
       with_reducible refine (spec_l1Below.calls g281 t278 x282001_9 x282002_9 (t303.length : Int) t312 t313 t314 w _ ?side1 ?side2 A50.out).mono ?_
       (case side1 => repeat (first | (with_reducible first | exact HI281.out | apply IsS66.alloc | apply IsS66.drewN | apply IsS66.drew | apply IsS66.set_1 | apply IsS66.set_2 | refine IsS66.far ?_ NB281_276.out _ | refine IsS66.far ?_ NB281_277.out _ | refine IsS66.far ?_ NB281_300.out _ | refine IsS66.far ?_ NB281_308.out _) | exact HI281.out))
       (case side2 => repeat (first | (with_reducible first | exact HB.out | apply below_alloc | apply pw_below_drewN | apply below_drew1 | refine below_set ?_ (IsS66.ge HI281.out) | refine below_set ?_ GE276.out | refine below_set ?_ GE277.out | refine below_set ?_ GE300.out | refine below_set ?_ GE308.out) | exact HB.out))
       rintro e w55 ⟨rfl, hi, hb, hk⟩
       have HS2_ := keep_cell hk (hHeld.2.2.1) (by first | (rw [add_block]; exact Kd.own_blk (IsS66.own_ne HI281.out HO_309001.out (by decide))) | (show (Addr.add _ _).block ≠ _; rw [add_block]; exact Kd.own_blk (IsS66.own_ne HI281.out HO_309001.out (by decide))) | exact Kd.own_blk (IsS66.own_ne HI281.out HO_309001.out (by decide)))
       have HS3_ := keep_cell hk (hHeld.2.2.2.1) (by first | (rw [add_block]; exact Kd.own_blk (IsS66.own_ne HI281.out HO_309001.out (by decide))) | (show (Addr.add _ _).block ≠ _; rw [add_block]; exact Kd.own_blk (IsS66.own_ne HI281.out HO_309001.out (by decide))) | exact Kd.own_blk (IsS66.own_ne HI281.out HO_309001.out (by decide)))
       have HS4_ := keep_cell hk (hHeld.2.2.2.2) (by first | (rw [add_block]; exact Kd.own_blk (IsS66.own_ne HI281.out HO_309001.out (by decide))) | (show (Addr.add _ _).block ≠ _; rw [add_block]; exact Kd.own_blk (IsS66.own_ne HI281.out HO_309001.out (by decide))) | exact Kd.own_blk (IsS66.own_ne HI281.out HO_309001.out (by decide)))
       refine ⟨_, rfl, ?_⟩
       have n0_ := Aside0.mk (Kd.R_mono (Kd.R_keep (IsS66.apart (show IsS66 w _ g281 t278 x282001_9 x282002_9 from by repeat (first | (with_reducible first | exact HI281.out | apply IsS66.alloc | apply IsS66.drewN | apply IsS66.drew | apply IsS66.set_1 | apply IsS66.set_2 | refine IsS66.far ?_ NB281_276.out _ | refine IsS66.far ?_ NB281_277.out _ | refine IsS66.far ?_ NB281_300.out _ | refine IsS66.far ?_ NB281_308.out _) | exact HI281.out)) (kR HO_309001.out) (by decide)) hk (fun _ h => h.2)) (fun _ h => h.1))
       have n1_ := Aside0.mk (KeepBut.blk hk (g' := gb276) (o := .cells #[.int .i64 0, .slice none 0 0] 26 (0, 0)) (kB BK276.out) NB276_281.out (by simp))
       have n2_ := Aside0.mk (KeepBut.blk hk (g' := gb277) (o := .cells #[.int .i64 0, .int .i64 0, .int .i64 0] 28 (0, 0)) (kB BK277.out) NB277_281.out (by simp))
       have n3_ := Aside0.mk (KeepBut.blk hk (g' := gb300) (o := .cells #[.int .i64 t291, .int .i64 (wrap64 ((wrap64 (t282 + t294)) - 2)), .int .i64 t297] 28 (0, 0)) (kB BK300.out) NB300_281.out (by simp))
       have n4_ := Aside0.mk (KeepBut.blk hk (g' := gb308) (o := .cells #[.int .i64 t302, .slice (some ad315) t303.length co34] 26 (0, 0)) (kB BK308.out) NB308_281.out (by simp))
       have n5_ := Aside0.mk (hb)
       have n6_ := Aside0.mk (hi)
       clear HO_309001 BK276 BK277 BK300 BK308 HB HI281
       have HO_309001 := n0_
       have BK276 := n1_
       have BK277 := n2_
       have BK300 := n3_
       have BK308 := n4_
       have HB := n5_
       have HI281 := n6_
       clear n0_ n1_ n2_ n3_ n4_ n5_ n6_
       (try clear hb)
       (try clear hb2)
       (try clear hk)
       (try clear hi)
       refine hK.out _ _ ⟨(blk_cell BK308.out 0).trans rfl, (blk_cell BK308.out 1).trans rfl, HS2_, HS3_, HS4_⟩ (fun hHeld => ?_)
       clear hK K
       refine norm_ (a' := ?_) ?_ ?_
       rotate_left
       ·show Act.put _ (some 46) _ = _
        simp only [Act.put, List.setIfInBounds_toArray, List.set_cons_zero, List.set_cons_succ, i64_w, i32_w]
        rfl
       refine pure_ (i := 7) (N := some 47) (v := ?_) (a' := ?_) #[true, true, true, true, true, true, true, true, false, false] rfl rfl (any_of HT_.out (by kernel_rfl)) (fun _ _ _ h => h) (Or.inl ⟨by rfl, ?_⟩) ?_ ?_
       rotate_left
       ·intro w'
        go_simp
        with_reducible rfl
       rotate_left
       ·simp only [Act.put, List.setIfInBounds_toArray, List.set_cons_zero, List.set_cons_succ, i64_w, i32_w]
        rfl
       refine take_ (i := 8) (N := some 48) (v := ?_) (a' := ?_) #[true, true, true, true, true, true, true, true, true, false] rfl rfl (take_ofW HT_.out HW_.out (by kernel_rfl)) (fun _ _ _ h => h) (Or.inl ⟨by rfl, ?_⟩) hHeld ?_ ?_
       rotate_left
       ·rintro w' ⟨s0, s1, s2, s3, s4⟩
        go_simp
        with_reducible rfl
       rotate_left
       ·simp only [Act.put, List.setIfInBounds_toArray, List.set_cons_zero, List.set_cons_succ, i64_w, i32_w]
        rfl
       refine one_ (i := 9) (N := none) #[true, true, true, true, true, true, true, true, true, true] rfl rfl (one_of HT_.out (by kernel_rfl)) (by decide) (fun K hK => ?_)
       have hs56 : w55.cell? ⟨gb300, 0, none⟩ = some (.int .i64 t291) := (blk_cell BK300.out 0).trans rfl
       have hfs56 := blk_frozen BK300.out 0
       have hns56_0 := NB276_300.out
       have hns56_1 := NB277_300.out
       have hns56_3 := NB308_300.out
       have hms56_0 := NB300_276.out
       have hms56_1 := NB300_277.out
       have hms56_3 := NB300_308.out
       have hs57 : w55.cell? ⟨gb300, 1, none⟩ = some (.int .i64 (wrap64 ((wrap64 (t282 + t294)) - 2))) := (blk_cell BK300.out 1).trans rfl
       have hfs57 := blk_frozen BK300.out 1
       have hns57_0 := NB276_300.out
       have hns57_1 := NB277_300.out
       have hns57_3 := NB308_300.out
       have hms57_0 := NB300_276.out
       have hms57_1 := NB300_277.out
       have hms57_3 := NB300_308.out
       have hs58 : w55.cell? ⟨gb300, 2, none⟩ = some (.int .i64 t297) := (blk_cell BK300.out 2).trans rfl
       have hfs58 := blk_frozen BK300.out 2
       have hns58_0 := NB276_300.out
       have hns58_1 := NB277_300.out
       have hns58_3 := NB308_300.out
       have hms58_0 := NB300_276.out
       have hms58_1 := NB300_277.out
       have hms58_3 := NB300_308.out
       refine skip_ (w1 := ?_) (by rfl) rfl ?_ ?_
       rotate_left
       ·go_simp
        rfl
       refine hK.out _ _ ⟨((cell_far (p := ⟨gb300, _, none⟩) NB308_300.out _).trans (((cell_far (p := ⟨gb300, _, none⟩) NB308_300.out _).trans (((cell_far (p := ⟨gb300, _, none⟩) NB308_300.out _).trans (hHeld.1)))))), ((cell_far (p := ⟨gb300, _, none⟩) NB308_300.out _).trans (((cell_far (p := ⟨gb300, _, none⟩) NB308_300.out _).trans (((cell_far (p := ⟨gb300, _, none⟩) NB308_300.out _).trans (hHeld.2.1)))))), ((cell_far (p := ⟨gb300, _, none⟩) (by try dsimp only; first | exact Kd.own_blk (Kd.R_away HO_309001.out (fun _ hk => hk.2)) | (rw [add_block]; exact Kd.own_blk (Kd.R_away HO_309001.out (fun _ hk => hk.2)))) _).trans (((cell_far (p := ⟨gb300, _, none⟩) (by try dsimp only; first | exact Kd.own_blk (Kd.R_away HO_309001.out (fun _ hk => hk.2)) | (rw [add_block]; exact Kd.own_blk (Kd.R_away HO_309001.out (fun _ hk => hk.2)))) _).trans (((cell_far (p := ⟨gb300, _, none⟩) (by try dsimp only; first | exact Kd.own_blk (Kd.R_away HO_309001.out (fun _ hk => hk.2)) | (rw [add_block]; exact Kd.own_blk (Kd.R_away HO_309001.out (fun _ hk => hk.2)))) _).trans (hHeld.2.2.1)))))), ((cell_far (p := ⟨gb300, _, none⟩) (by try dsimp only; first | exact Kd.own_blk (Kd.R_away HO_309001.out (fun _ hk => hk.2)) | (rw [add_block]; exact Kd.own_blk (Kd.R_away HO_309001.out (fun _ hk => hk.2)))) _).trans (((cell_far (p := ⟨gb300, _, none⟩) (by try dsimp only; first | exact Kd.own_blk (Kd.R_away HO_309001.out (fun _ hk => hk.2)) | (rw [add_block]; exact Kd.own_blk (Kd.R_away HO_309001.out (fun _ hk => hk.2)))) _).trans (((cell_far (p := ⟨gb300, _, none⟩) (by try dsimp only; first | exact Kd.own_blk (Kd.R_away HO_309001.out (fun _ hk => hk.2)) | (rw [add_block]; exact Kd.own_blk (Kd.R_away HO_309001.out (fun _ hk => hk.2)))) _).trans (hHeld.2.2.2.1)))))), ((cell_far (p := ⟨gb300, _, none⟩) (by try dsimp only; first | exact Kd.own_blk (Kd.R_away HO_309001.out (fun _ hk => hk.2)) | (rw [add_block]; exact Kd.own_blk (Kd.R_away HO_309001.out (fun _ hk => hk.2)))) _).trans (((cell_far (p := ⟨gb300, _, none⟩) (by try dsimp only; first | exact Kd.own_blk (Kd.R_away HO_309001.out (fun _ hk => hk.2)) | (rw [add_block]; exact Kd.own_blk (Kd.R_away HO_309001.out (fun _ hk => hk.2)))) _).trans (((cell_far (p := ⟨gb300, _, none⟩) (by try dsimp only; first | exact Kd.own_blk (Kd.R_away HO_309001.out (fun _ hk => hk.2)) | (rw [add_block]; exact Kd.own_blk (Kd.R_away HO_309001.out (fun _ hk => hk.2)))) _).trans (hHeld.2.2.2.2))))))⟩ (fun hHeld => ?_)
       clear hK K
       refine done_ (done_of HT_.out (by kernel_rfl)) ?_
       try go_wp2
       have n0_ : Aside0 (Kd.R k28 28 (((w55.setCell ⟨gb300, 0, none⟩ (.int .i64 ((rd_T28 t303 t312).f0))).setCell ⟨gb300, 1, none⟩ (.int .i64 ((rd_T28 t303 t312).f1))).setCell ⟨gb300, 2, none⟩ (.int .i64 ((rd_T28 t303 t312).f2))) w.heap.size (fun k_ => k_ ≠ gb277 ∧ k_ ≠ gb300) (.slice (some ad315) t303.length co34) t303) := ⟨by (with_reducible repeat (first | apply Kd.R_alloc | apply Kd.R_drewN | apply Kd.R_drew)); exact Kd.R_mono (Kd.R_far (p := ⟨gb300, 2, none⟩) (Kd.R_far (p := ⟨gb300, 1, none⟩) (Kd.R_far (p := ⟨gb300, 0, none⟩) (Kd.R_mono HO_309001.out (fun k_ hk => (⟨hk, hk.2⟩ : _ ∧ k_ ≠ gb300))) (fun _ hk => hk.2) (.int .i64 ((rd_T28 t303 t312).f0))) (fun _ hk => hk.2) (.int .i64 ((rd_T28 t303 t312).f1))) (fun _ hk => hk.2) (.int .i64 ((rd_T28 t303 t312).f2))) (fun _ hk => ⟨hk.1.1, hk.1.2⟩)⟩
       have n1_ : Aside0 ((((w55.setCell ⟨gb300, 0, none⟩ (.int .i64 ((rd_T28 t303 t312).f0))).setCell ⟨gb300, 1, none⟩ (.int .i64 ((rd_T28 t303 t312).f1))).setCell ⟨gb300, 2, none⟩ (.int .i64 ((rd_T28 t303 t312).f2))).heap[gb276]? = some (.cells #[.int .i64 0, .slice none 0 0] 26 (0, 0))) := ⟨by (with_reducible repeat (first | refine blk_drewN ?_ _ | refine blk_drew ?_ | refine blk_alloc ?_ _)); refine blk_far ?_ NB276_300.out _; (with_reducible repeat (first | refine blk_drewN ?_ _ | refine blk_drew ?_ | refine blk_alloc ?_ _)); refine blk_far ?_ NB276_300.out _; (with_reducible repeat (first | refine blk_drewN ?_ _ | refine blk_drew ?_ | refine blk_alloc ?_ _)); refine blk_far ?_ NB276_300.out _; (with_reducible repeat (first | refine blk_drewN ?_ _ | refine blk_drew ?_ | refine blk_alloc ?_ _)); exact BK276.out⟩
       have n2_ : Aside0 ((((w55.setCell ⟨gb300, 0, none⟩ (.int .i64 ((rd_T28 t303 t312).f0))).setCell ⟨gb300, 1, none⟩ (.int .i64 ((rd_T28 t303 t312).f1))).setCell ⟨gb300, 2, none⟩ (.int .i64 ((rd_T28 t303 t312).f2))).heap[gb277]? = some (.cells #[.int .i64 0, .int .i64 0, .int .i64 0] 28 (0, 0))) := ⟨by (with_reducible repeat (first | refine blk_drewN ?_ _ | refine blk_drew ?_ | refine blk_alloc ?_ _)); refine blk_far ?_ NB277_300.out _; (with_reducible repeat (first | refine blk_drewN ?_ _ | refine blk_drew ?_ | refine blk_alloc ?_ _)); refine blk_far ?_ NB277_300.out _; (with_reducible repeat (first | refine blk_drewN ?_ _ | refine blk_drew ?_ | refine blk_alloc ?_ _)); refine blk_far ?_ NB277_300.out _; (with_reducible repeat (first | refine blk_drewN ?_ _ | refine blk_drew ?_ | refine blk_alloc ?_ _)); exact BK277.out⟩
       have n3_ : Aside0 ((((w55.setCell ⟨gb300, 0, none⟩ (.int .i64 ((rd_T28 t303 t312).f0))).setCell ⟨gb300, 1, none⟩ (.int .i64 ((rd_T28 t303 t312).f1))).setCell ⟨gb300, 2, none⟩ (.int .i64 ((rd_T28 t303 t312).f2))).heap[gb300]? = some (.cells #[.int .i64 ((rd_T28 t303 t312).f0), .int .i64 ((rd_T28 t303 t312).f1), .int .i64 ((rd_T28 t303 t312).f2)] 28 (0, 0))) := ⟨by (with_reducible repeat (first | refine blk_drewN ?_ _ | refine blk_drew ?_ | refine blk_alloc ?_ _)); refine blk_put (cs := #[.int .i64 ((rd_T28 t303 t312).f0), .int .i64 ((rd_T28 t303 t312).f1), .int .i64 t297]) ?_ 2 _ rfl; (with_reducible repeat (first | refine blk_drewN ?_ _ | refine blk_drew ?_ | refine blk_alloc ?_ _)); refine blk_put (cs := #[.int .i64 ((rd_T28 t303 t312).f0), .int .i64 (wrap64 ((wrap64 (t282 + t294)) - 2)), .int .i64 t297]) ?_ 1 _ rfl; (with_reducible repeat (first | refine blk_drewN ?_ _ | refine blk_drew ?_ | refine blk_alloc ?_ _)); refine blk_put (cs := #[.int .i64 t291, .int .i64 (wrap64 ((wrap64 (t282 + t294)) - 2)), .int .i64 t297]) ?_ 0 _ rfl; (with_reducible repeat (first | refine blk_drewN ?_ _ | refine blk_drew ?_ | refine blk_alloc ?_ _)); exact BK300.out⟩
       have n4_ : Aside0 ((((w55.setCell ⟨gb300, 0, none⟩ (.int .i64 ((rd_T28 t303 t312).f0))).setCell ⟨gb300, 1, none⟩ (.int .i64 ((rd_T28 t303 t312).f1))).setCell ⟨gb300, 2, none⟩ (.int .i64 ((rd_T28 t303 t312).f2))).heap[gb308]? = some (.cells #[.int .i64 t302, .slice (some ad315) t303.length co34] 26 (0, 0))) := ⟨by (with_reducible repeat (first | refine blk_drewN ?_ _ | refine blk_drew ?_ | refine blk_alloc ?_ _)); refine blk_far ?_ NB308_300.out _; (with_reducible repeat (first | refine blk_drewN ?_ _ | refine blk_drew ?_ | refine blk_alloc ?_ _)); refine blk_far ?_ NB308_300.out _; (with_reducible repeat (first | refine blk_drewN ?_ _ | refine blk_drew ?_ | refine blk_alloc ?_ _)); refine blk_far ?_ NB308_300.out _; (with_reducible repeat (first | refine blk_drewN ?_ _ | refine blk_drew ?_ | refine blk_alloc ?_ _)); exact BK308.out⟩
       have n5_ : Aside0 (IsS66 w (((w55.setCell ⟨gb300, 0, none⟩ (.int .i64 ((rd_T28 t303 t312).f0))).setCell ⟨gb300, 1, none⟩ (.int .i64 ((rd_T28 t303 t312).f1))).setCell ⟨gb300, 2, none⟩ (.int .i64 ((rd_T28 t303 t312).f2))) g281 t278 t313 t314) := ⟨by repeat (first | (with_reducible first | exact HI281.out | apply IsS66.alloc | apply IsS66.drewN | apply IsS66.drew | apply IsS66.set_1 | apply IsS66.set_2 | refine IsS66.far ?_ NB281_276.out _ | refine IsS66.far ?_ NB281_277.out _ | refine IsS66.far ?_ NB281_300.out _ | refine IsS66.far ?_ NB281_308.out _) | exact HI281.out)⟩
       have n6_ : Aside0 (Below w.heap.size w (((w55.setCell ⟨gb300, 0, none⟩ (.int .i64 ((rd_T28 t303 t312).f0))).setCell ⟨gb300, 1, none⟩ (.int .i64 ((rd_T28 t303 t312).f1))).setCell ⟨gb300, 2, none⟩ (.int .i64 ((rd_T28 t303 t312).f2)))) := ⟨by repeat (first | (with_reducible first | exact HB.out | apply below_alloc | apply pw_below_drewN | apply below_drew1 | refine below_set ?_ (IsS66.ge HI281.out) | refine below_set ?_ GE276.out | refine below_set ?_ GE277.out | refine below_set ?_ GE300.out | refine below_set ?_ GE308.out) | exact HB.out)⟩
       (try clear HO_309001)
       (try clear BK276)
       (try clear BK277)
       (try clear BK300)
       (try clear BK308)
       (try clear HI281)
       (try clear HB)
       generalize (((w55.setCell ⟨gb300, 0, none⟩ (.int .i64 ((rd_T28 t303 t312).f0))).setCell ⟨gb300, 1, none⟩ (.int .i64 ((rd_T28 t303 t312).f1))).setCell ⟨gb300, 2, none⟩ (.int .i64 ((rd_T28 t303 t312).f2))) = w59 at n0_ n1_ n2_ n3_ n4_ n5_ n6_ ⊢
       have HO_309001 := n0_
       have BK276 := n1_
       have BK277 := n2_
       have BK300 := n3_
       have BK308 := n4_
       have HI281 := n5_
       have HB := n6_
       clear n0_ n1_ n2_ n3_ n4_ n5_ n6_
       have n0_ := Aside0.mk (Kd.R_drew HO_309001.out)
       have n1_ := Aside0.mk (blk_drew BK276.out)
       have n2_ := Aside0.mk (blk_drew BK277.out)
       have n3_ := Aside0.mk (blk_drew BK300.out)
       have n4_ := Aside0.mk (blk_drew BK308.out)
       have n5_ := Aside0.mk (IsS66.drew HI281.out)
       have n6_ := Aside0.mk (below_drew1 HB.out)
       clear HO_309001 BK276 BK277 BK300 BK308 HI281 HB
       have HO_309001 := n0_
       have BK276 := n1_
       have BK277 := n2_
       have BK300 := n3_
       have BK308 := n4_
       have HI281 := n5_
       have HB := n6_
       clear n0_ n1_ n2_ n3_ n4_ n5_ n6_
       refine start_ (n := 6) (S := fun w' => w'.cell? ⟨gb300, 0, none⟩ = some (.int .i64 ((rd_T28 t303 t312).f0)) ∧ w'.cell? ⟨gb300, 1, none⟩ = some (.int .i64 ((rd_T28 t303 t312).f1)) ∧ w'.cell? ⟨gb300, 2, none⟩ = some (.int .i64 ((rd_T28 t303 t312).f2))) (ds := []) #[false, false, false, false, false, false] (by kernel_rfl) rfl rfl ⟨(blk_cell BK300.out 0).trans rfl, (blk_cell BK300.out 1).trans rfl, (blk_cell BK300.out 2).trans rfl⟩ (fun hHeld => ?_)
       generalize w59.drew = w60 at HO_309001 BK276 BK277 BK300 BK308 HI281 HB hHeld ⊢
       refine pure_ (i := 0) (N := some 49) (v := ?_) (a' := ?_) #[true, false, false, false, false, false] rfl rfl (by kernel_rfl) (fun _ _ _ h => h) (Or.inl ⟨by rfl, ?_⟩) ?_ ?_
       rotate_left
       ·intro w'
        go_simp
        with_reducible rfl
       rotate_left
       ·simp only [Act.put, List.setIfInBounds_toArray, List.set_cons_zero, List.set_cons_succ, i64_w, i32_w]
        rfl
       refine pure_ (i := 2) (N := some 51) (v := ?_) (a' := ?_) #[true, false, true, false, false, false] rfl rfl (by kernel_rfl) (fun _ _ _ h => h) (Or.inl ⟨by rfl, ?_⟩) ?_ ?_
       rotate_left
       ·intro w'
        go_simp
        with_reducible rfl
       rotate_left
       ·simp only [Act.put, List.setIfInBounds_toArray, List.set_cons_zero, List.set_cons_succ, i64_w, i32_w]
        rfl
       refine take_ (i := 1) (N := some 50) (v := ?_) (a' := ?_) #[true, true, true, false, false, false] rfl rfl (by kernel_rfl) (fun _ _ _ h => h) (Or.inl ⟨by rfl, ?_⟩) hHeld ?_ ?_
       rotate_left
       ·rintro w' ⟨s0, s1, s2⟩
        go_simp
        with_reducible rfl
       rotate_left
       ·simp only [Act.put, List.setIfInBounds_toArray, List.set_cons_zero, List.set_cons_succ, i64_w, i32_w]
        rfl
       refine one_ (i := 3) (N := some 52) #[true, true, true, true, false, false] rfl rfl (by kernel_rfl) (by decide) (fun K hK => ?_)
       refine goes_ Try.func19 (by kernel_rfl) rfl #[.pointer (some ⟨g281, 0, none⟩), .int .i64 3] (by rfl) rfl rfl eA ?_
       with_reducible refine (spec_l1Below.calls g281 t278 t313 t314 3 t316 t317 t318 w _ ?side1 ?side2 A53.out).mono ?_
       (case side1 => repeat (first | (with_reducible first | exact HI281.out | apply IsS66.alloc | apply IsS66.drewN | apply IsS66.drew | apply IsS66.set_1 | apply IsS66.set_2 | refine IsS66.far ?_ NB281_276.out _ | refine IsS66.far ?_ NB281_277.out _ | refine IsS66.far ?_ NB281_300.out _ | refine IsS66.far ?_ NB281_308.out _) | exact HI281.out))
       (case side2 => repeat (first | (with_reducible first | exact HB.out | apply below_alloc | apply pw_below_drewN | apply below_drew1 | refine below_set ?_ (IsS66.ge HI281.out) | refine below_set ?_ GE276.out | refine below_set ?_ GE277.out | refine below_set ?_ GE300.out | refine below_set ?_ GE308.out) | exact HB.out))
       rintro e w61 ⟨rfl, hi, hb, hk⟩
       refine ⟨_, rfl, ?_⟩
       have n0_ := Aside0.mk (Kd.R_mono (Kd.R_keep (IsS66.apart (show IsS66 w _ g281 t278 t313 t314 from by repeat (first | (with_reducible first | exact HI281.out | apply IsS66.alloc | apply IsS66.drewN | apply IsS66.drew | apply IsS66.set_1 | apply IsS66.set_2 | refine IsS66.far ?_ NB281_276.out _ | refine IsS66.far ?_ NB281_277.out _ | refine IsS66.far ?_ NB281_300.out _ | refine IsS66.far ?_ NB281_308.out _) | exact HI281.out)) (kR HO_309001.out) (by decide)) hk (fun _ h => h.2)) (fun _ h => h.1))
       have n1_ := Aside0.mk (KeepBut.blk hk (g' := gb276) (o := .cells #[.int .i64 0, .slice none 0 0] 26 (0, 0)) (kB BK276.out) NB276_281.out (by simp))
       have n2_ := Aside0.mk (KeepBut.blk hk (g' := gb277) (o := .cells #[.int .i64 0, .int .i64 0, .int .i64 0] 28 (0, 0)) (kB BK277.out) NB277_281.out (by simp))
       have n3_ := Aside0.mk (KeepBut.blk hk (g' := gb300) (o := .cells #[.int .i64 ((rd_T28 t303 t312).f0), .int .i64 ((rd_T28 t303 t312).f1), .int .i64 ((rd_T28 t303 t312).f2)] 28 (0, 0)) (kB BK300.out) NB300_281.out (by simp))
       have n4_ := Aside0.mk (KeepBut.blk hk (g' := gb308) (o := .cells #[.int .i64 t302, .slice (some ad315) t303.length co34] 26 (0, 0)) (kB BK308.out) NB308_281.out (by simp))
       have n5_ := Aside0.mk (hb)
       have n6_ := Aside0.mk (hi)
       clear HO_309001 BK276 BK277 BK300 BK308 HB HI281
       have HO_309001 := n0_
       have BK276 := n1_
       have BK277 := n2_
       have BK300 := n3_
       have BK308 := n4_
       have HB := n5_
       have HI281 := n6_
       clear n0_ n1_ n2_ n3_ n4_ n5_ n6_
       (try clear hb)
       (try clear hb2)
       (try clear hk)
       (try clear hi)
       refine hK.out _ _ ⟨(blk_cell BK300.out 0).trans rfl, (blk_cell BK300.out 1).trans rfl, (blk_cell BK300.out 2).trans rfl⟩ (fun hHeld => ?_)
       clear hK K
       refine norm_ (a' := ?_) ?_ ?_
       rotate_left
       ·show Act.put _ (some 52) _ = _
        simp only [Act.put, List.setIfInBounds_toArray, List.set_cons_zero, List.set_cons_succ, i64_w, i32_w]
        rfl
       refine pure_ (i := 4) (N := some 53) (v := ?_) (a' := ?_) #[true, true, true, true, true, false] rfl rfl (by kernel_rfl) (fun _ _ _ h => h) (Or.inl ⟨by rfl, ?_⟩) ?_ ?_
       rotate_left
       ·intro w'
        go_simp
        with_reducible rfl
       rotate_left
       ·simp only [Act.put, List.setIfInBounds_toArray, List.set_cons_zero, List.set_cons_succ, i64_w, i32_w]
        rfl
       refine pure_ (i := 5) (N := some 7) (v := ?_) (a' := ?_) #[true, true, true, true, true, true] rfl rfl (by kernel_rfl) (fun _ _ _ h => h) (Or.inl ⟨by rfl, ?_⟩) ?_ ?_
       rotate_left
       ·intro w'
        go_simp
        with_reducible rfl
       rotate_left
       ·simp only [Act.put, List.setIfInBounds_toArray, List.set_cons_zero, List.set_cons_succ, i64_w, i32_w]
        rfl
       refine done_ (by kernel_rfl) ?_
       try go_wp2
       go_meet
       case rel => exact ⟨_, (wrap64 (((rd_T28 t303 t312).f1) + t316)), (t317), (t318), ((rd_T28 t303 t312).f0), ((rd_T28 t303 t312).f1), ((rd_T28 t303 t312).f2), eX, H', ⟨by have := HJ9.out; first | omega | exact Nat.le_refl _⟩, ⟨by (with_reducible repeat (first | apply Kd.R_alloc | apply Kd.R_drewN | apply Kd.R_drew)); exact HO_309001.out⟩, ⟨by (with_reducible repeat (first | refine blk_drewN ?_ _ | refine blk_drew ?_ | refine blk_alloc ?_ _)); exact BK276.out⟩, ⟨by (with_reducible repeat (first | refine blk_drewN ?_ _ | refine blk_drew ?_ | refine blk_alloc ?_ _)); exact BK277.out⟩, ⟨by (with_reducible repeat (first | refine blk_drewN ?_ _ | refine blk_drew ?_ | refine blk_alloc ?_ _)); exact BK300.out⟩, ⟨by (with_reducible repeat (first | refine blk_drewN ?_ _ | refine blk_drew ?_ | refine blk_alloc ?_ _)); exact BK308.out⟩, ⟨by repeat (first | (with_reducible first | exact HI281.out | apply IsS66.alloc | apply IsS66.drewN | apply IsS66.drew | apply IsS66.set_1 | apply IsS66.set_2 | refine IsS66.far ?_ NB281_276.out _ | refine IsS66.far ?_ NB281_277.out _ | refine IsS66.far ?_ NB281_300.out _ | refine IsS66.far ?_ NB281_308.out _) | exact HI281.out)⟩, ⟨by repeat (first | (with_reducible first | exact HB.out | apply below_alloc | apply pw_below_drewN | apply below_drew1 | refine below_set ?_ (IsS66.ge HI281.out) | refine below_set ?_ GE276.out | refine below_set ?_ GE277.out | refine below_set ?_ GE300.out | refine below_set ?_ GE308.out) | exact HB.out)⟩⟩
      ·rw [if_neg c52] at H
       exact absurd H (by simp)
     ·rw [if_neg c51] at H
      exact absurd H (by simp)
    ·replace c49 := Bool.eq_false_iff.mpr c49
     subst c49
     have H1 : (spec_DrawCacheTry.j1 kj9 t282 t288 t278 x282001_9 x282002_9 t291 (wrap64 ((wrap64 (t282 + t294)) - 2)) t297 t302 t303) = some (r1, r2, r3, r4, r5, r6, r7) := by rw [if_neg (show ¬ (false = true) by decide)] at H; exact H
     clear H
     have H := H1
     clear H1
     have H' := Aside0.mk H
     clear H
     go_wp2
     go_meet
     case rel => exact ⟨_, (t282), (x282001_9), (x282002_9), (t291), ((wrap64 ((wrap64 (t282 + t294)) - 2))), (t297), eX, H', ⟨by have := HJ9.out; first | omega | exact Nat.le_refl _⟩, ⟨by (with_reducible repeat (first | apply Kd.R_alloc | apply Kd.R_drewN | apply Kd.R_drew)); exact HO_309001.out⟩, ⟨by (with_reducible repeat (first | refine blk_drewN ?_ _ | refine blk_drew ?_ | refine blk_alloc ?_ _)); exact BK276.out⟩, ⟨by (with_reducible repeat (first | refine blk_drewN ?_ _ | refine blk_drew ?_ | refine blk_alloc ?_ _)); exact BK277.out⟩, ⟨by (with_reducible repeat (first | refine blk_drewN ?_ _ | refine blk_drew ?_ | refine blk_alloc ?_ _)); exact BK300.out⟩, ⟨by (with_reducible repeat (first | refine blk_drewN ?_ _ | refine blk_drew ?_ | refine blk_alloc ?_ _)); exact BK308.out⟩, ⟨by repeat (first | (with_reducible first | exact HI281.out | apply IsS66.alloc | apply IsS66.drewN | apply IsS66.drew | apply IsS66.set_1 | apply IsS66.set_2 | refine IsS66.far ?_ NB281_276.out _ | refine IsS66.far ?_ NB281_277.out _ | refine IsS66.far ?_ NB281_300.out _ | refine IsS66.far ?_ NB281_308.out _) | exact HI281.out)⟩, ⟨by repeat (first | (with_reducible first | exact HB.out | apply below_alloc | apply pw_below_drewN | apply below_drew1 | refine below_set ?_ (IsS66.ge HI281.out) | refine below_set ?_ GE276.out | refine below_set ?_ GE277.out | refine below_set ?_ GE300.out | refine below_set ?_ GE308.out) | exact HB.out)⟩⟩
   case rest =>
    clear HC48
    try clear c1
    try clear c2
    try clear p2
    try clear c3
    try clear p3
    try clear q3
    try clear hx3
    try clear c4
    try clear c5
    try clear c6
    try clear p6
    try clear c18
    try clear c19
    try clear c20
    try clear c21
    try clear c22
    try clear c23
    try clear c24
    try clear c25
    try clear c29
    try clear c30
    try clear c31
    try clear p31
    try clear q31
    try clear hx31
    try clear c32
    try clear c35
    try clear c35b0
    try clear c35b1
    try clear c37
    try clear c38
    try clear c39
    try clear c40
    try clear c43
    try clear c44
    try clear c45
    try clear c46
    try clear c49
    try clear c51
    try clear c51b0
    try clear c52
    try clear c52b0
    try clear hcz26_0
    try clear hcz26_1
    try clear hcz26_2
    try clear hcz33_0
    try clear hcz33_1
    try clear hcz41_0
    try clear hcz41_1
    try clear hcz47_0
    try clear hcz47_1
    try clear hfz26_0
    try clear hfz26_1
    try clear hfz26_2
    try clear hfz33_0
    try clear hfz33_1
    try clear hfz41_0
    try clear hfz41_1
    try clear hfz47_0
    try clear hfz47_1
    try clear hx315_0
    try clear hx315_1
    try clear hx315_2
    try clear p2
    try clear p315
    try clear p6
    try clear q315
    obtain ⟨kq, x7_47, x282001_47, x282002_47, x301000_47, x301001_47, x301002_47, rfl, HA, HJ47, HO_309001, BK276, BK277, BK300, BK308, HI281, HB⟩ := hcut
    cases kq with
    | zero => exact absurd HA.out (by simp [spec_DrawCacheTry.j1])
    | succ kj47 =>
     have H := HA.out
     clear HA
     simp only [spec_DrawCacheTry.j1] at H
     replace H := Option.bind_eq_some_iff.mp H
     obtain ⟨⟨t319, t320, t321⟩, A620, H⟩ := H
     replace H : (if t319 = true then ((spec_l5DrawAuth.f t278 t320 t321).bind fun bt322 => (spec_DrawCacheTry.j2 kj47 x7_47 t288 t278 bt322.2.2.2.1 bt322.2.2.2.2 bt322.1 bt322.2.1 bt322.2.2.1 t302 t303)) else (spec_DrawCacheTry.j2 kj47 x7_47 t288 t278 t320 t321 x301000_47 x301001_47 x301002_47 t302 t303)) = some (r1, r2, r3, r4, r5, r6, r7) := H
     have A62 := Aside0.mk A620
     clear A620
     have HC63 := Aside0.mk H
     clear H
     go_upto_if 55 with (first | ((with_reducible refine gate_callee (f := 23) rfl ?_); refine goesL_ (some 55) rfl rfl Try.func23 (by kernel_rfl) rfl #[.pointer (some ⟨g281, 0, none⟩), .int .i64 12] rfl eA ?_; (with_reducible refine (spec_l1Once.calls g281 t278 x282001_47 x282002_47 12 t319 t320 t321 w _ ?side1 ?side2 A62.out).mono ?_); (case side1 => repeat (first | (with_reducible first | exact HI281.out | apply IsS66.alloc | apply IsS66.drewN | apply IsS66.drew | apply IsS66.set_1 | apply IsS66.set_2 | refine IsS66.far ?_ NB281_276.out _ | refine IsS66.far ?_ NB281_277.out _ | refine IsS66.far ?_ NB281_300.out _ | refine IsS66.far ?_ NB281_308.out _) | exact HI281.out)); (case side2 => repeat (first | (with_reducible first | exact HB.out | apply below_alloc | apply pw_below_drewN | apply below_drew1 | refine below_set ?_ (IsS66.ge HI281.out) | refine below_set ?_ GE276.out | refine below_set ?_ GE277.out | refine below_set ?_ GE300.out | refine below_set ?_ GE308.out) | exact HB.out)); rintro e w64 ⟨rfl, hi, hb, hk⟩; refine ⟨_, rfl, ?_⟩; have n0_ := Aside0.mk (Kd.R_mono (Kd.R_keep (IsS66.apart (show IsS66 w _ g281 t278 x282001_47 x282002_47 from by repeat (first | (with_reducible first | exact HI281.out | apply IsS66.alloc | apply IsS66.drewN | apply IsS66.drew | apply IsS66.set_1 | apply IsS66.set_2 | refine IsS66.far ?_ NB281_276.out _ | refine IsS66.far ?_ NB281_277.out _ | refine IsS66.far ?_ NB281_300.out _ | refine IsS66.far ?_ NB281_308.out _) | exact HI281.out)) (kR HO_309001.out) (by decide)) hk (fun _ h => h.2)) (fun _ h => h.1)); have n1_ := Aside0.mk (KeepBut.blk hk (g' := gb276) (o := .cells #[.int .i64 0, .slice none 0 0] 26 (0, 0)) (kB BK276.out) NB276_281.out (by simp)); have n2_ := Aside0.mk (KeepBut.blk hk (g' := gb277) (o := .cells #[.int .i64 0, .int .i64 0, .int .i64 0] 28 (0, 0)) (kB BK277.out) NB277_281.out (by simp)); have n3_ := Aside0.mk (KeepBut.blk hk (g' := gb300) (o := .cells #[.int .i64 x301000_47, .int .i64 x301001_47, .int .i64 x301002_47] 28 (0, 0)) (kB BK300.out) NB300_281.out (by simp)); have n4_ := Aside0.mk (KeepBut.blk hk (g' := gb308) (o := .cells #[.int .i64 t302, .slice Ao34 t303.length co34] 26 (0, 0)) (kB BK308.out) NB308_281.out (by simp)); have n5_ := Aside0.mk (hb); have n6_ := Aside0.mk (hi); clear HO_309001; clear BK276; clear BK277; clear BK300; clear BK308; clear HB; clear HI281; have HO_309001 := n0_; have BK276 := n1_; have BK277 := n2_; have BK300 := n3_; have BK308 := n4_; have HB := n5_; have HI281 := n6_; clear n0_ n1_ n2_ n3_ n4_ n5_ n6_; (try clear hb); (try clear hb2); (try clear hk); (try clear hi)))
     (try simp only [Act.put, List.setIfInBounds_toArray, List.set_cons_zero, List.set_cons_succ])
     go_cut [] (fun wc => ∃ (kq : Nat) (x282001_62 : Int) (x282002_62 : Int) (x301000_62 : Int) (x301001_62 : Int) (x301002_62 : Int), Aside0 (spec_DrawCacheTry.j2 kq x7_47 t288 t278 x282001_62 x282002_62 x301000_62 x301001_62 x301002_62 t302 t303 = some (r1, r2, r3, r4, r5, r6, r7)) ∧ Aside0 (kq ≤ kj47) ∧ Aside0 (Kd.R k28 28 wc w.heap.size (fun k_ => k_ ≠ gb277 ∧ k_ ≠ gb300) (.slice Ao34 t303.length co34) t303) ∧ Aside0 (wc.heap[gb276]? = some (.cells #[.int .i64 0, (.slice none 0 0)] 26 (0, 0))) ∧ Aside0 (wc.heap[gb277]? = some (.cells #[.int .i64 0, .int .i64 0, .int .i64 0] 28 (0, 0))) ∧ Aside0 (wc.heap[gb300]? = some (.cells #[.int .i64 x301000_62, .int .i64 x301001_62, .int .i64 x301002_62] 28 (0, 0))) ∧ Aside0 (wc.heap[gb308]? = some (.cells #[.int .i64 t302, (.slice Ao34 t303.length co34)] 26 (0, 0))) ∧ Aside0 (IsS66 w wc g281 t278 x282001_62 x282002_62) ∧ Aside0 (Below w.heap.size w wc))
     case first =>
      have H := HC63.out
      clear HC63
      by_cases c65 : t319 = true
      ·subst c65
       have H1 : ((spec_l5DrawAuth.f t278 t320 t321).bind fun bt322 => (spec_DrawCacheTry.j2 kj47 x7_47 t288 t278 bt322.2.2.2.1 bt322.2.2.2.2 bt322.1 bt322.2.1 bt322.2.2.1 t302 t303)) = some (r1, r2, r3, r4, r5, r6, r7) := by rw [if_pos rfl] at H; exact H
       clear H
       have H := H1
       clear H1
       replace H := Option.bind_eq_some_iff.mp H
       obtain ⟨⟨t322, t323, t324, t325, t326⟩, A660, H⟩ := H
       replace H : (spec_DrawCacheTry.j2 kj47 x7_47 t288 t278 t325 t326 t322 t323 t324 t302 t303) = some (r1, r2, r3, r4, r5, r6, r7) := H
       have A66 := Aside0.mk A660
       clear A660
       have H' := Aside0.mk H
       clear H
       go_wp2_with (first | ((with_reducible refine gate_callee (f := 24) rfl ?_); refine goesL_ (some 57) rfl rfl Try.func24 (by kernel_rfl) rfl #[.pointer (some ⟨g281, 0, none⟩)] rfl eA ?_; (with_reducible refine (spec_l5DrawAuth.calls g281 t278 t320 t321 t322 t323 t324 t325 t326 w _ ?side1 ?side2 A66.out).mono ?_); (case side1 => repeat (first | (with_reducible first | exact HI281.out | apply IsS66.alloc | apply IsS66.drewN | apply IsS66.drew | apply IsS66.set_1 | apply IsS66.set_2 | refine IsS66.far ?_ NB281_276.out _ | refine IsS66.far ?_ NB281_277.out _ | refine IsS66.far ?_ NB281_300.out _ | refine IsS66.far ?_ NB281_308.out _) | exact HI281.out)); (case side2 => repeat (first | (with_reducible first | exact HB.out | apply below_alloc | apply pw_below_drewN | apply below_drew1 | refine below_set ?_ (IsS66.ge HI281.out) | refine below_set ?_ GE276.out | refine below_set ?_ GE277.out | refine below_set ?_ GE300.out | refine below_set ?_ GE308.out) | exact HB.out)); rintro e w67 ⟨rfl, hi, hb, hk⟩; refine ⟨_, rfl, ?_⟩; have n0_ := Aside0.mk (Kd.R_mono (Kd.R_keep (IsS66.apart (show IsS66 w _ g281 t278 t320 t321 from by repeat (first | (with_reducible first | exact HI281.out | apply IsS66.alloc | apply IsS66.drewN | apply IsS66.drew | apply IsS66.set_1 | apply IsS66.set_2 | refine IsS66.far ?_ NB281_276.out _ | refine IsS66.far ?_ NB281_277.out _ | refine IsS66.far ?_ NB281_300.out _ | refine IsS66.far ?_ NB281_308.out _) | exact HI281.out)) (kR HO_309001.out) (by decide)) hk (fun _ h => h.2)) (fun _ h => h.1)); have n1_ := Aside0.mk (KeepBut.blk hk (g' := gb276) (o := .cells #[.int .i64 0, .slice none 0 0] 26 (0, 0)) (kB BK276.out) NB276_281.out (by simp)); have n2_ := Aside0.mk (KeepBut.blk hk (g' := gb277) (o := .cells #[.int .i64 0, .int .i64 0, .int .i64 0] 28 (0, 0)) (kB BK277.out) NB277_281.out (by simp)); have n3_ := Aside0.mk (KeepBut.blk hk (g' := gb300) (o := .cells #[.int .i64 x301000_47, .int .i64 x301001_47, .int .i64 x301002_47] 28 (0, 0)) (kB BK300.out) NB300_281.out (by simp)); have n4_ := Aside0.mk (KeepBut.blk hk (g' := gb308) (o := .cells #[.int .i64 t302, .slice Ao34 t303.length co34] 26 (0, 0)) (kB BK308.out) NB308_281.out (by simp)); have n5_ := Aside0.mk (hb); have n6_ := Aside0.mk (hi); clear HO_309001; clear BK276; clear BK277; clear BK300; clear BK308; clear HB; clear HI281; have HO_309001 := n0_; have BK276 := n1_; have BK277 := n2_; have BK300 := n3_; have BK308 := n4_; have HB := n5_; have HI281 := n6_; clear n0_ n1_ n2_ n3_ n4_ n5_ n6_; (try clear hb); (try clear hb2); (try clear hk); (try clear hi); have hnb68 := NB300_276.out; have hnc68 := NB276_300.out; have hnb69 := NB300_277.out; have hnc69 := NB277_300.out; have hnb70 := NB300_308.out; have hnc70 := NB308_300.out; have hnb71 := NB300_281.out; have hnc71 := NB281_300.out; have hcz72_0 : w67.cell? ⟨gb300, 0, none⟩ = some (.int .i64 x301000_47) := (blk_cell BK300.out 0).trans rfl; have hcz72_1 : w67.cell? ⟨gb300, 1, none⟩ = some (.int .i64 x301001_47) := (blk_cell BK300.out 1).trans rfl; have hcz72_2 : w67.cell? ⟨gb300, 2, none⟩ = some (.int .i64 x301002_47) := (blk_cell BK300.out 2).trans rfl; have hfz72_0 := blk_frozen BK300.out 0; have hfz72_1 := blk_frozen BK300.out 1; have hfz72_2 := blk_frozen BK300.out 2))
       go_meet
       case rel => exact ⟨_, (t325), (t326), (t322), (t323), (t324), H', ⟨by have := HJ9.out; have := HJ47.out; first | omega | exact Nat.le_refl _⟩, ⟨by (with_reducible repeat (first | apply Kd.R_alloc | apply Kd.R_drewN | apply Kd.R_drew)); exact Kd.R_mono (Kd.R_far (p := ⟨gb300, 2, none⟩) (Kd.R_far (p := ⟨gb300, 1, none⟩) (Kd.R_far (p := ⟨gb300, 0, none⟩) (Kd.R_mono HO_309001.out (fun k_ hk => (⟨hk, hk.2⟩ : _ ∧ k_ ≠ gb300))) (fun _ hk => hk.2) (.int .i64 t322)) (fun _ hk => hk.2) (.int .i64 t323)) (fun _ hk => hk.2) (.int .i64 t324)) (fun _ hk => ⟨hk.1.1, hk.1.2⟩)⟩, ⟨by (with_reducible repeat (first | refine blk_drewN ?_ _ | refine blk_drew ?_ | refine blk_alloc ?_ _)); refine blk_far ?_ NB276_300.out _; (with_reducible repeat (first | refine blk_drewN ?_ _ | refine blk_drew ?_ | refine blk_alloc ?_ _)); refine blk_far ?_ NB276_300.out _; (with_reducible repeat (first | refine blk_drewN ?_ _ | refine blk_drew ?_ | refine blk_alloc ?_ _)); refine blk_far ?_ NB276_300.out _; (with_reducible repeat (first | refine blk_drewN ?_ _ | refine blk_drew ?_ | refine blk_alloc ?_ _)); exact BK276.out⟩, ⟨by (with_reducible repeat (first | refine blk_drewN ?_ _ | refine blk_drew ?_ | refine blk_alloc ?_ _)); refine blk_far ?_ NB277_300.out _; (with_reducible repeat (first | refine blk_drewN ?_ _ | refine blk_drew ?_ | refine blk_alloc ?_ _)); refine blk_far ?_ NB277_300.out _; (with_reducible repeat (first | refine blk_drewN ?_ _ | refine blk_drew ?_ | refine blk_alloc ?_ _)); refine blk_far ?_ NB277_300.out _; (with_reducible repeat (first | refine blk_drewN ?_ _ | refine blk_drew ?_ | refine blk_alloc ?_ _)); exact BK277.out⟩, ⟨by (with_reducible repeat (first | refine blk_drewN ?_ _ | refine blk_drew ?_ | refine blk_alloc ?_ _)); refine blk_put (cs := #[.int .i64 t322, .int .i64 t323, .int .i64 x301002_47]) ?_ 2 _ rfl; (with_reducible repeat (first | refine blk_drewN ?_ _ | refine blk_drew ?_ | refine blk_alloc ?_ _)); refine blk_put (cs := #[.int .i64 t322, .int .i64 x301001_47, .int .i64 x301002_47]) ?_ 1 _ rfl; (with_reducible repeat (first | refine blk_drewN ?_ _ | refine blk_drew ?_ | refine blk_alloc ?_ _)); refine blk_put (cs := #[.int .i64 x301000_47, .int .i64 x301001_47, .int .i64 x301002_47]) ?_ 0 _ rfl; (with_reducible repeat (first | refine blk_drewN ?_ _ | refine blk_drew ?_ | refine blk_alloc ?_ _)); exact BK300.out⟩, ⟨by (with_reducible repeat (first | refine blk_drewN ?_ _ | refine blk_drew ?_ | refine blk_alloc ?_ _)); refine blk_far ?_ NB308_300.out _; (with_reducible repeat (first | refine blk_drewN ?_ _ | refine blk_drew ?_ | refine blk_alloc ?_ _)); refine blk_far ?_ NB308_300.out _; (with_reducible repeat (first | refine blk_drewN ?_ _ | refine blk_drew ?_ | refine blk_alloc ?_ _)); refine blk_far ?_ NB308_300.out _; (with_reducible repeat (first | refine blk_drewN ?_ _ | refine blk_drew ?_ | refine blk_alloc ?_ _)); exact BK308.out⟩, ⟨by repeat (first | (with_reducible first | exact HI281.out | apply IsS66.alloc | apply IsS66.drewN | apply IsS66.drew | apply IsS66.set_1 | apply IsS66.set_2 | refine IsS66.far ?_ NB281_276.out _ | refine IsS66.far ?_ NB281_277.out _ | refine IsS66.far ?_ NB281_300.out _ | refine IsS66.far ?_ NB281_308.out _) | exact HI281.out)⟩, ⟨by repeat (first | (with_reducible first | exact HB.out | apply below_alloc | apply pw_below_drewN | apply below_drew1 | refine below_set ?_ (IsS66.ge HI281.out) | refine below_set ?_ GE276.out | refine below_set ?_ GE277.out | refine below_set ?_ GE300.out | refine below_set ?_ GE308.out) | exact HB.out)⟩⟩
      ·replace c65 := Bool.eq_false_iff.mpr c65
       subst c65
       have H1 : (spec_DrawCacheTry.j2 kj47 x7_47 t288 t278 t320 t321 x301000_47 x301001_47 x301002_47 t302 t303) = some (r1, r2, r3, r4, r5, r6, r7) := by rw [if_neg (show ¬ (false = true) by decide)] at H; exact H
       clear H
       have H := H1
       clear H1
       have H' := Aside0.mk H
       clear H
       go_wp2
       go_meet
       case rel => exact ⟨_, (t320), (t321), (x301000_47), (x301001_47), (x301002_47), H', ⟨by have := HJ9.out; have := HJ47.out; first | omega | exact Nat.le_refl _⟩, ⟨by (with_reducible repeat (first | apply Kd.R_alloc | apply Kd.R_drewN | apply Kd.R_drew)); exact HO_309001.out⟩, ⟨by (with_reducible repeat (first | refine blk_drewN ?_ _ | refine blk_drew ?_ | refine blk_alloc ?_ _)); exact BK276.out⟩, ⟨by (with_reducible repeat (first | refine blk_drewN ?_ _ | refine blk_drew ?_ | refine blk_alloc ?_ _)); exact BK277.out⟩, ⟨by (with_reducible repeat (first | refine blk_drewN ?_ _ | refine blk_drew ?_ | refine blk_alloc ?_ _)); exact BK300.out⟩, ⟨by (with_reducible repeat (first | refine blk_drewN ?_ _ | refine blk_drew ?_ | refine blk_alloc ?_ _)); exact BK308.out⟩, ⟨by repeat (first | (with_reducible first | exact HI281.out | apply IsS66.alloc | apply IsS66.drewN | apply IsS66.drew | apply IsS66.set_1 | apply IsS66.set_2 | refine IsS66.far ?_ NB281_276.out _ | refine IsS66.far ?_ NB281_277.out _ | refine IsS66.far ?_ NB281_300.out _ | refine IsS66.far ?_ NB281_308.out _) | exact HI281.out)⟩, ⟨by repeat (first | (with_reducible first | exact HB.out | apply below_alloc | apply pw_below_drewN | apply below_drew1 | refine below_set ?_ (IsS66.ge HI281.out) | refine below_set ?_ GE276.out | refine below_set ?_ GE277.out | refine below_set ?_ GE300.out | refine below_set ?_ GE308.out) | exact HB.out)⟩⟩
     case rest =>
      clear HC63
      try clear c1
      try clear c2
      try clear p2
      try clear c3
      try clear p3
      try clear q3
      try clear hx3
      try clear c4
      try clear c5
      try clear c6
      try clear p6
      try clear c7
      try clear c18
      try clear c19
      try clear c20
      try clear c21
      try clear c22
      try clear c23
      try clear c24
      try clear c25
      try clear c29
      try clear c30
      try clear c31
      try clear p31
      try clear q31
      try clear hx31
      try clear c32
      try clear c35
      try clear c35b0
      try clear c35b1
      try clear c37
      try clear c38
      try clear c39
      try clear c40
      try clear c43
      try clear c44
      try clear c45
      try clear c46
      try clear c49
      try clear c51
      try clear c51b0
      try clear c52
      try clear c52b0
      try clear p64
      try clear c65
      try clear c68
      try clear c69
      try clear c70
      try clear c71
      try clear hcz26_0
      try clear hcz26_1
      try clear hcz26_2
      try clear hcz33_0
      try clear hcz33_1
      try clear hcz41_0
      try clear hcz41_1
      try clear hcz47_0
      try clear hcz47_1
      try clear hcz72_0
      try clear hcz72_1
      try clear hcz72_2
      try clear hfz26_0
      try clear hfz26_1
      try clear hfz26_2
      try clear hfz33_0
      try clear hfz33_1
      try clear hfz41_0
      try clear hfz41_1
      try clear hfz47_0
      try clear hfz47_1
      try clear hfz72_0
      try clear hfz72_1
      try clear hfz72_2
      try clear hx315_0
      try clear hx315_1
      try clear hx315_2
      try clear p2
      try clear p3
      try clear p31
      try clear p315
      try clear p6
      try clear q3
      try clear q31
      try clear q315
      obtain ⟨kq, x282001_62, x282002_62, x301000_62, x301001_62, x301002_62, HA, HJ62, HO_309001, BK276, BK277, BK300, BK308, HI281, HB⟩ := hcut
      cases kq with
      | zero => exact absurd HA.out (by simp [spec_DrawCacheTry.j2])
      | succ kj62 =>
       have H := HA.out
       clear HA
       simp only [spec_DrawCacheTry.j2] at H
       replace H := Option.bind_eq_some_iff.mp H
       obtain ⟨⟨t327, t328, t329⟩, A730, H⟩ := H
       replace H : (if t327 = true then ((spec_l1PickInt.f t278 t328 t329 (([(-1), 100000, 100001] : List Int))).bind fun bt333 => (some (t302, t303, x301000_62, x301001_62, x301002_62, bt333.1, t288))) else (some (t302, t303, x301000_62, x301001_62, x301002_62, x7_47, t288))) = some (r1, r2, r3, r4, r5, r6, r7) := H
       have A73 := Aside0.mk A730
       clear A730
       by_cases c74 : t327 = true
       ·subst c74
        have H1 : ((spec_l1PickInt.f t278 t328 t329 (([(-1), 100000, 100001] : List Int))).bind fun bt333 => (some (t302, t303, x301000_62, x301001_62, x301002_62, bt333.1, t288))) = some (r1, r2, r3, r4, r5, r6, r7) := by rw [if_pos rfl] at H; exact H
        clear H
        have H := H1
        clear H1
        obtain ⟨y330, hy330⟩ : ∃ y_ : List Int, y_ = (([(-1), 100000, 100001] : List Int)) := ⟨_, rfl⟩
        replace H : ((spec_l1PickInt.f t278 t328 t329 y330).bind fun bt333 => (some (t302, t303, x301000_62, x301001_62, x301002_62, bt333.1, t288))) = some (r1, r2, r3, r4, r5, r6, r7) := by first | (rw [hy330]; with_reducible exact H) | (have H2_ := (Option.bind_some _ _).symm.trans H; rw [hy330]; with_reducible exact H2_) | (have H2_ := (Option.bind_some _ _).symm.trans H; with_reducible exact H2_) | with_reducible exact H | (rw [hy330]; exact H) | exact H
        have Ny330 := Aside0.mk hy330
        clear hy330
        replace H := Option.bind_eq_some_iff.mp H
        obtain ⟨⟨t333, t334, t335⟩, A750, H⟩ := H
        replace H : (some (t302, t303, x301000_62, x301001_62, x301002_62, t333, t288)) = some (r1, r2, r3, r4, r5, r6, r7) := H
        have A75 := Aside0.mk A750
        clear A750
        simp only [Option.some.injEq, Prod.mk.injEq] at H
        obtain ⟨rfl, rfl, rfl, rfl, rfl, rfl, rfl⟩ := H
        try go_wp2_with (first | ((with_reducible refine gate_callee (f := 23) rfl ?_); refine goesL_ (some 59) rfl rfl Try.func23 (by kernel_rfl) rfl #[.pointer (some ⟨g281, 0, none⟩), .int .i64 15] rfl eA ?_; (with_reducible refine (spec_l1Once.calls g281 t278 x282001_62 x282002_62 15 true t328 t329 w _ ?side1 ?side2 A73.out).mono ?_); (case side1 => repeat (first | (with_reducible first | exact HI281.out | apply IsS66.alloc | apply IsS66.drewN | apply IsS66.drew | apply IsS66.set_1 | apply IsS66.set_2 | refine IsS66.far ?_ NB281_276.out _ | refine IsS66.far ?_ NB281_277.out _ | refine IsS66.far ?_ NB281_300.out _ | refine IsS66.far ?_ NB281_308.out _) | exact HI281.out)); (case side2 => repeat (first | (with_reducible first | exact HB.out | apply below_alloc | apply pw_below_drewN | apply below_drew1 | refine below_set ?_ (IsS66.ge HI281.out) | refine below_set ?_ GE276.out | refine below_set ?_ GE277.out | refine below_set ?_ GE300.out | refine below_set ?_ GE308.out) | exact HB.out)); rintro e w76 ⟨rfl, hi, hb, hk⟩; refine ⟨_, rfl, ?_⟩; have n0_ := Aside0.mk (Kd.R_mono (Kd.R_keep (IsS66.apart (show IsS66 w _ g281 t278 x282001_62 x282002_62 from by repeat (first | (with_reducible first | exact HI281.out | apply IsS66.alloc | apply IsS66.drewN | apply IsS66.drew | apply IsS66.set_1 | apply IsS66.set_2 | refine IsS66.far ?_ NB281_276.out _ | refine IsS66.far ?_ NB281_277.out _ | refine IsS66.far ?_ NB281_300.out _ | refine IsS66.far ?_ NB281_308.out _) | exact HI281.out)) (kR HO_309001.out) (by decide)) hk (fun _ h => h.2)) (fun _ h => h.1)); have n1_ := Aside0.mk (KeepBut.blk hk (g' := gb276) (o := .cells #[.int .i64 0, .slice none 0 0] 26 (0, 0)) (kB BK276.out) NB276_281.out (by simp)); have n2_ := Aside0.mk (KeepBut.blk hk (g' := gb277) (o := .cells #[.int .i64 0, .int .i64 0, .int .i64 0] 28 (0, 0)) (kB BK277.out) NB277_281.out (by simp)); have n3_ := Aside0.mk (KeepBut.blk hk (g' := gb300) (o := .cells #[.int .i64 x301000_62, .int .i64 x301001_62, .int .i64 x301002_62] 28 (0, 0)) (kB BK300.out) NB300_281.out (by simp)); have n4_ := Aside0.mk (KeepBut.blk hk (g' := gb308) (o := .cells #[.int .i64 t302, .slice Ao34 t303.length co34] 26 (0, 0)) (kB BK308.out) NB308_281.out (by simp)); have n5_ := Aside0.mk (hb); have n6_ := Aside0.mk (hi); clear HO_309001; clear BK276; clear BK277; clear BK300; clear BK308; clear HB; clear HI281; have HO_309001 := n0_; have BK276 := n1_; have BK277 := n2_; have BK300 := n3_; have BK308 := n4_; have HB := n5_; have HI281 := n6_; clear n0_ n1_ n2_ n3_ n4_ n5_ n6_; (try clear hb); (try clear hb2); (try clear hk); (try clear hi)) | ((with_reducible refine gate_dst (N := 61) rfl ?_); refine Kd.R_lit (Kd.int .i64) _ 3 ?hg (N := 61) ?hd (xs := ([(-1), 100000, 100001] : List Int)) (inner := [.int .i64 (-1), .int .i64 100000, .int .i64 100001]) (ok := fun _ => True) (okp := fun _ => True) ?hr ?hp (fun _ hk => hk) trivial (Below.refl _ _) (Nat.le_refl _) (by simp) ?_; (case hd => rfl); (case hg => rfl); (case hr => first | (go_simp; done) | (go_simp; rfl)); (case hp => exact (Reps.one (show Kd.M (Kd.int .i64) _ _ _ (-1) [.int .i64 (-1)] from rfl) (Reps.one (show Kd.M (Kd.int .i64) _ _ _ 100000 [.int .i64 100000] from rfl) (Reps.one (show Kd.M (Kd.int .i64) _ _ _ 100001 [.int .i64 100001] from rfl) (Reps.none _ _))))); intro v331 w77 ho78 hb hg_ hnew_; clear hg_ hnew_; (first | rw [← Ny330.out] at ho78 | (simp only [Int.reduceToNat] at ho78; rw [← Ny330.out] at ho78)); have n0_ := Aside0.mk (Kd.R_below (kR HO_309001.out) hb); have n1_ := Aside0.mk (Kd.R_lower ho78 (below_size (by repeat (first | (with_reducible first | exact HB.out | apply below_alloc | apply pw_below_drewN | apply below_drew1 | refine below_set ?_ (IsS66.ge HI281.out) | refine below_set ?_ GE276.out | refine below_set ?_ GE277.out | refine below_set ?_ GE300.out | refine below_set ?_ GE308.out) | exact HB.out)))); have n2_ := Aside0.mk (blk_below (kB BK276.out) hb); have n3_ := Aside0.mk (blk_below (kB BK277.out) hb); have n4_ := Aside0.mk (blk_below (kB BK300.out) hb); have n5_ := Aside0.mk (blk_below (kB BK308.out) hb); have n6_ := Aside0.mk (IsS66.below (by repeat (first | (with_reducible first | exact HI281.out | apply IsS66.alloc | apply IsS66.drewN | apply IsS66.drew | apply IsS66.set_1 | apply IsS66.set_2 | refine IsS66.far ?_ NB281_276.out _ | refine IsS66.far ?_ NB281_277.out _ | refine IsS66.far ?_ NB281_300.out _ | refine IsS66.far ?_ NB281_308.out _) | exact HI281.out)) hb); have n7_ := Aside0.mk (below_step (by repeat (first | (with_reducible first | exact HB.out | apply below_alloc | apply pw_below_drewN | apply below_drew1 | refine below_set ?_ (IsS66.ge HI281.out) | refine below_set ?_ GE276.out | refine below_set ?_ GE277.out | refine below_set ?_ GE300.out | refine below_set ?_ GE308.out) | exact HB.out)) hb); clear HO_309001; clear BK276; clear BK277; clear BK300; clear BK308; clear HI281; clear HB; have HO_309001 := n0_; have HO332 := n1_; have BK276 := n2_; have BK277 := n3_; have BK300 := n4_; have BK308 := n5_; have HI281 := n6_; have HB := n7_; clear n0_ n1_ n2_ n3_ n4_ n5_ n6_ n7_; clear hb ho78; obtain ⟨Ao79, co79, eo79⟩ := Kd.R_slice HO332.out; subst eo79) | ((with_reducible refine gate_callee (f := 20) rfl ?_); refine goesL_ (some 62) rfl rfl Try.func20 (by kernel_rfl) rfl #[.pointer (some ⟨g281, 0, none⟩), .slice Ao79 y330.length co79] rfl eA ?_; (with_reducible refine (spec_l1PickInt.calls g281 t278 t328 t329 _ _ y330 t333 t334 t335 w _ ?side1 ?side2 ?side3 ?side4 ?side5 A75.out).mono ?_); (case side1 => repeat (first | (with_reducible first | exact HI281.out | apply IsS66.alloc | apply IsS66.drewN | apply IsS66.drew | apply IsS66.set_1 | apply IsS66.set_2 | refine IsS66.far ?_ NB281_276.out _ | refine IsS66.far ?_ NB281_277.out _ | refine IsS66.far ?_ NB281_300.out _ | refine IsS66.far ?_ NB281_308.out _) | exact HI281.out)); (case side2 => repeat (first | (with_reducible first | exact HB.out | apply below_alloc | apply pw_below_drewN | apply below_drew1 | refine below_set ?_ (IsS66.ge HI281.out) | refine below_set ?_ GE276.out | refine below_set ?_ GE277.out | refine below_set ?_ GE300.out | refine below_set ?_ GE308.out) | exact HB.out)); (case side3 => repeat (first | exact (Kd.R_reads' HO332.out).2.2 | (with_reducible refine Kd.C_alloc ?_ _) | (with_reducible refine Kd.C_drewN ?_ _) | (with_reducible refine Kd.C_drew ?_))); (case side4 => exact (Kd.R_reads' HO332.out).2.1); (case side5 => exact far_slice (IsS66.own_ne HI281.out HO332.out (by decide))); rintro e w80 ⟨rfl, hi, hb, hk⟩; refine ⟨_, rfl, ?_⟩; have n0_ := Aside0.mk (Kd.R_mono (Kd.R_keep (IsS66.apart (show IsS66 w _ g281 t278 t328 t329 from by repeat (first | (with_reducible first | exact HI281.out | apply IsS66.alloc | apply IsS66.drewN | apply IsS66.drew | apply IsS66.set_1 | apply IsS66.set_2 | refine IsS66.far ?_ NB281_276.out _ | refine IsS66.far ?_ NB281_277.out _ | refine IsS66.far ?_ NB281_300.out _ | refine IsS66.far ?_ NB281_308.out _) | exact HI281.out)) (kR HO_309001.out) (by decide)) hk (fun _ h => h.2)) (fun _ h => h.1)); have n1_ := Aside0.mk (KeepBut.blk hk (g' := gb276) (o := .cells #[.int .i64 0, .slice none 0 0] 26 (0, 0)) (kB BK276.out) NB276_281.out (by simp)); have n2_ := Aside0.mk (KeepBut.blk hk (g' := gb277) (o := .cells #[.int .i64 0, .int .i64 0, .int .i64 0] 28 (0, 0)) (kB BK277.out) NB277_281.out (by simp)); have n3_ := Aside0.mk (KeepBut.blk hk (g' := gb300) (o := .cells #[.int .i64 x301000_62, .int .i64 x301001_62, .int .i64 x301002_62] 28 (0, 0)) (kB BK300.out) NB300_281.out (by simp)); have n4_ := Aside0.mk (KeepBut.blk hk (g' := gb308) (o := .cells #[.int .i64 t302, .slice Ao34 t303.length co34] 26 (0, 0)) (kB BK308.out) NB308_281.out (by simp)); have n5_ := Aside0.mk (Kd.R_mono (Kd.R_keep (IsS66.apart (show IsS66 w _ g281 t278 t328 t329 from by repeat (first | (with_reducible first | exact HI281.out | apply IsS66.alloc | apply IsS66.drewN | apply IsS66.drew | apply IsS66.set_1 | apply IsS66.set_2 | refine IsS66.far ?_ NB281_276.out _ | refine IsS66.far ?_ NB281_277.out _ | refine IsS66.far ?_ NB281_300.out _ | refine IsS66.far ?_ NB281_308.out _) | exact HI281.out)) (kR HO332.out) (by decide)) hk (fun _ h => h.2)) (fun _ h => h.1)); have n6_ := Aside0.mk (hb); have n7_ := Aside0.mk (hi); clear HO_309001; clear BK276; clear BK277; clear BK300; clear BK308; clear HO332; clear HB; clear HI281; have HO_309001 := n0_; have BK276 := n1_; have BK277 := n2_; have BK300 := n3_; have BK308 := n4_; have HO332 := n5_; have HB := n6_; have HI281 := n7_; clear n0_ n1_ n2_ n3_ n4_ n5_ n6_ n7_; (try clear hb); (try clear hb2); (try clear hk); (try clear hi)))
        have n0_ := Aside0.mk (Kd.R_drew HO_309001.out)
        have n1_ := Aside0.mk (Kd.R_drew HO332.out)
        have n2_ := Aside0.mk (blk_drew BK276.out)
        have n3_ := Aside0.mk (blk_drew BK277.out)
        have n4_ := Aside0.mk (blk_drew BK300.out)
        have n5_ := Aside0.mk (blk_drew BK308.out)
        have n6_ := Aside0.mk (IsS66.drew HI281.out)
        have n7_ := Aside0.mk (below_drew1 HB.out)
        clear HO_309001 HO332 BK276 BK277 BK300 BK308 HI281 HB
        have HO_309001 := n0_
        have HO332 := n1_
        have BK276 := n2_
        have BK277 := n3_
        have BK300 := n4_
        have BK308 := n5_
        have HI281 := n6_
        have HB := n7_
        clear n0_ n1_ n2_ n3_ n4_ n5_ n6_ n7_
        refine start_ (n := 8) (S := fun w' => w'.cell? ⟨gb308, 0, none⟩ = some (.int .i64 t302) ∧ w'.cell? ⟨gb308, 1, none⟩ = some (.slice Ao34 t303.length co34) ∧ w'.cell? ⟨gb300, 0, none⟩ = some (.int .i64 x301000_62) ∧ w'.cell? ⟨gb300, 1, none⟩ = some (.int .i64 x301001_62) ∧ w'.cell? ⟨gb300, 2, none⟩ = some (.int .i64 x301002_62)) (ds := []) #[false, false, false, false, false, false, false, false] (by kernel_rfl) rfl rfl ⟨(blk_cell BK308.out 0).trans rfl, (blk_cell BK308.out 1).trans rfl, (blk_cell BK300.out 0).trans rfl, (blk_cell BK300.out 1).trans rfl, (blk_cell BK300.out 2).trans rfl⟩ (fun hHeld => ?_); refine with_tabW spec_DrawCacheTry.tab13 spec_DrawCacheTry.bits13 (fun HT_ HW_ => ?_)
        generalize w80.drew = w81 at HO_309001 HO332 BK276 BK277 BK300 BK308 HI281 HB hHeld ⊢
        refine pure_ (i := 2) (N := some 65) (v := ?_) (a' := ?_) #[false, false, true, false, false, false, false, false] rfl rfl (any_of HT_.out (by kernel_rfl)) (fun _ _ _ h => h) (Or.inl ⟨by rfl, ?_⟩) ?_ ?_
        rotate_left
        ·intro w'
         go_simp
         with_reducible rfl
        rotate_left
        ·simp only [Act.put, List.setIfInBounds_toArray, List.set_cons_zero, List.set_cons_succ, i64_w, i32_w]
         rfl
        refine pure_ (i := 3) (N := some 66) (v := ?_) (a' := ?_) #[false, false, true, true, false, false, false, false] rfl rfl (any_of HT_.out (by kernel_rfl)) (fun _ _ _ h => h) (Or.inl ⟨by rfl, ?_⟩) ?_ ?_
        rotate_left
        ·intro w'
         go_simp
         with_reducible rfl
        rotate_left
        ·simp only [Act.put, List.setIfInBounds_toArray, List.set_cons_zero, List.set_cons_succ, i64_w, i32_w]
         rfl
        refine take_ (i := 0) (N := some 63) (v := ?_) (a' := ?_) #[true, false, true, true, false, false, false, false] rfl rfl (take_ofW HT_.out HW_.out (by kernel_rfl)) (fun _ _ _ h => h) (Or.inl ⟨by rfl, ?_⟩) hHeld ?_ ?_
        rotate_left
        ·rintro w' ⟨s0, s1, s2, s3, s4⟩
         go_simp
         with_reducible rfl
        rotate_left
        ·simp only [Act.put, List.setIfInBounds_toArray, List.set_cons_zero, List.set_cons_succ, i64_w, i32_w]
         rfl
        refine take_ (i := 1) (N := some 64) (v := ?_) (a' := ?_) #[true, true, true, true, false, false, false, false] rfl rfl (take_ofW HT_.out HW_.out (by kernel_rfl)) (fun _ _ _ h => h) (Or.inl ⟨by rfl, ?_⟩) hHeld ?_ ?_
        rotate_left
        ·rintro w' ⟨s0, s1, s2, s3, s4⟩
         go_simp
         with_reducible rfl
        rotate_left
        ·simp only [Act.put, List.setIfInBounds_toArray, List.set_cons_zero, List.set_cons_succ, i64_w, i32_w]
         rfl
        refine one_ (i := 4) (N := none) #[true, true, true, true, true, false, false, false] rfl rfl (one_of HT_.out (by kernel_rfl)) (by decide) (fun K hK => ?_)
        have hs82 : w81.cell? ⟨gb276, 0, none⟩ = some (.int .i64 0) := (blk_cell BK276.out 0).trans rfl
        have hfs82 := blk_frozen BK276.out 0
        have hns82_1 := NB277_276.out
        have hns82_2 := NB300_276.out
        have hns82_3 := NB308_276.out
        have hms82_1 := NB276_277.out
        have hms82_2 := NB276_300.out
        have hms82_3 := NB276_308.out
        have hs83 : w81.cell? ⟨gb276, 1, none⟩ = some (.slice none 0 0) := (blk_cell BK276.out 1).trans rfl
        have hfs83 := blk_frozen BK276.out 1
        have hns83_1 := NB277_276.out
        have hns83_2 := NB300_276.out
        have hns83_3 := NB308_276.out
        have hms83_1 := NB276_277.out
        have hms83_2 := NB276_300.out
        have hms83_3 := NB276_308.out
        refine skip_ (w1 := ?_) (by rfl) rfl ?_ ?_
        rotate_left
        ·go_simp
         rfl
        refine hK.out _ _ ⟨((cell_far (p := ⟨gb276, _, none⟩) NB308_276.out _).trans (((cell_far (p := ⟨gb276, _, none⟩) NB308_276.out _).trans (hHeld.1)))), ((cell_far (p := ⟨gb276, _, none⟩) NB308_276.out _).trans (((cell_far (p := ⟨gb276, _, none⟩) NB308_276.out _).trans (hHeld.2.1)))), ((cell_far (p := ⟨gb276, _, none⟩) NB300_276.out _).trans (((cell_far (p := ⟨gb276, _, none⟩) NB300_276.out _).trans (hHeld.2.2.1)))), ((cell_far (p := ⟨gb276, _, none⟩) NB300_276.out _).trans (((cell_far (p := ⟨gb276, _, none⟩) NB300_276.out _).trans (hHeld.2.2.2.1)))), ((cell_far (p := ⟨gb276, _, none⟩) NB300_276.out _).trans (((cell_far (p := ⟨gb276, _, none⟩) NB300_276.out _).trans (hHeld.2.2.2.2))))⟩ (fun hHeld => ?_)
        clear hK K
        refine one_ (i := 5) (N := none) #[true, true, true, true, true, true, false, false] rfl rfl (one_of HT_.out (by kernel_rfl)) (by decide) (fun K hK => ?_)
        have hs84 : w81.cell? ⟨gb277, 0, none⟩ = some (.int .i64 0) := (blk_cell BK277.out 0).trans rfl
        have hfs84 := blk_frozen BK277.out 0
        have hns84_0 := NB276_277.out
        have hns84_2 := NB300_277.out
        have hns84_3 := NB308_277.out
        have hms84_0 := NB277_276.out
        have hms84_2 := NB277_300.out
        have hms84_3 := NB277_308.out
        have hs85 : w81.cell? ⟨gb277, 1, none⟩ = some (.int .i64 0) := (blk_cell BK277.out 1).trans rfl
        have hfs85 := blk_frozen BK277.out 1
        have hns85_0 := NB276_277.out
        have hns85_2 := NB300_277.out
        have hns85_3 := NB308_277.out
        have hms85_0 := NB277_276.out
        have hms85_2 := NB277_300.out
        have hms85_3 := NB277_308.out
        have hs86 : w81.cell? ⟨gb277, 2, none⟩ = some (.int .i64 0) := (blk_cell BK277.out 2).trans rfl
        have hfs86 := blk_frozen BK277.out 2
        have hns86_0 := NB276_277.out
        have hns86_2 := NB300_277.out
        have hns86_3 := NB308_277.out
        have hms86_0 := NB277_276.out
        have hms86_2 := NB277_300.out
        have hms86_3 := NB277_308.out
        refine skip_ (w1 := ?_) (by rfl) rfl ?_ ?_
        rotate_left
        ·go_simp
         rfl
        refine hK.out _ _ ⟨((cell_far (p := ⟨gb277, _, none⟩) NB308_277.out _).trans (((cell_far (p := ⟨gb277, _, none⟩) NB308_277.out _).trans (((cell_far (p := ⟨gb277, _, none⟩) NB308_277.out _).trans (hHeld.1)))))), ((cell_far (p := ⟨gb277, _, none⟩) NB308_277.out _).trans (((cell_far (p := ⟨gb277, _, none⟩) NB308_277.out _).trans (((cell_far (p := ⟨gb277, _, none⟩) NB308_277.out _).trans (hHeld.2.1)))))), ((cell_far (p := ⟨gb277, _, none⟩) NB300_277.out _).trans (((cell_far (p := ⟨gb277, _, none⟩) NB300_277.out _).trans (((cell_far (p := ⟨gb277, _, none⟩) NB300_277.out _).trans (hHeld.2.2.1)))))), ((cell_far (p := ⟨gb277, _, none⟩) NB300_277.out _).trans (((cell_far (p := ⟨gb277, _, none⟩) NB300_277.out _).trans (((cell_far (p := ⟨gb277, _, none⟩) NB300_277.out _).trans (hHeld.2.2.2.1)))))), ((cell_far (p := ⟨gb277, _, none⟩) NB300_277.out _).trans (((cell_far (p := ⟨gb277, _, none⟩) NB300_277.out _).trans (((cell_far (p := ⟨gb277, _, none⟩) NB300_277.out _).trans (hHeld.2.2.2.2))))))⟩ (fun hHeld => ?_)
        clear hK K
        refine pure_ (i := 6) (N := some 4) (v := ?_) (a' := ?_) #[true, true, true, true, true, true, true, false] rfl rfl (any_of HT_.out (by kernel_rfl)) (fun _ _ _ h => h) (Or.inl ⟨by rfl, ?_⟩) ?_ ?_
        rotate_left
        ·intro w'
         go_simp
         with_reducible rfl
        rotate_left
        ·simp only [Act.put, List.setIfInBounds_toArray, List.set_cons_zero, List.set_cons_succ, i64_w, i32_w]
         rfl
        refine pure_ (i := 7) (N := some 5) (v := ?_) (a' := ?_) #[true, true, true, true, true, true, true, true] rfl rfl (any_of HT_.out (by kernel_rfl)) (fun _ _ _ h => h) (Or.inl ⟨by rfl, ?_⟩) ?_ ?_
        rotate_left
        ·intro w'
         go_simp
         with_reducible rfl
        rotate_left
        ·simp only [Act.put, List.setIfInBounds_toArray, List.set_cons_zero, List.set_cons_succ, i64_w, i32_w]
         rfl
        refine done_ (done_of HT_.out (by kernel_rfl)) ?_
        try go_wp2
        refine bodyPost_ret (results_list (rs := [.cell 2 26, .cell 3 28, .tmp 4, .tmp 5]) rfl (by simp) (.cell gb276 26 #[.int .i64 t302, .slice Ao34 t303.length co34] (0, 0) _ rfl (by (with_reducible repeat (first | refine blk_drewN ?_ _ | refine blk_drew ?_ | refine blk_alloc ?_ _)); refine blk_far ?_ NB276_277.out _; (with_reducible repeat (first | refine blk_drewN ?_ _ | refine blk_drew ?_ | refine blk_alloc ?_ _)); refine blk_far ?_ NB276_277.out _; (with_reducible repeat (first | refine blk_drewN ?_ _ | refine blk_drew ?_ | refine blk_alloc ?_ _)); refine blk_far ?_ NB276_277.out _; (with_reducible repeat (first | refine blk_drewN ?_ _ | refine blk_drew ?_ | refine blk_alloc ?_ _)); refine blk_put (cs := #[.int .i64 t302, .slice none 0 0]) ?_ 1 _ rfl; (with_reducible repeat (first | refine blk_drewN ?_ _ | refine blk_drew ?_ | refine blk_alloc ?_ _)); refine blk_put (cs := #[.int .i64 0, .slice none 0 0]) ?_ 0 _ rfl; (with_reducible repeat (first | refine blk_drewN ?_ _ | refine blk_drew ?_ | refine blk_alloc ?_ _)); exact BK276.out) Try.underlying26 rfl (by kernel_rfl) (.cell gb277 28 #[.int .i64 x301000_62, .int .i64 x301001_62, .int .i64 x301002_62] (0, 0) _ rfl (by (with_reducible repeat (first | refine blk_drewN ?_ _ | refine blk_drew ?_ | refine blk_alloc ?_ _)); refine blk_put (cs := #[.int .i64 x301000_62, .int .i64 x301001_62, .int .i64 0]) ?_ 2 _ rfl; (with_reducible repeat (first | refine blk_drewN ?_ _ | refine blk_drew ?_ | refine blk_alloc ?_ _)); refine blk_put (cs := #[.int .i64 x301000_62, .int .i64 0, .int .i64 0]) ?_ 1 _ rfl; (with_reducible repeat (first | refine blk_drewN ?_ _ | refine blk_drew ?_ | refine blk_alloc ?_ _)); refine blk_put (cs := #[.int .i64 0, .int .i64 0, .int .i64 0]) ?_ 0 _ rfl; (with_reducible repeat (first | refine blk_drewN ?_ _ | refine blk_drew ?_ | refine blk_alloc ?_ _)); refine blk_far ?_ NB277_276.out _; (with_reducible repeat (first | refine blk_drewN ?_ _ | refine blk_drew ?_ | refine blk_alloc ?_ _)); refine blk_far ?_ NB277_276.out _; (with_reducible repeat (first | refine blk_drewN ?_ _ | refine blk_drew ?_ | refine blk_alloc ?_ _)); exact BK277.out) Try.underlying28 rfl (by kernel_rfl) (.tmp (.tmp .nil))))) rfl ?_
        exact ⟨_, by first | rfl | (simp [errW_none, errW_some] <;> rfl) | (simp [*, errW_none, errW_some] <;> rfl), by (with_reducible repeat (first | apply Kd.R_alloc | apply Kd.R_drewN | apply Kd.R_drew)); exact Kd.R_mono (Kd.R_far (p := ⟨gb277, 2, none⟩) (Kd.R_far (p := ⟨gb277, 1, none⟩) (Kd.R_far (p := ⟨gb277, 0, none⟩) (Kd.R_far (p := ⟨gb276, 1, none⟩) (Kd.R_far (p := ⟨gb276, 0, none⟩) (Kd.R_mono (Kd.R_types HO_309001.out BK276.out (by decide)) (fun k_ hk => (⟨hk, hk.1.1⟩ : _ ∧ k_ ≠ gb277))) (fun _ hk => hk.1.2) (.int .i64 t302)) (fun _ hk => hk.1.2) (.slice Ao34 t303.length co34)) (fun _ hk => hk.2) (.int .i64 x301000_62)) (fun _ hk => hk.2) (.int .i64 x301001_62)) (fun _ hk => hk.2) (.int .i64 x301002_62)) (fun _ hk => trivial), by repeat (first | (with_reducible first | exact HB.out | apply below_alloc | apply pw_below_drewN | apply below_drew1 | refine below_set ?_ (IsS66.ge HI281.out) | refine below_set ?_ GE276.out | refine below_set ?_ GE277.out | refine below_set ?_ GE300.out | refine below_set ?_ GE308.out) | exact HB.out)⟩
       ·replace c74 := Bool.eq_false_iff.mpr c74
        subst c74
        have H1 : (some (t302, t303, x301000_62, x301001_62, x301002_62, x7_47, t288)) = some (r1, r2, r3, r4, r5, r6, r7) := by rw [if_neg (show ¬ (false = true) by decide)] at H; exact H
        clear H
        have H := H1
        clear H1
        simp only [Option.some.injEq, Prod.mk.injEq] at H
        obtain ⟨rfl, rfl, rfl, rfl, rfl, rfl, rfl⟩ := H
        try go_wp2_with (first | ((with_reducible refine gate_callee (f := 23) rfl ?_); refine goesL_ (some 59) rfl rfl Try.func23 (by kernel_rfl) rfl #[.pointer (some ⟨g281, 0, none⟩), .int .i64 15] rfl eA ?_; (with_reducible refine (spec_l1Once.calls g281 t278 x282001_62 x282002_62 15 false t328 t329 w _ ?side1 ?side2 A73.out).mono ?_); (case side1 => repeat (first | (with_reducible first | exact HI281.out | apply IsS66.alloc | apply IsS66.drewN | apply IsS66.drew | apply IsS66.set_1 | apply IsS66.set_2 | refine IsS66.far ?_ NB281_276.out _ | refine IsS66.far ?_ NB281_277.out _ | refine IsS66.far ?_ NB281_300.out _ | refine IsS66.far ?_ NB281_308.out _) | exact HI281.out)); (case side2 => repeat (first | (with_reducible first | exact HB.out | apply below_alloc | apply pw_below_drewN | apply below_drew1 | refine below_set ?_ (IsS66.ge HI281.out) | refine below_set ?_ GE276.out | refine below_set ?_ GE277.out | refine below_set ?_ GE300.out | refine below_set ?_ GE308.out) | exact HB.out)); rintro e w87 ⟨rfl, hi, hb, hk⟩; refine ⟨_, rfl, ?_⟩; have n0_ := Aside0.mk (Kd.R_mono (Kd.R_keep (IsS66.apart (show IsS66 w _ g281 t278 x282001_62 x282002_62 from by repeat (first | (with_reducible first | exact HI281.out | apply IsS66.alloc | apply IsS66.drewN | apply IsS66.drew | apply IsS66.set_1 | apply IsS66.set_2 | refine IsS66.far ?_ NB281_276.out _ | refine IsS66.far ?_ NB281_277.out _ | refine IsS66.far ?_ NB281_300.out _ | refine IsS66.far ?_ NB281_308.out _) | exact HI281.out)) (kR HO_309001.out) (by decide)) hk (fun _ h => h.2)) (fun _ h => h.1)); have n1_ := Aside0.mk (KeepBut.blk hk (g' := gb276) (o := .cells #[.int .i64 0, .slice none 0 0] 26 (0, 0)) (kB BK276.out) NB276_281.out (by simp)); have n2_ := Aside0.mk (KeepBut.blk hk (g' := gb277) (o := .cells #[.int .i64 0, .int .i64 0, .int .i64 0] 28 (0, 0)) (kB BK277.out) NB277_281.out (by simp)); have n3_ := Aside0.mk (KeepBut.blk hk (g' := gb300) (o := .cells #[.int .i64 x301000_62, .int .i64 x301001_62, .int .i64 x301002_62] 28 (0, 0)) (kB BK300.out) NB300_281.out (by simp)); have n4_ := Aside0.mk (KeepBut.blk hk (g' := gb308) (o := .cells #[.int .i64 t302, .slice Ao34 t303.length co34] 26 (0, 0)) (kB BK308.out) NB308_281.out (by simp)); have n5_ := Aside0.mk (hb); have n6_ := Aside0.mk (hi); clear HO_309001; clear BK276; clear BK277; clear BK300; clear BK308; clear HB; clear HI281; have HO_309001 := n0_; have BK276 := n1_; have BK277 := n2_; have BK300 := n3_; have BK308 := n4_; have HB := n5_; have HI281 := n6_; clear n0_ n1_ n2_ n3_ n4_ n5_ n6_; (try clear hb); (try clear hb2); (try clear hk); (try clear hi)))
        have n0_ := Aside0.mk (Kd.R_drew HO_309001.out)
        have n1_ := Aside0.mk (blk_drew BK276.out)
        have n2_ := Aside0.mk (blk_drew BK277.out)
        have n3_ := Aside0.mk (blk_drew BK300.out)
        have n4_ := Aside0.mk (blk_drew BK308.out)
        have n5_ := Aside0.mk (IsS66.drew HI281.out)
        have n6_ := Aside0.mk (below_drew1 HB.out)
        clear HO_309001 BK276 BK277 BK300 BK308 HI281 HB
        have HO_309001 := n0_
        have BK276 := n1_
        have BK277 := n2_
        have BK300 := n3_
        have BK308 := n4_
        have HI281 := n5_
        have HB := n6_
        clear n0_ n1_ n2_ n3_ n4_ n5_ n6_
        refine start_ (n := 8) (S := fun w' => w'.cell? ⟨gb308, 0, none⟩ = some (.int .i64 t302) ∧ w'.cell? ⟨gb308, 1, none⟩ = some (.slice Ao34 t303.length co34) ∧ w'.cell? ⟨gb300, 0, none⟩ = some (.int .i64 x301000_62) ∧ w'.cell? ⟨gb300, 1, none⟩ = some (.int .i64 x301001_62) ∧ w'.cell? ⟨gb300, 2, none⟩ = some (.int .i64 x301002_62)) (ds := []) #[false, false, false, false, false, false, false, false] (by kernel_rfl) rfl rfl ⟨(blk_cell BK308.out 0).trans rfl, (blk_cell BK308.out 1).trans rfl, (blk_cell BK300.out 0).trans rfl, (blk_cell BK300.out 1).trans rfl, (blk_cell BK300.out 2).trans rfl⟩ (fun hHeld => ?_); refine with_tabW spec_DrawCacheTry.tab13 spec_DrawCacheTry.bits13 (fun HT_ HW_ => ?_)
        generalize w87.drew = w88 at HO_309001 BK276 BK277 BK300 BK308 HI281 HB hHeld ⊢
        refine pure_ (i := 2) (N := some 65) (v := ?_) (a' := ?_) #[false, false, true, false, false, false, false, false] rfl rfl (any_of HT_.out (by kernel_rfl)) (fun _ _ _ h => h) (Or.inl ⟨by rfl, ?_⟩) ?_ ?_
        rotate_left
        ·intro w'
         go_simp
         with_reducible rfl
        rotate_left
        ·simp only [Act.put, List.setIfInBounds_toArray, List.set_cons_zero, List.set_cons_succ, i64_w, i32_w]
         rfl
        refine pure_ (i := 3) (N := some 66) (v := ?_) (a' := ?_) #[false, false, true, true, false, false, false, false] rfl rfl (any_of HT_.out (by kernel_rfl)) (fun _ _ _ h => h) (Or.inl ⟨by rfl, ?_⟩) ?_ ?_
        rotate_left
        ·intro w'
         go_simp
         with_reducible rfl
        rotate_left
        ·simp only [Act.put, List.setIfInBounds_toArray, List.set_cons_zero, List.set_cons_succ, i64_w, i32_w]
         rfl
        refine take_ (i := 0) (N := some 63) (v := ?_) (a' := ?_) #[true, false, true, true, false, false, false, false] rfl rfl (take_ofW HT_.out HW_.out (by kernel_rfl)) (fun _ _ _ h => h) (Or.inl ⟨by rfl, ?_⟩) hHeld ?_ ?_
        rotate_left
        ·rintro w' ⟨s0, s1, s2, s3, s4⟩
         go_simp
         with_reducible rfl
        rotate_left
        ·simp only [Act.put, List.setIfInBounds_toArray, List.set_cons_zero, List.set_cons_succ, i64_w, i32_w]
         rfl
        refine take_ (i := 1) (N := some 64) (v := ?_) (a' := ?_) #[true, true, true, true, false, false, false, false] rfl rfl (take_ofW HT_.out HW_.out (by kernel_rfl)) (fun _ _ _ h => h) (Or.inl ⟨by rfl, ?_⟩) hHeld ?_ ?_
        rotate_left
        ·rintro w' ⟨s0, s1, s2, s3, s4⟩
         go_simp
         with_reducible rfl
        rotate_left
        ·simp only [Act.put, List.setIfInBounds_toArray, List.set_cons_zero, List.set_cons_succ, i64_w, i32_w]
         rfl
        refine one_ (i := 4) (N := none) #[true, true, true, true, true, false, false, false] rfl rfl (one_of HT_.out (by kernel_rfl)) (by decide) (fun K hK => ?_)
        have hs89 : w88.cell? ⟨gb276, 0, none⟩ = some (.int .i64 0) := (blk_cell BK276.out 0).trans rfl
        have hfs89 := blk_frozen BK276.out 0
        have hns89_1 := NB277_276.out
        have hns89_2 := NB300_276.out
        have hns89_3 := NB308_276.out
        have hms89_1 := NB276_277.out
        have hms89_2 := NB276_300.out
        have hms89_3 := NB276_308.out
        have hs90 : w88.cell? ⟨gb276, 1, none⟩ = some (.slice none 0 0) := (blk_cell BK276.out 1).trans rfl
        have hfs90 := blk_frozen BK276.out 1
        have hns90_1 := NB277_276.out
        have hns90_2 := NB300_276.out
        have hns90_3 := NB308_276.out
        have hms90_1 := NB276_277.out
        have hms90_2 := NB276_300.out
        have hms90_3 := NB276_308.out
        refine skip_ (w1 := ?_) (by rfl) rfl ?_ ?_
        rotate_left
        ·go_simp
         rfl
        refine hK.out _ _ ⟨((cell_far (p := ⟨gb276, _, none⟩) NB308_276.out _).trans (((cell_far (p := ⟨gb276, _, none⟩) NB308_276.out _).trans (hHeld.1)))), ((cell_far (p := ⟨gb276, _, none⟩) NB308_276.out _).trans (((cell_far (p := ⟨gb276, _, none⟩) NB308_276.out _).trans (hHeld.2.1)))), ((cell_far (p := ⟨gb276, _, none⟩) NB300_276.out _).trans (((cell_far (p := ⟨gb276, _, none⟩) NB300_276.out _).trans (hHeld.2.2.1)))), ((cell_far (p := ⟨gb276, _, none⟩) NB300_276.out _).trans (((cell_far (p := ⟨gb276, _, none⟩) NB300_276.out _).trans (hHeld.2.2.2.1)))), ((cell_far (p := ⟨gb276, _, none⟩) NB300_276.out _).trans (((cell_far (p := ⟨gb276, _, none⟩) NB300_276.out _).trans (hHeld.2.2.2.2))))⟩ (fun hHeld => ?_)
        clear hK K
        refine one_ (i := 5) (N := none) #[true, true, true, true, true, true, false, false] rfl rfl (one_of HT_.out (by kernel_rfl)) (by decide) (fun K hK => ?_)
        have hs91 : w88.cell? ⟨gb277, 0, none⟩ = some (.int .i64 0) := (blk_cell BK277.out 0).trans rfl
        have hfs91 := blk_frozen BK277.out 0
        have hns91_0 := NB276_277.out
        have hns91_2 := NB300_277.out
        have hns91_3 := NB308_277.out
        have hms91_0 := NB277_276.out
        have hms91_2 := NB277_300.out
        have hms91_3 := NB277_308.out
        have hs92 : w88.cell? ⟨gb277, 1, none⟩ = some (.int .i64 0) := (blk_cell BK277.out 1).trans rfl
        have hfs92 := blk_frozen BK277.out 1
        have hns92_0 := NB276_277.out
        have hns92_2 := NB300_277.out
        have hns92_3 := NB308_277.out
        have hms92_0 := NB277_276.out
        have hms92_2 := NB277_300.out
        have hms92_3 := NB277_308.out
        have hs93 : w88.cell? ⟨gb277, 2, none⟩ = some (.int .i64 0) := (blk_cell BK277.out 2).trans rfl
        have hfs93 := blk_frozen BK277.out 2
        have hns93_0 := NB276_277.out
        have hns93_2 := NB300_277.out
        have hns93_3 := NB308_277.out
        have hms93_0 := NB277_276.out
        have hms93_2 := NB277_300.out
        have hms93_3 := NB277_308.out
        refine skip_ (w1 := ?_) (by rfl) rfl ?_ ?_
        rotate_left
        ·go_simp
         rfl
        refine hK.out _ _ ⟨((cell_far (p := ⟨gb277, _, none⟩) NB308_277.out _).trans (((cell_far (p := ⟨gb277, _, none⟩) NB308_277.out _).trans (((cell_far (p := ⟨gb277, _, none⟩) NB308_277.out _).trans (hHeld.1)))))), ((cell_far (p := ⟨gb277, _, none⟩) NB308_277.out _).trans (((cell_far (p := ⟨gb277, _, none⟩) NB308_277.out _).trans (((cell_far (p := ⟨gb277, _, none⟩) NB308_277.out _).trans (hHeld.2.1)))))), ((cell_far (p := ⟨gb277, _, none⟩) NB300_277.out _).trans (((cell_far (p := ⟨gb277, _, none⟩) NB300_277.out _).trans (((cell_far (p := ⟨gb277, _, none⟩) NB300_277.out _).trans (hHeld.2.2.1)))))), ((cell_far (p := ⟨gb277, _, none⟩) NB300_277.out _).trans (((cell_far (p := ⟨gb277, _, none⟩) NB300_277.out _).trans (((cell_far (p := ⟨gb277, _, none⟩) NB300_277.out _).trans (hHeld.2.2.2.1)))))), ((cell_far (p := ⟨gb277, _, none⟩) NB300_277.out _).trans (((cell_far (p := ⟨gb277, _, none⟩) NB300_277.out _).trans (((cell_far (p := ⟨gb277, _, none⟩) NB300_277.out _).trans (hHeld.2.2.2.2))))))⟩ (fun hHeld => ?_)
        clear hK K
        refine pure_ (i := 6) (N := some 4) (v := ?_) (a' := ?_) #[true, true, true, true, true, true, true, false] rfl rfl (any_of HT_.out (by kernel_rfl)) (fun _ _ _ h => h) (Or.inl ⟨by rfl, ?_⟩) ?_ ?_
        rotate_left
        ·intro w'
         go_simp
         with_reducible rfl
        rotate_left
        ·simp only [Act.put, List.setIfInBounds_toArray, List.set_cons_zero, List.set_cons_succ, i64_w, i32_w]
         rfl
        refine pure_ (i := 7) (N := some 5) (v := ?_) (a' := ?_) #[true, true, true, true, true, true, true, true] rfl rfl (any_of HT_.out (by kernel_rfl)) (fun _ _ _ h => h) (Or.inl ⟨by rfl, ?_⟩) ?_ ?_
        rotate_left
        ·intro w'
         go_simp
         with_reducible rfl
        rotate_left
        ·simp only [Act.put, List.setIfInBounds_toArray, List.set_cons_zero, List.set_cons_succ, i64_w, i32_w]
         rfl
        refine done_ (done_of HT_.out (by kernel_rfl)) ?_
        try go_wp2
        refine bodyPost_ret (results_list (rs := [.cell 2 26, .cell 3 28, .tmp 4, .tmp 5]) rfl (by simp) (.cell gb276 26 #[.int .i64 t302, .slice Ao34 t303.length co34] (0, 0) _ rfl (by (with_reducible repeat (first | refine blk_drewN ?_ _ | refine blk_drew ?_ | refine blk_alloc ?_ _)); refine blk_far ?_ NB276_277.out _; (with_reducible repeat (first | refine blk_drewN ?_ _ | refine blk_drew ?_ | refine blk_alloc ?_ _)); refine blk_far ?_ NB276_277.out _; (with_reducible repeat (first | refine blk_drewN ?_ _ | refine blk_drew ?_ | refine blk_alloc ?_ _)); refine blk_far ?_ NB276_277.out _; (with_reducible repeat (first | refine blk_drewN ?_ _ | refine blk_drew ?_ | refine blk_alloc ?_ _)); refine blk_put (cs := #[.int .i64 t302, .slice none 0 0]) ?_ 1 _ rfl; (with_reducible repeat (first | refine blk_drewN ?_ _ | refine blk_drew ?_ | refine blk_alloc ?_ _)); refine blk_put (cs := #[.int .i64 0, .slice none 0 0]) ?_ 0 _ rfl; (with_reducible repeat (first | refine blk_drewN ?_ _ | refine blk_drew ?_ | refine blk_alloc ?_ _)); exact BK276.out) Try.underlying26 rfl (by kernel_rfl) (.cell gb277 28 #[.int .i64 x301000_62, .int .i64 x301001_62, .int .i64 x301002_62] (0, 0) _ rfl (by (with_reducible repeat (first | refine blk_drewN ?_ _ | refine blk_drew ?_ | refine blk_alloc ?_ _)); refine blk_put (cs := #[.int .i64 x301000_62, .int .i64 x301001_62, .int .i64 0]) ?_ 2 _ rfl; (with_reducible repeat (first | refine blk_drewN ?_ _ | refine blk_drew ?_ | refine blk_alloc ?_ _)); refine blk_put (cs := #[.int .i64 x301000_62, .int .i64 0, .int .i64 0]) ?_ 1 _ rfl; (with_reducible repeat (first | refine blk_drewN ?_ _ | refine blk_drew ?_ | refine blk_alloc ?_ _)); refine blk_put (cs := #[.int .i64 0, .int .i64 0, .int .i64 0]) ?_ 0 _ rfl; (with_reducible repeat (first | refine blk_drewN ?_ _ | refine blk_drew ?_ | refine blk_alloc ?_ _)); refine blk_far ?_ NB277_276.out _; (with_reducible repeat (first | refine blk_drewN ?_ _ | refine blk_drew ?_ | refine blk_alloc ?_ _)); refine blk_far ?_ NB277_276.out _; (with_reducible repeat (first | refine blk_drewN ?_ _ | refine blk_drew ?_ | refine blk_alloc ?_ _)); exact BK277.out) Try.underlying28 rfl (by kernel_rfl) (.tmp (.tmp .nil))))) rfl ?_
        exact ⟨_, by first | rfl | (simp [errW_none, errW_some] <;> rfl) | (simp [*, errW_none, errW_some] <;> rfl), by (with_reducible repeat (first | apply Kd.R_alloc | apply Kd.R_drewN | apply Kd.R_drew)); exact Kd.R_mono (Kd.R_far (p := ⟨gb277, 2, none⟩) (Kd.R_far (p := ⟨gb277, 1, none⟩) (Kd.R_far (p := ⟨gb277, 0, none⟩) (Kd.R_far (p := ⟨gb276, 1, none⟩) (Kd.R_far (p := ⟨gb276, 0, none⟩) (Kd.R_mono (Kd.R_types HO_309001.out BK276.out (by decide)) (fun k_ hk => (⟨hk, hk.1.1⟩ : _ ∧ k_ ≠ gb277))) (fun _ hk => hk.1.2) (.int .i64 t302)) (fun _ hk => hk.1.2) (.slice Ao34 t303.length co34)) (fun _ hk => hk.2) (.int .i64 x301000_62)) (fun _ hk => hk.2) (.int .i64 x301001_62)) (fun _ hk => hk.2) (.int .i64 x301002_62)) (fun _ hk => trivial), by repeat (first | (with_reducible first | exact HB.out | apply below_alloc | apply pw_below_drewN | apply below_drew1 | refine below_set ?_ (IsS66.ge HI281.out) | refine below_set ?_ GE276.out | refine below_set ?_ GE277.out | refine below_set ?_ GE300.out | refine below_set ?_ GE308.out) | exact HB.out)⟩

end Go.Proofs.Ytnpbafgnfdadhaa.OFnCache
-- halved
-- squeezed
