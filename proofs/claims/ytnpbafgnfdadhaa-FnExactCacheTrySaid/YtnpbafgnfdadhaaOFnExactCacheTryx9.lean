-- walks of this claim, written by a program of mine
import Derived.Test.YtnpbafgnfdadhaaOFnExactCacheTryx0
import Derived.Test.YtnpbafgnfdadhaaOFnExactCacheTryx4
import Derived.Test.YtnpbafgnfdadhaaOFnExactCacheTryx6
import Derived.Test.YtnpbafgnfdadhaaOFnExactCacheTryx7
import Derived.Test.YtnpbafgnfdadhaaOFnExactCacheTryx8
namespace Go.Proofs.Ytnpbafgnfdadhaa.OFnExactCacheTry
open Go.RowKit Go.Proofs.Ytnpbafgnfdadhaa.OWord Go.Proofs.YtnpbafgnfdadhaaW.PrintWords Go.Proofs.YtnpbafgnfdadhaaW.PrintLast Go.Proofs.YtnpbafgnfdadhaaW.PrintMore
attribute [local go_sem] max2_int min2_int max_two min_two max_three min_three max_four min_four   -- for this text's walks alone
set_option linter.unusedVariables false
set_option linter.unusedSimpArgs false

/-! ### laws_FnExactCacheTry: function 4 -/
mutual
def laws_FnExactCacheTry.j0 : Nat → Int → Int → Int → Int → Bool → Int → List (S39) → Int → Int → Int → Int → List (S28) → Int → List (S28) → Int → List (S28) → Option (Bool)
 | 0, _, _, _, _, _, _, _, _, _, _, _, _, _, _, _, _ => none
 | k + 1, x2, x3, x11, x14, x54, x239000, x239001, x240000, x240001, x240002, x254000, x254001, x259000, x259001, x268000, x268001 => if x54 = true then (some false) else ((laws_toCache.f k x239000 x239001).bind fun bt269 => ((laws_eqCache.f k x259000 x259001 bt269.1 bt269.2).bind fun t273 => (if t273 = true then ((laws_markCache.f k x259000 x259001 1).bind fun bt274 => (if bt274.1 < 0 then (laws_FnExactCacheTry.j1 k x2 x3 x11 true x239000 x239001 x240000 x240001 x240002 x254000 x254001 x268000 x268001) else ((laws_eqCache.f k x268000 x268001 x254000 x254001).bind fun t276 => (if t276 = true then (laws_FnExactCacheTry.j1 k x2 x3 x11 (x14 != x11) x239000 x239001 x240000 x240001 x240002 x254000 x254001 x268000 x268001) else (laws_FnExactCacheTry.j1 k x2 x3 x11 true x239000 x239001 x240000 x240001 x240002 x254000 x254001 x268000 x268001))))) else (some false))))
def laws_FnExactCacheTry.j1 : Nat → Int → Int → Int → Bool → Int → List (S39) → Int → Int → Int → Int → List (S28) → Int → List (S28) → Option (Bool)
 | 0, _, _, _, _, _, _, _, _, _, _, _, _, _ => none
 | k + 1, x2, x3, x11, x75, x239000, x239001, x240000, x240001, x240002, x254000, x254001, x268000, x268001 => if x75 = true then (some false) else ((laws_markCache.f k x268000 x268001 1).bind fun bt277 => ((laws_heldCache.f k x268000 bt277.2 1).bind fun t279 => (if t279 < 0 then (some false) else (if t279 = bt277.1 then ((laws_toCache.f k x239000 x239001).bind fun bt280 => ((laws_toAuth.f x240000 x240001 x240002).bind fun bt284 => ((impl_CacheTry.f k bt280.1 bt280.2 bt284.1 bt284.2.1 bt284.2.2 x2 x3).bind fun bt287 => ((laws_eqCache.f k bt287.1 bt287.2.1 x254000 x254001).bind fun t293 => (if t293 = true then (laws_FnExactCacheTry.j2 k bt277.1 (bt287.2.2 != x11) x268000 bt277.2) else (laws_FnExactCacheTry.j2 k bt277.1 true x268000 bt277.2)))))) else (some false)))))
def laws_FnExactCacheTry.j2 : Nat → Int → Bool → Int → List (S28) → Option (Bool)
 | 0, _, _, _, _ => none
 | k + 1, x16, x105, x268000, x268001 => if x105 = true then (some false) else ((laws_heldCache.f k x268000 x268001 1).bind fun t294 => (if t294 < 0 then (some false) else (if t294 = x16 then (some true) else (some false))))
end
def laws_FnExactCacheTry.f (k : Nat) (a0_0 : Int) (l0_1 : List (S39)) (a1_0 : Int) (a1_1 : Int) (a1_2 : Int) (a2 : Int) (a3 : Int) : Option (Bool) := (laws_szCache.f a0_0 l0_1 1048576).bind fun t240 => (if t240 < 0 then (some true) else ((laws_toCache.f k a0_0 l0_1).bind fun bt241 => ((laws_toAuth.f a1_0 a1_1 a1_2).bind fun bt245 => ((spec_CacheTry.f k bt241.1 bt241.2 bt245.1 bt245.2.1 bt245.2.2 a2 a3).bind fun bt248 => ((laws_toCache.f k a0_0 l0_1).bind fun bt254 => ((laws_toAuth.f a1_0 a1_1 a1_2).bind fun bt259 => ((impl_CacheTry.f k bt254.1 bt254.2 bt259.1 bt259.2.1 bt259.2.2 a2 a3).bind fun bt262 => ((laws_eqCache.f k bt262.1 bt262.2.1 bt248.1 bt248.2.1).bind fun t268 => (if t268 = true then (laws_FnExactCacheTry.j0 k a2 a3 bt248.2.2 bt262.2.2 (bt262.2.2 != bt248.2.2) a0_0 l0_1 a1_0 a1_1 a1_2 bt248.1 bt248.2.1 bt254.1 bt254.2 bt262.1 bt262.2.1) else (laws_FnExactCacheTry.j0 k a2 a3 bt248.2.2 bt262.2.2 true a0_0 l0_1 a1_0 a1_1 a1_2 bt248.1 bt248.2.1 bt254.1 bt254.2 bt262.1 bt262.2.1))))))))))
theorem laws_FnExactCacheTry.mono_l : ∀ k, (∀ y0 y1 y2 y3 y4 y5 y6 y7 y8 y9 y10 y11 y12 y13 y14 y15, LeO (laws_FnExactCacheTry.j0 k y0 y1 y2 y3 y4 y5 y6 y7 y8 y9 y10 y11 y12 y13 y14 y15) (laws_FnExactCacheTry.j0 (k + 1) y0 y1 y2 y3 y4 y5 y6 y7 y8 y9 y10 y11 y12 y13 y14 y15)) ∧ (∀ y0 y1 y2 y3 y4 y5 y6 y7 y8 y9 y10 y11 y12, LeO (laws_FnExactCacheTry.j1 k y0 y1 y2 y3 y4 y5 y6 y7 y8 y9 y10 y11 y12) (laws_FnExactCacheTry.j1 (k + 1) y0 y1 y2 y3 y4 y5 y6 y7 y8 y9 y10 y11 y12)) ∧ (∀ y0 y1 y2 y3, LeO (laws_FnExactCacheTry.j2 k y0 y1 y2 y3) (laws_FnExactCacheTry.j2 (k + 1) y0 y1 y2 y3))
 | 0 => ⟨fun _ _ _ _ _ _ _ _ _ _ _ _ _ _ _ _ r h => by simp [laws_FnExactCacheTry.j0] at h, fun _ _ _ _ _ _ _ _ _ _ _ _ _ r h => by simp [laws_FnExactCacheTry.j1] at h, fun _ _ _ _ r h => by simp [laws_FnExactCacheTry.j2] at h⟩
 | k + 1 => by
  obtain ⟨ih0, ih1, ih2⟩ := laws_FnExactCacheTry.mono_l k
  refine ⟨?_, ?_, ?_⟩
  ·intro y0 y1 y2 y3 y4 y5 y6 y7 y8 y9 y10 y11 y12 y13 y14 y15
   unfold laws_FnExactCacheTry.j0
   repeat' first
   | (with_reducible exact ih0 _ _ _ _ _ _ _ _ _ _ _ _ _ _ _ _)
   | (with_reducible exact ih1 _ _ _ _ _ _ _ _ _ _ _ _ _)
   | (with_reducible exact ih2 _ _ _ _)
   | (with_reducible exact impl_CacheTry.mono _ _ _ _ _ _ _ _)
   | (with_reducible exact laws_eqCache.mono _ _ _ _ _)
   | (with_reducible exact laws_heldCache.mono _ _ _ _)
   | (with_reducible exact laws_markCache.mono _ _ _ _)
   | (with_reducible exact laws_toCache.mono _ _ _)
   | (with_reducible exact spec_CacheTry.mono _ _ _ _ _ _ _ _)
   | (with_reducible exact LeO.refl _)
   | (with_reducible exact LeO.none _)
   | (with_reducible refine LeO.ite ?_ ?_)
   | (with_reducible refine LeO.bind ?_ (fun _ => ?_))
   | exact ih0 _ _ _ _ _ _ _ _ _ _ _ _ _ _ _ _
   | exact ih1 _ _ _ _ _ _ _ _ _ _ _ _ _
   | exact ih2 _ _ _ _
   | exact impl_CacheTry.mono _ _ _ _ _ _ _ _
   | exact laws_eqCache.mono _ _ _ _ _
   | exact laws_heldCache.mono _ _ _ _
   | exact laws_markCache.mono _ _ _ _
   | exact laws_toCache.mono _ _ _
   | exact spec_CacheTry.mono _ _ _ _ _ _ _ _
   | exact LeO.none _
   | refine LeO.ite ?_ ?_
   | refine LeO.bind ?_ (fun _ => ?_)
  ·intro y0 y1 y2 y3 y4 y5 y6 y7 y8 y9 y10 y11 y12
   unfold laws_FnExactCacheTry.j1
   repeat' first
   | (with_reducible exact ih0 _ _ _ _ _ _ _ _ _ _ _ _ _ _ _ _)
   | (with_reducible exact ih1 _ _ _ _ _ _ _ _ _ _ _ _ _)
   | (with_reducible exact ih2 _ _ _ _)
   | (with_reducible exact impl_CacheTry.mono _ _ _ _ _ _ _ _)
   | (with_reducible exact laws_eqCache.mono _ _ _ _ _)
   | (with_reducible exact laws_heldCache.mono _ _ _ _)
   | (with_reducible exact laws_markCache.mono _ _ _ _)
   | (with_reducible exact laws_toCache.mono _ _ _)
   | (with_reducible exact spec_CacheTry.mono _ _ _ _ _ _ _ _)
   | (with_reducible exact LeO.refl _)
   | (with_reducible exact LeO.none _)
   | (with_reducible refine LeO.ite ?_ ?_)
   | (with_reducible refine LeO.bind ?_ (fun _ => ?_))
   | exact ih0 _ _ _ _ _ _ _ _ _ _ _ _ _ _ _ _
   | exact ih1 _ _ _ _ _ _ _ _ _ _ _ _ _
   | exact ih2 _ _ _ _
   | exact impl_CacheTry.mono _ _ _ _ _ _ _ _
   | exact laws_eqCache.mono _ _ _ _ _
   | exact laws_heldCache.mono _ _ _ _
   | exact laws_markCache.mono _ _ _ _
   | exact laws_toCache.mono _ _ _
   | exact spec_CacheTry.mono _ _ _ _ _ _ _ _
   | exact LeO.none _
   | refine LeO.ite ?_ ?_
   | refine LeO.bind ?_ (fun _ => ?_)
  ·intro y0 y1 y2 y3
   unfold laws_FnExactCacheTry.j2
   repeat' first
   | (with_reducible exact ih0 _ _ _ _ _ _ _ _ _ _ _ _ _ _ _ _)
   | (with_reducible exact ih1 _ _ _ _ _ _ _ _ _ _ _ _ _)
   | (with_reducible exact ih2 _ _ _ _)
   | (with_reducible exact impl_CacheTry.mono _ _ _ _ _ _ _ _)
   | (with_reducible exact laws_eqCache.mono _ _ _ _ _)
   | (with_reducible exact laws_heldCache.mono _ _ _ _)
   | (with_reducible exact laws_markCache.mono _ _ _ _)
   | (with_reducible exact laws_toCache.mono _ _ _)
   | (with_reducible exact spec_CacheTry.mono _ _ _ _ _ _ _ _)
   | (with_reducible exact LeO.refl _)
   | (with_reducible exact LeO.none _)
   | (with_reducible refine LeO.ite ?_ ?_)
   | (with_reducible refine LeO.bind ?_ (fun _ => ?_))
   | exact ih0 _ _ _ _ _ _ _ _ _ _ _ _ _ _ _ _
   | exact ih1 _ _ _ _ _ _ _ _ _ _ _ _ _
   | exact ih2 _ _ _ _
   | exact impl_CacheTry.mono _ _ _ _ _ _ _ _
   | exact laws_eqCache.mono _ _ _ _ _
   | exact laws_heldCache.mono _ _ _ _
   | exact laws_markCache.mono _ _ _ _
   | exact laws_toCache.mono _ _ _
   | exact spec_CacheTry.mono _ _ _ _ _ _ _ _
   | exact LeO.none _
   | refine LeO.ite ?_ ?_
   | refine LeO.bind ?_ (fun _ => ?_)
theorem laws_FnExactCacheTry.mono : ∀ a0 a1 a2 a3 a4 a5 a6 k, LeO (laws_FnExactCacheTry.f k a0 a1 a2 a3 a4 a5 a6) (laws_FnExactCacheTry.f (k + 1) a0 a1 a2 a3 a4 a5 a6) := by
 intro a0 a1 a2 a3 a4 a5 a6 k
 obtain ⟨ih0, ih1, ih2⟩ := laws_FnExactCacheTry.mono_l k
 unfold laws_FnExactCacheTry.f
 repeat' first
   | (with_reducible exact ih0 _ _ _ _ _ _ _ _ _ _ _ _ _ _ _ _)
   | (with_reducible exact ih1 _ _ _ _ _ _ _ _ _ _ _ _ _)
   | (with_reducible exact ih2 _ _ _ _)
   | (with_reducible exact impl_CacheTry.mono _ _ _ _ _ _ _ _)
   | (with_reducible exact laws_eqCache.mono _ _ _ _ _)
   | (with_reducible exact laws_heldCache.mono _ _ _ _)
   | (with_reducible exact laws_markCache.mono _ _ _ _)
   | (with_reducible exact laws_toCache.mono _ _ _)
   | (with_reducible exact spec_CacheTry.mono _ _ _ _ _ _ _ _)
   | (with_reducible exact LeO.refl _)
   | (with_reducible exact LeO.none _)
   | (with_reducible refine LeO.ite ?_ ?_)
   | (with_reducible refine LeO.bind ?_ (fun _ => ?_))
   | exact ih0 _ _ _ _ _ _ _ _ _ _ _ _ _ _ _ _
   | exact ih1 _ _ _ _ _ _ _ _ _ _ _ _ _
   | exact ih2 _ _ _ _
   | exact impl_CacheTry.mono _ _ _ _ _ _ _ _
   | exact laws_eqCache.mono _ _ _ _ _
   | exact laws_heldCache.mono _ _ _ _
   | exact laws_markCache.mono _ _ _ _
   | exact laws_toCache.mono _ _ _
   | exact spec_CacheTry.mono _ _ _ _ _ _ _ _
   | exact LeO.none _
   | refine LeO.ite ?_ ?_
   | refine LeO.bind ?_ (fun _ => ?_)
def laws_FnExactCacheTry.T5 : Bool × List (List Nat × List Nat) := (true, [([], []), ([0], [0]), ([], []), ([2, 1], [2]), ([], []), ([], []), ([1, 3, 4, 5, 3], [1, 3, 4, 5]), ([6], [6]), ([7], [7]), ([7], [7]), ([], []), ([10, 8, 6, 0, 1, 2, 3, 4, 5, 6, 7, 8, 10], [8, 10]), ([9, 11, 0, 1, 2, 3, 4, 5, 6, 7, 8, 9, 10, 11], [9])])
def laws_FnExactCacheTry.B5 : List Nat := [0, 1, 0, 7, 0, 0, 63, 127, 255, 255, 0, 1535, 4095]
theorem laws_FnExactCacheTry.tab5 : rtab .any (opsOf Try.f4 5) = laws_FnExactCacheTry.T5 := by kernel_rfl
theorem laws_FnExactCacheTry.bits5 : waitsOk laws_FnExactCacheTry.T5.2 laws_FnExactCacheTry.B5 = true := by kernel_rfl
def laws_FnExactCacheTry.T7 : Bool × List (List Nat × List Nat) := (true, [([], []), ([], []), ([1], [1]), ([], []), ([], []), ([0, 2, 3, 4, 2], [0, 2, 3, 4]), ([5], [5]), ([6], [6]), ([6], [6]), ([], []), ([9, 7, 5, 0, 1, 2, 3, 4, 5, 6, 7, 9], [7, 9]), ([8, 10, 0, 1, 2, 3, 4, 5, 6, 7, 8, 9, 10], [8])])
def laws_FnExactCacheTry.B7 : List Nat := [0, 0, 2, 0, 0, 31, 63, 127, 127, 0, 767, 2047]
theorem laws_FnExactCacheTry.tab7 : rtab .any (opsOf Try.f4 7) = laws_FnExactCacheTry.T7 := by kernel_rfl
theorem laws_FnExactCacheTry.bits7 : waitsOk laws_FnExactCacheTry.T7.2 laws_FnExactCacheTry.B7 = true := by kernel_rfl
def laws_FnExactCacheTry.T24 : Bool × List (List Nat × List Nat) := (true, [([], []), ([0], [0]), ([], []), ([2, 1], [2]), ([], []), ([], []), ([1, 3, 4, 5, 3], [1, 3, 4, 5]), ([6], [6]), ([7], [7]), ([7], [7]), ([], []), ([10, 8, 6, 0, 1, 2, 3, 4, 5, 6, 7, 8, 10], [8, 10]), ([9, 11, 0, 1, 2, 3, 4, 5, 6, 7, 8, 9, 10, 11], [9])])
def laws_FnExactCacheTry.B24 : List Nat := [0, 1, 0, 7, 0, 0, 63, 127, 255, 255, 0, 1535, 4095]
theorem laws_FnExactCacheTry.tab24 : rtab .any (opsOf Try.f4 24) = laws_FnExactCacheTry.T24 := by kernel_rfl
theorem laws_FnExactCacheTry.bits24 : waitsOk laws_FnExactCacheTry.T24.2 laws_FnExactCacheTry.B24 = true := by kernel_rfl
set_option maxHeartbeats 8000000 in
set_option maxRecDepth 100000 in
theorem laws_FnExactCacheTry.calls (k : Nat) (a0_0 : Int) (A0_1 : Option Addr) (c0_1 : Nat) (l0_1 : List (S39)) (a1_0 : Int) (a1_1 : Int) (a1_2 : Int) (a2 : Int) (a3 : Int) (r : Bool) (w : World) (hr0_1 : Kd.C k39 w A0_1 l0_1.length l0_1) (hc0_1 : l0_1.length ≤ c0_1) (h : laws_FnExactCacheTry.f k a0_0 l0_1 a1_0 a1_1 a1_2 a2 a3 = some r) (hr_true : Aside0 (r = true)) :
  Calls Try.prog 4 #[.agg #[.int .i64 a0_0, .slice A0_1 l0_1.length c0_1], .agg #[.int .i64 a1_0, .int .i64 a1_1, .int .i64 a1_2], .int .i64 a2, .int .i64 a3] w fun e w' => e = .returned (.bool r) ∧ Below w.heap.size w w' := by
 have hu38 := Try.underlying38
 have hu39 := Try.underlying39
 have hu26 := Try.underlying26
 have HR0_1 := Aside0.mk hr0_1
 have HC0_1 := Aside0.mk hc0_1
 clear hr0_1 hc0_1
 have HB := Aside0.mk (Below.refl w.heap.size w)
 have H : ((laws_szCache.f a0_0 l0_1 1048576).bind fun t240 => (if t240 < 0 then (some true) else ((laws_toCache.f k a0_0 l0_1).bind fun bt241 => ((laws_toAuth.f a1_0 a1_1 a1_2).bind fun bt245 => ((spec_CacheTry.f k bt241.1 bt241.2 bt245.1 bt245.2.1 bt245.2.2 a2 a3).bind fun bt248 => ((laws_toCache.f k a0_0 l0_1).bind fun bt254 => ((laws_toAuth.f a1_0 a1_1 a1_2).bind fun bt259 => ((impl_CacheTry.f k bt254.1 bt254.2 bt259.1 bt259.2.1 bt259.2.2 a2 a3).bind fun bt262 => ((laws_eqCache.f k bt262.1 bt262.2.1 bt248.1 bt248.2.1).bind fun t268 => (if t268 = true then (laws_FnExactCacheTry.j0 k a2 a3 bt248.2.2 bt262.2.2 (bt262.2.2 != bt248.2.2) a0_0 l0_1 a1_0 a1_1 a1_2 bt248.1 bt248.2.1 bt254.1 bt254.2 bt262.1 bt262.2.1) else (laws_FnExactCacheTry.j0 k a2 a3 bt248.2.2 bt262.2.2 true a0_0 l0_1 a1_0 a1_1 a1_2 bt248.1 bt248.2.1 bt254.1 bt254.2 bt262.1 bt262.2.1))))))))))) = some r := h
 clear h
 replace H := Option.bind_eq_some_iff.mp H
 obtain ⟨t240, A50, H⟩ := H
 replace H : (if t240 < 0 then (some true) else ((laws_toCache.f k a0_0 l0_1).bind fun bt241 => ((laws_toAuth.f a1_0 a1_1 a1_2).bind fun bt245 => ((spec_CacheTry.f k bt241.1 bt241.2 bt245.1 bt245.2.1 bt245.2.2 a2 a3).bind fun bt248 => ((laws_toCache.f k a0_0 l0_1).bind fun bt254 => ((laws_toAuth.f a1_0 a1_1 a1_2).bind fun bt259 => ((impl_CacheTry.f k bt254.1 bt254.2 bt259.1 bt259.2.1 bt259.2.2 a2 a3).bind fun bt262 => ((laws_eqCache.f k bt262.1 bt262.2.1 bt248.1 bt248.2.1).bind fun t268 => (if t268 = true then (laws_FnExactCacheTry.j0 k a2 a3 bt248.2.2 bt262.2.2 (bt262.2.2 != bt248.2.2) a0_0 l0_1 a1_0 a1_1 a1_2 bt248.1 bt248.2.1 bt254.1 bt254.2 bt262.1 bt262.2.1) else (laws_FnExactCacheTry.j0 k a2 a3 bt248.2.2 bt262.2.2 true a0_0 l0_1 a1_0 a1_1 a1_2 bt248.1 bt248.2.1 bt254.1 bt254.2 bt262.1 bt262.2.1)))))))))) = some r := H
 have A5 := Aside0.mk A50
 clear A50
 by_cases c6 : t240 < 0
 ·rw [if_pos c6] at H
  have c6b0 : decide (t240 < 0) = true := decide_eq_true c6
  clear c6
  obtain rfl := Option.some.inj H
  go_enter Try.func4, Try.ntmps4
  go_wp2_with (first | ((with_reducible refine gate_dst (N := 4) rfl ?_); refine box_event ?hg (N := 4) ?hd (cs := #[.int .i64 a0_0, .slice A0_1 l0_1.length c0_1]) (t := 38) ?hr ?_; (case hd => rfl); (case hg => rfl); (case hr => first | (go_simp; done) | (go_simp; rfl)); intro gb238 hg w7 hbox hb; have n0_ := Aside0.mk (below_step bH hb); have n1_ := Aside0.mk (hbox); have n2_ := Aside0.mk ((bZ hg : w.heap.size ≤ gb238)); have n3_ := Aside0.mk ((bZ hg : w.heap.size ≤ gb238)); clear HB; have HB := n0_; have BK238 := n1_; have GW238 := n2_; have GE238 := n3_; clear n0_ n1_ n2_ n3_; clear hb hbox hg) | ((with_reducible refine gate_dst (N := 5) rfl ?_); refine box_event ?hg (N := 5) ?hd (cs := #[.int .i64 a1_0, .int .i64 a1_1, .int .i64 a1_2]) (t := 39) ?hr ?_; (case hd => rfl); (case hg => rfl); (case hr => first | (go_simp; done) | (go_simp; rfl)); intro gb239 hg w8 hbox hb; have n0_ := Aside0.mk (blk_below (kB BK238.out) hb); have n1_ := Aside0.mk (below_step bS hb); have n2_ := Aside0.mk (hbox); have n3_ := Aside0.mk ((bZ hg : w.heap.size ≤ gb239)); have n4_ := Aside0.mk ((bZ hg : w.heap.size ≤ gb239)); have n5_ := Aside0.mk ((nL hg BK238.out : gb238 ≠ gb239)); have n6_ := Aside0.mk ((nG hg BK238.out : gb239 ≠ gb238)); clear BK238; clear HB; have BK238 := n0_; have HB := n1_; have BK239 := n2_; have GW239 := n3_; have GE239 := n4_; have NB238_239 := n5_; have NB239_238 := n6_; clear n0_ n1_ n2_ n3_ n4_ n5_ n6_; clear hb hbox hg; have hnb9 := NB238_239.out; have hnc9 := NB239_238.out; have hcz10_0 : w8.cell? ⟨gb238, 0, none⟩ = some (.int .i64 a0_0) := (blk_cell BK238.out 0).trans rfl; have hcz10_1 : w8.cell? ⟨gb238, 1, none⟩ = some (.slice A0_1 l0_1.length c0_1) := (blk_cell BK238.out 1).trans rfl; have hfz10_0 := blk_frozen BK238.out 0; have hfz10_1 := blk_frozen BK238.out 1) | ((with_reducible refine gate_callee (f := 12) rfl ?_); refine goesL_ (some 22) rfl rfl Try.func12 (by kernel_rfl) rfl #[.agg #[.int .i64 a0_0, .slice A0_1 l0_1.length c0_1], .int .i64 1048576] rfl eA ?_; (with_reducible refine (laws_szCache.calls a0_0 _ _ l0_1 1048576 t240 _ ?side1 ?side2 A5.out).mono ?_); (case side1 => repeat (first | exact (Kd.C_below HR0_1.out HB.out) | (with_reducible refine Kd.C_alloc ?_ _) | (with_reducible refine Kd.C_drewN ?_ _) | (with_reducible refine Kd.C_drew ?_))); (case side2 => exact HC0_1.out); rintro e w11 ⟨rfl, hb⟩; refine ⟨_, rfl, ?_⟩; have n0_ := Aside0.mk (blk_below (kB BK238.out) hb); have n1_ := Aside0.mk (blk_below (kB BK239.out) hb); have n2_ := Aside0.mk (below_step bS hb); clear BK238; clear BK239; clear HB; have BK238 := n0_; have BK239 := n1_; have HB := n2_; clear n0_ n1_ n2_; (try clear hb); (try clear hb2); (try clear hk); (try clear hi)))
  go_ret
  exact ⟨eE, bS⟩
 ·rw [if_neg c6] at H
  have c6b0 : decide (t240 < 0) = false := decide_eq_false c6
  clear c6
  replace H := Option.bind_eq_some_iff.mp H
  obtain ⟨⟨t241, t242⟩, A120, H⟩ := H
  replace H : ((laws_toAuth.f a1_0 a1_1 a1_2).bind fun bt245 => ((spec_CacheTry.f k t241 t242 bt245.1 bt245.2.1 bt245.2.2 a2 a3).bind fun bt248 => ((laws_toCache.f k a0_0 l0_1).bind fun bt254 => ((laws_toAuth.f a1_0 a1_1 a1_2).bind fun bt259 => ((impl_CacheTry.f k bt254.1 bt254.2 bt259.1 bt259.2.1 bt259.2.2 a2 a3).bind fun bt262 => ((laws_eqCache.f k bt262.1 bt262.2.1 bt248.1 bt248.2.1).bind fun t268 => (if t268 = true then (laws_FnExactCacheTry.j0 k a2 a3 bt248.2.2 bt262.2.2 (bt262.2.2 != bt248.2.2) a0_0 l0_1 a1_0 a1_1 a1_2 bt248.1 bt248.2.1 bt254.1 bt254.2 bt262.1 bt262.2.1) else (laws_FnExactCacheTry.j0 k a2 a3 bt248.2.2 bt262.2.2 true a0_0 l0_1 a1_0 a1_1 a1_2 bt248.1 bt248.2.1 bt254.1 bt254.2 bt262.1 bt262.2.1)))))))) = some r := H
  have A12 := Aside0.mk A120
  clear A120
  replace H := Option.bind_eq_some_iff.mp H
  obtain ⟨⟨t245, t246, t247⟩, A130, H⟩ := H
  replace H : ((spec_CacheTry.f k t241 t242 t245 t246 t247 a2 a3).bind fun bt248 => ((laws_toCache.f k a0_0 l0_1).bind fun bt254 => ((laws_toAuth.f a1_0 a1_1 a1_2).bind fun bt259 => ((impl_CacheTry.f k bt254.1 bt254.2 bt259.1 bt259.2.1 bt259.2.2 a2 a3).bind fun bt262 => ((laws_eqCache.f k bt262.1 bt262.2.1 bt248.1 bt248.2.1).bind fun t268 => (if t268 = true then (laws_FnExactCacheTry.j0 k a2 a3 bt248.2.2 bt262.2.2 (bt262.2.2 != bt248.2.2) a0_0 l0_1 a1_0 a1_1 a1_2 bt248.1 bt248.2.1 bt254.1 bt254.2 bt262.1 bt262.2.1) else (laws_FnExactCacheTry.j0 k a2 a3 bt248.2.2 bt262.2.2 true a0_0 l0_1 a1_0 a1_1 a1_2 bt248.1 bt248.2.1 bt254.1 bt254.2 bt262.1 bt262.2.1))))))) = some r := H
  have A13 := Aside0.mk A130
  clear A130
  replace H := Option.bind_eq_some_iff.mp H
  obtain ⟨⟨t248, t249, t252⟩, A140, H⟩ := H
  replace H : ((laws_toCache.f k a0_0 l0_1).bind fun bt254 => ((laws_toAuth.f a1_0 a1_1 a1_2).bind fun bt259 => ((impl_CacheTry.f k bt254.1 bt254.2 bt259.1 bt259.2.1 bt259.2.2 a2 a3).bind fun bt262 => ((laws_eqCache.f k bt262.1 bt262.2.1 t248 t249).bind fun t268 => (if t268 = true then (laws_FnExactCacheTry.j0 k a2 a3 t252 bt262.2.2 (bt262.2.2 != t252) a0_0 l0_1 a1_0 a1_1 a1_2 t248 t249 bt254.1 bt254.2 bt262.1 bt262.2.1) else (laws_FnExactCacheTry.j0 k a2 a3 t252 bt262.2.2 true a0_0 l0_1 a1_0 a1_1 a1_2 t248 t249 bt254.1 bt254.2 bt262.1 bt262.2.1)))))) = some r := H
  have A14 := Aside0.mk A140
  clear A140
  replace H := Option.bind_eq_some_iff.mp H
  obtain ⟨⟨t254, t255⟩, A150, H⟩ := H
  replace H : ((laws_toAuth.f a1_0 a1_1 a1_2).bind fun bt259 => ((impl_CacheTry.f k t254 t255 bt259.1 bt259.2.1 bt259.2.2 a2 a3).bind fun bt262 => ((laws_eqCache.f k bt262.1 bt262.2.1 t248 t249).bind fun t268 => (if t268 = true then (laws_FnExactCacheTry.j0 k a2 a3 t252 bt262.2.2 (bt262.2.2 != t252) a0_0 l0_1 a1_0 a1_1 a1_2 t248 t249 t254 t255 bt262.1 bt262.2.1) else (laws_FnExactCacheTry.j0 k a2 a3 t252 bt262.2.2 true a0_0 l0_1 a1_0 a1_1 a1_2 t248 t249 t254 t255 bt262.1 bt262.2.1))))) = some r := H
  have A15 := Aside0.mk A150
  clear A150
  replace H := Option.bind_eq_some_iff.mp H
  obtain ⟨⟨t259, t260, t261⟩, A160, H⟩ := H
  replace H : ((impl_CacheTry.f k t254 t255 t259 t260 t261 a2 a3).bind fun bt262 => ((laws_eqCache.f k bt262.1 bt262.2.1 t248 t249).bind fun t268 => (if t268 = true then (laws_FnExactCacheTry.j0 k a2 a3 t252 bt262.2.2 (bt262.2.2 != t252) a0_0 l0_1 a1_0 a1_1 a1_2 t248 t249 t254 t255 bt262.1 bt262.2.1) else (laws_FnExactCacheTry.j0 k a2 a3 t252 bt262.2.2 true a0_0 l0_1 a1_0 a1_1 a1_2 t248 t249 t254 t255 bt262.1 bt262.2.1)))) = some r := H
  have A16 := Aside0.mk A160
  clear A160
  replace H := Option.bind_eq_some_iff.mp H
  obtain ⟨⟨t262, t263, t266⟩, A170, H⟩ := H
  replace H : ((laws_eqCache.f k t262 t263 t248 t249).bind fun t268 => (if t268 = true then (laws_FnExactCacheTry.j0 k a2 a3 t252 t266 (t266 != t252) a0_0 l0_1 a1_0 a1_1 a1_2 t248 t249 t254 t255 t262 t263) else (laws_FnExactCacheTry.j0 k a2 a3 t252 t266 true a0_0 l0_1 a1_0 a1_1 a1_2 t248 t249 t254 t255 t262 t263))) = some r := H
  have A17 := Aside0.mk A170
  clear A170
  have HC18 := Aside0.mk H
  clear H
  go_enter Try.func4, Try.ntmps4
  try go_wp2_with (first | ((with_reducible refine gate_dst (N := 4) rfl ?_); refine box_event ?hg (N := 4) ?hd (cs := #[.int .i64 a0_0, .slice A0_1 l0_1.length c0_1]) (t := 38) ?hr ?_; (case hd => rfl); (case hg => rfl); (case hr => first | (go_simp; done) | (go_simp; rfl)); intro gb238 hg w19 hbox hb; have n0_ := Aside0.mk (below_step bH hb); have n1_ := Aside0.mk (hbox); have n2_ := Aside0.mk ((bZ hg : w.heap.size ≤ gb238)); have n3_ := Aside0.mk ((bZ hg : w.heap.size ≤ gb238)); clear HB; have HB := n0_; have BK238 := n1_; have GW238 := n2_; have GE238 := n3_; clear n0_ n1_ n2_ n3_; clear hb hbox hg) | ((with_reducible refine gate_dst (N := 5) rfl ?_); refine box_event ?hg (N := 5) ?hd (cs := #[.int .i64 a1_0, .int .i64 a1_1, .int .i64 a1_2]) (t := 39) ?hr ?_; (case hd => rfl); (case hg => rfl); (case hr => first | (go_simp; done) | (go_simp; rfl)); intro gb239 hg w20 hbox hb; have n0_ := Aside0.mk (blk_below (kB BK238.out) hb); have n1_ := Aside0.mk (below_step bS hb); have n2_ := Aside0.mk (hbox); have n3_ := Aside0.mk ((bZ hg : w.heap.size ≤ gb239)); have n4_ := Aside0.mk ((bZ hg : w.heap.size ≤ gb239)); have n5_ := Aside0.mk ((nL hg BK238.out : gb238 ≠ gb239)); have n6_ := Aside0.mk ((nG hg BK238.out : gb239 ≠ gb238)); clear BK238; clear HB; have BK238 := n0_; have HB := n1_; have BK239 := n2_; have GW239 := n3_; have GE239 := n4_; have NB238_239 := n5_; have NB239_238 := n6_; clear n0_ n1_ n2_ n3_ n4_ n5_ n6_; clear hb hbox hg; have hnb21 := NB238_239.out; have hnc21 := NB239_238.out; have hcz22_0 : w20.cell? ⟨gb238, 0, none⟩ = some (.int .i64 a0_0) := (blk_cell BK238.out 0).trans rfl; have hcz22_1 : w20.cell? ⟨gb238, 1, none⟩ = some (.slice A0_1 l0_1.length c0_1) := (blk_cell BK238.out 1).trans rfl; have hfz22_0 := blk_frozen BK238.out 0; have hfz22_1 := blk_frozen BK238.out 1) | ((with_reducible refine gate_callee (f := 12) rfl ?_); refine goesL_ (some 22) rfl rfl Try.func12 (by kernel_rfl) rfl #[.agg #[.int .i64 a0_0, .slice A0_1 l0_1.length c0_1], .int .i64 1048576] rfl eA ?_; (with_reducible refine (laws_szCache.calls a0_0 _ _ l0_1 1048576 t240 _ ?side1 ?side2 A5.out).mono ?_); (case side1 => repeat (first | exact (Kd.C_below HR0_1.out HB.out) | (with_reducible refine Kd.C_alloc ?_ _) | (with_reducible refine Kd.C_drewN ?_ _) | (with_reducible refine Kd.C_drew ?_))); (case side2 => exact HC0_1.out); rintro e w23 ⟨rfl, hb⟩; refine ⟨_, rfl, ?_⟩; have n0_ := Aside0.mk (blk_below (kB BK238.out) hb); have n1_ := Aside0.mk (blk_below (kB BK239.out) hb); have n2_ := Aside0.mk (below_step bS hb); clear BK238; clear BK239; clear HB; have BK238 := n0_; have BK239 := n1_; have HB := n2_; clear n0_ n1_ n2_; (try clear hb); (try clear hb2); (try clear hk); (try clear hi)))
  have n0_ := Aside0.mk (blk_drew BK238.out)
  have n1_ := Aside0.mk (blk_drew BK239.out)
  have n2_ := Aside0.mk (below_drew1 HB.out)
  clear BK238 BK239 HB
  have BK238 := n0_
  have BK239 := n1_
  have HB := n2_
  clear n0_ n1_ n2_
  refine start_ (n := 13) (S := fun w' => w'.cell? ⟨gb238, 0, none⟩ = some (.int .i64 a0_0) ∧ w'.cell? ⟨gb238, 1, none⟩ = some (.slice A0_1 l0_1.length c0_1) ∧ w'.cell? ⟨gb239, 0, none⟩ = some (.int .i64 a1_0) ∧ w'.cell? ⟨gb239, 1, none⟩ = some (.int .i64 a1_1) ∧ w'.cell? ⟨gb239, 2, none⟩ = some (.int .i64 a1_2)) (ds := []) #[false, false, false, false, false, false, false, false, false, false, false, false, false] (by kernel_rfl) rfl rfl ⟨(blk_cell BK238.out 0).trans rfl, (blk_cell BK238.out 1).trans rfl, (blk_cell BK239.out 0).trans rfl, (blk_cell BK239.out 1).trans rfl, (blk_cell BK239.out 2).trans rfl⟩ (fun hHeld => ?_); refine with_tabW laws_FnExactCacheTry.tab5 laws_FnExactCacheTry.bits5 (fun HT_ HW_ => ?_)
  generalize w23.drew = w24 at BK238 BK239 HB hHeld ⊢
  refine pure_ (i := 4) (N := some 30) (v := ?_) (a' := ?_) #[false, false, false, false, true, false, false, false, false, false, false, false, false] rfl rfl (any_of HT_.out (by kernel_rfl)) (fun _ _ _ h => h) (Or.inl ⟨by rfl, ?_⟩) ?_ ?_
  rotate_left
  ·intro w'
   go_simp
   with_reducible rfl
  rotate_left
  ·simp only [Act.put, List.setIfInBounds_toArray, List.set_cons_zero, List.set_cons_succ, i64_w, i32_w]
   rfl
  refine pure_ (i := 5) (N := some 31) (v := ?_) (a' := ?_) #[false, false, false, false, true, true, false, false, false, false, false, false, false] rfl rfl (any_of HT_.out (by kernel_rfl)) (fun _ _ _ h => h) (Or.inl ⟨by rfl, ?_⟩) ?_ ?_
  rotate_left
  ·intro w'
   go_simp
   with_reducible rfl
  rotate_left
  ·simp only [Act.put, List.setIfInBounds_toArray, List.set_cons_zero, List.set_cons_succ, i64_w, i32_w]
   rfl
  refine take_ (i := 0) (N := some 26) (v := ?_) (a' := ?_) #[true, false, false, false, true, true, false, false, false, false, false, false, false] rfl rfl (take_ofW HT_.out HW_.out (by kernel_rfl)) (fun _ _ _ h => h) (Or.inl ⟨by rfl, ?_⟩) hHeld ?_ ?_
  rotate_left
  ·rintro w' ⟨s0, s1, s2, s3, s4⟩
   go_simp
   with_reducible rfl
  rotate_left
  ·simp only [Act.put, List.setIfInBounds_toArray, List.set_cons_zero, List.set_cons_succ, i64_w, i32_w]
   rfl
  refine take_ (i := 2) (N := some 28) (v := ?_) (a' := ?_) #[true, false, true, false, true, true, false, false, false, false, false, false, false] rfl rfl (take_ofW HT_.out HW_.out (by kernel_rfl)) (fun _ _ _ h => h) (Or.inl ⟨by rfl, ?_⟩) hHeld ?_ ?_
  rotate_left
  ·rintro w' ⟨s0, s1, s2, s3, s4⟩
   go_simp
   with_reducible rfl
  rotate_left
  ·simp only [Act.put, List.setIfInBounds_toArray, List.set_cons_zero, List.set_cons_succ, i64_w, i32_w]
   rfl
  refine join_ (σ := Value × Value × Nat) 2 #[true, true, true, true, true, true, true, true, true, true, true, false, false] (fun s_ => [(27, .agg #[.int .i64 t241, s_.1]), (29, .agg #[.int .i64 t245, .int .i64 t246, .int .i64 t247]), (32, .tuple #[.agg #[.int .i64 t248, s_.2.1], .int .i64 t252]), (10, .pointer (some ⟨s_.2.2, 0, none⟩)), (25, .tuple #[.agg #[.int .i64 t248, s_.2.1], .int .i64 t252]), (33, .agg #[.int .i64 t248, s_.2.1]), (34, .int .i64 t252)]) (fun s_ w' => (w'.cell? ⟨gb238, 0, none⟩ = some (.int .i64 a0_0) ∧ w'.cell? ⟨gb238, 1, none⟩ = some (.slice A0_1 l0_1.length c0_1) ∧ w'.cell? ⟨gb239, 0, none⟩ = some (.int .i64 a1_0) ∧ w'.cell? ⟨gb239, 1, none⟩ = some (.int .i64 a1_1) ∧ w'.cell? ⟨gb239, 2, none⟩ = some (.int .i64 a1_2)) ∧ (Kd.R k28 28 w' w.heap.size (fun k_ => some k_ ≠ (s_.2.1 : Value).ownBlock) s_.1 t242) ∧ (Kd.R k28 28 w' w.heap.size (fun k_ => some k_ ≠ (s_.1 : Value).ownBlock) s_.2.1 t249) ∧ (w'.heap[gb238]? = some (.cells #[.int .i64 a0_0, .slice A0_1 l0_1.length c0_1] 38 (0, 0))) ∧ (w'.heap[gb239]? = some (.cells #[.int .i64 a1_0, .int .i64 a1_1, .int .i64 a1_2] 39 (0, 0))) ∧ (w'.heap[s_.2.2]? = some (.cells #[.int .i64 0, .slice none 0 0] 26 (0, 0))) ∧ (w.heap.size ≤ s_.2.2) ∧ (w.heap.size ≤ s_.2.2) ∧ (gb238 ≠ s_.2.2) ∧ (s_.2.2 ≠ gb238) ∧ (gb239 ≠ s_.2.2) ∧ (s_.2.2 ≠ gb239) ∧ (Below w.heap.size w w')) ?_ ?_
  rotate_left
  ·intro hCont
   refine two_ (i := 1) (j := 10) (Ni := some 27) (Nj := some 10) #[true, true, true, false, true, true, false, false, false, false, false, false, false] #[true, false, true, false, true, true, false, false, false, false, true, false, false] rfl rfl rfl rfl (two_of HT_.out (by kernel_rfl)) (by decide) (by decide) (fun K hK => ?_) (fun K hK => ?_)
   ·skip
    refine goes_ Try.func13 (by kernel_rfl) rfl #[.agg #[.int .i64 a0_0, .slice A0_1 l0_1.length c0_1]] (by rfl) rfl rfl eA ?_
    with_reducible refine (laws_toCache.calls k a0_0 _ _ l0_1 t241 t242 _ ?side1 ?side2 A12.out).mono ?_
    (case side1 => repeat (first | exact (Kd.C_below HR0_1.out HB.out) | (with_reducible refine Kd.C_alloc ?_ _) | (with_reducible refine Kd.C_drewN ?_ _) | (with_reducible refine Kd.C_drew ?_)))
    (case side2 => exact HC0_1.out)
    rintro e w25 ⟨v243, rfl, ho0, hb⟩
    refine ⟨_, rfl, ?_⟩
    have n0_ := Aside0.mk (Kd.R_lower ho0 (below_size bS))
    have n1_ := Aside0.mk (blk_below (kB BK238.out) hb)
    have n2_ := Aside0.mk (blk_below (kB BK239.out) hb)
    have n3_ := Aside0.mk (below_step bS hb)
    clear BK238 BK239 HB
    have HO244 := n0_
    have BK238 := n1_
    have BK239 := n2_
    have HB := n3_
    clear n0_ n1_ n2_ n3_
    (try clear hb)
    (try clear hb2)
    (try clear hk)
    (try clear hi)
    (try clear ho0)
    refine hK.out _ _ ⟨(blk_cell BK238.out 0).trans rfl, (blk_cell BK238.out 1).trans rfl, (blk_cell BK239.out 0).trans rfl, (blk_cell BK239.out 1).trans rfl, (blk_cell BK239.out 2).trans rfl⟩ (fun hHeld => ?_)
    clear hK K
    refine norm_ (a' := ?_) ?_ ?_
    rotate_left
    ·show Act.put _ (some 27) _ = _
     simp only [Act.put, List.setIfInBounds_toArray, List.set_cons_zero, List.set_cons_succ, i64_w, i32_w]
     rfl
    refine two_ (i := 3) (j := 10) (Ni := some 29) (Nj := some 10) #[true, true, true, true, true, true, false, false, false, false, false, false, false] #[true, true, true, false, true, true, false, false, false, false, true, false, false] rfl rfl rfl rfl (two_of HT_.out (by kernel_rfl)) (by decide) (by decide) (fun K hK => ?_) (fun K hK => ?_)
    ·skip
     refine goes_ Try.func14 (by kernel_rfl) rfl #[.agg #[.int .i64 a1_0, .int .i64 a1_1, .int .i64 a1_2]] (by rfl) rfl rfl eA ?_
     with_reducible refine (laws_toAuth.calls a1_0 a1_1 a1_2 t245 t246 t247 _ A13.out).mono ?_
     rintro e w26 ⟨rfl, hb⟩
     refine ⟨_, rfl, ?_⟩
     have n0_ := Aside0.mk (Kd.R_below (kR HO244.out) hb)
     have n1_ := Aside0.mk (blk_below (kB BK238.out) hb)
     have n2_ := Aside0.mk (blk_below (kB BK239.out) hb)
     have n3_ := Aside0.mk (below_step bS hb)
     clear HO244 BK238 BK239 HB
     have HO244 := n0_
     have BK238 := n1_
     have BK239 := n2_
     have HB := n3_
     clear n0_ n1_ n2_ n3_
     (try clear hb)
     (try clear hb2)
     (try clear hk)
     (try clear hi)
     obtain ⟨Ao27, co27, eo27⟩ := Kd.R_slice HO244.out
     (first | subst eo27 | (injection eo27 with f1_ f2_ f3_; have f4_ := f1_.symm; have f5_ := f3_.symm; clear f1_ f2_ f3_; subst f4_; subst f5_))
     refine hK.out _ _ ⟨(blk_cell BK238.out 0).trans rfl, (blk_cell BK238.out 1).trans rfl, (blk_cell BK239.out 0).trans rfl, (blk_cell BK239.out 1).trans rfl, (blk_cell BK239.out 2).trans rfl⟩ (fun hHeld => ?_)
     clear hK K
     refine norm_ (a' := ?_) ?_ ?_
     rotate_left
     ·show Act.put _ (some 29) _ = _
      simp only [Act.put, List.setIfInBounds_toArray, List.set_cons_zero, List.set_cons_succ, i64_w, i32_w]
      rfl
     refine two_ (i := 6) (j := 10) (Ni := some 32) (Nj := some 10) #[true, true, true, true, true, true, true, false, false, false, false, false, false] #[true, true, true, true, true, true, false, false, false, false, true, false, false] rfl rfl rfl rfl (two_of HT_.out (by kernel_rfl)) (by decide) (by decide) (fun K hK => ?_) (fun K hK => ?_)
     ·skip
      refine goes_ Try.func8 (by kernel_rfl) rfl #[.agg #[.int .i64 t241, .slice Ao27 t242.length co27], .agg #[.int .i64 t245, .int .i64 t246, .int .i64 t247], .int .i64 a2, .int .i64 a3] (by rfl) rfl rfl eA ?_
      with_reducible refine (spec_CacheTry.calls k t241 _ _ t242 t245 t246 t247 a2 a3 t248 t249 t252 _ ?side1 ?side2 A14.out).mono ?_
      (case side1 => repeat (first | exact (Kd.R_reads' HO244.out).2.2 | (with_reducible refine Kd.C_alloc ?_ _) | (with_reducible refine Kd.C_drewN ?_ _) | (with_reducible refine Kd.C_drew ?_)))
      (case side2 => exact (Kd.R_reads' HO244.out).2.1)
      rintro e w28 ⟨v250, rfl, ho0, hb⟩
      refine ⟨_, rfl, ?_⟩
      have n0_ := Aside0.mk (Kd.R_elder' (kR HO244.out) (Kd.R_base ho0) hb)
      have n1_ := Aside0.mk (Kd.R_lower (Kd.R_new' ho0 (Kd.R_lt (kR HO244.out))) (below_size bS))
      have n2_ := Aside0.mk (blk_below (kB BK238.out) hb)
      have n3_ := Aside0.mk (blk_below (kB BK239.out) hb)
      have n4_ := Aside0.mk (below_step bS hb)
      clear HO244 BK238 BK239 HB
      have HO244 := n0_
      have HO251 := n1_
      have BK238 := n2_
      have BK239 := n3_
      have HB := n4_
      clear n0_ n1_ n2_ n3_ n4_
      (try clear hb)
      (try clear hb2)
      (try clear hk)
      (try clear hi)
      (try clear ho0)
      refine hK.out _ _ ⟨(blk_cell BK238.out 0).trans rfl, (blk_cell BK238.out 1).trans rfl, (blk_cell BK239.out 0).trans rfl, (blk_cell BK239.out 1).trans rfl, (blk_cell BK239.out 2).trans rfl⟩ (fun hHeld => ?_)
      clear hK K
      refine norm_ (a' := ?_) ?_ ?_
      rotate_left
      ·show Act.put _ (some 32) _ = _
       simp only [Act.put, List.setIfInBounds_toArray, List.set_cons_zero, List.set_cons_succ, i64_w, i32_w]
       rfl
      refine pure_ (i := 7) (N := some 25) (v := ?_) (a' := ?_) #[true, true, true, true, true, true, true, true, false, false, false, false, false] rfl rfl (any_of HT_.out (by kernel_rfl)) (fun _ _ _ h => h) (Or.inl ⟨by rfl, ?_⟩) ?_ ?_
      rotate_left
      ·intro w'
       go_simp
       with_reducible rfl
      rotate_left
      ·simp only [Act.put, List.setIfInBounds_toArray, List.set_cons_zero, List.set_cons_succ, i64_w, i32_w]
       rfl
      refine pure_ (i := 8) (N := some 33) (v := ?_) (a' := ?_) #[true, true, true, true, true, true, true, true, true, false, false, false, false] rfl rfl (any_of HT_.out (by kernel_rfl)) (fun _ _ _ h => h) (Or.inl ⟨by rfl, ?_⟩) ?_ ?_
      rotate_left
      ·intro w'
       go_simp
       with_reducible rfl
      rotate_left
      ·simp only [Act.put, List.setIfInBounds_toArray, List.set_cons_zero, List.set_cons_succ, i64_w, i32_w]
       rfl
      refine pure_ (i := 9) (N := some 34) (v := ?_) (a' := ?_) #[true, true, true, true, true, true, true, true, true, true, false, false, false] rfl rfl (any_of HT_.out (by kernel_rfl)) (fun _ _ _ h => h) (Or.inl ⟨by rfl, ?_⟩) ?_ ?_
      rotate_left
      ·intro w'
       go_simp
       with_reducible rfl
      rotate_left
      ·simp only [Act.put, List.setIfInBounds_toArray, List.set_cons_zero, List.set_cons_succ, i64_w, i32_w]
       rfl
      refine one_ (i := 10) (N := some 10) #[true, true, true, true, true, true, true, true, true, true, true, false, false] rfl rfl (one_of HT_.out (by kernel_rfl)) (by decide) (fun K hK => ?_)
      refine box_step ?hg (N := 10) ?hd (cs := #[.int .i64 0, .slice none 0 0]) (t := 26) ?hr ?_; (case hd => rfl); (case hg => rfl); (case hr => first | (go_simp; done) | (go_simp; rfl))
      intro gb253 hg w29 hbox hb
      have n0_ := Aside0.mk (Kd.R_below (kR HO244.out) hb)
      have n1_ := Aside0.mk (Kd.R_below (kR HO251.out) hb)
      have n2_ := Aside0.mk (blk_below (kB BK238.out) hb)
      have n3_ := Aside0.mk (blk_below (kB BK239.out) hb)
      have n4_ := Aside0.mk (below_step bS hb)
      have n5_ := Aside0.mk (hbox)
      have n6_ := Aside0.mk ((bZ hg : w.heap.size ≤ gb253))
      have n7_ := Aside0.mk ((bZ hg : w.heap.size ≤ gb253))
      have n8_ := Aside0.mk ((nL hg BK238.out : gb238 ≠ gb253))
      have n9_ := Aside0.mk ((nG hg BK238.out : gb253 ≠ gb238))
      have n10_ := Aside0.mk ((nL hg BK239.out : gb239 ≠ gb253))
      have n11_ := Aside0.mk ((nG hg BK239.out : gb253 ≠ gb239))
      clear HO244 HO251 BK238 BK239 HB
      have HO244 := n0_
      have HO251 := n1_
      have BK238 := n2_
      have BK239 := n3_
      have HB := n4_
      have BK253 := n5_
      have GW253 := n6_
      have GE253 := n7_
      have NB238_253 := n8_
      have NB253_238 := n9_
      have NB239_253 := n10_
      have NB253_239 := n11_
      clear n0_ n1_ n2_ n3_ n4_ n5_ n6_ n7_ n8_ n9_ n10_ n11_ hb hbox hg
      refine hK.out _ _ ⟨(blk_cell BK238.out 0).trans rfl, (blk_cell BK238.out 1).trans rfl, (blk_cell BK239.out 0).trans rfl, (blk_cell BK239.out 1).trans rfl, (blk_cell BK239.out 2).trans rfl⟩ (fun hHeld => ?_)
      clear hK K
      refine norm_ (a' := ?_) ?_ ?_
      rotate_left
      ·show Act.put _ (some 10) _ = _
       simp only [Act.put, List.setIfInBounds_toArray, List.set_cons_zero, List.set_cons_succ, i64_w, i32_w]
       rfl
      exact norm_ (by simp only [putAll, Act.put, List.setIfInBounds_toArray, List.set_cons_zero, List.set_cons_succ]) (hCont (.slice Ao27 t242.length co27, v250, gb253) _ ⟨hHeld, (by (with_reducible repeat (first | apply Kd.R_alloc | apply Kd.R_drewN | apply Kd.R_drew)); exact Kd.R_mono HO244.out (fun _ hk => hk.2)), (by (with_reducible repeat (first | apply Kd.R_alloc | apply Kd.R_drewN | apply Kd.R_drew)); exact Kd.R_mono HO251.out (fun _ hk => hk.2)), (kB BK238.out), (kB BK239.out), (kB BK253.out), GW253.out, GE253.out, NB238_253.out, NB253_238.out, NB239_253.out, NB253_239.out, bS⟩)
     ·skip
      refine box_step ?hg (N := 10) ?hd (cs := #[.int .i64 0, .slice none 0 0]) (t := 26) ?hr ?_; (case hd => rfl); (case hg => rfl); (case hr => first | (go_simp; done) | (go_simp; rfl))
      intro gb253 hg w27 hbox hb
      have n0_ := Aside0.mk (Kd.R_below (kR HO244.out) hb)
      have n1_ := Aside0.mk (blk_below (kB BK238.out) hb)
      have n2_ := Aside0.mk (blk_below (kB BK239.out) hb)
      have n3_ := Aside0.mk (below_step bS hb)
      have n4_ := Aside0.mk (hbox)
      have n5_ := Aside0.mk ((bZ hg : w.heap.size ≤ gb253))
      have n6_ := Aside0.mk ((bZ hg : w.heap.size ≤ gb253))
      have n7_ := Aside0.mk ((nL hg BK238.out : gb238 ≠ gb253))
      have n8_ := Aside0.mk ((nG hg BK238.out : gb253 ≠ gb238))
      have n9_ := Aside0.mk ((nL hg BK239.out : gb239 ≠ gb253))
      have n10_ := Aside0.mk ((nG hg BK239.out : gb253 ≠ gb239))
      clear HO244 BK238 BK239 HB
      have HO244 := n0_
      have BK238 := n1_
      have BK239 := n2_
      have HB := n3_
      have BK253 := n4_
      have GW253 := n5_
      have GE253 := n6_
      have NB238_253 := n7_
      have NB253_238 := n8_
      have NB239_253 := n9_
      have NB253_239 := n10_
      clear n0_ n1_ n2_ n3_ n4_ n5_ n6_ n7_ n8_ n9_ n10_ hb hbox hg
      obtain ⟨Ao28, co28, eo28⟩ := Kd.R_slice HO244.out
      (first | subst eo28 | (injection eo28 with f1_ f2_ f3_; have f4_ := f1_.symm; have f5_ := f3_.symm; clear f1_ f2_ f3_; subst f4_; subst f5_))
      refine hK.out _ _ ⟨(blk_cell BK238.out 0).trans rfl, (blk_cell BK238.out 1).trans rfl, (blk_cell BK239.out 0).trans rfl, (blk_cell BK239.out 1).trans rfl, (blk_cell BK239.out 2).trans rfl⟩ (fun hHeld => ?_)
      clear hK K
      refine norm_ (a' := ?_) ?_ ?_
      rotate_left
      ·show Act.put _ (some 10) _ = _
       simp only [Act.put, List.setIfInBounds_toArray, List.set_cons_zero, List.set_cons_succ, i64_w, i32_w]
       rfl
      refine one_ (i := 6) (N := some 32) #[true, true, true, true, true, true, true, false, false, false, true, false, false] rfl rfl (one_of HT_.out (by kernel_rfl)) (by decide) (fun K hK => ?_)
      refine goes_ Try.func8 (by kernel_rfl) rfl #[.agg #[.int .i64 t241, .slice Ao28 t242.length co28], .agg #[.int .i64 t245, .int .i64 t246, .int .i64 t247], .int .i64 a2, .int .i64 a3] (by rfl) rfl rfl eA ?_
      with_reducible refine (spec_CacheTry.calls k t241 _ _ t242 t245 t246 t247 a2 a3 t248 t249 t252 _ ?side1 ?side2 A14.out).mono ?_
      (case side1 => repeat (first | exact (Kd.R_reads' HO244.out).2.2 | (with_reducible refine Kd.C_alloc ?_ _) | (with_reducible refine Kd.C_drewN ?_ _) | (with_reducible refine Kd.C_drew ?_)))
      (case side2 => exact (Kd.R_reads' HO244.out).2.1)
      rintro e w29 ⟨v250, rfl, ho0, hb⟩
      refine ⟨_, rfl, ?_⟩
      have n0_ := Aside0.mk (Kd.R_elder' (kR HO244.out) (Kd.R_base ho0) hb)
      have n1_ := Aside0.mk (Kd.R_lower (Kd.R_new' ho0 (Kd.R_lt (kR HO244.out))) (below_size bS))
      have n2_ := Aside0.mk (blk_below (kB BK238.out) hb)
      have n3_ := Aside0.mk (blk_below (kB BK239.out) hb)
      have n4_ := Aside0.mk (blk_below (kB BK253.out) hb)
      have n5_ := Aside0.mk (below_step bS hb)
      clear HO244 BK238 BK239 BK253 HB
      have HO244 := n0_
      have HO251 := n1_
      have BK238 := n2_
      have BK239 := n3_
      have BK253 := n4_
      have HB := n5_
      clear n0_ n1_ n2_ n3_ n4_ n5_
      (try clear hb)
      (try clear hb2)
      (try clear hk)
      (try clear hi)
      (try clear ho0)
      refine hK.out _ _ ⟨(blk_cell BK238.out 0).trans rfl, (blk_cell BK238.out 1).trans rfl, (blk_cell BK239.out 0).trans rfl, (blk_cell BK239.out 1).trans rfl, (blk_cell BK239.out 2).trans rfl⟩ (fun hHeld => ?_)
      clear hK K
      refine norm_ (a' := ?_) ?_ ?_
      rotate_left
      ·show Act.put _ (some 32) _ = _
       simp only [Act.put, List.setIfInBounds_toArray, List.set_cons_zero, List.set_cons_succ, i64_w, i32_w]
       rfl
      refine pure_ (i := 7) (N := some 25) (v := ?_) (a' := ?_) #[true, true, true, true, true, true, true, true, false, false, true, false, false] rfl rfl (any_of HT_.out (by kernel_rfl)) (fun _ _ _ h => h) (Or.inl ⟨by rfl, ?_⟩) ?_ ?_
      rotate_left
      ·intro w'
       go_simp
       with_reducible rfl
      rotate_left
      ·simp only [Act.put, List.setIfInBounds_toArray, List.set_cons_zero, List.set_cons_succ, i64_w, i32_w]
       rfl
      refine pure_ (i := 8) (N := some 33) (v := ?_) (a' := ?_) #[true, true, true, true, true, true, true, true, true, false, true, false, false] rfl rfl (any_of HT_.out (by kernel_rfl)) (fun _ _ _ h => h) (Or.inl ⟨by rfl, ?_⟩) ?_ ?_
      rotate_left
      ·intro w'
       go_simp
       with_reducible rfl
      rotate_left
      ·simp only [Act.put, List.setIfInBounds_toArray, List.set_cons_zero, List.set_cons_succ, i64_w, i32_w]
       rfl
      refine pure_ (i := 9) (N := some 34) (v := ?_) (a' := ?_) #[true, true, true, true, true, true, true, true, true, true, true, false, false] rfl rfl (any_of HT_.out (by kernel_rfl)) (fun _ _ _ h => h) (Or.inl ⟨by rfl, ?_⟩) ?_ ?_
      rotate_left
      ·intro w'
       go_simp
       with_reducible rfl
      rotate_left
      ·simp only [Act.put, List.setIfInBounds_toArray, List.set_cons_zero, List.set_cons_succ, i64_w, i32_w]
       rfl
      exact norm_ (by simp only [putAll, Act.put, List.setIfInBounds_toArray, List.set_cons_zero, List.set_cons_succ]) (hCont (.slice Ao28 t242.length co28, v250, gb253) _ ⟨hHeld, (by (with_reducible repeat (first | apply Kd.R_alloc | apply Kd.R_drewN | apply Kd.R_drew)); exact Kd.R_mono HO244.out (fun _ hk => hk.2)), (by (with_reducible repeat (first | apply Kd.R_alloc | apply Kd.R_drewN | apply Kd.R_drew)); exact Kd.R_mono HO251.out (fun _ hk => hk.2)), (kB BK238.out), (kB BK239.out), (kB BK253.out), GW253.out, GE253.out, NB238_253.out, NB253_238.out, NB239_253.out, NB253_239.out, bS⟩)
    ·skip
     refine box_step ?hg (N := 10) ?hd (cs := #[.int .i64 0, .slice none 0 0]) (t := 26) ?hr ?_; (case hd => rfl); (case hg => rfl); (case hr => first | (go_simp; done) | (go_simp; rfl))
     intro gb253 hg w26 hbox hb
     have n0_ := Aside0.mk (Kd.R_below (kR HO244.out) hb)
     have n1_ := Aside0.mk (blk_below (kB BK238.out) hb)
     have n2_ := Aside0.mk (blk_below (kB BK239.out) hb)
     have n3_ := Aside0.mk (below_step bS hb)
     have n4_ := Aside0.mk (hbox)
     have n5_ := Aside0.mk ((bZ hg : w.heap.size ≤ gb253))
     have n6_ := Aside0.mk ((bZ hg : w.heap.size ≤ gb253))
     have n7_ := Aside0.mk ((nL hg BK238.out : gb238 ≠ gb253))
     have n8_ := Aside0.mk ((nG hg BK238.out : gb253 ≠ gb238))
     have n9_ := Aside0.mk ((nL hg BK239.out : gb239 ≠ gb253))
     have n10_ := Aside0.mk ((nG hg BK239.out : gb253 ≠ gb239))
     clear HO244 BK238 BK239 HB
     have HO244 := n0_
     have BK238 := n1_
     have BK239 := n2_
     have HB := n3_
     have BK253 := n4_
     have GW253 := n5_
     have GE253 := n6_
     have NB238_253 := n7_
     have NB253_238 := n8_
     have NB239_253 := n9_
     have NB253_239 := n10_
     clear n0_ n1_ n2_ n3_ n4_ n5_ n6_ n7_ n8_ n9_ n10_ hb hbox hg
     refine hK.out _ _ ⟨(blk_cell BK238.out 0).trans rfl, (blk_cell BK238.out 1).trans rfl, (blk_cell BK239.out 0).trans rfl, (blk_cell BK239.out 1).trans rfl, (blk_cell BK239.out 2).trans rfl⟩ (fun hHeld => ?_)
     clear hK K
     refine norm_ (a' := ?_) ?_ ?_
     rotate_left
     ·show Act.put _ (some 10) _ = _
      simp only [Act.put, List.setIfInBounds_toArray, List.set_cons_zero, List.set_cons_succ, i64_w, i32_w]
      rfl
     refine one_ (i := 3) (N := some 29) #[true, true, true, true, true, true, false, false, false, false, true, false, false] rfl rfl (one_of HT_.out (by kernel_rfl)) (by decide) (fun K hK => ?_)
     refine goes_ Try.func14 (by kernel_rfl) rfl #[.agg #[.int .i64 a1_0, .int .i64 a1_1, .int .i64 a1_2]] (by rfl) rfl rfl eA ?_
     with_reducible refine (laws_toAuth.calls a1_0 a1_1 a1_2 t245 t246 t247 _ A13.out).mono ?_
     rintro e w27 ⟨rfl, hb⟩
     refine ⟨_, rfl, ?_⟩
     have n0_ := Aside0.mk (Kd.R_below (kR HO244.out) hb)
     have n1_ := Aside0.mk (blk_below (kB BK238.out) hb)
     have n2_ := Aside0.mk (blk_below (kB BK239.out) hb)
     have n3_ := Aside0.mk (blk_below (kB BK253.out) hb)
     have n4_ := Aside0.mk (below_step bS hb)
     clear HO244 BK238 BK239 BK253 HB
     have HO244 := n0_
     have BK238 := n1_
     have BK239 := n2_
     have BK253 := n3_
     have HB := n4_
     clear n0_ n1_ n2_ n3_ n4_
     (try clear hb)
     (try clear hb2)
     (try clear hk)
     (try clear hi)
     obtain ⟨Ao28, co28, eo28⟩ := Kd.R_slice HO244.out
     (first | subst eo28 | (injection eo28 with f1_ f2_ f3_; have f4_ := f1_.symm; have f5_ := f3_.symm; clear f1_ f2_ f3_; subst f4_; subst f5_))
     refine hK.out _ _ ⟨(blk_cell BK238.out 0).trans rfl, (blk_cell BK238.out 1).trans rfl, (blk_cell BK239.out 0).trans rfl, (blk_cell BK239.out 1).trans rfl, (blk_cell BK239.out 2).trans rfl⟩ (fun hHeld => ?_)
     clear hK K
     refine norm_ (a' := ?_) ?_ ?_
     rotate_left
     ·show Act.put _ (some 29) _ = _
      simp only [Act.put, List.setIfInBounds_toArray, List.set_cons_zero, List.set_cons_succ, i64_w, i32_w]
      rfl
     refine one_ (i := 6) (N := some 32) #[true, true, true, true, true, true, true, false, false, false, true, false, false] rfl rfl (one_of HT_.out (by kernel_rfl)) (by decide) (fun K hK => ?_)
     refine goes_ Try.func8 (by kernel_rfl) rfl #[.agg #[.int .i64 t241, .slice Ao28 t242.length co28], .agg #[.int .i64 t245, .int .i64 t246, .int .i64 t247], .int .i64 a2, .int .i64 a3] (by rfl) rfl rfl eA ?_
     with_reducible refine (spec_CacheTry.calls k t241 _ _ t242 t245 t246 t247 a2 a3 t248 t249 t252 _ ?side1 ?side2 A14.out).mono ?_
     (case side1 => repeat (first | exact (Kd.R_reads' HO244.out).2.2 | (with_reducible refine Kd.C_alloc ?_ _) | (with_reducible refine Kd.C_drewN ?_ _) | (with_reducible refine Kd.C_drew ?_)))
     (case side2 => exact (Kd.R_reads' HO244.out).2.1)
     rintro e w29 ⟨v250, rfl, ho0, hb⟩
     refine ⟨_, rfl, ?_⟩
     have n0_ := Aside0.mk (Kd.R_elder' (kR HO244.out) (Kd.R_base ho0) hb)
     have n1_ := Aside0.mk (Kd.R_lower (Kd.R_new' ho0 (Kd.R_lt (kR HO244.out))) (below_size bS))
     have n2_ := Aside0.mk (blk_below (kB BK238.out) hb)
     have n3_ := Aside0.mk (blk_below (kB BK239.out) hb)
     have n4_ := Aside0.mk (blk_below (kB BK253.out) hb)
     have n5_ := Aside0.mk (below_step bS hb)
     clear HO244 BK238 BK239 BK253 HB
     have HO244 := n0_
     have HO251 := n1_
     have BK238 := n2_
     have BK239 := n3_
     have BK253 := n4_
     have HB := n5_
     clear n0_ n1_ n2_ n3_ n4_ n5_
     (try clear hb)
     (try clear hb2)
     (try clear hk)
     (try clear hi)
     (try clear ho0)
     refine hK.out _ _ ⟨(blk_cell BK238.out 0).trans rfl, (blk_cell BK238.out 1).trans rfl, (blk_cell BK239.out 0).trans rfl, (blk_cell BK239.out 1).trans rfl, (blk_cell BK239.out 2).trans rfl⟩ (fun hHeld => ?_)
     clear hK K
     refine norm_ (a' := ?_) ?_ ?_
     rotate_left
     ·show Act.put _ (some 32) _ = _
      simp only [Act.put, List.setIfInBounds_toArray, List.set_cons_zero, List.set_cons_succ, i64_w, i32_w]
      rfl
     refine pure_ (i := 7) (N := some 25) (v := ?_) (a' := ?_) #[true, true, true, true, true, true, true, true, false, false, true, false, false] rfl rfl (any_of HT_.out (by kernel_rfl)) (fun _ _ _ h => h) (Or.inl ⟨by rfl, ?_⟩) ?_ ?_
     rotate_left
     ·intro w'
      go_simp
      with_reducible rfl
     rotate_left
     ·simp only [Act.put, List.setIfInBounds_toArray, List.set_cons_zero, List.set_cons_succ, i64_w, i32_w]
      rfl
     refine pure_ (i := 8) (N := some 33) (v := ?_) (a' := ?_) #[true, true, true, true, true, true, true, true, true, false, true, false, false] rfl rfl (any_of HT_.out (by kernel_rfl)) (fun _ _ _ h => h) (Or.inl ⟨by rfl, ?_⟩) ?_ ?_
     rotate_left
     ·intro w'
      go_simp
      with_reducible rfl
     rotate_left
     ·simp only [Act.put, List.setIfInBounds_toArray, List.set_cons_zero, List.set_cons_succ, i64_w, i32_w]
      rfl
     refine pure_ (i := 9) (N := some 34) (v := ?_) (a' := ?_) #[true, true, true, true, true, true, true, true, true, true, true, false, false] rfl rfl (any_of HT_.out (by kernel_rfl)) (fun _ _ _ h => h) (Or.inl ⟨by rfl, ?_⟩) ?_ ?_
     rotate_left
     ·intro w'
      go_simp
      with_reducible rfl
     rotate_left
     ·simp only [Act.put, List.setIfInBounds_toArray, List.set_cons_zero, List.set_cons_succ, i64_w, i32_w]
      rfl
     exact norm_ (by simp only [putAll, Act.put, List.setIfInBounds_toArray, List.set_cons_zero, List.set_cons_succ]) (hCont (.slice Ao28 t242.length co28, v250, gb253) _ ⟨hHeld, (by (with_reducible repeat (first | apply Kd.R_alloc | apply Kd.R_drewN | apply Kd.R_drew)); exact Kd.R_mono HO244.out (fun _ hk => hk.2)), (by (with_reducible repeat (first | apply Kd.R_alloc | apply Kd.R_drewN | apply Kd.R_drew)); exact Kd.R_mono HO251.out (fun _ hk => hk.2)), (kB BK238.out), (kB BK239.out), (kB BK253.out), GW253.out, GE253.out, NB238_253.out, NB253_238.out, NB239_253.out, NB253_239.out, bS⟩)
   ·skip
    refine box_step ?hg (N := 10) ?hd (cs := #[.int .i64 0, .slice none 0 0]) (t := 26) ?hr ?_; (case hd => rfl); (case hg => rfl); (case hr => first | (go_simp; done) | (go_simp; rfl))
    intro gb253 hg w25 hbox hb
    have n0_ := Aside0.mk (blk_below (kB BK238.out) hb)
    have n1_ := Aside0.mk (blk_below (kB BK239.out) hb)
    have n2_ := Aside0.mk (below_step bS hb)
    have n3_ := Aside0.mk (hbox)
    have n4_ := Aside0.mk ((bZ hg : w.heap.size ≤ gb253))
    have n5_ := Aside0.mk ((bZ hg : w.heap.size ≤ gb253))
    have n6_ := Aside0.mk ((nL hg BK238.out : gb238 ≠ gb253))
    have n7_ := Aside0.mk ((nG hg BK238.out : gb253 ≠ gb238))
    have n8_ := Aside0.mk ((nL hg BK239.out : gb239 ≠ gb253))
    have n9_ := Aside0.mk ((nG hg BK239.out : gb253 ≠ gb239))
    clear BK238 BK239 HB
    have BK238 := n0_
    have BK239 := n1_
    have HB := n2_
    have BK253 := n3_
    have GW253 := n4_
    have GE253 := n5_
    have NB238_253 := n6_
    have NB253_238 := n7_
    have NB239_253 := n8_
    have NB253_239 := n9_
    clear n0_ n1_ n2_ n3_ n4_ n5_ n6_ n7_ n8_ n9_ hb hbox hg
    refine hK.out _ _ ⟨(blk_cell BK238.out 0).trans rfl, (blk_cell BK238.out 1).trans rfl, (blk_cell BK239.out 0).trans rfl, (blk_cell BK239.out 1).trans rfl, (blk_cell BK239.out 2).trans rfl⟩ (fun hHeld => ?_)
    clear hK K
    refine norm_ (a' := ?_) ?_ ?_
    rotate_left
    ·show Act.put _ (some 10) _ = _
     simp only [Act.put, List.setIfInBounds_toArray, List.set_cons_zero, List.set_cons_succ, i64_w, i32_w]
     rfl
    refine one_ (i := 1) (N := some 27) #[true, true, true, false, true, true, false, false, false, false, true, false, false] rfl rfl (one_of HT_.out (by kernel_rfl)) (by decide) (fun K hK => ?_)
    refine goes_ Try.func13 (by kernel_rfl) rfl #[.agg #[.int .i64 a0_0, .slice A0_1 l0_1.length c0_1]] (by rfl) rfl rfl eA ?_
    with_reducible refine (laws_toCache.calls k a0_0 _ _ l0_1 t241 t242 _ ?side1 ?side2 A12.out).mono ?_
    (case side1 => repeat (first | exact (Kd.C_below HR0_1.out HB.out) | (with_reducible refine Kd.C_alloc ?_ _) | (with_reducible refine Kd.C_drewN ?_ _) | (with_reducible refine Kd.C_drew ?_)))
    (case side2 => exact HC0_1.out)
    rintro e w26 ⟨v243, rfl, ho0, hb⟩
    refine ⟨_, rfl, ?_⟩
    have n0_ := Aside0.mk (Kd.R_lower ho0 (below_size bS))
    have n1_ := Aside0.mk (blk_below (kB BK238.out) hb)
    have n2_ := Aside0.mk (blk_below (kB BK239.out) hb)
    have n3_ := Aside0.mk (blk_below (kB BK253.out) hb)
    have n4_ := Aside0.mk (below_step bS hb)
    clear BK238 BK239 BK253 HB
    have HO244 := n0_
    have BK238 := n1_
    have BK239 := n2_
    have BK253 := n3_
    have HB := n4_
    clear n0_ n1_ n2_ n3_ n4_
    (try clear hb)
    (try clear hb2)
    (try clear hk)
    (try clear hi)
    (try clear ho0)
    refine hK.out _ _ ⟨(blk_cell BK238.out 0).trans rfl, (blk_cell BK238.out 1).trans rfl, (blk_cell BK239.out 0).trans rfl, (blk_cell BK239.out 1).trans rfl, (blk_cell BK239.out 2).trans rfl⟩ (fun hHeld => ?_)
    clear hK K
    refine norm_ (a' := ?_) ?_ ?_
    rotate_left
    ·show Act.put _ (some 27) _ = _
     simp only [Act.put, List.setIfInBounds_toArray, List.set_cons_zero, List.set_cons_succ, i64_w, i32_w]
     rfl
    refine one_ (i := 3) (N := some 29) #[true, true, true, true, true, true, false, false, false, false, true, false, false] rfl rfl (one_of HT_.out (by kernel_rfl)) (by decide) (fun K hK => ?_)
    refine goes_ Try.func14 (by kernel_rfl) rfl #[.agg #[.int .i64 a1_0, .int .i64 a1_1, .int .i64 a1_2]] (by rfl) rfl rfl eA ?_
    with_reducible refine (laws_toAuth.calls a1_0 a1_1 a1_2 t245 t246 t247 _ A13.out).mono ?_
    rintro e w27 ⟨rfl, hb⟩
    refine ⟨_, rfl, ?_⟩
    have n0_ := Aside0.mk (Kd.R_below (kR HO244.out) hb)
    have n1_ := Aside0.mk (blk_below (kB BK238.out) hb)
    have n2_ := Aside0.mk (blk_below (kB BK239.out) hb)
    have n3_ := Aside0.mk (blk_below (kB BK253.out) hb)
    have n4_ := Aside0.mk (below_step bS hb)
    clear HO244 BK238 BK239 BK253 HB
    have HO244 := n0_
    have BK238 := n1_
    have BK239 := n2_
    have BK253 := n3_
    have HB := n4_
    clear n0_ n1_ n2_ n3_ n4_
    (try clear hb)
    (try clear hb2)
    (try clear hk)
    (try clear hi)
    obtain ⟨Ao28, co28, eo28⟩ := Kd.R_slice HO244.out
    (first | subst eo28 | (injection eo28 with f1_ f2_ f3_; have f4_ := f1_.symm; have f5_ := f3_.symm; clear f1_ f2_ f3_; subst f4_; subst f5_))
    refine hK.out _ _ ⟨(blk_cell BK238.out 0).trans rfl, (blk_cell BK238.out 1).trans rfl, (blk_cell BK239.out 0).trans rfl, (blk_cell BK239.out 1).trans rfl, (blk_cell BK239.out 2).trans rfl⟩ (fun hHeld => ?_)
    clear hK K
    refine norm_ (a' := ?_) ?_ ?_
    rotate_left
    ·show Act.put _ (some 29) _ = _
     simp only [Act.put, List.setIfInBounds_toArray, List.set_cons_zero, List.set_cons_succ, i64_w, i32_w]
     rfl
    refine one_ (i := 6) (N := some 32) #[true, true, true, true, true, true, true, false, false, false, true, false, false] rfl rfl (one_of HT_.out (by kernel_rfl)) (by decide) (fun K hK => ?_)
    refine goes_ Try.func8 (by kernel_rfl) rfl #[.agg #[.int .i64 t241, .slice Ao28 t242.length co28], .agg #[.int .i64 t245, .int .i64 t246, .int .i64 t247], .int .i64 a2, .int .i64 a3] (by rfl) rfl rfl eA ?_
    with_reducible refine (spec_CacheTry.calls k t241 _ _ t242 t245 t246 t247 a2 a3 t248 t249 t252 _ ?side1 ?side2 A14.out).mono ?_
    (case side1 => repeat (first | exact (Kd.R_reads' HO244.out).2.2 | (with_reducible refine Kd.C_alloc ?_ _) | (with_reducible refine Kd.C_drewN ?_ _) | (with_reducible refine Kd.C_drew ?_)))
    (case side2 => exact (Kd.R_reads' HO244.out).2.1)
    rintro e w29 ⟨v250, rfl, ho0, hb⟩
    refine ⟨_, rfl, ?_⟩
    have n0_ := Aside0.mk (Kd.R_elder' (kR HO244.out) (Kd.R_base ho0) hb)
    have n1_ := Aside0.mk (Kd.R_lower (Kd.R_new' ho0 (Kd.R_lt (kR HO244.out))) (below_size bS))
    have n2_ := Aside0.mk (blk_below (kB BK238.out) hb)
    have n3_ := Aside0.mk (blk_below (kB BK239.out) hb)
    have n4_ := Aside0.mk (blk_below (kB BK253.out) hb)
    have n5_ := Aside0.mk (below_step bS hb)
    clear HO244 BK238 BK239 BK253 HB
    have HO244 := n0_
    have HO251 := n1_
    have BK238 := n2_
    have BK239 := n3_
    have BK253 := n4_
    have HB := n5_
    clear n0_ n1_ n2_ n3_ n4_ n5_
    (try clear hb)
    (try clear hb2)
    (try clear hk)
    (try clear hi)
    (try clear ho0)
    refine hK.out _ _ ⟨(blk_cell BK238.out 0).trans rfl, (blk_cell BK238.out 1).trans rfl, (blk_cell BK239.out 0).trans rfl, (blk_cell BK239.out 1).trans rfl, (blk_cell BK239.out 2).trans rfl⟩ (fun hHeld => ?_)
    clear hK K
    refine norm_ (a' := ?_) ?_ ?_
    rotate_left
    ·show Act.put _ (some 32) _ = _
     simp only [Act.put, List.setIfInBounds_toArray, List.set_cons_zero, List.set_cons_succ, i64_w, i32_w]
     rfl
    refine pure_ (i := 7) (N := some 25) (v := ?_) (a' := ?_) #[true, true, true, true, true, true, true, true, false, false, true, false, false] rfl rfl (any_of HT_.out (by kernel_rfl)) (fun _ _ _ h => h) (Or.inl ⟨by rfl, ?_⟩) ?_ ?_
    rotate_left
    ·intro w'
     go_simp
     with_reducible rfl
    rotate_left
    ·simp only [Act.put, List.setIfInBounds_toArray, List.set_cons_zero, List.set_cons_succ, i64_w, i32_w]
     rfl
    refine pure_ (i := 8) (N := some 33) (v := ?_) (a' := ?_) #[true, true, true, true, true, true, true, true, true, false, true, false, false] rfl rfl (any_of HT_.out (by kernel_rfl)) (fun _ _ _ h => h) (Or.inl ⟨by rfl, ?_⟩) ?_ ?_
    rotate_left
    ·intro w'
     go_simp
     with_reducible rfl
    rotate_left
    ·simp only [Act.put, List.setIfInBounds_toArray, List.set_cons_zero, List.set_cons_succ, i64_w, i32_w]
     rfl
    refine pure_ (i := 9) (N := some 34) (v := ?_) (a' := ?_) #[true, true, true, true, true, true, true, true, true, true, true, false, false] rfl rfl (any_of HT_.out (by kernel_rfl)) (fun _ _ _ h => h) (Or.inl ⟨by rfl, ?_⟩) ?_ ?_
    rotate_left
    ·intro w'
     go_simp
     with_reducible rfl
    rotate_left
    ·simp only [Act.put, List.setIfInBounds_toArray, List.set_cons_zero, List.set_cons_succ, i64_w, i32_w]
     rfl
    exact norm_ (by simp only [putAll, Act.put, List.setIfInBounds_toArray, List.set_cons_zero, List.set_cons_succ]) (hCont (.slice Ao28 t242.length co28, v250, gb253) _ ⟨hHeld, (by (with_reducible repeat (first | apply Kd.R_alloc | apply Kd.R_drewN | apply Kd.R_drew)); exact Kd.R_mono HO244.out (fun _ hk => hk.2)), (by (with_reducible repeat (first | apply Kd.R_alloc | apply Kd.R_drewN | apply Kd.R_drew)); exact Kd.R_mono HO251.out (fun _ hk => hk.2)), (kB BK238.out), (kB BK239.out), (kB BK253.out), GW253.out, GE253.out, NB238_253.out, NB253_238.out, NB239_253.out, NB253_239.out, bS⟩)
  rintro ⟨v243, v250, gb253⟩ w30 ⟨hS_, h0_, h1_, h2_, h3_, h4_, h5_, h6_, h7_, h8_, h9_, h10_, h11_⟩
  have n0_ : Aside0 (Kd.R k28 28 w30 w.heap.size (fun k_ => some k_ ≠ (v250 : Value).ownBlock) v243 t242) := ⟨h0_⟩
  have n1_ : Aside0 (Kd.R k28 28 w30 w.heap.size (fun k_ => some k_ ≠ (v243 : Value).ownBlock) v250 t249) := ⟨h1_⟩
  have n2_ : Aside0 (w30.heap[gb238]? = some (.cells #[.int .i64 a0_0, .slice A0_1 l0_1.length c0_1] 38 (0, 0))) := ⟨h2_⟩
  have n3_ : Aside0 (w30.heap[gb239]? = some (.cells #[.int .i64 a1_0, .int .i64 a1_1, .int .i64 a1_2] 39 (0, 0))) := ⟨h3_⟩
  have n4_ : Aside0 (w30.heap[gb253]? = some (.cells #[.int .i64 0, .slice none 0 0] 26 (0, 0))) := ⟨h4_⟩
  have n5_ : Aside0 (w.heap.size ≤ gb253) := ⟨h5_⟩
  have n6_ : Aside0 (w.heap.size ≤ gb253) := ⟨h6_⟩
  have n7_ : Aside0 (gb238 ≠ gb253) := ⟨h7_⟩
  have n8_ : Aside0 (gb253 ≠ gb238) := ⟨h8_⟩
  have n9_ : Aside0 (gb239 ≠ gb253) := ⟨h9_⟩
  have n10_ : Aside0 (gb253 ≠ gb239) := ⟨h10_⟩
  have n11_ : Aside0 (Below w.heap.size w w30) := ⟨h11_⟩
  clear BK238 BK239 HB h0_ h1_ h2_ h3_ h4_ h5_ h6_ h7_ h8_ h9_ h10_ h11_
  have HO244 := n0_
  have HO251 := n1_
  have BK238 := n2_
  have BK239 := n3_
  have BK253 := n4_
  have GW253 := n5_
  have GE253 := n6_
  have NB238_253 := n7_
  have NB253_238 := n8_
  have NB239_253 := n9_
  have NB253_239 := n10_
  have HB := n11_
  clear n0_ n1_ n2_ n3_ n4_ n5_ n6_ n7_ n8_ n9_ n10_ n11_
  have hHeld : w30.cell? ⟨gb238, 0, none⟩ = some (.int .i64 a0_0) ∧ w30.cell? ⟨gb238, 1, none⟩ = some (.slice A0_1 l0_1.length c0_1) ∧ w30.cell? ⟨gb239, 0, none⟩ = some (.int .i64 a1_0) ∧ w30.cell? ⟨gb239, 1, none⟩ = some (.int .i64 a1_1) ∧ w30.cell? ⟨gb239, 2, none⟩ = some (.int .i64 a1_2) := hS_
  obtain ⟨Ao32, co32, eo32⟩ := Kd.R_slice HO251.out
  (first | subst eo32 | (injection eo32 with f1_ f2_ f3_; have f4_ := f1_.symm; have f5_ := f3_.symm; clear f1_ f2_ f3_; subst f4_; subst f5_))
  refine norm_ (a' := ?_) ?_ ?_
  rotate_left
  ·simp only [putAll, Act.put, List.setIfInBounds_toArray, List.set_cons_zero, List.set_cons_succ]
   rfl
  refine one_ (i := 11) (N := none) #[true, true, true, true, true, true, true, true, true, true, true, true, false] rfl rfl (one_of HT_.out (by kernel_rfl)) (by decide) (fun K hK => ?_)
  have hs31 : w30.cell? ⟨gb253, 0, none⟩ = some (.int .i64 0) := (blk_cell BK253.out 0).trans rfl
  have hfs31 := blk_frozen BK253.out 0
  have hns31_0 := NB238_253.out
  have hns31_1 := NB239_253.out
  have hms31_0 := NB253_238.out
  have hms31_1 := NB253_239.out
  have hs33 : w30.cell? ⟨gb253, 1, none⟩ = some (.slice none 0 0) := (blk_cell BK253.out 1).trans rfl
  have hfs33 := blk_frozen BK253.out 1
  have hns33_0 := NB238_253.out
  have hns33_1 := NB239_253.out
  have hms33_0 := NB253_238.out
  have hms33_1 := NB253_239.out
  refine skip_ (w1 := ?_) (by rfl) rfl ?_ ?_
  rotate_left
  ·go_simp
   rfl
  refine hK.out _ _ ⟨((cell_far (p := ⟨gb253, _, none⟩) NB238_253.out _).trans (((cell_far (p := ⟨gb253, _, none⟩) NB238_253.out _).trans (hHeld.1)))), ((cell_far (p := ⟨gb253, _, none⟩) NB238_253.out _).trans (((cell_far (p := ⟨gb253, _, none⟩) NB238_253.out _).trans (hHeld.2.1)))), ((cell_far (p := ⟨gb253, _, none⟩) NB239_253.out _).trans (((cell_far (p := ⟨gb253, _, none⟩) NB239_253.out _).trans (hHeld.2.2.1)))), ((cell_far (p := ⟨gb253, _, none⟩) NB239_253.out _).trans (((cell_far (p := ⟨gb253, _, none⟩) NB239_253.out _).trans (hHeld.2.2.2.1)))), ((cell_far (p := ⟨gb253, _, none⟩) NB239_253.out _).trans (((cell_far (p := ⟨gb253, _, none⟩) NB239_253.out _).trans (hHeld.2.2.2.2))))⟩ (fun hHeld => ?_)
  clear hK K
  refine pure_ (i := 12) (N := some 11) (v := ?_) (a' := ?_) #[true, true, true, true, true, true, true, true, true, true, true, true, true] rfl rfl (any_of HT_.out (by kernel_rfl)) (fun _ _ _ h => h) (Or.inl ⟨by rfl, ?_⟩) ?_ ?_
  rotate_left
  ·intro w'
   go_simp
   with_reducible rfl
  rotate_left
  ·simp only [Act.put, List.setIfInBounds_toArray, List.set_cons_zero, List.set_cons_succ, i64_w, i32_w]
   rfl
  refine done_ (done_of HT_.out (by kernel_rfl)) ?_
  have hnb34 := NB238_253.out
  have hnc34 := NB253_238.out
  have hcz35_0 : w30.cell? ⟨gb238, 0, none⟩ = some (.int .i64 a0_0) := (blk_cell BK238.out 0).trans rfl
  have hcz35_1 : w30.cell? ⟨gb238, 1, none⟩ = some (.slice A0_1 l0_1.length c0_1) := (blk_cell BK238.out 1).trans rfl
  have hfz35_0 := blk_frozen BK238.out 0
  have hfz35_1 := blk_frozen BK238.out 1
  try go_wp2_with (first | ((with_reducible refine gate_callee (f := 13) rfl ?_); refine goesL_ (some 36) rfl rfl Try.func13 (by kernel_rfl) rfl #[.agg #[.int .i64 a0_0, .slice A0_1 l0_1.length c0_1]] rfl eA ?_; (with_reducible refine (laws_toCache.calls k a0_0 _ _ l0_1 t254 t255 _ ?side1 ?side2 A15.out).mono ?_); (case side1 => exact Kd.C_below HR0_1.out bS); (case side2 => exact HC0_1.out); rintro e w36 ⟨v256, rfl, ho0, hb⟩; refine ⟨_, rfl, ?_⟩; have n0_ := Aside0.mk (Kd.R_elder' (by (with_reducible repeat (first | apply Kd.R_alloc | apply Kd.R_drewN | apply Kd.R_drew)); exact (Kd.R_mono (Kd.R_far (p := ⟨gb253, 1, none⟩) (Kd.R_far (p := ⟨gb253, 0, none⟩) (Kd.R_types HO244.out BK253.out (by decide)) (fun _ hk => hk.2) (.int .i64 t248)) (fun _ hk => hk.2) (.slice Ao32 t249.length co32)) (fun _ h_ => h_.1))) (Kd.R_base ho0) hb); have n1_ := Aside0.mk (Kd.R_elder' (by (with_reducible repeat (first | apply Kd.R_alloc | apply Kd.R_drewN | apply Kd.R_drew)); exact (Kd.R_mono (Kd.R_far (p := ⟨gb253, 1, none⟩) (Kd.R_far (p := ⟨gb253, 0, none⟩) (Kd.R_types HO251.out BK253.out (by decide)) (fun _ hk => hk.2) (.int .i64 t248)) (fun _ hk => hk.2) (.slice Ao32 t249.length co32)) (fun _ h_ => h_.1))) (Kd.R_base ho0) hb); have n2_ := Aside0.mk (Kd.R_lower (Kd.R_new' (Kd.R_new' ho0 (Kd.R_lt (by (with_reducible repeat (first | apply Kd.R_alloc | apply Kd.R_drewN | apply Kd.R_drew)); exact (Kd.R_mono (Kd.R_far (p := ⟨gb253, 1, none⟩) (Kd.R_far (p := ⟨gb253, 0, none⟩) (Kd.R_types HO244.out BK253.out (by decide)) (fun _ hk => hk.2) (.int .i64 t248)) (fun _ hk => hk.2) (.slice Ao32 t249.length co32)) (fun _ h_ => h_.1))))) (Kd.R_lt (by (with_reducible repeat (first | apply Kd.R_alloc | apply Kd.R_drewN | apply Kd.R_drew)); exact (Kd.R_mono (Kd.R_far (p := ⟨gb253, 1, none⟩) (Kd.R_far (p := ⟨gb253, 0, none⟩) (Kd.R_types HO251.out BK253.out (by decide)) (fun _ hk => hk.2) (.int .i64 t248)) (fun _ hk => hk.2) (.slice Ao32 t249.length co32)) (fun _ h_ => h_.1))))) (below_size bS)); have n3_ := Aside0.mk (blk_below (g := gb238) (o := .cells #[.int .i64 a0_0, .slice A0_1 l0_1.length c0_1] 38 (0, 0)) (by (with_reducible repeat (first | refine blk_drewN ?_ _ | refine blk_drew ?_ | refine blk_alloc ?_ _)); refine blk_far ?_ NB238_253.out _; (with_reducible repeat (first | refine blk_drewN ?_ _ | refine blk_drew ?_ | refine blk_alloc ?_ _)); refine blk_far ?_ NB238_253.out _; (with_reducible repeat (first | refine blk_drewN ?_ _ | refine blk_drew ?_ | refine blk_alloc ?_ _)); exact BK238.out) hb); have n4_ := Aside0.mk (blk_below (g := gb239) (o := .cells #[.int .i64 a1_0, .int .i64 a1_1, .int .i64 a1_2] 39 (0, 0)) (by (with_reducible repeat (first | refine blk_drewN ?_ _ | refine blk_drew ?_ | refine blk_alloc ?_ _)); refine blk_far ?_ NB239_253.out _; (with_reducible repeat (first | refine blk_drewN ?_ _ | refine blk_drew ?_ | refine blk_alloc ?_ _)); refine blk_far ?_ NB239_253.out _; (with_reducible repeat (first | refine blk_drewN ?_ _ | refine blk_drew ?_ | refine blk_alloc ?_ _)); exact BK239.out) hb); have n5_ := Aside0.mk (blk_below (g := gb253) (o := .cells #[.int .i64 t248, .slice Ao32 t249.length co32] 26 (0, 0)) (by (with_reducible repeat (first | refine blk_drewN ?_ _ | refine blk_drew ?_ | refine blk_alloc ?_ _)); refine blk_put (cs := #[.int .i64 t248, .slice none 0 0]) ?_ 1 _ rfl; (with_reducible repeat (first | refine blk_drewN ?_ _ | refine blk_drew ?_ | refine blk_alloc ?_ _)); refine blk_put (cs := #[.int .i64 0, .slice none 0 0]) ?_ 0 _ rfl; (with_reducible repeat (first | refine blk_drewN ?_ _ | refine blk_drew ?_ | refine blk_alloc ?_ _)); exact BK253.out) hb); have n6_ := Aside0.mk (below_step bS hb); clear HO244; clear HO251; clear BK238; clear BK239; clear BK253; clear HB; have HO244 := n0_; have HO251 := n1_; have HO257 := n2_; have BK238 := n3_; have BK239 := n4_; have BK253 := n5_; have HB := n6_; clear n0_ n1_ n2_ n3_ n4_ n5_ n6_; (try clear hb); (try clear hb2); (try clear hk); (try clear hi); (try clear ho0)) | ((with_reducible refine gate_dst (N := 12) rfl ?_); refine box_event ?hg (N := 12) ?hd (cs := #[.int .i64 0, .slice none 0 0]) (t := 26) ?hr ?_; (case hd => rfl); (case hg => rfl); (case hr => first | (go_simp; done) | (go_simp; rfl)); intro gb258 hg w37 hbox hb; have n0_ := Aside0.mk (Kd.R_below (kR HO244.out) hb); have n1_ := Aside0.mk (Kd.R_below (kR HO251.out) hb); have n2_ := Aside0.mk (Kd.R_below (kR HO257.out) hb); have n3_ := Aside0.mk (blk_below (kB BK238.out) hb); have n4_ := Aside0.mk (blk_below (kB BK239.out) hb); have n5_ := Aside0.mk (blk_below (kB BK253.out) hb); have n6_ := Aside0.mk (below_step bS hb); have n7_ := Aside0.mk (hbox); have n8_ := Aside0.mk ((bZ hg : w.heap.size ≤ gb258)); have n9_ := Aside0.mk ((bZ hg : w.heap.size ≤ gb258)); have n10_ := Aside0.mk ((nL hg BK238.out : gb238 ≠ gb258)); have n11_ := Aside0.mk ((nG hg BK238.out : gb258 ≠ gb238)); have n12_ := Aside0.mk ((nL hg BK239.out : gb239 ≠ gb258)); have n13_ := Aside0.mk ((nG hg BK239.out : gb258 ≠ gb239)); have n14_ := Aside0.mk ((nL hg BK253.out : gb253 ≠ gb258)); have n15_ := Aside0.mk ((nG hg BK253.out : gb258 ≠ gb253)); clear HO244; clear HO251; clear HO257; clear BK238; clear BK239; clear BK253; clear HB; have HO244 := n0_; have HO251 := n1_; have HO257 := n2_; have BK238 := n3_; have BK239 := n4_; have BK253 := n5_; have HB := n6_; have BK258 := n7_; have GW258 := n8_; have GE258 := n9_; have NB238_258 := n10_; have NB258_238 := n11_; have NB239_258 := n12_; have NB258_239 := n13_; have NB253_258 := n14_; have NB258_253 := n15_; clear n0_ n1_ n2_ n3_ n4_ n5_ n6_ n7_ n8_ n9_ n10_ n11_ n12_ n13_ n14_ n15_; clear hb hbox hg; have hnb38 := NB258_238.out; have hnc38 := NB238_258.out; have hnb39 := NB258_239.out; have hnc39 := NB239_258.out; have hnb40 := NB258_253.out; have hnc40 := NB253_258.out; have hcz41_0 : w37.cell? ⟨gb258, 0, none⟩ = some (.int .i64 0) := (blk_cell BK258.out 0).trans rfl; have hcz41_1 : w37.cell? ⟨gb258, 1, none⟩ = some (.slice none 0 0) := (blk_cell BK258.out 1).trans rfl; have hfz41_0 := blk_frozen BK258.out 0; have hfz41_1 := blk_frozen BK258.out 1; obtain ⟨Ao42, co42, eo42⟩ := Kd.R_slice HO257.out; subst eo42))
  have n0_ : Aside0 (Kd.R k28 28 ((w37.setCell ⟨gb258, 0, none⟩ (.int .i64 t254)).setCell ⟨gb258, 1, none⟩ (.slice Ao42 t255.length co42)) w.heap.size (fun k_ => some k_ ≠ (.slice Ao32 t249.length co32 : Value).ownBlock ∧ some k_ ≠ (.slice Ao42 t255.length co42 : Value).ownBlock) v243 t242) := ⟨by (with_reducible repeat (first | apply Kd.R_alloc | apply Kd.R_drewN | apply Kd.R_drew)); exact Kd.R_mono (Kd.R_far (p := ⟨gb258, 1, none⟩) (Kd.R_far (p := ⟨gb258, 0, none⟩) (Kd.R_types HO244.out BK258.out (by decide)) (fun _ hk => hk.2) (.int .i64 t254)) (fun _ hk => hk.2) (.slice Ao42 t255.length co42)) (fun _ hk => ⟨hk.1.1, hk.1.2⟩)⟩
  have n1_ : Aside0 (Kd.R k28 28 ((w37.setCell ⟨gb258, 0, none⟩ (.int .i64 t254)).setCell ⟨gb258, 1, none⟩ (.slice Ao42 t255.length co42)) w.heap.size (fun k_ => some k_ ≠ (v243 : Value).ownBlock ∧ some k_ ≠ (.slice Ao42 t255.length co42 : Value).ownBlock) (.slice Ao32 t249.length co32) t249) := ⟨by (with_reducible repeat (first | apply Kd.R_alloc | apply Kd.R_drewN | apply Kd.R_drew)); exact Kd.R_mono (Kd.R_far (p := ⟨gb258, 1, none⟩) (Kd.R_far (p := ⟨gb258, 0, none⟩) (Kd.R_types HO251.out BK258.out (by decide)) (fun _ hk => hk.2) (.int .i64 t254)) (fun _ hk => hk.2) (.slice Ao42 t255.length co42)) (fun _ hk => ⟨hk.1.1, hk.1.2⟩)⟩
  have n2_ : Aside0 (Kd.R k28 28 ((w37.setCell ⟨gb258, 0, none⟩ (.int .i64 t254)).setCell ⟨gb258, 1, none⟩ (.slice Ao42 t255.length co42)) w.heap.size (fun k_ => some k_ ≠ (v243 : Value).ownBlock ∧ some k_ ≠ (.slice Ao32 t249.length co32 : Value).ownBlock) (.slice Ao42 t255.length co42) t255) := ⟨by (with_reducible repeat (first | apply Kd.R_alloc | apply Kd.R_drewN | apply Kd.R_drew)); exact Kd.R_mono (Kd.R_far (p := ⟨gb258, 1, none⟩) (Kd.R_far (p := ⟨gb258, 0, none⟩) (Kd.R_types HO257.out BK258.out (by decide)) (fun _ hk => hk.2) (.int .i64 t254)) (fun _ hk => hk.2) (.slice Ao42 t255.length co42)) (fun _ hk => ⟨hk.1.1.2, hk.1.2⟩)⟩
  have n3_ : Aside0 (((w37.setCell ⟨gb258, 0, none⟩ (.int .i64 t254)).setCell ⟨gb258, 1, none⟩ (.slice Ao42 t255.length co42)).heap[gb238]? = some (.cells #[.int .i64 a0_0, .slice A0_1 l0_1.length c0_1] 38 (0, 0))) := ⟨by (with_reducible repeat (first | refine blk_drewN ?_ _ | refine blk_drew ?_ | refine blk_alloc ?_ _)); refine blk_far ?_ NB238_258.out _; (with_reducible repeat (first | refine blk_drewN ?_ _ | refine blk_drew ?_ | refine blk_alloc ?_ _)); refine blk_far ?_ NB238_258.out _; (with_reducible repeat (first | refine blk_drewN ?_ _ | refine blk_drew ?_ | refine blk_alloc ?_ _)); exact BK238.out⟩
  have n4_ : Aside0 (((w37.setCell ⟨gb258, 0, none⟩ (.int .i64 t254)).setCell ⟨gb258, 1, none⟩ (.slice Ao42 t255.length co42)).heap[gb239]? = some (.cells #[.int .i64 a1_0, .int .i64 a1_1, .int .i64 a1_2] 39 (0, 0))) := ⟨by (with_reducible repeat (first | refine blk_drewN ?_ _ | refine blk_drew ?_ | refine blk_alloc ?_ _)); refine blk_far ?_ NB239_258.out _; (with_reducible repeat (first | refine blk_drewN ?_ _ | refine blk_drew ?_ | refine blk_alloc ?_ _)); refine blk_far ?_ NB239_258.out _; (with_reducible repeat (first | refine blk_drewN ?_ _ | refine blk_drew ?_ | refine blk_alloc ?_ _)); exact BK239.out⟩
  have n5_ : Aside0 (((w37.setCell ⟨gb258, 0, none⟩ (.int .i64 t254)).setCell ⟨gb258, 1, none⟩ (.slice Ao42 t255.length co42)).heap[gb253]? = some (.cells #[.int .i64 t248, .slice Ao32 t249.length co32] 26 (0, 0))) := ⟨by (with_reducible repeat (first | refine blk_drewN ?_ _ | refine blk_drew ?_ | refine blk_alloc ?_ _)); refine blk_far ?_ NB253_258.out _; (with_reducible repeat (first | refine blk_drewN ?_ _ | refine blk_drew ?_ | refine blk_alloc ?_ _)); refine blk_far ?_ NB253_258.out _; (with_reducible repeat (first | refine blk_drewN ?_ _ | refine blk_drew ?_ | refine blk_alloc ?_ _)); exact BK253.out⟩
  have n6_ : Aside0 (((w37.setCell ⟨gb258, 0, none⟩ (.int .i64 t254)).setCell ⟨gb258, 1, none⟩ (.slice Ao42 t255.length co42)).heap[gb258]? = some (.cells #[.int .i64 t254, .slice Ao42 t255.length co42] 26 (0, 0))) := ⟨by (with_reducible repeat (first | refine blk_drewN ?_ _ | refine blk_drew ?_ | refine blk_alloc ?_ _)); refine blk_put (cs := #[.int .i64 t254, .slice none 0 0]) ?_ 1 _ rfl; (with_reducible repeat (first | refine blk_drewN ?_ _ | refine blk_drew ?_ | refine blk_alloc ?_ _)); refine blk_put (cs := #[.int .i64 0, .slice none 0 0]) ?_ 0 _ rfl; (with_reducible repeat (first | refine blk_drewN ?_ _ | refine blk_drew ?_ | refine blk_alloc ?_ _)); exact BK258.out⟩
  have n7_ : Aside0 (Below w.heap.size w ((w37.setCell ⟨gb258, 0, none⟩ (.int .i64 t254)).setCell ⟨gb258, 1, none⟩ (.slice Ao42 t255.length co42))) := ⟨by repeat (first | (with_reducible first | exact HB.out | apply below_alloc | apply pw_below_drewN | apply below_drew1 | refine below_set ?_ GE238.out | refine below_set ?_ GE239.out | refine below_set ?_ GE253.out | refine below_set ?_ GE258.out) | exact HB.out)⟩
  (try clear HO244)
  (try clear HO251)
  (try clear HO257)
  (try clear BK238)
  (try clear BK239)
  (try clear BK253)
  (try clear BK258)
  (try clear HB)
  generalize ((w37.setCell ⟨gb258, 0, none⟩ (.int .i64 t254)).setCell ⟨gb258, 1, none⟩ (.slice Ao42 t255.length co42)) = w43 at n0_ n1_ n2_ n3_ n4_ n5_ n6_ n7_ ⊢
  have HO244 := n0_
  have HO251 := n1_
  have HO257 := n2_
  have BK238 := n3_
  have BK239 := n4_
  have BK253 := n5_
  have BK258 := n6_
  have HB := n7_
  clear n0_ n1_ n2_ n3_ n4_ n5_ n6_ n7_
  have n0_ := Aside0.mk (Kd.R_drew HO244.out)
  have n1_ := Aside0.mk (Kd.R_drew HO251.out)
  have n2_ := Aside0.mk (Kd.R_drew HO257.out)
  have n3_ := Aside0.mk (blk_drew BK238.out)
  have n4_ := Aside0.mk (blk_drew BK239.out)
  have n5_ := Aside0.mk (blk_drew BK253.out)
  have n6_ := Aside0.mk (blk_drew BK258.out)
  have n7_ := Aside0.mk (below_drew1 HB.out)
  clear HO244 HO251 HO257 BK238 BK239 BK253 BK258 HB
  have HO244 := n0_
  have HO251 := n1_
  have HO257 := n2_
  have BK238 := n3_
  have BK239 := n4_
  have BK253 := n5_
  have BK258 := n6_
  have HB := n7_
  clear n0_ n1_ n2_ n3_ n4_ n5_ n6_ n7_
  refine start_ (n := 12) (S := fun w' => w'.cell? ⟨gb258, 0, none⟩ = some (.int .i64 t254) ∧ w'.cell? ⟨gb258, 1, none⟩ = some (.slice Ao42 t255.length co42) ∧ w'.cell? ⟨gb239, 0, none⟩ = some (.int .i64 a1_0) ∧ w'.cell? ⟨gb239, 1, none⟩ = some (.int .i64 a1_1) ∧ w'.cell? ⟨gb239, 2, none⟩ = some (.int .i64 a1_2)) (ds := []) #[false, false, false, false, false, false, false, false, false, false, false, false] (by kernel_rfl) rfl rfl ⟨(blk_cell BK258.out 0).trans rfl, (blk_cell BK258.out 1).trans rfl, (blk_cell BK239.out 0).trans rfl, (blk_cell BK239.out 1).trans rfl, (blk_cell BK239.out 2).trans rfl⟩ (fun hHeld => ?_); refine with_tabW laws_FnExactCacheTry.tab7 laws_FnExactCacheTry.bits7 (fun HT_ HW_ => ?_)
  generalize w43.drew = w44 at HO244 HO251 HO257 BK238 BK239 BK253 BK258 HB hHeld ⊢
  refine pure_ (i := 3) (N := some 41) (v := ?_) (a' := ?_) #[false, false, false, true, false, false, false, false, false, false, false, false] rfl rfl (any_of HT_.out (by kernel_rfl)) (fun _ _ _ h => h) (Or.inl ⟨by rfl, ?_⟩) ?_ ?_
  rotate_left
  ·intro w'
   go_simp
   with_reducible rfl
  rotate_left
  ·simp only [Act.put, List.setIfInBounds_toArray, List.set_cons_zero, List.set_cons_succ, i64_w, i32_w]
   rfl
  refine pure_ (i := 4) (N := some 42) (v := ?_) (a' := ?_) #[false, false, false, true, true, false, false, false, false, false, false, false] rfl rfl (any_of HT_.out (by kernel_rfl)) (fun _ _ _ h => h) (Or.inl ⟨by rfl, ?_⟩) ?_ ?_
  rotate_left
  ·intro w'
   go_simp
   with_reducible rfl
  rotate_left
  ·simp only [Act.put, List.setIfInBounds_toArray, List.set_cons_zero, List.set_cons_succ, i64_w, i32_w]
   rfl
  refine take_ (i := 0) (N := some 38) (v := ?_) (a' := ?_) #[true, false, false, true, true, false, false, false, false, false, false, false] rfl rfl (take_ofW HT_.out HW_.out (by kernel_rfl)) (fun _ _ _ h => h) (Or.inl ⟨by rfl, ?_⟩) hHeld ?_ ?_
  rotate_left
  ·rintro w' ⟨s0, s1, s2, s3, s4⟩
   go_simp
   with_reducible rfl
  rotate_left
  ·simp only [Act.put, List.setIfInBounds_toArray, List.set_cons_zero, List.set_cons_succ, i64_w, i32_w]
   rfl
  refine take_ (i := 1) (N := some 39) (v := ?_) (a' := ?_) #[true, true, false, true, true, false, false, false, false, false, false, false] rfl rfl (take_ofW HT_.out HW_.out (by kernel_rfl)) (fun _ _ _ h => h) (Or.inl ⟨by rfl, ?_⟩) hHeld ?_ ?_
  rotate_left
  ·rintro w' ⟨s0, s1, s2, s3, s4⟩
   go_simp
   with_reducible rfl
  rotate_left
  ·simp only [Act.put, List.setIfInBounds_toArray, List.set_cons_zero, List.set_cons_succ, i64_w, i32_w]
   rfl
  refine join_ (σ := Value × Nat) 2 #[true, true, true, true, true, true, true, true, true, true, false, false] (fun s_ => [(40, .agg #[.int .i64 t259, .int .i64 t260, .int .i64 t261]), (43, .tuple #[.agg #[.int .i64 t262, s_.1], .int .i64 t266]), (13, .pointer (some ⟨s_.2, 0, none⟩)), (37, .tuple #[.agg #[.int .i64 t262, s_.1], .int .i64 t266]), (44, .agg #[.int .i64 t262, s_.1]), (45, .int .i64 t266)]) (fun s_ w' => (w'.cell? ⟨gb258, 0, none⟩ = some (.int .i64 t254) ∧ w'.cell? ⟨gb258, 1, none⟩ = some (.slice Ao42 t255.length co42) ∧ w'.cell? ⟨gb239, 0, none⟩ = some (.int .i64 a1_0) ∧ w'.cell? ⟨gb239, 1, none⟩ = some (.int .i64 a1_1) ∧ w'.cell? ⟨gb239, 2, none⟩ = some (.int .i64 a1_2)) ∧ (Kd.R k28 28 w' w.heap.size (fun k_ => some k_ ≠ (.slice Ao32 t249.length co32 : Value).ownBlock ∧ some k_ ≠ (.slice Ao42 t255.length co42 : Value).ownBlock ∧ some k_ ≠ (s_.1 : Value).ownBlock) v243 t242) ∧ (Kd.R k28 28 w' w.heap.size (fun k_ => some k_ ≠ (v243 : Value).ownBlock ∧ some k_ ≠ (.slice Ao42 t255.length co42 : Value).ownBlock ∧ some k_ ≠ (s_.1 : Value).ownBlock) (.slice Ao32 t249.length co32) t249) ∧ (Kd.R k28 28 w' w.heap.size (fun k_ => some k_ ≠ (v243 : Value).ownBlock ∧ some k_ ≠ (.slice Ao32 t249.length co32 : Value).ownBlock ∧ some k_ ≠ (s_.1 : Value).ownBlock) (.slice Ao42 t255.length co42) t255) ∧ (Kd.R k28 28 w' w.heap.size (fun k_ => some k_ ≠ (v243 : Value).ownBlock ∧ some k_ ≠ (.slice Ao32 t249.length co32 : Value).ownBlock ∧ some k_ ≠ (.slice Ao42 t255.length co42 : Value).ownBlock) s_.1 t263) ∧ (w'.heap[gb238]? = some (.cells #[.int .i64 a0_0, .slice A0_1 l0_1.length c0_1] 38 (0, 0))) ∧ (w'.heap[gb239]? = some (.cells #[.int .i64 a1_0, .int .i64 a1_1, .int .i64 a1_2] 39 (0, 0))) ∧ (w'.heap[gb253]? = some (.cells #[.int .i64 t248, .slice Ao32 t249.length co32] 26 (0, 0))) ∧ (w'.heap[gb258]? = some (.cells #[.int .i64 t254, .slice Ao42 t255.length co42] 26 (0, 0))) ∧ (w'.heap[s_.2]? = some (.cells #[.int .i64 0, .slice none 0 0] 26 (0, 0))) ∧ (w.heap.size ≤ s_.2) ∧ (w.heap.size ≤ s_.2) ∧ (gb238 ≠ s_.2) ∧ (s_.2 ≠ gb238) ∧ (gb239 ≠ s_.2) ∧ (s_.2 ≠ gb239) ∧ (gb253 ≠ s_.2) ∧ (s_.2 ≠ gb253) ∧ (gb258 ≠ s_.2) ∧ (s_.2 ≠ gb258) ∧ (Below w.heap.size w w')) ?_ ?_
  rotate_left
  ·intro hCont
   refine two_ (i := 2) (j := 9) (Ni := some 40) (Nj := some 13) #[true, true, true, true, true, false, false, false, false, false, false, false] #[true, true, false, true, true, false, false, false, false, true, false, false] rfl rfl rfl rfl (two_of HT_.out (by kernel_rfl)) (by decide) (by decide) (fun K hK => ?_) (fun K hK => ?_)
   ·skip
    refine goes_ Try.func14 (by kernel_rfl) rfl #[.agg #[.int .i64 a1_0, .int .i64 a1_1, .int .i64 a1_2]] (by rfl) rfl rfl eA ?_
    with_reducible refine (laws_toAuth.calls a1_0 a1_1 a1_2 t259 t260 t261 _ A16.out).mono ?_
    rintro e w45 ⟨rfl, hb⟩
    refine ⟨_, rfl, ?_⟩
    have n0_ := Aside0.mk (Kd.R_below (kR HO244.out) hb)
    have n1_ := Aside0.mk (Kd.R_below (kR HO251.out) hb)
    have n2_ := Aside0.mk (Kd.R_below (kR HO257.out) hb)
    have n3_ := Aside0.mk (blk_below (kB BK238.out) hb)
    have n4_ := Aside0.mk (blk_below (kB BK239.out) hb)
    have n5_ := Aside0.mk (blk_below (kB BK253.out) hb)
    have n6_ := Aside0.mk (blk_below (kB BK258.out) hb)
    have n7_ := Aside0.mk (below_step bS hb)
    clear HO244 HO251 HO257 BK238 BK239 BK253 BK258 HB
    have HO244 := n0_
    have HO251 := n1_
    have HO257 := n2_
    have BK238 := n3_
    have BK239 := n4_
    have BK253 := n5_
    have BK258 := n6_
    have HB := n7_
    clear n0_ n1_ n2_ n3_ n4_ n5_ n6_ n7_
    (try clear hb)
    (try clear hb2)
    (try clear hk)
    (try clear hi)
    refine hK.out _ _ ⟨(blk_cell BK258.out 0).trans rfl, (blk_cell BK258.out 1).trans rfl, (blk_cell BK239.out 0).trans rfl, (blk_cell BK239.out 1).trans rfl, (blk_cell BK239.out 2).trans rfl⟩ (fun hHeld => ?_)
    clear hK K
    refine norm_ (a' := ?_) ?_ ?_
    rotate_left
    ·show Act.put _ (some 40) _ = _
     simp only [Act.put, List.setIfInBounds_toArray, List.set_cons_zero, List.set_cons_succ, i64_w, i32_w]
     rfl
    refine two_ (i := 5) (j := 9) (Ni := some 43) (Nj := some 13) #[true, true, true, true, true, true, false, false, false, false, false, false] #[true, true, true, true, true, false, false, false, false, true, false, false] rfl rfl rfl rfl (two_of HT_.out (by kernel_rfl)) (by decide) (by decide) (fun K hK => ?_) (fun K hK => ?_)
    ·skip
     refine goes_ Try.func7 (by kernel_rfl) rfl #[.agg #[.int .i64 t254, .slice Ao42 t255.length co42], .agg #[.int .i64 t259, .int .i64 t260, .int .i64 t261], .int .i64 a2, .int .i64 a3] (by rfl) rfl rfl eA ?_
     with_reducible refine (impl_CacheTry.calls k t254 _ _ t255 t259 t260 t261 a2 a3 t262 t263 t266 _ ?side1 ?side2 A17.out).mono ?_
     (case side1 => repeat (first | exact (Kd.R_reads' HO257.out).2.2 | (with_reducible refine Kd.C_alloc ?_ _) | (with_reducible refine Kd.C_drewN ?_ _) | (with_reducible refine Kd.C_drew ?_)))
     (case side2 => exact (Kd.R_reads' HO257.out).2.1)
     rintro e w46 ⟨v264, rfl, ho0, hb⟩
     refine ⟨_, rfl, ?_⟩
     have n0_ := Aside0.mk (Kd.R_elder' (kR HO244.out) (Kd.R_base ho0) hb)
     have n1_ := Aside0.mk (Kd.R_elder' (kR HO251.out) (Kd.R_base ho0) hb)
     have n2_ := Aside0.mk (Kd.R_elder' (kR HO257.out) (Kd.R_base ho0) hb)
     have n3_ := Aside0.mk (Kd.R_lower (Kd.R_new' (Kd.R_new' (Kd.R_new' ho0 (Kd.R_lt (kR HO244.out))) (Kd.R_lt (kR HO251.out))) (Kd.R_lt (kR HO257.out))) (below_size bS))
     have n4_ := Aside0.mk (blk_below (kB BK238.out) hb)
     have n5_ := Aside0.mk (blk_below (kB BK239.out) hb)
     have n6_ := Aside0.mk (blk_below (kB BK253.out) hb)
     have n7_ := Aside0.mk (blk_below (kB BK258.out) hb)
     have n8_ := Aside0.mk (below_step bS hb)
     clear HO244 HO251 HO257 BK238 BK239 BK253 BK258 HB
     have HO244 := n0_
     have HO251 := n1_
     have HO257 := n2_
     have HO265 := n3_
     have BK238 := n4_
     have BK239 := n5_
     have BK253 := n6_
     have BK258 := n7_
     have HB := n8_
     clear n0_ n1_ n2_ n3_ n4_ n5_ n6_ n7_ n8_
     (try clear hb)
     (try clear hb2)
     (try clear hk)
     (try clear hi)
     (try clear ho0)
     refine hK.out _ _ ⟨(blk_cell BK258.out 0).trans rfl, (blk_cell BK258.out 1).trans rfl, (blk_cell BK239.out 0).trans rfl, (blk_cell BK239.out 1).trans rfl, (blk_cell BK239.out 2).trans rfl⟩ (fun hHeld => ?_)
     clear hK K
     refine norm_ (a' := ?_) ?_ ?_
     rotate_left
     ·show Act.put _ (some 43) _ = _
      simp only [Act.put, List.setIfInBounds_toArray, List.set_cons_zero, List.set_cons_succ, i64_w, i32_w]
      rfl
     refine pure_ (i := 6) (N := some 37) (v := ?_) (a' := ?_) #[true, true, true, true, true, true, true, false, false, false, false, false] rfl rfl (any_of HT_.out (by kernel_rfl)) (fun _ _ _ h => h) (Or.inl ⟨by rfl, ?_⟩) ?_ ?_
     rotate_left
     ·intro w'
      go_simp
      with_reducible rfl
     rotate_left
     ·simp only [Act.put, List.setIfInBounds_toArray, List.set_cons_zero, List.set_cons_succ, i64_w, i32_w]
      rfl
     refine pure_ (i := 7) (N := some 44) (v := ?_) (a' := ?_) #[true, true, true, true, true, true, true, true, false, false, false, false] rfl rfl (any_of HT_.out (by kernel_rfl)) (fun _ _ _ h => h) (Or.inl ⟨by rfl, ?_⟩) ?_ ?_
     rotate_left
     ·intro w'
      go_simp
      with_reducible rfl
     rotate_left
     ·simp only [Act.put, List.setIfInBounds_toArray, List.set_cons_zero, List.set_cons_succ, i64_w, i32_w]
      rfl
     refine pure_ (i := 8) (N := some 45) (v := ?_) (a' := ?_) #[true, true, true, true, true, true, true, true, true, false, false, false] rfl rfl (any_of HT_.out (by kernel_rfl)) (fun _ _ _ h => h) (Or.inl ⟨by rfl, ?_⟩) ?_ ?_
     rotate_left
     ·intro w'
      go_simp
      with_reducible rfl
     rotate_left
     ·simp only [Act.put, List.setIfInBounds_toArray, List.set_cons_zero, List.set_cons_succ, i64_w, i32_w]
      rfl
     refine one_ (i := 9) (N := some 13) #[true, true, true, true, true, true, true, true, true, true, false, false] rfl rfl (one_of HT_.out (by kernel_rfl)) (by decide) (fun K hK => ?_)
     refine box_step ?hg (N := 13) ?hd (cs := #[.int .i64 0, .slice none 0 0]) (t := 26) ?hr ?_; (case hd => rfl); (case hg => rfl); (case hr => first | (go_simp; done) | (go_simp; rfl))
     intro gb267 hg w47 hbox hb
     have n0_ := Aside0.mk (Kd.R_below (kR HO244.out) hb)
     have n1_ := Aside0.mk (Kd.R_below (kR HO251.out) hb)
     have n2_ := Aside0.mk (Kd.R_below (kR HO257.out) hb)
     have n3_ := Aside0.mk (Kd.R_below (kR HO265.out) hb)
     have n4_ := Aside0.mk (blk_below (kB BK238.out) hb)
     have n5_ := Aside0.mk (blk_below (kB BK239.out) hb)
     have n6_ := Aside0.mk (blk_below (kB BK253.out) hb)
     have n7_ := Aside0.mk (blk_below (kB BK258.out) hb)
     have n8_ := Aside0.mk (below_step bS hb)
     have n9_ := Aside0.mk (hbox)
     have n10_ := Aside0.mk ((bZ hg : w.heap.size ≤ gb267))
     have n11_ := Aside0.mk ((bZ hg : w.heap.size ≤ gb267))
     have n12_ := Aside0.mk ((nL hg BK238.out : gb238 ≠ gb267))
     have n13_ := Aside0.mk ((nG hg BK238.out : gb267 ≠ gb238))
     have n14_ := Aside0.mk ((nL hg BK239.out : gb239 ≠ gb267))
     have n15_ := Aside0.mk ((nG hg BK239.out : gb267 ≠ gb239))
     have n16_ := Aside0.mk ((nL hg BK253.out : gb253 ≠ gb267))
     have n17_ := Aside0.mk ((nG hg BK253.out : gb267 ≠ gb253))
     have n18_ := Aside0.mk ((nL hg BK258.out : gb258 ≠ gb267))
     have n19_ := Aside0.mk ((nG hg BK258.out : gb267 ≠ gb258))
     clear HO244 HO251 HO257 HO265 BK238 BK239 BK253 BK258 HB
     have HO244 := n0_
     have HO251 := n1_
     have HO257 := n2_
     have HO265 := n3_
     have BK238 := n4_
     have BK239 := n5_
     have BK253 := n6_
     have BK258 := n7_
     have HB := n8_
     have BK267 := n9_
     have GW267 := n10_
     have GE267 := n11_
     have NB238_267 := n12_
     have NB267_238 := n13_
     have NB239_267 := n14_
     have NB267_239 := n15_
     have NB253_267 := n16_
     have NB267_253 := n17_
     have NB258_267 := n18_
     have NB267_258 := n19_
     clear n0_ n1_ n2_ n3_ n4_ n5_ n6_ n7_ n8_ n9_ n10_ n11_ n12_ n13_ n14_ n15_ n16_ n17_ n18_ n19_ hb hbox hg
     refine hK.out _ _ ⟨(blk_cell BK258.out 0).trans rfl, (blk_cell BK258.out 1).trans rfl, (blk_cell BK239.out 0).trans rfl, (blk_cell BK239.out 1).trans rfl, (blk_cell BK239.out 2).trans rfl⟩ (fun hHeld => ?_)
     clear hK K
     refine norm_ (a' := ?_) ?_ ?_
     rotate_left
     ·show Act.put _ (some 13) _ = _
      simp only [Act.put, List.setIfInBounds_toArray, List.set_cons_zero, List.set_cons_succ, i64_w, i32_w]
      rfl
     exact norm_ (by simp only [putAll, Act.put, List.setIfInBounds_toArray, List.set_cons_zero, List.set_cons_succ]) (hCont (v264, gb267) _ ⟨hHeld, (by (with_reducible repeat (first | apply Kd.R_alloc | apply Kd.R_drewN | apply Kd.R_drew)); exact Kd.R_mono HO244.out (fun _ hk => ⟨hk.1.1, ⟨hk.1.2, hk.2⟩⟩)), (by (with_reducible repeat (first | apply Kd.R_alloc | apply Kd.R_drewN | apply Kd.R_drew)); exact Kd.R_mono HO251.out (fun _ hk => ⟨hk.1.1, ⟨hk.1.2, hk.2⟩⟩)), (by (with_reducible repeat (first | apply Kd.R_alloc | apply Kd.R_drewN | apply Kd.R_drew)); exact Kd.R_mono HO257.out (fun _ hk => ⟨hk.1.1, ⟨hk.1.2, hk.2⟩⟩)), (by (with_reducible repeat (first | apply Kd.R_alloc | apply Kd.R_drewN | apply Kd.R_drew)); exact Kd.R_mono HO265.out (fun _ hk => ⟨hk.1.1.2, ⟨hk.1.2, hk.2⟩⟩)), (kB BK238.out), (kB BK239.out), (kB BK253.out), (kB BK258.out), (kB BK267.out), GW267.out, GE267.out, NB238_267.out, NB267_238.out, NB239_267.out, NB267_239.out, NB253_267.out, NB267_253.out, NB258_267.out, NB267_258.out, bS⟩)
    ·skip
     refine box_step ?hg (N := 13) ?hd (cs := #[.int .i64 0, .slice none 0 0]) (t := 26) ?hr ?_; (case hd => rfl); (case hg => rfl); (case hr => first | (go_simp; done) | (go_simp; rfl))
     intro gb267 hg w46 hbox hb
     have n0_ := Aside0.mk (Kd.R_below (kR HO244.out) hb)
     have n1_ := Aside0.mk (Kd.R_below (kR HO251.out) hb)
     have n2_ := Aside0.mk (Kd.R_below (kR HO257.out) hb)
     have n3_ := Aside0.mk (blk_below (kB BK238.out) hb)
     have n4_ := Aside0.mk (blk_below (kB BK239.out) hb)
     have n5_ := Aside0.mk (blk_below (kB BK253.out) hb)
     have n6_ := Aside0.mk (blk_below (kB BK258.out) hb)
     have n7_ := Aside0.mk (below_step bS hb)
     have n8_ := Aside0.mk (hbox)
     have n9_ := Aside0.mk ((bZ hg : w.heap.size ≤ gb267))
     have n10_ := Aside0.mk ((bZ hg : w.heap.size ≤ gb267))
     have n11_ := Aside0.mk ((nL hg BK238.out : gb238 ≠ gb267))
     have n12_ := Aside0.mk ((nG hg BK238.out : gb267 ≠ gb238))
     have n13_ := Aside0.mk ((nL hg BK239.out : gb239 ≠ gb267))
     have n14_ := Aside0.mk ((nG hg BK239.out : gb267 ≠ gb239))
     have n15_ := Aside0.mk ((nL hg BK253.out : gb253 ≠ gb267))
     have n16_ := Aside0.mk ((nG hg BK253.out : gb267 ≠ gb253))
     have n17_ := Aside0.mk ((nL hg BK258.out : gb258 ≠ gb267))
     have n18_ := Aside0.mk ((nG hg BK258.out : gb267 ≠ gb258))
     clear HO244 HO251 HO257 BK238 BK239 BK253 BK258 HB
     have HO244 := n0_
     have HO251 := n1_
     have HO257 := n2_
     have BK238 := n3_
     have BK239 := n4_
     have BK253 := n5_
     have BK258 := n6_
     have HB := n7_
     have BK267 := n8_
     have GW267 := n9_
     have GE267 := n10_
     have NB238_267 := n11_
     have NB267_238 := n12_
     have NB239_267 := n13_
     have NB267_239 := n14_
     have NB253_267 := n15_
     have NB267_253 := n16_
     have NB258_267 := n17_
     have NB267_258 := n18_
     clear n0_ n1_ n2_ n3_ n4_ n5_ n6_ n7_ n8_ n9_ n10_ n11_ n12_ n13_ n14_ n15_ n16_ n17_ n18_ hb hbox hg
     refine hK.out _ _ ⟨(blk_cell BK258.out 0).trans rfl, (blk_cell BK258.out 1).trans rfl, (blk_cell BK239.out 0).trans rfl, (blk_cell BK239.out 1).trans rfl, (blk_cell BK239.out 2).trans rfl⟩ (fun hHeld => ?_)
     clear hK K
     refine norm_ (a' := ?_) ?_ ?_
     rotate_left
     ·show Act.put _ (some 13) _ = _
      simp only [Act.put, List.setIfInBounds_toArray, List.set_cons_zero, List.set_cons_succ, i64_w, i32_w]
      rfl
     refine one_ (i := 5) (N := some 43) #[true, true, true, true, true, true, false, false, false, true, false, false] rfl rfl (one_of HT_.out (by kernel_rfl)) (by decide) (fun K hK => ?_)
     refine goes_ Try.func7 (by kernel_rfl) rfl #[.agg #[.int .i64 t254, .slice Ao42 t255.length co42], .agg #[.int .i64 t259, .int .i64 t260, .int .i64 t261], .int .i64 a2, .int .i64 a3] (by rfl) rfl rfl eA ?_
     with_reducible refine (impl_CacheTry.calls k t254 _ _ t255 t259 t260 t261 a2 a3 t262 t263 t266 _ ?side1 ?side2 A17.out).mono ?_
     (case side1 => repeat (first | exact (Kd.R_reads' HO257.out).2.2 | (with_reducible refine Kd.C_alloc ?_ _) | (with_reducible refine Kd.C_drewN ?_ _) | (with_reducible refine Kd.C_drew ?_)))
     (case side2 => exact (Kd.R_reads' HO257.out).2.1)
     rintro e w47 ⟨v264, rfl, ho0, hb⟩
     refine ⟨_, rfl, ?_⟩
     have n0_ := Aside0.mk (Kd.R_elder' (kR HO244.out) (Kd.R_base ho0) hb)
     have n1_ := Aside0.mk (Kd.R_elder' (kR HO251.out) (Kd.R_base ho0) hb)
     have n2_ := Aside0.mk (Kd.R_elder' (kR HO257.out) (Kd.R_base ho0) hb)
     have n3_ := Aside0.mk (Kd.R_lower (Kd.R_new' (Kd.R_new' (Kd.R_new' ho0 (Kd.R_lt (kR HO244.out))) (Kd.R_lt (kR HO251.out))) (Kd.R_lt (kR HO257.out))) (below_size bS))
     have n4_ := Aside0.mk (blk_below (kB BK238.out) hb)
     have n5_ := Aside0.mk (blk_below (kB BK239.out) hb)
     have n6_ := Aside0.mk (blk_below (kB BK253.out) hb)
     have n7_ := Aside0.mk (blk_below (kB BK258.out) hb)
     have n8_ := Aside0.mk (blk_below (kB BK267.out) hb)
     have n9_ := Aside0.mk (below_step bS hb)
     clear HO244 HO251 HO257 BK238 BK239 BK253 BK258 BK267 HB
     have HO244 := n0_
     have HO251 := n1_
     have HO257 := n2_
     have HO265 := n3_
     have BK238 := n4_
     have BK239 := n5_
     have BK253 := n6_
     have BK258 := n7_
     have BK267 := n8_
     have HB := n9_
     clear n0_ n1_ n2_ n3_ n4_ n5_ n6_ n7_ n8_ n9_
     (try clear hb)
     (try clear hb2)
     (try clear hk)
     (try clear hi)
     (try clear ho0)
     refine hK.out _ _ ⟨(blk_cell BK258.out 0).trans rfl, (blk_cell BK258.out 1).trans rfl, (blk_cell BK239.out 0).trans rfl, (blk_cell BK239.out 1).trans rfl, (blk_cell BK239.out 2).trans rfl⟩ (fun hHeld => ?_)
     clear hK K
     refine norm_ (a' := ?_) ?_ ?_
     rotate_left
     ·show Act.put _ (some 43) _ = _
      simp only [Act.put, List.setIfInBounds_toArray, List.set_cons_zero, List.set_cons_succ, i64_w, i32_w]
      rfl
     refine pure_ (i := 6) (N := some 37) (v := ?_) (a' := ?_) #[true, true, true, true, true, true, true, false, false, true, false, false] rfl rfl (any_of HT_.out (by kernel_rfl)) (fun _ _ _ h => h) (Or.inl ⟨by rfl, ?_⟩) ?_ ?_
     rotate_left
     ·intro w'
      go_simp
      with_reducible rfl
     rotate_left
     ·simp only [Act.put, List.setIfInBounds_toArray, List.set_cons_zero, List.set_cons_succ, i64_w, i32_w]
      rfl
     refine pure_ (i := 7) (N := some 44) (v := ?_) (a' := ?_) #[true, true, true, true, true, true, true, true, false, true, false, false] rfl rfl (any_of HT_.out (by kernel_rfl)) (fun _ _ _ h => h) (Or.inl ⟨by rfl, ?_⟩) ?_ ?_
     rotate_left
     ·intro w'
      go_simp
      with_reducible rfl
     rotate_left
     ·simp only [Act.put, List.setIfInBounds_toArray, List.set_cons_zero, List.set_cons_succ, i64_w, i32_w]
      rfl
     refine pure_ (i := 8) (N := some 45) (v := ?_) (a' := ?_) #[true, true, true, true, true, true, true, true, true, true, false, false] rfl rfl (any_of HT_.out (by kernel_rfl)) (fun _ _ _ h => h) (Or.inl ⟨by rfl, ?_⟩) ?_ ?_
     rotate_left
     ·intro w'
      go_simp
      with_reducible rfl
     rotate_left
     ·simp only [Act.put, List.setIfInBounds_toArray, List.set_cons_zero, List.set_cons_succ, i64_w, i32_w]
      rfl
     exact norm_ (by simp only [putAll, Act.put, List.setIfInBounds_toArray, List.set_cons_zero, List.set_cons_succ]) (hCont (v264, gb267) _ ⟨hHeld, (by (with_reducible repeat (first | apply Kd.R_alloc | apply Kd.R_drewN | apply Kd.R_drew)); exact Kd.R_mono HO244.out (fun _ hk => ⟨hk.1.1, ⟨hk.1.2, hk.2⟩⟩)), (by (with_reducible repeat (first | apply Kd.R_alloc | apply Kd.R_drewN | apply Kd.R_drew)); exact Kd.R_mono HO251.out (fun _ hk => ⟨hk.1.1, ⟨hk.1.2, hk.2⟩⟩)), (by (with_reducible repeat (first | apply Kd.R_alloc | apply Kd.R_drewN | apply Kd.R_drew)); exact Kd.R_mono HO257.out (fun _ hk => ⟨hk.1.1, ⟨hk.1.2, hk.2⟩⟩)), (by (with_reducible repeat (first | apply Kd.R_alloc | apply Kd.R_drewN | apply Kd.R_drew)); exact Kd.R_mono HO265.out (fun _ hk => ⟨hk.1.1.2, ⟨hk.1.2, hk.2⟩⟩)), (kB BK238.out), (kB BK239.out), (kB BK253.out), (kB BK258.out), (kB BK267.out), GW267.out, GE267.out, NB238_267.out, NB267_238.out, NB239_267.out, NB267_239.out, NB253_267.out, NB267_253.out, NB258_267.out, NB267_258.out, bS⟩)
   ·skip
    refine box_step ?hg (N := 13) ?hd (cs := #[.int .i64 0, .slice none 0 0]) (t := 26) ?hr ?_; (case hd => rfl); (case hg => rfl); (case hr => first | (go_simp; done) | (go_simp; rfl))
    intro gb267 hg w45 hbox hb
    have n0_ := Aside0.mk (Kd.R_below (kR HO244.out) hb)
    have n1_ := Aside0.mk (Kd.R_below (kR HO251.out) hb)
    have n2_ := Aside0.mk (Kd.R_below (kR HO257.out) hb)
    have n3_ := Aside0.mk (blk_below (kB BK238.out) hb)
    have n4_ := Aside0.mk (blk_below (kB BK239.out) hb)
    have n5_ := Aside0.mk (blk_below (kB BK253.out) hb)
    have n6_ := Aside0.mk (blk_below (kB BK258.out) hb)
    have n7_ := Aside0.mk (below_step bS hb)
    have n8_ := Aside0.mk (hbox)
    have n9_ := Aside0.mk ((bZ hg : w.heap.size ≤ gb267))
    have n10_ := Aside0.mk ((bZ hg : w.heap.size ≤ gb267))
    have n11_ := Aside0.mk ((nL hg BK238.out : gb238 ≠ gb267))
    have n12_ := Aside0.mk ((nG hg BK238.out : gb267 ≠ gb238))
    have n13_ := Aside0.mk ((nL hg BK239.out : gb239 ≠ gb267))
    have n14_ := Aside0.mk ((nG hg BK239.out : gb267 ≠ gb239))
    have n15_ := Aside0.mk ((nL hg BK253.out : gb253 ≠ gb267))
    have n16_ := Aside0.mk ((nG hg BK253.out : gb267 ≠ gb253))
    have n17_ := Aside0.mk ((nL hg BK258.out : gb258 ≠ gb267))
    have n18_ := Aside0.mk ((nG hg BK258.out : gb267 ≠ gb258))
    clear HO244 HO251 HO257 BK238 BK239 BK253 BK258 HB
    have HO244 := n0_
    have HO251 := n1_
    have HO257 := n2_
    have BK238 := n3_
    have BK239 := n4_
    have BK253 := n5_
    have BK258 := n6_
    have HB := n7_
    have BK267 := n8_
    have GW267 := n9_
    have GE267 := n10_
    have NB238_267 := n11_
    have NB267_238 := n12_
    have NB239_267 := n13_
    have NB267_239 := n14_
    have NB253_267 := n15_
    have NB267_253 := n16_
    have NB258_267 := n17_
    have NB267_258 := n18_
    clear n0_ n1_ n2_ n3_ n4_ n5_ n6_ n7_ n8_ n9_ n10_ n11_ n12_ n13_ n14_ n15_ n16_ n17_ n18_ hb hbox hg
    refine hK.out _ _ ⟨(blk_cell BK258.out 0).trans rfl, (blk_cell BK258.out 1).trans rfl, (blk_cell BK239.out 0).trans rfl, (blk_cell BK239.out 1).trans rfl, (blk_cell BK239.out 2).trans rfl⟩ (fun hHeld => ?_)
    clear hK K
    refine norm_ (a' := ?_) ?_ ?_
    rotate_left
    ·show Act.put _ (some 13) _ = _
     simp only [Act.put, List.setIfInBounds_toArray, List.set_cons_zero, List.set_cons_succ, i64_w, i32_w]
     rfl
    refine one_ (i := 2) (N := some 40) #[true, true, true, true, true, false, false, false, false, true, false, false] rfl rfl (one_of HT_.out (by kernel_rfl)) (by decide) (fun K hK => ?_)
    refine goes_ Try.func14 (by kernel_rfl) rfl #[.agg #[.int .i64 a1_0, .int .i64 a1_1, .int .i64 a1_2]] (by rfl) rfl rfl eA ?_
    with_reducible refine (laws_toAuth.calls a1_0 a1_1 a1_2 t259 t260 t261 _ A16.out).mono ?_
    rintro e w46 ⟨rfl, hb⟩
    refine ⟨_, rfl, ?_⟩
    have n0_ := Aside0.mk (Kd.R_below (kR HO244.out) hb)
    have n1_ := Aside0.mk (Kd.R_below (kR HO251.out) hb)
    have n2_ := Aside0.mk (Kd.R_below (kR HO257.out) hb)
    have n3_ := Aside0.mk (blk_below (kB BK238.out) hb)
    have n4_ := Aside0.mk (blk_below (kB BK239.out) hb)
    have n5_ := Aside0.mk (blk_below (kB BK253.out) hb)
    have n6_ := Aside0.mk (blk_below (kB BK258.out) hb)
    have n7_ := Aside0.mk (blk_below (kB BK267.out) hb)
    have n8_ := Aside0.mk (below_step bS hb)
    clear HO244 HO251 HO257 BK238 BK239 BK253 BK258 BK267 HB
    have HO244 := n0_
    have HO251 := n1_
    have HO257 := n2_
    have BK238 := n3_
    have BK239 := n4_
    have BK253 := n5_
    have BK258 := n6_
    have BK267 := n7_
    have HB := n8_
    clear n0_ n1_ n2_ n3_ n4_ n5_ n6_ n7_ n8_
    (try clear hb)
    (try clear hb2)
    (try clear hk)
    (try clear hi)
    refine hK.out _ _ ⟨(blk_cell BK258.out 0).trans rfl, (blk_cell BK258.out 1).trans rfl, (blk_cell BK239.out 0).trans rfl, (blk_cell BK239.out 1).trans rfl, (blk_cell BK239.out 2).trans rfl⟩ (fun hHeld => ?_)
    clear hK K
    refine norm_ (a' := ?_) ?_ ?_
    rotate_left
    ·show Act.put _ (some 40) _ = _
     simp only [Act.put, List.setIfInBounds_toArray, List.set_cons_zero, List.set_cons_succ, i64_w, i32_w]
     rfl
    refine one_ (i := 5) (N := some 43) #[true, true, true, true, true, true, false, false, false, true, false, false] rfl rfl (one_of HT_.out (by kernel_rfl)) (by decide) (fun K hK => ?_)
    refine goes_ Try.func7 (by kernel_rfl) rfl #[.agg #[.int .i64 t254, .slice Ao42 t255.length co42], .agg #[.int .i64 t259, .int .i64 t260, .int .i64 t261], .int .i64 a2, .int .i64 a3] (by rfl) rfl rfl eA ?_
    with_reducible refine (impl_CacheTry.calls k t254 _ _ t255 t259 t260 t261 a2 a3 t262 t263 t266 _ ?side1 ?side2 A17.out).mono ?_
    (case side1 => repeat (first | exact (Kd.R_reads' HO257.out).2.2 | (with_reducible refine Kd.C_alloc ?_ _) | (with_reducible refine Kd.C_drewN ?_ _) | (with_reducible refine Kd.C_drew ?_)))
    (case side2 => exact (Kd.R_reads' HO257.out).2.1)
    rintro e w47 ⟨v264, rfl, ho0, hb⟩
    refine ⟨_, rfl, ?_⟩
    have n0_ := Aside0.mk (Kd.R_elder' (kR HO244.out) (Kd.R_base ho0) hb)
    have n1_ := Aside0.mk (Kd.R_elder' (kR HO251.out) (Kd.R_base ho0) hb)
    have n2_ := Aside0.mk (Kd.R_elder' (kR HO257.out) (Kd.R_base ho0) hb)
    have n3_ := Aside0.mk (Kd.R_lower (Kd.R_new' (Kd.R_new' (Kd.R_new' ho0 (Kd.R_lt (kR HO244.out))) (Kd.R_lt (kR HO251.out))) (Kd.R_lt (kR HO257.out))) (below_size bS))
    have n4_ := Aside0.mk (blk_below (kB BK238.out) hb)
    have n5_ := Aside0.mk (blk_below (kB BK239.out) hb)
    have n6_ := Aside0.mk (blk_below (kB BK253.out) hb)
    have n7_ := Aside0.mk (blk_below (kB BK258.out) hb)
    have n8_ := Aside0.mk (blk_below (kB BK267.out) hb)
    have n9_ := Aside0.mk (below_step bS hb)
    clear HO244 HO251 HO257 BK238 BK239 BK253 BK258 BK267 HB
    have HO244 := n0_
    have HO251 := n1_
    have HO257 := n2_
    have HO265 := n3_
    have BK238 := n4_
    have BK239 := n5_
    have BK253 := n6_
    have BK258 := n7_
    have BK267 := n8_
    have HB := n9_
    clear n0_ n1_ n2_ n3_ n4_ n5_ n6_ n7_ n8_ n9_
    (try clear hb)
    (try clear hb2)
    (try clear hk)
    (try clear hi)
    (try clear ho0)
    refine hK.out _ _ ⟨(blk_cell BK258.out 0).trans rfl, (blk_cell BK258.out 1).trans rfl, (blk_cell BK239.out 0).trans rfl, (blk_cell BK239.out 1).trans rfl, (blk_cell BK239.out 2).trans rfl⟩ (fun hHeld => ?_)
    clear hK K
    refine norm_ (a' := ?_) ?_ ?_
    rotate_left
    ·show Act.put _ (some 43) _ = _
     simp only [Act.put, List.setIfInBounds_toArray, List.set_cons_zero, List.set_cons_succ, i64_w, i32_w]
     rfl
    refine pure_ (i := 6) (N := some 37) (v := ?_) (a' := ?_) #[true, true, true, true, true, true, true, false, false, true, false, false] rfl rfl (any_of HT_.out (by kernel_rfl)) (fun _ _ _ h => h) (Or.inl ⟨by rfl, ?_⟩) ?_ ?_
    rotate_left
    ·intro w'
     go_simp
     with_reducible rfl
    rotate_left
    ·simp only [Act.put, List.setIfInBounds_toArray, List.set_cons_zero, List.set_cons_succ, i64_w, i32_w]
     rfl
    refine pure_ (i := 7) (N := some 44) (v := ?_) (a' := ?_) #[true, true, true, true, true, true, true, true, false, true, false, false] rfl rfl (any_of HT_.out (by kernel_rfl)) (fun _ _ _ h => h) (Or.inl ⟨by rfl, ?_⟩) ?_ ?_
    rotate_left
    ·intro w'
     go_simp
     with_reducible rfl
    rotate_left
    ·simp only [Act.put, List.setIfInBounds_toArray, List.set_cons_zero, List.set_cons_succ, i64_w, i32_w]
     rfl
    refine pure_ (i := 8) (N := some 45) (v := ?_) (a' := ?_) #[true, true, true, true, true, true, true, true, true, true, false, false] rfl rfl (any_of HT_.out (by kernel_rfl)) (fun _ _ _ h => h) (Or.inl ⟨by rfl, ?_⟩) ?_ ?_
    rotate_left
    ·intro w'
     go_simp
     with_reducible rfl
    rotate_left
    ·simp only [Act.put, List.setIfInBounds_toArray, List.set_cons_zero, List.set_cons_succ, i64_w, i32_w]
     rfl
    exact norm_ (by simp only [putAll, Act.put, List.setIfInBounds_toArray, List.set_cons_zero, List.set_cons_succ]) (hCont (v264, gb267) _ ⟨hHeld, (by (with_reducible repeat (first | apply Kd.R_alloc | apply Kd.R_drewN | apply Kd.R_drew)); exact Kd.R_mono HO244.out (fun _ hk => ⟨hk.1.1, ⟨hk.1.2, hk.2⟩⟩)), (by (with_reducible repeat (first | apply Kd.R_alloc | apply Kd.R_drewN | apply Kd.R_drew)); exact Kd.R_mono HO251.out (fun _ hk => ⟨hk.1.1, ⟨hk.1.2, hk.2⟩⟩)), (by (with_reducible repeat (first | apply Kd.R_alloc | apply Kd.R_drewN | apply Kd.R_drew)); exact Kd.R_mono HO257.out (fun _ hk => ⟨hk.1.1, ⟨hk.1.2, hk.2⟩⟩)), (by (with_reducible repeat (first | apply Kd.R_alloc | apply Kd.R_drewN | apply Kd.R_drew)); exact Kd.R_mono HO265.out (fun _ hk => ⟨hk.1.1.2, ⟨hk.1.2, hk.2⟩⟩)), (kB BK238.out), (kB BK239.out), (kB BK253.out), (kB BK258.out), (kB BK267.out), GW267.out, GE267.out, NB238_267.out, NB267_238.out, NB239_267.out, NB267_239.out, NB253_267.out, NB267_253.out, NB258_267.out, NB267_258.out, bS⟩)
  rintro ⟨v264, gb267⟩ w48 ⟨hS_, h0_, h1_, h2_, h3_, h4_, h5_, h6_, h7_, h8_, h9_, h10_, h11_, h12_, h13_, h14_, h15_, h16_, h17_, h18_, h19_⟩
  have n0_ : Aside0 (Kd.R k28 28 w48 w.heap.size (fun k_ => some k_ ≠ (.slice Ao32 t249.length co32 : Value).ownBlock ∧ some k_ ≠ (.slice Ao42 t255.length co42 : Value).ownBlock ∧ some k_ ≠ (v264 : Value).ownBlock) v243 t242) := ⟨h0_⟩
  have n1_ : Aside0 (Kd.R k28 28 w48 w.heap.size (fun k_ => some k_ ≠ (v243 : Value).ownBlock ∧ some k_ ≠ (.slice Ao42 t255.length co42 : Value).ownBlock ∧ some k_ ≠ (v264 : Value).ownBlock) (.slice Ao32 t249.length co32) t249) := ⟨h1_⟩
  have n2_ : Aside0 (Kd.R k28 28 w48 w.heap.size (fun k_ => some k_ ≠ (v243 : Value).ownBlock ∧ some k_ ≠ (.slice Ao32 t249.length co32 : Value).ownBlock ∧ some k_ ≠ (v264 : Value).ownBlock) (.slice Ao42 t255.length co42) t255) := ⟨h2_⟩
  have n3_ : Aside0 (Kd.R k28 28 w48 w.heap.size (fun k_ => some k_ ≠ (v243 : Value).ownBlock ∧ some k_ ≠ (.slice Ao32 t249.length co32 : Value).ownBlock ∧ some k_ ≠ (.slice Ao42 t255.length co42 : Value).ownBlock) v264 t263) := ⟨h3_⟩
  have n4_ : Aside0 (w48.heap[gb238]? = some (.cells #[.int .i64 a0_0, .slice A0_1 l0_1.length c0_1] 38 (0, 0))) := ⟨h4_⟩
  have n5_ : Aside0 (w48.heap[gb239]? = some (.cells #[.int .i64 a1_0, .int .i64 a1_1, .int .i64 a1_2] 39 (0, 0))) := ⟨h5_⟩
  have n6_ : Aside0 (w48.heap[gb253]? = some (.cells #[.int .i64 t248, .slice Ao32 t249.length co32] 26 (0, 0))) := ⟨h6_⟩
  have n7_ : Aside0 (w48.heap[gb258]? = some (.cells #[.int .i64 t254, .slice Ao42 t255.length co42] 26 (0, 0))) := ⟨h7_⟩
  have n8_ : Aside0 (w48.heap[gb267]? = some (.cells #[.int .i64 0, .slice none 0 0] 26 (0, 0))) := ⟨h8_⟩
  have n9_ : Aside0 (w.heap.size ≤ gb267) := ⟨h9_⟩
  have n10_ : Aside0 (w.heap.size ≤ gb267) := ⟨h10_⟩
  have n11_ : Aside0 (gb238 ≠ gb267) := ⟨h11_⟩
  have n12_ : Aside0 (gb267 ≠ gb238) := ⟨h12_⟩
  have n13_ : Aside0 (gb239 ≠ gb267) := ⟨h13_⟩
  have n14_ : Aside0 (gb267 ≠ gb239) := ⟨h14_⟩
  have n15_ : Aside0 (gb253 ≠ gb267) := ⟨h15_⟩
  have n16_ : Aside0 (gb267 ≠ gb253) := ⟨h16_⟩
  have n17_ : Aside0 (gb258 ≠ gb267) := ⟨h17_⟩
  have n18_ : Aside0 (gb267 ≠ gb258) := ⟨h18_⟩
  have n19_ : Aside0 (Below w.heap.size w w48) := ⟨h19_⟩
  clear HO244 HO251 HO257 BK238 BK239 BK253 BK258 HB h0_ h1_ h2_ h3_ h4_ h5_ h6_ h7_ h8_ h9_ h10_ h11_ h12_ h13_ h14_ h15_ h16_ h17_ h18_ h19_
  have HO244 := n0_
  have HO251 := n1_
  have HO257 := n2_
  have HO265 := n3_
  have BK238 := n4_
  have BK239 := n5_
  have BK253 := n6_
  have BK258 := n7_
  have BK267 := n8_
  have GW267 := n9_
  have GE267 := n10_
  have NB238_267 := n11_
  have NB267_238 := n12_
  have NB239_267 := n13_
  have NB267_239 := n14_
  have NB253_267 := n15_
  have NB267_253 := n16_
  have NB258_267 := n17_
  have NB267_258 := n18_
  have HB := n19_
  clear n0_ n1_ n2_ n3_ n4_ n5_ n6_ n7_ n8_ n9_ n10_ n11_ n12_ n13_ n14_ n15_ n16_ n17_ n18_ n19_
  have hHeld : w48.cell? ⟨gb258, 0, none⟩ = some (.int .i64 t254) ∧ w48.cell? ⟨gb258, 1, none⟩ = some (.slice Ao42 t255.length co42) ∧ w48.cell? ⟨gb239, 0, none⟩ = some (.int .i64 a1_0) ∧ w48.cell? ⟨gb239, 1, none⟩ = some (.int .i64 a1_1) ∧ w48.cell? ⟨gb239, 2, none⟩ = some (.int .i64 a1_2) := hS_
  obtain ⟨Ao50, co50, eo50⟩ := Kd.R_slice HO265.out
  (first | subst eo50 | (injection eo50 with f1_ f2_ f3_; have f4_ := f1_.symm; have f5_ := f3_.symm; clear f1_ f2_ f3_; subst f4_; subst f5_))
  refine norm_ (a' := ?_) ?_ ?_
  rotate_left
  ·simp only [putAll, Act.put, List.setIfInBounds_toArray, List.set_cons_zero, List.set_cons_succ]
   rfl
  refine one_ (i := 10) (N := none) #[true, true, true, true, true, true, true, true, true, true, true, false] rfl rfl (one_of HT_.out (by kernel_rfl)) (by decide) (fun K hK => ?_)
  have hs49 : w48.cell? ⟨gb267, 0, none⟩ = some (.int .i64 0) := (blk_cell BK267.out 0).trans rfl
  have hfs49 := blk_frozen BK267.out 0
  have hns49_0 := NB238_267.out
  have hns49_1 := NB239_267.out
  have hns49_2 := NB253_267.out
  have hns49_3 := NB258_267.out
  have hms49_0 := NB267_238.out
  have hms49_1 := NB267_239.out
  have hms49_2 := NB267_253.out
  have hms49_3 := NB267_258.out
  have hs51 : w48.cell? ⟨gb267, 1, none⟩ = some (.slice none 0 0) := (blk_cell BK267.out 1).trans rfl
  have hfs51 := blk_frozen BK267.out 1
  have hns51_0 := NB238_267.out
  have hns51_1 := NB239_267.out
  have hns51_2 := NB253_267.out
  have hns51_3 := NB258_267.out
  have hms51_0 := NB267_238.out
  have hms51_1 := NB267_239.out
  have hms51_2 := NB267_253.out
  have hms51_3 := NB267_258.out
  refine skip_ (w1 := ?_) (by rfl) rfl ?_ ?_
  rotate_left
  ·go_simp
   rfl
  refine hK.out _ _ ⟨((cell_far (p := ⟨gb267, _, none⟩) NB258_267.out _).trans (((cell_far (p := ⟨gb267, _, none⟩) NB258_267.out _).trans (hHeld.1)))), ((cell_far (p := ⟨gb267, _, none⟩) NB258_267.out _).trans (((cell_far (p := ⟨gb267, _, none⟩) NB258_267.out _).trans (hHeld.2.1)))), ((cell_far (p := ⟨gb267, _, none⟩) NB239_267.out _).trans (((cell_far (p := ⟨gb267, _, none⟩) NB239_267.out _).trans (hHeld.2.2.1)))), ((cell_far (p := ⟨gb267, _, none⟩) NB239_267.out _).trans (((cell_far (p := ⟨gb267, _, none⟩) NB239_267.out _).trans (hHeld.2.2.2.1)))), ((cell_far (p := ⟨gb267, _, none⟩) NB239_267.out _).trans (((cell_far (p := ⟨gb267, _, none⟩) NB239_267.out _).trans (hHeld.2.2.2.2))))⟩ (fun hHeld => ?_)
  clear hK K
  refine pure_ (i := 11) (N := some 14) (v := ?_) (a' := ?_) #[true, true, true, true, true, true, true, true, true, true, true, true] rfl rfl (any_of HT_.out (by kernel_rfl)) (fun _ _ _ h => h) (Or.inl ⟨by rfl, ?_⟩) ?_ ?_
  rotate_left
  ·intro w'
   go_simp
   with_reducible rfl
  rotate_left
  ·simp only [Act.put, List.setIfInBounds_toArray, List.set_cons_zero, List.set_cons_succ, i64_w, i32_w]
   rfl
  refine done_ (done_of HT_.out (by kernel_rfl)) ?_
  go_upto_region 8 with (fail)
  go_cut [54] (fun v54 wc => ∃ (kq : Nat) (x54_17 : Bool), v54 = .bool x54_17 ∧ Aside0 (laws_FnExactCacheTry.j0 kq a2 a3 t252 t266 x54_17 a0_0 l0_1 a1_0 a1_1 a1_2 t248 t249 t254 t255 t262 t263 = some r) ∧ Aside0 (kq ≤ k) ∧ Aside0 (Kd.R k28 28 wc w.heap.size (fun k_ => some k_ ≠ ((.slice Ao42 t255.length co42) : Value).ownBlock ∧ some k_ ≠ ((.slice Ao50 t263.length co50) : Value).ownBlock) (.slice Ao32 t249.length co32) t249) ∧ Aside0 (Kd.R k28 28 wc w.heap.size (fun k_ => some k_ ≠ ((.slice Ao32 t249.length co32) : Value).ownBlock ∧ some k_ ≠ ((.slice Ao50 t263.length co50) : Value).ownBlock) (.slice Ao42 t255.length co42) t255) ∧ Aside0 (Kd.R k28 28 wc w.heap.size (fun k_ => some k_ ≠ ((.slice Ao32 t249.length co32) : Value).ownBlock ∧ some k_ ≠ ((.slice Ao42 t255.length co42) : Value).ownBlock) (.slice Ao50 t263.length co50) t263) ∧ Aside0 (wc.heap[gb238]? = some (.cells #[.int .i64 a0_0, (.slice A0_1 l0_1.length c0_1)] 38 (0, 0))) ∧ Aside0 (wc.heap[gb239]? = some (.cells #[.int .i64 a1_0, .int .i64 a1_1, .int .i64 a1_2] 39 (0, 0))) ∧ Aside0 (wc.heap[gb253]? = some (.cells #[.int .i64 t248, (.slice Ao32 t249.length co32)] 26 (0, 0))) ∧ Aside0 (wc.heap[gb258]? = some (.cells #[.int .i64 t254, (.slice Ao42 t255.length co42)] 26 (0, 0))) ∧ Aside0 (wc.heap[gb267]? = some (.cells #[.int .i64 t262, (.slice Ao50 t263.length co50)] 26 (0, 0))) ∧ Aside0 (Below w.heap.size w wc))
  case first =>
   have H := HC18.out
   clear HC18
   replace H := Option.bind_eq_some_iff.mp H
   obtain ⟨t268, A520, H⟩ := H
   replace H : (if t268 = true then (laws_FnExactCacheTry.j0 k a2 a3 t252 t266 (t266 != t252) a0_0 l0_1 a1_0 a1_1 a1_2 t248 t249 t254 t255 t262 t263) else (laws_FnExactCacheTry.j0 k a2 a3 t252 t266 true a0_0 l0_1 a1_0 a1_1 a1_2 t248 t249 t254 t255 t262 t263)) = some r := H
   have A52 := Aside0.mk A520
   clear A520
   by_cases c53 : t268 = true
   ·subst c53
    have H1 : (laws_FnExactCacheTry.j0 k a2 a3 t252 t266 (t266 != t252) a0_0 l0_1 a1_0 a1_1 a1_2 t248 t249 t254 t255 t262 t263) = some r := by rw [if_pos rfl] at H; exact H
    clear H
    have H := H1
    clear H1
    have H' := Aside0.mk H
    clear H
    have hnb54 := NB267_238.out
    have hnc54 := NB238_267.out
    have hnb55 := NB267_239.out
    have hnc55 := NB239_267.out
    have hnb56 := NB267_253.out
    have hnc56 := NB253_267.out
    have hnb57 := NB267_258.out
    have hnc57 := NB258_267.out
    have hcz58_0 : w48.cell? ⟨gb267, 0, none⟩ = some (.int .i64 0) := (blk_cell BK267.out 0).trans rfl
    have hcz58_1 : w48.cell? ⟨gb267, 1, none⟩ = some (.slice none 0 0) := (blk_cell BK267.out 1).trans rfl
    have hfz58_0 := blk_frozen BK267.out 0
    have hfz58_1 := blk_frozen BK267.out 1
    have hnb59 := NB253_238.out
    have hnc59 := NB238_253.out
    have hnb60 := NB253_239.out
    have hnc60 := NB239_253.out
    have hnb61 := NB253_258.out
    have hnc61 := NB258_253.out
    have hcz62_0 : w48.cell? ⟨gb253, 0, none⟩ = some (.int .i64 t248) := (blk_cell BK253.out 0).trans rfl
    have hcz62_1 : w48.cell? ⟨gb253, 1, none⟩ = some (.slice Ao32 t249.length co32) := (blk_cell BK253.out 1).trans rfl
    have hfz62_0 := blk_frozen BK253.out 0
    have hfz62_1 := blk_frozen BK253.out 1
    go_wp2_with (first | ((with_reducible refine gate_callee (f := 15) rfl ?_); refine goesL_ (some 48) rfl rfl Try.func15 (by kernel_rfl) rfl #[.agg #[.int .i64 t262, .slice Ao50 t263.length co50], .agg #[.int .i64 t248, .slice Ao32 t249.length co32]] rfl eA ?_; (with_reducible refine (laws_eqCache.calls k t262 _ _ t263 t248 _ _ t249 true _ ?side1 ?side2 ?side3 ?side4 A52.out).mono ?_); (case side1 => refine (Kd.R_reads' (e := 28) (base := w.heap.size) (ok := fun k_ => (some k_ ≠ (v243 : Value).ownBlock ∧ (some k_ ≠ (.slice Ao32 t249.length co32 : Value).ownBlock ∧ some k_ ≠ (.slice Ao42 t255.length co42 : Value).ownBlock))) (n := t263.length) (c := co50) ?_).2.2; exact (by (with_reducible repeat (first | apply Kd.R_alloc | apply Kd.R_drewN | apply Kd.R_drew)); exact (Kd.R_mono (Kd.R_far (p := ⟨gb267, 1, none⟩) (Kd.R_far (p := ⟨gb267, 0, none⟩) (Kd.R_types HO265.out BK267.out (by decide)) (fun _ hk => hk.2) (.int .i64 t262)) (fun _ hk => hk.2) (.slice Ao50 t263.length co50)) (fun _ h_ => h_.1)))); (case side2 => exact (Kd.R_reads' HO265.out).2.1); (case side3 => refine (Kd.R_reads' (e := 28) (base := w.heap.size) (ok := fun k_ => (some k_ ≠ (v243 : Value).ownBlock ∧ (some k_ ≠ (.slice Ao42 t255.length co42 : Value).ownBlock ∧ some k_ ≠ (.slice Ao50 t263.length co50 : Value).ownBlock))) (n := t249.length) (c := co32) ?_).2.2; exact (by (with_reducible repeat (first | apply Kd.R_alloc | apply Kd.R_drewN | apply Kd.R_drew)); exact (Kd.R_mono (Kd.R_far (p := ⟨gb267, 1, none⟩) (Kd.R_far (p := ⟨gb267, 0, none⟩) (Kd.R_types HO251.out BK267.out (by decide)) (fun _ hk => hk.2) (.int .i64 t262)) (fun _ hk => hk.2) (.slice Ao50 t263.length co50)) (fun _ h_ => h_.1)))); (case side4 => exact (Kd.R_reads' HO251.out).2.1); rintro e w63 ⟨rfl, hb⟩; refine ⟨_, rfl, ?_⟩; have n0_ := Aside0.mk (Kd.R_below (by (with_reducible repeat (first | apply Kd.R_alloc | apply Kd.R_drewN | apply Kd.R_drew)); exact (Kd.R_mono (Kd.R_far (p := ⟨gb267, 1, none⟩) (Kd.R_far (p := ⟨gb267, 0, none⟩) (Kd.R_types HO244.out BK267.out (by decide)) (fun _ hk => hk.2) (.int .i64 t262)) (fun _ hk => hk.2) (.slice Ao50 t263.length co50)) (fun _ h_ => h_.1))) hb); have n1_ := Aside0.mk (Kd.R_below (by (with_reducible repeat (first | apply Kd.R_alloc | apply Kd.R_drewN | apply Kd.R_drew)); exact (Kd.R_mono (Kd.R_far (p := ⟨gb267, 1, none⟩) (Kd.R_far (p := ⟨gb267, 0, none⟩) (Kd.R_types HO251.out BK267.out (by decide)) (fun _ hk => hk.2) (.int .i64 t262)) (fun _ hk => hk.2) (.slice Ao50 t263.length co50)) (fun _ h_ => h_.1))) hb); have n2_ := Aside0.mk (Kd.R_below (by (with_reducible repeat (first | apply Kd.R_alloc | apply Kd.R_drewN | apply Kd.R_drew)); exact (Kd.R_mono (Kd.R_far (p := ⟨gb267, 1, none⟩) (Kd.R_far (p := ⟨gb267, 0, none⟩) (Kd.R_types HO257.out BK267.out (by decide)) (fun _ hk => hk.2) (.int .i64 t262)) (fun _ hk => hk.2) (.slice Ao50 t263.length co50)) (fun _ h_ => h_.1))) hb); have n3_ := Aside0.mk (Kd.R_below (by (with_reducible repeat (first | apply Kd.R_alloc | apply Kd.R_drewN | apply Kd.R_drew)); exact (Kd.R_mono (Kd.R_far (p := ⟨gb267, 1, none⟩) (Kd.R_far (p := ⟨gb267, 0, none⟩) (Kd.R_types HO265.out BK267.out (by decide)) (fun _ hk => hk.2) (.int .i64 t262)) (fun _ hk => hk.2) (.slice Ao50 t263.length co50)) (fun _ h_ => h_.1))) hb); have n4_ := Aside0.mk (blk_below (g := gb238) (o := .cells #[.int .i64 a0_0, .slice A0_1 l0_1.length c0_1] 38 (0, 0)) (by (with_reducible repeat (first | refine blk_drewN ?_ _ | refine blk_drew ?_ | refine blk_alloc ?_ _)); refine blk_far ?_ NB238_267.out _; (with_reducible repeat (first | refine blk_drewN ?_ _ | refine blk_drew ?_ | refine blk_alloc ?_ _)); refine blk_far ?_ NB238_267.out _; (with_reducible repeat (first | refine blk_drewN ?_ _ | refine blk_drew ?_ | refine blk_alloc ?_ _)); exact BK238.out) hb); have n5_ := Aside0.mk (blk_below (g := gb239) (o := .cells #[.int .i64 a1_0, .int .i64 a1_1, .int .i64 a1_2] 39 (0, 0)) (by (with_reducible repeat (first | refine blk_drewN ?_ _ | refine blk_drew ?_ | refine blk_alloc ?_ _)); refine blk_far ?_ NB239_267.out _; (with_reducible repeat (first | refine blk_drewN ?_ _ | refine blk_drew ?_ | refine blk_alloc ?_ _)); refine blk_far ?_ NB239_267.out _; (with_reducible repeat (first | refine blk_drewN ?_ _ | refine blk_drew ?_ | refine blk_alloc ?_ _)); exact BK239.out) hb); have n6_ := Aside0.mk (blk_below (g := gb253) (o := .cells #[.int .i64 t248, .slice Ao32 t249.length co32] 26 (0, 0)) (by (with_reducible repeat (first | refine blk_drewN ?_ _ | refine blk_drew ?_ | refine blk_alloc ?_ _)); refine blk_far ?_ NB253_267.out _; (with_reducible repeat (first | refine blk_drewN ?_ _ | refine blk_drew ?_ | refine blk_alloc ?_ _)); refine blk_far ?_ NB253_267.out _; (with_reducible repeat (first | refine blk_drewN ?_ _ | refine blk_drew ?_ | refine blk_alloc ?_ _)); exact BK253.out) hb); have n7_ := Aside0.mk (blk_below (g := gb258) (o := .cells #[.int .i64 t254, .slice Ao42 t255.length co42] 26 (0, 0)) (by (with_reducible repeat (first | refine blk_drewN ?_ _ | refine blk_drew ?_ | refine blk_alloc ?_ _)); refine blk_far ?_ NB258_267.out _; (with_reducible repeat (first | refine blk_drewN ?_ _ | refine blk_drew ?_ | refine blk_alloc ?_ _)); refine blk_far ?_ NB258_267.out _; (with_reducible repeat (first | refine blk_drewN ?_ _ | refine blk_drew ?_ | refine blk_alloc ?_ _)); exact BK258.out) hb); have n8_ := Aside0.mk (blk_below (g := gb267) (o := .cells #[.int .i64 t262, .slice Ao50 t263.length co50] 26 (0, 0)) (by (with_reducible repeat (first | refine blk_drewN ?_ _ | refine blk_drew ?_ | refine blk_alloc ?_ _)); refine blk_put (cs := #[.int .i64 t262, .slice none 0 0]) ?_ 1 _ rfl; (with_reducible repeat (first | refine blk_drewN ?_ _ | refine blk_drew ?_ | refine blk_alloc ?_ _)); refine blk_put (cs := #[.int .i64 0, .slice none 0 0]) ?_ 0 _ rfl; (with_reducible repeat (first | refine blk_drewN ?_ _ | refine blk_drew ?_ | refine blk_alloc ?_ _)); exact BK267.out) hb); have n9_ := Aside0.mk (below_step bS hb); clear HO244; clear HO251; clear HO257; clear HO265; clear BK238; clear BK239; clear BK253; clear BK258; clear BK267; clear HB; have HO244 := n0_; have HO251 := n1_; have HO257 := n2_; have HO265 := n3_; have BK238 := n4_; have BK239 := n5_; have BK253 := n6_; have BK258 := n7_; have BK267 := n8_; have HB := n9_; clear n0_ n1_ n2_ n3_ n4_ n5_ n6_ n7_ n8_ n9_; (try clear hb); (try clear hb2); (try clear hk); (try clear hi)))
    go_meet
    case rel => exact ⟨_, ((t266 != t252)), eX, H', ⟨by first | omega | exact Nat.le_refl _⟩, ⟨by (with_reducible repeat (first | apply Kd.R_alloc | apply Kd.R_drewN | apply Kd.R_drew)); exact Kd.R_mono HO251.out (fun _ hk => ⟨hk.2.1, hk.2.2⟩)⟩, ⟨by (with_reducible repeat (first | apply Kd.R_alloc | apply Kd.R_drewN | apply Kd.R_drew)); exact Kd.R_mono HO257.out (fun _ hk => ⟨hk.2.1, hk.2.2⟩)⟩, ⟨by (with_reducible repeat (first | apply Kd.R_alloc | apply Kd.R_drewN | apply Kd.R_drew)); exact Kd.R_mono HO265.out (fun _ hk => ⟨hk.2.1, hk.2.2⟩)⟩, ⟨by (with_reducible repeat (first | refine blk_drewN ?_ _ | refine blk_drew ?_ | refine blk_alloc ?_ _)); exact BK238.out⟩, ⟨by (with_reducible repeat (first | refine blk_drewN ?_ _ | refine blk_drew ?_ | refine blk_alloc ?_ _)); exact BK239.out⟩, ⟨by (with_reducible repeat (first | refine blk_drewN ?_ _ | refine blk_drew ?_ | refine blk_alloc ?_ _)); exact BK253.out⟩, ⟨by (with_reducible repeat (first | refine blk_drewN ?_ _ | refine blk_drew ?_ | refine blk_alloc ?_ _)); exact BK258.out⟩, ⟨by (with_reducible repeat (first | refine blk_drewN ?_ _ | refine blk_drew ?_ | refine blk_alloc ?_ _)); exact BK267.out⟩, ⟨by repeat (first | (with_reducible first | exact HB.out | apply below_alloc | apply pw_below_drewN | apply below_drew1 | refine below_set ?_ GE238.out | refine below_set ?_ GE239.out | refine below_set ?_ GE253.out | refine below_set ?_ GE258.out | refine below_set ?_ GE267.out) | exact HB.out)⟩⟩
   ·replace c53 := Bool.eq_false_iff.mpr c53
    subst c53
    have H1 : (laws_FnExactCacheTry.j0 k a2 a3 t252 t266 true a0_0 l0_1 a1_0 a1_1 a1_2 t248 t249 t254 t255 t262 t263) = some r := by rw [if_neg (show ¬ (false = true) by decide)] at H; exact H
    clear H
    have H := H1
    clear H1
    have H' := Aside0.mk H
    clear H
    have hnb64 := NB267_238.out
    have hnc64 := NB238_267.out
    have hnb65 := NB267_239.out
    have hnc65 := NB239_267.out
    have hnb66 := NB267_253.out
    have hnc66 := NB253_267.out
    have hnb67 := NB267_258.out
    have hnc67 := NB258_267.out
    have hcz68_0 : w48.cell? ⟨gb267, 0, none⟩ = some (.int .i64 0) := (blk_cell BK267.out 0).trans rfl
    have hcz68_1 : w48.cell? ⟨gb267, 1, none⟩ = some (.slice none 0 0) := (blk_cell BK267.out 1).trans rfl
    have hfz68_0 := blk_frozen BK267.out 0
    have hfz68_1 := blk_frozen BK267.out 1
    have hnb69 := NB253_238.out
    have hnc69 := NB238_253.out
    have hnb70 := NB253_239.out
    have hnc70 := NB239_253.out
    have hnb71 := NB253_258.out
    have hnc71 := NB258_253.out
    have hcz72_0 : w48.cell? ⟨gb253, 0, none⟩ = some (.int .i64 t248) := (blk_cell BK253.out 0).trans rfl
    have hcz72_1 : w48.cell? ⟨gb253, 1, none⟩ = some (.slice Ao32 t249.length co32) := (blk_cell BK253.out 1).trans rfl
    have hfz72_0 := blk_frozen BK253.out 0
    have hfz72_1 := blk_frozen BK253.out 1
    go_wp2_with (first | ((with_reducible refine gate_callee (f := 15) rfl ?_); refine goesL_ (some 48) rfl rfl Try.func15 (by kernel_rfl) rfl #[.agg #[.int .i64 t262, .slice Ao50 t263.length co50], .agg #[.int .i64 t248, .slice Ao32 t249.length co32]] rfl eA ?_; (with_reducible refine (laws_eqCache.calls k t262 _ _ t263 t248 _ _ t249 false _ ?side1 ?side2 ?side3 ?side4 A52.out).mono ?_); (case side1 => refine (Kd.R_reads' (e := 28) (base := w.heap.size) (ok := fun k_ => (some k_ ≠ (v243 : Value).ownBlock ∧ (some k_ ≠ (.slice Ao32 t249.length co32 : Value).ownBlock ∧ some k_ ≠ (.slice Ao42 t255.length co42 : Value).ownBlock))) (n := t263.length) (c := co50) ?_).2.2; exact (by (with_reducible repeat (first | apply Kd.R_alloc | apply Kd.R_drewN | apply Kd.R_drew)); exact (Kd.R_mono (Kd.R_far (p := ⟨gb267, 1, none⟩) (Kd.R_far (p := ⟨gb267, 0, none⟩) (Kd.R_types HO265.out BK267.out (by decide)) (fun _ hk => hk.2) (.int .i64 t262)) (fun _ hk => hk.2) (.slice Ao50 t263.length co50)) (fun _ h_ => h_.1)))); (case side2 => exact (Kd.R_reads' HO265.out).2.1); (case side3 => refine (Kd.R_reads' (e := 28) (base := w.heap.size) (ok := fun k_ => (some k_ ≠ (v243 : Value).ownBlock ∧ (some k_ ≠ (.slice Ao42 t255.length co42 : Value).ownBlock ∧ some k_ ≠ (.slice Ao50 t263.length co50 : Value).ownBlock))) (n := t249.length) (c := co32) ?_).2.2; exact (by (with_reducible repeat (first | apply Kd.R_alloc | apply Kd.R_drewN | apply Kd.R_drew)); exact (Kd.R_mono (Kd.R_far (p := ⟨gb267, 1, none⟩) (Kd.R_far (p := ⟨gb267, 0, none⟩) (Kd.R_types HO251.out BK267.out (by decide)) (fun _ hk => hk.2) (.int .i64 t262)) (fun _ hk => hk.2) (.slice Ao50 t263.length co50)) (fun _ h_ => h_.1)))); (case side4 => exact (Kd.R_reads' HO251.out).2.1); rintro e w73 ⟨rfl, hb⟩; refine ⟨_, rfl, ?_⟩; have n0_ := Aside0.mk (Kd.R_below (by (with_reducible repeat (first | apply Kd.R_alloc | apply Kd.R_drewN | apply Kd.R_drew)); exact (Kd.R_mono (Kd.R_far (p := ⟨gb267, 1, none⟩) (Kd.R_far (p := ⟨gb267, 0, none⟩) (Kd.R_types HO244.out BK267.out (by decide)) (fun _ hk => hk.2) (.int .i64 t262)) (fun _ hk => hk.2) (.slice Ao50 t263.length co50)) (fun _ h_ => h_.1))) hb); have n1_ := Aside0.mk (Kd.R_below (by (with_reducible repeat (first | apply Kd.R_alloc | apply Kd.R_drewN | apply Kd.R_drew)); exact (Kd.R_mono (Kd.R_far (p := ⟨gb267, 1, none⟩) (Kd.R_far (p := ⟨gb267, 0, none⟩) (Kd.R_types HO251.out BK267.out (by decide)) (fun _ hk => hk.2) (.int .i64 t262)) (fun _ hk => hk.2) (.slice Ao50 t263.length co50)) (fun _ h_ => h_.1))) hb); have n2_ := Aside0.mk (Kd.R_below (by (with_reducible repeat (first | apply Kd.R_alloc | apply Kd.R_drewN | apply Kd.R_drew)); exact (Kd.R_mono (Kd.R_far (p := ⟨gb267, 1, none⟩) (Kd.R_far (p := ⟨gb267, 0, none⟩) (Kd.R_types HO257.out BK267.out (by decide)) (fun _ hk => hk.2) (.int .i64 t262)) (fun _ hk => hk.2) (.slice Ao50 t263.length co50)) (fun _ h_ => h_.1))) hb); have n3_ := Aside0.mk (Kd.R_below (by (with_reducible repeat (first | apply Kd.R_alloc | apply Kd.R_drewN | apply Kd.R_drew)); exact (Kd.R_mono (Kd.R_far (p := ⟨gb267, 1, none⟩) (Kd.R_far (p := ⟨gb267, 0, none⟩) (Kd.R_types HO265.out BK267.out (by decide)) (fun _ hk => hk.2) (.int .i64 t262)) (fun _ hk => hk.2) (.slice Ao50 t263.length co50)) (fun _ h_ => h_.1))) hb); have n4_ := Aside0.mk (blk_below (g := gb238) (o := .cells #[.int .i64 a0_0, .slice A0_1 l0_1.length c0_1] 38 (0, 0)) (by (with_reducible repeat (first | refine blk_drewN ?_ _ | refine blk_drew ?_ | refine blk_alloc ?_ _)); refine blk_far ?_ NB238_267.out _; (with_reducible repeat (first | refine blk_drewN ?_ _ | refine blk_drew ?_ | refine blk_alloc ?_ _)); refine blk_far ?_ NB238_267.out _; (with_reducible repeat (first | refine blk_drewN ?_ _ | refine blk_drew ?_ | refine blk_alloc ?_ _)); exact BK238.out) hb); have n5_ := Aside0.mk (blk_below (g := gb239) (o := .cells #[.int .i64 a1_0, .int .i64 a1_1, .int .i64 a1_2] 39 (0, 0)) (by (with_reducible repeat (first | refine blk_drewN ?_ _ | refine blk_drew ?_ | refine blk_alloc ?_ _)); refine blk_far ?_ NB239_267.out _; (with_reducible repeat (first | refine blk_drewN ?_ _ | refine blk_drew ?_ | refine blk_alloc ?_ _)); refine blk_far ?_ NB239_267.out _; (with_reducible repeat (first | refine blk_drewN ?_ _ | refine blk_drew ?_ | refine blk_alloc ?_ _)); exact BK239.out) hb); have n6_ := Aside0.mk (blk_below (g := gb253) (o := .cells #[.int .i64 t248, .slice Ao32 t249.length co32] 26 (0, 0)) (by (with_reducible repeat (first | refine blk_drewN ?_ _ | refine blk_drew ?_ | refine blk_alloc ?_ _)); refine blk_far ?_ NB253_267.out _; (with_reducible repeat (first | refine blk_drewN ?_ _ | refine blk_drew ?_ | refine blk_alloc ?_ _)); refine blk_far ?_ NB253_267.out _; (with_reducible repeat (first | refine blk_drewN ?_ _ | refine blk_drew ?_ | refine blk_alloc ?_ _)); exact BK253.out) hb); have n7_ := Aside0.mk (blk_below (g := gb258) (o := .cells #[.int .i64 t254, .slice Ao42 t255.length co42] 26 (0, 0)) (by (with_reducible repeat (first | refine blk_drewN ?_ _ | refine blk_drew ?_ | refine blk_alloc ?_ _)); refine blk_far ?_ NB258_267.out _; (with_reducible repeat (first | refine blk_drewN ?_ _ | refine blk_drew ?_ | refine blk_alloc ?_ _)); refine blk_far ?_ NB258_267.out _; (with_reducible repeat (first | refine blk_drewN ?_ _ | refine blk_drew ?_ | refine blk_alloc ?_ _)); exact BK258.out) hb); have n8_ := Aside0.mk (blk_below (g := gb267) (o := .cells #[.int .i64 t262, .slice Ao50 t263.length co50] 26 (0, 0)) (by (with_reducible repeat (first | refine blk_drewN ?_ _ | refine blk_drew ?_ | refine blk_alloc ?_ _)); refine blk_put (cs := #[.int .i64 t262, .slice none 0 0]) ?_ 1 _ rfl; (with_reducible repeat (first | refine blk_drewN ?_ _ | refine blk_drew ?_ | refine blk_alloc ?_ _)); refine blk_put (cs := #[.int .i64 0, .slice none 0 0]) ?_ 0 _ rfl; (with_reducible repeat (first | refine blk_drewN ?_ _ | refine blk_drew ?_ | refine blk_alloc ?_ _)); exact BK267.out) hb); have n9_ := Aside0.mk (below_step bS hb); clear HO244; clear HO251; clear HO257; clear HO265; clear BK238; clear BK239; clear BK253; clear BK258; clear BK267; clear HB; have HO244 := n0_; have HO251 := n1_; have HO257 := n2_; have HO265 := n3_; have BK238 := n4_; have BK239 := n5_; have BK253 := n6_; have BK258 := n7_; have BK267 := n8_; have HB := n9_; clear n0_ n1_ n2_ n3_ n4_ n5_ n6_ n7_ n8_ n9_; (try clear hb); (try clear hb2); (try clear hk); (try clear hi)))
    go_meet
    case rel => exact ⟨_, (true), eX, H', ⟨by first | omega | exact Nat.le_refl _⟩, ⟨by (with_reducible repeat (first | apply Kd.R_alloc | apply Kd.R_drewN | apply Kd.R_drew)); exact Kd.R_mono HO251.out (fun _ hk => ⟨hk.2.1, hk.2.2⟩)⟩, ⟨by (with_reducible repeat (first | apply Kd.R_alloc | apply Kd.R_drewN | apply Kd.R_drew)); exact Kd.R_mono HO257.out (fun _ hk => ⟨hk.2.1, hk.2.2⟩)⟩, ⟨by (with_reducible repeat (first | apply Kd.R_alloc | apply Kd.R_drewN | apply Kd.R_drew)); exact Kd.R_mono HO265.out (fun _ hk => ⟨hk.2.1, hk.2.2⟩)⟩, ⟨by (with_reducible repeat (first | refine blk_drewN ?_ _ | refine blk_drew ?_ | refine blk_alloc ?_ _)); exact BK238.out⟩, ⟨by (with_reducible repeat (first | refine blk_drewN ?_ _ | refine blk_drew ?_ | refine blk_alloc ?_ _)); exact BK239.out⟩, ⟨by (with_reducible repeat (first | refine blk_drewN ?_ _ | refine blk_drew ?_ | refine blk_alloc ?_ _)); exact BK253.out⟩, ⟨by (with_reducible repeat (first | refine blk_drewN ?_ _ | refine blk_drew ?_ | refine blk_alloc ?_ _)); exact BK258.out⟩, ⟨by (with_reducible repeat (first | refine blk_drewN ?_ _ | refine blk_drew ?_ | refine blk_alloc ?_ _)); exact BK267.out⟩, ⟨by repeat (first | (with_reducible first | exact HB.out | apply below_alloc | apply pw_below_drewN | apply below_drew1 | refine below_set ?_ GE238.out | refine below_set ?_ GE239.out | refine below_set ?_ GE253.out | refine below_set ?_ GE258.out | refine below_set ?_ GE267.out) | exact HB.out)⟩⟩
  case rest =>
   clear HC18
   try clear c1
   try clear p2
   try clear c5
   try clear c6
   try clear c7
   try clear c14
   try clear c15
   try clear c53
   try clear c54
   try clear c55
   try clear c56
   try clear c57
   try clear c59
   try clear c60
   try clear c61
   try clear c64
   try clear c65
   try clear c66
   try clear c67
   try clear c69
   try clear c70
   try clear c71
   try clear hcz58_0
   try clear hcz58_1
   try clear hcz62_0
   try clear hcz62_1
   try clear hcz68_0
   try clear hcz68_1
   try clear hcz72_0
   try clear hcz72_1
   try clear hfz58_0
   try clear hfz58_1
   try clear hfz62_0
   try clear hfz62_1
   try clear hfz68_0
   try clear hfz68_1
   try clear hfz72_0
   try clear hfz72_1
   obtain ⟨kq, x54_17, rfl, HA, HJ17, HO_254001, HO_259001, HO_268001, BK238, BK239, BK253, BK258, BK267, HB⟩ := hcut
   cases kq with
   | zero => exact absurd HA.out (by simp [laws_FnExactCacheTry.j0])
   | succ kj17 =>
    have H := HA.out
    clear HA
    simp only [laws_FnExactCacheTry.j0] at H
    by_cases c74 : x54_17 = true
    ·subst c74
     have H1 : (some false) = some r := by rw [if_pos rfl] at H; exact H
     clear H
     have H := H1
     clear H1
     rw [hr_true.out] at H
     exact absurd H (by simp)
    ·replace c74 := Bool.eq_false_iff.mpr c74
     subst c74
     have H1 : ((laws_toCache.f kj17 a0_0 l0_1).bind fun bt269 => ((laws_eqCache.f kj17 t254 t255 bt269.1 bt269.2).bind fun t273 => (if t273 = true then ((laws_markCache.f kj17 t254 t255 1).bind fun bt274 => (if bt274.1 < 0 then (laws_FnExactCacheTry.j1 kj17 a2 a3 t252 true a0_0 l0_1 a1_0 a1_1 a1_2 t248 t249 t262 t263) else ((laws_eqCache.f kj17 t262 t263 t248 t249).bind fun t276 => (if t276 = true then (laws_FnExactCacheTry.j1 kj17 a2 a3 t252 (t266 != t252) a0_0 l0_1 a1_0 a1_1 a1_2 t248 t249 t262 t263) else (laws_FnExactCacheTry.j1 kj17 a2 a3 t252 true a0_0 l0_1 a1_0 a1_1 a1_2 t248 t249 t262 t263))))) else (some false)))) = some r := by rw [if_neg (show ¬ (false = true) by decide)] at H; exact H
     clear H
     have H := H1
     clear H1
     replace H := Option.bind_eq_some_iff.mp H
     obtain ⟨⟨t269, t270⟩, A750, H⟩ := H
     replace H : ((laws_eqCache.f kj17 t254 t255 t269 t270).bind fun t273 => (if t273 = true then ((laws_markCache.f kj17 t254 t255 1).bind fun bt274 => (if bt274.1 < 0 then (laws_FnExactCacheTry.j1 kj17 a2 a3 t252 true a0_0 l0_1 a1_0 a1_1 a1_2 t248 t249 t262 t263) else ((laws_eqCache.f kj17 t262 t263 t248 t249).bind fun t276 => (if t276 = true then (laws_FnExactCacheTry.j1 kj17 a2 a3 t252 (t266 != t252) a0_0 l0_1 a1_0 a1_1 a1_2 t248 t249 t262 t263) else (laws_FnExactCacheTry.j1 kj17 a2 a3 t252 true a0_0 l0_1 a1_0 a1_1 a1_2 t248 t249 t262 t263))))) else (some false))) = some r := H
     have A75 := Aside0.mk A750
     clear A750
     replace H := Option.bind_eq_some_iff.mp H
     obtain ⟨t273, A760, H⟩ := H
     replace H : (if t273 = true then ((laws_markCache.f kj17 t254 t255 1).bind fun bt274 => (if bt274.1 < 0 then (laws_FnExactCacheTry.j1 kj17 a2 a3 t252 true a0_0 l0_1 a1_0 a1_1 a1_2 t248 t249 t262 t263) else ((laws_eqCache.f kj17 t262 t263 t248 t249).bind fun t276 => (if t276 = true then (laws_FnExactCacheTry.j1 kj17 a2 a3 t252 (t266 != t252) a0_0 l0_1 a1_0 a1_1 a1_2 t248 t249 t262 t263) else (laws_FnExactCacheTry.j1 kj17 a2 a3 t252 true a0_0 l0_1 a1_0 a1_1 a1_2 t248 t249 t262 t263))))) else (some false)) = some r := H
     have A76 := Aside0.mk A760
     clear A760
     by_cases c77 : t273 = true
     ·subst c77
      have H1 : ((laws_markCache.f kj17 t254 t255 1).bind fun bt274 => (if bt274.1 < 0 then (laws_FnExactCacheTry.j1 kj17 a2 a3 t252 true a0_0 l0_1 a1_0 a1_1 a1_2 t248 t249 t262 t263) else ((laws_eqCache.f kj17 t262 t263 t248 t249).bind fun t276 => (if t276 = true then (laws_FnExactCacheTry.j1 kj17 a2 a3 t252 (t266 != t252) a0_0 l0_1 a1_0 a1_1 a1_2 t248 t249 t262 t263) else (laws_FnExactCacheTry.j1 kj17 a2 a3 t252 true a0_0 l0_1 a1_0 a1_1 a1_2 t248 t249 t262 t263))))) = some r := by rw [if_pos rfl] at H; exact H
      clear H
      have H := H1
      clear H1
      replace H := Option.bind_eq_some_iff.mp H
      obtain ⟨⟨t274, t275⟩, A780, H⟩ := H
      replace H : (if t274 < 0 then (laws_FnExactCacheTry.j1 kj17 a2 a3 t252 true a0_0 l0_1 a1_0 a1_1 a1_2 t248 t249 t262 t263) else ((laws_eqCache.f kj17 t262 t263 t248 t249).bind fun t276 => (if t276 = true then (laws_FnExactCacheTry.j1 kj17 a2 a3 t252 (t266 != t252) a0_0 l0_1 a1_0 a1_1 a1_2 t248 t249 t262 t263) else (laws_FnExactCacheTry.j1 kj17 a2 a3 t252 true a0_0 l0_1 a1_0 a1_1 a1_2 t248 t249 t262 t263)))) = some r := H
      have A78 := Aside0.mk A780
      clear A780
      have HC79 := Aside0.mk H
      clear H
      try go_wp2
      have n0_ := Aside0.mk (Kd.R_drew HO_254001.out)
      have n1_ := Aside0.mk (Kd.R_drew HO_259001.out)
      have n2_ := Aside0.mk (Kd.R_drew HO_268001.out)
      have n3_ := Aside0.mk (blk_drew BK238.out)
      have n4_ := Aside0.mk (blk_drew BK239.out)
      have n5_ := Aside0.mk (blk_drew BK253.out)
      have n6_ := Aside0.mk (blk_drew BK258.out)
      have n7_ := Aside0.mk (blk_drew BK267.out)
      have n8_ := Aside0.mk (below_drew1 HB.out)
      clear HO_254001 HO_259001 HO_268001 BK238 BK239 BK253 BK258 BK267 HB
      have HO_254001 := n0_
      have HO_259001 := n1_
      have HO_268001 := n2_
      have BK238 := n3_
      have BK239 := n4_
      have BK253 := n5_
      have BK258 := n6_
      have BK267 := n7_
      have HB := n8_
      clear n0_ n1_ n2_ n3_ n4_ n5_ n6_ n7_ n8_
      refine start_ (n := 5) (S := fun w' => w'.cell? ⟨gb258, 0, none⟩ = some (.int .i64 t254) ∧ w'.cell? ⟨gb258, 1, none⟩ = some (.slice Ao42 t255.length co42) ∧ w'.cell? ⟨gb238, 0, none⟩ = some (.int .i64 a0_0) ∧ w'.cell? ⟨gb238, 1, none⟩ = some (.slice A0_1 l0_1.length c0_1)) (ds := []) #[false, false, false, false, false] (by kernel_rfl) rfl rfl ⟨(blk_cell BK258.out 0).trans rfl, (blk_cell BK258.out 1).trans rfl, (blk_cell BK238.out 0).trans rfl, (blk_cell BK238.out 1).trans rfl⟩ (fun hHeld => ?_)
      generalize wc.drew = w80 at HO_254001 HO_259001 HO_268001 BK238 BK239 BK253 BK258 BK267 HB hHeld ⊢
      refine take_ (i := 0) (N := some 55) (v := ?_) (a' := ?_) #[true, false, false, false, false] rfl rfl (by kernel_rfl) (fun _ _ _ h => h) (Or.inl ⟨by rfl, ?_⟩) hHeld ?_ ?_
      rotate_left
      ·rintro w' ⟨s0, s1, s2, s3⟩
       go_simp
       with_reducible rfl
      rotate_left
      ·simp only [Act.put, List.setIfInBounds_toArray, List.set_cons_zero, List.set_cons_succ, i64_w, i32_w]
       rfl
      refine take_ (i := 1) (N := some 56) (v := ?_) (a' := ?_) #[true, true, false, false, false] rfl rfl (by kernel_rfl) (fun _ _ _ h => h) (Or.inl ⟨by rfl, ?_⟩) hHeld ?_ ?_
      rotate_left
      ·rintro w' ⟨s0, s1, s2, s3⟩
       go_simp
       with_reducible rfl
      rotate_left
      ·simp only [Act.put, List.setIfInBounds_toArray, List.set_cons_zero, List.set_cons_succ, i64_w, i32_w]
       rfl
      refine one_ (i := 2) (N := some 57) #[true, true, true, false, false] rfl rfl (by kernel_rfl) (by decide) (fun K hK => ?_)
      refine goes_ Try.func13 (by kernel_rfl) rfl #[.agg #[.int .i64 a0_0, .slice A0_1 l0_1.length c0_1]] (by rfl) rfl rfl eA ?_
      with_reducible refine (laws_toCache.calls kj17 a0_0 _ _ l0_1 t269 t270 _ ?side1 ?side2 A75.out).mono ?_
      (case side1 => repeat (first | exact (Kd.C_below HR0_1.out HB.out) | (with_reducible refine Kd.C_alloc ?_ _) | (with_reducible refine Kd.C_drewN ?_ _) | (with_reducible refine Kd.C_drew ?_)))
      (case side2 => exact HC0_1.out)
      rintro e w81 ⟨v271, rfl, ho0, hb⟩
      refine ⟨_, rfl, ?_⟩
      have n0_ := Aside0.mk (Kd.R_elder' (kR HO_254001.out) (Kd.R_base ho0) hb)
      have n1_ := Aside0.mk (Kd.R_elder' (kR HO_259001.out) (Kd.R_base ho0) hb)
      have n2_ := Aside0.mk (Kd.R_elder' (kR HO_268001.out) (Kd.R_base ho0) hb)
      have n3_ := Aside0.mk (Kd.R_lower (Kd.R_new' (Kd.R_new' (Kd.R_new' ho0 (Kd.R_lt (kR HO_254001.out))) (Kd.R_lt (kR HO_259001.out))) (Kd.R_lt (kR HO_268001.out))) (below_size bS))
      have n4_ := Aside0.mk (blk_below (kB BK238.out) hb)
      have n5_ := Aside0.mk (blk_below (kB BK239.out) hb)
      have n6_ := Aside0.mk (blk_below (kB BK253.out) hb)
      have n7_ := Aside0.mk (blk_below (kB BK258.out) hb)
      have n8_ := Aside0.mk (blk_below (kB BK267.out) hb)
      have n9_ := Aside0.mk (below_step bS hb)
      clear HO_254001 HO_259001 HO_268001 BK238 BK239 BK253 BK258 BK267 HB
      have HO_254001 := n0_
      have HO_259001 := n1_
      have HO_268001 := n2_
      have HO272 := n3_
      have BK238 := n4_
      have BK239 := n5_
      have BK253 := n6_
      have BK258 := n7_
      have BK267 := n8_
      have HB := n9_
      clear n0_ n1_ n2_ n3_ n4_ n5_ n6_ n7_ n8_ n9_
      (try clear hb)
      (try clear hb2)
      (try clear hk)
      (try clear hi)
      (try clear ho0)
      obtain ⟨Ao82, co82, eo82⟩ := Kd.R_slice HO272.out
      (first | subst eo82 | (injection eo82 with f1_ f2_ f3_; have f4_ := f1_.symm; have f5_ := f3_.symm; clear f1_ f2_ f3_; subst f4_; subst f5_))
      refine hK.out _ _ ⟨(blk_cell BK258.out 0).trans rfl, (blk_cell BK258.out 1).trans rfl, (blk_cell BK238.out 0).trans rfl, (blk_cell BK238.out 1).trans rfl⟩ (fun hHeld => ?_)
      clear hK K
      refine norm_ (a' := ?_) ?_ ?_
      rotate_left
      ·show Act.put _ (some 57) _ = _
       simp only [Act.put, List.setIfInBounds_toArray, List.set_cons_zero, List.set_cons_succ, i64_w, i32_w]
       rfl
      refine one_ (i := 3) (N := some 58) #[true, true, true, true, false] rfl rfl (by kernel_rfl) (by decide) (fun K hK => ?_)
      refine goes_ Try.func15 (by kernel_rfl) rfl #[.agg #[.int .i64 t254, .slice Ao42 t255.length co42], .agg #[.int .i64 t269, .slice Ao82 t270.length co82]] (by rfl) rfl rfl eA ?_
      with_reducible refine (laws_eqCache.calls kj17 t254 _ _ t255 t269 _ _ t270 true _ ?side1 ?side2 ?side3 ?side4 A76.out).mono ?_
      (case side1 => repeat (first | exact (Kd.R_reads' HO_259001.out).2.2 | (with_reducible refine Kd.C_alloc ?_ _) | (with_reducible refine Kd.C_drewN ?_ _) | (with_reducible refine Kd.C_drew ?_)))
      (case side2 => exact (Kd.R_reads' HO_259001.out).2.1)
      (case side3 => repeat (first | exact (Kd.R_reads' HO272.out).2.2 | (with_reducible refine Kd.C_alloc ?_ _) | (with_reducible refine Kd.C_drewN ?_ _) | (with_reducible refine Kd.C_drew ?_)))
      (case side4 => exact (Kd.R_reads' HO272.out).2.1)
      rintro e w83 ⟨rfl, hb⟩
      refine ⟨_, rfl, ?_⟩
      have n0_ := Aside0.mk (Kd.R_below (kR HO_254001.out) hb)
      have n1_ := Aside0.mk (Kd.R_below (kR HO_259001.out) hb)
      have n2_ := Aside0.mk (Kd.R_below (kR HO_268001.out) hb)
      have n3_ := Aside0.mk (Kd.R_below (kR HO272.out) hb)
      have n4_ := Aside0.mk (blk_below (kB BK238.out) hb)
      have n5_ := Aside0.mk (blk_below (kB BK239.out) hb)
      have n6_ := Aside0.mk (blk_below (kB BK253.out) hb)
      have n7_ := Aside0.mk (blk_below (kB BK258.out) hb)
      have n8_ := Aside0.mk (blk_below (kB BK267.out) hb)
      have n9_ := Aside0.mk (below_step bS hb)
      clear HO_254001 HO_259001 HO_268001 HO272 BK238 BK239 BK253 BK258 BK267 HB
      have HO_254001 := n0_
      have HO_259001 := n1_
      have HO_268001 := n2_
      have HO272 := n3_
      have BK238 := n4_
      have BK239 := n5_
      have BK253 := n6_
      have BK258 := n7_
      have BK267 := n8_
      have HB := n9_
      clear n0_ n1_ n2_ n3_ n4_ n5_ n6_ n7_ n8_ n9_
      (try clear hb)
      (try clear hb2)
      (try clear hk)
      (try clear hi)
      refine hK.out _ _ ⟨(blk_cell BK258.out 0).trans rfl, (blk_cell BK258.out 1).trans rfl, (blk_cell BK238.out 0).trans rfl, (blk_cell BK238.out 1).trans rfl⟩ (fun hHeld => ?_)
      clear hK K
      refine norm_ (a' := ?_) ?_ ?_
      rotate_left
      ·show Act.put _ (some 58) _ = _
       simp only [Act.put, List.setIfInBounds_toArray, List.set_cons_zero, List.set_cons_succ, i64_w, i32_w]
       rfl
      refine pure_ (i := 4) (N := some 59) (v := ?_) (a' := ?_) #[true, true, true, true, true] rfl rfl (by kernel_rfl) (fun _ _ _ h => h) (Or.inl ⟨by rfl, ?_⟩) ?_ ?_
      rotate_left
      ·intro w'
       go_simp
       with_reducible rfl
      rotate_left
      ·simp only [Act.put, List.setIfInBounds_toArray, List.set_cons_zero, List.set_cons_succ, i64_w, i32_w]
       rfl
      refine done_ (by kernel_rfl) ?_
      have hnb84 := NB258_238.out
      have hnc84 := NB238_258.out
      have hnb85 := NB258_239.out
      have hnc85 := NB239_258.out
      have hnb86 := NB258_253.out
      have hnc86 := NB253_258.out
      have hnb87 := NB258_267.out
      have hnc87 := NB267_258.out
      have hcz88_0 : w83.cell? ⟨gb258, 0, none⟩ = some (.int .i64 t254) := (blk_cell BK258.out 0).trans rfl
      have hcz88_1 : w83.cell? ⟨gb258, 1, none⟩ = some (.slice Ao42 t255.length co42) := (blk_cell BK258.out 1).trans rfl
      have hfz88_0 := blk_frozen BK258.out 0
      have hfz88_1 := blk_frozen BK258.out 1
      go_upto_region 14 with (first | ((with_reducible refine gate_callee (f := 16) rfl ?_); refine goesL_ (some 62) rfl rfl Try.func16 (by kernel_rfl) rfl #[.agg #[.int .i64 t254, .slice Ao42 t255.length co42], .int .i64 1] rfl eA ?_; (with_reducible refine (laws_markCache.calls kj17 t254 (fun k_ => some k_ = (.slice Ao42 t255.length co42 : Value).ownBlock) (.slice Ao42 t255.length co42) t255 1 t274 t275 w _ ?side1 ?side2 A78.out).mono ?_); (case side1 => repeat (first | (with_reducible first | exact HB.out | apply below_alloc | apply pw_below_drewN | apply below_drew1 | refine below_set ?_ GE238.out | refine below_set ?_ GE239.out | refine below_set ?_ GE253.out | refine below_set ?_ GE258.out | refine below_set ?_ GE267.out) | exact HB.out)); (case side2 => exact Kd.R_tight rfl HO_259001.out); rintro e w89 ⟨rfl, hy0, hb, hkp⟩; refine ⟨_, rfl, ?_⟩; have n0_ := Aside0.mk (Kd.R_mono (ok' := fun k_ => some k_ ≠ (.slice Ao42 t255.length co42 : Value).ownBlock ∧ some k_ ≠ (.slice Ao50 t263.length co50 : Value).ownBlock ∧ some k_ ≠ (.slice Ao82 t270.length co82 : Value).ownBlock) (Kd.R_keptB (HO_254001.out) hkp (fun k_ hk_ hs_ => (hk_.1.1) hs_)) (fun k_ hk_ => ⟨hk_.1.1.1, hk_.1.1.2, hk_.1.2⟩)); have n1_ := Aside0.mk (Kd.R_reok rfl hy0 (fun k_ e_ => HO_259001.out.1 k_ e_)); have n2_ := Aside0.mk (Kd.R_mono (ok' := fun k_ => some k_ ≠ (.slice Ao32 t249.length co32 : Value).ownBlock ∧ some k_ ≠ (.slice Ao42 t255.length co42 : Value).ownBlock ∧ some k_ ≠ (.slice Ao82 t270.length co82 : Value).ownBlock) (Kd.R_keptB (HO_268001.out) hkp (fun k_ hk_ hs_ => (hk_.1.2) hs_)) (fun k_ hk_ => ⟨hk_.1.1.1, hk_.1.1.2, hk_.1.2⟩)); have n3_ := Aside0.mk (blk_kept (kB BK238.out) hkp (fun hs_ => (fun e_ => (Kd.R_ne HO_259001.out BK238.out (by decide)) e_) hs_)); have n4_ := Aside0.mk (blk_kept (kB BK239.out) hkp (fun hs_ => (fun e_ => (Kd.R_ne HO_259001.out BK239.out (by decide)) e_) hs_)); have n5_ := Aside0.mk (blk_kept (kB BK253.out) hkp (fun hs_ => (fun e_ => (Kd.R_ne HO_259001.out BK253.out (by decide)) e_) hs_)); have n6_ := Aside0.mk (blk_kept (kB BK258.out) hkp (fun hs_ => (fun e_ => (Kd.R_ne HO_259001.out BK258.out (by decide)) e_) hs_)); have n7_ := Aside0.mk (blk_kept (kB BK267.out) hkp (fun hs_ => (fun e_ => (Kd.R_ne HO_259001.out BK267.out (by decide)) e_) hs_)); have n8_ := Aside0.mk (Kd.R_mono (ok' := fun k_ => some k_ ≠ (.slice Ao32 t249.length co32 : Value).ownBlock ∧ some k_ ≠ (.slice Ao42 t255.length co42 : Value).ownBlock ∧ some k_ ≠ (.slice Ao50 t263.length co50 : Value).ownBlock) (Kd.R_keptB (HO272.out) hkp (fun k_ hk_ hs_ => (hk_.1.2) hs_)) (fun k_ hk_ => ⟨hk_.1.1.1.2, hk_.1.1.2, hk_.1.2⟩)); have n9_ := Aside0.mk (hb); clear HO_254001; clear HO_259001; clear HO_268001; clear BK238; clear BK239; clear BK253; clear BK258; clear BK267; clear HO272; clear HB; have HO_254001 := n0_; have HO_259001 := n1_; have HO_268001 := n2_; have BK238 := n3_; have BK239 := n4_; have BK253 := n5_; have BK258 := n6_; have BK267 := n7_; have HO272 := n8_; have HB := n9_; clear n0_ n1_ n2_ n3_ n4_ n5_ n6_ n7_ n8_ n9_; (try clear hb); (try clear hkp); (try clear hy0)))
      (try simp only [Act.put, List.setIfInBounds_toArray, List.set_cons_zero, List.set_cons_succ])
      go_cut [75] (fun v75 wc => ∃ (kq : Nat) (x75_78 : Bool), v75 = .bool x75_78 ∧ Aside0 (laws_FnExactCacheTry.j1 kq a2 a3 t252 x75_78 a0_0 l0_1 a1_0 a1_1 a1_2 t248 t249 t262 t263 = some r) ∧ Aside0 (kq ≤ kj17) ∧ Aside0 (Kd.R k28 28 wc w.heap.size (fun k_ => some k_ ≠ ((.slice Ao42 t255.length co42) : Value).ownBlock ∧ some k_ ≠ ((.slice Ao50 t263.length co50) : Value).ownBlock) (.slice Ao32 t249.length co32) t249) ∧ Aside0 (Kd.R k28 28 wc w.heap.size (fun k_ => some k_ ≠ ((.slice Ao32 t249.length co32) : Value).ownBlock ∧ some k_ ≠ ((.slice Ao50 t263.length co50) : Value).ownBlock) (.slice Ao42 t255.length co42) t275) ∧ Aside0 (Kd.R k28 28 wc w.heap.size (fun k_ => some k_ ≠ ((.slice Ao32 t249.length co32) : Value).ownBlock ∧ some k_ ≠ ((.slice Ao42 t255.length co42) : Value).ownBlock) (.slice Ao50 t263.length co50) t263) ∧ Aside0 (wc.heap[gb238]? = some (.cells #[.int .i64 a0_0, (.slice A0_1 l0_1.length c0_1)] 38 (0, 0))) ∧ Aside0 (wc.heap[gb239]? = some (.cells #[.int .i64 a1_0, .int .i64 a1_1, .int .i64 a1_2] 39 (0, 0))) ∧ Aside0 (wc.heap[gb253]? = some (.cells #[.int .i64 t248, (.slice Ao32 t249.length co32)] 26 (0, 0))) ∧ Aside0 (wc.heap[gb258]? = some (.cells #[.int .i64 t254, (.slice Ao42 t255.length co42)] 26 (0, 0))) ∧ Aside0 (wc.heap[gb267]? = some (.cells #[.int .i64 t262, (.slice Ao50 t263.length co50)] 26 (0, 0))) ∧ Aside0 (Below w.heap.size w wc))
      case first =>
       have H := HC79.out
       clear HC79
       by_cases c90 : t274 < 0
       ·rw [if_pos c90] at H
        have c90b0 : decide (t274 < 0) = true := decide_eq_true c90
        clear c90
        (first | rw [c90b0] | (simp only [i64_w, i32_w]; rw [c90b0]) | skip)
        have H' := Aside0.mk H
        clear H
        go_wp2
        go_meet
        case rel => exact ⟨_, (true), eX, H', ⟨by have := HJ17.out; first | omega | exact Nat.le_refl _⟩, ⟨by (with_reducible repeat (first | apply Kd.R_alloc | apply Kd.R_drewN | apply Kd.R_drew)); exact Kd.R_mono HO_254001.out (fun _ hk => ⟨hk.1, hk.2.1⟩)⟩, ⟨by (with_reducible repeat (first | apply Kd.R_alloc | apply Kd.R_drewN | apply Kd.R_drew)); exact Kd.R_mono HO_259001.out (fun _ hk => ⟨hk.1.1, hk.1.2⟩)⟩, ⟨by (with_reducible repeat (first | apply Kd.R_alloc | apply Kd.R_drewN | apply Kd.R_drew)); exact Kd.R_mono HO_268001.out (fun _ hk => ⟨hk.1, hk.2.1⟩)⟩, ⟨by (with_reducible repeat (first | refine blk_drewN ?_ _ | refine blk_drew ?_ | refine blk_alloc ?_ _)); exact BK238.out⟩, ⟨by (with_reducible repeat (first | refine blk_drewN ?_ _ | refine blk_drew ?_ | refine blk_alloc ?_ _)); exact BK239.out⟩, ⟨by (with_reducible repeat (first | refine blk_drewN ?_ _ | refine blk_drew ?_ | refine blk_alloc ?_ _)); exact BK253.out⟩, ⟨by (with_reducible repeat (first | refine blk_drewN ?_ _ | refine blk_drew ?_ | refine blk_alloc ?_ _)); exact BK258.out⟩, ⟨by (with_reducible repeat (first | refine blk_drewN ?_ _ | refine blk_drew ?_ | refine blk_alloc ?_ _)); exact BK267.out⟩, ⟨by repeat (first | (with_reducible first | exact HB.out | apply below_alloc | apply pw_below_drewN | apply below_drew1 | refine below_set ?_ GE238.out | refine below_set ?_ GE239.out | refine below_set ?_ GE253.out | refine below_set ?_ GE258.out | refine below_set ?_ GE267.out) | exact HB.out)⟩⟩
       ·rw [if_neg c90] at H
        have c90b0 : decide (t274 < 0) = false := decide_eq_false c90
        clear c90
        (first | rw [c90b0] | (simp only [i64_w, i32_w]; rw [c90b0]) | skip)
        replace H := Option.bind_eq_some_iff.mp H
        obtain ⟨t276, A910, H⟩ := H
        replace H : (if t276 = true then (laws_FnExactCacheTry.j1 kj17 a2 a3 t252 (t266 != t252) a0_0 l0_1 a1_0 a1_1 a1_2 t248 t249 t262 t263) else (laws_FnExactCacheTry.j1 kj17 a2 a3 t252 true a0_0 l0_1 a1_0 a1_1 a1_2 t248 t249 t262 t263)) = some r := H
        have A91 := Aside0.mk A910
        clear A910
        by_cases c92 : t276 = true
        ·subst c92
         have H1 : (laws_FnExactCacheTry.j1 kj17 a2 a3 t252 (t266 != t252) a0_0 l0_1 a1_0 a1_1 a1_2 t248 t249 t262 t263) = some r := by rw [if_pos rfl] at H; exact H
         clear H
         have H := H1
         clear H1
         have H' := Aside0.mk H
         clear H
         have hnb93 := NB267_238.out
         have hnc93 := NB238_267.out
         have hnb94 := NB267_239.out
         have hnc94 := NB239_267.out
         have hnb95 := NB267_253.out
         have hnc95 := NB253_267.out
         have hnb96 := NB267_258.out
         have hnc96 := NB258_267.out
         have hcz97_0 : w89.cell? ⟨gb267, 0, none⟩ = some (.int .i64 t262) := (blk_cell BK267.out 0).trans rfl
         have hcz97_1 : w89.cell? ⟨gb267, 1, none⟩ = some (.slice Ao50 t263.length co50) := (blk_cell BK267.out 1).trans rfl
         have hfz97_0 := blk_frozen BK267.out 0
         have hfz97_1 := blk_frozen BK267.out 1
         have hnb98 := NB253_238.out
         have hnc98 := NB238_253.out
         have hnb99 := NB253_239.out
         have hnc99 := NB239_253.out
         have hnb100 := NB253_258.out
         have hnc100 := NB258_253.out
         have hcz101_0 : w89.cell? ⟨gb253, 0, none⟩ = some (.int .i64 t248) := (blk_cell BK253.out 0).trans rfl
         have hcz101_1 : w89.cell? ⟨gb253, 1, none⟩ = some (.slice Ao32 t249.length co32) := (blk_cell BK253.out 1).trans rfl
         have hfz101_0 := blk_frozen BK253.out 0
         have hfz101_1 := blk_frozen BK253.out 1
         go_wp2_with (first | (go_at_call 15; (with_reducible refine (laws_eqCache.calls kj17 t262 _ _ t263 t248 _ _ t249 true _ ?side1 ?side2 ?side3 ?side4 A91.out).mono ?_); (case side1 => repeat (first | exact (Kd.R_reads' HO_268001.out).2.2 | (with_reducible refine Kd.C_alloc ?_ _) | (with_reducible refine Kd.C_drewN ?_ _) | (with_reducible refine Kd.C_drew ?_))); (case side2 => exact (Kd.R_reads' HO_268001.out).2.1); (case side3 => repeat (first | exact (Kd.R_reads' HO_254001.out).2.2 | (with_reducible refine Kd.C_alloc ?_ _) | (with_reducible refine Kd.C_drewN ?_ _) | (with_reducible refine Kd.C_drew ?_))); (case side4 => exact (Kd.R_reads' HO_254001.out).2.1); rintro e w102 ⟨rfl, hb⟩; have n0_ := Aside0.mk (Kd.R_below (kR HO_254001.out) hb); have n1_ := Aside0.mk (Kd.R_below (kR HO_259001.out) hb); have n2_ := Aside0.mk (Kd.R_below (kR HO_268001.out) hb); have n3_ := Aside0.mk (Kd.R_below (kR HO272.out) hb); have n4_ := Aside0.mk (blk_below (kB BK238.out) hb); have n5_ := Aside0.mk (blk_below (kB BK239.out) hb); have n6_ := Aside0.mk (blk_below (kB BK253.out) hb); have n7_ := Aside0.mk (blk_below (kB BK258.out) hb); have n8_ := Aside0.mk (blk_below (kB BK267.out) hb); have n9_ := Aside0.mk (below_step bS hb); clear HO_254001; clear HO_259001; clear HO_268001; clear HO272; clear BK238; clear BK239; clear BK253; clear BK258; clear BK267; clear HB; have HO_254001 := n0_; have HO_259001 := n1_; have HO_268001 := n2_; have HO272 := n3_; have BK238 := n4_; have BK239 := n5_; have BK253 := n6_; have BK258 := n7_; have BK267 := n8_; have HB := n9_; clear n0_ n1_ n2_ n3_ n4_ n5_ n6_ n7_ n8_ n9_; (try clear hb); (try clear hb2); (try clear hk); (try clear hi)))
         go_meet
         case rel => exact ⟨_, ((t266 != t252)), eX, H', ⟨by have := HJ17.out; first | omega | exact Nat.le_refl _⟩, ⟨by (with_reducible repeat (first | apply Kd.R_alloc | apply Kd.R_drewN | apply Kd.R_drew)); exact Kd.R_mono HO_254001.out (fun _ hk => ⟨hk.1, hk.2.1⟩)⟩, ⟨by (with_reducible repeat (first | apply Kd.R_alloc | apply Kd.R_drewN | apply Kd.R_drew)); exact Kd.R_mono HO_259001.out (fun _ hk => ⟨hk.1.1, hk.1.2⟩)⟩, ⟨by (with_reducible repeat (first | apply Kd.R_alloc | apply Kd.R_drewN | apply Kd.R_drew)); exact Kd.R_mono HO_268001.out (fun _ hk => ⟨hk.1, hk.2.1⟩)⟩, ⟨by (with_reducible repeat (first | refine blk_drewN ?_ _ | refine blk_drew ?_ | refine blk_alloc ?_ _)); exact BK238.out⟩, ⟨by (with_reducible repeat (first | refine blk_drewN ?_ _ | refine blk_drew ?_ | refine blk_alloc ?_ _)); exact BK239.out⟩, ⟨by (with_reducible repeat (first | refine blk_drewN ?_ _ | refine blk_drew ?_ | refine blk_alloc ?_ _)); exact BK253.out⟩, ⟨by (with_reducible repeat (first | refine blk_drewN ?_ _ | refine blk_drew ?_ | refine blk_alloc ?_ _)); exact BK258.out⟩, ⟨by (with_reducible repeat (first | refine blk_drewN ?_ _ | refine blk_drew ?_ | refine blk_alloc ?_ _)); exact BK267.out⟩, ⟨by repeat (first | (with_reducible first | exact HB.out | apply below_alloc | apply pw_below_drewN | apply below_drew1 | refine below_set ?_ GE238.out | refine below_set ?_ GE239.out | refine below_set ?_ GE253.out | refine below_set ?_ GE258.out | refine below_set ?_ GE267.out) | exact HB.out)⟩⟩
        ·replace c92 := Bool.eq_false_iff.mpr c92
         subst c92
         have H1 : (laws_FnExactCacheTry.j1 kj17 a2 a3 t252 true a0_0 l0_1 a1_0 a1_1 a1_2 t248 t249 t262 t263) = some r := by rw [if_neg (show ¬ (false = true) by decide)] at H; exact H
         clear H
         have H := H1
         clear H1
         have H' := Aside0.mk H
         clear H
         have hnb103 := NB267_238.out
         have hnc103 := NB238_267.out
         have hnb104 := NB267_239.out
         have hnc104 := NB239_267.out
         have hnb105 := NB267_253.out
         have hnc105 := NB253_267.out
         have hnb106 := NB267_258.out
         have hnc106 := NB258_267.out
         have hcz107_0 : w89.cell? ⟨gb267, 0, none⟩ = some (.int .i64 t262) := (blk_cell BK267.out 0).trans rfl
         have hcz107_1 : w89.cell? ⟨gb267, 1, none⟩ = some (.slice Ao50 t263.length co50) := (blk_cell BK267.out 1).trans rfl
         have hfz107_0 := blk_frozen BK267.out 0
         have hfz107_1 := blk_frozen BK267.out 1
         have hnb108 := NB253_238.out
         have hnc108 := NB238_253.out
         have hnb109 := NB253_239.out
         have hnc109 := NB239_253.out
         have hnb110 := NB253_258.out
         have hnc110 := NB258_253.out
         have hcz111_0 : w89.cell? ⟨gb253, 0, none⟩ = some (.int .i64 t248) := (blk_cell BK253.out 0).trans rfl
         have hcz111_1 : w89.cell? ⟨gb253, 1, none⟩ = some (.slice Ao32 t249.length co32) := (blk_cell BK253.out 1).trans rfl
         have hfz111_0 := blk_frozen BK253.out 0
         have hfz111_1 := blk_frozen BK253.out 1
         go_wp2_with (first | (go_at_call 15; (with_reducible refine (laws_eqCache.calls kj17 t262 _ _ t263 t248 _ _ t249 false _ ?side1 ?side2 ?side3 ?side4 A91.out).mono ?_); (case side1 => repeat (first | exact (Kd.R_reads' HO_268001.out).2.2 | (with_reducible refine Kd.C_alloc ?_ _) | (with_reducible refine Kd.C_drewN ?_ _) | (with_reducible refine Kd.C_drew ?_))); (case side2 => exact (Kd.R_reads' HO_268001.out).2.1); (case side3 => repeat (first | exact (Kd.R_reads' HO_254001.out).2.2 | (with_reducible refine Kd.C_alloc ?_ _) | (with_reducible refine Kd.C_drewN ?_ _) | (with_reducible refine Kd.C_drew ?_))); (case side4 => exact (Kd.R_reads' HO_254001.out).2.1); rintro e w112 ⟨rfl, hb⟩; have n0_ := Aside0.mk (Kd.R_below (kR HO_254001.out) hb); have n1_ := Aside0.mk (Kd.R_below (kR HO_259001.out) hb); have n2_ := Aside0.mk (Kd.R_below (kR HO_268001.out) hb); have n3_ := Aside0.mk (Kd.R_below (kR HO272.out) hb); have n4_ := Aside0.mk (blk_below (kB BK238.out) hb); have n5_ := Aside0.mk (blk_below (kB BK239.out) hb); have n6_ := Aside0.mk (blk_below (kB BK253.out) hb); have n7_ := Aside0.mk (blk_below (kB BK258.out) hb); have n8_ := Aside0.mk (blk_below (kB BK267.out) hb); have n9_ := Aside0.mk (below_step bS hb); clear HO_254001; clear HO_259001; clear HO_268001; clear HO272; clear BK238; clear BK239; clear BK253; clear BK258; clear BK267; clear HB; have HO_254001 := n0_; have HO_259001 := n1_; have HO_268001 := n2_; have HO272 := n3_; have BK238 := n4_; have BK239 := n5_; have BK253 := n6_; have BK258 := n7_; have BK267 := n8_; have HB := n9_; clear n0_ n1_ n2_ n3_ n4_ n5_ n6_ n7_ n8_ n9_; (try clear hb); (try clear hb2); (try clear hk); (try clear hi)))
         go_meet
         case rel => exact ⟨_, (true), eX, H', ⟨by have := HJ17.out; first | omega | exact Nat.le_refl _⟩, ⟨by (with_reducible repeat (first | apply Kd.R_alloc | apply Kd.R_drewN | apply Kd.R_drew)); exact Kd.R_mono HO_254001.out (fun _ hk => ⟨hk.1, hk.2.1⟩)⟩, ⟨by (with_reducible repeat (first | apply Kd.R_alloc | apply Kd.R_drewN | apply Kd.R_drew)); exact Kd.R_mono HO_259001.out (fun _ hk => ⟨hk.1.1, hk.1.2⟩)⟩, ⟨by (with_reducible repeat (first | apply Kd.R_alloc | apply Kd.R_drewN | apply Kd.R_drew)); exact Kd.R_mono HO_268001.out (fun _ hk => ⟨hk.1, hk.2.1⟩)⟩, ⟨by (with_reducible repeat (first | refine blk_drewN ?_ _ | refine blk_drew ?_ | refine blk_alloc ?_ _)); exact BK238.out⟩, ⟨by (with_reducible repeat (first | refine blk_drewN ?_ _ | refine blk_drew ?_ | refine blk_alloc ?_ _)); exact BK239.out⟩, ⟨by (with_reducible repeat (first | refine blk_drewN ?_ _ | refine blk_drew ?_ | refine blk_alloc ?_ _)); exact BK253.out⟩, ⟨by (with_reducible repeat (first | refine blk_drewN ?_ _ | refine blk_drew ?_ | refine blk_alloc ?_ _)); exact BK258.out⟩, ⟨by (with_reducible repeat (first | refine blk_drewN ?_ _ | refine blk_drew ?_ | refine blk_alloc ?_ _)); exact BK267.out⟩, ⟨by repeat (first | (with_reducible first | exact HB.out | apply below_alloc | apply pw_below_drewN | apply below_drew1 | refine below_set ?_ GE238.out | refine below_set ?_ GE239.out | refine below_set ?_ GE253.out | refine below_set ?_ GE258.out | refine below_set ?_ GE267.out) | exact HB.out)⟩⟩
      case rest =>
       clear HC79
       try clear c1
       try clear p2
       try clear c5
       try clear c6
       try clear c7
       try clear c8
       try clear c9
       try clear c10
       try clear c11
       try clear c13
       try clear c14
       try clear c15
       try clear c16
       try clear c53
       try clear c54
       try clear c55
       try clear c56
       try clear c57
       try clear c59
       try clear c60
       try clear c61
       try clear c64
       try clear c65
       try clear c66
       try clear c67
       try clear c69
       try clear c70
       try clear c71
       try clear c74
       try clear c77
       try clear c84
       try clear c85
       try clear c86
       try clear c87
       try clear c90
       try clear c90b0
       try clear c92
       try clear c93
       try clear c94
       try clear c95
       try clear c96
       try clear c98
       try clear c99
       try clear c100
       try clear c103
       try clear c104
       try clear c105
       try clear c106
       try clear c108
       try clear c109
       try clear c110
       try clear hcz101_0
       try clear hcz101_1
       try clear hcz107_0
       try clear hcz107_1
       try clear hcz111_0
       try clear hcz111_1
       try clear hcz58_0
       try clear hcz58_1
       try clear hcz62_0
       try clear hcz62_1
       try clear hcz68_0
       try clear hcz68_1
       try clear hcz72_0
       try clear hcz72_1
       try clear hcz88_0
       try clear hcz88_1
       try clear hcz97_0
       try clear hcz97_1
       try clear hfz101_0
       try clear hfz101_1
       try clear hfz107_0
       try clear hfz107_1
       try clear hfz111_0
       try clear hfz111_1
       try clear hfz58_0
       try clear hfz58_1
       try clear hfz62_0
       try clear hfz62_1
       try clear hfz68_0
       try clear hfz68_1
       try clear hfz72_0
       try clear hfz72_1
       try clear hfz88_0
       try clear hfz88_1
       try clear hfz97_0
       try clear hfz97_1
       try clear p2
       obtain ⟨kq, x75_78, rfl, HA, HJ78, HO_254001, HO_259001, HO_268001, BK238, BK239, BK253, BK258, BK267, HB⟩ := hcut
       have hl259001_78 := (Kd.R_reads' HO_259001.out).1
       rw [hl259001_78] at HO_259001
       (try simp only [hl259001_78])
       (try simp only [hl259001_78] at BK238)
       (try simp only [hl259001_78] at BK239)
       (try simp only [hl259001_78] at BK253)
       (try simp only [hl259001_78] at BK258)
       (try simp only [hl259001_78] at BK267)
       (try simp only [hl259001_78] at HO_254001)
       (try simp only [hl259001_78] at HO_268001)
       cases kq with
       | zero => exact absurd HA.out (by simp [laws_FnExactCacheTry.j1])
       | succ kj78 =>
        have H := HA.out
        clear HA
        simp only [laws_FnExactCacheTry.j1] at H
        by_cases c113 : x75_78 = true
        ·subst c113
         have H1 : (some false) = some r := by rw [if_pos rfl] at H; exact H
         clear H
         have H := H1
         clear H1
         rw [hr_true.out] at H
         exact absurd H (by simp)
        ·replace c113 := Bool.eq_false_iff.mpr c113
         subst c113
         have H1 : ((laws_markCache.f kj78 t262 t263 1).bind fun bt277 => ((laws_heldCache.f kj78 t262 bt277.2 1).bind fun t279 => (if t279 < 0 then (some false) else (if t279 = bt277.1 then ((laws_toCache.f kj78 a0_0 l0_1).bind fun bt280 => ((laws_toAuth.f a1_0 a1_1 a1_2).bind fun bt284 => ((impl_CacheTry.f kj78 bt280.1 bt280.2 bt284.1 bt284.2.1 bt284.2.2 a2 a3).bind fun bt287 => ((laws_eqCache.f kj78 bt287.1 bt287.2.1 t248 t249).bind fun t293 => (if t293 = true then (laws_FnExactCacheTry.j2 kj78 bt277.1 (bt287.2.2 != t252) t262 bt277.2) else (laws_FnExactCacheTry.j2 kj78 bt277.1 true t262 bt277.2)))))) else (some false))))) = some r := by rw [if_neg (show ¬ (false = true) by decide)] at H; exact H
         clear H
         have H := H1
         clear H1
         replace H := Option.bind_eq_some_iff.mp H
         obtain ⟨⟨t277, t278⟩, A1140, H⟩ := H
         replace H : ((laws_heldCache.f kj78 t262 t278 1).bind fun t279 => (if t279 < 0 then (some false) else (if t279 = t277 then ((laws_toCache.f kj78 a0_0 l0_1).bind fun bt280 => ((laws_toAuth.f a1_0 a1_1 a1_2).bind fun bt284 => ((impl_CacheTry.f kj78 bt280.1 bt280.2 bt284.1 bt284.2.1 bt284.2.2 a2 a3).bind fun bt287 => ((laws_eqCache.f kj78 bt287.1 bt287.2.1 t248 t249).bind fun t293 => (if t293 = true then (laws_FnExactCacheTry.j2 kj78 t277 (bt287.2.2 != t252) t262 t278) else (laws_FnExactCacheTry.j2 kj78 t277 true t262 t278)))))) else (some false)))) = some r := H
         have A114 := Aside0.mk A1140
         clear A1140
         replace H := Option.bind_eq_some_iff.mp H
         obtain ⟨t279, A1150, H⟩ := H
         replace H : (if t279 < 0 then (some false) else (if t279 = t277 then ((laws_toCache.f kj78 a0_0 l0_1).bind fun bt280 => ((laws_toAuth.f a1_0 a1_1 a1_2).bind fun bt284 => ((impl_CacheTry.f kj78 bt280.1 bt280.2 bt284.1 bt284.2.1 bt284.2.2 a2 a3).bind fun bt287 => ((laws_eqCache.f kj78 bt287.1 bt287.2.1 t248 t249).bind fun t293 => (if t293 = true then (laws_FnExactCacheTry.j2 kj78 t277 (bt287.2.2 != t252) t262 t278) else (laws_FnExactCacheTry.j2 kj78 t277 true t262 t278)))))) else (some false))) = some r := H
         have A115 := Aside0.mk A1150
         clear A1150
         by_cases c116 : t279 < 0
         ·rw [if_pos c116] at H
          have c116b0 : decide (t279 < 0) = true := decide_eq_true c116
          clear c116
          rw [hr_true.out] at H
          exact absurd H (by simp)
         ·rw [if_neg c116] at H
          have c116b0 : decide (t279 < 0) = false := decide_eq_false c116
          clear c116
          by_cases c117 : t279 = t277
          ·rw [if_pos c117] at H
           have c117b0 : (t279 == t277) = true := beq_iff_eq.mpr c117
           have c117b1 : (t279 != t277) = false := bne_eq_false_iff_eq.mpr c117
           clear c117
           replace H := Option.bind_eq_some_iff.mp H
           obtain ⟨⟨t280, t281⟩, A1180, H⟩ := H
           replace H : ((laws_toAuth.f a1_0 a1_1 a1_2).bind fun bt284 => ((impl_CacheTry.f kj78 t280 t281 bt284.1 bt284.2.1 bt284.2.2 a2 a3).bind fun bt287 => ((laws_eqCache.f kj78 bt287.1 bt287.2.1 t248 t249).bind fun t293 => (if t293 = true then (laws_FnExactCacheTry.j2 kj78 t277 (bt287.2.2 != t252) t262 t278) else (laws_FnExactCacheTry.j2 kj78 t277 true t262 t278))))) = some r := H
           have A118 := Aside0.mk A1180
           clear A1180
           replace H := Option.bind_eq_some_iff.mp H
           obtain ⟨⟨t284, t285, t286⟩, A1190, H⟩ := H
           replace H : ((impl_CacheTry.f kj78 t280 t281 t284 t285 t286 a2 a3).bind fun bt287 => ((laws_eqCache.f kj78 bt287.1 bt287.2.1 t248 t249).bind fun t293 => (if t293 = true then (laws_FnExactCacheTry.j2 kj78 t277 (bt287.2.2 != t252) t262 t278) else (laws_FnExactCacheTry.j2 kj78 t277 true t262 t278)))) = some r := H
           have A119 := Aside0.mk A1190
           clear A1190
           replace H := Option.bind_eq_some_iff.mp H
           obtain ⟨⟨t287, t288, t291⟩, A1200, H⟩ := H
           replace H : ((laws_eqCache.f kj78 t287 t288 t248 t249).bind fun t293 => (if t293 = true then (laws_FnExactCacheTry.j2 kj78 t277 (t291 != t252) t262 t278) else (laws_FnExactCacheTry.j2 kj78 t277 true t262 t278))) = some r := H
           have A120 := Aside0.mk A1200
           clear A1200
           have HC121 := Aside0.mk H
           clear H
           have hnb122 := NB267_238.out
           have hnc122 := NB238_267.out
           have hnb123 := NB267_239.out
           have hnc123 := NB239_267.out
           have hnb124 := NB267_253.out
           have hnc124 := NB253_267.out
           have hnb125 := NB267_258.out
           have hnc125 := NB258_267.out
           have hcz126_0 : wc.cell? ⟨gb267, 0, none⟩ = some (.int .i64 t262) := (blk_cell BK267.out 0).trans rfl
           have hcz126_1 : wc.cell? ⟨gb267, 1, none⟩ = some (.slice Ao50 t263.length co50) := (blk_cell BK267.out 1).trans rfl
           have hfz126_0 := blk_frozen BK267.out 0
           have hfz126_1 := blk_frozen BK267.out 1
           try go_wp2_with (first | ((with_reducible refine gate_callee (f := 16) rfl ?_); refine goesL_ (some 78) rfl rfl Try.func16 (by kernel_rfl) rfl #[.agg #[.int .i64 t262, .slice Ao50 t263.length co50], .int .i64 1] rfl eA ?_; (with_reducible refine (laws_markCache.calls kj78 t262 (fun k_ => some k_ = (.slice Ao50 t263.length co50 : Value).ownBlock) (.slice Ao50 t263.length co50) t263 1 t277 t278 w _ ?side1 ?side2 A114.out).mono ?_); (case side1 => repeat (first | (with_reducible first | exact HB.out | apply below_alloc | apply pw_below_drewN | apply below_drew1 | refine below_set ?_ GE238.out | refine below_set ?_ GE239.out | refine below_set ?_ GE253.out | refine below_set ?_ GE258.out | refine below_set ?_ GE267.out) | exact HB.out)); (case side2 => exact Kd.R_tight rfl HO_268001.out); rintro e w127 ⟨rfl, hy0, hb, hkp⟩; refine ⟨_, rfl, ?_⟩; have n0_ := Aside0.mk (Kd.R_mono (ok' := fun k_ => some k_ ≠ (.slice Ao42 t275.length co42 : Value).ownBlock ∧ some k_ ≠ (.slice Ao50 t263.length co50 : Value).ownBlock) (Kd.R_keptB (HO_254001.out) hkp (fun k_ hk_ hs_ => (hk_.2) hs_)) (fun k_ hk_ => ⟨hk_.1.1, hk_.1.2⟩)); have n1_ := Aside0.mk (Kd.R_mono (ok' := fun k_ => some k_ ≠ (.slice Ao32 t249.length co32 : Value).ownBlock ∧ some k_ ≠ (.slice Ao50 t263.length co50 : Value).ownBlock) (Kd.R_keptB (HO_259001.out) hkp (fun k_ hk_ hs_ => (hk_.2) hs_)) (fun k_ hk_ => ⟨hk_.1.1, hk_.1.2⟩)); have n2_ := Aside0.mk (Kd.R_reok rfl hy0 (fun k_ e_ => HO_268001.out.1 k_ e_)); have n3_ := Aside0.mk (blk_kept (kB BK238.out) hkp (fun hs_ => (fun e_ => (Kd.R_ne HO_268001.out BK238.out (by decide)) e_) hs_)); have n4_ := Aside0.mk (blk_kept (kB BK239.out) hkp (fun hs_ => (fun e_ => (Kd.R_ne HO_268001.out BK239.out (by decide)) e_) hs_)); have n5_ := Aside0.mk (blk_kept (kB BK253.out) hkp (fun hs_ => (fun e_ => (Kd.R_ne HO_268001.out BK253.out (by decide)) e_) hs_)); have n6_ := Aside0.mk (blk_kept (kB BK258.out) hkp (fun hs_ => (fun e_ => (Kd.R_ne HO_268001.out BK258.out (by decide)) e_) hs_)); have n7_ := Aside0.mk (blk_kept (kB BK267.out) hkp (fun hs_ => (fun e_ => (Kd.R_ne HO_268001.out BK267.out (by decide)) e_) hs_)); have n8_ := Aside0.mk (hb); clear HO_254001; clear HO_259001; clear HO_268001; clear BK238; clear BK239; clear BK253; clear BK258; clear BK267; clear HB; have HO_254001 := n0_; have HO_259001 := n1_; have HO_268001 := n2_; have BK238 := n3_; have BK239 := n4_; have BK253 := n5_; have BK258 := n6_; have BK267 := n7_; have HB := n8_; clear n0_ n1_ n2_ n3_ n4_ n5_ n6_ n7_ n8_; (try clear hb); (try clear hkp); (try clear hy0); have hcz128_0 : w127.cell? ⟨gb267, 0, none⟩ = some (.int .i64 t262) := (blk_cell BK267.out 0).trans rfl; have hcz128_1 : w127.cell? ⟨gb267, 1, none⟩ = some (.slice Ao50 t263.length co50) := (blk_cell BK267.out 1).trans rfl; have hfz128_0 := blk_frozen BK267.out 0; have hfz128_1 := blk_frozen BK267.out 1) | ((with_reducible refine gate_callee (f := 17) rfl ?_); refine goesL_ (some 81) rfl rfl Try.func17 (by kernel_rfl) rfl #[.agg #[.int .i64 t262, .slice Ao50 t278.length co50], .int .i64 1] rfl (by (try simp only [List.map_toArray, List.map_cons, List.map_nil]); first | done | (rw [show t278.length = t263.length from (Kd.R_reads' HO_268001.out).1.symm] <;> rfl) | rfl | (simp only [List.length_drop, List.length_take]; rfl)) ?_; (with_reducible refine (laws_heldCache.calls kj78 t262 _ _ t278 1 t279 _ ?side1 ?side2 A115.out).mono ?_); (case side1 => repeat (first | exact (Kd.R_reads' HO_268001.out).2.2 | (with_reducible refine Kd.C_alloc ?_ _) | (with_reducible refine Kd.C_drewN ?_ _) | (with_reducible refine Kd.C_drew ?_))); (case side2 => rw [show t278.length = t263.length from (Kd.R_reads' HO_268001.out).1.symm]; exact (Kd.R_reads' HO_268001.out).2.1); rintro e w129 ⟨rfl, hb⟩; refine ⟨_, rfl, ?_⟩; have n0_ := Aside0.mk (Kd.R_below (kR HO_254001.out) hb); have n1_ := Aside0.mk (Kd.R_below (kR HO_259001.out) hb); have n2_ := Aside0.mk (Kd.R_below (kR HO_268001.out) hb); have n3_ := Aside0.mk (blk_below (kB BK238.out) hb); have n4_ := Aside0.mk (blk_below (kB BK239.out) hb); have n5_ := Aside0.mk (blk_below (kB BK253.out) hb); have n6_ := Aside0.mk (blk_below (kB BK258.out) hb); have n7_ := Aside0.mk (blk_below (kB BK267.out) hb); have n8_ := Aside0.mk (below_step bS hb); clear HO_254001; clear HO_259001; clear HO_268001; clear BK238; clear BK239; clear BK253; clear BK258; clear BK267; clear HB; have HO_254001 := n0_; have HO_259001 := n1_; have HO_268001 := n2_; have BK238 := n3_; have BK239 := n4_; have BK253 := n5_; have BK258 := n6_; have BK267 := n7_; have HB := n8_; clear n0_ n1_ n2_ n3_ n4_ n5_ n6_ n7_ n8_; (try clear hb); (try clear hb2); (try clear hk); (try clear hi)))
           have n0_ := Aside0.mk (Kd.R_drew HO_254001.out)
           have n1_ := Aside0.mk (Kd.R_drew HO_259001.out)
           have n2_ := Aside0.mk (Kd.R_drew HO_268001.out)
           have n3_ := Aside0.mk (blk_drew BK238.out)
           have n4_ := Aside0.mk (blk_drew BK239.out)
           have n5_ := Aside0.mk (blk_drew BK253.out)
           have n6_ := Aside0.mk (blk_drew BK258.out)
           have n7_ := Aside0.mk (blk_drew BK267.out)
           have n8_ := Aside0.mk (below_drew1 HB.out)
           clear HO_254001 HO_259001 HO_268001 BK238 BK239 BK253 BK258 BK267 HB
           have HO_254001 := n0_
           have HO_259001 := n1_
           have HO_268001 := n2_
           have BK238 := n3_
           have BK239 := n4_
           have BK253 := n5_
           have BK258 := n6_
           have BK267 := n7_
           have HB := n8_
           clear n0_ n1_ n2_ n3_ n4_ n5_ n6_ n7_ n8_
           refine start_ (n := 13) (S := fun w' => w'.cell? ⟨gb238, 0, none⟩ = some (.int .i64 a0_0) ∧ w'.cell? ⟨gb238, 1, none⟩ = some (.slice A0_1 l0_1.length c0_1) ∧ w'.cell? ⟨gb239, 0, none⟩ = some (.int .i64 a1_0) ∧ w'.cell? ⟨gb239, 1, none⟩ = some (.int .i64 a1_1) ∧ w'.cell? ⟨gb239, 2, none⟩ = some (.int .i64 a1_2)) (ds := []) #[false, false, false, false, false, false, false, false, false, false, false, false, false] (by kernel_rfl) rfl rfl ⟨(blk_cell BK238.out 0).trans rfl, (blk_cell BK238.out 1).trans rfl, (blk_cell BK239.out 0).trans rfl, (blk_cell BK239.out 1).trans rfl, (blk_cell BK239.out 2).trans rfl⟩ (fun hHeld => ?_); refine with_tabW laws_FnExactCacheTry.tab24 laws_FnExactCacheTry.bits24 (fun HT_ HW_ => ?_)
           generalize w129.drew = w130 at HO_254001 HO_259001 HO_268001 BK238 BK239 BK253 BK258 BK267 HB hHeld ⊢
           refine pure_ (i := 4) (N := some 92) (v := ?_) (a' := ?_) #[false, false, false, false, true, false, false, false, false, false, false, false, false] rfl rfl (any_of HT_.out (by kernel_rfl)) (fun _ _ _ h => h) (Or.inl ⟨by rfl, ?_⟩) ?_ ?_
           rotate_left
           ·intro w'
            go_simp
            with_reducible rfl
           rotate_left
           ·simp only [Act.put, List.setIfInBounds_toArray, List.set_cons_zero, List.set_cons_succ, i64_w, i32_w]
            rfl
           refine pure_ (i := 5) (N := some 93) (v := ?_) (a' := ?_) #[false, false, false, false, true, true, false, false, false, false, false, false, false] rfl rfl (any_of HT_.out (by kernel_rfl)) (fun _ _ _ h => h) (Or.inl ⟨by rfl, ?_⟩) ?_ ?_
           rotate_left
           ·intro w'
            go_simp
            with_reducible rfl
           rotate_left
           ·simp only [Act.put, List.setIfInBounds_toArray, List.set_cons_zero, List.set_cons_succ, i64_w, i32_w]
            rfl
           refine take_ (i := 0) (N := some 88) (v := ?_) (a' := ?_) #[true, false, false, false, true, true, false, false, false, false, false, false, false] rfl rfl (take_ofW HT_.out HW_.out (by kernel_rfl)) (fun _ _ _ h => h) (Or.inl ⟨by rfl, ?_⟩) hHeld ?_ ?_
           rotate_left
           ·rintro w' ⟨s0, s1, s2, s3, s4⟩
            go_simp
            with_reducible rfl
           rotate_left
           ·simp only [Act.put, List.setIfInBounds_toArray, List.set_cons_zero, List.set_cons_succ, i64_w, i32_w]
            rfl
           refine take_ (i := 2) (N := some 90) (v := ?_) (a' := ?_) #[true, false, true, false, true, true, false, false, false, false, false, false, false] rfl rfl (take_ofW HT_.out HW_.out (by kernel_rfl)) (fun _ _ _ h => h) (Or.inl ⟨by rfl, ?_⟩) hHeld ?_ ?_
           rotate_left
           ·rintro w' ⟨s0, s1, s2, s3, s4⟩
            go_simp
            with_reducible rfl
           rotate_left
           ·simp only [Act.put, List.setIfInBounds_toArray, List.set_cons_zero, List.set_cons_succ, i64_w, i32_w]
            rfl
           refine join_ (σ := Value × Value × Nat) 2 #[true, true, true, true, true, true, true, true, true, true, true, false, false] (fun s_ => [(89, .agg #[.int .i64 t280, s_.1]), (91, .agg #[.int .i64 t284, .int .i64 t285, .int .i64 t286]), (94, .tuple #[.agg #[.int .i64 t287, s_.2.1], .int .i64 t291]), (18, .pointer (some ⟨s_.2.2, 0, none⟩)), (87, .tuple #[.agg #[.int .i64 t287, s_.2.1], .int .i64 t291]), (95, .agg #[.int .i64 t287, s_.2.1]), (96, .int .i64 t291)]) (fun s_ w' => (w'.cell? ⟨gb238, 0, none⟩ = some (.int .i64 a0_0) ∧ w'.cell? ⟨gb238, 1, none⟩ = some (.slice A0_1 l0_1.length c0_1) ∧ w'.cell? ⟨gb239, 0, none⟩ = some (.int .i64 a1_0) ∧ w'.cell? ⟨gb239, 1, none⟩ = some (.int .i64 a1_1) ∧ w'.cell? ⟨gb239, 2, none⟩ = some (.int .i64 a1_2)) ∧ (Kd.R k28 28 w' w.heap.size (fun k_ => some k_ ≠ (s_.2.1 : Value).ownBlock ∧ some k_ ≠ (.slice Ao32 t249.length co32 : Value).ownBlock ∧ some k_ ≠ (.slice Ao42 t275.length co42 : Value).ownBlock ∧ some k_ ≠ (.slice Ao50 t263.length co50 : Value).ownBlock) s_.1 t281) ∧ (Kd.R k28 28 w' w.heap.size (fun k_ => some k_ ≠ (s_.1 : Value).ownBlock ∧ some k_ ≠ (.slice Ao32 t249.length co32 : Value).ownBlock ∧ some k_ ≠ (.slice Ao42 t275.length co42 : Value).ownBlock ∧ some k_ ≠ (.slice Ao50 t263.length co50 : Value).ownBlock) s_.2.1 t288) ∧ (Kd.R k28 28 w' w.heap.size (fun k_ => some k_ ≠ (s_.1 : Value).ownBlock ∧ some k_ ≠ (s_.2.1 : Value).ownBlock ∧ some k_ ≠ (.slice Ao42 t275.length co42 : Value).ownBlock ∧ some k_ ≠ (.slice Ao50 t263.length co50 : Value).ownBlock) (.slice Ao32 t249.length co32) t249) ∧ (Kd.R k28 28 w' w.heap.size (fun k_ => some k_ ≠ (s_.1 : Value).ownBlock ∧ some k_ ≠ (s_.2.1 : Value).ownBlock ∧ some k_ ≠ (.slice Ao32 t249.length co32 : Value).ownBlock ∧ some k_ ≠ (.slice Ao50 t263.length co50 : Value).ownBlock) (.slice Ao42 t275.length co42) t275) ∧ (Kd.R k28 28 w' w.heap.size (fun k_ => some k_ ≠ (s_.1 : Value).ownBlock ∧ some k_ ≠ (s_.2.1 : Value).ownBlock ∧ some k_ ≠ (.slice Ao32 t249.length co32 : Value).ownBlock ∧ some k_ ≠ (.slice Ao42 t275.length co42 : Value).ownBlock) (.slice Ao50 t263.length co50) t278) ∧ (w'.heap[gb238]? = some (.cells #[.int .i64 a0_0, .slice A0_1 l0_1.length c0_1] 38 (0, 0))) ∧ (w'.heap[gb239]? = some (.cells #[.int .i64 a1_0, .int .i64 a1_1, .int .i64 a1_2] 39 (0, 0))) ∧ (w'.heap[gb253]? = some (.cells #[.int .i64 t248, .slice Ao32 t249.length co32] 26 (0, 0))) ∧ (w'.heap[gb258]? = some (.cells #[.int .i64 t254, .slice Ao42 t275.length co42] 26 (0, 0))) ∧ (w'.heap[gb267]? = some (.cells #[.int .i64 t262, .slice Ao50 t263.length co50] 26 (0, 0))) ∧ (w'.heap[s_.2.2]? = some (.cells #[.int .i64 0, .slice none 0 0] 26 (0, 0))) ∧ (w.heap.size ≤ s_.2.2) ∧ (w.heap.size ≤ s_.2.2) ∧ (gb238 ≠ s_.2.2) ∧ (s_.2.2 ≠ gb238) ∧ (gb239 ≠ s_.2.2) ∧ (s_.2.2 ≠ gb239) ∧ (gb253 ≠ s_.2.2) ∧ (s_.2.2 ≠ gb253) ∧ (gb258 ≠ s_.2.2) ∧ (s_.2.2 ≠ gb258) ∧ (gb267 ≠ s_.2.2) ∧ (s_.2.2 ≠ gb267) ∧ (Below w.heap.size w w')) ?_ ?_
           rotate_left
           ·intro hCont
            refine two_ (i := 1) (j := 10) (Ni := some 89) (Nj := some 18) #[true, true, true, false, true, true, false, false, false, false, false, false, false] #[true, false, true, false, true, true, false, false, false, false, true, false, false] rfl rfl rfl rfl (two_of HT_.out (by kernel_rfl)) (by decide) (by decide) (fun K hK => ?_) (fun K hK => ?_)
            ·skip
             refine goes_ Try.func13 (by kernel_rfl) rfl #[.agg #[.int .i64 a0_0, .slice A0_1 l0_1.length c0_1]] (by rfl) rfl rfl eA ?_
             with_reducible refine (laws_toCache.calls kj78 a0_0 _ _ l0_1 t280 t281 _ ?side1 ?side2 A118.out).mono ?_
             (case side1 => repeat (first | exact (Kd.C_below HR0_1.out HB.out) | (with_reducible refine Kd.C_alloc ?_ _) | (with_reducible refine Kd.C_drewN ?_ _) | (with_reducible refine Kd.C_drew ?_)))
             (case side2 => exact HC0_1.out)
             rintro e w131 ⟨v282, rfl, ho0, hb⟩
             refine ⟨_, rfl, ?_⟩
             have n0_ := Aside0.mk (Kd.R_elder' (kR HO_254001.out) (Kd.R_base ho0) hb)
             have n1_ := Aside0.mk (Kd.R_elder' (kR HO_259001.out) (Kd.R_base ho0) hb)
             have n2_ := Aside0.mk (Kd.R_elder' (kR HO_268001.out) (Kd.R_base ho0) hb)
             have n3_ := Aside0.mk (Kd.R_lower (Kd.R_new' (Kd.R_new' (Kd.R_new' ho0 (Kd.R_lt (kR HO_254001.out))) (Kd.R_lt (kR HO_259001.out))) (Kd.R_lt (kR HO_268001.out))) (below_size bS))
             have n4_ := Aside0.mk (blk_below (kB BK238.out) hb)
             have n5_ := Aside0.mk (blk_below (kB BK239.out) hb)
             have n6_ := Aside0.mk (blk_below (kB BK253.out) hb)
             have n7_ := Aside0.mk (blk_below (kB BK258.out) hb)
             have n8_ := Aside0.mk (blk_below (kB BK267.out) hb)
             have n9_ := Aside0.mk (below_step bS hb)
             clear HO_254001 HO_259001 HO_268001 BK238 BK239 BK253 BK258 BK267 HB
             have HO_254001 := n0_
             have HO_259001 := n1_
             have HO_268001 := n2_
             have HO283 := n3_
             have BK238 := n4_
             have BK239 := n5_
             have BK253 := n6_
             have BK258 := n7_
             have BK267 := n8_
             have HB := n9_
             clear n0_ n1_ n2_ n3_ n4_ n5_ n6_ n7_ n8_ n9_
             (try clear hb)
             (try clear hb2)
             (try clear hk)
             (try clear hi)
             (try clear ho0)
             refine hK.out _ _ ⟨(blk_cell BK238.out 0).trans rfl, (blk_cell BK238.out 1).trans rfl, (blk_cell BK239.out 0).trans rfl, (blk_cell BK239.out 1).trans rfl, (blk_cell BK239.out 2).trans rfl⟩ (fun hHeld => ?_)
             clear hK K
             refine norm_ (a' := ?_) ?_ ?_
             rotate_left
             ·show Act.put _ (some 89) _ = _
              simp only [Act.put, List.setIfInBounds_toArray, List.set_cons_zero, List.set_cons_succ, i64_w, i32_w]
              rfl
             refine two_ (i := 3) (j := 10) (Ni := some 91) (Nj := some 18) #[true, true, true, true, true, true, false, false, false, false, false, false, false] #[true, true, true, false, true, true, false, false, false, false, true, false, false] rfl rfl rfl rfl (two_of HT_.out (by kernel_rfl)) (by decide) (by decide) (fun K hK => ?_) (fun K hK => ?_)
             ·skip
              refine goes_ Try.func14 (by kernel_rfl) rfl #[.agg #[.int .i64 a1_0, .int .i64 a1_1, .int .i64 a1_2]] (by rfl) rfl rfl eA ?_
              with_reducible refine (laws_toAuth.calls a1_0 a1_1 a1_2 t284 t285 t286 _ A119.out).mono ?_
              rintro e w132 ⟨rfl, hb⟩
              refine ⟨_, rfl, ?_⟩
              have n0_ := Aside0.mk (Kd.R_below (kR HO_254001.out) hb)
              have n1_ := Aside0.mk (Kd.R_below (kR HO_259001.out) hb)
              have n2_ := Aside0.mk (Kd.R_below (kR HO_268001.out) hb)
              have n3_ := Aside0.mk (Kd.R_below (kR HO283.out) hb)
              have n4_ := Aside0.mk (blk_below (kB BK238.out) hb)
              have n5_ := Aside0.mk (blk_below (kB BK239.out) hb)
              have n6_ := Aside0.mk (blk_below (kB BK253.out) hb)
              have n7_ := Aside0.mk (blk_below (kB BK258.out) hb)
              have n8_ := Aside0.mk (blk_below (kB BK267.out) hb)
              have n9_ := Aside0.mk (below_step bS hb)
              clear HO_254001 HO_259001 HO_268001 HO283 BK238 BK239 BK253 BK258 BK267 HB
              have HO_254001 := n0_
              have HO_259001 := n1_
              have HO_268001 := n2_
              have HO283 := n3_
              have BK238 := n4_
              have BK239 := n5_
              have BK253 := n6_
              have BK258 := n7_
              have BK267 := n8_
              have HB := n9_
              clear n0_ n1_ n2_ n3_ n4_ n5_ n6_ n7_ n8_ n9_
              (try clear hb)
              (try clear hb2)
              (try clear hk)
              (try clear hi)
              obtain ⟨Ao133, co133, eo133⟩ := Kd.R_slice HO283.out
              (first | subst eo133 | (injection eo133 with f1_ f2_ f3_; have f4_ := f1_.symm; have f5_ := f3_.symm; clear f1_ f2_ f3_; subst f4_; subst f5_))
              refine hK.out _ _ ⟨(blk_cell BK238.out 0).trans rfl, (blk_cell BK238.out 1).trans rfl, (blk_cell BK239.out 0).trans rfl, (blk_cell BK239.out 1).trans rfl, (blk_cell BK239.out 2).trans rfl⟩ (fun hHeld => ?_)
              clear hK K
              refine norm_ (a' := ?_) ?_ ?_
              rotate_left
              ·show Act.put _ (some 91) _ = _
               simp only [Act.put, List.setIfInBounds_toArray, List.set_cons_zero, List.set_cons_succ, i64_w, i32_w]
               rfl
              refine two_ (i := 6) (j := 10) (Ni := some 94) (Nj := some 18) #[true, true, true, true, true, true, true, false, false, false, false, false, false] #[true, true, true, true, true, true, false, false, false, false, true, false, false] rfl rfl rfl rfl (two_of HT_.out (by kernel_rfl)) (by decide) (by decide) (fun K hK => ?_) (fun K hK => ?_)
              ·skip
               refine goes_ Try.func7 (by kernel_rfl) rfl #[.agg #[.int .i64 t280, .slice Ao133 t281.length co133], .agg #[.int .i64 t284, .int .i64 t285, .int .i64 t286], .int .i64 a2, .int .i64 a3] (by rfl) rfl rfl eA ?_
               with_reducible refine (impl_CacheTry.calls kj78 t280 _ _ t281 t284 t285 t286 a2 a3 t287 t288 t291 _ ?side1 ?side2 A120.out).mono ?_
               (case side1 => repeat (first | exact (Kd.R_reads' HO283.out).2.2 | (with_reducible refine Kd.C_alloc ?_ _) | (with_reducible refine Kd.C_drewN ?_ _) | (with_reducible refine Kd.C_drew ?_)))
               (case side2 => exact (Kd.R_reads' HO283.out).2.1)
               rintro e w134 ⟨v289, rfl, ho0, hb⟩
               refine ⟨_, rfl, ?_⟩
               have n0_ := Aside0.mk (Kd.R_elder' (kR HO_254001.out) (Kd.R_base ho0) hb)
               have n1_ := Aside0.mk (Kd.R_elder' (kR HO_259001.out) (Kd.R_base ho0) hb)
               have n2_ := Aside0.mk (Kd.R_elder' (kR HO_268001.out) (Kd.R_base ho0) hb)
               have n3_ := Aside0.mk (Kd.R_elder' (kR HO283.out) (Kd.R_base ho0) hb)
               have n4_ := Aside0.mk (Kd.R_lower (Kd.R_new' (Kd.R_new' (Kd.R_new' (Kd.R_new' ho0 (Kd.R_lt (kR HO_254001.out))) (Kd.R_lt (kR HO_259001.out))) (Kd.R_lt (kR HO_268001.out))) (Kd.R_lt (kR HO283.out))) (below_size bS))
               have n5_ := Aside0.mk (blk_below (kB BK238.out) hb)
               have n6_ := Aside0.mk (blk_below (kB BK239.out) hb)
               have n7_ := Aside0.mk (blk_below (kB BK253.out) hb)
               have n8_ := Aside0.mk (blk_below (kB BK258.out) hb)
               have n9_ := Aside0.mk (blk_below (kB BK267.out) hb)
               have n10_ := Aside0.mk (below_step bS hb)
               clear HO_254001 HO_259001 HO_268001 HO283 BK238 BK239 BK253 BK258 BK267 HB
               have HO_254001 := n0_
               have HO_259001 := n1_
               have HO_268001 := n2_
               have HO283 := n3_
               have HO290 := n4_
               have BK238 := n5_
               have BK239 := n6_
               have BK253 := n7_
               have BK258 := n8_
               have BK267 := n9_
               have HB := n10_
               clear n0_ n1_ n2_ n3_ n4_ n5_ n6_ n7_ n8_ n9_ n10_
               (try clear hb)
               (try clear hb2)
               (try clear hk)
               (try clear hi)
               (try clear ho0)
               refine hK.out _ _ ⟨(blk_cell BK238.out 0).trans rfl, (blk_cell BK238.out 1).trans rfl, (blk_cell BK239.out 0).trans rfl, (blk_cell BK239.out 1).trans rfl, (blk_cell BK239.out 2).trans rfl⟩ (fun hHeld => ?_)
               clear hK K
               refine norm_ (a' := ?_) ?_ ?_
               rotate_left
               ·show Act.put _ (some 94) _ = _
                simp only [Act.put, List.setIfInBounds_toArray, List.set_cons_zero, List.set_cons_succ, i64_w, i32_w]
                rfl
               refine pure_ (i := 7) (N := some 87) (v := ?_) (a' := ?_) #[true, true, true, true, true, true, true, true, false, false, false, false, false] rfl rfl (any_of HT_.out (by kernel_rfl)) (fun _ _ _ h => h) (Or.inl ⟨by rfl, ?_⟩) ?_ ?_
               rotate_left
               ·intro w'
                go_simp
                with_reducible rfl
               rotate_left
               ·simp only [Act.put, List.setIfInBounds_toArray, List.set_cons_zero, List.set_cons_succ, i64_w, i32_w]
                rfl
               refine pure_ (i := 8) (N := some 95) (v := ?_) (a' := ?_) #[true, true, true, true, true, true, true, true, true, false, false, false, false] rfl rfl (any_of HT_.out (by kernel_rfl)) (fun _ _ _ h => h) (Or.inl ⟨by rfl, ?_⟩) ?_ ?_
               rotate_left
               ·intro w'
                go_simp
                with_reducible rfl
               rotate_left
               ·simp only [Act.put, List.setIfInBounds_toArray, List.set_cons_zero, List.set_cons_succ, i64_w, i32_w]
                rfl
               refine pure_ (i := 9) (N := some 96) (v := ?_) (a' := ?_) #[true, true, true, true, true, true, true, true, true, true, false, false, false] rfl rfl (any_of HT_.out (by kernel_rfl)) (fun _ _ _ h => h) (Or.inl ⟨by rfl, ?_⟩) ?_ ?_
               rotate_left
               ·intro w'
                go_simp
                with_reducible rfl
               rotate_left
               ·simp only [Act.put, List.setIfInBounds_toArray, List.set_cons_zero, List.set_cons_succ, i64_w, i32_w]
                rfl
               refine one_ (i := 10) (N := some 18) #[true, true, true, true, true, true, true, true, true, true, true, false, false] rfl rfl (one_of HT_.out (by kernel_rfl)) (by decide) (fun K hK => ?_)
               refine box_step ?hg (N := 18) ?hd (cs := #[.int .i64 0, .slice none 0 0]) (t := 26) ?hr ?_; (case hd => rfl); (case hg => rfl); (case hr => first | (go_simp; done) | (go_simp; rfl))
               intro gb292 hg w135 hbox hb
               have n0_ := Aside0.mk (Kd.R_below (kR HO_254001.out) hb)
               have n1_ := Aside0.mk (Kd.R_below (kR HO_259001.out) hb)
               have n2_ := Aside0.mk (Kd.R_below (kR HO_268001.out) hb)
               have n3_ := Aside0.mk (Kd.R_below (kR HO283.out) hb)
               have n4_ := Aside0.mk (Kd.R_below (kR HO290.out) hb)
               have n5_ := Aside0.mk (blk_below (kB BK238.out) hb)
               have n6_ := Aside0.mk (blk_below (kB BK239.out) hb)
               have n7_ := Aside0.mk (blk_below (kB BK253.out) hb)
               have n8_ := Aside0.mk (blk_below (kB BK258.out) hb)
               have n9_ := Aside0.mk (blk_below (kB BK267.out) hb)
               have n10_ := Aside0.mk (below_step bS hb)
               have n11_ := Aside0.mk (hbox)
               have n12_ := Aside0.mk ((bZ hg : w.heap.size ≤ gb292))
               have n13_ := Aside0.mk ((bZ hg : w.heap.size ≤ gb292))
               have n14_ := Aside0.mk ((nL hg BK238.out : gb238 ≠ gb292))
               have n15_ := Aside0.mk ((nG hg BK238.out : gb292 ≠ gb238))
               have n16_ := Aside0.mk ((nL hg BK239.out : gb239 ≠ gb292))
               have n17_ := Aside0.mk ((nG hg BK239.out : gb292 ≠ gb239))
               have n18_ := Aside0.mk ((nL hg BK253.out : gb253 ≠ gb292))
               have n19_ := Aside0.mk ((nG hg BK253.out : gb292 ≠ gb253))
               have n20_ := Aside0.mk ((nL hg BK258.out : gb258 ≠ gb292))
               have n21_ := Aside0.mk ((nG hg BK258.out : gb292 ≠ gb258))
               have n22_ := Aside0.mk ((nL hg BK267.out : gb267 ≠ gb292))
               have n23_ := Aside0.mk ((nG hg BK267.out : gb292 ≠ gb267))
               clear HO_254001 HO_259001 HO_268001 HO283 HO290 BK238 BK239 BK253 BK258 BK267 HB
               have HO_254001 := n0_
               have HO_259001 := n1_
               have HO_268001 := n2_
               have HO283 := n3_
               have HO290 := n4_
               have BK238 := n5_
               have BK239 := n6_
               have BK253 := n7_
               have BK258 := n8_
               have BK267 := n9_
               have HB := n10_
               have BK292 := n11_
               have GW292 := n12_
               have GE292 := n13_
               have NB238_292 := n14_
               have NB292_238 := n15_
               have NB239_292 := n16_
               have NB292_239 := n17_
               have NB253_292 := n18_
               have NB292_253 := n19_
               have NB258_292 := n20_
               have NB292_258 := n21_
               have NB267_292 := n22_
               have NB292_267 := n23_
               clear n0_ n1_ n2_ n3_ n4_ n5_ n6_ n7_ n8_ n9_ n10_ n11_ n12_ n13_ n14_ n15_ n16_ n17_ n18_ n19_ n20_ n21_ n22_ n23_ hb hbox hg
               refine hK.out _ _ ⟨(blk_cell BK238.out 0).trans rfl, (blk_cell BK238.out 1).trans rfl, (blk_cell BK239.out 0).trans rfl, (blk_cell BK239.out 1).trans rfl, (blk_cell BK239.out 2).trans rfl⟩ (fun hHeld => ?_)
               clear hK K
               refine norm_ (a' := ?_) ?_ ?_
               rotate_left
               ·show Act.put _ (some 18) _ = _
                simp only [Act.put, List.setIfInBounds_toArray, List.set_cons_zero, List.set_cons_succ, i64_w, i32_w]
                rfl
               exact norm_ (by simp only [putAll, Act.put, List.setIfInBounds_toArray, List.set_cons_zero, List.set_cons_succ]) (hCont (.slice Ao133 t281.length co133, v289, gb292) _ ⟨hHeld, (by (with_reducible repeat (first | apply Kd.R_alloc | apply Kd.R_drewN | apply Kd.R_drew)); exact Kd.R_mono HO283.out (fun _ hk => ⟨hk.2, ⟨hk.1.1.1.2, ⟨hk.1.1.2, hk.1.2⟩⟩⟩)), (by (with_reducible repeat (first | apply Kd.R_alloc | apply Kd.R_drewN | apply Kd.R_drew)); exact Kd.R_mono HO290.out (fun _ hk => ⟨hk.2, ⟨hk.1.1.1.2, ⟨hk.1.1.2, hk.1.2⟩⟩⟩)), (by (with_reducible repeat (first | apply Kd.R_alloc | apply Kd.R_drewN | apply Kd.R_drew)); exact Kd.R_mono HO_254001.out (fun _ hk => ⟨hk.1.2, ⟨hk.2, ⟨hk.1.1.1, hk.1.1.2⟩⟩⟩)), (by (with_reducible repeat (first | apply Kd.R_alloc | apply Kd.R_drewN | apply Kd.R_drew)); exact Kd.R_mono HO_259001.out (fun _ hk => ⟨hk.1.2, ⟨hk.2, ⟨hk.1.1.1, hk.1.1.2⟩⟩⟩)), (by (with_reducible repeat (first | apply Kd.R_alloc | apply Kd.R_drewN | apply Kd.R_drew)); exact Kd.R_mono HO_268001.out (fun _ hk => ⟨hk.1.2, ⟨hk.2, ⟨hk.1.1.1, hk.1.1.2⟩⟩⟩)), (kB BK238.out), (kB BK239.out), (kB BK253.out), (kB BK258.out), (kB BK267.out), (kB BK292.out), GW292.out, GE292.out, NB238_292.out, NB292_238.out, NB239_292.out, NB292_239.out, NB253_292.out, NB292_253.out, NB258_292.out, NB292_258.out, NB267_292.out, NB292_267.out, bS⟩)
              ·skip
               refine box_step ?hg (N := 18) ?hd (cs := #[.int .i64 0, .slice none 0 0]) (t := 26) ?hr ?_; (case hd => rfl); (case hg => rfl); (case hr => first | (go_simp; done) | (go_simp; rfl))
               intro gb292 hg w133 hbox hb
               have n0_ := Aside0.mk (Kd.R_below (kR HO_254001.out) hb)
               have n1_ := Aside0.mk (Kd.R_below (kR HO_259001.out) hb)
               have n2_ := Aside0.mk (Kd.R_below (kR HO_268001.out) hb)
               have n3_ := Aside0.mk (Kd.R_below (kR HO283.out) hb)
               have n4_ := Aside0.mk (blk_below (kB BK238.out) hb)
               have n5_ := Aside0.mk (blk_below (kB BK239.out) hb)
               have n6_ := Aside0.mk (blk_below (kB BK253.out) hb)
               have n7_ := Aside0.mk (blk_below (kB BK258.out) hb)
               have n8_ := Aside0.mk (blk_below (kB BK267.out) hb)
               have n9_ := Aside0.mk (below_step bS hb)
               have n10_ := Aside0.mk (hbox)
               have n11_ := Aside0.mk ((bZ hg : w.heap.size ≤ gb292))
               have n12_ := Aside0.mk ((bZ hg : w.heap.size ≤ gb292))
               have n13_ := Aside0.mk ((nL hg BK238.out : gb238 ≠ gb292))
               have n14_ := Aside0.mk ((nG hg BK238.out : gb292 ≠ gb238))
               have n15_ := Aside0.mk ((nL hg BK239.out : gb239 ≠ gb292))
               have n16_ := Aside0.mk ((nG hg BK239.out : gb292 ≠ gb239))
               have n17_ := Aside0.mk ((nL hg BK253.out : gb253 ≠ gb292))
               have n18_ := Aside0.mk ((nG hg BK253.out : gb292 ≠ gb253))
               have n19_ := Aside0.mk ((nL hg BK258.out : gb258 ≠ gb292))
               have n20_ := Aside0.mk ((nG hg BK258.out : gb292 ≠ gb258))
               have n21_ := Aside0.mk ((nL hg BK267.out : gb267 ≠ gb292))
               have n22_ := Aside0.mk ((nG hg BK267.out : gb292 ≠ gb267))
               clear HO_254001 HO_259001 HO_268001 HO283 BK238 BK239 BK253 BK258 BK267 HB
               have HO_254001 := n0_
               have HO_259001 := n1_
               have HO_268001 := n2_
               have HO283 := n3_
               have BK238 := n4_
               have BK239 := n5_
               have BK253 := n6_
               have BK258 := n7_
               have BK267 := n8_
               have HB := n9_
               have BK292 := n10_
               have GW292 := n11_
               have GE292 := n12_
               have NB238_292 := n13_
               have NB292_238 := n14_
               have NB239_292 := n15_
               have NB292_239 := n16_
               have NB253_292 := n17_
               have NB292_253 := n18_
               have NB258_292 := n19_
               have NB292_258 := n20_
               have NB267_292 := n21_
               have NB292_267 := n22_
               clear n0_ n1_ n2_ n3_ n4_ n5_ n6_ n7_ n8_ n9_ n10_ n11_ n12_ n13_ n14_ n15_ n16_ n17_ n18_ n19_ n20_ n21_ n22_ hb hbox hg
               obtain ⟨Ao134, co134, eo134⟩ := Kd.R_slice HO283.out
               (first | subst eo134 | (injection eo134 with f1_ f2_ f3_; have f4_ := f1_.symm; have f5_ := f3_.symm; clear f1_ f2_ f3_; subst f4_; subst f5_))
               refine hK.out _ _ ⟨(blk_cell BK238.out 0).trans rfl, (blk_cell BK238.out 1).trans rfl, (blk_cell BK239.out 0).trans rfl, (blk_cell BK239.out 1).trans rfl, (blk_cell BK239.out 2).trans rfl⟩ (fun hHeld => ?_)
               clear hK K
               refine norm_ (a' := ?_) ?_ ?_
               rotate_left
               ·show Act.put _ (some 18) _ = _
                simp only [Act.put, List.setIfInBounds_toArray, List.set_cons_zero, List.set_cons_succ, i64_w, i32_w]
                rfl
               refine one_ (i := 6) (N := some 94) #[true, true, true, true, true, true, true, false, false, false, true, false, false] rfl rfl (one_of HT_.out (by kernel_rfl)) (by decide) (fun K hK => ?_)
               refine goes_ Try.func7 (by kernel_rfl) rfl #[.agg #[.int .i64 t280, .slice Ao134 t281.length co134], .agg #[.int .i64 t284, .int .i64 t285, .int .i64 t286], .int .i64 a2, .int .i64 a3] (by rfl) rfl rfl eA ?_
               with_reducible refine (impl_CacheTry.calls kj78 t280 _ _ t281 t284 t285 t286 a2 a3 t287 t288 t291 _ ?side1 ?side2 A120.out).mono ?_
               (case side1 => repeat (first | exact (Kd.R_reads' HO283.out).2.2 | (with_reducible refine Kd.C_alloc ?_ _) | (with_reducible refine Kd.C_drewN ?_ _) | (with_reducible refine Kd.C_drew ?_)))
               (case side2 => exact (Kd.R_reads' HO283.out).2.1)
               rintro e w135 ⟨v289, rfl, ho0, hb⟩
               refine ⟨_, rfl, ?_⟩
               have n0_ := Aside0.mk (Kd.R_elder' (kR HO_254001.out) (Kd.R_base ho0) hb)
               have n1_ := Aside0.mk (Kd.R_elder' (kR HO_259001.out) (Kd.R_base ho0) hb)
               have n2_ := Aside0.mk (Kd.R_elder' (kR HO_268001.out) (Kd.R_base ho0) hb)
               have n3_ := Aside0.mk (Kd.R_elder' (kR HO283.out) (Kd.R_base ho0) hb)
               have n4_ := Aside0.mk (Kd.R_lower (Kd.R_new' (Kd.R_new' (Kd.R_new' (Kd.R_new' ho0 (Kd.R_lt (kR HO_254001.out))) (Kd.R_lt (kR HO_259001.out))) (Kd.R_lt (kR HO_268001.out))) (Kd.R_lt (kR HO283.out))) (below_size bS))
               have n5_ := Aside0.mk (blk_below (kB BK238.out) hb)
               have n6_ := Aside0.mk (blk_below (kB BK239.out) hb)
               have n7_ := Aside0.mk (blk_below (kB BK253.out) hb)
               have n8_ := Aside0.mk (blk_below (kB BK258.out) hb)
               have n9_ := Aside0.mk (blk_below (kB BK267.out) hb)
               have n10_ := Aside0.mk (blk_below (kB BK292.out) hb)
               have n11_ := Aside0.mk (below_step bS hb)
               clear HO_254001 HO_259001 HO_268001 HO283 BK238 BK239 BK253 BK258 BK267 BK292 HB
               have HO_254001 := n0_
               have HO_259001 := n1_
               have HO_268001 := n2_
               have HO283 := n3_
               have HO290 := n4_
               have BK238 := n5_
               have BK239 := n6_
               have BK253 := n7_
               have BK258 := n8_
               have BK267 := n9_
               have BK292 := n10_
               have HB := n11_
               clear n0_ n1_ n2_ n3_ n4_ n5_ n6_ n7_ n8_ n9_ n10_ n11_
               (try clear hb)
               (try clear hb2)
               (try clear hk)
               (try clear hi)
               (try clear ho0)
               refine hK.out _ _ ⟨(blk_cell BK238.out 0).trans rfl, (blk_cell BK238.out 1).trans rfl, (blk_cell BK239.out 0).trans rfl, (blk_cell BK239.out 1).trans rfl, (blk_cell BK239.out 2).trans rfl⟩ (fun hHeld => ?_)
               clear hK K
               refine norm_ (a' := ?_) ?_ ?_
               rotate_left
               ·show Act.put _ (some 94) _ = _
                simp only [Act.put, List.setIfInBounds_toArray, List.set_cons_zero, List.set_cons_succ, i64_w, i32_w]
                rfl
               refine pure_ (i := 7) (N := some 87) (v := ?_) (a' := ?_) #[true, true, true, true, true, true, true, true, false, false, true, false, false] rfl rfl (any_of HT_.out (by kernel_rfl)) (fun _ _ _ h => h) (Or.inl ⟨by rfl, ?_⟩) ?_ ?_
               rotate_left
               ·intro w'
                go_simp
                with_reducible rfl
               rotate_left
               ·simp only [Act.put, List.setIfInBounds_toArray, List.set_cons_zero, List.set_cons_succ, i64_w, i32_w]
                rfl
               refine pure_ (i := 8) (N := some 95) (v := ?_) (a' := ?_) #[true, true, true, true, true, true, true, true, true, false, true, false, false] rfl rfl (any_of HT_.out (by kernel_rfl)) (fun _ _ _ h => h) (Or.inl ⟨by rfl, ?_⟩) ?_ ?_
               rotate_left
               ·intro w'
                go_simp
                with_reducible rfl
               rotate_left
               ·simp only [Act.put, List.setIfInBounds_toArray, List.set_cons_zero, List.set_cons_succ, i64_w, i32_w]
                rfl
               refine pure_ (i := 9) (N := some 96) (v := ?_) (a' := ?_) #[true, true, true, true, true, true, true, true, true, true, true, false, false] rfl rfl (any_of HT_.out (by kernel_rfl)) (fun _ _ _ h => h) (Or.inl ⟨by rfl, ?_⟩) ?_ ?_
               rotate_left
               ·intro w'
                go_simp
                with_reducible rfl
               rotate_left
               ·simp only [Act.put, List.setIfInBounds_toArray, List.set_cons_zero, List.set_cons_succ, i64_w, i32_w]
                rfl
               exact norm_ (by simp only [putAll, Act.put, List.setIfInBounds_toArray, List.set_cons_zero, List.set_cons_succ]) (hCont (.slice Ao134 t281.length co134, v289, gb292) _ ⟨hHeld, (by (with_reducible repeat (first | apply Kd.R_alloc | apply Kd.R_drewN | apply Kd.R_drew)); exact Kd.R_mono HO283.out (fun _ hk => ⟨hk.2, ⟨hk.1.1.1.2, ⟨hk.1.1.2, hk.1.2⟩⟩⟩)), (by (with_reducible repeat (first | apply Kd.R_alloc | apply Kd.R_drewN | apply Kd.R_drew)); exact Kd.R_mono HO290.out (fun _ hk => ⟨hk.2, ⟨hk.1.1.1.2, ⟨hk.1.1.2, hk.1.2⟩⟩⟩)), (by (with_reducible repeat (first | apply Kd.R_alloc | apply Kd.R_drewN | apply Kd.R_drew)); exact Kd.R_mono HO_254001.out (fun _ hk => ⟨hk.1.2, ⟨hk.2, ⟨hk.1.1.1, hk.1.1.2⟩⟩⟩)), (by (with_reducible repeat (first | apply Kd.R_alloc | apply Kd.R_drewN | apply Kd.R_drew)); exact Kd.R_mono HO_259001.out (fun _ hk => ⟨hk.1.2, ⟨hk.2, ⟨hk.1.1.1, hk.1.1.2⟩⟩⟩)), (by (with_reducible repeat (first | apply Kd.R_alloc | apply Kd.R_drewN | apply Kd.R_drew)); exact Kd.R_mono HO_268001.out (fun _ hk => ⟨hk.1.2, ⟨hk.2, ⟨hk.1.1.1, hk.1.1.2⟩⟩⟩)), (kB BK238.out), (kB BK239.out), (kB BK253.out), (kB BK258.out), (kB BK267.out), (kB BK292.out), GW292.out, GE292.out, NB238_292.out, NB292_238.out, NB239_292.out, NB292_239.out, NB253_292.out, NB292_253.out, NB258_292.out, NB292_258.out, NB267_292.out, NB292_267.out, bS⟩)
             ·skip
              refine box_step ?hg (N := 18) ?hd (cs := #[.int .i64 0, .slice none 0 0]) (t := 26) ?hr ?_; (case hd => rfl); (case hg => rfl); (case hr => first | (go_simp; done) | (go_simp; rfl))
              intro gb292 hg w132 hbox hb
              have n0_ := Aside0.mk (Kd.R_below (kR HO_254001.out) hb)
              have n1_ := Aside0.mk (Kd.R_below (kR HO_259001.out) hb)
              have n2_ := Aside0.mk (Kd.R_below (kR HO_268001.out) hb)
              have n3_ := Aside0.mk (Kd.R_below (kR HO283.out) hb)
              have n4_ := Aside0.mk (blk_below (kB BK238.out) hb)
              have n5_ := Aside0.mk (blk_below (kB BK239.out) hb)
              have n6_ := Aside0.mk (blk_below (kB BK253.out) hb)
              have n7_ := Aside0.mk (blk_below (kB BK258.out) hb)
              have n8_ := Aside0.mk (blk_below (kB BK267.out) hb)
              have n9_ := Aside0.mk (below_step bS hb)
              have n10_ := Aside0.mk (hbox)
              have n11_ := Aside0.mk ((bZ hg : w.heap.size ≤ gb292))
              have n12_ := Aside0.mk ((bZ hg : w.heap.size ≤ gb292))
              have n13_ := Aside0.mk ((nL hg BK238.out : gb238 ≠ gb292))
              have n14_ := Aside0.mk ((nG hg BK238.out : gb292 ≠ gb238))
              have n15_ := Aside0.mk ((nL hg BK239.out : gb239 ≠ gb292))
              have n16_ := Aside0.mk ((nG hg BK239.out : gb292 ≠ gb239))
              have n17_ := Aside0.mk ((nL hg BK253.out : gb253 ≠ gb292))
              have n18_ := Aside0.mk ((nG hg BK253.out : gb292 ≠ gb253))
              have n19_ := Aside0.mk ((nL hg BK258.out : gb258 ≠ gb292))
              have n20_ := Aside0.mk ((nG hg BK258.out : gb292 ≠ gb258))
              have n21_ := Aside0.mk ((nL hg BK267.out : gb267 ≠ gb292))
              have n22_ := Aside0.mk ((nG hg BK267.out : gb292 ≠ gb267))
              clear HO_254001 HO_259001 HO_268001 HO283 BK238 BK239 BK253 BK258 BK267 HB
              have HO_254001 := n0_
              have HO_259001 := n1_
              have HO_268001 := n2_
              have HO283 := n3_
              have BK238 := n4_
              have BK239 := n5_
              have BK253 := n6_
              have BK258 := n7_
              have BK267 := n8_
              have HB := n9_
              have BK292 := n10_
              have GW292 := n11_
              have GE292 := n12_
              have NB238_292 := n13_
              have NB292_238 := n14_
              have NB239_292 := n15_
              have NB292_239 := n16_
              have NB253_292 := n17_
              have NB292_253 := n18_
              have NB258_292 := n19_
              have NB292_258 := n20_
              have NB267_292 := n21_
              have NB292_267 := n22_
              clear n0_ n1_ n2_ n3_ n4_ n5_ n6_ n7_ n8_ n9_ n10_ n11_ n12_ n13_ n14_ n15_ n16_ n17_ n18_ n19_ n20_ n21_ n22_ hb hbox hg
              refine hK.out _ _ ⟨(blk_cell BK238.out 0).trans rfl, (blk_cell BK238.out 1).trans rfl, (blk_cell BK239.out 0).trans rfl, (blk_cell BK239.out 1).trans rfl, (blk_cell BK239.out 2).trans rfl⟩ (fun hHeld => ?_)
              clear hK K
              refine norm_ (a' := ?_) ?_ ?_
              rotate_left
              ·show Act.put _ (some 18) _ = _
               simp only [Act.put, List.setIfInBounds_toArray, List.set_cons_zero, List.set_cons_succ, i64_w, i32_w]
               rfl
              refine one_ (i := 3) (N := some 91) #[true, true, true, true, true, true, false, false, false, false, true, false, false] rfl rfl (one_of HT_.out (by kernel_rfl)) (by decide) (fun K hK => ?_)
              refine goes_ Try.func14 (by kernel_rfl) rfl #[.agg #[.int .i64 a1_0, .int .i64 a1_1, .int .i64 a1_2]] (by rfl) rfl rfl eA ?_
              with_reducible refine (laws_toAuth.calls a1_0 a1_1 a1_2 t284 t285 t286 _ A119.out).mono ?_
              rintro e w133 ⟨rfl, hb⟩
              refine ⟨_, rfl, ?_⟩
              have n0_ := Aside0.mk (Kd.R_below (kR HO_254001.out) hb)
              have n1_ := Aside0.mk (Kd.R_below (kR HO_259001.out) hb)
              have n2_ := Aside0.mk (Kd.R_below (kR HO_268001.out) hb)
              have n3_ := Aside0.mk (Kd.R_below (kR HO283.out) hb)
              have n4_ := Aside0.mk (blk_below (kB BK238.out) hb)
              have n5_ := Aside0.mk (blk_below (kB BK239.out) hb)
              have n6_ := Aside0.mk (blk_below (kB BK253.out) hb)
              have n7_ := Aside0.mk (blk_below (kB BK258.out) hb)
              have n8_ := Aside0.mk (blk_below (kB BK267.out) hb)
              have n9_ := Aside0.mk (blk_below (kB BK292.out) hb)
              have n10_ := Aside0.mk (below_step bS hb)
              clear HO_254001 HO_259001 HO_268001 HO283 BK238 BK239 BK253 BK258 BK267 BK292 HB
              have HO_254001 := n0_
              have HO_259001 := n1_
              have HO_268001 := n2_
              have HO283 := n3_
              have BK238 := n4_
              have BK239 := n5_
              have BK253 := n6_
              have BK258 := n7_
              have BK267 := n8_
              have BK292 := n9_
              have HB := n10_
              clear n0_ n1_ n2_ n3_ n4_ n5_ n6_ n7_ n8_ n9_ n10_
              (try clear hb)
              (try clear hb2)
              (try clear hk)
              (try clear hi)
              obtain ⟨Ao134, co134, eo134⟩ := Kd.R_slice HO283.out
              (first | subst eo134 | (injection eo134 with f1_ f2_ f3_; have f4_ := f1_.symm; have f5_ := f3_.symm; clear f1_ f2_ f3_; subst f4_; subst f5_))
              refine hK.out _ _ ⟨(blk_cell BK238.out 0).trans rfl, (blk_cell BK238.out 1).trans rfl, (blk_cell BK239.out 0).trans rfl, (blk_cell BK239.out 1).trans rfl, (blk_cell BK239.out 2).trans rfl⟩ (fun hHeld => ?_)
              clear hK K
              refine norm_ (a' := ?_) ?_ ?_
              rotate_left
              ·show Act.put _ (some 91) _ = _
               simp only [Act.put, List.setIfInBounds_toArray, List.set_cons_zero, List.set_cons_succ, i64_w, i32_w]
               rfl
              refine one_ (i := 6) (N := some 94) #[true, true, true, true, true, true, true, false, false, false, true, false, false] rfl rfl (one_of HT_.out (by kernel_rfl)) (by decide) (fun K hK => ?_)
              refine goes_ Try.func7 (by kernel_rfl) rfl #[.agg #[.int .i64 t280, .slice Ao134 t281.length co134], .agg #[.int .i64 t284, .int .i64 t285, .int .i64 t286], .int .i64 a2, .int .i64 a3] (by rfl) rfl rfl eA ?_
              with_reducible refine (impl_CacheTry.calls kj78 t280 _ _ t281 t284 t285 t286 a2 a3 t287 t288 t291 _ ?side1 ?side2 A120.out).mono ?_
              (case side1 => repeat (first | exact (Kd.R_reads' HO283.out).2.2 | (with_reducible refine Kd.C_alloc ?_ _) | (with_reducible refine Kd.C_drewN ?_ _) | (with_reducible refine Kd.C_drew ?_)))
              (case side2 => exact (Kd.R_reads' HO283.out).2.1)
              rintro e w135 ⟨v289, rfl, ho0, hb⟩
              refine ⟨_, rfl, ?_⟩
              have n0_ := Aside0.mk (Kd.R_elder' (kR HO_254001.out) (Kd.R_base ho0) hb)
              have n1_ := Aside0.mk (Kd.R_elder' (kR HO_259001.out) (Kd.R_base ho0) hb)
              have n2_ := Aside0.mk (Kd.R_elder' (kR HO_268001.out) (Kd.R_base ho0) hb)
              have n3_ := Aside0.mk (Kd.R_elder' (kR HO283.out) (Kd.R_base ho0) hb)
              have n4_ := Aside0.mk (Kd.R_lower (Kd.R_new' (Kd.R_new' (Kd.R_new' (Kd.R_new' ho0 (Kd.R_lt (kR HO_254001.out))) (Kd.R_lt (kR HO_259001.out))) (Kd.R_lt (kR HO_268001.out))) (Kd.R_lt (kR HO283.out))) (below_size bS))
              have n5_ := Aside0.mk (blk_below (kB BK238.out) hb)
              have n6_ := Aside0.mk (blk_below (kB BK239.out) hb)
              have n7_ := Aside0.mk (blk_below (kB BK253.out) hb)
              have n8_ := Aside0.mk (blk_below (kB BK258.out) hb)
              have n9_ := Aside0.mk (blk_below (kB BK267.out) hb)
              have n10_ := Aside0.mk (blk_below (kB BK292.out) hb)
              have n11_ := Aside0.mk (below_step bS hb)
              clear HO_254001 HO_259001 HO_268001 HO283 BK238 BK239 BK253 BK258 BK267 BK292 HB
              have HO_254001 := n0_
              have HO_259001 := n1_
              have HO_268001 := n2_
              have HO283 := n3_
              have HO290 := n4_
              have BK238 := n5_
              have BK239 := n6_
              have BK253 := n7_
              have BK258 := n8_
              have BK267 := n9_
              have BK292 := n10_
              have HB := n11_
              clear n0_ n1_ n2_ n3_ n4_ n5_ n6_ n7_ n8_ n9_ n10_ n11_
              (try clear hb)
              (try clear hb2)
              (try clear hk)
              (try clear hi)
              (try clear ho0)
              refine hK.out _ _ ⟨(blk_cell BK238.out 0).trans rfl, (blk_cell BK238.out 1).trans rfl, (blk_cell BK239.out 0).trans rfl, (blk_cell BK239.out 1).trans rfl, (blk_cell BK239.out 2).trans rfl⟩ (fun hHeld => ?_)
              clear hK K
              refine norm_ (a' := ?_) ?_ ?_
              rotate_left
              ·show Act.put _ (some 94) _ = _
               simp only [Act.put, List.setIfInBounds_toArray, List.set_cons_zero, List.set_cons_succ, i64_w, i32_w]
               rfl
              refine pure_ (i := 7) (N := some 87) (v := ?_) (a' := ?_) #[true, true, true, true, true, true, true, true, false, false, true, false, false] rfl rfl (any_of HT_.out (by kernel_rfl)) (fun _ _ _ h => h) (Or.inl ⟨by rfl, ?_⟩) ?_ ?_
              rotate_left
              ·intro w'
               go_simp
               with_reducible rfl
              rotate_left
              ·simp only [Act.put, List.setIfInBounds_toArray, List.set_cons_zero, List.set_cons_succ, i64_w, i32_w]
               rfl
              refine pure_ (i := 8) (N := some 95) (v := ?_) (a' := ?_) #[true, true, true, true, true, true, true, true, true, false, true, false, false] rfl rfl (any_of HT_.out (by kernel_rfl)) (fun _ _ _ h => h) (Or.inl ⟨by rfl, ?_⟩) ?_ ?_
              rotate_left
              ·intro w'
               go_simp
               with_reducible rfl
              rotate_left
              ·simp only [Act.put, List.setIfInBounds_toArray, List.set_cons_zero, List.set_cons_succ, i64_w, i32_w]
               rfl
              refine pure_ (i := 9) (N := some 96) (v := ?_) (a' := ?_) #[true, true, true, true, true, true, true, true, true, true, true, false, false] rfl rfl (any_of HT_.out (by kernel_rfl)) (fun _ _ _ h => h) (Or.inl ⟨by rfl, ?_⟩) ?_ ?_
              rotate_left
              ·intro w'
               go_simp
               with_reducible rfl
              rotate_left
              ·simp only [Act.put, List.setIfInBounds_toArray, List.set_cons_zero, List.set_cons_succ, i64_w, i32_w]
               rfl
              exact norm_ (by simp only [putAll, Act.put, List.setIfInBounds_toArray, List.set_cons_zero, List.set_cons_succ]) (hCont (.slice Ao134 t281.length co134, v289, gb292) _ ⟨hHeld, (by (with_reducible repeat (first | apply Kd.R_alloc | apply Kd.R_drewN | apply Kd.R_drew)); exact Kd.R_mono HO283.out (fun _ hk => ⟨hk.2, ⟨hk.1.1.1.2, ⟨hk.1.1.2, hk.1.2⟩⟩⟩)), (by (with_reducible repeat (first | apply Kd.R_alloc | apply Kd.R_drewN | apply Kd.R_drew)); exact Kd.R_mono HO290.out (fun _ hk => ⟨hk.2, ⟨hk.1.1.1.2, ⟨hk.1.1.2, hk.1.2⟩⟩⟩)), (by (with_reducible repeat (first | apply Kd.R_alloc | apply Kd.R_drewN | apply Kd.R_drew)); exact Kd.R_mono HO_254001.out (fun _ hk => ⟨hk.1.2, ⟨hk.2, ⟨hk.1.1.1, hk.1.1.2⟩⟩⟩)), (by (with_reducible repeat (first | apply Kd.R_alloc | apply Kd.R_drewN | apply Kd.R_drew)); exact Kd.R_mono HO_259001.out (fun _ hk => ⟨hk.1.2, ⟨hk.2, ⟨hk.1.1.1, hk.1.1.2⟩⟩⟩)), (by (with_reducible repeat (first | apply Kd.R_alloc | apply Kd.R_drewN | apply Kd.R_drew)); exact Kd.R_mono HO_268001.out (fun _ hk => ⟨hk.1.2, ⟨hk.2, ⟨hk.1.1.1, hk.1.1.2⟩⟩⟩)), (kB BK238.out), (kB BK239.out), (kB BK253.out), (kB BK258.out), (kB BK267.out), (kB BK292.out), GW292.out, GE292.out, NB238_292.out, NB292_238.out, NB239_292.out, NB292_239.out, NB253_292.out, NB292_253.out, NB258_292.out, NB292_258.out, NB267_292.out, NB292_267.out, bS⟩)
            ·skip
             refine box_step ?hg (N := 18) ?hd (cs := #[.int .i64 0, .slice none 0 0]) (t := 26) ?hr ?_; (case hd => rfl); (case hg => rfl); (case hr => first | (go_simp; done) | (go_simp; rfl))
             intro gb292 hg w131 hbox hb
             have n0_ := Aside0.mk (Kd.R_below (kR HO_254001.out) hb)
             have n1_ := Aside0.mk (Kd.R_below (kR HO_259001.out) hb)
             have n2_ := Aside0.mk (Kd.R_below (kR HO_268001.out) hb)
             have n3_ := Aside0.mk (blk_below (kB BK238.out) hb)
             have n4_ := Aside0.mk (blk_below (kB BK239.out) hb)
             have n5_ := Aside0.mk (blk_below (kB BK253.out) hb)
             have n6_ := Aside0.mk (blk_below (kB BK258.out) hb)
             have n7_ := Aside0.mk (blk_below (kB BK267.out) hb)
             have n8_ := Aside0.mk (below_step bS hb)
             have n9_ := Aside0.mk (hbox)
             have n10_ := Aside0.mk ((bZ hg : w.heap.size ≤ gb292))
             have n11_ := Aside0.mk ((bZ hg : w.heap.size ≤ gb292))
             have n12_ := Aside0.mk ((nL hg BK238.out : gb238 ≠ gb292))
             have n13_ := Aside0.mk ((nG hg BK238.out : gb292 ≠ gb238))
             have n14_ := Aside0.mk ((nL hg BK239.out : gb239 ≠ gb292))
             have n15_ := Aside0.mk ((nG hg BK239.out : gb292 ≠ gb239))
             have n16_ := Aside0.mk ((nL hg BK253.out : gb253 ≠ gb292))
             have n17_ := Aside0.mk ((nG hg BK253.out : gb292 ≠ gb253))
             have n18_ := Aside0.mk ((nL hg BK258.out : gb258 ≠ gb292))
             have n19_ := Aside0.mk ((nG hg BK258.out : gb292 ≠ gb258))
             have n20_ := Aside0.mk ((nL hg BK267.out : gb267 ≠ gb292))
             have n21_ := Aside0.mk ((nG hg BK267.out : gb292 ≠ gb267))
             clear HO_254001 HO_259001 HO_268001 BK238 BK239 BK253 BK258 BK267 HB
             have HO_254001 := n0_
             have HO_259001 := n1_
             have HO_268001 := n2_
             have BK238 := n3_
             have BK239 := n4_
             have BK253 := n5_
             have BK258 := n6_
             have BK267 := n7_
             have HB := n8_
             have BK292 := n9_
             have GW292 := n10_
             have GE292 := n11_
             have NB238_292 := n12_
             have NB292_238 := n13_
             have NB239_292 := n14_
             have NB292_239 := n15_
             have NB253_292 := n16_
             have NB292_253 := n17_
             have NB258_292 := n18_
             have NB292_258 := n19_
             have NB267_292 := n20_
             have NB292_267 := n21_
             clear n0_ n1_ n2_ n3_ n4_ n5_ n6_ n7_ n8_ n9_ n10_ n11_ n12_ n13_ n14_ n15_ n16_ n17_ n18_ n19_ n20_ n21_ hb hbox hg
             refine hK.out _ _ ⟨(blk_cell BK238.out 0).trans rfl, (blk_cell BK238.out 1).trans rfl, (blk_cell BK239.out 0).trans rfl, (blk_cell BK239.out 1).trans rfl, (blk_cell BK239.out 2).trans rfl⟩ (fun hHeld => ?_)
             clear hK K
             refine norm_ (a' := ?_) ?_ ?_
             rotate_left
             ·show Act.put _ (some 18) _ = _
              simp only [Act.put, List.setIfInBounds_toArray, List.set_cons_zero, List.set_cons_succ, i64_w, i32_w]
              rfl
             refine one_ (i := 1) (N := some 89) #[true, true, true, false, true, true, false, false, false, false, true, false, false] rfl rfl (one_of HT_.out (by kernel_rfl)) (by decide) (fun K hK => ?_)
             refine goes_ Try.func13 (by kernel_rfl) rfl #[.agg #[.int .i64 a0_0, .slice A0_1 l0_1.length c0_1]] (by rfl) rfl rfl eA ?_
             with_reducible refine (laws_toCache.calls kj78 a0_0 _ _ l0_1 t280 t281 _ ?side1 ?side2 A118.out).mono ?_
             (case side1 => repeat (first | exact (Kd.C_below HR0_1.out HB.out) | (with_reducible refine Kd.C_alloc ?_ _) | (with_reducible refine Kd.C_drewN ?_ _) | (with_reducible refine Kd.C_drew ?_)))
             (case side2 => exact HC0_1.out)
             rintro e w132 ⟨v282, rfl, ho0, hb⟩
             refine ⟨_, rfl, ?_⟩
             have n0_ := Aside0.mk (Kd.R_elder' (kR HO_254001.out) (Kd.R_base ho0) hb)
             have n1_ := Aside0.mk (Kd.R_elder' (kR HO_259001.out) (Kd.R_base ho0) hb)
             have n2_ := Aside0.mk (Kd.R_elder' (kR HO_268001.out) (Kd.R_base ho0) hb)
             have n3_ := Aside0.mk (Kd.R_lower (Kd.R_new' (Kd.R_new' (Kd.R_new' ho0 (Kd.R_lt (kR HO_254001.out))) (Kd.R_lt (kR HO_259001.out))) (Kd.R_lt (kR HO_268001.out))) (below_size bS))
             have n4_ := Aside0.mk (blk_below (kB BK238.out) hb)
             have n5_ := Aside0.mk (blk_below (kB BK239.out) hb)
             have n6_ := Aside0.mk (blk_below (kB BK253.out) hb)
             have n7_ := Aside0.mk (blk_below (kB BK258.out) hb)
             have n8_ := Aside0.mk (blk_below (kB BK267.out) hb)
             have n9_ := Aside0.mk (blk_below (kB BK292.out) hb)
             have n10_ := Aside0.mk (below_step bS hb)
             clear HO_254001 HO_259001 HO_268001 BK238 BK239 BK253 BK258 BK267 BK292 HB
             have HO_254001 := n0_
             have HO_259001 := n1_
             have HO_268001 := n2_
             have HO283 := n3_
             have BK238 := n4_
             have BK239 := n5_
             have BK253 := n6_
             have BK258 := n7_
             have BK267 := n8_
             have BK292 := n9_
             have HB := n10_
             clear n0_ n1_ n2_ n3_ n4_ n5_ n6_ n7_ n8_ n9_ n10_
             (try clear hb)
             (try clear hb2)
             (try clear hk)
             (try clear hi)
             (try clear ho0)
             refine hK.out _ _ ⟨(blk_cell BK238.out 0).trans rfl, (blk_cell BK238.out 1).trans rfl, (blk_cell BK239.out 0).trans rfl, (blk_cell BK239.out 1).trans rfl, (blk_cell BK239.out 2).trans rfl⟩ (fun hHeld => ?_)
             clear hK K
             refine norm_ (a' := ?_) ?_ ?_
             rotate_left
             ·show Act.put _ (some 89) _ = _
              simp only [Act.put, List.setIfInBounds_toArray, List.set_cons_zero, List.set_cons_succ, i64_w, i32_w]
              rfl
             refine one_ (i := 3) (N := some 91) #[true, true, true, true, true, true, false, false, false, false, true, false, false] rfl rfl (one_of HT_.out (by kernel_rfl)) (by decide) (fun K hK => ?_)
             refine goes_ Try.func14 (by kernel_rfl) rfl #[.agg #[.int .i64 a1_0, .int .i64 a1_1, .int .i64 a1_2]] (by rfl) rfl rfl eA ?_
             with_reducible refine (laws_toAuth.calls a1_0 a1_1 a1_2 t284 t285 t286 _ A119.out).mono ?_
             rintro e w133 ⟨rfl, hb⟩
             refine ⟨_, rfl, ?_⟩
             have n0_ := Aside0.mk (Kd.R_below (kR HO_254001.out) hb)
             have n1_ := Aside0.mk (Kd.R_below (kR HO_259001.out) hb)
             have n2_ := Aside0.mk (Kd.R_below (kR HO_268001.out) hb)
             have n3_ := Aside0.mk (Kd.R_below (kR HO283.out) hb)
             have n4_ := Aside0.mk (blk_below (kB BK238.out) hb)
             have n5_ := Aside0.mk (blk_below (kB BK239.out) hb)
             have n6_ := Aside0.mk (blk_below (kB BK253.out) hb)
             have n7_ := Aside0.mk (blk_below (kB BK258.out) hb)
             have n8_ := Aside0.mk (blk_below (kB BK267.out) hb)
             have n9_ := Aside0.mk (blk_below (kB BK292.out) hb)
             have n10_ := Aside0.mk (below_step bS hb)
             clear HO_254001 HO_259001 HO_268001 HO283 BK238 BK239 BK253 BK258 BK267 BK292 HB
             have HO_254001 := n0_
             have HO_259001 := n1_
             have HO_268001 := n2_
             have HO283 := n3_
             have BK238 := n4_
             have BK239 := n5_
             have BK253 := n6_
             have BK258 := n7_
             have BK267 := n8_
             have BK292 := n9_
             have HB := n10_
             clear n0_ n1_ n2_ n3_ n4_ n5_ n6_ n7_ n8_ n9_ n10_
             (try clear hb)
             (try clear hb2)
             (try clear hk)
             (try clear hi)
             obtain ⟨Ao134, co134, eo134⟩ := Kd.R_slice HO283.out
             (first | subst eo134 | (injection eo134 with f1_ f2_ f3_; have f4_ := f1_.symm; have f5_ := f3_.symm; clear f1_ f2_ f3_; subst f4_; subst f5_))
             refine hK.out _ _ ⟨(blk_cell BK238.out 0).trans rfl, (blk_cell BK238.out 1).trans rfl, (blk_cell BK239.out 0).trans rfl, (blk_cell BK239.out 1).trans rfl, (blk_cell BK239.out 2).trans rfl⟩ (fun hHeld => ?_)
             clear hK K
             refine norm_ (a' := ?_) ?_ ?_
             rotate_left
             ·show Act.put _ (some 91) _ = _
              simp only [Act.put, List.setIfInBounds_toArray, List.set_cons_zero, List.set_cons_succ, i64_w, i32_w]
              rfl
             refine one_ (i := 6) (N := some 94) #[true, true, true, true, true, true, true, false, false, false, true, false, false] rfl rfl (one_of HT_.out (by kernel_rfl)) (by decide) (fun K hK => ?_)
             refine goes_ Try.func7 (by kernel_rfl) rfl #[.agg #[.int .i64 t280, .slice Ao134 t281.length co134], .agg #[.int .i64 t284, .int .i64 t285, .int .i64 t286], .int .i64 a2, .int .i64 a3] (by rfl) rfl rfl eA ?_
             with_reducible refine (impl_CacheTry.calls kj78 t280 _ _ t281 t284 t285 t286 a2 a3 t287 t288 t291 _ ?side1 ?side2 A120.out).mono ?_
             (case side1 => repeat (first | exact (Kd.R_reads' HO283.out).2.2 | (with_reducible refine Kd.C_alloc ?_ _) | (with_reducible refine Kd.C_drewN ?_ _) | (with_reducible refine Kd.C_drew ?_)))
             (case side2 => exact (Kd.R_reads' HO283.out).2.1)
             rintro e w135 ⟨v289, rfl, ho0, hb⟩
             refine ⟨_, rfl, ?_⟩
             have n0_ := Aside0.mk (Kd.R_elder' (kR HO_254001.out) (Kd.R_base ho0) hb)
             have n1_ := Aside0.mk (Kd.R_elder' (kR HO_259001.out) (Kd.R_base ho0) hb)
             have n2_ := Aside0.mk (Kd.R_elder' (kR HO_268001.out) (Kd.R_base ho0) hb)
             have n3_ := Aside0.mk (Kd.R_elder' (kR HO283.out) (Kd.R_base ho0) hb)
             have n4_ := Aside0.mk (Kd.R_lower (Kd.R_new' (Kd.R_new' (Kd.R_new' (Kd.R_new' ho0 (Kd.R_lt (kR HO_254001.out))) (Kd.R_lt (kR HO_259001.out))) (Kd.R_lt (kR HO_268001.out))) (Kd.R_lt (kR HO283.out))) (below_size bS))
             have n5_ := Aside0.mk (blk_below (kB BK238.out) hb)
             have n6_ := Aside0.mk (blk_below (kB BK239.out) hb)
             have n7_ := Aside0.mk (blk_below (kB BK253.out) hb)
             have n8_ := Aside0.mk (blk_below (kB BK258.out) hb)
             have n9_ := Aside0.mk (blk_below (kB BK267.out) hb)
             have n10_ := Aside0.mk (blk_below (kB BK292.out) hb)
             have n11_ := Aside0.mk (below_step bS hb)
             clear HO_254001 HO_259001 HO_268001 HO283 BK238 BK239 BK253 BK258 BK267 BK292 HB
             have HO_254001 := n0_
             have HO_259001 := n1_
             have HO_268001 := n2_
             have HO283 := n3_
             have HO290 := n4_
             have BK238 := n5_
             have BK239 := n6_
             have BK253 := n7_
             have BK258 := n8_
             have BK267 := n9_
             have BK292 := n10_
             have HB := n11_
             clear n0_ n1_ n2_ n3_ n4_ n5_ n6_ n7_ n8_ n9_ n10_ n11_
             (try clear hb)
             (try clear hb2)
             (try clear hk)
             (try clear hi)
             (try clear ho0)
             refine hK.out _ _ ⟨(blk_cell BK238.out 0).trans rfl, (blk_cell BK238.out 1).trans rfl, (blk_cell BK239.out 0).trans rfl, (blk_cell BK239.out 1).trans rfl, (blk_cell BK239.out 2).trans rfl⟩ (fun hHeld => ?_)
             clear hK K
             refine norm_ (a' := ?_) ?_ ?_
             rotate_left
             ·show Act.put _ (some 94) _ = _
              simp only [Act.put, List.setIfInBounds_toArray, List.set_cons_zero, List.set_cons_succ, i64_w, i32_w]
              rfl
             refine pure_ (i := 7) (N := some 87) (v := ?_) (a' := ?_) #[true, true, true, true, true, true, true, true, false, false, true, false, false] rfl rfl (any_of HT_.out (by kernel_rfl)) (fun _ _ _ h => h) (Or.inl ⟨by rfl, ?_⟩) ?_ ?_
             rotate_left
             ·intro w'
              go_simp
              with_reducible rfl
             rotate_left
             ·simp only [Act.put, List.setIfInBounds_toArray, List.set_cons_zero, List.set_cons_succ, i64_w, i32_w]
              rfl
             refine pure_ (i := 8) (N := some 95) (v := ?_) (a' := ?_) #[true, true, true, true, true, true, true, true, true, false, true, false, false] rfl rfl (any_of HT_.out (by kernel_rfl)) (fun _ _ _ h => h) (Or.inl ⟨by rfl, ?_⟩) ?_ ?_
             rotate_left
             ·intro w'
              go_simp
              with_reducible rfl
             rotate_left
             ·simp only [Act.put, List.setIfInBounds_toArray, List.set_cons_zero, List.set_cons_succ, i64_w, i32_w]
              rfl
             refine pure_ (i := 9) (N := some 96) (v := ?_) (a' := ?_) #[true, true, true, true, true, true, true, true, true, true, true, false, false] rfl rfl (any_of HT_.out (by kernel_rfl)) (fun _ _ _ h => h) (Or.inl ⟨by rfl, ?_⟩) ?_ ?_
             rotate_left
             ·intro w'
              go_simp
              with_reducible rfl
             rotate_left
             ·simp only [Act.put, List.setIfInBounds_toArray, List.set_cons_zero, List.set_cons_succ, i64_w, i32_w]
              rfl
             exact norm_ (by simp only [putAll, Act.put, List.setIfInBounds_toArray, List.set_cons_zero, List.set_cons_succ]) (hCont (.slice Ao134 t281.length co134, v289, gb292) _ ⟨hHeld, (by (with_reducible repeat (first | apply Kd.R_alloc | apply Kd.R_drewN | apply Kd.R_drew)); exact Kd.R_mono HO283.out (fun _ hk => ⟨hk.2, ⟨hk.1.1.1.2, ⟨hk.1.1.2, hk.1.2⟩⟩⟩)), (by (with_reducible repeat (first | apply Kd.R_alloc | apply Kd.R_drewN | apply Kd.R_drew)); exact Kd.R_mono HO290.out (fun _ hk => ⟨hk.2, ⟨hk.1.1.1.2, ⟨hk.1.1.2, hk.1.2⟩⟩⟩)), (by (with_reducible repeat (first | apply Kd.R_alloc | apply Kd.R_drewN | apply Kd.R_drew)); exact Kd.R_mono HO_254001.out (fun _ hk => ⟨hk.1.2, ⟨hk.2, ⟨hk.1.1.1, hk.1.1.2⟩⟩⟩)), (by (with_reducible repeat (first | apply Kd.R_alloc | apply Kd.R_drewN | apply Kd.R_drew)); exact Kd.R_mono HO_259001.out (fun _ hk => ⟨hk.1.2, ⟨hk.2, ⟨hk.1.1.1, hk.1.1.2⟩⟩⟩)), (by (with_reducible repeat (first | apply Kd.R_alloc | apply Kd.R_drewN | apply Kd.R_drew)); exact Kd.R_mono HO_268001.out (fun _ hk => ⟨hk.1.2, ⟨hk.2, ⟨hk.1.1.1, hk.1.1.2⟩⟩⟩)), (kB BK238.out), (kB BK239.out), (kB BK253.out), (kB BK258.out), (kB BK267.out), (kB BK292.out), GW292.out, GE292.out, NB238_292.out, NB292_238.out, NB239_292.out, NB292_239.out, NB253_292.out, NB292_253.out, NB258_292.out, NB292_258.out, NB267_292.out, NB292_267.out, bS⟩)
           rintro ⟨v282, v289, gb292⟩ w136 ⟨hS_, h0_, h1_, h2_, h3_, h4_, h5_, h6_, h7_, h8_, h9_, h10_, h11_, h12_, h13_, h14_, h15_, h16_, h17_, h18_, h19_, h20_, h21_, h22_, h23_⟩
           have n0_ : Aside0 (Kd.R k28 28 w136 w.heap.size (fun k_ => some k_ ≠ (v289 : Value).ownBlock ∧ some k_ ≠ (.slice Ao32 t249.length co32 : Value).ownBlock ∧ some k_ ≠ (.slice Ao42 t275.length co42 : Value).ownBlock ∧ some k_ ≠ (.slice Ao50 t263.length co50 : Value).ownBlock) v282 t281) := ⟨h0_⟩
           have n1_ : Aside0 (Kd.R k28 28 w136 w.heap.size (fun k_ => some k_ ≠ (v282 : Value).ownBlock ∧ some k_ ≠ (.slice Ao32 t249.length co32 : Value).ownBlock ∧ some k_ ≠ (.slice Ao42 t275.length co42 : Value).ownBlock ∧ some k_ ≠ (.slice Ao50 t263.length co50 : Value).ownBlock) v289 t288) := ⟨h1_⟩
           have n2_ : Aside0 (Kd.R k28 28 w136 w.heap.size (fun k_ => some k_ ≠ (v282 : Value).ownBlock ∧ some k_ ≠ (v289 : Value).ownBlock ∧ some k_ ≠ (.slice Ao42 t275.length co42 : Value).ownBlock ∧ some k_ ≠ (.slice Ao50 t263.length co50 : Value).ownBlock) (.slice Ao32 t249.length co32) t249) := ⟨h2_⟩
           have n3_ : Aside0 (Kd.R k28 28 w136 w.heap.size (fun k_ => some k_ ≠ (v282 : Value).ownBlock ∧ some k_ ≠ (v289 : Value).ownBlock ∧ some k_ ≠ (.slice Ao32 t249.length co32 : Value).ownBlock ∧ some k_ ≠ (.slice Ao50 t263.length co50 : Value).ownBlock) (.slice Ao42 t275.length co42) t275) := ⟨h3_⟩
           have n4_ : Aside0 (Kd.R k28 28 w136 w.heap.size (fun k_ => some k_ ≠ (v282 : Value).ownBlock ∧ some k_ ≠ (v289 : Value).ownBlock ∧ some k_ ≠ (.slice Ao32 t249.length co32 : Value).ownBlock ∧ some k_ ≠ (.slice Ao42 t275.length co42 : Value).ownBlock) (.slice Ao50 t263.length co50) t278) := ⟨h4_⟩
           have n5_ : Aside0 (w136.heap[gb238]? = some (.cells #[.int .i64 a0_0, .slice A0_1 l0_1.length c0_1] 38 (0, 0))) := ⟨h5_⟩
           have n6_ : Aside0 (w136.heap[gb239]? = some (.cells #[.int .i64 a1_0, .int .i64 a1_1, .int .i64 a1_2] 39 (0, 0))) := ⟨h6_⟩
           have n7_ : Aside0 (w136.heap[gb253]? = some (.cells #[.int .i64 t248, .slice Ao32 t249.length co32] 26 (0, 0))) := ⟨h7_⟩
           have n8_ : Aside0 (w136.heap[gb258]? = some (.cells #[.int .i64 t254, .slice Ao42 t275.length co42] 26 (0, 0))) := ⟨h8_⟩
           have n9_ : Aside0 (w136.heap[gb267]? = some (.cells #[.int .i64 t262, .slice Ao50 t263.length co50] 26 (0, 0))) := ⟨h9_⟩
           have n10_ : Aside0 (w136.heap[gb292]? = some (.cells #[.int .i64 0, .slice none 0 0] 26 (0, 0))) := ⟨h10_⟩
           have n11_ : Aside0 (w.heap.size ≤ gb292) := ⟨h11_⟩
           have n12_ : Aside0 (w.heap.size ≤ gb292) := ⟨h12_⟩
           have n13_ : Aside0 (gb238 ≠ gb292) := ⟨h13_⟩
           have n14_ : Aside0 (gb292 ≠ gb238) := ⟨h14_⟩
           have n15_ : Aside0 (gb239 ≠ gb292) := ⟨h15_⟩
           have n16_ : Aside0 (gb292 ≠ gb239) := ⟨h16_⟩
           have n17_ : Aside0 (gb253 ≠ gb292) := ⟨h17_⟩
           have n18_ : Aside0 (gb292 ≠ gb253) := ⟨h18_⟩
           have n19_ : Aside0 (gb258 ≠ gb292) := ⟨h19_⟩
           have n20_ : Aside0 (gb292 ≠ gb258) := ⟨h20_⟩
           have n21_ : Aside0 (gb267 ≠ gb292) := ⟨h21_⟩
           have n22_ : Aside0 (gb292 ≠ gb267) := ⟨h22_⟩
           have n23_ : Aside0 (Below w.heap.size w w136) := ⟨h23_⟩
           clear HO_254001 HO_259001 HO_268001 BK238 BK239 BK253 BK258 BK267 HB h0_ h1_ h2_ h3_ h4_ h5_ h6_ h7_ h8_ h9_ h10_ h11_ h12_ h13_ h14_ h15_ h16_ h17_ h18_ h19_ h20_ h21_ h22_ h23_
           have HO283 := n0_
           have HO290 := n1_
           have HO_254001 := n2_
           have HO_259001 := n3_
           have HO_268001 := n4_
           have BK238 := n5_
           have BK239 := n6_
           have BK253 := n7_
           have BK258 := n8_
           have BK267 := n9_
           have BK292 := n10_
           have GW292 := n11_
           have GE292 := n12_
           have NB238_292 := n13_
           have NB292_238 := n14_
           have NB239_292 := n15_
           have NB292_239 := n16_
           have NB253_292 := n17_
           have NB292_253 := n18_
           have NB258_292 := n19_
           have NB292_258 := n20_
           have NB267_292 := n21_
           have NB292_267 := n22_
           have HB := n23_
           clear n0_ n1_ n2_ n3_ n4_ n5_ n6_ n7_ n8_ n9_ n10_ n11_ n12_ n13_ n14_ n15_ n16_ n17_ n18_ n19_ n20_ n21_ n22_ n23_
           have hHeld : w136.cell? ⟨gb238, 0, none⟩ = some (.int .i64 a0_0) ∧ w136.cell? ⟨gb238, 1, none⟩ = some (.slice A0_1 l0_1.length c0_1) ∧ w136.cell? ⟨gb239, 0, none⟩ = some (.int .i64 a1_0) ∧ w136.cell? ⟨gb239, 1, none⟩ = some (.int .i64 a1_1) ∧ w136.cell? ⟨gb239, 2, none⟩ = some (.int .i64 a1_2) := hS_
           obtain ⟨Ao138, co138, eo138⟩ := Kd.R_slice HO290.out
           (first | subst eo138 | (injection eo138 with f1_ f2_ f3_; have f4_ := f1_.symm; have f5_ := f3_.symm; clear f1_ f2_ f3_; subst f4_; subst f5_))
           refine norm_ (a' := ?_) ?_ ?_
           rotate_left
           ·simp only [putAll, Act.put, List.setIfInBounds_toArray, List.set_cons_zero, List.set_cons_succ]
            rfl
           refine one_ (i := 11) (N := none) #[true, true, true, true, true, true, true, true, true, true, true, true, false] rfl rfl (one_of HT_.out (by kernel_rfl)) (by decide) (fun K hK => ?_)
           have hs137 : w136.cell? ⟨gb292, 0, none⟩ = some (.int .i64 0) := (blk_cell BK292.out 0).trans rfl
           have hfs137 := blk_frozen BK292.out 0
           have hns137_0 := NB238_292.out
           have hns137_1 := NB239_292.out
           have hns137_2 := NB253_292.out
           have hns137_3 := NB258_292.out
           have hns137_4 := NB267_292.out
           have hms137_0 := NB292_238.out
           have hms137_1 := NB292_239.out
           have hms137_2 := NB292_253.out
           have hms137_3 := NB292_258.out
           have hms137_4 := NB292_267.out
           have hs139 : w136.cell? ⟨gb292, 1, none⟩ = some (.slice none 0 0) := (blk_cell BK292.out 1).trans rfl
           have hfs139 := blk_frozen BK292.out 1
           have hns139_0 := NB238_292.out
           have hns139_1 := NB239_292.out
           have hns139_2 := NB253_292.out
           have hns139_3 := NB258_292.out
           have hns139_4 := NB267_292.out
           have hms139_0 := NB292_238.out
           have hms139_1 := NB292_239.out
           have hms139_2 := NB292_253.out
           have hms139_3 := NB292_258.out
           have hms139_4 := NB292_267.out
           refine skip_ (w1 := ?_) (by rfl) rfl ?_ ?_
           rotate_left
           ·go_simp
            rfl
           refine hK.out _ _ ⟨((cell_far (p := ⟨gb292, _, none⟩) NB238_292.out _).trans (((cell_far (p := ⟨gb292, _, none⟩) NB238_292.out _).trans (hHeld.1)))), ((cell_far (p := ⟨gb292, _, none⟩) NB238_292.out _).trans (((cell_far (p := ⟨gb292, _, none⟩) NB238_292.out _).trans (hHeld.2.1)))), ((cell_far (p := ⟨gb292, _, none⟩) NB239_292.out _).trans (((cell_far (p := ⟨gb292, _, none⟩) NB239_292.out _).trans (hHeld.2.2.1)))), ((cell_far (p := ⟨gb292, _, none⟩) NB239_292.out _).trans (((cell_far (p := ⟨gb292, _, none⟩) NB239_292.out _).trans (hHeld.2.2.2.1)))), ((cell_far (p := ⟨gb292, _, none⟩) NB239_292.out _).trans (((cell_far (p := ⟨gb292, _, none⟩) NB239_292.out _).trans (hHeld.2.2.2.2))))⟩ (fun hHeld => ?_)
           clear hK K
           refine pure_ (i := 12) (N := some 19) (v := ?_) (a' := ?_) #[true, true, true, true, true, true, true, true, true, true, true, true, true] rfl rfl (any_of HT_.out (by kernel_rfl)) (fun _ _ _ h => h) (Or.inl ⟨by rfl, ?_⟩) ?_ ?_
           rotate_left
           ·intro w'
            go_simp
            with_reducible rfl
           rotate_left
           ·simp only [Act.put, List.setIfInBounds_toArray, List.set_cons_zero, List.set_cons_succ, i64_w, i32_w]
            rfl
           refine done_ (done_of HT_.out (by kernel_rfl)) ?_
           go_upto_region 25 with (fail)
           go_cut [105] (fun v105 wc => ∃ (kq : Nat) (x105_120 : Bool), v105 = .bool x105_120 ∧ Aside0 (laws_FnExactCacheTry.j2 kq t277 x105_120 t262 t278 = some r) ∧ Aside0 (kq ≤ kj78) ∧ Aside0 (Kd.R k28 28 wc w.heap.size (fun k_ => some k_ ≠ ((.slice Ao42 t275.length co42) : Value).ownBlock ∧ some k_ ≠ ((.slice Ao50 t263.length co50) : Value).ownBlock ∧ some k_ ≠ ((.slice Ao138 t288.length co138) : Value).ownBlock) (.slice Ao32 t249.length co32) t249) ∧ Aside0 (Kd.R k28 28 wc w.heap.size (fun k_ => some k_ ≠ ((.slice Ao32 t249.length co32) : Value).ownBlock ∧ some k_ ≠ ((.slice Ao50 t263.length co50) : Value).ownBlock ∧ some k_ ≠ ((.slice Ao138 t288.length co138) : Value).ownBlock) (.slice Ao42 t275.length co42) t275) ∧ Aside0 (Kd.R k28 28 wc w.heap.size (fun k_ => some k_ ≠ ((.slice Ao32 t249.length co32) : Value).ownBlock ∧ some k_ ≠ ((.slice Ao42 t275.length co42) : Value).ownBlock ∧ some k_ ≠ ((.slice Ao138 t288.length co138) : Value).ownBlock) (.slice Ao50 t263.length co50) t278) ∧ Aside0 (Kd.R k28 28 wc w.heap.size (fun k_ => some k_ ≠ ((.slice Ao32 t249.length co32) : Value).ownBlock ∧ some k_ ≠ ((.slice Ao42 t275.length co42) : Value).ownBlock ∧ some k_ ≠ ((.slice Ao50 t263.length co50) : Value).ownBlock) (.slice Ao138 t288.length co138) t288) ∧ Aside0 (wc.heap[gb238]? = some (.cells #[.int .i64 a0_0, (.slice A0_1 l0_1.length c0_1)] 38 (0, 0))) ∧ Aside0 (wc.heap[gb239]? = some (.cells #[.int .i64 a1_0, .int .i64 a1_1, .int .i64 a1_2] 39 (0, 0))) ∧ Aside0 (wc.heap[gb253]? = some (.cells #[.int .i64 t248, (.slice Ao32 t249.length co32)] 26 (0, 0))) ∧ Aside0 (wc.heap[gb258]? = some (.cells #[.int .i64 t254, (.slice Ao42 t275.length co42)] 26 (0, 0))) ∧ Aside0 (wc.heap[gb267]? = some (.cells #[.int .i64 t262, (.slice Ao50 t263.length co50)] 26 (0, 0))) ∧ Aside0 (wc.heap[gb292]? = some (.cells #[.int .i64 t287, (.slice Ao138 t288.length co138)] 26 (0, 0))) ∧ Aside0 (Below w.heap.size w wc))
           case first =>
            have H := HC121.out
            clear HC121
            replace H := Option.bind_eq_some_iff.mp H
            obtain ⟨t293, A1400, H⟩ := H
            replace H : (if t293 = true then (laws_FnExactCacheTry.j2 kj78 t277 (t291 != t252) t262 t278) else (laws_FnExactCacheTry.j2 kj78 t277 true t262 t278)) = some r := H
            have A140 := Aside0.mk A1400
            clear A1400
            by_cases c141 : t293 = true
            ·subst c141
             have H1 : (laws_FnExactCacheTry.j2 kj78 t277 (t291 != t252) t262 t278) = some r := by rw [if_pos rfl] at H; exact H
             clear H
             have H := H1
             clear H1
             have H' := Aside0.mk H
             clear H
             have hnb142 := NB292_238.out
             have hnc142 := NB238_292.out
             have hnb143 := NB292_239.out
             have hnc143 := NB239_292.out
             have hnb144 := NB292_253.out
             have hnc144 := NB253_292.out
             have hnb145 := NB292_258.out
             have hnc145 := NB258_292.out
             have hnb146 := NB292_267.out
             have hnc146 := NB267_292.out
             have hcz147_0 : w136.cell? ⟨gb292, 0, none⟩ = some (.int .i64 0) := (blk_cell BK292.out 0).trans rfl
             have hcz147_1 : w136.cell? ⟨gb292, 1, none⟩ = some (.slice none 0 0) := (blk_cell BK292.out 1).trans rfl
             have hfz147_0 := blk_frozen BK292.out 0
             have hfz147_1 := blk_frozen BK292.out 1
             have hnb148 := NB253_238.out
             have hnc148 := NB238_253.out
             have hnb149 := NB253_239.out
             have hnc149 := NB239_253.out
             have hnb150 := NB253_258.out
             have hnc150 := NB258_253.out
             have hnb151 := NB253_267.out
             have hnc151 := NB267_253.out
             have hcz152_0 : w136.cell? ⟨gb253, 0, none⟩ = some (.int .i64 t248) := (blk_cell BK253.out 0).trans rfl
             have hcz152_1 : w136.cell? ⟨gb253, 1, none⟩ = some (.slice Ao32 t249.length co32) := (blk_cell BK253.out 1).trans rfl
             have hfz152_0 := blk_frozen BK253.out 0
             have hfz152_1 := blk_frozen BK253.out 1
             go_wp2_with (first | ((with_reducible refine gate_callee (f := 15) rfl ?_); refine goesL_ (some 99) rfl rfl Try.func15 (by kernel_rfl) rfl #[.agg #[.int .i64 t287, .slice Ao138 t288.length co138], .agg #[.int .i64 t248, .slice Ao32 t249.length co32]] rfl eA ?_; (with_reducible refine (laws_eqCache.calls kj78 t287 _ _ t288 t248 _ _ t249 true _ ?side1 ?side2 ?side3 ?side4 A140.out).mono ?_); (case side1 => refine (Kd.R_reads' (e := 28) (base := w.heap.size) (ok := fun k_ => (some k_ ≠ (v282 : Value).ownBlock ∧ (some k_ ≠ (.slice Ao32 t249.length co32 : Value).ownBlock ∧ (some k_ ≠ (.slice Ao42 t275.length co42 : Value).ownBlock ∧ some k_ ≠ (.slice Ao50 t263.length co50 : Value).ownBlock)))) (n := t288.length) (c := co138) ?_).2.2; exact (by (with_reducible repeat (first | apply Kd.R_alloc | apply Kd.R_drewN | apply Kd.R_drew)); exact (Kd.R_mono (Kd.R_far (p := ⟨gb292, 1, none⟩) (Kd.R_far (p := ⟨gb292, 0, none⟩) (Kd.R_types HO290.out BK292.out (by decide)) (fun _ hk => hk.2) (.int .i64 t287)) (fun _ hk => hk.2) (.slice Ao138 t288.length co138)) (fun _ h_ => h_.1)))); (case side2 => exact (Kd.R_reads' HO290.out).2.1); (case side3 => refine (Kd.R_reads' (e := 28) (base := w.heap.size) (ok := fun k_ => (some k_ ≠ (v282 : Value).ownBlock ∧ (some k_ ≠ (.slice Ao138 t288.length co138 : Value).ownBlock ∧ (some k_ ≠ (.slice Ao42 t275.length co42 : Value).ownBlock ∧ some k_ ≠ (.slice Ao50 t263.length co50 : Value).ownBlock)))) (n := t249.length) (c := co32) ?_).2.2; exact (by (with_reducible repeat (first | apply Kd.R_alloc | apply Kd.R_drewN | apply Kd.R_drew)); exact (Kd.R_mono (Kd.R_far (p := ⟨gb292, 1, none⟩) (Kd.R_far (p := ⟨gb292, 0, none⟩) (Kd.R_types HO_254001.out BK292.out (by decide)) (fun _ hk => hk.2) (.int .i64 t287)) (fun _ hk => hk.2) (.slice Ao138 t288.length co138)) (fun _ h_ => h_.1)))); (case side4 => exact (Kd.R_reads' HO_254001.out).2.1); rintro e w153 ⟨rfl, hb⟩; refine ⟨_, rfl, ?_⟩; have n0_ := Aside0.mk (Kd.R_below (by (with_reducible repeat (first | apply Kd.R_alloc | apply Kd.R_drewN | apply Kd.R_drew)); exact (Kd.R_mono (Kd.R_far (p := ⟨gb292, 1, none⟩) (Kd.R_far (p := ⟨gb292, 0, none⟩) (Kd.R_types HO_254001.out BK292.out (by decide)) (fun _ hk => hk.2) (.int .i64 t287)) (fun _ hk => hk.2) (.slice Ao138 t288.length co138)) (fun _ h_ => h_.1))) hb); have n1_ := Aside0.mk (Kd.R_below (by (with_reducible repeat (first | apply Kd.R_alloc | apply Kd.R_drewN | apply Kd.R_drew)); exact (Kd.R_mono (Kd.R_far (p := ⟨gb292, 1, none⟩) (Kd.R_far (p := ⟨gb292, 0, none⟩) (Kd.R_types HO_259001.out BK292.out (by decide)) (fun _ hk => hk.2) (.int .i64 t287)) (fun _ hk => hk.2) (.slice Ao138 t288.length co138)) (fun _ h_ => h_.1))) hb); have n2_ := Aside0.mk (Kd.R_below (by (with_reducible repeat (first | apply Kd.R_alloc | apply Kd.R_drewN | apply Kd.R_drew)); exact (Kd.R_mono (Kd.R_far (p := ⟨gb292, 1, none⟩) (Kd.R_far (p := ⟨gb292, 0, none⟩) (Kd.R_types HO_268001.out BK292.out (by decide)) (fun _ hk => hk.2) (.int .i64 t287)) (fun _ hk => hk.2) (.slice Ao138 t288.length co138)) (fun _ h_ => h_.1))) hb); have n3_ := Aside0.mk (Kd.R_below (by (with_reducible repeat (first | apply Kd.R_alloc | apply Kd.R_drewN | apply Kd.R_drew)); exact (Kd.R_mono (Kd.R_far (p := ⟨gb292, 1, none⟩) (Kd.R_far (p := ⟨gb292, 0, none⟩) (Kd.R_types HO283.out BK292.out (by decide)) (fun _ hk => hk.2) (.int .i64 t287)) (fun _ hk => hk.2) (.slice Ao138 t288.length co138)) (fun _ h_ => h_.1))) hb); have n4_ := Aside0.mk (Kd.R_below (by (with_reducible repeat (first | apply Kd.R_alloc | apply Kd.R_drewN | apply Kd.R_drew)); exact (Kd.R_mono (Kd.R_far (p := ⟨gb292, 1, none⟩) (Kd.R_far (p := ⟨gb292, 0, none⟩) (Kd.R_types HO290.out BK292.out (by decide)) (fun _ hk => hk.2) (.int .i64 t287)) (fun _ hk => hk.2) (.slice Ao138 t288.length co138)) (fun _ h_ => h_.1))) hb); have n5_ := Aside0.mk (blk_below (g := gb238) (o := .cells #[.int .i64 a0_0, .slice A0_1 l0_1.length c0_1] 38 (0, 0)) (by (with_reducible repeat (first | refine blk_drewN ?_ _ | refine blk_drew ?_ | refine blk_alloc ?_ _)); refine blk_far ?_ NB238_292.out _; (with_reducible repeat (first | refine blk_drewN ?_ _ | refine blk_drew ?_ | refine blk_alloc ?_ _)); refine blk_far ?_ NB238_292.out _; (with_reducible repeat (first | refine blk_drewN ?_ _ | refine blk_drew ?_ | refine blk_alloc ?_ _)); exact BK238.out) hb); have n6_ := Aside0.mk (blk_below (g := gb239) (o := .cells #[.int .i64 a1_0, .int .i64 a1_1, .int .i64 a1_2] 39 (0, 0)) (by (with_reducible repeat (first | refine blk_drewN ?_ _ | refine blk_drew ?_ | refine blk_alloc ?_ _)); refine blk_far ?_ NB239_292.out _; (with_reducible repeat (first | refine blk_drewN ?_ _ | refine blk_drew ?_ | refine blk_alloc ?_ _)); refine blk_far ?_ NB239_292.out _; (with_reducible repeat (first | refine blk_drewN ?_ _ | refine blk_drew ?_ | refine blk_alloc ?_ _)); exact BK239.out) hb); have n7_ := Aside0.mk (blk_below (g := gb253) (o := .cells #[.int .i64 t248, .slice Ao32 t249.length co32] 26 (0, 0)) (by (with_reducible repeat (first | refine blk_drewN ?_ _ | refine blk_drew ?_ | refine blk_alloc ?_ _)); refine blk_far ?_ NB253_292.out _; (with_reducible repeat (first | refine blk_drewN ?_ _ | refine blk_drew ?_ | refine blk_alloc ?_ _)); refine blk_far ?_ NB253_292.out _; (with_reducible repeat (first | refine blk_drewN ?_ _ | refine blk_drew ?_ | refine blk_alloc ?_ _)); exact BK253.out) hb); have n8_ := Aside0.mk (blk_below (g := gb258) (o := .cells #[.int .i64 t254, .slice Ao42 t275.length co42] 26 (0, 0)) (by (with_reducible repeat (first | refine blk_drewN ?_ _ | refine blk_drew ?_ | refine blk_alloc ?_ _)); refine blk_far ?_ NB258_292.out _; (with_reducible repeat (first | refine blk_drewN ?_ _ | refine blk_drew ?_ | refine blk_alloc ?_ _)); refine blk_far ?_ NB258_292.out _; (with_reducible repeat (first | refine blk_drewN ?_ _ | refine blk_drew ?_ | refine blk_alloc ?_ _)); exact BK258.out) hb); have n9_ := Aside0.mk (blk_below (g := gb267) (o := .cells #[.int .i64 t262, .slice Ao50 t263.length co50] 26 (0, 0)) (by (with_reducible repeat (first | refine blk_drewN ?_ _ | refine blk_drew ?_ | refine blk_alloc ?_ _)); refine blk_far ?_ NB267_292.out _; (with_reducible repeat (first | refine blk_drewN ?_ _ | refine blk_drew ?_ | refine blk_alloc ?_ _)); refine blk_far ?_ NB267_292.out _; (with_reducible repeat (first | refine blk_drewN ?_ _ | refine blk_drew ?_ | refine blk_alloc ?_ _)); exact BK267.out) hb); have n10_ := Aside0.mk (blk_below (g := gb292) (o := .cells #[.int .i64 t287, .slice Ao138 t288.length co138] 26 (0, 0)) (by (with_reducible repeat (first | refine blk_drewN ?_ _ | refine blk_drew ?_ | refine blk_alloc ?_ _)); refine blk_put (cs := #[.int .i64 t287, .slice none 0 0]) ?_ 1 _ rfl; (with_reducible repeat (first | refine blk_drewN ?_ _ | refine blk_drew ?_ | refine blk_alloc ?_ _)); refine blk_put (cs := #[.int .i64 0, .slice none 0 0]) ?_ 0 _ rfl; (with_reducible repeat (first | refine blk_drewN ?_ _ | refine blk_drew ?_ | refine blk_alloc ?_ _)); exact BK292.out) hb); have n11_ := Aside0.mk (below_step bS hb); clear HO_254001; clear HO_259001; clear HO_268001; clear HO283; clear HO290; clear BK238; clear BK239; clear BK253; clear BK258; clear BK267; clear BK292; clear HB; have HO_254001 := n0_; have HO_259001 := n1_; have HO_268001 := n2_; have HO283 := n3_; have HO290 := n4_; have BK238 := n5_; have BK239 := n6_; have BK253 := n7_; have BK258 := n8_; have BK267 := n9_; have BK292 := n10_; have HB := n11_; clear n0_ n1_ n2_ n3_ n4_ n5_ n6_ n7_ n8_ n9_ n10_ n11_; (try clear hb); (try clear hb2); (try clear hk); (try clear hi)))
             go_meet
             case rel => exact ⟨_, ((t291 != t252)), eX, H', ⟨by have := HJ17.out; have := HJ78.out; first | omega | exact Nat.le_refl _⟩, ⟨by (try simp only [hl259001_78]); (with_reducible repeat (first | apply Kd.R_alloc | apply Kd.R_drewN | apply Kd.R_drew)); exact Kd.R_mono HO_254001.out (fun _ hk => ⟨hk.2.2.1, ⟨hk.2.2.2, hk.2.1⟩⟩)⟩, ⟨by (try simp only [hl259001_78]); (with_reducible repeat (first | apply Kd.R_alloc | apply Kd.R_drewN | apply Kd.R_drew)); exact Kd.R_mono HO_259001.out (fun _ hk => ⟨hk.2.2.1, ⟨hk.2.2.2, hk.2.1⟩⟩)⟩, ⟨by (try simp only [hl259001_78]); (with_reducible repeat (first | apply Kd.R_alloc | apply Kd.R_drewN | apply Kd.R_drew)); exact Kd.R_mono HO_268001.out (fun _ hk => ⟨hk.2.2.1, ⟨hk.2.2.2, hk.2.1⟩⟩)⟩, ⟨by (try simp only [hl259001_78]); (with_reducible repeat (first | apply Kd.R_alloc | apply Kd.R_drewN | apply Kd.R_drew)); exact Kd.R_mono HO290.out (fun _ hk => ⟨hk.2.1, ⟨hk.2.2.1, hk.2.2.2⟩⟩)⟩, ⟨by (try simp only [hl259001_78]); (with_reducible repeat (first | refine blk_drewN ?_ _ | refine blk_drew ?_ | refine blk_alloc ?_ _)); exact BK238.out⟩, ⟨by (try simp only [hl259001_78]); (with_reducible repeat (first | refine blk_drewN ?_ _ | refine blk_drew ?_ | refine blk_alloc ?_ _)); exact BK239.out⟩, ⟨by (try simp only [hl259001_78]); (with_reducible repeat (first | refine blk_drewN ?_ _ | refine blk_drew ?_ | refine blk_alloc ?_ _)); exact BK253.out⟩, ⟨by (try simp only [hl259001_78]); (with_reducible repeat (first | refine blk_drewN ?_ _ | refine blk_drew ?_ | refine blk_alloc ?_ _)); exact BK258.out⟩, ⟨by (try simp only [hl259001_78]); (with_reducible repeat (first | refine blk_drewN ?_ _ | refine blk_drew ?_ | refine blk_alloc ?_ _)); exact BK267.out⟩, ⟨by (try simp only [hl259001_78]); (with_reducible repeat (first | refine blk_drewN ?_ _ | refine blk_drew ?_ | refine blk_alloc ?_ _)); exact BK292.out⟩, ⟨by repeat (first | (with_reducible first | exact HB.out | apply below_alloc | apply pw_below_drewN | apply below_drew1 | refine below_set ?_ GE238.out | refine below_set ?_ GE239.out | refine below_set ?_ GE253.out | refine below_set ?_ GE258.out | refine below_set ?_ GE267.out | refine below_set ?_ GE292.out) | exact HB.out)⟩⟩
            ·replace c141 := Bool.eq_false_iff.mpr c141
             subst c141
             have H1 : (laws_FnExactCacheTry.j2 kj78 t277 true t262 t278) = some r := by rw [if_neg (show ¬ (false = true) by decide)] at H; exact H
             clear H
             have H := H1
             clear H1
             have H' := Aside0.mk H
             clear H
             have hnb154 := NB292_238.out
             have hnc154 := NB238_292.out
             have hnb155 := NB292_239.out
             have hnc155 := NB239_292.out
             have hnb156 := NB292_253.out
             have hnc156 := NB253_292.out
             have hnb157 := NB292_258.out
             have hnc157 := NB258_292.out
             have hnb158 := NB292_267.out
             have hnc158 := NB267_292.out
             have hcz159_0 : w136.cell? ⟨gb292, 0, none⟩ = some (.int .i64 0) := (blk_cell BK292.out 0).trans rfl
             have hcz159_1 : w136.cell? ⟨gb292, 1, none⟩ = some (.slice none 0 0) := (blk_cell BK292.out 1).trans rfl
             have hfz159_0 := blk_frozen BK292.out 0
             have hfz159_1 := blk_frozen BK292.out 1
             have hnb160 := NB253_238.out
             have hnc160 := NB238_253.out
             have hnb161 := NB253_239.out
             have hnc161 := NB239_253.out
             have hnb162 := NB253_258.out
             have hnc162 := NB258_253.out
             have hnb163 := NB253_267.out
             have hnc163 := NB267_253.out
             have hcz164_0 : w136.cell? ⟨gb253, 0, none⟩ = some (.int .i64 t248) := (blk_cell BK253.out 0).trans rfl
             have hcz164_1 : w136.cell? ⟨gb253, 1, none⟩ = some (.slice Ao32 t249.length co32) := (blk_cell BK253.out 1).trans rfl
             have hfz164_0 := blk_frozen BK253.out 0
             have hfz164_1 := blk_frozen BK253.out 1
             go_wp2_with (first | ((with_reducible refine gate_callee (f := 15) rfl ?_); refine goesL_ (some 99) rfl rfl Try.func15 (by kernel_rfl) rfl #[.agg #[.int .i64 t287, .slice Ao138 t288.length co138], .agg #[.int .i64 t248, .slice Ao32 t249.length co32]] rfl eA ?_; (with_reducible refine (laws_eqCache.calls kj78 t287 _ _ t288 t248 _ _ t249 false _ ?side1 ?side2 ?side3 ?side4 A140.out).mono ?_); (case side1 => refine (Kd.R_reads' (e := 28) (base := w.heap.size) (ok := fun k_ => (some k_ ≠ (v282 : Value).ownBlock ∧ (some k_ ≠ (.slice Ao32 t249.length co32 : Value).ownBlock ∧ (some k_ ≠ (.slice Ao42 t275.length co42 : Value).ownBlock ∧ some k_ ≠ (.slice Ao50 t263.length co50 : Value).ownBlock)))) (n := t288.length) (c := co138) ?_).2.2; exact (by (with_reducible repeat (first | apply Kd.R_alloc | apply Kd.R_drewN | apply Kd.R_drew)); exact (Kd.R_mono (Kd.R_far (p := ⟨gb292, 1, none⟩) (Kd.R_far (p := ⟨gb292, 0, none⟩) (Kd.R_types HO290.out BK292.out (by decide)) (fun _ hk => hk.2) (.int .i64 t287)) (fun _ hk => hk.2) (.slice Ao138 t288.length co138)) (fun _ h_ => h_.1)))); (case side2 => exact (Kd.R_reads' HO290.out).2.1); (case side3 => refine (Kd.R_reads' (e := 28) (base := w.heap.size) (ok := fun k_ => (some k_ ≠ (v282 : Value).ownBlock ∧ (some k_ ≠ (.slice Ao138 t288.length co138 : Value).ownBlock ∧ (some k_ ≠ (.slice Ao42 t275.length co42 : Value).ownBlock ∧ some k_ ≠ (.slice Ao50 t263.length co50 : Value).ownBlock)))) (n := t249.length) (c := co32) ?_).2.2; exact (by (with_reducible repeat (first | apply Kd.R_alloc | apply Kd.R_drewN | apply Kd.R_drew)); exact (Kd.R_mono (Kd.R_far (p := ⟨gb292, 1, none⟩) (Kd.R_far (p := ⟨gb292, 0, none⟩) (Kd.R_types HO_254001.out BK292.out (by decide)) (fun _ hk => hk.2) (.int .i64 t287)) (fun _ hk => hk.2) (.slice Ao138 t288.length co138)) (fun _ h_ => h_.1)))); (case side4 => exact (Kd.R_reads' HO_254001.out).2.1); rintro e w165 ⟨rfl, hb⟩; refine ⟨_, rfl, ?_⟩; have n0_ := Aside0.mk (Kd.R_below (by (with_reducible repeat (first | apply Kd.R_alloc | apply Kd.R_drewN | apply Kd.R_drew)); exact (Kd.R_mono (Kd.R_far (p := ⟨gb292, 1, none⟩) (Kd.R_far (p := ⟨gb292, 0, none⟩) (Kd.R_types HO_254001.out BK292.out (by decide)) (fun _ hk => hk.2) (.int .i64 t287)) (fun _ hk => hk.2) (.slice Ao138 t288.length co138)) (fun _ h_ => h_.1))) hb); have n1_ := Aside0.mk (Kd.R_below (by (with_reducible repeat (first | apply Kd.R_alloc | apply Kd.R_drewN | apply Kd.R_drew)); exact (Kd.R_mono (Kd.R_far (p := ⟨gb292, 1, none⟩) (Kd.R_far (p := ⟨gb292, 0, none⟩) (Kd.R_types HO_259001.out BK292.out (by decide)) (fun _ hk => hk.2) (.int .i64 t287)) (fun _ hk => hk.2) (.slice Ao138 t288.length co138)) (fun _ h_ => h_.1))) hb); have n2_ := Aside0.mk (Kd.R_below (by (with_reducible repeat (first | apply Kd.R_alloc | apply Kd.R_drewN | apply Kd.R_drew)); exact (Kd.R_mono (Kd.R_far (p := ⟨gb292, 1, none⟩) (Kd.R_far (p := ⟨gb292, 0, none⟩) (Kd.R_types HO_268001.out BK292.out (by decide)) (fun _ hk => hk.2) (.int .i64 t287)) (fun _ hk => hk.2) (.slice Ao138 t288.length co138)) (fun _ h_ => h_.1))) hb); have n3_ := Aside0.mk (Kd.R_below (by (with_reducible repeat (first | apply Kd.R_alloc | apply Kd.R_drewN | apply Kd.R_drew)); exact (Kd.R_mono (Kd.R_far (p := ⟨gb292, 1, none⟩) (Kd.R_far (p := ⟨gb292, 0, none⟩) (Kd.R_types HO283.out BK292.out (by decide)) (fun _ hk => hk.2) (.int .i64 t287)) (fun _ hk => hk.2) (.slice Ao138 t288.length co138)) (fun _ h_ => h_.1))) hb); have n4_ := Aside0.mk (Kd.R_below (by (with_reducible repeat (first | apply Kd.R_alloc | apply Kd.R_drewN | apply Kd.R_drew)); exact (Kd.R_mono (Kd.R_far (p := ⟨gb292, 1, none⟩) (Kd.R_far (p := ⟨gb292, 0, none⟩) (Kd.R_types HO290.out BK292.out (by decide)) (fun _ hk => hk.2) (.int .i64 t287)) (fun _ hk => hk.2) (.slice Ao138 t288.length co138)) (fun _ h_ => h_.1))) hb); have n5_ := Aside0.mk (blk_below (g := gb238) (o := .cells #[.int .i64 a0_0, .slice A0_1 l0_1.length c0_1] 38 (0, 0)) (by (with_reducible repeat (first | refine blk_drewN ?_ _ | refine blk_drew ?_ | refine blk_alloc ?_ _)); refine blk_far ?_ NB238_292.out _; (with_reducible repeat (first | refine blk_drewN ?_ _ | refine blk_drew ?_ | refine blk_alloc ?_ _)); refine blk_far ?_ NB238_292.out _; (with_reducible repeat (first | refine blk_drewN ?_ _ | refine blk_drew ?_ | refine blk_alloc ?_ _)); exact BK238.out) hb); have n6_ := Aside0.mk (blk_below (g := gb239) (o := .cells #[.int .i64 a1_0, .int .i64 a1_1, .int .i64 a1_2] 39 (0, 0)) (by (with_reducible repeat (first | refine blk_drewN ?_ _ | refine blk_drew ?_ | refine blk_alloc ?_ _)); refine blk_far ?_ NB239_292.out _; (with_reducible repeat (first | refine blk_drewN ?_ _ | refine blk_drew ?_ | refine blk_alloc ?_ _)); refine blk_far ?_ NB239_292.out _; (with_reducible repeat (first | refine blk_drewN ?_ _ | refine blk_drew ?_ | refine blk_alloc ?_ _)); exact BK239.out) hb); have n7_ := Aside0.mk (blk_below (g := gb253) (o := .cells #[.int .i64 t248, .slice Ao32 t249.length co32] 26 (0, 0)) (by (with_reducible repeat (first | refine blk_drewN ?_ _ | refine blk_drew ?_ | refine blk_alloc ?_ _)); refine blk_far ?_ NB253_292.out _; (with_reducible repeat (first | refine blk_drewN ?_ _ | refine blk_drew ?_ | refine blk_alloc ?_ _)); refine blk_far ?_ NB253_292.out _; (with_reducible repeat (first | refine blk_drewN ?_ _ | refine blk_drew ?_ | refine blk_alloc ?_ _)); exact BK253.out) hb); have n8_ := Aside0.mk (blk_below (g := gb258) (o := .cells #[.int .i64 t254, .slice Ao42 t275.length co42] 26 (0, 0)) (by (with_reducible repeat (first | refine blk_drewN ?_ _ | refine blk_drew ?_ | refine blk_alloc ?_ _)); refine blk_far ?_ NB258_292.out _; (with_reducible repeat (first | refine blk_drewN ?_ _ | refine blk_drew ?_ | refine blk_alloc ?_ _)); refine blk_far ?_ NB258_292.out _; (with_reducible repeat (first | refine blk_drewN ?_ _ | refine blk_drew ?_ | refine blk_alloc ?_ _)); exact BK258.out) hb); have n9_ := Aside0.mk (blk_below (g := gb267) (o := .cells #[.int .i64 t262, .slice Ao50 t263.length co50] 26 (0, 0)) (by (with_reducible repeat (first | refine blk_drewN ?_ _ | refine blk_drew ?_ | refine blk_alloc ?_ _)); refine blk_far ?_ NB267_292.out _; (with_reducible repeat (first | refine blk_drewN ?_ _ | refine blk_drew ?_ | refine blk_alloc ?_ _)); refine blk_far ?_ NB267_292.out _; (with_reducible repeat (first | refine blk_drewN ?_ _ | refine blk_drew ?_ | refine blk_alloc ?_ _)); exact BK267.out) hb); have n10_ := Aside0.mk (blk_below (g := gb292) (o := .cells #[.int .i64 t287, .slice Ao138 t288.length co138] 26 (0, 0)) (by (with_reducible repeat (first | refine blk_drewN ?_ _ | refine blk_drew ?_ | refine blk_alloc ?_ _)); refine blk_put (cs := #[.int .i64 t287, .slice none 0 0]) ?_ 1 _ rfl; (with_reducible repeat (first | refine blk_drewN ?_ _ | refine blk_drew ?_ | refine blk_alloc ?_ _)); refine blk_put (cs := #[.int .i64 0, .slice none 0 0]) ?_ 0 _ rfl; (with_reducible repeat (first | refine blk_drewN ?_ _ | refine blk_drew ?_ | refine blk_alloc ?_ _)); exact BK292.out) hb); have n11_ := Aside0.mk (below_step bS hb); clear HO_254001; clear HO_259001; clear HO_268001; clear HO283; clear HO290; clear BK238; clear BK239; clear BK253; clear BK258; clear BK267; clear BK292; clear HB; have HO_254001 := n0_; have HO_259001 := n1_; have HO_268001 := n2_; have HO283 := n3_; have HO290 := n4_; have BK238 := n5_; have BK239 := n6_; have BK253 := n7_; have BK258 := n8_; have BK267 := n9_; have BK292 := n10_; have HB := n11_; clear n0_ n1_ n2_ n3_ n4_ n5_ n6_ n7_ n8_ n9_ n10_ n11_; (try clear hb); (try clear hb2); (try clear hk); (try clear hi)))
             go_meet
             case rel => exact ⟨_, (true), eX, H', ⟨by have := HJ17.out; have := HJ78.out; first | omega | exact Nat.le_refl _⟩, ⟨by (try simp only [hl259001_78]); (with_reducible repeat (first | apply Kd.R_alloc | apply Kd.R_drewN | apply Kd.R_drew)); exact Kd.R_mono HO_254001.out (fun _ hk => ⟨hk.2.2.1, ⟨hk.2.2.2, hk.2.1⟩⟩)⟩, ⟨by (try simp only [hl259001_78]); (with_reducible repeat (first | apply Kd.R_alloc | apply Kd.R_drewN | apply Kd.R_drew)); exact Kd.R_mono HO_259001.out (fun _ hk => ⟨hk.2.2.1, ⟨hk.2.2.2, hk.2.1⟩⟩)⟩, ⟨by (try simp only [hl259001_78]); (with_reducible repeat (first | apply Kd.R_alloc | apply Kd.R_drewN | apply Kd.R_drew)); exact Kd.R_mono HO_268001.out (fun _ hk => ⟨hk.2.2.1, ⟨hk.2.2.2, hk.2.1⟩⟩)⟩, ⟨by (try simp only [hl259001_78]); (with_reducible repeat (first | apply Kd.R_alloc | apply Kd.R_drewN | apply Kd.R_drew)); exact Kd.R_mono HO290.out (fun _ hk => ⟨hk.2.1, ⟨hk.2.2.1, hk.2.2.2⟩⟩)⟩, ⟨by (try simp only [hl259001_78]); (with_reducible repeat (first | refine blk_drewN ?_ _ | refine blk_drew ?_ | refine blk_alloc ?_ _)); exact BK238.out⟩, ⟨by (try simp only [hl259001_78]); (with_reducible repeat (first | refine blk_drewN ?_ _ | refine blk_drew ?_ | refine blk_alloc ?_ _)); exact BK239.out⟩, ⟨by (try simp only [hl259001_78]); (with_reducible repeat (first | refine blk_drewN ?_ _ | refine blk_drew ?_ | refine blk_alloc ?_ _)); exact BK253.out⟩, ⟨by (try simp only [hl259001_78]); (with_reducible repeat (first | refine blk_drewN ?_ _ | refine blk_drew ?_ | refine blk_alloc ?_ _)); exact BK258.out⟩, ⟨by (try simp only [hl259001_78]); (with_reducible repeat (first | refine blk_drewN ?_ _ | refine blk_drew ?_ | refine blk_alloc ?_ _)); exact BK267.out⟩, ⟨by (try simp only [hl259001_78]); (with_reducible repeat (first | refine blk_drewN ?_ _ | refine blk_drew ?_ | refine blk_alloc ?_ _)); exact BK292.out⟩, ⟨by repeat (first | (with_reducible first | exact HB.out | apply below_alloc | apply pw_below_drewN | apply below_drew1 | refine below_set ?_ GE238.out | refine below_set ?_ GE239.out | refine below_set ?_ GE253.out | refine below_set ?_ GE258.out | refine below_set ?_ GE267.out | refine below_set ?_ GE292.out) | exact HB.out)⟩⟩
           case rest =>
            clear HC121
            try clear c1
            try clear p2
            try clear c7
            try clear c13
            try clear c14
            try clear c15
            try clear c16
            try clear c141
            try clear c142
            try clear c143
            try clear c144
            try clear c145
            try clear c146
            try clear c148
            try clear c149
            try clear c150
            try clear c151
            try clear c154
            try clear c155
            try clear c156
            try clear c157
            try clear c158
            try clear c160
            try clear c161
            try clear c162
            try clear c163
            try clear hcz147_0
            try clear hcz147_1
            try clear hcz152_0
            try clear hcz152_1
            try clear hcz159_0
            try clear hcz159_1
            try clear hcz164_0
            try clear hcz164_1
            try clear hfz147_0
            try clear hfz147_1
            try clear hfz152_0
            try clear hfz152_1
            try clear hfz159_0
            try clear hfz159_1
            try clear hfz164_0
            try clear hfz164_1
            obtain ⟨kq, x105_120, rfl, HA, HJ120, HO_254001, HO_259001, HO_268001, HO_293001, BK238, BK239, BK253, BK258, BK267, BK292, HB⟩ := hcut
            have hl268001_120 := (Kd.R_reads' HO_268001.out).1
            rw [hl268001_120] at HO_268001
            (try simp only [hl268001_120])
            (try simp only [hl268001_120] at BK238)
            (try simp only [hl268001_120] at BK239)
            (try simp only [hl268001_120] at BK253)
            (try simp only [hl268001_120] at BK258)
            (try simp only [hl268001_120] at BK267)
            (try simp only [hl268001_120] at BK292)
            (try simp only [hl268001_120] at HO_254001)
            (try simp only [hl268001_120] at HO_259001)
            (try simp only [hl268001_120] at HO_293001)
            cases kq with
            | zero => exact absurd HA.out (by simp [laws_FnExactCacheTry.j2])
            | succ kj120 =>
             have H := HA.out
             clear HA
             simp only [laws_FnExactCacheTry.j2] at H
             by_cases c166 : x105_120 = true
             ·subst c166
              have H1 : (some false) = some r := by rw [if_pos rfl] at H; exact H
              clear H
              have H := H1
              clear H1
              rw [hr_true.out] at H
              exact absurd H (by simp)
             ·replace c166 := Bool.eq_false_iff.mpr c166
              subst c166
              have H1 : ((laws_heldCache.f kj120 t262 t278 1).bind fun t294 => (if t294 < 0 then (some false) else (if t294 = t277 then (some true) else (some false)))) = some r := by rw [if_neg (show ¬ (false = true) by decide)] at H; exact H
              clear H
              have H := H1
              clear H1
              replace H := Option.bind_eq_some_iff.mp H
              obtain ⟨t294, A1670, H⟩ := H
              replace H : (if t294 < 0 then (some false) else (if t294 = t277 then (some true) else (some false))) = some r := H
              have A167 := Aside0.mk A1670
              clear A1670
              by_cases c168 : t294 < 0
              ·rw [if_pos c168] at H
               have c168b0 : decide (t294 < 0) = true := decide_eq_true c168
               clear c168
               rw [hr_true.out] at H
               exact absurd H (by simp)
              ·rw [if_neg c168] at H
               have c168b0 : decide (t294 < 0) = false := decide_eq_false c168
               clear c168
               by_cases c169 : t294 = t277
               ·rw [if_pos c169] at H
                have c169b0 : (t294 == t277) = true := beq_iff_eq.mpr c169
                have c169b1 : (t294 != t277) = false := bne_eq_false_iff_eq.mpr c169
                clear c169
                obtain rfl := Option.some.inj H
                have hnb170 := NB267_238.out
                have hnc170 := NB238_267.out
                have hnb171 := NB267_239.out
                have hnc171 := NB239_267.out
                have hnb172 := NB267_253.out
                have hnc172 := NB253_267.out
                have hnb173 := NB267_258.out
                have hnc173 := NB258_267.out
                have hnb174 := NB267_292.out
                have hnc174 := NB292_267.out
                have hcz175_0 : wc.cell? ⟨gb267, 0, none⟩ = some (.int .i64 t262) := (blk_cell BK267.out 0).trans rfl
                have hcz175_1 : wc.cell? ⟨gb267, 1, none⟩ = some (.slice Ao50 t278.length co50) := (blk_cell BK267.out 1).trans rfl
                have hfz175_0 := blk_frozen BK267.out 0
                have hfz175_1 := blk_frozen BK267.out 1
                go_wp2_with (first | ((with_reducible refine gate_callee (f := 17) rfl ?_); refine goesL_ (some 108) rfl rfl Try.func17 (by kernel_rfl) rfl #[.agg #[.int .i64 t262, .slice Ao50 t278.length co50], .int .i64 1] rfl eA ?_; (with_reducible refine (laws_heldCache.calls kj120 t262 _ _ t278 1 t294 _ ?side1 ?side2 A167.out).mono ?_); (case side1 => repeat (first | exact (Kd.R_reads' HO_268001.out).2.2 | (with_reducible refine Kd.C_alloc ?_ _) | (with_reducible refine Kd.C_drewN ?_ _) | (with_reducible refine Kd.C_drew ?_))); (case side2 => exact (Kd.R_reads' HO_268001.out).2.1); rintro e w176 ⟨rfl, hb⟩; refine ⟨_, rfl, ?_⟩; have n0_ := Aside0.mk (Kd.R_below (kR HO_254001.out) hb); have n1_ := Aside0.mk (Kd.R_below (kR HO_259001.out) hb); have n2_ := Aside0.mk (Kd.R_below (kR HO_268001.out) hb); have n3_ := Aside0.mk (Kd.R_below (kR HO_293001.out) hb); have n4_ := Aside0.mk (blk_below (kB BK238.out) hb); have n5_ := Aside0.mk (blk_below (kB BK239.out) hb); have n6_ := Aside0.mk (blk_below (kB BK253.out) hb); have n7_ := Aside0.mk (blk_below (kB BK258.out) hb); have n8_ := Aside0.mk (blk_below (kB BK267.out) hb); have n9_ := Aside0.mk (blk_below (kB BK292.out) hb); have n10_ := Aside0.mk (below_step bS hb); clear HO_254001; clear HO_259001; clear HO_268001; clear HO_293001; clear BK238; clear BK239; clear BK253; clear BK258; clear BK267; clear BK292; clear HB; have HO_254001 := n0_; have HO_259001 := n1_; have HO_268001 := n2_; have HO_293001 := n3_; have BK238 := n4_; have BK239 := n5_; have BK253 := n6_; have BK258 := n7_; have BK267 := n8_; have BK292 := n9_; have HB := n10_; clear n0_ n1_ n2_ n3_ n4_ n5_ n6_ n7_ n8_ n9_ n10_; (try clear hb); (try clear hb2); (try clear hk); (try clear hi)))
                go_ret
                exact ⟨eE, bS⟩
               ·rw [if_neg c169] at H
                have c169b0 : (t294 == t277) = false := beq_eq_false_iff_ne.mpr c169
                have c169b1 : (t294 != t277) = true := bne_iff_ne.mpr c169
                rw [hr_true.out] at H
                exact absurd H (by simp)
          ·rw [if_neg c117] at H
           have c117b0 : (t279 == t277) = false := beq_eq_false_iff_ne.mpr c117
           have c117b1 : (t279 != t277) = true := bne_iff_ne.mpr c117
           rw [hr_true.out] at H
           exact absurd H (by simp)
     ·replace c77 := Bool.eq_false_iff.mpr c77
      subst c77
      have H1 : (some false) = some r := by rw [if_neg (show ¬ (false = true) by decide)] at H; exact H
      clear H
      have H := H1
      clear H1
      rw [hr_true.out] at H
      exact absurd H (by simp)

end Go.Proofs.Ytnpbafgnfdadhaa.OFnExactCacheTry
-- halved
-- squeezed
