-- walks of this claim, written by a program of mine
import Derived.Test.YthlpfghlildllaaOFnKnownx0
import Derived.Test.YthlpfghlildllaaOFnKnownx11
import Derived.Test.YthlpfghlildllaaOFnKnownx12
namespace Go.Proofs.Ythlpfghlildllaa.OFnKnown
open Go.RowKit Go.Proofs.Ythlpfghlildllaa.OWord Go.Proofs.YthlpfghlildllaaW.PrintWords Go.Proofs.YthlpfghlildllaaW.PrintLast Go.Proofs.YthlpfghlildllaaW.PrintMore
attribute [local go_sem] max2_int min2_int max_two min_two max_three min_three max_four min_four   -- for this text's walks alone
set_option linter.unusedVariables false
set_option linter.unusedSimpArgs false

/-! ### impl_sightOf: function 48 -/
/-! a map of this program's state, as the list of its keys: each key's element is 1, another's 0 -/
theorem zero3 (w : World) : (zeroValue 3).run Try.prog w = .ok (.int .i64 0) w := by kernel_rfl
def memB (t : ByteArray) (S : List ByteArray) : Bool := S.any fun u => decide (u.data = t.data)
def memI (n : Int) (R : List Int) : Bool := decide (n ∈ R)
theorem memB_iff {t : ByteArray} {S : List ByteArray} : memB t S = true ↔ t ∈ S := by
 unfold memB
 rw [List.any_eq_true]
 constructor
 ·rintro ⟨u, hu, h⟩
  have e : u = t := ByteArray.ext (of_decide_eq_true h)
  exact e ▸ hu
 intro h
 exact ⟨t, h, decide_eq_true rfl⟩
theorem memB_in {t : ByteArray} {S : List ByteArray} (h : memB t S = true) : t ∈ S := memB_iff.1 h
theorem memB_out {t : ByteArray} {S : List ByteArray} (h : ¬ memB t S = true) : ¬ t ∈ S := fun hm => h (memB_iff.2 hm)
theorem memI_in {t : Int} {S : List Int} (h : memI t S = true) : t ∈ S := of_decide_eq_true h
theorem memI_out {t : Int} {S : List Int} (h : ¬ memI t S = true) : ¬ t ∈ S := fun hm => h (decide_eq_true hm)
def MS (w : World) (b : Nat) (S : List ByteArray) : Prop :=
 ∃ D : DataW Unit, w.ownsMap Try.prog 9 (plainElem Try.prog 3) b S.length D ∧ ∀ t : ByteArray, (t ∈ S → D.atKey (.string t.data.toList) (.lit (.int .i64 0)) = .lit (.int .i64 1)) ∧ (¬ t ∈ S → D.atKey (.string t.data.toList) (.lit (.int .i64 0)) = .lit (.int .i64 0))
def MI (w : World) (b : Nat) (R : List Int) : Prop :=
 ∃ D : DataW Unit, w.ownsMap Try.prog 3 (plainElem Try.prog 3) b R.length D ∧ ∀ n : Int, (n ∈ R → D.atKey (.int .i64 n) (.lit (.int .i64 0)) = .lit (.int .i64 1)) ∧ (¬ n ∈ R → D.atKey (.int .i64 n) (.lit (.int .i64 0)) = .lit (.int .i64 0) ∧ Go.Maps.has D (.int .i64 n) = false)
theorem MS.kept {w w' : World} {b : Nat} {S : List ByteArray} (h : MS w b S) (hb : w'.heap[b]? = w.heap[b]?) : MS w' b S := by
 obtain ⟨D, ⟨es, cl, h1, h2⟩, h3⟩ := h
 exact ⟨D, ⟨es, cl, hb.trans h1, h2⟩, h3⟩
theorem MI.kept {w w' : World} {b : Nat} {S : List Int} (h : MI w b S) (hb : w'.heap[b]? = w.heap[b]?) : MI w' b S := by
 obtain ⟨D, ⟨es, cl, h1, h2⟩, h3⟩ := h
 exact ⟨D, ⟨es, cl, hb.trans h1, h2⟩, h3⟩
theorem MS.blk {w : World} {b : Nat} {S : List ByteArray} (h : MS w b S) : ∃ es cl, w.heap[b]? = some (.map es cl) := by
 obtain ⟨D, ⟨es, cl, h1, h2⟩, h3⟩ := h
 exact ⟨es, cl, h1⟩
theorem MI.blk {w : World} {b : Nat} {S : List Int} (h : MI w b S) : ∃ es cl, w.heap[b]? = some (.map es cl) := by
 obtain ⟨D, ⟨es, cl, h1, h2⟩, h3⟩ := h
 exact ⟨es, cl, h1⟩
theorem MS.made (w : World) : MS (w.alloc (.map #[] 0)) w.heap.size [] := by
 refine ⟨.map [], World.ownsMap_made _ _ _ _, fun t => ⟨fun h => by simp at h, fun _ => rfl⟩⟩
theorem MI.made (w : World) : MI (w.alloc (.map #[] 0)) w.heap.size [] := by
 refine ⟨.map [], World.ownsMap_made _ _ _ _, fun t => ⟨fun h => by simp at h, fun _ => ⟨rfl, rfl⟩⟩⟩
section
variable {ops : Array Oper} {Q : Exit → Act → World → Prop} {rest : List Oper} {o : Oper} {a : Act} {w : World} {b : Nat}
theorem MS.look1 {S : List ByteArray} (h : MS w b S) (hg : o.guard = none) (m x : Operand) (hop : o.op = Op.lookup 68 m x false) (t : ByteArray) (hm : a.eval m = .map (some b)) (hx : a.eval x = .string t) (ht : t.size ≤ 1048576) (hin : t ∈ S)
  (hK : wpList Try.prog ops Q rest (a.put o.dst (.int .i64 1)) w) : wpList Try.prog ops Q (o :: rest) a w := by
 obtain ⟨D, hown, hat⟩ := h
 refine Go.wpList_lookup_own_int w hg m x 68 hop 9 3 .i64 (Go.Maps.string_keyed Try.underlying9) Try.underlying68 Try.underlying3 (zero3 _) b _ D hm hown _ _ hx (Go.WideMaps.keyOf_string_mk Try.underlying9 (by unfold maxLen; omega)) ?_
 intro c hc _
 have := (hat t).1 hin
 rw [this] at hc
 simp only [DataW.lit.injEq, Lit.int.injEq, true_and] at hc
 subst hc
 exact hK
theorem MS.look0 {S : List ByteArray} (h : MS w b S) (hg : o.guard = none) (m x : Operand) (hop : o.op = Op.lookup 68 m x false) (t : ByteArray) (hm : a.eval m = .map (some b)) (hx : a.eval x = .string t) (ht : t.size ≤ 1048576) (hin : ¬ t ∈ S)
  (hK : wpList Try.prog ops Q rest (a.put o.dst (.int .i64 0)) w) : wpList Try.prog ops Q (o :: rest) a w := by
 obtain ⟨D, hown, hat⟩ := h
 refine Go.wpList_lookup_own_int w hg m x 68 hop 9 3 .i64 (Go.Maps.string_keyed Try.underlying9) Try.underlying68 Try.underlying3 (zero3 _) b _ D hm hown _ _ hx (Go.WideMaps.keyOf_string_mk Try.underlying9 (by unfold maxLen; omega)) ?_
 intro c hc _
 have := (hat t).2 hin
 rw [this] at hc
 simp only [DataW.lit.injEq, Lit.int.injEq, true_and] at hc
 subst hc
 exact hK
theorem MI.look1 {S : List Int} (h : MI w b S) (hg : o.guard = none) (m x : Operand) (hop : o.op = Op.lookup 69 m x false) (t : Int) (hm : a.eval m = .map (some b)) (hx : a.eval x = .int .i64 t) (ht : (Lit.int .i64 t).wf = true) (hin : t ∈ S)
  (hK : wpList Try.prog ops Q rest (a.put o.dst (.int .i64 1)) w) : wpList Try.prog ops Q (o :: rest) a w := by
 obtain ⟨D, hown, hat⟩ := h
 refine Go.wpList_lookup_own_int w hg m x 69 hop 3 3 .i64 (Go.Maps.int_keyed Try.underlying3) Try.underlying69 Try.underlying3 (zero3 _) b _ D hm hown _ _ hx (Go.Maps.keyOf_int_mk Try.underlying3 ht) ?_
 intro c hc _
 have := (hat t).1 hin
 rw [this] at hc
 simp only [DataW.lit.injEq, Lit.int.injEq, true_and] at hc
 subst hc
 exact hK
theorem MI.look0 {S : List Int} (h : MI w b S) (hg : o.guard = none) (m x : Operand) (hop : o.op = Op.lookup 69 m x false) (t : Int) (hm : a.eval m = .map (some b)) (hx : a.eval x = .int .i64 t) (ht : (Lit.int .i64 t).wf = true) (hin : ¬ t ∈ S)
  (hK : wpList Try.prog ops Q rest (a.put o.dst (.int .i64 0)) w) : wpList Try.prog ops Q (o :: rest) a w := by
 obtain ⟨D, hown, hat⟩ := h
 refine Go.wpList_lookup_own_int w hg m x 69 hop 3 3 .i64 (Go.Maps.int_keyed Try.underlying3) Try.underlying69 Try.underlying3 (zero3 _) b _ D hm hown _ _ hx (Go.Maps.keyOf_int_mk Try.underlying3 ht) ?_
 intro c hc _
 have := ((hat t).2 hin).1
 rw [this] at hc
 simp only [DataW.lit.injEq, Lit.int.injEq, true_and] at hc
 subst hc
 exact hK
theorem MS.store {S : List ByteArray} (h : MS w b S) (hg : o.guard = none) (m x v : Operand) (hop : o.op = Op.mapUpdate 68 m x v) (t : ByteArray) (hm : a.eval m = .map (some b)) (hx : a.eval x = .string t) (hv : a.eval v = .int .i64 1) (ht : t.size ≤ 1048576) (hn : S.length < 1000000000)
  (hK : ∀ w', MS w' b (t :: S) → w.grownBy w' (some b) → wpList Try.prog ops Q rest (a.put o.dst undef) w') : wpList Try.prog ops Q (o :: rest) a w := by
 obtain ⟨D, hown, hat⟩ := h
 refine Go.wpList_mapUpdate_own w hg m x v 68 hop 9 3 (Go.Maps.string_keyed Try.underlying9) Try.underlying68 _ b _ D hm hown (by unfold maxLen; omega) _ _ (.string t.data.toList) hx hv (Go.WideMaps.keyOf_string_mk Try.underlying9 (by unfold maxLen; omega)) (.lit (.int .i64 1)) [] (plainElem_int Try.underlying3 (by decide)) ?_
 intro w1 hown1 hg1
 refine hK w1 ⟨D.put (.string t.data.toList) (.lit (.int .i64 1)), hown1, fun s => ?_⟩ hg1
 by_cases e : s = t
 ·subst e
  rw [Go.Maps.atKey_put_same hown.isMap (show Go.WideAt.IsKeyLit (.string s.data.toList) from trivial)]
  exact ⟨fun _ => rfl, fun hn => absurd (List.mem_cons_self ..) hn⟩
 have hne : (Lit.string s.data.toList) ≠ .string t.data.toList := by
  intro he
  injection he with he
  exact e (ByteArray.ext (Array.ext' he))
 rw [Go.Maps.atKey_put_other hne]
 refine ⟨fun hs => (hat s).1 ?_, fun hs => (hat s).2 (fun h2 => hs (List.mem_cons_of_mem _ h2))⟩
 rcases List.mem_cons.1 hs with h2 | h2
 ·exact absurd h2 e
 exact h2
theorem MI.store {S : List Int} (h : MI w b S) (hg : o.guard = none) (m x v : Operand) (hop : o.op = Op.mapUpdate 69 m x v) (t : Int) (hm : a.eval m = .map (some b)) (hx : a.eval x = .int .i64 t) (hv : a.eval v = .int .i64 1) (ht : (Lit.int .i64 t).wf = true) (hn : S.length < 1000000000)
  (hK : ∀ w', MI w' b (t :: S) → w.grownBy w' (some b) → wpList Try.prog ops Q rest (a.put o.dst undef) w') : wpList Try.prog ops Q (o :: rest) a w := by
 obtain ⟨D, hown, hat⟩ := h
 refine Go.wpList_mapUpdate_own w hg m x v 69 hop 3 3 (Go.Maps.int_keyed Try.underlying3) Try.underlying69 _ b _ D hm hown (by unfold maxLen; omega) _ _ (.int .i64 t) hx hv (Go.Maps.keyOf_int_mk Try.underlying3 ht) (.lit (.int .i64 1)) [] (plainElem_int Try.underlying3 (by decide)) ?_
 intro w1 hown1 hg1
 refine hK w1 ⟨D.put (.int .i64 t) (.lit (.int .i64 1)), hown1, fun s => ?_⟩ hg1
 by_cases e : s = t
 ·subst e
  rw [Go.Maps.atKey_put_same hown.isMap (show Go.WideAt.IsKeyLit (.int .i64 s) from trivial)]
  exact ⟨fun _ => rfl, fun hn => absurd (List.mem_cons_self ..) hn⟩
 have hne : (Lit.int .i64 s) ≠ .int .i64 t := by
  intro he
  injection he with _ he
  exact e he
 rw [Go.Maps.atKey_put_other hne, Go.Maps.has_put_other hne]
 refine ⟨fun hs => (hat s).1 ?_, fun hs => (hat s).2 (fun h2 => hs (List.mem_cons_of_mem _ h2))⟩
 rcases List.mem_cons.1 hs with h2 | h2
 ·exact absurd h2 e
 exact h2
end

/-! the state: a block of three cells; two maps; a row of the call's own -/
abbrev SSt := List ByteArray × List Int × List ByteArray
def Sg (w0 w : World) (g b1 b2 : Nat) (v : Value) (s : SSt) : Prop :=
 w.heap[g]? = some (.cells #[.map (some b1), .map (some b2), v] 71 (0, 0)) ∧ MS w b1 s.1 ∧ MI w b2 s.2.1 ∧ Kd.R Kd.string 9 w w0.heap.size (fun k => k ≠ g ∧ k ≠ b1 ∧ k ≠ b2) v s.2.2 ∧ (w0.heap.size ≤ g ∧ w0.heap.size ≤ b1 ∧ w0.heap.size ≤ b2 ∧ b1 ≠ b2) ∧ Below w0.heap.size w0 w
section
variable {w0 w w' : World} {g b1 b2 : Nat} {v : Value} {s : SSt} {S : List ByteArray} {R : List Int} {C : List ByteArray}
theorem Sg.ne (h : Sg w0 w g b1 b2 v s) : g ≠ b1 ∧ g ≠ b2 ∧ some g ≠ v.ownBlock ∧ some b1 ≠ v.ownBlock ∧ some b2 ≠ v.ownBlock := by
 obtain ⟨h1, h2, h3, h4, h5, h6⟩ := h
 obtain ⟨es1, cl1, e1⟩ := h2.blk
 obtain ⟨es2, cl2, e2⟩ := h3.blk
 refine ⟨?_, ?_, ?_, ?_, ?_⟩
 ·rintro rfl; rw [h1] at e1; cases e1
 ·rintro rfl; rw [h1] at e2; cases e2
 ·exact Kd.R_ne h4 h1 (by decide)
 ·intro e
  obtain ⟨cs, hc⟩ := Kd.R_typed h4 b1 e.symm
  rw [hc] at e1; cases e1
 intro e
 obtain ⟨cs, hc⟩ := Kd.R_typed h4 b2 e.symm
 rw [hc] at e2; cases e2
theorem Sg.lt (h : Sg w0 w g b1 b2 v s) : g < w.heap.size ∧ b1 < w.heap.size ∧ b2 < w.heap.size := by
 obtain ⟨h1, h2, h3, h4, h5, h6⟩ := h
 obtain ⟨es1, cl1, e1⟩ := h2.blk
 obtain ⟨es2, cl2, e2⟩ := h3.blk
 exact ⟨blk_lt h1, blk_lt e1, blk_lt e2⟩
theorem Sg.below (h : Sg w0 w g b1 b2 v s) (hb : Below w.heap.size w w') : Sg w0 w' g b1 b2 v s := by
 obtain ⟨l1, l2, l3⟩ := h.lt
 obtain ⟨h1, h2, h3, h4, h5, h6⟩ := h
 exact ⟨blk_below h1 hb, h2.kept (hb.block b1 l2), h3.kept (hb.block b2 l3), Kd.R_below h4 hb, h5, below_step h6 hb⟩
theorem Sg.cells (h : Sg w0 w g b1 b2 v s) : w.cell? ⟨g, 0, none⟩ = some (.map (some b1)) ∧ w.cell? ⟨g, 1, none⟩ = some (.map (some b2)) ∧ w.cell? ⟨g, 2, none⟩ = some v ∧ w.frozen? ⟨g, 2, none⟩ = false :=
 ⟨(blk_cell h.1 0).trans rfl, (blk_cell h.1 1).trans rfl, (blk_cell h.1 2).trans rfl, blk_frozen h.1 2⟩
theorem Sg.store1 (h : Sg w0 w g b1 b2 v (S, R, C)) {S' : List ByteArray} (hm : MS w' b1 S') (hg : w.grownBy w' (some b1)) : Sg w0 w' g b1 b2 v (S', R, C) := by
 obtain ⟨l1, l2, l3⟩ := h.lt
 obtain ⟨n1, n2, n3, n4, n5⟩ := h.ne
 obtain ⟨h1, h2, h3, h4, h5, h6⟩ := h
 exact ⟨blk_grown h1 hg (by simpa using n1), hm, h3.kept (hg.block b2 l3 (by simpa using h5.2.2.2.symm)), Kd.R_step h4 (fun k hk hlt => hg.block k hlt (fun e => by
  injection e with e
  exact hk.2.1 e)), h5, h6.grown hg h6.size (fun j hj => by cases hj; exact h5.2.1)⟩
theorem Sg.store2 (h : Sg w0 w g b1 b2 v (S, R, C)) {R' : List Int} (hm : MI w' b2 R') (hg : w.grownBy w' (some b2)) : Sg w0 w' g b1 b2 v (S, R', C) := by
 obtain ⟨l1, l2, l3⟩ := h.lt
 obtain ⟨n1, n2, n3, n4, n5⟩ := h.ne
 obtain ⟨h1, h2, h3, h4, h5, h6⟩ := h
 exact ⟨blk_grown h1 hg (by simpa using n2), h2.kept (hg.block b1 l2 (by simpa using h5.2.2.2)), hm, Kd.R_step h4 (fun k hk hlt => hg.block k hlt (fun e => by
  injection e with e
  exact hk.2.2 e)), h5, h6.grown hg h6.size (fun j hj => by cases hj; exact h5.2.2.1)⟩
theorem Sg.store3 (h : Sg w0 w g b1 b2 v (S, R, C)) {v' : Value} {C' : List ByteArray} (hr : Kd.R Kd.string 9 w w0.heap.size (fun k => k ≠ g ∧ k ≠ b1 ∧ k ≠ b2) v' C') : Sg w0 (w.setCell ⟨g, 2, none⟩ v') g b1 b2 v' (S, R, C') := by
 obtain ⟨l1, l2, l3⟩ := h.lt
 obtain ⟨n1, n2, n3, n4, n5⟩ := h.ne
 obtain ⟨h1, h2, h3, h4, h5, h6⟩ := h
 exact ⟨blk_put h1 2 v' rfl, h2.kept (Below.heap_setCell w _ _ _ n1.symm), h3.kept (Below.heap_setCell w _ _ _ n2.symm), Kd.R_far hr (fun k hk => hk.1) _, h5, below_set h6 h5.1⟩
/-- The state's own row has been written, and lies elsewhere now; then the state is told so. -/
theorem Sg.append (h : Sg w0 w g b1 b2 v (S, R, C)) (hg : w.grownBy w' v.ownBlock) (hb : Below w0.heap.size w0 w') {v1 : Value} {C' : List ByteArray} (hr : Kd.R Kd.string 9 w' w0.heap.size (fun k => k ≠ g ∧ k ≠ b1 ∧ k ≠ b2) v1 C') :
  (w'.cell? ⟨g, 2, none⟩ = some v ∧ w'.frozen? ⟨g, 2, none⟩ = false) ∧ Sg w0 (w'.setCell ⟨g, 2, none⟩ v1) g b1 b2 v1 (S, R, C') := by
 obtain ⟨l1, l2, l3⟩ := h.lt
 obtain ⟨n1, n2, n3, n4, n5⟩ := h.ne
 obtain ⟨h1, h2, h3, h4, h5, h6⟩ := h
 have g1 := blk_grown h1 hg n3
 refine ⟨⟨(blk_cell g1 2).trans rfl, blk_frozen g1 2⟩, blk_put g1 2 v1 rfl, ?_, ?_, Kd.R_far hr (fun k hk => hk.1) _, h5, below_set hb h5.1⟩
 ·exact (h2.kept (hg.block b1 l2 n4)).kept (Below.heap_setCell _ _ _ _ n1.symm)
 exact (h3.kept (hg.block b2 l3 n5)).kept (Below.heap_setCell _ _ _ _ n2.symm)
/-- What a call on the state may touch. -/
def touch (g b1 b2 : Nat) (v : Value) (k : Nat) : Prop := k = g ∨ k = b1 ∨ k = b2 ∨ some k = v.ownBlock
theorem Sg.far {w1 : World} (h : Sg w0 w g b1 b2 v s) {e : Nat} {ok : Nat → Prop} {u : Value} {xs : List ByteArray} {base : Nat} (hr : Kd.R Kd.string e w base ok u xs) (hne : ∀ k, u.ownBlock = some k → ¬ touch g b1 b2 v k) (hk : Kept w w1 (touch g b1 b2 v)) : Kd.R Kd.string e w1 base ok u xs :=
 have h1 : Kd.R Kd.string e w base (fun k => ok k ∧ u.ownBlock = some k) u xs := ⟨fun k hk => ⟨hr.1 k hk, hk⟩, hr.2⟩
 Kd.R_mono (Kd.R_step h1 (fun k ho hlt => hk.2 k hlt (hne k ho.2))) (fun k hk => hk.1)
end

def foldS (F : ByteArray → SSt → Option SSt) : List ByteArray → SSt → Option SSt
 | [], s => some s
 | p :: ps, s => (F p s).bind fun s1 => foldS F ps s1
def impl_look.f : Nat → ByteArray → SSt → Option SSt
 | 0, _, _ => none
 | k + 1, t, s => if (t.size : Int) ≤ 1048576 then (if memB t s.1 = true then some s else
   (if s.1.length < 1000000000 then (if s.2.1.length < 1000000000 then (if s.2.2.length < 1000000000 then (if 0 < (t.size : Int) then
    (if (bt t 0) = 107 then ((impl_ReadKey.f k t).bind fun x => (if (Lit.int .i64 x.1).wf = true then some (t :: s.1, x.1 :: s.2.1, s.2.2) else none))
         else (if (bt t 0) = 108 then ((impl_Parts.f k t).bind fun x => (if x.1.length < 1000000000 then foldS (impl_look.f k) x.1 (t :: s.1, s.2.1, s.2.2) else none))
         else (if (bt t 0) = 115 then some (t :: s.1, s.2.1, s.2.2 ++ [t]) else some (t :: s.1, s.2.1, s.2.2)))) else none) else none) else none) else none)) else none
set_option maxHeartbeats 2000000 in
set_option maxRecDepth 100000 in
theorem impl_look.calls (k : Nat) : ∀ (t : ByteArray) (s s' : SSt) (w0 w : World) (g b1 b2 : Nat) (v : Value), Sg w0 w g b1 b2 v s → impl_look.f k t s = some s' →
  Calls Try.prog 79 #[.pointer (some ⟨g, 0, none⟩), .string t] w fun e w' => e = .returned (.tuple #[]) ∧ ∃ v', Sg w0 w' g b1 b2 v' s' ∧ (v'.ownBlock = v.ownBlock ∨ ∃ q, v'.ownBlock = some q ∧ w.heap.size ≤ q) ∧ Kept w w' (touch g b1 b2 v) := by
 induction k with
 | zero => intro t s s' w0 w g b1 b2 v hS h; exact absurd h (by simp [impl_look.f])
 | succ k ih =>
  intro t s s' w0 w g b1 b2 v hS h
  obtain ⟨S, R, C⟩ := s
  simp only [impl_look.f] at h
  have hu71 := Try.underlying71
  obtain ⟨hc0, hc1, hc2, hf2⟩ := hS.cells
  by_cases h1 : (t.size : Int) ≤ 1048576
  ·rw [if_pos h1] at h
   by_cases h2 : memB t S = true
   ·rw [if_pos h2] at h
    obtain rfl := Option.some.inj h
    go_enter Try.func79, Try.ntmps79
    go_wp2_with (at_lookup; refine MS.look1 hS.2.1 rfl _ _ rfl t rfl rfl (by omega) (memB_in h2) ?_)
    first | go_end0 | refine bodyPost_ret (results_none rfl _ _ _) rfl ?_
    exact ⟨rfl, v, hS, .inl rfl, Kept.refl _ _⟩
   rw [if_neg h2] at h
   by_cases h3 : S.length < 1000000000
   ·rw [if_pos h3] at h
    by_cases h4 : R.length < 1000000000
    ·rw [if_pos h4] at h
     by_cases h5 : C.length < 1000000000
     ·rw [if_pos h5] at h
      by_cases h6 : 0 < (t.size : Int)
      ·rw [if_pos h6] at h
       have h6b0 : decide (0 < (t.size : Int)) = true := decide_eq_true h6
       have hx8 : ∀ h : 0 < t.size, ((t[0]'h).toNat : Int) = bt t 0 := bt_at t 0
       have q8 : (0 < t.size) = True := eq_true (by omega)
       have qi8 : (0 < (t.size : Int)) = True := eq_true h6
       clear h6
       by_cases h7 : (bt t 0) = 107
       ·rw [if_pos h7] at h
        have h7b0 : ((bt t 0) == 107) = true := beq_iff_eq.mpr h7
        clear h7
        obtain ⟨⟨n, ok⟩, hA, h⟩ := Option.bind_eq_some_iff.mp h
        replace h : (if (Lit.int .i64 n).wf = true then some (t :: S, n :: R, C) else none) = some s' := h
        by_cases h8 : (Lit.int .i64 n).wf = true
        ·rw [if_pos h8] at h
         obtain rfl := Option.some.inj h
         go_enter Try.func79, Try.ntmps79
         go_wp2_with (first
          | (at_lookup; refine MS.look0 hS.2.1 rfl _ _ rfl t rfl rfl (by omega) (memB_out h2) ?_)
          | (at_mapUpdate; refine MS.store hS.2.1 rfl _ _ _ rfl t rfl rfl rfl (by omega) h3 ?_; intro w1 hm1 hg1; have hS1 := hS.store1 hm1 hg1; have K1 : Kept w w1 (touch g b1 b2 v) := Kept.of_grown hg1 (Kept.refl w _) (fun q hq => by cases hq; exact .inl (.inr (.inl rfl))); obtain ⟨hd0, hd1, hd2, hdf⟩ := hS1.cells)
          | (refine gL 81 (some 28) Try.func81 #[.string t] ?_; (with_reducible refine (impl_ReadKey.calls k t n ok _ hA).mono ?_); rintro e w2 ⟨rfl, hb⟩; refine ⟨_, rfl, ?_⟩; have hS2 := hS1.below hb; obtain ⟨he0, he1, he2, hef⟩ := hS2.cells)
          | (at_mapUpdate; refine MI.store hS2.2.2.1 rfl _ _ _ rfl n rfl rfl rfl h8 h4 ?_; intro w3 hm3 hg3; have hS3 := hS2.store2 hm3 hg3))
         first | go_end0 | refine bodyPost_ret (results_none rfl _ _ _) rfl ?_
         exact ⟨rfl, v, hS3, .inl rfl, Kept.of_grown hg3 (K1.below hb) (fun q hq => by cases hq; exact .inl (.inr (.inr (.inl rfl))))⟩
        rw [if_neg h8] at h; cases h
       rw [if_neg h7] at h
       have h7b0 : ((bt t 0) == 107) = false := by simpa using h7
       clear h7
       by_cases h8 : (bt t 0) = 108
       ·rw [if_pos h8] at h
        have h8b0 : ((bt t 0) == 108) = true := beq_iff_eq.mpr h8
        clear h8
        obtain ⟨⟨ps, ok⟩, hA, h⟩ := Option.bind_eq_some_iff.mp h
        replace h : (if ps.length < 1000000000 then foldS (impl_look.f k) ps (t :: S, R, C) else none) = some s' := h
        have hpsl : ps.length < 1000000000 := by
         by_cases hc : ps.length < 1000000000
         ·exact hc
         rw [if_neg hc] at h; cases h
        rw [if_pos hpsl] at h
        have H0 := Aside0.mk h
        clear h
        go_enter Try.func79, Try.ntmps79
        go_wp2_with (first
         | (at_lookup; refine MS.look0 hS.2.1 rfl _ _ rfl t rfl rfl (by omega) (memB_out h2) ?_)
         | (at_mapUpdate; refine MS.store hS.2.1 rfl _ _ _ rfl t rfl rfl rfl (by omega) h3 ?_; intro w1 hm1 hg1; have hS1 := hS.store1 hm1 hg1; have K1 : Kept w w1 (touch g b1 b2 v) := Kept.of_grown hg1 (Kept.refl w _) (fun q hq => by cases hq; exact .inl (.inr (.inl rfl))); obtain ⟨hd0, hd1, hd2, hdf⟩ := hS1.cells)
         | (refine gL 82 (some 40) Try.func82 #[.string t] ?_; (with_reducible refine (impl_Parts.calls k t ps ok _ hA).mono ?_); rintro e w2 ⟨vp, rfl, hop, hb⟩; refine ⟨_, rfl, ?_⟩; obtain ⟨Ap, cp, rfl⟩ := Kd.R_slice hop; have hS2 := hS1.below hb; have K2 := K1.below hb))
        go_loopg [45] ps.length (fun kq v45 w' => ∃ (i : Nat) (s1 : SSt) (v1 : Value), v45 = .int .i64 (i : Int) ∧ Aside0 (i + kq = ps.length) ∧ Aside0 (foldS (impl_look.f k) (ps.drop i) s1 = some s') ∧ Aside0 (Sg w0 w' g b1 b2 v1 s1) ∧ Aside0 (v1.ownBlock = v.ownBlock ∨ ∃ q, v1.ownBlock = some q ∧ w.heap.size ≤ q) ∧ Aside0 (Kept w w' (touch g b1 b2 v)) ∧ Aside0 (Kd.R Kd.string 9 w' w1.heap.size (fun _ => True) (.slice Ap ps.length cp) ps) ∧ Aside0 (∀ q, v1.ownBlock = some q → (Value.slice Ap ps.length cp).ownBlock ≠ some q))
        case atStart => exact ⟨0, _, v, rfl, ⟨(by omega)⟩, H0, ⟨hS2⟩, ⟨.inl rfl⟩, ⟨K2⟩, ⟨hop⟩, ⟨fun q hq hq2 => by have := Kd.R_lt hS1.2.2.2.1 q hq; have := Kd.R_base hop q hq2; omega⟩⟩
        case round =>
         obtain ⟨i, s1, v1, rfl, HI, HF, HS, HO, HK, HP, HN⟩ := hrel
         have hi := HI.out
         by_cases c : i < ps.length
         ·cases gk with
          | zero => omega
          | succ k1 =>
          have cb0 : decide ((i : Int) < (ps.length : Int)) = true := decide_eq_true (by omega)
          have hf := HF.out
          rw [List.drop_eq_getElem_cons c] at hf
          obtain ⟨s2, hl, hf2⟩ := Option.bind_eq_some_iff.mp hf
          have p9 : 0 ≤ (i : Int) := by omega
          have q9 : (i : Int) < (ps.length : Int) := by omega
          obtain ⟨ad, ea, hx9⟩ := Kd.at_string (Kd.R_reads' HP.out).2.2 (i : Int) p9 q9
          subst ea
          have er : rdOf ByteArray.empty ps (i : Int) = ps[i] := by unfold rdOf; rw [Int.toNat_natCast, List.getD_eq_getElem?_getD, List.getElem?_eq_getElem c]; rfl
          rw [er, Int.toNat_natCast] at hx9
          clear er hf
          replace p9 := eq_true p9
          replace q9 := eq_true q9
          go_wp2_with (go_at_call 79; (with_reducible refine (ih _ s1 s2 w0 _ g b1 b2 v1 HS.out hl).mono ?_); rintro e w3 ⟨rfl, v2, hS3, hO3, hK3⟩)
          go_roundg k1
          case measure => omega
          case rel =>
           obtain ⟨l1, l2, l3⟩ := hS.lt
           have hpl : ∀ q, (Value.slice (some ad) ps.length cp).ownBlock = some q → w1.heap.size ≤ q ∧ q < wr.heap.size := fun q hq => ⟨Kd.R_base HP.out q hq, Kd.R_lt HP.out q hq⟩
           have hw1 := hg1.size
           refine ⟨i + 1, s2, v2, (by go_num), ⟨(by omega)⟩, ⟨hf2⟩, ⟨hS3⟩, ⟨?_⟩, ⟨Kept.then_ HK.out hK3 ?_⟩, ⟨HS.out.far HP.out ?_ hK3⟩, ⟨?_⟩⟩
           ·rcases hO3 with e | ⟨q, hq, hl⟩
            ·rw [e]; exact HO.out
            exact .inr ⟨q, hq, Nat.le_trans HK.out.1 hl⟩
           ·rintro q (rfl | rfl | rfl | hq)
            ·exact .inl (.inl rfl)
            ·exact .inl (.inr (.inl rfl))
            ·exact .inl (.inr (.inr (.inl rfl)))
            rcases HO.out with e | ⟨q2, hq2, hl2⟩
            ·exact .inl (.inr (.inr (.inr (hq.trans e))))
            rw [hq2] at hq; injection hq with hq; subst hq; exact .inr hl2
           ·rintro q hq (rfl | rfl | rfl | hq2)
            ·have := (hpl _ hq).1; omega
            ·have := (hpl _ hq).1; omega
            ·have := (hpl _ hq).1; omega
            exact HN.out q hq2.symm hq
           intro q hq
           rcases hO3 with e | ⟨q2, hq2, hl2⟩
           ·rw [e] at hq; exact HN.out q hq
           rw [hq2] at hq; injection hq with hq; subst hq
           intro hb
           have := (hpl _ hb).2
           omega
         have e0 : i = ps.length := by omega
         subst e0
         have cb0 : decide ((ps.length : Int) < (ps.length : Int)) = false := decide_eq_false (by omega)
         have hf := HF.out
         rw [List.drop_length] at hf
         obtain rfl := Option.some.inj hf
         go_wp2
         refine bodyPost_end (results_none rfl _ _ _) rfl ?_
         exact ⟨rfl, v1, HS.out, HO.out, HK.out⟩
       rw [if_neg h8] at h
       have h8b0 : ((bt t 0) == 108) = false := by simpa using h8
       clear h8
       by_cases h9 : (bt t 0) = 115
       ·rw [if_pos h9] at h
        have h9b0 : ((bt t 0) == 115) = true := beq_iff_eq.mpr h9
        clear h9
        obtain rfl := Option.some.inj h
        go_enter Try.func79, Try.ntmps79
        go_wp2_with (first
         | (at_lookup; refine MS.look0 hS.2.1 rfl _ _ rfl t rfl rfl (by omega) (memB_out h2) ?_)
         | (at_mapUpdate; refine MS.store hS.2.1 rfl _ _ _ rfl t rfl rfl rfl (by omega) h3 ?_; intro w1 hm1 hg1; have hS1 := hS.store1 hm1 hg1; have K1 : Kept w w1 (touch g b1 b2 v) := Kept.of_grown hg1 (Kept.refl w _) (fun q hq => by cases hq; exact .inl (.inr (.inl rfl))); obtain ⟨hd0, hd1, hd2, hdf⟩ := hS1.cells; obtain ⟨l1, l2, l3⟩ := hS1.lt)
         | ((with_reducible refine gate_builtin (b := .append) (xs := #[.tmp 59, .tmp 61]) rfl ?_); at_builtin; refine Kd.R_append Kd.string (w0 := w0) w0.heap.size rfl (.tmp 59) (.tmp 61) 24 9 (.string ⟨#[]⟩) 16 rfl Try.underlying24 info9 rfl (by decide) (by omega) v C t [.string t] (fun k => k ≠ g ∧ k ≠ b1 ∧ k ≠ b2) (fun _ => False) rfl rfl ?aP (fun _ hk => hk.elim) ?aF ?aO ?aB ?aS ?aL ?_; (case aP => exact rfl); (case aB => exact hS1.2.2.2.2.2); (case aF => exact (fun k hk => ⟨(by omega), (by omega), (by omega)⟩)); (case aO => exact hS1.2.2.2.1); (case aS => exact hS1.2.2.2.2.2.size); (case aL => omega); intro v1 w2 ho2 hb2 hg2 hat2; obtain ⟨A1, c1, rfl⟩ := Kd.R_slice ho2; have hl9 : (C ++ [t]).length = C.length + 1 := (by simp); rw [hl9] at ho2 hat2; obtain ⟨⟨he2, hef⟩, hS2⟩ := hS1.append hg2 hb2 ho2))
        first | go_end0 | refine bodyPost_ret (results_none rfl _ _ _) rfl ?_
        exact ⟨rfl, _, hS2, hat2.imp id (fun ⟨q, hq, hl⟩ => ⟨q, hq, Nat.le_trans hg1.size hl⟩), Kept.setCell (Kept.of_grown hg2 K1 (fun q hq => .inl (.inr (.inr (.inr hq.symm))))) (.inl (.inl rfl)) _⟩
       rw [if_neg h9] at h
       have h9b0 : ((bt t 0) == 115) = false := by simpa using h9
       clear h9
       obtain rfl := Option.some.inj h
       go_enter Try.func79, Try.ntmps79
       go_wp2_with (first
        | (at_lookup; refine MS.look0 hS.2.1 rfl _ _ rfl t rfl rfl (by omega) (memB_out h2) ?_)
        | (at_mapUpdate; refine MS.store hS.2.1 rfl _ _ _ rfl t rfl rfl rfl (by omega) h3 ?_; intro w1 hm1 hg1; have hS1 := hS.store1 hm1 hg1; have K1 : Kept w w1 (touch g b1 b2 v) := Kept.of_grown hg1 (Kept.refl w _) (fun q hq => by cases hq; exact .inl (.inr (.inl rfl)))))
       first | go_end0 | refine bodyPost_ret (results_none rfl _ _ _) rfl ?_
       exact ⟨rfl, v, hS1, .inl rfl, K1⟩
      rw [if_neg h6] at h; cases h
     rw [if_neg h5] at h; cases h
    rw [if_neg h4] at h; cases h
   rw [if_neg h3] at h; cases h
  rw [if_neg h1] at h; cases h
def foldK : List Int → List Int → Option (List Int)
 | [], R => some R
 | n :: ns, R => if (Lit.int .i64 n).wf = true then (if R.length < 1000000000 then foldK ns (n :: R) else none) else none
def rndS (k : Nat) : List ByteArray → Bool → SSt → Option (Bool × SSt)
 | [], ag, s => some (ag, s)
 | t :: ts, ag, s => (impl_sealed.f k t).bind fun x => if (Lit.int .i64 x.1).wf = true then (if memI x.1 s.2.1 = true then ((impl_look.f k x.2.1 s).bind fun s1 => rndS k ts true s1) else (if s.2.2.length < 1000000000 then rndS k ts ag (s.1, s.2.1, s.2.2 ++ [t]) else none)) else none
def againS (k : Nat) : Nat → SSt → Option SSt
 | 0, _ => none
 | j + 1, s => if s.2.2.length < 1000000000 then ((rndS k s.2.2 false (s.1, s.2.1, [])).bind fun x => if x.1 = true then againS k j x.2 else some x.2) else none
def impl_sightOf.f (k : Nat) (l0 : List ByteArray) (l1 : List Int) : Option SSt :=
 if l0.length < 1000000000 then (if l1.length < 1000000000 then ((foldK l1 []).bind fun R => ((foldS (impl_look.f k) l0 ([], R, [])).bind fun s => againS k k s)) else none) else none
theorem Sg.made {w w1 w2 : World} {g : Nat} (hb1 : Below w.heap.size w w1) (hg : g = ((w1.alloc (.map #[] 0)).alloc (.map #[] 0)).heap.size)
  (hbox : w2.heap[g]? = some (.cells #[.map (some w1.heap.size), .map (some (w1.heap.size + 1)), .slice none 0 0] 71 (0, 0)))
  (hb2 : Below ((w1.alloc (.map #[] 0)).alloc (.map #[] 0)).heap.size ((w1.alloc (.map #[] 0)).alloc (.map #[] 0)) w2) :
  Sg w w2 g w1.heap.size (w1.heap.size + 1) (.slice none 0 0) ([], [], []) ∧ Below w1.heap.size w1 w2 := by
 have e1 : (w1.alloc (Obj.map #[] 0)).heap.size = w1.heap.size + 1 := by simp
 have e2 : ((w1.alloc (Obj.map #[] 0)).alloc (Obj.map #[] 0)).heap.size = w1.heap.size + 2 := by simp
 have hs1 := hb1.size
 have q1 : Below (w1.alloc (Obj.map #[] 0)).heap.size (w1.alloc (Obj.map #[] 0)) ((w1.alloc (Obj.map #[] 0)).alloc (Obj.map #[] 0)) := below_alloc (Below.refl _ _) _
 have q0 : Below w1.heap.size w1 ((w1.alloc (Obj.map #[] 0)).alloc (Obj.map #[] 0)) := below_alloc (below_alloc (Below.refl _ _) _) _
 have q2 : Below w1.heap.size w1 w2 := below_step q0 hb2
 have m1 : MS w2 w1.heap.size [] := ((MS.made w1).kept (q1.block _ (by omega))).kept (hb2.block _ (by omega))
 have m2 : MI w2 (w1.heap.size + 1) [] := by
  have := MI.made (w1.alloc (Obj.map #[] 0))
  rw [e1] at this
  exact this.kept (hb2.block _ (by omega))
 exact ⟨⟨hbox, m1, m2, Kd.R_nil _ _ _ _ _, ⟨(by omega), (by omega), (by omega), (by show w1.heap.size ≠ w1.heap.size + 1; omega)⟩, below_step hb1 q2⟩, q2⟩
set_option maxHeartbeats 4000000 in
set_option maxRecDepth 100000 in
theorem impl_sightOf.calls (k : Nat) (A0 : Option Addr) (c0 : Nat) (l0 : List ByteArray) (A1 : Option Addr) (c1 : Nat) (l1 : List Int) (s' : SSt) (w : World) (hr0 : Kd.C Kd.string w A0 l0.length l0) (hr1 : Kd.C (Kd.int .i64) w A1 l1.length l1) (h : impl_sightOf.f k l0 l1 = some s') :
  Calls Try.prog 48 #[.agg #[.slice A0 l0.length c0, .slice A1 l1.length c1]] w fun e w' => ∃ g b1 b2 v, e = .returned (.pointer (some ⟨g, 0, none⟩)) ∧ Sg w w' g b1 b2 v s' := by
 have hu27 := Try.underlying27
 have hu71 := Try.underlying71
 have hmm := @run_makeMap Try.prog
 unfold impl_sightOf.f at h
 by_cases hl0 : l0.length < 1000000000
 ·rw [if_pos hl0] at h
  by_cases hl1 : l1.length < 1000000000
  ·rw [if_pos hl1] at h
   obtain ⟨R0, hR0, h⟩ := Option.bind_eq_some_iff.mp h
   obtain ⟨s0, hs0, h⟩ := Option.bind_eq_some_iff.mp h
   have HA := Aside0.mk h
   have HS0 := Aside0.mk hs0
   have HR0 := Aside0.mk hR0
   clear h hs0 hR0
   go_enter Try.func48, Try.ntmps48
   go_wp2_with (first
    | (refine bE 1 #[.slice A0 l0.length c0, .slice A1 l1.length c1] 27 ?_; intro gp hgp w1 hboxp hb1; clear hgp)
    | (refine bE 18 #[.map (some w1.heap.size), .map (some (w1.heap.size + 1)), .slice none 0 0] 71 ?_; intro g hg w2 hbox hb2; obtain ⟨hSg, hB2⟩ := Sg.made hb1 hg hbox hb2; have hbp := blk_below hboxp hB2; have hcp1 : w2.cell? ⟨gp, 1, none⟩ = some (.slice A1 l1.length c1) := (blk_cell hbp 1).trans rfl; have Hg := Aside0.mk hg; clear hg))
   have hpl : gp < w1.heap.size := blk_lt hboxp
   have hgb : gp ≠ g ∧ gp ≠ w1.heap.size ∧ gp ≠ w1.heap.size + 1 := by
    have e2 : ((w1.alloc (Obj.map #[] 0)).alloc (Obj.map #[] 0)).heap.size = w1.heap.size + 2 := by simp
    have := Hg.out
    omega
   go_loopg [22] l1.length (fun kq v22 w' => ∃ (i : Nat) (R : List Int), v22 = .int .i64 (i : Int) ∧ Aside0 (i + kq = l1.length) ∧ Aside0 (foldK (l1.drop i) R = some R0) ∧ Aside0 (Sg w w' g w1.heap.size (w1.heap.size + 1) (.slice none 0 0) ([], R, [])) ∧ Aside0 (w'.heap[gp]? = some (.cells #[.slice A0 l0.length c0, .slice A1 l1.length c1] 27 (0, 0))))
   case atStart => exact ⟨0, [], rfl, ⟨(by omega)⟩, HR0, ⟨hSg⟩, ⟨hbp⟩⟩
   case round =>
    obtain ⟨i, R, rfl, HI, HF, HS, HP⟩ := hrel
    have hi := HI.out
    by_cases c : i < l1.length
    ·cases gk with
     | zero => omega
     | succ k1 =>
     have cb0 : decide ((i : Int) < (l1.length : Int)) = true := decide_eq_true (by omega)
     have hf := HF.out
     rw [List.drop_eq_getElem_cons c] at hf
     simp only [foldK] at hf
     have hwf : (Lit.int .i64 l1[i]).wf = true := by
      by_cases hc : (Lit.int .i64 l1[i]).wf = true
      ·exact hc
      rw [if_neg hc] at hf; cases hf
     rw [if_pos hwf] at hf
     have hRl : R.length < 1000000000 := by
      by_cases hc : R.length < 1000000000
      ·exact hc
      rw [if_neg hc] at hf; cases hf
     rw [if_pos hRl] at hf
     have p9 : 0 ≤ (i : Int) := by omega
     have q9 : (i : Int) < (l1.length : Int) := by omega
     have hBw := HS.out.2.2.2.2.2
     obtain ⟨ad, ea, hx9⟩ := Kd.at_int hr1 (i : Int) p9 q9
     subst ea
     have er : rd l1 (i : Int) = l1[i] := by unfold rd; rw [Int.toNat_natCast, List.getD_eq_getElem?_getD, List.getElem?_eq_getElem c]; rfl
     rw [er, Int.toNat_natCast] at hx9
     replace hx9 := (hBw.cell (World.block_lt_of_cell? w _ hx9)).trans hx9
     clear er
     replace p9 := eq_true p9
     replace q9 := eq_true q9
     obtain ⟨he0, he1, he2, hef⟩ := HS.out.cells
     go_wp2_with (at_mapUpdate; refine MI.store HS.out.2.2.1 rfl _ _ _ rfl l1[i] rfl rfl rfl hwf hRl ?_; intro w3 hm3 hg3; have hS3 := HS.out.store2 hm3 hg3)
     go_roundg k1
     case measure => omega
     case rel => exact ⟨i + 1, _, (by go_num), ⟨(by omega)⟩, ⟨hf⟩, ⟨hS3⟩, ⟨blk_grown HP.out hg3 (by simpa using hgb.2.2)⟩⟩
    have e0 : i = l1.length := by omega
    subst e0
    have cb0 : decide ((l1.length : Int) < (l1.length : Int)) = false := decide_eq_false (by omega)
    have hf := HF.out
    rw [List.drop_length] at hf
    obtain rfl := Option.some.inj hf
    have hcp0 : wr.cell? ⟨gp, 0, none⟩ = some (.slice A0 l0.length c0) := (blk_cell HP.out 0).trans rfl
    have HT := HS0
    clear HS0
    go_wp2
    go_loopg [35] l0.length (fun kq v35 w' => ∃ (i : Nat) (s1 : SSt) (v1 : Value), v35 = .int .i64 (i : Int) ∧ Aside0 (i + kq = l0.length) ∧ Aside0 (foldS (impl_look.f k) (l0.drop i) s1 = some s0) ∧ Aside0 (Sg w w' g w1.heap.size (w1.heap.size + 1) v1 s1))
    case atStart => exact ⟨0, _, _, rfl, ⟨(by omega)⟩, HT, HS⟩
    case round =>
     clear HS HP HF HR0 HI
     obtain ⟨i, s1, v1, rfl, HI, HF, HS⟩ := hrel
     have hi := HI.out
     by_cases c : i < l0.length
     ·cases gk with
      | zero => omega
      | succ k1 =>
      have cb0 : decide ((i : Int) < (l0.length : Int)) = true := decide_eq_true (by omega)
      have hf := HF.out
      rw [List.drop_eq_getElem_cons c] at hf
      obtain ⟨s2, hl, hf2⟩ := Option.bind_eq_some_iff.mp hf
      have p9 : 0 ≤ (i : Int) := by omega
      have q9 : (i : Int) < (l0.length : Int) := by omega
      have hBw := HS.out.2.2.2.2.2
      obtain ⟨ad, ea, hx9⟩ := Kd.at_string hr0 (i : Int) p9 q9
      subst ea
      have er : rdOf ByteArray.empty l0 (i : Int) = l0[i] := by unfold rdOf; rw [Int.toNat_natCast, List.getD_eq_getElem?_getD, List.getElem?_eq_getElem c]; rfl
      rw [er, Int.toNat_natCast] at hx9
      replace hx9 := (hBw.cell (World.block_lt_of_cell? w _ hx9)).trans hx9
      clear er hf
      replace p9 := eq_true p9
      replace q9 := eq_true q9
      go_wp2_with (go_at_call 79; (with_reducible refine (impl_look.calls k _ s1 s2 w _ g _ _ v1 HS.out hl).mono ?_); rintro e w3 ⟨rfl, v2, hS3, hO3, hK3⟩)
      go_roundg k1
      case measure => omega
      case rel => exact ⟨i + 1, s2, v2, (by go_num), ⟨(by omega)⟩, ⟨hf2⟩, ⟨hS3⟩⟩
     have e0 : i = l0.length := by omega
     subst e0
     have cb0 : decide ((l0.length : Int) < (l0.length : Int)) = false := decide_eq_false (by omega)
     have hf := HF.out
     rw [List.drop_length] at hf
     obtain rfl := Option.some.inj hf
     go_wp2
     go_loopg [8] k (fun kq v8 w' => ∃ (ag : Bool) (s1 : SSt) (v1 : Value), v8 = .bool ag ∧ Aside0 ((ag = true ∧ againS k kq s1 = some s') ∨ (ag = false ∧ s1 = s')) ∧ Aside0 (Sg w w' g w1.heap.size (w1.heap.size + 1) v1 s1))
     case atStart => exact ⟨true, _, _, rfl, ⟨.inl ⟨rfl, HA.out⟩⟩, HS⟩
     case round =>
      clear HS HF HI HA
      obtain ⟨ag, s1, v1, rfl, HF, HS⟩ := hrel
      rcases HF.out with ⟨rfl, hf⟩ | ⟨rfl, rfl⟩
      ·cases gk with
       | zero => simp [againS] at hf
       | succ k1 =>
       simp only [againS] at hf
       obtain ⟨S1, R1, C1⟩ := s1
       have hC1 : C1.length < 1000000000 := by
        by_cases hc : C1.length < 1000000000
        ·exact hc
        rw [if_neg hc] at hf; cases hf
       rw [if_pos hC1] at hf
       obtain ⟨⟨ag2, s2⟩, hr, hf2⟩ := Option.bind_eq_some_iff.mp hf
       obtain ⟨Av, cv, rfl⟩ := Kd.R_slice HS.out.2.2.2.1
       have hS1 := HS.out
       obtain ⟨he0, he1, he2, hef⟩ := hS1.cells
       have hS2 := hS1.store3 (Kd.R_nil Kd.string 9 wr w.heap.size (fun k => k ≠ g ∧ k ≠ w1.heap.size ∧ k ≠ w1.heap.size + 1))
       have hL := hS1.2.2.2.1
       have hn := hS1.ne
       have hL2 : Kd.R Kd.string 9 (wr.setCell ⟨g, 2, none⟩ (.slice none 0 0)) w.heap.size (fun k => k ≠ g ∧ k ≠ w1.heap.size ∧ k ≠ w1.heap.size + 1) (.slice Av C1.length cv) C1 := Kd.R_far hL (fun k hk => hk.1) _
       have HR := Aside0.mk hr
       clear hf hr
       go_wp2
       go_loopg [53, 8] C1.length (fun kq v53 v8 w' => ∃ (i : Nat) (ag : Bool) (s3 : SSt) (v3 : Value), v53 = .int .i64 (i : Int) ∧ v8 = .bool ag ∧ Aside0 (i + kq = C1.length) ∧ Aside0 (rndS k (C1.drop i) ag s3 = some (ag2, s2)) ∧ Aside0 (Sg w w' g w1.heap.size (w1.heap.size + 1) v3 s3) ∧ Aside0 (Kd.R Kd.string 9 w' w.heap.size (fun k => k ≠ g ∧ k ≠ w1.heap.size ∧ k ≠ w1.heap.size + 1) (.slice Av C1.length cv) C1) ∧ Aside0 (∀ q, v3.ownBlock = some q → (Value.slice Av C1.length cv).ownBlock ≠ some q))
       case atStart => exact ⟨0, false, _, _, rfl, rfl, ⟨(by omega)⟩, HR, ⟨hS2⟩, ⟨hL2⟩, ⟨fun q hq => by simp [Value.ownBlock] at hq⟩⟩
       case round =>
        clear HR hS2 hL2 HS he0 he1 he2 hef
        obtain ⟨i, ag, s3, v3, rfl, rfl, HI, HF, HS, HL, HN⟩ := hrel
        have hi := HI.out
        by_cases c : i < C1.length
        ·cases gk with
         | zero => omega
         | succ k2 =>
         have cb0 : decide ((i : Int) < (C1.length : Int)) = true := decide_eq_true (by omega)
         have hf := HF.out
         rw [List.drop_eq_getElem_cons c] at hf
         simp only [rndS] at hf
         obtain ⟨⟨n, inner, ok⟩, hx, hf⟩ := Option.bind_eq_some_iff.mp hf
         obtain ⟨S3, R3, C3⟩ := s3
         have hwf : (Lit.int .i64 n).wf = true := by
          by_cases hc : (Lit.int .i64 n).wf = true
          ·exact hc
          rw [if_neg hc] at hf; cases hf
         rw [if_pos hwf] at hf
         have p9 : 0 ≤ (i : Int) := by omega
         have q9 : (i : Int) < (C1.length : Int) := by omega
         obtain ⟨ad, ea, hx9⟩ := Kd.at_string (Kd.R_reads' HL.out).2.2 (i : Int) p9 q9
         subst ea
         have er : rdOf ByteArray.empty C1 (i : Int) = C1[i] := by unfold rdOf; rw [Int.toNat_natCast, List.getD_eq_getElem?_getD, List.getElem?_eq_getElem c]; rfl
         rw [er, Int.toNat_natCast] at hx9
         clear er
         replace p9 := eq_true p9
         replace q9 := eq_true q9
         have hLb : ∀ q, (Value.slice (some ad) C1.length cv).ownBlock = some q → (q ≠ g ∧ q ≠ w1.heap.size ∧ q ≠ w1.heap.size + 1) ∧ q < wr.heap.size := fun q hq => ⟨HL.out.1 q hq, Kd.R_lt HL.out q hq⟩
         have hn3 := HS.out.ne
         by_cases hm : memI n R3 = true
         ·rw [if_pos hm] at hf
          obtain ⟨s4, hl, hf2⟩ := Option.bind_eq_some_iff.mp hf
          have Hf2 := Aside0.mk hf2
          clear hf hf2
          go_wp2_with (first
           | (refine gL 80 (some 59) Try.func80 #[.string C1[i]] ?_; (with_reducible refine (impl_sealed.calls k C1[i] n inner ok _ hx).mono ?_); rintro e w3 ⟨rfl, hb⟩; refine ⟨_, rfl, ?_⟩; have hS4 := HS.out.below hb; have hL4 := Kd.R_below HL.out hb; obtain ⟨he0, he1, he2, hef⟩ := hS4.cells)
           | (at_lookup; refine MI.look1 hS4.2.2.1 rfl _ _ rfl n rfl rfl hwf (memI_in hm) ?_)
           | (go_at_call 79; (with_reducible refine (impl_look.calls k _ (S3, R3, C3) s4 w _ g _ _ v3 hS4 hl).mono ?_); rintro e w4 ⟨rfl, v4, hS5, hO5, hK5⟩))
          go_roundg k2
          case measure => omega
          case rel =>
           have hbs := hb.size
           refine ⟨i + 1, true, s4, v4, (by go_num), rfl, ⟨(by omega)⟩, Hf2, ⟨hS5⟩, ⟨hS4.far hL4 ?_ hK5⟩, ⟨?_⟩⟩
           ·rintro q hq (rfl | rfl | rfl | hq2)
            ·exact (hLb _ hq).1.1 rfl
            ·exact (hLb _ hq).1.2.1 rfl
            ·exact (hLb _ hq).1.2.2 rfl
            exact HN.out q hq2.symm hq
           intro q hq
           rcases hO5 with e | ⟨q2, hq2, hl2⟩
           ·rw [e] at hq; exact HN.out q hq
           rw [hq2] at hq; injection hq with hq; subst hq
           intro hbq
           have := (hLb _ hbq).2
           omega
         rw [if_neg hm] at hf
         have hC3 : C3.length < 1000000000 := by
          by_cases hc : C3.length < 1000000000
          ·exact hc
          rw [if_neg hc] at hf; cases hf
         rw [if_pos hC3] at hf
         have Hf2 := Aside0.mk hf
         clear hf
         go_wp2_with (first
          | (refine gL 80 (some 59) Try.func80 #[.string C1[i]] ?_; (with_reducible refine (impl_sealed.calls k C1[i] n inner ok _ hx).mono ?_); rintro e w3 ⟨rfl, hb⟩; refine ⟨_, rfl, ?_⟩; have hS4 := HS.out.below hb; have hL4 := Kd.R_below HL.out hb; obtain ⟨he0, he1, he2, hef⟩ := hS4.cells; obtain ⟨l1', l2', l3'⟩ := hS4.lt)
          | (at_lookup; refine MI.look0 hS4.2.2.1 rfl _ _ rfl n rfl rfl hwf (memI_out hm) ?_)
          | ((with_reducible refine gate_builtin (b := .append) (xs := #[.tmp 77, .tmp 79]) rfl ?_); at_builtin; refine Kd.R_append Kd.string (w0 := w) w.heap.size rfl (.tmp 77) (.tmp 79) 24 9 (.string ⟨#[]⟩) 16 rfl Try.underlying24 info9 rfl (by decide) (by omega) v3 C3 C1[i] [.string C1[i]] (fun k => k ≠ g ∧ k ≠ w1.heap.size ∧ k ≠ w1.heap.size + 1) (fun _ => False) rfl rfl ?aP (fun _ hk => hk.elim) ?aF ?aO ?aB ?aS ?aL ?_; (case aP => exact rfl); (case aB => exact hS4.2.2.2.2.2); (case aF => exact (fun k hk => ⟨(by omega), (by omega), (by omega)⟩)); (case aO => exact hS4.2.2.2.1); (case aS => exact hS4.2.2.2.2.2.size); (case aL => omega); intro v1' w4 ho2 hb4 hg2 hat2; obtain ⟨A9, c9, rfl⟩ := Kd.R_slice ho2; have hl9 : (C3 ++ [C1[i]]).length = C3.length + 1 := (by simp); rw [hl9] at ho2 hat2; obtain ⟨⟨hf2', hff⟩, hS5⟩ := hS4.append hg2 hb4 ho2))
         go_roundg k2
         case measure => omega
         case rel =>
          have hbs := hb.size
          have h1 : Kd.R Kd.string 9 w3 w.heap.size (fun k => (k ≠ g ∧ k ≠ w1.heap.size ∧ k ≠ w1.heap.size + 1) ∧ (Value.slice (some ad) C1.length cv).ownBlock = some k) (.slice (some ad) C1.length cv) C1 := ⟨fun k hk => ⟨hL4.1 k hk, hk⟩, hL4.2⟩
          have h2 : Kd.R Kd.string 9 w4 w.heap.size (fun k => k ≠ g ∧ k ≠ w1.heap.size ∧ k ≠ w1.heap.size + 1) (.slice (some ad) C1.length cv) C1 := Kd.R_mono (Kd.R_step h1 (fun k ho hlt => hg2.block k hlt (fun e => HN.out k e.symm ho.2))) (fun k hk => hk.1)
          refine ⟨i + 1, ag, _, _, (by go_num), rfl, ⟨(by omega)⟩, Hf2, ⟨hS5⟩, ⟨Kd.R_far h2 (fun k hk => hk.1) _⟩, ⟨?_⟩⟩
          intro q hq
          rcases hat2 with e | ⟨q2, hq2, hl2⟩
          ·rw [e] at hq; exact HN.out q hq
          rw [hq2] at hq; injection hq with hq; subst hq
          intro hbq
          have := (hLb _ hbq).2
          omega
        have e0 : i = C1.length := by omega
        subst e0
        have cb0 : decide ((C1.length : Int) < (C1.length : Int)) = false := decide_eq_false (by omega)
        have hf := HF.out
        rw [List.drop_length] at hf
        simp only [rndS, Option.some.injEq, Prod.mk.injEq] at hf
        obtain ⟨rfl, rfl⟩ := hf
        go_wp2
        go_roundg k1
        case measure => omega
        case rel =>
         refine ⟨ag, s3, v3, rfl, ⟨?_⟩, HS⟩
         cases ag with
         | true => exact .inl ⟨rfl, (by simpa using hf2)⟩
         | false => exact .inr ⟨rfl, (by simpa using hf2)⟩
      go_wp2
      go_ret
      exact ⟨g, rfl, _, _, v1, HS.out⟩
  rw [if_neg hl1] at h; cases h
 rw [if_neg hl0] at h; cases h

/-! ### impl_Build: function 13 -/
def allS (F : ByteArray → Option Bool) : List ByteArray → Option Bool
 | [] => some true
 | p :: ps => (F p).bind fun b => if b = true then allS F ps else some false
def impl_builds.f (S : List ByteArray) (R : List Int) : Nat → ByteArray → Option Bool
 | 0, _ => none
 | k + 1, t => if (t.size : Int) ≤ 1048576 then (if memB t S = true then some true else (if 0 < (t.size : Int) then
   (if (bt t 0) = 97 then some true
       else (if (bt t 0) = 107 then ((impl_ReadKey.f k t).bind fun x => (if (Lit.int .i64 x.1).wf = true then some (memI x.1 R) else none))
       else (if (bt t 0) = 108 then ((impl_Parts.f k t).bind fun x => (if x.1.length < 1000000000 then allS (impl_builds.f S R k) x.1 else none))
       else ((impl_sealed.f k t).bind fun x => (if (Lit.int .i64 x.1).wf = true then (if memI x.1 R = true then impl_builds.f S R k x.2.1 else some false) else none))))) else none)) else none
set_option maxHeartbeats 4000000 in
set_option maxRecDepth 100000 in
theorem impl_builds.calls (S : List ByteArray) (R : List Int) (C : List ByteArray) (k : Nat) : ∀ (t : ByteArray) (r : Bool) (w0 w : World) (g b1 b2 : Nat) (v : Value), Sg w0 w g b1 b2 v (S, R, C) → impl_builds.f S R k t = some r →
  Calls Try.prog 49 #[.pointer (some ⟨g, 0, none⟩), .string t] w fun e w' => e = .returned (.bool r) ∧ Below w.heap.size w w' := by
 induction k with
 | zero => intro t r w0 w g b1 b2 v hS h; exact absurd h (by simp [impl_builds.f])
 | succ k ih =>
  intro t r w0 w g b1 b2 v hS h
  simp only [impl_builds.f] at h
  have hu71 := Try.underlying71
  obtain ⟨hc0, hc1, hc2, hf2⟩ := hS.cells
  by_cases h1 : (t.size : Int) ≤ 1048576
  ·rw [if_pos h1] at h
   by_cases h2 : memB t S = true
   ·rw [if_pos h2] at h
    obtain rfl := Option.some.inj h
    go_enter Try.func49, Try.ntmps49
    go_wp2_with (at_lookup; refine MS.look1 hS.2.1 rfl _ _ rfl t rfl rfl (by omega) (memB_in h2) ?_)
    go_ret
    exact ⟨rfl, Below.refl _ _⟩
   rw [if_neg h2] at h
   by_cases h6 : 0 < (t.size : Int)
   ·rw [if_pos h6] at h
    have h6b0 : decide (0 < (t.size : Int)) = true := decide_eq_true h6
    have hx8 : ∀ h : 0 < t.size, ((t[0]'h).toNat : Int) = bt t 0 := bt_at t 0
    have q8 : (0 < t.size) = True := eq_true (by omega)
    have qi8 : (0 < (t.size : Int)) = True := eq_true h6
    clear h6
    by_cases h7 : (bt t 0) = 97
    ·rw [if_pos h7] at h
     have h7b0 : ((bt t 0) == 97) = true := beq_iff_eq.mpr h7
     clear h7
     obtain rfl := Option.some.inj h
     go_enter Try.func49, Try.ntmps49
     go_wp2_with (at_lookup; refine MS.look0 hS.2.1 rfl _ _ rfl t rfl rfl (by omega) (memB_out h2) ?_)
     go_ret
     exact ⟨rfl, Below.refl _ _⟩
    rw [if_neg h7] at h
    have h7b0 : ((bt t 0) == 97) = false := by simpa using h7
    clear h7
    by_cases h8 : (bt t 0) = 107
    ·rw [if_pos h8] at h
     have h8b0 : ((bt t 0) == 107) = true := beq_iff_eq.mpr h8
     clear h8
     obtain ⟨⟨n, ok⟩, hA, h⟩ := Option.bind_eq_some_iff.mp h
     have hwf : (Lit.int .i64 n).wf = true := by
      by_cases hc : (Lit.int .i64 n).wf = true
      ·exact hc
      simp only [hc, if_false] at h; cases h
     simp only [hwf, if_true] at h
     obtain rfl := Option.some.inj h
     by_cases hm : memI n R = true
     ·go_enter Try.func49, Try.ntmps49
      go_wp2_with (first
       | (at_lookup; refine MS.look0 hS.2.1 rfl _ _ rfl t rfl rfl (by omega) (memB_out h2) ?_)
       | (refine gL 81 (some 29) Try.func81 #[.string t] ?_; (with_reducible refine (impl_ReadKey.calls k t n ok _ hA).mono ?_); rintro e w2 ⟨rfl, hb⟩; refine ⟨_, rfl, ?_⟩; have hS2 := hS.below hb; obtain ⟨he0, he1, he2, hef⟩ := hS2.cells)
       | (at_lookup; (try (refine gate_guard (by rfl) ?_; dsimp only)); refine MI.look1 hS2.2.2.1 rfl _ _ rfl n rfl rfl hwf (memI_in hm) ?_))
      go_ret
      exact ⟨(by simp [hm]), hb⟩
     have hmf : memI n R = false := by simpa using hm
     go_enter Try.func49, Try.ntmps49
     go_wp2_with (first
      | (at_lookup; refine MS.look0 hS.2.1 rfl _ _ rfl t rfl rfl (by omega) (memB_out h2) ?_)
      | (refine gL 81 (some 29) Try.func81 #[.string t] ?_; (with_reducible refine (impl_ReadKey.calls k t n ok _ hA).mono ?_); rintro e w2 ⟨rfl, hb⟩; refine ⟨_, rfl, ?_⟩; have hS2 := hS.below hb; obtain ⟨he0, he1, he2, hef⟩ := hS2.cells)
      | (at_lookup; (try (refine gate_guard (by rfl) ?_; dsimp only)); refine MI.look0 hS2.2.2.1 rfl _ _ rfl n rfl rfl hwf (memI_out hm) ?_))
     go_ret
     exact ⟨(by simp [hmf]), hb⟩
    rw [if_neg h8] at h
    have h8b0 : ((bt t 0) == 107) = false := by simpa using h8
    clear h8
    by_cases h9 : (bt t 0) = 108
    ·rw [if_pos h9] at h
     have h9b0 : ((bt t 0) == 108) = true := beq_iff_eq.mpr h9
     clear h9
     obtain ⟨⟨ps, ok⟩, hA, h⟩ := Option.bind_eq_some_iff.mp h
     have hpl : ps.length < 1000000000 := by
      by_cases hc : ps.length < 1000000000
      ·exact hc
      simp only [hc, if_false] at h; cases h
     simp only [hpl, if_true] at h
     have H0 := Aside0.mk h
     clear h
     go_enter Try.func49, Try.ntmps49
     go_wp2_with (first
      | (at_lookup; refine MS.look0 hS.2.1 rfl _ _ rfl t rfl rfl (by omega) (memB_out h2) ?_)
      | (refine gL 82 (some 43) Try.func82 #[.string t] ?_; (with_reducible refine (impl_Parts.calls k t ps ok _ hA).mono ?_); rintro e w2 ⟨vp, rfl, hop, hb⟩; refine ⟨_, rfl, ?_⟩; obtain ⟨Ap, cp, rfl⟩ := Kd.R_slice hop; have hS2 := hS.below hb))
     go_loopg [48] ps.length (fun kq v48 w' => ∃ (i : Nat), v48 = .int .i64 (i : Int) ∧ Aside0 (i + kq = ps.length) ∧ Aside0 (allS (impl_builds.f S R k) (ps.drop i) = some r) ∧ Aside0 (Sg w0 w' g b1 b2 v (S, R, C)) ∧ Aside0 (Below w.heap.size w w') ∧ Aside0 (Kd.R Kd.string 9 w' w.heap.size (fun _ => True) (.slice Ap ps.length cp) ps))
     case atStart => exact ⟨0, rfl, ⟨(by omega)⟩, H0, ⟨hS2⟩, ⟨hb⟩, ⟨hop⟩⟩
     case round =>
      obtain ⟨i, rfl, HI, HF, HS, HB, HP⟩ := hrel
      have hi := HI.out
      by_cases c : i < ps.length
      ·cases gk with
       | zero => omega
       | succ k1 =>
       have cb0 : decide ((i : Int) < (ps.length : Int)) = true := decide_eq_true (by omega)
       have hf := HF.out
       rw [List.drop_eq_getElem_cons c] at hf
       obtain ⟨r1, hl, hf2⟩ := Option.bind_eq_some_iff.mp hf
       have p9 : 0 ≤ (i : Int) := by omega
       have q9 : (i : Int) < (ps.length : Int) := by omega
       obtain ⟨ad, ea, hx9⟩ := Kd.at_string (Kd.R_reads' HP.out).2.2 (i : Int) p9 q9
       subst ea
       have er : rdOf ByteArray.empty ps (i : Int) = ps[i] := by unfold rdOf; rw [Int.toNat_natCast, List.getD_eq_getElem?_getD, List.getElem?_eq_getElem c]; rfl
       rw [er, Int.toNat_natCast] at hx9
       clear er hf
       replace p9 := eq_true p9
       replace q9 := eq_true q9
       cases r1 with
       | true =>
        simp only [if_true] at hf2
        go_wp2_with (first | (go_at_call 49; (with_reducible refine (ih ps[i] true w0 _ g b1 b2 v HS.out hl).mono ?_); rintro e w9 ⟨rfl, hb9⟩) | (refine gL 49 (some 54) Try.func49 #[.pointer (some ⟨g, 0, none⟩), .string ps[i]] ?_; (with_reducible refine (ih ps[i] true w0 _ g b1 b2 v HS.out hl).mono ?_); rintro e w9 ⟨rfl, hb9⟩; refine ⟨_, rfl, ?_⟩))
        go_roundg k1
        case measure => omega
        case rel => exact ⟨i + 1, (by go_num), ⟨(by omega)⟩, ⟨hf2⟩, ⟨HS.out.below hb9⟩, ⟨below_step HB.out hb9⟩, ⟨Kd.R_below HP.out hb9⟩⟩
       | false =>
        simp only [Bool.false_eq_true, if_false] at hf2
        obtain rfl := Option.some.inj hf2
        go_wp2_with (first | (go_at_call 49; (with_reducible refine (ih ps[i] false w0 _ g b1 b2 v HS.out hl).mono ?_); rintro e w9 ⟨rfl, hb9⟩) | (refine gL 49 (some 54) Try.func49 #[.pointer (some ⟨g, 0, none⟩), .string ps[i]] ?_; (with_reducible refine (ih ps[i] false w0 _ g b1 b2 v HS.out hl).mono ?_); rintro e w9 ⟨rfl, hb9⟩; refine ⟨_, rfl, ?_⟩))
        go_ret
        exact ⟨rfl, below_step HB.out hb9⟩
      have e0 : i = ps.length := by omega
      subst e0
      have cb0 : decide ((ps.length : Int) < (ps.length : Int)) = false := decide_eq_false (by omega)
      have hf := HF.out
      rw [List.drop_length] at hf
      obtain rfl := Option.some.inj hf
      go_wp2
      go_ret
      exact ⟨rfl, HB.out⟩
    rw [if_neg h9] at h
    have h9b0 : ((bt t 0) == 108) = false := by simpa using h9
    clear h9
    obtain ⟨⟨n, inner, ok⟩, hA, h⟩ := Option.bind_eq_some_iff.mp h
    have hwf : (Lit.int .i64 n).wf = true := by
     by_cases hc : (Lit.int .i64 n).wf = true
     ·exact hc
     simp only [hc, if_false] at h; cases h
    simp only [hwf, if_true] at h
    by_cases hm : memI n R = true
    ·simp only [hm, if_true] at h
     cases r with
     | true =>
      go_enter Try.func49, Try.ntmps49
      go_wp2_with (first
       | (at_lookup; refine MS.look0 hS.2.1 rfl _ _ rfl t rfl rfl (by omega) (memB_out h2) ?_)
       | (refine gL 80 (some 59) Try.func80 #[.string t] ?_; (with_reducible refine (impl_sealed.calls k t n inner ok _ hA).mono ?_); rintro e w2 ⟨rfl, hb⟩; refine ⟨_, rfl, ?_⟩; have hS2 := hS.below hb; obtain ⟨he0, he1, he2, hef⟩ := hS2.cells)
       | (at_lookup; (try (refine gate_guard (by rfl) ?_; dsimp only)); refine MI.look1 hS2.2.2.1 rfl _ _ rfl n rfl rfl hwf (memI_in hm) ?_)
       | ((with_reducible refine gate_callee (f := 49) rfl ?_); (try (refine gate_guard (by rfl) ?_; dsimp only)); refine goesL_ (some 73) rfl rfl Try.func49 (by kernel_rfl) rfl #[.pointer (some ⟨g, 0, none⟩), .string inner] rfl eA ?_; (with_reducible refine (ih inner true w0 _ g b1 b2 v hS2 h).mono ?_); rintro e w9 ⟨rfl, hb9⟩; refine ⟨_, rfl, ?_⟩))
      go_ret
      exact ⟨rfl, below_step hb hb9⟩
     | false =>
      go_enter Try.func49, Try.ntmps49
      go_wp2_with (first
       | (at_lookup; refine MS.look0 hS.2.1 rfl _ _ rfl t rfl rfl (by omega) (memB_out h2) ?_)
       | (refine gL 80 (some 59) Try.func80 #[.string t] ?_; (with_reducible refine (impl_sealed.calls k t n inner ok _ hA).mono ?_); rintro e w2 ⟨rfl, hb⟩; refine ⟨_, rfl, ?_⟩; have hS2 := hS.below hb; obtain ⟨he0, he1, he2, hef⟩ := hS2.cells)
       | (at_lookup; (try (refine gate_guard (by rfl) ?_; dsimp only)); refine MI.look1 hS2.2.2.1 rfl _ _ rfl n rfl rfl hwf (memI_in hm) ?_)
       | ((with_reducible refine gate_callee (f := 49) rfl ?_); (try (refine gate_guard (by rfl) ?_; dsimp only)); refine goesL_ (some 73) rfl rfl Try.func49 (by kernel_rfl) rfl #[.pointer (some ⟨g, 0, none⟩), .string inner] rfl eA ?_; (with_reducible refine (ih inner false w0 _ g b1 b2 v hS2 h).mono ?_); rintro e w9 ⟨rfl, hb9⟩; refine ⟨_, rfl, ?_⟩))
      go_ret
      exact ⟨rfl, below_step hb hb9⟩
    have hmf : memI n R = false := by simpa using hm
    simp only [hmf, Bool.false_eq_true, if_false] at h
    obtain rfl := Option.some.inj h
    go_enter Try.func49, Try.ntmps49
    go_wp2_with (first
     | (at_lookup; refine MS.look0 hS.2.1 rfl _ _ rfl t rfl rfl (by omega) (memB_out h2) ?_)
     | (refine gL 80 (some 59) Try.func80 #[.string t] ?_; (with_reducible refine (impl_sealed.calls k t n inner ok _ hA).mono ?_); rintro e w2 ⟨rfl, hb⟩; refine ⟨_, rfl, ?_⟩; have hS2 := hS.below hb; obtain ⟨he0, he1, he2, hef⟩ := hS2.cells)
     | (at_lookup; (try (refine gate_guard (by rfl) ?_; dsimp only)); refine MI.look0 hS2.2.2.1 rfl _ _ rfl n rfl rfl hwf (memI_out hm) ?_))
    go_ret
    exact ⟨rfl, hb⟩
   rw [if_neg h6] at h; cases h
  rw [if_neg h1] at h; cases h
def impl_Build.f (k : Nat) (l0 : List ByteArray) (l1 : List Int) (t : ByteArray) : Option Bool :=
 (impl_KnownOk.f k l0 l1).bind fun ok => if ok = true then ((impl_TermOk.f k t).bind fun tk => if tk = true then ((impl_sightOf.f k l0 l1).bind fun s => impl_builds.f s.1 s.2.1 k t) else some false) else some false
set_option maxHeartbeats 4000000 in
set_option maxRecDepth 100000 in
theorem impl_Build.calls (k : Nat) (A0_0 : Option Addr) (c0_0 : Nat) (l0_0 : List ByteArray) (A0_1 : Option Addr) (c0_1 : Nat) (l0_1 : List Int) (a1 : ByteArray) (r : Bool) (w : World) (hr0_0 : Kd.C Kd.string w A0_0 l0_0.length l0_0) (hc0_0 : l0_0.length ≤ c0_0) (hr0_1 : Kd.C (Kd.int .i64) w A0_1 l0_1.length l0_1) (hc0_1 : l0_1.length ≤ c0_1) (h : impl_Build.f k l0_0 l0_1 a1 = some r) :
  Calls Try.prog 13 #[.agg #[.slice A0_0 l0_0.length c0_0, .slice A0_1 l0_1.length c0_1], .string a1] w fun e w' => e = .returned (.bool r) ∧ Below w.heap.size w w' := by
 have hu27 := Try.underlying27
 have hu71 := Try.underlying71
 unfold impl_Build.f at h
 obtain ⟨ok, hok, h⟩ := Option.bind_eq_some_iff.mp h
 cases ok with
 | false =>
  obtain rfl := Option.some.inj h
  go_enter Try.func13, Try.ntmps13
  go_wp2_with (first
   | (refine bE 2 #[.slice A0_0 l0_0.length c0_0, .slice A0_1 l0_1.length c0_1] 27 ?_; intro gp hgp w1 hbp hb1; clear hgp; have hcp0 : w1.cell? ⟨gp, 0, none⟩ = some (.slice A0_0 l0_0.length c0_0) := (blk_cell hbp 0).trans rfl; have hcp1 : w1.cell? ⟨gp, 1, none⟩ = some (.slice A0_1 l0_1.length c0_1) := (blk_cell hbp 1).trans rfl)
   | (refine gL 46 (some 6) Try.func46 #[.agg #[.slice A0_0 l0_0.length c0_0, .slice A0_1 l0_1.length c0_1]] ?_; (with_reducible refine (impl_KnownOk.calls k _ _ _ _ _ _ false _ (Kd.C_below hr0_0 hb1) hc0_0 (Kd.C_below hr0_1 hb1) hc0_1 hok).mono ?_); rintro e w2 ⟨rfl, hb2⟩; refine ⟨_, rfl, ?_⟩; have hb12 := below_step hb1 hb2; have hbp2 := blk_below hbp hb2; have hdp0 : w2.cell? ⟨gp, 0, none⟩ = some (.slice A0_0 l0_0.length c0_0) := (blk_cell hbp2 0).trans rfl; have hdp1 : w2.cell? ⟨gp, 1, none⟩ = some (.slice A0_1 l0_1.length c0_1) := (blk_cell hbp2 1).trans rfl))
  go_ret
  exact ⟨rfl, hb12⟩
 | true =>
  simp only [if_true] at h
  obtain ⟨tk, htk, h⟩ := Option.bind_eq_some_iff.mp h
  cases tk with
  | false =>
   obtain rfl := Option.some.inj h
   go_enter Try.func13, Try.ntmps13
   go_wp2_with (first
    | (refine bE 2 #[.slice A0_0 l0_0.length c0_0, .slice A0_1 l0_1.length c0_1] 27 ?_; intro gp hgp w1 hbp hb1; clear hgp; have hcp0 : w1.cell? ⟨gp, 0, none⟩ = some (.slice A0_0 l0_0.length c0_0) := (blk_cell hbp 0).trans rfl; have hcp1 : w1.cell? ⟨gp, 1, none⟩ = some (.slice A0_1 l0_1.length c0_1) := (blk_cell hbp 1).trans rfl)
    | (refine gL 46 (some 6) Try.func46 #[.agg #[.slice A0_0 l0_0.length c0_0, .slice A0_1 l0_1.length c0_1]] ?_; (with_reducible refine (impl_KnownOk.calls k _ _ _ _ _ _ true _ (Kd.C_below hr0_0 hb1) hc0_0 (Kd.C_below hr0_1 hb1) hc0_1 hok).mono ?_); rintro e w2 ⟨rfl, hb2⟩; refine ⟨_, rfl, ?_⟩; have hb12 := below_step hb1 hb2; have hbp2 := blk_below hbp hb2; have hdp0 : w2.cell? ⟨gp, 0, none⟩ = some (.slice A0_0 l0_0.length c0_0) := (blk_cell hbp2 0).trans rfl; have hdp1 : w2.cell? ⟨gp, 1, none⟩ = some (.slice A0_1 l0_1.length c0_1) := (blk_cell hbp2 1).trans rfl)
    | ((with_reducible refine gate_callee (f := 47) rfl ?_); (try (refine gate_guard (by rfl) ?_; dsimp only)); refine goesL_ (some 9) rfl rfl Try.func47 (by kernel_rfl) rfl #[.string a1] rfl eA ?_; (with_reducible refine (impl_TermOk.calls k a1 false _ htk).mono ?_); rintro e w3 ⟨rfl, hb3⟩; refine ⟨_, rfl, ?_⟩; have hb13 := below_step hb12 hb3; have hbp3 := blk_below hbp2 hb3; have hep0 : w3.cell? ⟨gp, 0, none⟩ = some (.slice A0_0 l0_0.length c0_0) := (blk_cell hbp3 0).trans rfl; have hep1 : w3.cell? ⟨gp, 1, none⟩ = some (.slice A0_1 l0_1.length c0_1) := (blk_cell hbp3 1).trans rfl))
   go_ret
   exact ⟨rfl, hb13⟩
  | true =>
   simp only [if_true] at h
   obtain ⟨⟨S, R, C⟩, hs, h⟩ := Option.bind_eq_some_iff.mp h
   cases r with
   | true =>
    go_enter Try.func13, Try.ntmps13
    go_wp2_with (first
     | (refine bE 2 #[.slice A0_0 l0_0.length c0_0, .slice A0_1 l0_1.length c0_1] 27 ?_; intro gp hgp w1 hbp hb1; clear hgp; have hcp0 : w1.cell? ⟨gp, 0, none⟩ = some (.slice A0_0 l0_0.length c0_0) := (blk_cell hbp 0).trans rfl; have hcp1 : w1.cell? ⟨gp, 1, none⟩ = some (.slice A0_1 l0_1.length c0_1) := (blk_cell hbp 1).trans rfl)
     | (refine gL 46 (some 6) Try.func46 #[.agg #[.slice A0_0 l0_0.length c0_0, .slice A0_1 l0_1.length c0_1]] ?_; (with_reducible refine (impl_KnownOk.calls k _ _ _ _ _ _ true _ (Kd.C_below hr0_0 hb1) hc0_0 (Kd.C_below hr0_1 hb1) hc0_1 hok).mono ?_); rintro e w2 ⟨rfl, hb2⟩; refine ⟨_, rfl, ?_⟩; have hb12 := below_step hb1 hb2; have hbp2 := blk_below hbp hb2; have hdp0 : w2.cell? ⟨gp, 0, none⟩ = some (.slice A0_0 l0_0.length c0_0) := (blk_cell hbp2 0).trans rfl; have hdp1 : w2.cell? ⟨gp, 1, none⟩ = some (.slice A0_1 l0_1.length c0_1) := (blk_cell hbp2 1).trans rfl)
     | ((with_reducible refine gate_callee (f := 47) rfl ?_); (try (refine gate_guard (by rfl) ?_; dsimp only)); refine goesL_ (some 9) rfl rfl Try.func47 (by kernel_rfl) rfl #[.string a1] rfl eA ?_; (with_reducible refine (impl_TermOk.calls k a1 true _ htk).mono ?_); rintro e w3 ⟨rfl, hb3⟩; refine ⟨_, rfl, ?_⟩; have hb13 := below_step hb12 hb3; have hbp3 := blk_below hbp2 hb3; have hep0 : w3.cell? ⟨gp, 0, none⟩ = some (.slice A0_0 l0_0.length c0_0) := (blk_cell hbp3 0).trans rfl; have hep1 : w3.cell? ⟨gp, 1, none⟩ = some (.slice A0_1 l0_1.length c0_1) := (blk_cell hbp3 1).trans rfl)
     | ((with_reducible refine gate_callee (f := 48) rfl ?_); (try (refine gate_guard (by rfl) ?_; dsimp only)); refine goesL_ (some 13) rfl rfl Try.func48 (by kernel_rfl) rfl #[.agg #[.slice A0_0 l0_0.length c0_0, .slice A0_1 l0_1.length c0_1]] rfl eA ?_; (with_reducible refine (impl_sightOf.calls k _ _ _ _ _ _ _ _ (Kd.C_below hr0_0 hb13) (Kd.C_below hr0_1 hb13) hs).mono ?_); rintro e w4 ⟨g, b1, b2, v, rfl, hSg⟩; refine ⟨_, rfl, ?_⟩)
     | ((with_reducible refine gate_callee (f := 49) rfl ?_); (try (refine gate_guard (by rfl) ?_; dsimp only)); refine goesL_ (some 15) rfl rfl Try.func49 (by kernel_rfl) rfl #[.pointer (some ⟨g, 0, none⟩), .string a1] rfl eA ?_; (with_reducible refine (impl_builds.calls S R C k a1 true _ _ g b1 b2 v hSg h).mono ?_); rintro e w5 ⟨rfl, hb5⟩; refine ⟨_, rfl, ?_⟩))
    go_ret
    exact ⟨rfl, below_step (below_step hb13 hSg.2.2.2.2.2) hb5⟩
   | false =>
    go_enter Try.func13, Try.ntmps13
    go_wp2_with (first
     | (refine bE 2 #[.slice A0_0 l0_0.length c0_0, .slice A0_1 l0_1.length c0_1] 27 ?_; intro gp hgp w1 hbp hb1; clear hgp; have hcp0 : w1.cell? ⟨gp, 0, none⟩ = some (.slice A0_0 l0_0.length c0_0) := (blk_cell hbp 0).trans rfl; have hcp1 : w1.cell? ⟨gp, 1, none⟩ = some (.slice A0_1 l0_1.length c0_1) := (blk_cell hbp 1).trans rfl)
     | (refine gL 46 (some 6) Try.func46 #[.agg #[.slice A0_0 l0_0.length c0_0, .slice A0_1 l0_1.length c0_1]] ?_; (with_reducible refine (impl_KnownOk.calls k _ _ _ _ _ _ true _ (Kd.C_below hr0_0 hb1) hc0_0 (Kd.C_below hr0_1 hb1) hc0_1 hok).mono ?_); rintro e w2 ⟨rfl, hb2⟩; refine ⟨_, rfl, ?_⟩; have hb12 := below_step hb1 hb2; have hbp2 := blk_below hbp hb2; have hdp0 : w2.cell? ⟨gp, 0, none⟩ = some (.slice A0_0 l0_0.length c0_0) := (blk_cell hbp2 0).trans rfl; have hdp1 : w2.cell? ⟨gp, 1, none⟩ = some (.slice A0_1 l0_1.length c0_1) := (blk_cell hbp2 1).trans rfl)
     | ((with_reducible refine gate_callee (f := 47) rfl ?_); (try (refine gate_guard (by rfl) ?_; dsimp only)); refine goesL_ (some 9) rfl rfl Try.func47 (by kernel_rfl) rfl #[.string a1] rfl eA ?_; (with_reducible refine (impl_TermOk.calls k a1 true _ htk).mono ?_); rintro e w3 ⟨rfl, hb3⟩; refine ⟨_, rfl, ?_⟩; have hb13 := below_step hb12 hb3; have hbp3 := blk_below hbp2 hb3; have hep0 : w3.cell? ⟨gp, 0, none⟩ = some (.slice A0_0 l0_0.length c0_0) := (blk_cell hbp3 0).trans rfl; have hep1 : w3.cell? ⟨gp, 1, none⟩ = some (.slice A0_1 l0_1.length c0_1) := (blk_cell hbp3 1).trans rfl)
     | ((with_reducible refine gate_callee (f := 48) rfl ?_); (try (refine gate_guard (by rfl) ?_; dsimp only)); refine goesL_ (some 13) rfl rfl Try.func48 (by kernel_rfl) rfl #[.agg #[.slice A0_0 l0_0.length c0_0, .slice A0_1 l0_1.length c0_1]] rfl eA ?_; (with_reducible refine (impl_sightOf.calls k _ _ _ _ _ _ _ _ (Kd.C_below hr0_0 hb13) (Kd.C_below hr0_1 hb13) hs).mono ?_); rintro e w4 ⟨g, b1, b2, v, rfl, hSg⟩; refine ⟨_, rfl, ?_⟩)
     | ((with_reducible refine gate_callee (f := 49) rfl ?_); (try (refine gate_guard (by rfl) ?_; dsimp only)); refine goesL_ (some 15) rfl rfl Try.func49 (by kernel_rfl) rfl #[.pointer (some ⟨g, 0, none⟩), .string a1] rfl eA ?_; (with_reducible refine (impl_builds.calls S R C k a1 false _ _ g b1 b2 v hSg h).mono ?_); rintro e w5 ⟨rfl, hb5⟩; refine ⟨_, rfl, ?_⟩))
    go_ret
    exact ⟨rfl, below_step (below_step hb13 hSg.2.2.2.2.2) hb5⟩

end Go.Proofs.Ythlpfghlildllaa.OFnKnown
-- wrapped
-- halved
-- squeezed
-- squeezed2
-- squeezed3
