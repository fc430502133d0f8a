/- The program's ReadTicket returns what the reference's returns, for all arguments, in new memory. -/
import Derived.Test.YtmhjpnjolgigmaaOFnExactReadTicketx14
import Derived.Test.YtmhjpnjolgigmaaBase
import Derived.Test.YtmhjpnjolgigmaaTerms
import Derived.Test.YtmhjpnjolgigmaaRests
import Derived.Test.YtmhjpnjolgigmaaRounds
import Derived.Test.YtmhjpnjolgigmaaBaseTick
namespace Go.Proofs.Ytmhjpnjolgigmaa.Pure
open Go.RowKit Go.Proofs.Ytmhjpnjolgigmaa.OFnExactReadTicket Go.Proofs.YtmhjpnjolgigmaaW.PrintWords Go.Proofs.YtmhjpnjolgigmaaW.PrintLast Go.Proofs.YtmhjpnjolgigmaaW.PrintMore Go.Proofs.Ytmhjpnjolgigmaa.Base
set_option linter.unusedVariables false
set_option linter.unusedSimpArgs false
theorem laws_eqIntS_self (l : List Int) (hl : l.length ≤ 1073741824) : Ev (fun k => laws_eqIntS.f k l l) true := by
  have loop : ∀ d i : Nat, i + d = l.length → Ev (fun k => laws_eqIntS.l0 k l l (i : Int)) true := by
    intro d
    induction d with
    | zero =>
      intro i hi
      refine Ev.step (f := fun _ => some true) (fun k => ?_) (Ev.now _)
      simp only [laws_eqIntS.l0]
      rw [if_neg (by omega)]
    | succ d ih =>
      intro i hi
      refine Ev.step (fun k => ?_) (ih (i + 1) (by omega))
      simp only [laws_eqIntS.l0]
      rw [if_pos (by omega), if_pos (by omega), if_pos (by omega), if_pos trivial, w64 (by omega) (by omega)]
      rfl
  unfold laws_eqIntS.f
  simp only [if_true]
  exact loop l.length 0 (by omega)

theorem laws_eqRest_self (a b c : Int) : laws_eqRest.f a b c a b c = some true := by simp [laws_eqRest.f]

theorem laws_eqTicket_self (c f i s o e : Int) (p v : List Int) (hp : p.length ≤ 1048576) (hv : v.length ≤ 1048576) : Ev (fun k => laws_eqTicket.f k c f i s o e p v c f i s o e p v) true := by
  unfold laws_eqTicket.f
  simp only [if_true, laws_eqRest_self, Option.bind_some]
  refine Ev.bind (laws_eqIntS_self p (by omega)) ?_
  simp only [if_true]
  refine Ev.bind (laws_eqIntS_self v (by omega)) ?_
  simp only [if_true]
  exact Ev.now _

theorem spec_l1In_eq (a lo hi : Int) : spec_l1In.f a lo hi = some (decide (lo ≤ a ∧ a ≤ hi)) := by
  unfold spec_l1In.f
  by_cases h : a ≥ lo
  · rw [if_pos h]; congr 1; simp [show lo ≤ a from h]
  · rw [if_neg h]; congr 1; simp [show ¬ lo ≤ a from h]

theorem spec_RestOk_eq (s o e : Int) : spec_RestOk.f s o e = some (restB s o e) := by
  unfold spec_RestOk.f restB
  simp only [spec_l1In_eq, Option.bind_some]
  by_cases h1 : 0 ≤ s ∧ s ≤ 7 <;> by_cases h2 : 0 ≤ o ∧ o ≤ 255 <;> simp [h1, h2]

/-- At most so many numbers, all of a kind. -/
def allP (ok : Int → Prop) (l : List Int) (most : Int) : Prop := (l.length : Int) ≤ most ∧ ∀ i, i < l.length → ok (rd l (i : Int))
noncomputable def allB (ok : Int → Prop) (l : List Int) (most : Int) : Bool := @decide (allP ok l most) (Classical.propDecidable _)
theorem allB_t {ok : Int → Prop} {l : List Int} {most : Int} (h : allP ok l most) : allB ok l most = true := @decide_eq_true _ (Classical.propDecidable _) h
theorem allB_f {ok : Int → Prop} {l : List Int} {most : Int} (h : ¬ allP ok l most) : allB ok l most = false := @decide_eq_false _ (Classical.propDecidable _) h
theorem allB_out {ok : Int → Prop} {l : List Int} {most : Int} (h : allB ok l most = true) : allP ok l most := by
  by_cases hp : allP ok l most
  · exact hp
  · rw [allB_f hp] at h; cases h
def ok3 (x : Int) : Prop := 0 ≤ x ∧ x < 3

theorem spec_l5All_ev (l : List Int) (most : Int) (hl : l.length ≤ 1048576) : Ev (fun k => spec_l5All.f k l most 3) (allB ok3 l most) := by
  unfold spec_l5All.f
  by_cases h6 : (l.length : Int) > most
  · rw [allB_f (fun hp => by have := hp.1; omega)]
    simp only [h6, if_true]
    exact Ev.now _
  · simp only [h6, if_false]
    have loop : ∀ d i : Nat, i + d = l.length → (∀ j, j < i → ok3 (rd l (j : Int))) → Ev (fun k => spec_l5All.l0 k l 3 (i : Int)) (allB ok3 l most) := by
      intro d
      induction d with
      | zero =>
        intro i hi hj
        refine Ev.step (f := fun _ => some true) (fun k => ?_) (ev_eq (Ev.now _) (allB_t ⟨by omega, fun j h => hj j (by omega)⟩).symm)
        simp only [spec_l5All.l0]
        rw [if_neg (by omega)]
      | succ d ih =>
        intro i hi hj
        have hlt : i < l.length := by omega
        have e2 : wrap64 ((i : Int) + 1) = ((i + 1 : Nat) : Int) := by rw [w64 (x := (i : Int) + 1) (by omega) (by omega)]; omega
        have c1 : (i : Int) < (l.length : Int) := by omega
        have c2 : 0 ≤ (i : Int) := by omega
        by_cases a1 : rd l (i : Int) < 0
        · refine Ev.step (f := fun _ => some false) (fun k => ?_) (ev_eq (Ev.now _) (allB_f (fun hp => by have := hp.2 i hlt; unfold ok3 at this; omega)).symm)
          simp only [spec_l5All.l0, c1, c2, if_true, a1]
        · by_cases a2 : rd l (i : Int) ≥ 3
          · refine Ev.step (f := fun _ => some false) (fun k => ?_) (ev_eq (Ev.now _) (allB_f (fun hp => by have := hp.2 i hlt; unfold ok3 at this; omega)).symm)
            simp only [spec_l5All.l0, c1, c2, if_true, a1, if_false, a2]
          · refine Ev.step (fun k => ?_) (ih (i + 1) (by omega) (fun j h => ?_))
            · simp only [spec_l5All.l0, c1, c2, if_true, a1, if_false, a2, e2]
            · by_cases hji : j = i
              · subst hji; unfold ok3; omega
              · exact hj j (by omega)
    exact loop l.length 0 (by omega) (fun j h => by omega)

theorem spec_l5Principal_eq (a : Int) : spec_l5Principal.f a = some (decide (0 ≤ a ∧ a < 6)) := by
  unfold spec_l5Principal.f
  by_cases h : a ≥ 0
  · rw [if_pos h]; congr 1; simp [show 0 ≤ a from h]
  · rw [if_neg h]; congr 1; simp [show ¬ 0 ≤ a from h]

def forB (a : Int) : Bool := decide ((0 ≤ a ∧ a ≤ 2) ∨ (10 ≤ a ∧ a ≤ 12))
theorem wrap_for {a : Int} (h0 : -9223372036854775808 ≤ a) (h1 : a ≤ 9223372036854775807) : (0 ≤ wrap64 (a - 10) ∧ wrap64 (a - 10) < 3) ↔ (10 ≤ a ∧ a ≤ 12) := by
  by_cases h : -9223372036854775798 ≤ a
  · rw [w64 (x := a - 10) (by omega) (by omega)]; omega
  · have : wrap64 (a - 10) = a - 10 + 18446744073709551616 := by unfold wrap64; omega
    rw [this]; omega

theorem spec_l5Service_eq (a : Int) : spec_l5Service.f a = some (forB a) := by
  unfold spec_l5Service.f forB
  simp only [spec_l1In_eq, Option.bind_some]
  by_cases h1 : 0 ≤ a ∧ a ≤ 2 <;> simp [h1]

noncomputable def ticketB (c f i s o e : Int) (p v : List Int) : Bool := decide (0 ≤ c ∧ c < 6) && (forB f && (decide (1 ≤ i ∧ i ≤ 1000000) && (restB s o e && (allB ok3 p 6 && allB ok3 v 4))))
noncomputable def stS (c f i s o e : Int) (p v : List Int) (key : Int) : ByteArray := if ticketB c f i s o e p v = true then sealS key (listS [numsS [c, f], keyS i, srS s o e, numsS p, numsS v]) else ⟨#[]⟩
theorem ticketB_out {c f i s o e : Int} {p v : List Int} (h : ticketB c f i s o e p v = true) : (0 ≤ c ∧ c < 6) ∧ forB f = true ∧ (1 ≤ i ∧ i ≤ 1000000) ∧ restB s o e = true ∧ allP ok3 p 6 ∧ allP ok3 v 4 := by
  unfold ticketB at h
  simp only [Bool.and_eq_true, decide_eq_true_eq] at h
  exact ⟨h.1, h.2.1, h.2.2.1, h.2.2.2.1, allB_out h.2.2.2.2.1, allB_out h.2.2.2.2.2⟩
theorem stS_size (c f i s o e : Int) (p v : List Int) (k : Int) : (stS c f i s o e p v k).size ≤ 900 := by
  unfold stS; split
  · exact sealS_size _ _
  · decide

theorem spec_l5TicketOk_ev (c f i s o e : Int) (p v : List Int) (hp : p.length ≤ 1048576) (hv : v.length ≤ 1048576) : Ev (fun k => spec_l5TicketOk.f k c f i s o e p v) (ticketB c f i s o e p v) := by
  unfold spec_l5TicketOk.f ticketB
  simp only [spec_l5Principal_eq, spec_l5Service_eq, spec_l1In_eq, spec_RestOk_eq, Option.bind_some]
  by_cases g1 : 0 ≤ c ∧ c < 6
  · rw [decide_eq_true g1]
    simp only [if_true, Bool.true_and]
    cases forB f with
    | false => simp only [Bool.false_and, Bool.false_eq_true, if_false]; exact Ev.now _
    | true =>
      simp only [if_true, Bool.true_and]
      by_cases g2 : 1 ≤ i ∧ i ≤ 1000000
      · rw [decide_eq_true g2]
        simp only [if_true, Bool.true_and]
        cases restB s o e with
        | false => simp only [Bool.false_and, Bool.false_eq_true, if_false]; exact Ev.now _
        | true =>
          simp only [if_true, Bool.true_and]
          refine Ev.bind (spec_l5All_ev p 6 hp) ?_
          cases allB ok3 p 6 with
          | false => simp only [Bool.false_and, Bool.false_eq_true, if_false]; exact Ev.now _
          | true =>
            simp only [if_true, Bool.true_and]
            exact Ev.bind (spec_l5All_ev v 4 hv) (Ev.now _)
      · rw [decide_eq_false g2]
        simp only [Bool.false_and, Bool.false_eq_true, if_false]; exact Ev.now _
  · rw [decide_eq_false g1]
    simp only [Bool.false_and, Bool.false_eq_true, if_false]; exact Ev.now _

theorem spec_Var_loop (j : Nat) : ∀ (n : Nat) (acc : List Int), n < 128 ^ (j + 1) → n ≤ MAXV → acc.length + j < 1000 →
    Ev (fun k => spec_Var.l0 k (n : Int) acc) (strOfNums (acc ++ (var n).map fun (m : Nat) => (m : Int))) := by
  have e128 : ((128 : Nat) : Int) = 128 := rfl
  induction j with
  | zero =>
    intro n acc hn hm ha
    have hn' : n < 128 := by simpa using hn
    refine Ev.step (f := fun _ => some (strOfNums (acc ++ (var n).map fun (m : Nat) => (m : Int)))) (fun k => ?_) (Ev.now _)
    simp only [spec_Var.l0]
    rw [if_neg (by omega), if_pos (by omega), var_small hn', show (n : Int) % 256 = (n : Int) by omega]; rfl
  | succ j ih =>
    intro n acc hn hm ha
    unfold MAXV at hm
    by_cases h : n < 128
    · refine Ev.step (f := fun _ => some (strOfNums (acc ++ (var n).map fun (m : Nat) => (m : Int)))) (fun k => ?_) (Ev.now _)
      simp only [spec_Var.l0]
      rw [if_neg (by omega), if_pos (by omega), var_small h, show (n : Int) % 256 = (n : Int) by omega]; rfl
    · have hd : n / 128 < 128 ^ (j + 1) := Nat.div_lt_of_lt_mul (by rw [Nat.pow_succ] at hn; omega)
      have hr := ih (n / 128) (acc ++ [((n % 128 + 128 : Nat) : Int)]) hd (by unfold MAXV; omega) (by simp; omega)
      refine Ev.step (f := fun k => spec_Var.l0 k ((n / 128 : Nat) : Int) (acc ++ [((n % 128 + 128 : Nat) : Int)])) (fun k => ?_) (ev_eq hr ?_)
      · simp only [spec_Var.l0]
        rw [if_pos (by omega), if_pos (by omega), ← e128, tdivN, tmodN, w64 (by omega) (by omega), w64 (by omega) (by omega)]
        have e : (((128 : Nat) : Int) + ((n % 128 : Nat) : Int)) % 256 = ((n % 128 + 128 : Nat) : Int) := by omega
        rw [e]
      · rw [var_big h, List.map_cons, List.append_assoc]; rfl
theorem spec_Var_ev (n : Int) : Ev (fun k => spec_Var.f k n) (varS n) := by
  unfold spec_Var.f
  simp only [spec_l1In_eq, Option.bind_some]
  by_cases h : 0 ≤ n ∧ n ≤ 562949953421311
  · simp only [h, decide_true, if_true]
    obtain ⟨m, rfl⟩ := Int.eq_ofNat_of_zero_le h.1
    have hm : m ≤ MAXV := by unfold MAXV; omega
    refine ev_eq (spec_Var_loop 6 m [] (by unfold MAXV at hm; omega) hm (by simp)) ?_
    rw [varS_in hm]; rfl
  · simp only [h, decide_false]
    rw [varS_out h]
    exact Ev.now _

theorem spec_ReadVar_inner (s : ByteArray) (hs : s.size ≤ 140737488355327) (kk : Nat) (h1 : 1 ≤ kk) (h7 : kk ≤ 7) (hkl : kk ≤ (bl s).length) {q : Int × Int} (hq : Ev (fun k => (spec_Var.f k ((val ((bl s).take kk) : Nat) : Int)).bind fun t111 => (if 0 ≤ (kk : Int) then (if (kk : Int) ≤ (s.size : Int) then (if t111.toList = (s.extract 0 (kk : Int).toNat).toList then (some (((val ((bl s).take kk) : Nat) : Int), (kk : Int))) else (spec_ReadVar.l0 k s (wrap64 ((kk : Int) + 1)))) else (none)) else (none))) q) (d : Nat) : ∀ (x : Int), d ≤ kk → x = (d : Int) - 1 →
    Ev (fun k => spec_ReadVar.l1 k s (kk : Int) ((val (((bl s).take kk).drop d) : Nat) : Int) x) q := by
  have hl := bl_len s
  induction d with
  | zero =>
    intro x hd hx
    subst hx
    rw [List.drop_zero]
    refine Ev.step (fun k => ?_) hq
    simp only [spec_ReadVar.l1]
    rw [if_neg (by omega)]
  | succ d ih =>
    intro x hd hx
    have hd' : d < (bl s).length := by omega
    have hb : bt s (d : Int) = (((bl s)[d] : Nat) : Int) := bt_get s d hd'
    have hb256 : (bl s)[d] < 256 := bl_lt s _ (List.getElem_mem hd')
    have hx' : x = (d : Int) := by omega
    subst hx'
    have hlen : ((bl s).take kk).length = kk := by rw [List.length_take]; omega
    have hdrop : ((bl s).take kk).drop d = (bl s)[d] :: ((bl s).take kk).drop (d + 1) := by
      rw [List.drop_eq_getElem_cons (by omega), List.getElem_take]
    have hval : val (((bl s).take kk).drop d) = (bl s)[d] % 128 + 128 * val (((bl s).take kk).drop (d + 1)) := by rw [hdrop]; rfl
    have hlt := val_lt (((bl s).take kk).drop (d + 1))
    rw [List.length_drop, hlen] at hlt
    have hp := pow_le7 (kk - (d + 1)) (by omega)
    have e128 : ((128 : Nat) : Int) = 128 := rfl
    refine Ev.step (fun k => ?_) (ih ((d : Int) - 1) (by omega) rfl)
    simp only [spec_ReadVar.l1]
    rw [if_pos (by omega), if_pos (by omega), if_pos (by omega), hb, w64 (x := (((bl s)[d] : Nat) : Int)) (by omega) (by omega), ← e128, tmodN, w64 (x := _ * ((128 : Nat) : Int)) (by omega) (by omega), w64 (x := _ + _) (by omega) (by omega), w64 (x := _ - 1) (by omega) (by omega)]
    rw [hval]
    congr 1
    omega
theorem spec_ReadVar_loop (s : ByteArray) (hs : s.size ≤ 140737488355327) (d : Nat) : ∀ (kk : Nat), kk + d = 8 → 1 ≤ kk → (∀ n j, j < kk → ¬ R (bl s) n j) →
    Ev (fun k => spec_ReadVar.l0 k s (kk : Int)) (rvI (bl s)) := by
  have hl := bl_len s
  induction d with
  | zero =>
    intro kk hk h1 hno
    have e : rvI (bl s) = (0, 0) := rvI_none (fun n k hR => hno n k (by have := R_seven hR; omega) hR)
    rw [e]
    refine Ev.step (f := fun k => spec_ReadVar.j1 k s (kk : Int) false) (fun k => ?_) (Ev.step (f := fun _ => some (0, 0)) (fun k => ?_) (Ev.now _))
    · simp only [spec_ReadVar.l0]; rw [if_neg (by omega)]
    · simp [spec_ReadVar.j1]
  | succ d ih =>
    intro kk hk h1 hno
    by_cases h : kk ≤ (bl s).length
    · have hmax : val ((bl s).take kk) ≤ MAXV := by
        have := val_lt ((bl s).take kk)
        rw [List.length_take, Nat.min_eq_left h] at this
        have hp : 128 ^ kk ≤ 128 ^ 7 := Nat.pow_le_pow_right (by decide) (by omega)
        have : (128 : Nat) ^ 7 = 562949953421312 := by decide
        unfold MAXV; omega
      have hin : Ev (fun k => (spec_Var.f k ((val ((bl s).take kk) : Nat) : Int)).bind fun t111 => (if 0 ≤ (kk : Int) then (if (kk : Int) ≤ (s.size : Int) then (if t111.toList = (s.extract 0 (kk : Int).toNat).toList then (some (((val ((bl s).take kk) : Nat) : Int), (kk : Int))) else (spec_ReadVar.l0 k s (wrap64 ((kk : Int) + 1)))) else (none)) else (none))) (rvI (bl s)) := by
        refine Ev.bind (spec_Var_ev _) ?_
        simp only [show (0 : Int) ≤ (kk : Int) by omega, show (kk : Int) ≤ (s.size : Int) by omega, if_true, toList_iff, Int.toNat_natCast]
        by_cases hR : R (bl s) (val ((bl s).take kk)) kk
        · have := (R_iff s _ kk hmax (by omega)).2 hR
          simp only [this, if_true]
          rw [rvI_some hR]
          exact Ev.now _
        · have hne : ¬ varS ((val ((bl s).take kk) : Nat) : Int) = s.extract 0 kk := fun e => hR ((R_iff s _ kk hmax (by omega)).1 e)
          simp only [hne, if_false]
          have hw : Aside0 (wrap64 ((kk : Int) + 1) = ((kk + 1 : Nat) : Int)) := ⟨by rw [w64 (by omega) (by omega)]; omega⟩
          rw [hw.out]
          refine ih (kk + 1) (by omega) (by omega) (fun n j hj hRj => ?_)
          by_cases hjk : j < kk
          · exact hno n j hjk hRj
          · have : j = kk := by omega
            subst this
            rw [← R_val hRj] at hRj
            exact hR hRj
      have hout := spec_ReadVar_inner s hs kk h1 (by omega) h hin kk ((kk : Int) - 1) (Nat.le_refl _) rfl
      rw [List.drop_of_length_le (by rw [List.length_take]; omega)] at hout
      refine Ev.step (f := fun k => spec_ReadVar.j1 k s (kk : Int) true) (fun k => ?_) (Ev.step (fun k => ?_) hout)
      · simp only [spec_ReadVar.l0]; rw [if_pos (by omega), decide_eq_true (by omega)]
      · simp only [spec_ReadVar.j1, if_true]; rw [w64 (by omega) (by omega)]; rfl
    · have e : rvI (bl s) = (0, 0) := rvI_none (fun n k hR => hno n k (by have := R_le hR; omega) hR)
      rw [e]
      refine Ev.step (f := fun k => spec_ReadVar.j1 k s (kk : Int) false) (fun k => ?_) (Ev.step (f := fun _ => some (0, 0)) (fun k => ?_) (Ev.now _))
      · simp only [spec_ReadVar.l0]
        by_cases h7 : (kk : Int) ≤ 7
        · rw [if_pos h7, decide_eq_false (by omega)]
        · rw [if_neg h7]
      · simp [spec_ReadVar.j1]
theorem spec_ReadVar_ev (s : ByteArray) (hs : s.size ≤ 140737488355327) : Ev (fun k => spec_ReadVar.f k s) (rvI (bl s)) := by
  unfold spec_ReadVar.f
  exact spec_ReadVar_loop s hs 7 1 (by omega) (by omega) (fun n j hj hR => by have := R_pos hR; omega)

theorem spec_l2Term_list (s : ByteArray) (hs : s.size ≤ 140737488355327) (d : Nat) (hd : d ≤ 100) (n : Nat) (hn : n ≤ 12) (a0 : Nat) (ha0 : a0 ≤ s.size)
    (hf : ∀ a, a ≤ s.size → ∃ dp : Int, Ev (fun k => spec_l2Term.f k s (a : Int) (d : Int)) (pI (parse d ((bl s).drop a)), dp) ∧ 0 ≤ dp ∧ dp ≤ d) (r : Nat) : ∀ (i a : Nat) (deep : Int), i + r = n → a ≤ s.size → a0 ≤ a → 0 ≤ deep → deep ≤ d →
    ∃ dp : Int, Ev (fun k => spec_l2Term.l0 k s (a0 : Int) ((d + 1 : Nat) : Int) (n : Int) (a : Int) deep (i : Int)) (eI a0 a (many (parse d) r ((bl s).drop a)), dp) ∧ 0 ≤ dp ∧ dp ≤ d + 1 := by
  have hw : Aside0 (wrap64 (((d + 1 : Nat) : Int) - 1) = (d : Int)) := ⟨by rw [w64 (by omega) (by omega)]; omega⟩
  induction r with
  | zero =>
    intro i a deep hi ha haa h0 h1
    refine ⟨1 + deep, Ev.step (f := fun _ => some (((a - a0 : Nat) : Int), 1 + deep)) (fun k => ?_) (ev_eq (Ev.now _) ?_), by omega, by omega⟩
    · simp only [spec_l2Term.l0]
      rw [if_neg (by omega), w64 (x := _ - _) (by omega) (by omega), w64 (x := 1 + _) (by omega) (by omega)]
      congr 2; omega
    · rfl
  | succ r ih =>
    intro i a deep hi ha haa h0 h1
    have hi1 : Aside0 (wrap64 ((i : Int) + 1) = ((i + 1 : Nat) : Int)) := ⟨by rw [w64 (by omega) (by omega)]; omega⟩
    obtain ⟨dp, hdp, hd0, hd1⟩ := hf a ha
    have hstep : ∀ k, spec_l2Term.l0 (k + 1) s (a0 : Int) ((d + 1 : Nat) : Int) (n : Int) (a : Int) deep (i : Int) = (spec_l2Term.f k s (a : Int) (d : Int)).bind fun bt118 => (if bt118.1 = 0 then (some (0, 0)) else (if bt118.2 > deep then (spec_l2Term.l0 k s (a0 : Int) ((d + 1 : Nat) : Int) (n : Int) (wrap64 ((a : Int) + bt118.1)) bt118.2 ((i + 1 : Nat) : Int)) else (spec_l2Term.l0 k s (a0 : Int) ((d + 1 : Nat) : Int) (n : Int) (wrap64 ((a : Int) + bt118.1)) deep ((i + 1 : Nat) : Int)))) := by
      intro k
      simp only [spec_l2Term.l0]; rw [if_pos (by omega), hw.out, hi1.out]
    rw [many_succ]
    cases hp : parse d ((bl s).drop a) with
    | none =>
      rw [hp] at hdp
      refine ⟨0, Ev.step hstep (Ev.bind hdp ?_), by omega, by omega⟩
      simp only [pI, if_true]
      exact Ev.now _
    | some m =>
      rw [hp] at hdp
      have hle := parse_le d _ _ hp
      rw [List.length_drop, bl_len] at hle
      have hm : ¬ ((m : Int) = 0) := by omega
      have hw2 : Aside0 (wrap64 ((a : Int) + (m : Int)) = ((a + m : Nat) : Int)) := ⟨by rw [w64 (by omega) (by omega)]; omega⟩
      have tail : ∀ deep', 0 ≤ deep' → deep' ≤ (d : Int) → ∃ dp : Int, Ev (fun k => spec_l2Term.l0 k s (a0 : Int) ((d + 1 : Nat) : Int) (n : Int) ((a + m : Nat) : Int) deep' ((i + 1 : Nat) : Int)) (eI a0 a (addO m (many (parse d) r (((bl s).drop a).drop m))), dp) ∧ 0 ≤ dp ∧ dp ≤ d + 1 := by
        intro deep' h0' h1'
        obtain ⟨dp', he, h⟩ := ih (i + 1) (a + m) deep' (by omega) (by omega) (by omega) h0' h1'
        rw [← List.drop_drop, eI_add] at he
        exact ⟨dp', he, h⟩
      by_cases hc : dp > deep
      · obtain ⟨dp', he, h⟩ := tail dp hd0 hd1
        refine ⟨dp', Ev.step hstep (Ev.bind hdp ?_), h⟩
        simp only [pI, hm, if_false, hc, if_true, hw2.out]
        exact he
      · obtain ⟨dp', he, h⟩ := tail deep h0 h1
        refine ⟨dp', Ev.step hstep (Ev.bind hdp ?_), h⟩
        simp only [pI, hm, if_false, hc, hw2.out]
        exact he
theorem spec_l2Term_ev (s : ByteArray) (hs : s.size ≤ 140737488355327) (d : Nat) : ∀ (a : Nat), d ≤ 100 → a ≤ s.size → ∃ dp : Int, Ev (fun k => spec_l2Term.f k s (a : Int) (d : Int)) (pI (parse d ((bl s).drop a)), dp) ∧ 0 ≤ dp ∧ dp ≤ d := by
  have hl := bl_len s
  have dead : ∀ (a d : Int), Ev (fun k => spec_l2Term.j0 k s a d true) (0, 0) := by
    intro a d
    refine Ev.step (f := fun _ => some (0, 0)) (fun k => ?_) (Ev.now _)
    simp [spec_l2Term.j0]
  induction d with
  | zero =>
    intro a hd ha
    by_cases h : (a : Int) ≥ (s.size : Int)
    · refine ⟨0, Ev.step (fun k => ?_) (ev_eq (dead (a : Int) ((0 : Nat) : Int)) (by simp [parse, pI])), by omega, by omega⟩
      simp only [spec_l2Term.f]; rw [if_pos h]
    · refine ⟨0, Ev.step (fun k => ?_) (ev_eq (dead (a : Int) ((0 : Nat) : Int)) (by simp [parse, pI])), by omega, by omega⟩
      simp only [spec_l2Term.f]; rw [if_neg h, decide_eq_true (by decide)]
  | succ d ih =>
    intro a hd ha
    by_cases h : (a : Int) ≥ (s.size : Int)
    · refine ⟨0, Ev.step (fun k => ?_) (ev_eq (dead (a : Int) ((d + 1 : Nat) : Int)) ?_), by omega, by omega⟩
      · simp only [spec_l2Term.f]; rw [if_pos h]
      · rw [List.drop_of_length_le (by omega), parse_nil]; rfl
    · have hlt : a < (bl s).length := by omega
      have hs1 : 0 ≤ (a : Int) := by omega
      have hs2 : (a : Int) < (s.size : Int) := by omega
      have ha1 : Aside0 (wrap64 ((a : Int) + 1) = ((a + 1 : Nat) : Int)) := ⟨by rw [w64 (by omega) (by omega)]; omega⟩
      have ha0 : 0 ≤ ((a + 1 : Nat) : Int) := by omega
      have ha2 : ((a + 1 : Nat) : Int) ≤ (s.size : Int) := by omega
      have hd1 : Aside0 (wrap64 (((d + 1 : Nat) : Int) - 1) = (d : Int)) := ⟨by rw [w64 (by omega) (by omega)]; omega⟩
      have hsz : (s.extract (a + 1) s.size).size ≤ 140737488355327 := by rw [ByteArray.size_extract]; omega
      have hv := spec_ReadVar_ev (s.extract (a + 1) s.size) hsz
      rw [bl_from] at hv
      have hcons : (bl s).drop a = (bl s)[a] :: (bl s).drop (a + 1) := List.drop_eq_getElem_cons hlt
      have hstep : ∀ k, spec_l2Term.f (k + 1) s (a : Int) ((d + 1 : Nat) : Int) = spec_l2Term.j0 k s (a : Int) ((d + 1 : Nat) : Int) false := by
        intro k; simp only [spec_l2Term.f]; rw [if_neg h, decide_eq_false (by omega)]
      suffices hh : ∃ dp : Int, Ev (fun k => spec_l2Term.j0 k s (a : Int) ((d + 1 : Nat) : Int) false) (pI (parse (d + 1) ((bl s).drop a)), dp) ∧ 0 ≤ dp ∧ dp ≤ ((d + 1 : Nat) : Int) by
        obtain ⟨dp, he, h⟩ := hh
        exact ⟨dp, Ev.step hstep he, h⟩
      have hbind : ∀ (q : Int × Int) (F : Nat → Int × Int → Option (Int × Int)), (∀ k, spec_l2Term.j0 (k + 1) s (a : Int) ((d + 1 : Nat) : Int) false = (spec_ReadVar.f k (s.extract (a + 1) s.size)).bind (F k)) → Ev (fun k => F k (rvI ((bl s).drop (a + 1)))) q → Ev (fun k => spec_l2Term.j0 k s (a : Int) ((d + 1 : Nat) : Int) false) q :=
        fun q F h1 h2 => Ev.step h1 (Ev.bind hv h2)
      rw [hcons]
      have hbt := bt_get s a hlt
      generalize hcc : (bl s)[a] = c at hbt
      rw [parse]
      cases hr : rv ((bl s).drop (a + 1)) with
      | none =>
        refine ⟨0, hbind _ _ (fun k => by simp only [spec_l2Term.j0]; rw [if_neg (by decide), ha1.out, if_pos ha0, if_pos ha2]; rfl) ?_, by omega, by omega⟩
        unfold rvI; rw [hr]
        simp only [if_true]
        exact Ev.now _
      | some p =>
        obtain ⟨n, k'⟩ := p
        have hR := rv_R hr
        have hk := R_le hR
        have hk0 := R_pos hR
        have hn9 := hR.1
        unfold MAXV at hn9
        simp only at hk hn9 hk0
        rw [List.length_drop, hl] at hk
        have hk0' : ¬ ((k' : Int) = 0) := by omega
        simp only []
        have hwk : Aside0 (wrap64 (((a + 1 : Nat) : Int) + (k' : Int)) = ((a + 1 + k' : Nat) : Int)) := ⟨by rw [w64 (by omega) (by omega)]; omega⟩
        by_cases c1 : c = 97
        · subst c1
          rw [if_pos rfl, List.length_drop, hl]
          by_cases c2 : n ≤ 40
          · by_cases c3 : n ≤ s.size - (a + 1) - k'
            · rw [if_pos ⟨c2, c3⟩]
              refine ⟨1, hbind _ _ (fun k => by simp only [spec_l2Term.j0]; rw [if_neg (by decide), ha1.out, if_pos ha0, if_pos ha2]; rfl) ?_, by omega, by omega⟩
              unfold rvI; rw [hr]
              simp only [hk0', hs1, hs2, hbt, if_true, if_false, hwk.out]
              have c2' : ¬ ((n : Int) > 40) := by omega
              have c3' : ¬ ((n : Int) > wrap64 ((s.size : Int) - ((a + 1 + k' : Nat) : Int))) := by rw [w64 (by omega) (by omega)]; omega
              have e : Aside0 (wrap64 (wrap64 (1 + (k' : Int)) + (n : Int)) = ((1 + k' + n : Nat) : Int)) := ⟨by rw [w64 (x := 1 + (k' : Int)) (by omega) (by omega), w64 (by omega) (by omega)]; omega⟩
              simp only [c2', c3', if_false, e.out, show (((97 : Nat) : Int) = 97) from rfl, if_true]
              exact Ev.now _
            · rw [if_neg (fun e => c3 e.2)]
              refine ⟨0, hbind _ _ (fun k => by simp only [spec_l2Term.j0]; rw [if_neg (by decide), ha1.out, if_pos ha0, if_pos ha2]; rfl) ?_, by omega, by omega⟩
              unfold rvI; rw [hr]
              simp only [hk0', hs1, hs2, hbt, if_true, if_false, hwk.out]
              have c2' : ¬ ((n : Int) > 40) := by omega
              have c3' : ((n : Int) > wrap64 ((s.size : Int) - ((a + 1 + k' : Nat) : Int))) := by rw [w64 (by omega) (by omega)]; omega
              simp only [c2', c3', if_false, show (((97 : Nat) : Int) = 97) from rfl, if_true]
              exact Ev.now _
          · rw [if_neg (fun e => c2 e.1)]
            refine ⟨0, hbind _ _ (fun k => by simp only [spec_l2Term.j0]; rw [if_neg (by decide), ha1.out, if_pos ha0, if_pos ha2]; rfl) ?_, by omega, by omega⟩
            unfold rvI; rw [hr]
            simp only [hk0', hs1, hs2, hbt, if_true, if_false]
            have c2' : ((n : Int) > 40) := by omega
            simp only [c2', show (((97 : Nat) : Int) = 97) from rfl, if_true]
            exact Ev.now _
        · have c1' : ¬ ((c : Int) = 97) := by omega
          rw [if_neg c1]
          by_cases c4 : c = 107
          · subst c4
            rw [if_pos rfl]
            by_cases c5 : 1 ≤ n ∧ n ≤ 1000000
            · have c5' : 1 ≤ (n : Int) ∧ (n : Int) ≤ 1000000 := by omega
              refine ⟨1, hbind _ _ (fun k => by simp only [spec_l2Term.j0]; rw [if_neg (by decide), ha1.out, if_pos ha0, if_pos ha2]; rfl) ?_, by omega, by omega⟩
              unfold rvI; rw [hr, if_pos c5]
              have e : Aside0 (wrap64 (1 + (k' : Int)) = ((1 + k' : Nat) : Int)) := ⟨by rw [w64 (by omega) (by omega)]; omega⟩
              simp only [hk0', hs1, hs2, hbt, if_true, if_false, c1', show (((107 : Nat) : Int) = 107) from rfl, spec_l1In_eq, Option.bind_some, c5', decide_true, e.out, and_self]
              exact Ev.now _
            · have c5' : ¬ (1 ≤ (n : Int) ∧ (n : Int) ≤ 1000000) := by omega
              refine ⟨0, hbind _ _ (fun k => by simp only [spec_l2Term.j0]; rw [if_neg (by decide), ha1.out, if_pos ha0, if_pos ha2]; rfl) ?_, by omega, by omega⟩
              unfold rvI; rw [hr, if_neg c5]
              simp only [hk0', hs1, hs2, hbt, if_true, if_false, c1', show (((107 : Nat) : Int) = 107) from rfl, spec_l1In_eq, Option.bind_some, c5', decide_false]
              exact Ev.now _
          · have c4' : ¬ ((c : Int) = 107) := by omega
            rw [if_neg c4]
            by_cases c6 : c = 108
            · subst c6
              rw [if_pos rfl]
              by_cases c7 : n ≤ 12
              · have c7' : ¬ ((n : Int) > 12) := by omega
                obtain ⟨dp, hL, h0, h1⟩ := spec_l2Term_list s hs d (by omega) n c7 a ha (fun a ha => ih a (by omega) ha) n 0 (a + 1 + k') 0 (by omega) (by omega) (by omega) (by omega) (by omega)
                rw [← List.drop_drop] at hL
                refine ⟨dp, hbind _ _ (fun k => by simp only [spec_l2Term.j0]; rw [if_neg (by decide), ha1.out, if_pos ha0, if_pos ha2]; rfl) ?_, h0, by omega⟩
                unfold rvI; rw [hr, if_pos c7]
                simp only [hk0', hs1, hs2, hbt, if_true, if_false, c1', c4', c7', show (((108 : Nat) : Int) = 108) from rfl, show ¬ (((108 : Nat) : Int) = 115) by omega, hwk.out]
                refine ev_eq hL ?_
                cases hq : many (parse d) n (((bl s).drop (a + 1)).drop k') with
                | none => rfl
                | some q =>
                  simp only [eI, pI]
                  rw [show a + 1 + k' + q - a = 1 + k' + q by omega]
              · have c7' : ((n : Int) > 12) := by omega
                refine ⟨0, hbind _ _ (fun k => by simp only [spec_l2Term.j0]; rw [if_neg (by decide), ha1.out, if_pos ha0, if_pos ha2]; rfl) ?_, by omega, by omega⟩
                unfold rvI; rw [hr, if_neg c7]
                simp only [hk0', hs1, hs2, hbt, if_true, if_false, c1', c4', c7', show (((108 : Nat) : Int) = 108) from rfl, show ¬ (((108 : Nat) : Int) = 115) by omega]
                exact Ev.now _
            · have c6' : ¬ ((c : Int) = 108) := by omega
              rw [if_neg c6]
              by_cases c8 : c = 115
              · subst c8
                rw [if_pos rfl]
                obtain ⟨dp, hL, h0, h1⟩ := ih (a + 1 + k') (by omega) (by omega)
                rw [← List.drop_drop] at hL
                have hk1 : ∀ F : Nat → Int × Int → Option (Int × Int), True := fun _ => trivial
                cases hq : parse d (((bl s).drop (a + 1)).drop k') with
                | none =>
                  rw [hq] at hL
                  refine ⟨0, hbind _ _ (fun k => by simp only [spec_l2Term.j0]; rw [if_neg (by decide), ha1.out, if_pos ha0, if_pos ha2]; rfl) ?_, by omega, by omega⟩
                  unfold rvI; rw [hr]
                  simp only [hk0', hs1, hs2, hbt, if_true, if_false, c1', c4', show (((115 : Nat) : Int) = 115) from rfl, hwk.out, hd1.out]
                  refine Ev.bind hL ?_
                  simp only [pI, if_true]
                  refine ev_eq (Ev.now _) ?_
                  simp [pI]
                | some q =>
                  rw [hq] at hL
                  have hle := parse_le d _ _ hq
                  rw [List.length_drop, List.length_drop, hl] at hle
                  have hq0 : ¬ ((q : Int) = 0) := by omega
                  by_cases c5 : 1 ≤ n ∧ n ≤ 1000000
                  · have c5' : 1 ≤ (n : Int) ∧ (n : Int) ≤ 1000000 := by omega
                    refine ⟨1 + dp, hbind _ _ (fun k => by simp only [spec_l2Term.j0]; rw [if_neg (by decide), ha1.out, if_pos ha0, if_pos ha2]; rfl) ?_, by omega, by omega⟩
                    unfold rvI; rw [hr, if_pos c5]
                    simp only [hk0', hs1, hs2, hbt, if_true, if_false, c1', c4', show (((115 : Nat) : Int) = 115) from rfl, hwk.out, hd1.out]
                    refine Ev.bind hL ?_
                    have e : Aside0 (wrap64 (wrap64 (1 + (k' : Int)) + (q : Int)) = ((1 + k' + q : Nat) : Int)) := ⟨by rw [w64 (x := 1 + (k' : Int)) (by omega) (by omega), w64 (by omega) (by omega)]; omega⟩
                    have e2 : wrap64 (1 + dp) = 1 + dp := w64 (by omega) (by omega)
                    simp only [pI, hq0, if_false, spec_l1In_eq, Option.bind_some, c5', decide_true, and_self, if_true, e.out, e2]
                    exact Ev.now _
                  · have c5' : ¬ (1 ≤ (n : Int) ∧ (n : Int) ≤ 1000000) := by omega
                    refine ⟨0, hbind _ _ (fun k => by simp only [spec_l2Term.j0]; rw [if_neg (by decide), ha1.out, if_pos ha0, if_pos ha2]; rfl) ?_, by omega, by omega⟩
                    unfold rvI; rw [hr, if_neg c5]
                    simp only [hk0', hs1, hs2, hbt, if_true, if_false, c1', c4', show (((115 : Nat) : Int) = 115) from rfl, hwk.out, hd1.out]
                    refine Ev.bind hL ?_
                    simp only [pI, hq0, if_false, spec_l1In_eq, Option.bind_some, c5', decide_false]
                    exact Ev.now _
              · have c8' : ¬ ((c : Int) = 115) := by omega
                rw [if_neg c8]
                refine ⟨0, hbind _ _ (fun k => by simp only [spec_l2Term.j0]; rw [if_neg (by decide), ha1.out, if_pos ha0, if_pos ha2]; rfl) ?_, by omega, by omega⟩
                unfold rvI; rw [hr]
                simp only [hk0', hs1, hs2, hbt, if_true, if_false, c1', c4', c6', c8']
                exact Ev.now _

theorem spec_TermOk_ev (s : ByteArray) (hs : s.size ≤ 140737488355327) : Ev (fun k => spec_TermOk.f k s) (termB (bl s)) := by
  have hl := bl_len s
  unfold spec_TermOk.f
  obtain ⟨dp, ht, _, _⟩ := spec_l2Term_ev s hs 8 0 (by decide) (by omega)
  refine Ev.bind ht ?_
  rw [List.drop_zero]
  unfold termB
  rw [hl]
  cases hp : parse 8 (bl s) with
  | none =>
    refine ev_eq (Ev.now _) ?_
    simp
  | some m =>
    have hle := parse_le 8 _ _ hp
    rw [hl] at hle
    have h1 : ((m : Int) > 0) := by omega
    simp only [pI, h1, if_true]
    by_cases hm : m = s.size
    · subst hm
      simp only [if_true]
      refine ev_eq (Ev.now _) ?_
      exact decide_eq_decide.mpr ⟨fun h => ⟨by omega, by omega, trivial⟩, fun h => by omega⟩
    · have hm' : ¬ ((m : Int) = (s.size : Int)) := by omega
      simp only [hm', if_false]
      refine ev_eq (Ev.now _) ?_
      rw [decide_eq_false]
      intro h
      exact hm (Option.some.inj h.2.2)

theorem isK_bt {s : ByteArray} (ho : okS s = true) (c : Nat) : isK s c = true ↔ bt s 0 = (c : Int) := by
  have hz := okS_size ho
  have hl : 0 < (bl s).length := by rw [bl_len]; omega
  have hb : bt s 0 = (((bl s)[0] : Nat) : Int) := bt_get s 0 hl
  have hh : (bl s).headD 0 = (bl s)[0] := headD_get _ hl
  unfold isK
  rw [ho, Bool.true_and, hh, hb, decide_eq_true_iff]
  omega

theorem spec_Open_ev (s : ByteArray) (hs : s.size ≤ 140737488355327) (n : Int) : Ev (fun k => spec_Open.f k s n) (opS s n) := by
  have dead : Ev (fun k => spec_Open.j0 k s n true) ((⟨#[]⟩ : ByteArray), false) := by
    refine Ev.step (f := fun _ => some ((⟨#[]⟩ : ByteArray), false)) (fun k => ?_) (Ev.now _)
    simp [spec_Open.j0]
  unfold spec_Open.f
  refine Ev.bind (spec_TermOk_ev s hs) ?_
  have ho' : termB (bl s) = okS s := rfl
  rw [ho']
  unfold opS
  by_cases ho : okS s = true
  · have hz := okS_size ho
    have hr := okS_rv ho
    have h0 : 0 < (s.size : Int) := by omega
    have h1 : 1 ≤ (s.size : Int) := by omega
    simp only [ho, h0, if_true]
    by_cases h : isK s 115 = true
    · have hb := (isK_bt ho 115).1 h
      have e : (bt s 0 != 115) = false := by rw [bne_eq_false_iff_eq]; exact hb
      rw [e]
      refine Ev.step (fun k => by simp only [spec_Open.j0]; rw [if_neg (by decide), if_pos h1]) (Ev.bind (spec_ReadVar_ev _ (by rw [ByteArray.size_extract]; omega)) ?_)
      rw [bl_from, okS_rvI ho]
      have hw : Aside0 (wrap64 (1 + (kOf s : Int)) = ((1 + kOf s : Nat) : Int)) := ⟨by rw [w64 (by omega) (by omega)]; omega⟩
      have a1 : 0 ≤ ((1 + kOf s : Nat) : Int) := by omega
      have a2 : ((1 + kOf s : Nat) : Int) ≤ (s.size : Int) := by omega
      simp only [hw.out, a1, a2, if_true, Int.toNat_natCast, h, true_and]
      by_cases hn : (nOf s : Int) = n
      · simp only [hn, if_true]; exact Ev.now _
      · simp only [hn, if_false]; exact Ev.now _
    · have hb : ¬ bt s 0 = 115 := fun e => h ((isK_bt ho 115).2 e)
      have e : (bt s 0 != 115) = true := by rw [bne_iff_ne]; exact hb
      rw [e, if_neg (fun e => h e.1)]
      exact dead
  · rw [if_neg (fun e => ho (isK_ok e.1))]
    simp only [ho]
    exact dead

theorem spec_Parts_loop (s : ByteArray) (hs : s.size ≤ 140737488355327) (n : Nat) (r : Nat) : ∀ (i a q : Nat) (acc : List ByteArray), i + r = n → n ≤ 1000 → acc.length = i → a ≤ s.size → many (parse 8) r ((bl s).drop a) = some q →
    Ev (fun k => spec_Parts.l0 k s acc (n : Int) (a : Int) (i : Int)) (acc ++ spl s r a, true) := by
  induction r with
  | zero =>
    intro i a q acc hi hn ha has hm
    refine Ev.step (f := fun _ => some (acc, true)) (fun k => ?_) (ev_eq (Ev.now _) ?_)
    · simp only [spec_Parts.l0]; rw [if_neg (by omega)]
    · simp [spl]
  | succ r ih =>
    intro i a q acc hi hn ha has hm
    rw [many_succ] at hm
    cases hp : parse 8 ((bl s).drop a) with
    | none => rw [hp] at hm; cases hm
    | some m =>
      rw [hp] at hm
      simp only [] at hm
      have hle := parse_le 8 _ _ hp
      rw [List.length_drop, bl_len] at hle
      cases hq : many (parse 8) r (((bl s).drop a).drop m) with
      | none => rw [hq] at hm; cases hm
      | some q' =>
        rw [List.drop_drop] at hq
        have hr := ih (i + 1) (a + m) q' (acc ++ [s.extract a (a + m)]) (by omega) hn (by simp; omega) (by omega) hq
        obtain ⟨dp, ht, _, _⟩ := spec_l2Term_ev s hs 8 a (by decide) has
        rw [hp] at ht
        have hw : Aside0 (wrap64 ((i : Int) + 1) = ((i + 1 : Nat) : Int)) := ⟨by rw [w64 (by omega) (by omega)]; omega⟩
        have hw2 : Aside0 (wrap64 ((a : Int) + (m : Int)) = ((a + m : Nat) : Int)) := ⟨by rw [w64 (by omega) (by omega)]; omega⟩
        refine Ev.step (f := fun k => (spec_l2Term.f k s (a : Int) ((8 : Nat) : Int)).bind fun bt130 => (if 0 ≤ (a : Int) then (if (a : Int) ≤ (wrap64 ((a : Int) + bt130.1)) then (if (wrap64 ((a : Int) + bt130.1)) ≤ (s.size : Int) then (if acc.length < 8796093022208 then (spec_Parts.l0 k s (acc ++ [s.extract (a : Int).toNat ((wrap64 ((a : Int) + bt130.1)) : Int).toNat]) (n : Int) (wrap64 ((a : Int) + bt130.1)) ((i + 1 : Nat) : Int)) else (none)) else (none)) else (none)) else (none))) (fun k => ?_) (Ev.bind ht ?_)
        · simp only [spec_Parts.l0]; rw [if_pos (by omega), hw.out]; rfl
        · have a1 : (a : Int) ≤ ((a + m : Nat) : Int) := by omega
          have a2 : ((a + m : Nat) : Int) ≤ (s.size : Int) := by omega
          have a3 : acc.length < 8796093022208 := by omega
          have a0 : 0 ≤ (a : Int) := by omega
          simp only [pI, hw2.out, a0, a1, a2, a3, if_true, Int.toNat_natCast]
          refine ev_eq hr ?_
          rw [spl, hp]; simp
theorem spec_Parts_ev (s : ByteArray) (hs : s.size ≤ 140737488355327) : Ev (fun k => spec_Parts.f k s) (partsS s) := by
  have dead : Ev (fun k => spec_Parts.j0 k s [] true) (([] : List ByteArray), false) := by
    refine Ev.step (f := fun _ => some (([] : List ByteArray), false)) (fun k => ?_) (Ev.now _)
    simp [spec_Parts.j0]
  unfold spec_Parts.f
  simp only [Option.bind_some]
  refine Ev.bind (spec_TermOk_ev s hs) ?_
  have ho' : termB (bl s) = okS s := rfl
  rw [ho']
  by_cases ho : okS s = true
  · have hz := okS_size ho
    have hr := okS_rv ho
    have h0 : 0 < (s.size : Int) := by omega
    have h1 : 1 ≤ (s.size : Int) := by omega
    simp only [ho, h0, if_true]
    by_cases h : isK s 108 = true
    · have hb := (isK_bt ho 108).1 h
      have e : (bt s 0 != 108) = false := by rw [bne_eq_false_iff_eq]; exact hb
      have ep : partsS s = (spl s (nOf s) (1 + kOf s), true) := by unfold partsS; rw [if_pos h]
      rw [e, ep]
      obtain ⟨h12, q, hq⟩ := list_cases h
      refine Ev.step (fun k => by simp only [spec_Parts.j0]; rw [if_neg (by decide), if_pos h1]) (Ev.bind (spec_ReadVar_ev _ (by rw [ByteArray.size_extract]; omega)) ?_)
      rw [bl_from, okS_rvI ho]
      have hw : Aside0 (wrap64 (1 + (kOf s : Int)) = ((1 + kOf s : Nat) : Int)) := ⟨by rw [w64 (by omega) (by omega)]; omega⟩
      simp only [hw.out]
      exact spec_Parts_loop s hs (nOf s) (nOf s) 0 (1 + kOf s) q [] (by omega) (by omega) rfl (by omega) hq
    · have hb : ¬ bt s 0 = 108 := fun e => h ((isK_bt ho 108).2 e)
      have e : (bt s 0 != 108) = true := by rw [bne_iff_ne]; exact hb
      have ep : partsS s = ([], false) := by unfold partsS; rw [if_neg h]
      rw [e, ep]
      exact dead
  · have ep : partsS s = ([], false) := by unfold partsS; rw [if_neg (fun e => ho (isK_ok e))]
    rw [ep]
    simp only [ho]
    exact dead

theorem spec_ReadAtom_ev (s : ByteArray) (hs : s.size ≤ 140737488355327) : Ev (fun k => spec_ReadAtom.f k s) (raS s) := by
  unfold spec_ReadAtom.f
  refine Ev.bind (spec_TermOk_ev s hs) ?_
  have ho' : termB (bl s) = okS s := rfl
  rw [ho']
  unfold raS
  by_cases ho : okS s = true
  · have hz := okS_size ho
    have hr := okS_rv ho
    have h0 : 0 < (s.size : Int) := by omega
    have h1 : 1 ≤ (s.size : Int) := by omega
    simp only [ho, h0, h1, if_true]
    by_cases h : isK s 97 = true
    · have hb := (isK_bt ho 97).1 h
      simp only [h, hb, if_true, show ((97 : Nat) : Int) = 97 from rfl]
      refine Ev.bind (spec_ReadVar_ev _ (by rw [ByteArray.size_extract]; omega)) ?_
      rw [bl_from, okS_rvI ho]
      have hw : Aside0 (wrap64 (1 + (kOf s : Int)) = ((1 + kOf s : Nat) : Int)) := ⟨by rw [w64 (by omega) (by omega)]; omega⟩
      simp only [hw.out]
      have a1 : 0 ≤ ((1 + kOf s : Nat) : Int) := by omega
      have a2 : ((1 + kOf s : Nat) : Int) ≤ (s.size : Int) := by omega
      simp only [a1, a2, if_true, Int.toNat_natCast]
      exact Ev.now _
    · have hb : ¬ bt s 0 = 97 := fun e => h ((isK_bt ho 97).2 e)
      simp only [h, hb, if_false]
      exact Ev.now _
  · have h : ¬ isK s 97 = true := fun e => ho (isK_ok e)
    simp only [ho, h, if_false]
    exact Ev.now _

theorem spec_ReadNum_ev (s : ByteArray) (hs : s.size ≤ 140737488355327) : Ev (fun k => spec_ReadNum.f k s) (rnS s) := by
  unfold spec_ReadNum.f
  refine Ev.bind (spec_ReadAtom_ev s hs) ?_
  have hz : (raS s).1.size ≤ 140737488355327 := by
    unfold raS; split
    · rw [ByteArray.size_extract]; omega
    · decide
  refine Ev.bind (spec_ReadVar_ev _ hz) ?_
  by_cases h1 : (raS s).2 = true
  · by_cases h2 : (rvI (bl (raS s).1)).2 = 0
    · have e : rnS s = (0, false) := by unfold rnS; rw [if_neg (fun e => e.2.1 h2)]
      rw [e]
      simp only [h1, h2, if_true]; exact Ev.now _
    · by_cases h3 : (rvI (bl (raS s).1)).2 = ((raS s).1.size : Int)
      · have e : rnS s = ((rvI (bl (raS s).1)).1, true) := by unfold rnS; rw [if_pos ⟨h1, h2, h3⟩]
        rw [e]
        simp only [h1, h2, if_true, if_false]
        simp only [h3, if_true]; exact Ev.now _
      · have e : rnS s = (0, false) := by unfold rnS; rw [if_neg (fun e => h3 e.2.2)]
        rw [e]
        simp only [h1, h2, if_true, if_false]
        simp only [h3, if_false]; exact Ev.now _
  · have e : rnS s = (0, false) := by unfold rnS; rw [if_neg (fun e => h1 e.1)]
    rw [e]
    simp only [h1]
    exact Ev.now _

theorem spec_ReadNums_loop (ps : List ByteArray) (hl : ps.length ≤ 12) (hp : ∀ p ∈ ps, p.size ≤ 900) (d : Nat) : ∀ (i : Nat) (is : Bool), i + d = ps.length →
    Ev (fun k => spec_ReadNums.l0 k ((ps.take i).map fun p => (rnS p).1) ps is (i : Int)) (if (is && (ps.drop i).all fun p => (rnS p).2) = true then (ps.map fun p => (rnS p).1, true) else ([], false)) := by
  induction d with
  | zero =>
    intro i is hi
    rw [List.drop_of_length_le (by omega), List.take_of_length_le (by omega)]
    simp only [List.all_nil, Bool.and_true]
    refine Ev.step (f := fun _ => some (if is = true then (ps.map fun p => (rnS p).1, true) else ([], false))) (fun k => ?_) (Ev.now _)
    simp only [spec_ReadNums.l0]; rw [if_neg (by omega)]
    cases is <;> rfl
  | succ d ih =>
    intro i is hi
    have hlt : i < ps.length := by omega
    have hcons : ps.drop i = ps[i] :: ps.drop (i + 1) := List.drop_eq_getElem_cons hlt
    have hsz := hp _ (List.getElem_mem hlt)
    have hw : Aside0 (wrap64 ((i : Int) + 1) = ((i + 1 : Nat) : Int)) := ⟨by rw [w64 (by omega) (by omega)]; omega⟩
    have hlen : ((ps.take i).map fun p => (rnS p).1).length < 17592186044416 := by rw [List.length_map, List.length_take]; omega
    refine Ev.step (f := fun k => (spec_ReadNum.f k ps[i]).bind fun t => (if is = true then (if ((ps.take i).map fun p => (rnS p).1).length < 17592186044416 then spec_ReadNums.l0 k ((ps.take i).map (fun p => (rnS p).1) ++ [t.1]) ps t.2 ((i + 1 : Nat) : Int) else none) else (if ((ps.take i).map fun p => (rnS p).1).length < 17592186044416 then spec_ReadNums.l0 k ((ps.take i).map (fun p => (rnS p).1) ++ [t.1]) ps false ((i + 1 : Nat) : Int) else none))) (fun k => ?_) (Ev.bind (spec_ReadNum_ev ps[i] (by omega)) ?_)
    · simp only [spec_ReadNums.l0]; rw [if_pos (by omega), if_pos (by omega), rdOf_get ps i hlt, hw.out]
    · rw [hcons, List.all_cons]
      simp only [hlen, if_true]
      cases is with
      | true =>
        have hr := ih (i + 1) (rnS ps[i]).2 (by omega)
        rw [List.take_succ_eq_append_getElem hlt, List.map_append] at hr
        simp only [if_true, Bool.true_and]
        exact hr
      | false =>
        have hr := ih (i + 1) false (by omega)
        rw [List.take_succ_eq_append_getElem hlt, List.map_append] at hr
        simp only [Bool.false_eq_true, if_false, Bool.false_and] at hr ⊢
        exact hr
theorem spec_ReadNums_ev (s : ByteArray) (hs : s.size ≤ 140737488355327) : Ev (fun k => spec_ReadNums.f k s) (rnsS s) := by
  unfold spec_ReadNums.f
  refine Ev.bind (spec_Parts_ev s hs) ?_
  refine ev_eq (spec_ReadNums_loop _ (partsS_len s) (fun p hp => mem_parts hp) (partsS s).1.length 0 (partsS s).2 (by omega)) ?_
  unfold rnsS
  rw [List.drop_zero]
  cases (partsS s).2 <;> simp

theorem spec_ReadKey_ev (s : ByteArray) (hs : s.size ≤ 140737488355327) : Ev (fun k => spec_ReadKey.f k s) (rkS s) := by
  unfold spec_ReadKey.f
  refine Ev.bind (spec_TermOk_ev s hs) ?_
  have ho' : termB (bl s) = okS s := rfl
  rw [ho']
  unfold rkS
  by_cases ho : okS s = true
  · have hz := okS_size ho
    have h0 : 0 < (s.size : Int) := by omega
    have h1 : 1 ≤ (s.size : Int) := by omega
    simp only [ho, h0, h1, if_true]
    by_cases h : isK s 107 = true
    · have hb := (isK_bt ho 107).1 h
      simp only [h, hb, if_true, show ((107 : Nat) : Int) = 107 from rfl]
      refine Ev.bind (spec_ReadVar_ev _ (by rw [ByteArray.size_extract]; omega)) ?_
      rw [bl_from, okS_rvI ho]
      exact Ev.now _
    · have hb : ¬ bt s 0 = 107 := fun e => h ((isK_bt ho 107).2 e)
      simp only [h, hb, if_false]
      exact Ev.now _
  · have h : ¬ isK s 107 = true := fun e => ho (isK_ok e)
    simp only [ho, h, if_false]
    exact Ev.now _

theorem spec_ReadRest_ev (s : ByteArray) (hs : s.size ≤ 140737488355327) : Ev (fun k => spec_ReadRest.f k s) (rrS s) := by
  have dead : ∀ l, Ev (fun k => spec_ReadRest.j0 k l true) (0, 0, 0, false) := by
    intro l
    refine Ev.step (f := fun _ => some (0, 0, 0, false)) (fun k => ?_) (Ev.now _)
    simp [spec_ReadRest.j0]
  unfold spec_ReadRest.f
  refine Ev.bind (spec_ReadNums_ev s hs) ?_
  unfold rrS
  cases h2 : (rnsS s).2 with
  | false =>
    simp only [Bool.false_eq_true, if_false]
    refine ev_eq (dead _) ?_
    split
    · rename_i e; cases e
    · rfl
  | true =>
    simp only [if_true]
    cases hl : (rnsS s).1 with
    | nil => exact dead _
    | cons a t1 =>
      cases t1 with
      | nil => exact dead _
      | cons b t2 =>
        cases t2 with
        | nil => exact dead _
        | cons c t3 =>
          cases t3 with
          | nil =>
            refine Ev.step (f := fun _ => some (if restB a b c = true then (a, b, c, true) else (0, 0, 0, false))) (fun k => ?_) (Ev.now _)
            have r0 : rd [a, b, c] 0 = a := rfl
            have r1 : rd [a, b, c] 1 = b := rfl
            have r2 : rd [a, b, c] 2 = c := rfl
            simp only [spec_ReadRest.j0, r0, r1, r2, spec_RestOk_eq, Option.bind_some]
            rw [if_neg (by simp), if_pos (by simp), if_pos (by simp), if_pos (by simp)]
            split <;> rfl
          | cons d t4 =>
            have e : (((a :: b :: c :: d :: t4).length : Int) != 3) = true := by
              rw [bne_iff_ne]; simp only [List.length_cons]; omega
            rw [e]
            exact dead _

def grantB (i f t s o e : Int) : Bool := decide (1 ≤ i ∧ i ≤ 1000000) && (forB f && (decide (0 ≤ t ∧ t ≤ 1000000) && restB s o e))
noncomputable def sgS (i f t s o e k : Int) : ByteArray := if grantB i f t s o e = true then sealS k (listS [keyS i, numsS [f, t], srS s o e]) else ⟨#[]⟩

noncomputable def rgS (s : ByteArray) (key : Int) : Int × Int × Int × Int × Int × Int × Bool := match (partsS (opS s key).1).1 with
  | [p, q, r] => match (rnsS q).1 with
    | [f, t] => if (rkS p).2 = true ∧ (rnsS q).2 = true ∧ (rrS r).2.2.2 = true ∧ grantB (rkS p).1 f t (rrS r).1 (rrS r).2.1 (rrS r).2.2.1 = true then ((rkS p).1, f, t, (rrS r).1, (rrS r).2.1, (rrS r).2.2.1, true) else (0, 0, 0, 0, 0, 0, false)
    | _ => (0, 0, 0, 0, 0, 0, false)
  | _ => (0, 0, 0, 0, 0, 0, false)
theorem rgS_len {s : ByteArray} {key : Int} (h : ¬ (partsS (opS s key).1).1.length = 3) : rgS s key = (0, 0, 0, 0, 0, 0, false) := by
  unfold rgS
  split
  · rename_i hl; rw [hl] at h; exact absurd rfl h
  · rfl
theorem rgS_len2 {s : ByteArray} {key : Int} {p q r : ByteArray} (hl : (partsS (opS s key).1).1 = [p, q, r]) (h : ¬ (rnsS q).1.length = 2) : rgS s key = (0, 0, 0, 0, 0, 0, false) := by
  unfold rgS
  rw [hl]
  simp only []
  split
  · rename_i hl; rw [hl] at h; exact absurd rfl h
  · rfl
theorem rgS_in {s : ByteArray} {key : Int} {p q r : ByteArray} {f t : Int} (hl : (partsS (opS s key).1).1 = [p, q, r]) (h : (rnsS q).1 = [f, t]) : rgS s key = if (rkS p).2 = true ∧ (rnsS q).2 = true ∧ (rrS r).2.2.2 = true ∧ grantB (rkS p).1 f t (rrS r).1 (rrS r).2.1 (rrS r).2.2.1 = true then ((rkS p).1, f, t, (rrS r).1, (rrS r).2.1, (rrS r).2.2.1, true) else (0, 0, 0, 0, 0, 0, false) := by
  unfold rgS
  rw [hl]
  simp only []
  rw [h]
theorem rgS_bad {s : ByteArray} {key : Int} {p q r : ByteArray} (hl : (partsS (opS s key).1).1 = [p, q, r]) (h : ¬ ((rkS p).2 = true ∧ (rnsS q).2 = true ∧ (rrS r).2.2.2 = true)) : rgS s key = (0, 0, 0, 0, 0, 0, false) := by
  by_cases h2 : (rnsS q).1.length = 2
  · obtain ⟨f, t, e⟩ : ∃ f t, (rnsS q).1 = [f, t] := by
      match (rnsS q).1, h2 with
      | [f, t], _ => exact ⟨f, t, rfl⟩
    rw [rgS_in hl e, if_neg (fun hh => h ⟨hh.1, hh.2.1, hh.2.2.1⟩)]
  · exact rgS_len2 hl h2
theorem isK_nil (c : Nat) : isK (⟨#[]⟩ : ByteArray) c = false := by
  cases h : isK (⟨#[]⟩ : ByteArray) c with
  | false => rfl
  | true => have := isK_ok h; rw [empty_not_ok] at this; cases this
theorem parts_nil : partsS (⟨#[]⟩ : ByteArray) = ([], false) := by
  unfold partsS; rw [if_neg (by rw [isK_nil]; decide)]
theorem op_nil (key : Int) : opS (⟨#[]⟩ : ByteArray) key = (⟨#[]⟩, false) := by
  unfold opS; rw [if_neg (by rw [isK_nil]; simp)]
theorem rr_true {r : ByteArray} (h : (rrS r).2.2.2 = true) : srS (rrS r).1 (rrS r).2.1 (rrS r).2.2.1 = r := by
  by_cases hb : (rnsS r).2 = true
  · by_cases hl : (rnsS r).1.length = 3
    · obtain ⟨a, b, c, e⟩ : ∃ a b c, (rnsS r).1 = [a, b, c] := by
        match (rnsS r).1, hl with
        | [a, b, c], _ => exact ⟨a, b, c, rfl⟩
      by_cases hr : restB a b c = true
      · have e2 : rrS r = (a, b, c, true) := by unfold rrS; rw [e, hb]; simp only []; rw [if_pos hr]
        rw [e2]
        show srS a b c = r
        unfold srS
        rw [if_pos hr]
        exact (read_nums (Prod.ext e hb)).1
      · have e2 : rrS r = (0, 0, 0, false) := by unfold rrS; rw [e, hb]; simp only []; rw [if_neg hr]
        rw [e2] at h; cases h
    · have e2 : rrS r = (0, 0, 0, false) := by
        unfold rrS
        split
        · rename_i hl' _; rw [hl'] at hl; exact absurd rfl hl
        · rfl
      rw [e2] at h; cases h
  · have e2 : rrS r = (0, 0, 0, false) := by
      unfold rrS
      split
      · rename_i hb'; rw [hb'] at hb; exact absurd rfl hb
      · rfl
    rw [e2] at h; cases h
theorem rr_read {a b c : Int} (h : restB a b c = true) (hk : okS (srS a b c) = true) : rrS (srS a b c) = (a, b, c, true) := by
  unfold srS at hk ⊢
  rw [if_pos h] at hk ⊢
  have hne : numsS [a, b, c] ≠ (⟨#[]⟩ : ByteArray) := by intro e; rw [e, empty_not_ok] at hk; cases hk
  unfold rrS
  rw [(nums_read hne).1]
  simp only []
  rw [if_pos h]
theorem rg_iff {s : ByteArray} {key : Int} {p q r : ByteArray} {f t : Int} (hl : (partsS (opS s key).1).1 = [p, q, r]) (hn : (rnsS q).1 = [f, t]) : sgS (rkS p).1 f t (rrS r).1 (rrS r).2.1 (rrS r).2.2.1 key = s ↔ ((rkS p).2 = true ∧ (rnsS q).2 = true ∧ (rrS r).2.2.2 = true ∧ grantB (rkS p).1 f t (rrS r).1 (rrS r).2.1 (rrS r).2.2.1 = true) := by
  have hs0 : s ≠ (⟨#[]⟩ : ByteArray) := by
    intro e
    rw [e, op_nil, parts_nil] at hl
    cases hl
  constructor
  · intro h
    unfold sgS at h
    split at h
    · rename_i hg
      have hne : sealS key (listS [keyS (rkS p).1, numsS [f, t], srS (rrS r).1 (rrS r).2.1 (rrS r).2.2.1]) ≠ (⟨#[]⟩ : ByteArray) := by rw [h]; exact hs0
      obtain ⟨g1, _, g3, _, _⟩ := seal_read hne
      rw [h] at g1
      have hln : listS [keyS (rkS p).1, numsS [f, t], srS (rrS r).1 (rrS r).2.1 (rrS r).2.2.1] ≠ (⟨#[]⟩ : ByteArray) := by
        intro e; rw [e, empty_not_ok] at g3; cases g3
      obtain ⟨k1, _, _, k4⟩ := list_read hln
      rw [g1] at hl
      simp only [] at hl
      rw [k1] at hl
      simp only [List.cons.injEq, and_true] at hl
      obtain ⟨e1, e2, e3⟩ := hl
      have hg' := hg
      unfold grantB at hg'
      simp only [Bool.and_eq_true, decide_eq_true_eq] at hg'
      have o2 : okS (numsS [f, t]) = true := k4 _ (by simp)
      have o3 : okS (srS (rrS r).1 (rrS r).2.1 (rrS r).2.2.1) = true := k4 _ (by simp)
      have n2 : numsS [f, t] ≠ (⟨#[]⟩ : ByteArray) := by intro e; rw [e, empty_not_ok] at o2; cases o2
      refine ⟨?_, ?_, ?_, hg⟩
      · have := (key_read hg'.1).1
        rw [e1] at this
        rw [this]
      · have := (nums_read n2).1
        rw [e2] at this
        rw [this]
      · have := rr_read hg'.2.2.2 o3
        rw [e3] at this
        rw [this]
    · exact absurd h.symm hs0
  · rintro ⟨h1, h2, h3, h4⟩
    have a1 : keyS (rkS p).1 = p := (read_key (s := p) (n := (rkS p).1) (by rw [← h1])).1
    have a2 : numsS [f, t] = q := (read_nums (Prod.ext hn h2)).1
    have a3 := rr_true h3
    have hpt : (partsS (opS s key).1).2 = true := by
      cases h : (partsS (opS s key).1).2 with
      | true => rfl
      | false =>
        exfalso
        unfold partsS at h hl
        split at h
        · cases h
        · rename_i hh; rw [if_neg hh] at hl; cases hl
    have a4 : listS [p, q, r] = (opS s key).1 := (read_list (Prod.ext hl hpt)).1
    have hop : (opS s key).2 = true := by
      cases h : (opS s key).2 with
      | true => rfl
      | false =>
        exfalso
        have : (opS s key).1 = (⟨#[]⟩ : ByteArray) := by
          unfold opS at h ⊢
          split at h
          · cases h
          · rename_i hh; rw [if_neg hh]
        rw [this, parts_nil] at hl
        cases hl
    have a5 : sealS key (opS s key).1 = s := (read_seal (s := s) (t := (opS s key).1) (k := key) (by rw [← hop])).1
    unfold sgS
    rw [if_pos h4, a1, a2, a3, a4, a5]

noncomputable def rtNo : Int × Int × Int × Int × Int × Int × List Int × List Int × Bool := (0, 0, 0, 0, 0, 0, [], [], false)
noncomputable def rtS (s : ByteArray) (key : Int) : Int × Int × Int × Int × Int × Int × List Int × List Int × Bool := match (partsS (opS s key).1).1 with
  | [w, i, r, p, v] => match (rnsS w).1 with
    | [c, f] => if (rnsS w).2 = true ∧ (rkS i).2 = true ∧ (rrS r).2.2.2 = true ∧ (rnsS p).2 = true ∧ (rnsS v).2 = true ∧ ticketB c f (rkS i).1 (rrS r).1 (rrS r).2.1 (rrS r).2.2.1 (rnsS p).1 (rnsS v).1 = true then (c, f, (rkS i).1, (rrS r).1, (rrS r).2.1, (rrS r).2.2.1, (rnsS p).1, (rnsS v).1, true) else rtNo
    | _ => rtNo
  | _ => rtNo
theorem rtS_len {s : ByteArray} {key : Int} (h : ¬ (partsS (opS s key).1).1.length = 5) : rtS s key = rtNo := by
  unfold rtS
  split
  · rename_i hl; rw [hl] at h; exact absurd rfl h
  · rfl
theorem rtS_len2 {s : ByteArray} {key : Int} {w i r p v : ByteArray} (hl : (partsS (opS s key).1).1 = [w, i, r, p, v]) (h : ¬ (rnsS w).1.length = 2) : rtS s key = rtNo := by
  unfold rtS
  rw [hl]
  simp only []
  split
  · rename_i hl; rw [hl] at h; exact absurd rfl h
  · rfl
theorem rtS_in {s : ByteArray} {key : Int} {w i r p v : ByteArray} {c f : Int} (hl : (partsS (opS s key).1).1 = [w, i, r, p, v]) (h : (rnsS w).1 = [c, f]) : rtS s key = if (rnsS w).2 = true ∧ (rkS i).2 = true ∧ (rrS r).2.2.2 = true ∧ (rnsS p).2 = true ∧ (rnsS v).2 = true ∧ ticketB c f (rkS i).1 (rrS r).1 (rrS r).2.1 (rrS r).2.2.1 (rnsS p).1 (rnsS v).1 = true then (c, f, (rkS i).1, (rrS r).1, (rrS r).2.1, (rrS r).2.2.1, (rnsS p).1, (rnsS v).1, true) else rtNo := by
  unfold rtS
  rw [hl]
  simp only []
  rw [h]
theorem rtS_bad {s : ByteArray} {key : Int} {w i r p v : ByteArray} (hl : (partsS (opS s key).1).1 = [w, i, r, p, v]) (h : ¬ ((rnsS w).2 = true ∧ (rkS i).2 = true ∧ (rrS r).2.2.2 = true ∧ (rnsS p).2 = true ∧ (rnsS v).2 = true)) : rtS s key = rtNo := by
  by_cases h2 : (rnsS w).1.length = 2
  · obtain ⟨c, f, e⟩ : ∃ c f, (rnsS w).1 = [c, f] := by
      match (rnsS w).1, h2 with
      | [c, f], _ => exact ⟨c, f, rfl⟩
    rw [rtS_in hl e, if_neg (fun hh => h ⟨hh.1, hh.2.1, hh.2.2.1, hh.2.2.2.1, hh.2.2.2.2.1⟩)]
  · exact rtS_len2 hl h2
theorem rnsS_le (s : ByteArray) : (rnsS s).1.length ≤ 12 := by
  unfold rnsS; split
  · simpa using partsS_len s
  · simp
theorem rtS_lens (s : ByteArray) (key : Int) : (rtS s key).2.2.2.2.2.2.1.length ≤ 12 ∧ (rtS s key).2.2.2.2.2.2.2.1.length ≤ 12 := by
  unfold rtS
  split
  · rename_i w i r p v hl
    split
    · split
      · exact ⟨rnsS_le p, rnsS_le v⟩
      · exact ⟨by simp [rtNo], by simp [rtNo]⟩
    · exact ⟨by simp [rtNo], by simp [rtNo]⟩
  · exact ⟨by simp [rtNo], by simp [rtNo]⟩
theorem rns_true {q : ByteArray} {l : List Int} (h : numsS l = q) (hk : okS q = true) : rnsS q = (l, true) := by
  have n : numsS l ≠ (⟨#[]⟩ : ByteArray) := by
    intro e
    rw [h] at e
    rw [e, empty_not_ok] at hk
    cases hk
  have := (nums_read n).1
  rw [h] at this
  exact this
theorem rt_iff {s : ByteArray} {key : Int} {w i r p v : ByteArray} {c f : Int} (hl : (partsS (opS s key).1).1 = [w, i, r, p, v]) (hn : (rnsS w).1 = [c, f]) : stS c f (rkS i).1 (rrS r).1 (rrS r).2.1 (rrS r).2.2.1 (rnsS p).1 (rnsS v).1 key = s ↔ ((rnsS w).2 = true ∧ (rkS i).2 = true ∧ (rrS r).2.2.2 = true ∧ (rnsS p).2 = true ∧ (rnsS v).2 = true ∧ ticketB c f (rkS i).1 (rrS r).1 (rrS r).2.1 (rrS r).2.2.1 (rnsS p).1 (rnsS v).1 = true) := by
  have hs0 : s ≠ (⟨#[]⟩ : ByteArray) := by
    intro e
    rw [e, op_nil, parts_nil] at hl
    cases hl
  constructor
  · intro h
    unfold stS at h
    split at h
    · rename_i hg
      have hne : sealS key (listS [numsS [c, f], keyS (rkS i).1, srS (rrS r).1 (rrS r).2.1 (rrS r).2.2.1, numsS (rnsS p).1, numsS (rnsS v).1]) ≠ (⟨#[]⟩ : ByteArray) := by rw [h]; exact hs0
      obtain ⟨g1, _, g3, _, _⟩ := seal_read hne
      rw [h] at g1
      have hln : listS [numsS [c, f], keyS (rkS i).1, srS (rrS r).1 (rrS r).2.1 (rrS r).2.2.1, numsS (rnsS p).1, numsS (rnsS v).1] ≠ (⟨#[]⟩ : ByteArray) := by
        intro e; rw [e, empty_not_ok] at g3; cases g3
      obtain ⟨k1, _, _, k4⟩ := list_read hln
      rw [g1] at hl
      simp only [] at hl
      rw [k1] at hl
      simp only [List.cons.injEq, and_true] at hl
      obtain ⟨e1, e2, e3, e4, e5⟩ := hl
      have hg' := ticketB_out hg
      have o1 : okS (numsS [c, f]) = true := k4 _ (by simp)
      have o3 : okS (srS (rrS r).1 (rrS r).2.1 (rrS r).2.2.1) = true := k4 _ (by simp)
      have o4 : okS (numsS (rnsS p).1) = true := k4 _ (by simp)
      have o5 : okS (numsS (rnsS v).1) = true := k4 _ (by simp)
      refine ⟨?_, ?_, ?_, ?_, ?_, hg⟩
      · have := rns_true e1 (by rw [← e1]; exact o1)
        rw [this]
      · have := (key_read hg'.2.2.1).1
        rw [e2] at this
        rw [this]
      · have := rr_read hg'.2.2.2.1 o3
        rw [e3] at this
        rw [this]
      · have := rns_true e4 (by rw [← e4]; exact o4)
        rw [this]
      · have := rns_true e5 (by rw [← e5]; exact o5)
        rw [this]
    · exact absurd h.symm hs0
  · rintro ⟨h1, h2, h3, h4, h5, h6⟩
    have a1 : numsS [c, f] = w := (read_nums (Prod.ext hn h1)).1
    have a2 : keyS (rkS i).1 = i := (read_key (s := i) (n := (rkS i).1) (by rw [← h2])).1
    have a3 := rr_true h3
    have a4 : numsS (rnsS p).1 = p := (read_nums (Prod.ext rfl h4)).1
    have a5 : numsS (rnsS v).1 = v := (read_nums (Prod.ext rfl h5)).1
    have hpt : (partsS (opS s key).1).2 = true := by
      cases h : (partsS (opS s key).1).2 with
      | true => rfl
      | false =>
        exfalso
        unfold partsS at h hl
        split at h
        · cases h
        · rename_i hh; rw [if_neg hh] at hl; cases hl
    have a6 : listS [w, i, r, p, v] = (opS s key).1 := (read_list (Prod.ext hl hpt)).1
    have hop : (opS s key).2 = true := by
      cases h : (opS s key).2 with
      | true => rfl
      | false =>
        exfalso
        have : (opS s key).1 = (⟨#[]⟩ : ByteArray) := by
          unfold opS at h ⊢
          split at h
          · cases h
          · rename_i hh; rw [if_neg hh]
        rw [this, parts_nil] at hl
        cases hl
    have a7 : sealS key (opS s key).1 = s := (read_seal (s := s) (t := (opS s key).1) (k := key) (by rw [← hop])).1
    unfold stS
    rw [if_pos h6, a1, a2, a3, a4, a5, a6, a7]

theorem spec_ReadTicket_ev (s : ByteArray) (hs : s.size ≤ 1073741824) (key : Int) : Ev (fun k => spec_ReadTicket.f k s key) (rtS s key) := by
  have dead : ∀ a b l m c d e, Ev (fun k => spec_ReadTicket.j0 k a b l m true c d e) rtNo := by
    intro a b l m c d e
    refine Ev.step (f := fun _ => some rtNo) (fun k => ?_) (Ev.now _)
    simp [spec_ReadTicket.j0, rtNo]
  have ho := opS_size s key
  unfold spec_ReadTicket.f
  refine Ev.bind (spec_Open_ev s (by omega) key) (Ev.bind (spec_Parts_ev _ (by omega)) ?_)
  by_cases h3 : (partsS (opS s key).1).1.length = 5
  · obtain ⟨w, i, r, p, v, hl⟩ : ∃ w i r p v, (partsS (opS s key).1).1 = [w, i, r, p, v] := by
      match (partsS (opS s key).1).1, h3 with
      | [w, i, r, p, v], _ => exact ⟨w, i, r, p, v, rfl⟩
    have zw : w.size ≤ 900 := mem_parts (by rw [hl]; simp)
    have zi : i.size ≤ 900 := mem_parts (by rw [hl]; simp)
    have zr : r.size ≤ 900 := mem_parts (by rw [hl]; simp)
    have zp : p.size ≤ 900 := mem_parts (by rw [hl]; simp)
    have zv : v.size ≤ 900 := mem_parts (by rw [hl]; simp)
    have r0 : rdOf ByteArray.empty [w, i, r, p, v] 0 = w := rfl
    have r1 : rdOf ByteArray.empty [w, i, r, p, v] 1 = i := rfl
    have r2 : rdOf ByteArray.empty [w, i, r, p, v] 2 = r := rfl
    have r3 : rdOf ByteArray.empty [w, i, r, p, v] 3 = p := rfl
    have r4 : rdOf ByteArray.empty [w, i, r, p, v] 4 = v := rfl
    have e3 : (([w, i, r, p, v] : List ByteArray).length : Int) = 5 := rfl
    have lp := rnsS_le p
    have lv := rnsS_le v
    simp only [hl, e3, if_true, r0, r1, r2, r3, r4, show (0 : Int) < 5 from by decide, show (1 : Int) < 5 from by decide, show (2 : Int) < 5 from by decide, show (3 : Int) < 5 from by decide, show (4 : Int) < 5 from by decide]
    refine Ev.bind (spec_ReadNums_ev w (by omega)) (Ev.bind (spec_ReadKey_ev i (by omega)) (Ev.bind (spec_ReadRest_ev r (by omega)) (Ev.bind (spec_ReadNums_ev p (by omega)) (Ev.bind (spec_ReadNums_ev v (by omega)) ?_))))
    cases h1 : (rnsS w).2 with
    | false =>
      simp only [Bool.false_eq_true, if_false]
      exact ev_eq (dead _ _ _ _ _ _ _) (rtS_bad hl (fun hh => by rw [h1] at hh; cases hh.1)).symm
    | true =>
      cases h2 : (rkS i).2 with
      | false =>
        simp only [Bool.false_eq_true, if_false, if_true]
        exact ev_eq (dead _ _ _ _ _ _ _) (rtS_bad hl (fun hh => by rw [h2] at hh; cases hh.2.1)).symm
      | true =>
        cases h4 : (rrS r).2.2.2 with
        | false =>
          simp only [Bool.false_eq_true, if_false, if_true]
          exact ev_eq (dead _ _ _ _ _ _ _) (rtS_bad hl (fun hh => by rw [h4] at hh; cases hh.2.2.1)).symm
        | true =>
          cases h6 : (rnsS p).2 with
          | false =>
            simp only [Bool.false_eq_true, if_false, if_true]
            exact ev_eq (dead _ _ _ _ _ _ _) (rtS_bad hl (fun hh => by rw [h6] at hh; cases hh.2.2.2.1)).symm
          | true =>
            cases h7 : (rnsS v).2 with
            | false =>
              simp only [Bool.false_eq_true, if_false, if_true]
              exact ev_eq (dead _ _ _ _ _ _ _) (rtS_bad hl (fun hh => by rw [h7] at hh; cases hh.2.2.2.2)).symm
            | true =>
              simp only [if_true]
              by_cases h5 : (rnsS w).1.length = 2
              · obtain ⟨c, f, e⟩ : ∃ c f, (rnsS w).1 = [c, f] := by
                  match (rnsS w).1, h5 with
                  | [c, f], _ => exact ⟨c, f, rfl⟩
                rw [rtS_in hl e, e]
                have wb : ((([c, f] : List Int).length : Int) != 2) = false := rfl
                rw [wb]
                have d0 : rd [c, f] 0 = c := rfl
                have d1 : rd [c, f] 1 = f := rfl
                have e2 : (([c, f] : List Int).length : Int) = 2 := rfl
                refine Ev.step (f := fun k => (spec_l5TicketOk.f k c f (rkS i).1 (rrS r).1 (rrS r).2.1 (rrS r).2.2.1 (rnsS p).1 (rnsS v).1).bind fun t233 => (if t233 = true then (some (c, f, (rkS i).1, (rrS r).1, (rrS r).2.1, (rrS r).2.2.1, (rnsS p).1, (rnsS v).1, true)) else (some rtNo))) (fun k => ?_) (Ev.bind (spec_l5TicketOk_ev _ _ _ _ _ _ _ _ (by omega) (by omega)) ?_)
                · simp only [spec_ReadTicket.j0, Bool.false_eq_true, if_false, e2, d0, d1, show (0 : Int) < 2 from by decide, show (1 : Int) < 2 from by decide, if_true, rtNo]
                · simp only [h1, h2, h4, h6, h7, true_and]
                  split
                  · exact Ev.now _
                  · exact Ev.now _
              · have wb : (((rnsS w).1.length : Int) != 2) = true := by rw [bne_iff_ne]; omega
                rw [wb]
                exact ev_eq (dead _ _ _ _ _ _ _) (rtS_len2 hl h5).symm
  · have h3' : ¬ (((partsS (opS s key).1).1.length : Int) = 5) := by omega
    simp only [h3', if_false]
    exact ev_eq (Ev.now _) (rtS_len h3).symm

theorem impl_within_eq (a lo hi : Int) : impl_within.f a lo hi = some (decide (lo ≤ a ∧ a ≤ hi)) := by
  unfold impl_within.f
  by_cases h : a ≥ lo
  · rw [if_pos h]; congr 1; simp [show lo ≤ a from h]
  · rw [if_neg h]; congr 1; simp [show ¬ lo ≤ a from h]

theorem impl_isKey_eq (a : Int) : impl_isKey.f a = some (decide (1 ≤ a ∧ a ≤ 1000000)) := by
  unfold impl_isKey.f; rw [impl_within_eq, Option.bind_some]

theorem impl_Var_loop (j : Nat) : ∀ (n : Nat) (acc : List Int), n < 128 ^ (j + 1) → n ≤ MAXV → acc.length + j < 1000 →
    Ev (fun k => impl_Var.l0 k (n : Int) acc) (strOfNums (acc ++ (var n).map fun (m : Nat) => (m : Int))) := by
  induction j with
  | zero =>
    intro n acc hn hm ha
    have hn' : n < 128 := by simpa using hn
    refine Ev.step (f := fun _ => some (strOfNums (acc ++ (var n).map fun (m : Nat) => (m : Int)))) (fun k => ?_) (Ev.now _)
    simp only [impl_Var.l0]
    rw [if_neg (by omega), if_pos (by omega), var_small hn', show (n : Int) % 256 = (n : Int) by omega]; rfl
  | succ j ih =>
    intro n acc hn hm ha
    by_cases h : n < 128
    · refine Ev.step (f := fun _ => some (strOfNums (acc ++ (var n).map fun (m : Nat) => (m : Int)))) (fun k => ?_) (Ev.now _)
      simp only [impl_Var.l0]
      rw [if_neg (by omega), if_pos (by omega), var_small h, show (n : Int) % 256 = (n : Int) by omega]; rfl
    · have hd : n / 128 < 128 ^ (j + 1) := Nat.div_lt_of_lt_mul (by rw [Nat.pow_succ] at hn; omega)
      have hr := ih (n / 128) (acc ++ [((n % 128 + 128 : Nat) : Int)]) hd (by omega) (by simp; omega)
      refine Ev.step (f := fun k => impl_Var.l0 k ((n / 128 : Nat) : Int) (acc ++ [((n % 128 + 128 : Nat) : Int)])) (fun k => ?_) (ev_eq hr ?_)
      · simp only [impl_Var.l0]
        rw [if_pos (by omega), if_pos (by omega), or_and n (by unfold MAXV at hm; omega)]
        congr 1
      · rw [var_big h, List.map_cons, List.append_assoc]; rfl
theorem impl_Var_ev (n : Int) : Ev (fun k => impl_Var.f k n) (varS n) := by
  unfold impl_Var.f
  simp only [impl_within_eq, Option.bind_some]
  by_cases h : 0 ≤ n ∧ n ≤ 562949953421311
  · simp only [h, decide_true, if_true]
    obtain ⟨m, rfl⟩ := Int.eq_ofNat_of_zero_le h.1
    have hm : m ≤ MAXV := by unfold MAXV; omega
    refine ev_eq (impl_Var_loop 6 m [] (by unfold MAXV at hm; omega) hm (by simp)) ?_
    rw [varS_in hm]; rfl
  · simp only [h, decide_false]
    rw [varS_out h]
    exact Ev.now _

theorem impl_ReadVar_loop (s : ByteArray) (hs : s.size ≤ 140737488355327) (d : Nat) : ∀ (i n : Nat), i + d = 7 → i ≤ (bl s).length → (∀ j, j < i → 128 ≤ (bl s).getD j 0) → n = val ((bl s).take i) →
    Ev (fun k => impl_ReadVar.l0 k s (n : Int) (i : Int)) (rvI (bl s)) := by
  have hl := bl_len s
  induction d with
  | zero =>
    intro i n hi hle hc hn
    have e : rvI (bl s) = (0, 0) := rvI_none (fun n k hR => R_far (bl s) i hc (Or.inr (by omega)) hR)
    rw [e]
    refine Ev.step (f := fun k => impl_ReadVar.j1 k s (n : Int) (i : Int) false) (fun k => ?_) (Ev.step (f := fun _ => some (0, 0)) (fun k => ?_) (Ev.now _))
    · simp only [impl_ReadVar.l0]
      by_cases h : (i : Int) < (s.size : Int)
      · rw [if_pos h, decide_eq_false (by omega)]
      · rw [if_neg h]
    · simp [impl_ReadVar.j1]
  | succ d ih =>
    intro i n hi hle hc hn
    by_cases h : i < (bl s).length
    · have is_ : (i : Int) < (s.size : Int) := by omega
      have i7 : (i : Int) < 7 := by omega
      have i0 : 0 ≤ (i : Int) := by omega
      have i1s : ((i + 1 : Nat) : Int) ≤ (s.size : Int) := by omega
      have i10 : 0 ≤ ((i + 1 : Nat) : Int) := by omega
      have i1S : i + 1 ≤ s.size := by omega
      have hw1 : Aside0 (wrap64 ((i : Int) + 1) = ((i + 1 : Nat) : Int)) := ⟨by rw [w64 (by omega) (by omega)]; omega⟩
      have hw7 : Aside0 (0 ≤ wrap64 (7 * (i : Int))) := ⟨by rw [w64 (by omega) (by omega)]; omega⟩
      have hj : ∀ k, impl_ReadVar.l0 (k + 1) s (n : Int) (i : Int) = impl_ReadVar.j1 k s (n : Int) (i : Int) true := by
        intro k
        simp only [impl_ReadVar.l0]
        rw [if_pos is_, decide_eq_true i7]
      have hb : bt s (i : Int) = (((bl s)[i] : Nat) : Int) := bt_get s i h
      have hb256 : (bl s)[i] < 256 := bl_lt s _ (List.getElem_mem h)
      have hnlt : n < 128 ^ i := by
        have := val_lt ((bl s).take i)
        rw [List.length_take, Nat.min_eq_left hle] at this
        omega
      have ho := or_shl n i (bl s)[i] hnlt (by omega) hb256
      have hv := val_take (bl s) i h
      have hnn : n + 128 ^ i * ((bl s)[i] % 128) = val ((bl s).take (i + 1)) := by rw [hv, hn]
      have hsum := val_lt ((bl s).take (i + 1))
      rw [List.length_take, Nat.min_eq_left (by omega)] at hsum
      have hp : 128 ^ (i + 1) ≤ 128 ^ 7 := Nat.pow_le_pow_right (by decide) (by omega)
      have hmax : n + 128 ^ i * ((bl s)[i] % 128) ≤ MAXV := by
        have h7 : (128 : Nat) ^ 7 = 562949953421312 := by decide
        rw [hnn]; unfold MAXV; omega
      have hg : (bl s).getD i 0 = (bl s)[i] := by rw [List.getD_eq_getElem?_getD, List.getElem?_eq_getElem h]; rfl
      by_cases hlt : (bl s)[i] < 128
      · have hvar := impl_Var_ev ((n + 128 ^ i * ((bl s)[i] % 128) : Nat) : Int)
        refine Ev.step hj (Ev.step (f := fun k => (impl_Var.f k ((n + 128 ^ i * ((bl s)[i] % 128) : Nat) : Int)).bind fun t => (if t.toList = (s.extract 0 (i + 1)).toList then some (((n + 128 ^ i * ((bl s)[i] % 128) : Nat) : Int), ((i + 1 : Nat) : Int)) else some (0, 0))) (fun k => ?_) (Ev.bind hvar ?_))
        · simp only [impl_ReadVar.j1, if_true]
          rw [if_pos i0, if_pos is_, if_pos hw7.out, hb, if_pos (show (((bl s)[i] : Nat) : Int) < 128 from Int.ofNat_lt.mpr hlt), ho, hw1.out]
          congr 1
          funext t
          rw [if_pos i10, if_pos i1s]
          rfl
        · by_cases hR : R (bl s) (n + 128 ^ i * ((bl s)[i] % 128)) (i + 1)
          · rw [rvI_some hR]
            have := (R_iff s _ (i + 1) hmax i1S).2 hR
            simp only [this, if_true]
            exact Ev.now _
          · have hne : ¬ varS ((n + 128 ^ i * ((bl s)[i] % 128) : Nat) : Int) = s.extract 0 (i + 1) := fun e => hR ((R_iff s _ (i + 1) hmax i1S).1 e)
            have hnone : rvI (bl s) = (0, 0) := rvI_none (fun n' k' hR' => by
              have hk := R_upto (bl s) i h (by omega) hc hlt hR'
              subst hk
              have hv' := R_val hR'
              rw [← hnn] at hv'
              rw [← hv'] at hR'
              exact hR hR')
            rw [hnone]
            simp only [toList_iff, hne, if_false]
            exact Ev.now _
      · have hr := ih (i + 1) (n + 128 ^ i * ((bl s)[i] % 128)) (by omega) (by omega) (fun j hj => by
          by_cases he : j < i
          · exact hc j he
          · have : j = i := by omega
            rw [this, hg]; omega) hnn
        refine Ev.step hj (Ev.step (f := fun k => impl_ReadVar.l0 k s ((n + 128 ^ i * ((bl s)[i] % 128) : Nat) : Int) ((i + 1 : Nat) : Int)) (fun k => ?_) hr)
        simp only [impl_ReadVar.j1, if_true]
        rw [if_pos i0, if_pos is_, if_pos hw7.out, hb, if_neg (show ¬ (((bl s)[i] : Nat) : Int) < 128 from fun e => hlt (Int.ofNat_lt.mp e)), ho, hw1.out]
    · have e : rvI (bl s) = (0, 0) := rvI_none (fun n k hR => R_far (bl s) i hc (Or.inl (by omega)) hR)
      rw [e]
      refine Ev.step (f := fun k => impl_ReadVar.j1 k s (n : Int) (i : Int) false) (fun k => ?_) (Ev.step (f := fun _ => some (0, 0)) (fun k => ?_) (Ev.now _))
      · simp only [impl_ReadVar.l0]
        rw [if_neg (by omega)]
      · simp [impl_ReadVar.j1]
theorem impl_ReadVar_ev (s : ByteArray) (hs : s.size ≤ 140737488355327) : Ev (fun k => impl_ReadVar.f k s) (rvI (bl s)) := by
  unfold impl_ReadVar.f
  exact impl_ReadVar_loop s hs 7 0 0 (by omega) (by omega) (by intro j hj; omega) (by simp [val])

theorem impl_varAt_ev (s : ByteArray) (hs : s.size ≤ 140737488355327) (a : Nat) (ha : a ≤ s.size) : Ev (fun k => impl_varAt.f k s (a : Int)) (vA (bl s) a) := by
  unfold impl_varAt.f
  have h1 : 0 ≤ (a : Int) := by omega
  have h2 : (a : Int) ≤ (s.size : Int) := by omega
  simp only [h1, h2, if_true, Int.toNat_natCast]
  have hsz : (s.extract a s.size).size ≤ 140737488355327 := by rw [ByteArray.size_extract]; omega
  refine Ev.bind (impl_ReadVar_ev _ hsz) ?_
  rw [bl_from]
  unfold vA rvI
  cases hr : rv ((bl s).drop a) with
  | none => simp only [if_true]; exact Ev.now _
  | some p =>
    obtain ⟨n, k⟩ := p
    have hp := R_pos (rv_R hr)
    have hl := R_le (rv_R hr)
    simp only at hp hl
    rw [List.length_drop, bl_len] at hl
    have hne : ¬ ((k : Int) = 0) := by omega
    simp only [hne, if_false]
    rw [w64 (by omega) (by omega)]
    exact Ev.now _

theorem impl_termAt_list (s : ByteArray) (hs : s.size ≤ 140737488355327) (d : Nat) (hd : d ≤ 100) (n : Nat) (hn : n ≤ 12)
    (hf : ∀ a, a ≤ s.size → Ev (fun k => impl_termAt.f k s (a : Int) (d : Int)) (tA a (parse d ((bl s).drop a)))) (r : Nat) : ∀ (i a : Nat), i + r = n → a ≤ s.size →
    Ev (fun k => impl_termAt.l0 k s ((d + 1 : Nat) : Int) (n : Int) (a : Int) (i : Int)) (tA a (many (parse d) r ((bl s).drop a))) := by
  have hw : Aside0 (wrap64 (((d + 1 : Nat) : Int) - 1) = (d : Int)) := ⟨by rw [w64 (by omega) (by omega)]; omega⟩
  have bad : ∀ i : Int, Ev (fun k => impl_termAt.l0 k s ((d + 1 : Nat) : Int) (n : Int) (-1) i) (-1) := by
    intro i
    refine Ev.step (f := fun _ => some (-1)) (fun k => ?_) (Ev.now _)
    simp only [impl_termAt.l0]
    by_cases h : i < (n : Int)
    · rw [if_pos h, if_neg (by decide)]
    · rw [if_neg h]
  induction r with
  | zero =>
    intro i a hi ha
    refine Ev.step (f := fun _ => some ((a : Int))) (fun k => ?_) (ev_eq (Ev.now _) ?_)
    · simp only [impl_termAt.l0]; rw [if_neg (by omega)]
    · simp [many, tA]
  | succ r ih =>
    intro i a hi ha
    have hi1 : Aside0 (wrap64 ((i : Int) + 1) = ((i + 1 : Nat) : Int)) := ⟨by rw [w64 (by omega) (by omega)]; omega⟩
    refine Ev.step (f := fun k => (impl_termAt.f k s (a : Int) (d : Int)).bind fun t => impl_termAt.l0 k s ((d + 1 : Nat) : Int) (n : Int) t ((i + 1 : Nat) : Int)) (fun k => ?_) (Ev.bind (hf a ha) ?_)
    · simp only [impl_termAt.l0]; rw [if_pos (by omega), if_pos (by omega), hw.out, hi1.out]
    · rw [many_succ]
      cases hp : parse d ((bl s).drop a) with
      | none => exact bad _
      | some m =>
        have hle := (parse_le d _ _ hp).2
        rw [List.length_drop, bl_len] at hle
        have := ih (i + 1) (a + m) (by omega) (by omega)
        rw [← List.drop_drop, tA_add] at this
        exact this
theorem impl_termAt_ev (s : ByteArray) (hs : s.size ≤ 140737488355327) (d : Nat) : ∀ (a : Nat), d ≤ 100 → a ≤ s.size → Ev (fun k => impl_termAt.f k s (a : Int) (d : Int)) (tA a (parse d ((bl s).drop a))) := by
  have hl := bl_len s
  have dead : ∀ (a d : Int), Ev (fun k => impl_termAt.j0 k s a d true) (-1) := by
    intro a d
    refine Ev.step (f := fun _ => some (-1)) (fun k => ?_) (Ev.now _)
    simp [impl_termAt.j0]
  induction d with
  | zero =>
    intro a hd ha
    by_cases h : (a : Int) ≥ (s.size : Int)
    · refine Ev.step (fun k => ?_) (ev_eq (dead (a : Int) ((0 : Nat) : Int)) (by simp [parse, tA]))
      simp only [impl_termAt.f]; rw [if_pos h]
    · refine Ev.step (fun k => ?_) (ev_eq (dead (a : Int) ((0 : Nat) : Int)) (by simp [parse, tA]))
      simp only [impl_termAt.f]; rw [if_neg h, decide_eq_true (by decide)]
  | succ d ih =>
    intro a hd ha
    by_cases h : (a : Int) ≥ (s.size : Int)
    · refine Ev.step (fun k => ?_) (ev_eq (dead (a : Int) ((d + 1 : Nat) : Int)) ?_)
      · simp only [impl_termAt.f]; rw [if_pos h]
      · rw [List.drop_of_length_le (by omega), parse_nil]; rfl
    · have hlt : a < (bl s).length := by omega
      have hs1 : 0 ≤ (a : Int) := by omega
      have hs2 : (a : Int) < (s.size : Int) := by omega
      have ha1 : Aside0 (wrap64 ((a : Int) + 1) = ((a + 1 : Nat) : Int)) := ⟨by rw [w64 (by omega) (by omega)]; omega⟩
      have hd1 : Aside0 (wrap64 (((d + 1 : Nat) : Int) - 1) = (d : Int)) := ⟨by rw [w64 (by omega) (by omega)]; omega⟩
      have hv := impl_varAt_ev s hs (a + 1) (by omega)
      have hcons : (bl s).drop a = (bl s)[a] :: (bl s).drop (a + 1) := List.drop_eq_getElem_cons hlt
      have hstep : ∀ k, impl_termAt.f (k + 1) s (a : Int) ((d + 1 : Nat) : Int) = impl_termAt.j0 k s (a : Int) ((d + 1 : Nat) : Int) false := by
        intro k; simp only [impl_termAt.f]; rw [if_neg h, decide_eq_false (by omega)]
      refine Ev.step hstep ?_
      refine Ev.step (fun k => by simp only [impl_termAt.j0]; rw [if_neg (by decide), ha1.out]) (Ev.bind hv ?_)
      simp only [hs1, hs2, if_true, bt_get s a hlt, impl_within_eq, impl_isKey_eq, Option.bind_some]
      rw [hcons]
      generalize (bl s)[a] = c
      rw [parse]
      unfold vA
      cases hr : rv ((bl s).drop (a + 1)) with
      | none =>
        refine ev_of (fun k => ?_)
        simp [tA]
      | some p =>
        obtain ⟨n, k'⟩ := p
        have hR := rv_R hr
        have hk := R_le hR
        have hn9 := hR.1
        unfold MAXV at hn9
        simp only at hk hn9
        rw [List.length_drop, hl] at hk
        simp only []
        by_cases c1 : c = 97
        · subst c1
          simp only [if_true, List.length_drop, hl]
          by_cases c2 : n ≤ 40
          · have c2' : 0 ≤ (n : Int) ∧ (n : Int) ≤ 40 := by omega
            simp only [c2', decide_true, if_true, c2, true_and]
            rw [w64 (by omega) (by omega)]
            by_cases c3 : n ≤ s.size - (a + 1) - k'
            · rw [if_pos c3]
              have c3' : ¬ ((n : Int) > (s.size : Int) - ((a + 1 + k' : Nat) : Int)) := by omega
              simp only [c3', if_false]
              rw [w64 (by omega) (by omega)]
              refine ev_eq (Ev.now _) ?_
              simp [tA]; omega
            · rw [if_neg c3]
              have c3' : ((n : Int) > (s.size : Int) - ((a + 1 + k' : Nat) : Int)) := by omega
              simp only [c3', if_true]
              exact Ev.now _
          · have c2' : ¬ (0 ≤ (n : Int) ∧ (n : Int) ≤ 40) := by omega
            simp only [c2', decide_false, c2, false_and, if_false]
            exact Ev.now _
        · have c1' : ¬ ((c : Int) = 97) := by omega
          simp only [c1', c1, if_false]
          by_cases c4 : c = 107
          · subst c4
            simp only [if_true]
            by_cases c5 : 1 ≤ n ∧ n ≤ 1000000
            · have c5' : 1 ≤ (n : Int) ∧ (n : Int) ≤ 1000000 := by omega
              simp only [c5', c5, decide_true, if_true, and_self]
              refine ev_eq (Ev.now _) ?_
              simp [tA]; omega
            · have c5' : ¬ (1 ≤ (n : Int) ∧ (n : Int) ≤ 1000000) := by omega
              simp only [c5', c5, decide_false, if_false]
              exact Ev.now _
          · have c4' : ¬ ((c : Int) = 107) := by omega
            simp only [c4', c4, if_false]
            by_cases c6 : c = 108
            · subst c6
              simp only [if_true]
              by_cases c7 : n ≤ 12
              · have c7' : 0 ≤ (n : Int) ∧ (n : Int) ≤ 12 := by omega
                simp only [c7', decide_true, if_true, c7]
                have hL := impl_termAt_list s hs d (by omega) n c7 (fun a ha => ih a (by omega) ha) n 0 (a + 1 + k') (by omega) (by omega)
                rw [← List.drop_drop] at hL
                refine ev_eq hL ?_
                cases hq : many (parse d) n (((bl s).drop (a + 1)).drop k') with
                | none => rfl
                | some q => simp [tA]; omega
              · have c7' : ¬ (0 ≤ (n : Int) ∧ (n : Int) ≤ 12) := by omega
                simp only [c7', c7, decide_false, if_false]
                exact Ev.now _
            · have c6' : ¬ ((c : Int) = 108) := by omega
              simp only [c6', c6, if_false]
              by_cases c8 : c = 115
              · subst c8
                simp only [if_true]
                by_cases c5 : 1 ≤ n ∧ n ≤ 1000000
                · have c5' : 1 ≤ (n : Int) ∧ (n : Int) ≤ 1000000 := by omega
                  simp only [c5', c5, decide_true, if_true, and_self, hd1.out]
                  refine Ev.bind (ih (a + 1 + k') (by omega) (by omega)) ?_
                  rw [← List.drop_drop]
                  refine ev_eq (Ev.now _) ?_
                  cases hq : parse d (((bl s).drop (a + 1)).drop k') with
                  | none => rfl
                  | some q => simp [tA]; omega
                · have c5' : ¬ (1 ≤ (n : Int) ∧ (n : Int) ≤ 1000000) := by omega
                  simp only [c5', c5, decide_false, if_false]
                  exact Ev.now _
              · have c8' : ¬ ((c : Int) = 115) := by omega
                simp only [c8', c8, if_false]
                exact Ev.now _

theorem impl_TermOk_ev (s : ByteArray) (hs : s.size ≤ 140737488355327) : Ev (fun k => impl_TermOk.f k s) (termB (bl s)) := by
  have hl := bl_len s
  unfold impl_TermOk.f
  simp only [impl_within_eq, Option.bind_some]
  unfold termB
  by_cases h : 1 ≤ (s.size : Int) ∧ (s.size : Int) ≤ 900
  · simp only [h, decide_true, if_true, and_self]
    have ht := impl_termAt_ev s hs 8 0 (by decide) (by omega)
    refine Ev.bind ht (ev_eq (Ev.now _) ?_)
    rw [List.drop_zero, hl]
    have h1 : 1 ≤ s.size := by omega
    have h2 : s.size ≤ 900 := by omega
    cases hp : parse 8 (bl s) with
    | none => simp [tA]
    | some m => simp [tA, h1, h2]; rw [Bool.eq_iff_iff]; simp; omega
  · simp only [h, decide_false]
    refine ev_eq (Ev.now _) ?_
    rw [decide_eq_false]; rw [hl]; omega

theorem impl_term_ev (s : ByteArray) (hs : s.size ≤ 140737488355327) : Ev (fun k => impl_term.f k s) (termS s) := by
  unfold impl_term.f
  refine Ev.bind (impl_TermOk_ev s hs) ?_
  unfold termS okS
  by_cases h : termB (bl s) = true
  · simp only [h, if_true]; exact Ev.now _
  · simp only [h]; exact Ev.now _

theorem impl_List_loop (ps : List ByteArray) (hl : ps.length ≤ 1073741824) (d : Nat) : ∀ (i : Nat) (acc : ByteArray), i + d = ps.length → acc.size ≤ 1000 + 900 * i → (∀ p ∈ ps, p.size ≤ 1099511627776) →
    Ev (fun k => impl_List.l0 k acc ps (ps.length : Int) (i : Int)) (if (ps.drop i).all okS = true then termS (acc ++ cat (ps.drop i)) else ⟨#[]⟩) := by
  induction d with
  | zero =>
    intro i acc hi ha hp
    rw [List.drop_of_length_le (by omega)]
    have e : acc ++ cat [] = acc := ByteArray.append_empty
    simp only [List.all_nil, if_true, e]
    refine Ev.step (f := fun k => (impl_term.f k acc).bind fun t => some t) (fun k => ?_) (Ev.bind (impl_term_ev acc (by omega)) (Ev.now _))
    simp only [impl_List.l0]; rw [if_neg (by omega)]
  | succ d ih =>
    intro i acc hi ha hp
    have hlt : i < ps.length := by omega
    have hcons : ps.drop i = ps[i] :: ps.drop (i + 1) := List.drop_eq_getElem_cons hlt
    have hsz := hp _ (List.getElem_mem hlt)
    have hw : Aside0 (wrap64 ((i : Int) + 1) = ((i + 1 : Nat) : Int)) := ⟨by rw [w64 (by omega) (by omega)]; omega⟩
    refine Ev.step (f := fun k => (impl_TermOk.f k ps[i]).bind fun t => (if t = true then (if acc.size + ps[i].size ≤ 9223372036854775807 then impl_List.l0 k (acc ++ ps[i]) ps (ps.length : Int) ((i + 1 : Nat) : Int) else none) else some (⟨#[]⟩ : ByteArray))) (fun k => ?_) (Ev.bind (impl_TermOk_ev ps[i] (by omega)) ?_)
    · simp only [impl_List.l0]; rw [if_pos (by omega), if_pos (by omega), if_pos (by omega), rdOf_get ps i hlt, hw.out]
    · have ho : termB (bl ps[i]) = okS ps[i] := rfl
      rw [ho, hcons, List.all_cons, cat_cons]
      by_cases h : okS ps[i] = true
      · have h9 := (okS_size h).2
        have hr := ih (i + 1) (acc ++ ps[i]) (by omega) (by rw [ByteArray.size_append]; omega) hp
        have hle : acc.size + ps[i].size ≤ 9223372036854775807 := by omega
        rw [ByteArray.append_assoc] at hr
        simp only [h, hle, if_true, Bool.true_and]
        exact hr
      · have h' := Bool.eq_false_iff.mpr h
        rw [h', Bool.false_and]
        simp only [Bool.false_eq_true, if_false]
        exact Ev.now _
theorem impl_List_ev (ps : List ByteArray) (hl : ps.length ≤ 1073741824) (hp : ∀ p ∈ ps, p.size ≤ 1099511627776) : Ev (fun k => impl_List.f k ps) (listS ps) := by
  unfold impl_List.f
  refine Ev.bind (impl_Var_ev _) ?_
  have h7 := @var_size (ps.length : Int)
  have h1 : (⟨#[108]⟩ : ByteArray).size = 1 := rfl
  have a1 : 1 + (varS (ps.length : Int)).size ≤ 9223372036854775807 := by omega
  simp only [a1, if_true]
  refine ev_eq (impl_List_loop ps hl ps.length 0 ((⟨#[108]⟩ : ByteArray) ++ varS (ps.length : Int)) (by omega) (by rw [ByteArray.size_append]; omega) hp) ?_
  unfold listS rawL
  rw [List.drop_zero]
  by_cases h : ps.all okS = true
  · rw [if_pos h]
    by_cases h12 : ps.length ≤ 12
    · rw [if_pos ⟨h12, h⟩]
    · rw [if_neg (fun e => h12 e.1)]
      unfold termS
      rw [list_long (by omega) (by unfold MAXV; omega), if_neg (by decide)]
  · rw [if_neg h, if_neg (fun e => h e.2)]

theorem impl_Atom_ev (d : ByteArray) (hd : d.size ≤ 1000000000) : Ev (fun k => impl_Atom.f k d) (atomS d) := by
  unfold impl_Atom.f
  refine Ev.bind (impl_Var_ev _) ?_
  have h7 := @var_size (d.size : Int)
  have h1 : (⟨#[97]⟩ : ByteArray).size = 1 := rfl
  have a1 : 1 + (varS (d.size : Int)).size ≤ 9223372036854775807 := by omega
  have a2 : ((⟨#[97]⟩ : ByteArray) ++ varS (d.size : Int)).size + d.size ≤ 9223372036854775807 := by rw [ByteArray.size_append]; omega
  simp only [a1, a2, if_true]
  refine Ev.bind (impl_term_ev _ (by rw [ByteArray.size_append, ByteArray.size_append]; omega)) (ev_eq (Ev.now _) rfl)

theorem toList_nil (s : ByteArray) : s.toList = ([] : List UInt8) ↔ s = (⟨#[]⟩ : ByteArray) := by
  have h := toList_iff s (⟨#[]⟩ : ByteArray)
  have e : (⟨#[]⟩ : ByteArray).toList = [] := by rw [ByteArray.toList_eq]
  rw [e] at h
  exact h

theorem impl_Num_ev (n : Int) : Ev (fun k => impl_Num.f k n) (numS n) := by
  unfold impl_Num.f
  refine Ev.bind (impl_Var_ev n) ?_
  unfold numS
  simp only [toList_nil]
  by_cases h : varS n = (⟨#[]⟩ : ByteArray)
  · simp only [h, if_true]; exact Ev.now _
  · simp only [h, if_false]
    have := @var_size n
    exact Ev.bind (impl_Atom_ev _ (by omega)) (ev_eq (Ev.now _) rfl)

theorem listS_long {ps : List ByteArray} (h : 12 < ps.length) : listS ps = (⟨#[]⟩ : ByteArray) := by unfold listS; rw [if_neg (fun e => by omega)]
theorem impl_Nums_loop (l : List Int) (hl : l.length ≤ 1073741824) (d : Nat) : ∀ (i : Nat), i + d = l.length →
    Ev (fun k => impl_Nums.l0 k ((l.take i).map numS) l (l.length : Int) (i : Int)) (if ((l.drop i).all fun n => decide (0 ≤ n ∧ n ≤ 562949953421311)) = true then listS (l.map numS) else ⟨#[]⟩) := by
  induction d with
  | zero =>
    intro i hi
    rw [List.drop_of_length_le (by omega), List.take_of_length_le (by omega)]
    simp only [List.all_nil, if_true]
    refine Ev.step (f := fun k => (impl_List.f k (l.map numS)).bind fun t => some t) (fun k => ?_) (Ev.bind (impl_List_ev _ (by rw [List.length_map]; omega) (fun p hp => ?_)) (Ev.now _))
    · simp only [impl_Nums.l0]; rw [if_neg (by omega)]
    · obtain ⟨n, _, rfl⟩ := List.mem_map.mp hp
      have := numS_size n; omega
  | succ d ih =>
    intro i hi
    have hlt : i < l.length := by omega
    have hcons : l.drop i = l[i] :: l.drop (i + 1) := List.drop_eq_getElem_cons hlt
    have hw : Aside0 (wrap64 ((i : Int) + 1) = ((i + 1 : Nat) : Int)) := ⟨by rw [w64 (by omega) (by omega)]; omega⟩
    refine Ev.step (f := fun k => (impl_Num.f k l[i]).bind fun t => (if t.toList = ([] : List UInt8) then some (⟨#[]⟩ : ByteArray) else (if ((l.take i).map numS).length < 8796093022208 then impl_Nums.l0 k ((l.take i).map numS ++ [t]) l (l.length : Int) ((i + 1 : Nat) : Int) else none))) (fun k => ?_) (Ev.bind (impl_Num_ev l[i]) ?_)
    · simp only [impl_Nums.l0]; rw [if_pos (by omega), if_pos (by omega), if_pos (by omega), rd_get l i hlt, hw.out]
    · simp only [toList_nil]
      rw [hcons, List.all_cons]
      by_cases h : 0 ≤ l[i] ∧ l[i] ≤ 562949953421311
      · have hne := (numS_in h).2.2
        have hr := ih (i + 1) (by omega)
        have hlen : ((l.take i).map numS).length < 8796093022208 := by rw [List.length_map, List.length_take]; omega
        simp only [hne, hlen, if_false, if_true]
        rw [decide_eq_true h, Bool.true_and]
        rw [List.take_succ_eq_append_getElem hlt, List.map_append] at hr
        exact hr
      · rw [decide_eq_false h, Bool.false_and, numS_out h]
        simp only [Bool.false_eq_true, if_true, if_false]
        exact Ev.now _
theorem impl_Nums_ev (l : List Int) (hl : l.length ≤ 1073741824) : Ev (fun k => impl_Nums.f k l) (numsS l) := by
  unfold impl_Nums.f
  refine ev_eq (impl_Nums_loop l hl l.length 0 (by omega)) ?_
  unfold numsS
  rw [List.drop_zero]
  by_cases h : (l.all fun n => decide (0 ≤ n ∧ n ≤ 562949953421311)) = true
  · rw [if_pos h]
    by_cases h12 : l.length ≤ 12
    · rw [if_pos ⟨h12, h⟩]
    · rw [if_neg (fun e => h12 e.1), listS_long (by rw [List.length_map]; omega)]
  · rw [if_neg h, if_neg (fun e => h e.2)]

theorem impl_isTime_eq (a : Int) : impl_isTime.f a = some (decide (0 ≤ a ∧ a ≤ 100000)) := by
  unfold impl_isTime.f; rw [impl_within_eq, Option.bind_some]

theorem impl_RestOk_eq (s o e : Int) : impl_RestOk.f s o e = some (restB s o e) := by
  unfold impl_RestOk.f restB
  simp only [impl_within_eq, impl_isTime_eq, Option.bind_some]
  by_cases h1 : 0 ≤ s ∧ s ≤ 7 <;> by_cases h2 : 0 ≤ o ∧ o ≤ 255 <;> simp [h1, h2]

theorem impl_ShowRest_ev (s o e : Int) : Ev (fun k => impl_ShowRest.f k s o e) (srS s o e) := by
  unfold impl_ShowRest.f srS
  simp only [impl_RestOk_eq, Option.bind_some]
  by_cases h : restB s o e = true
  · simp only [h, if_true]
    exact Ev.bind (impl_Nums_ev _ (by simp)) (Ev.now _)
  · simp only [h]
    exact Ev.now _

theorem impl_isRealm_eq (a : Int) : impl_isRealm.f a = some (decide (0 ≤ a ∧ a < 3)) := by
  unfold impl_isRealm.f
  rw [impl_within_eq, Option.bind_some]
  congr 1
  exact decide_eq_decide.mpr (by omega)

theorem impl_isService_eq (a : Int) : impl_isService.f a = some (decide (0 ≤ a ∧ a ≤ 2)) := by
  unfold impl_isService.f; rw [impl_within_eq, Option.bind_some]

theorem impl_isPrincipal_eq (a : Int) : impl_isPrincipal.f a = some (decide (0 ≤ a ∧ a < 6)) := by
  unfold impl_isPrincipal.f
  rw [impl_within_eq, Option.bind_some]
  congr 1
  exact decide_eq_decide.mpr (by omega)

theorem impl_isFor_eq (a : Int) (h0 : -9223372036854775808 ≤ a) (h1 : a ≤ 9223372036854775807) : impl_isFor.f a = some (forB a) := by
  unfold impl_isFor.f forB
  simp only [impl_isService_eq, impl_isRealm_eq, Option.bind_some, wrap_for h0 h1]
  by_cases h1 : 0 ≤ a ∧ a ≤ 2 <;> simp [h1]

theorem impl_areAll_of_isRealm_ev (l : List Int) (most : Int) (hl : l.length ≤ 1048576) : Ev (fun k => impl_areAll_of_isRealm.f k l most) (allB ok3 l most) := by
  have loop : ∀ d i : Nat, i + d = l.length → (∀ j, j < i → ok3 (rd l (j : Int))) → Ev (fun k => impl_areAll_of_isRealm.l0 k l most l (l.length : Int) (i : Int)) (allB ok3 l most) := by
    intro d
    induction d with
    | zero =>
      intro i hi hj
      refine Ev.step (f := fun _ => some (decide ((l.length : Int) ≤ most))) (fun k => ?_) (ev_eq (Ev.now _) ?_)
      · simp only [impl_areAll_of_isRealm.l0]
        rw [if_neg (by omega)]
      · by_cases h : (l.length : Int) ≤ most
        · rw [decide_eq_true h, allB_t ⟨h, fun j h => hj j (by omega)⟩]
        · rw [decide_eq_false h, allB_f (fun hp => h hp.1)]
    | succ d ih =>
      intro i hi hj
      have hlt : i < l.length := by omega
      have e2 : wrap64 ((i : Int) + 1) = ((i + 1 : Nat) : Int) := by rw [w64 (x := (i : Int) + 1) (by omega) (by omega)]; omega
      have c1 : (i : Int) < (l.length : Int) := by omega
      have c2 : 0 ≤ (i : Int) := by omega
      by_cases a1 : ok3 (rd l (i : Int))
      · refine Ev.step (fun k => ?_) (ih (i + 1) (by omega) (fun j h => ?_))
        · simp only [impl_areAll_of_isRealm.l0, c1, c2, if_true, impl_isRealm_eq, Option.bind_some, e2]
          rw [decide_eq_true (by unfold ok3 at a1; omega), if_pos rfl]
        · by_cases hji : j = i
          · subst hji; exact a1
          · exact hj j (by omega)
      · refine Ev.step (f := fun _ => some false) (fun k => ?_) (ev_eq (Ev.now _) (allB_f (fun hp => a1 (hp.2 i hlt))).symm)
        simp only [impl_areAll_of_isRealm.l0, c1, c2, if_true, impl_isRealm_eq, Option.bind_some]
        rw [decide_eq_false (by unfold ok3 at a1; omega), if_neg (by decide)]
  unfold impl_areAll_of_isRealm.f
  exact loop l.length 0 (by omega) (fun j h => by omega)

theorem impl_areAll_of_isService_ev (l : List Int) (most : Int) (hl : l.length ≤ 1048576) : Ev (fun k => impl_areAll_of_isService.f k l most) (allB ok3 l most) := by
  have loop : ∀ d i : Nat, i + d = l.length → (∀ j, j < i → ok3 (rd l (j : Int))) → Ev (fun k => impl_areAll_of_isService.l0 k l most l (l.length : Int) (i : Int)) (allB ok3 l most) := by
    intro d
    induction d with
    | zero =>
      intro i hi hj
      refine Ev.step (f := fun _ => some (decide ((l.length : Int) ≤ most))) (fun k => ?_) (ev_eq (Ev.now _) ?_)
      · simp only [impl_areAll_of_isService.l0]
        rw [if_neg (by omega)]
      · by_cases h : (l.length : Int) ≤ most
        · rw [decide_eq_true h, allB_t ⟨h, fun j h => hj j (by omega)⟩]
        · rw [decide_eq_false h, allB_f (fun hp => h hp.1)]
    | succ d ih =>
      intro i hi hj
      have hlt : i < l.length := by omega
      have e2 : wrap64 ((i : Int) + 1) = ((i + 1 : Nat) : Int) := by rw [w64 (x := (i : Int) + 1) (by omega) (by omega)]; omega
      have c1 : (i : Int) < (l.length : Int) := by omega
      have c2 : 0 ≤ (i : Int) := by omega
      by_cases a1 : ok3 (rd l (i : Int))
      · refine Ev.step (fun k => ?_) (ih (i + 1) (by omega) (fun j h => ?_))
        · simp only [impl_areAll_of_isService.l0, c1, c2, if_true, impl_isService_eq, Option.bind_some, e2]
          rw [decide_eq_true (by unfold ok3 at a1; omega), if_pos rfl]
        · by_cases hji : j = i
          · subst hji; exact a1
          · exact hj j (by omega)
      · refine Ev.step (f := fun _ => some false) (fun k => ?_) (ev_eq (Ev.now _) (allB_f (fun hp => a1 (hp.2 i hlt))).symm)
        simp only [impl_areAll_of_isService.l0, c1, c2, if_true, impl_isService_eq, Option.bind_some]
        rw [decide_eq_false (by unfold ok3 at a1; omega), if_neg (by decide)]
  unfold impl_areAll_of_isService.f
  exact loop l.length 0 (by omega) (fun j h => by omega)

theorem impl_ticketOk_ev (c f i s o e : Int) (p v : List Int) (h0 : -9223372036854775808 ≤ f) (h1 : f ≤ 9223372036854775807) (hp : p.length ≤ 1048576) (hv : v.length ≤ 1048576) : Ev (fun k => impl_ticketOk.f k c f i s o e p v) (ticketB c f i s o e p v) := by
  unfold impl_ticketOk.f ticketB
  simp only [impl_isPrincipal_eq, impl_isFor_eq f h0 h1, impl_isKey_eq, impl_RestOk_eq, Option.bind_some]
  by_cases g1 : 0 ≤ c ∧ c < 6
  · rw [decide_eq_true g1]
    simp only [if_true, Bool.true_and]
    cases forB f with
    | false => simp only [Bool.false_and, Bool.false_eq_true, if_false]; exact Ev.now _
    | true =>
      simp only [if_true, Bool.true_and]
      by_cases g2 : 1 ≤ i ∧ i ≤ 1000000
      · rw [decide_eq_true g2]
        simp only [if_true, Bool.true_and]
        cases restB s o e with
        | false => simp only [Bool.false_and, Bool.false_eq_true, if_false]; exact Ev.now _
        | true =>
          simp only [if_true, Bool.true_and]
          refine Ev.bind (impl_areAll_of_isRealm_ev p 6 hp) ?_
          cases allB ok3 p 6 with
          | false => simp only [Bool.false_and, Bool.false_eq_true, if_false]; exact Ev.now _
          | true =>
            simp only [if_true, Bool.true_and]
            exact Ev.bind (impl_areAll_of_isService_ev v 4 hv) (Ev.now _)
      · rw [decide_eq_false g2]
        simp only [Bool.false_and, Bool.false_eq_true, if_false]; exact Ev.now _
  · rw [decide_eq_false g1]
    simp only [Bool.false_and, Bool.false_eq_true, if_false]; exact Ev.now _

theorem impl_Seal_ev (n : Int) (t : ByteArray) (ht : t.size ≤ 1000000000) : Ev (fun k => impl_Seal.f k n t) (sealS n t) := by
  have dead : Ev (fun k => impl_Seal.j0 k n t true) (⟨#[]⟩ : ByteArray) := by
    refine Ev.step (f := fun _ => some (⟨#[]⟩ : ByteArray)) (fun k => ?_) (Ev.now _)
    simp [impl_Seal.j0]
  unfold impl_Seal.f
  refine Ev.bind (impl_TermOk_ev t (by omega)) ?_
  have ho : termB (bl t) = okS t := rfl
  rw [ho]
  unfold sealS
  by_cases h1 : okS t = true
  · simp only [h1, if_true, impl_isKey_eq, Option.bind_some, true_and]
    by_cases h2 : 1 ≤ n ∧ n ≤ 1000000
    · rw [if_pos h2, decide_eq_true h2]
      have h7 := @var_size n
      have h1 : (⟨#[115]⟩ : ByteArray).size = 1 := rfl
      have a1 : 1 + (varS n).size ≤ 9223372036854775807 := by omega
      have a2 : ((⟨#[115]⟩ : ByteArray) ++ varS n).size + t.size ≤ 9223372036854775807 := by rw [ByteArray.size_append]; omega
      refine Ev.step (fun k => by simp only [impl_Seal.j0]; rw [if_neg (by decide)]) (Ev.bind (impl_Var_ev n) ?_)
      simp only [a1, a2, if_true]
      exact Ev.bind (impl_term_ev _ (by rw [ByteArray.size_append, ByteArray.size_append]; omega)) (ev_eq (Ev.now _) rfl)
    · rw [if_neg h2, decide_eq_false h2]
      exact dead
  · simp only [h1, false_and, if_false]
    exact dead

theorem impl_KeyTerm_ev (n : Int) : Ev (fun k => impl_KeyTerm.f k n) (keyS n) := by
  unfold impl_KeyTerm.f
  refine Ev.bind (impl_Var_ev n) ?_
  have h7 := @var_size n
  have hle : 1 + (varS n).size ≤ 9223372036854775807 := by omega
  simp only [hle, if_true]
  refine Ev.bind (impl_term_ev _ (by rw [ByteArray.size_append]; have : (⟨#[107]⟩ : ByteArray).size = 1 := rfl; omega)) (ev_eq (Ev.now _) ?_)
  unfold termS keyS
  rw [key_ok]
  by_cases h : 1 ≤ n ∧ n ≤ 1000000
  · rw [decide_eq_true h, if_pos rfl, if_pos h]
  · rw [decide_eq_false h, if_neg (by decide), if_neg h]

theorem impl_ShowTicket_ev (c f i s o e : Int) (p v : List Int) (key : Int) (h0 : -9223372036854775808 ≤ f) (h1 : f ≤ 9223372036854775807) (hp : p.length ≤ 1048576) (hv : v.length ≤ 1048576) : Ev (fun k => impl_ShowTicket.f k c f i s o e p v key) (stS c f i s o e p v key) := by
  unfold impl_ShowTicket.f stS
  refine Ev.bind (impl_ticketOk_ev c f i s o e p v h0 h1 hp hv) ?_
  by_cases h : ticketB c f i s o e p v = true
  · simp only [h, if_true]
    have s1 := numsS_size [c, f]
    have s2 := keyS_size i
    have s3 := srS_size s o e
    have s4 := numsS_size p
    have s5 := numsS_size v
    have s6 := listS_size [numsS [c, f], keyS i, srS s o e, numsS p, numsS v]
    refine Ev.bind (impl_Nums_ev _ (by simp)) (Ev.bind (impl_KeyTerm_ev i) (Ev.bind (impl_ShowRest_ev s o e) (Ev.bind (impl_Nums_ev p (by omega)) (Ev.bind (impl_Nums_ev v (by omega)) (Ev.bind (impl_List_ev _ (by simp) (fun q hq => ?_)) (Ev.bind (impl_Seal_ev _ _ (by omega)) (Ev.now _)))))))
    simp only [List.mem_cons, List.not_mem_nil, or_false] at hq
    rcases hq with rfl | rfl | rfl | rfl | rfl <;> omega
  · simp only [h, Bool.false_eq_true, if_false]
    exact Ev.now _

theorem impl_isOf_ev (s : ByteArray) (hs : s.size ≤ 140737488355327) (c : Nat) : Ev (fun k => impl_isOf.f k s (c : Int)) (isK s c) := by
  unfold impl_isOf.f
  refine Ev.bind (impl_TermOk_ev s hs) ?_
  have ho : termB (bl s) = okS s := rfl
  rw [ho]
  unfold isK
  by_cases h : okS s = true
  · have hz := okS_size h
    have h0 : 0 < (s.size : Int) := by omega
    have hl : 0 < (bl s).length := by rw [bl_len]; omega
    simp only [h, if_true, h0, Bool.true_and]
    refine ev_eq (Ev.now _) ?_
    have hb : bt s 0 = (((bl s)[0] : Nat) : Int) := bt_get s 0 hl
    rw [hb]
    have hh : (bl s).headD 0 = (bl s)[0] := headD_get _ hl
    rw [hh, Bool.eq_iff_iff]
    simp
    omega
  · simp only [h]
    exact Ev.now _

theorem impl_Parts_loop (s : ByteArray) (hs : s.size ≤ 140737488355327) (n : Nat) (r : Nat) : ∀ (i a q : Nat) (acc : List ByteArray), i + r = n → n ≤ 1000 → acc.length = i → a ≤ s.size → many (parse 8) r ((bl s).drop a) = some q →
    Ev (fun k => impl_Parts.l0 k s (a : Int) acc (n : Int) (i : Int)) (acc ++ spl s r a, true) := by
  induction r with
  | zero =>
    intro i a q acc hi hn ha has hm
    refine Ev.step (f := fun _ => some (acc, true)) (fun k => ?_) (ev_eq (Ev.now _) ?_)
    · simp only [impl_Parts.l0]; rw [if_neg (by omega)]
    · simp [spl]
  | succ r ih =>
    intro i a q acc hi hn ha has hm
    rw [many_succ] at hm
    cases hp : parse 8 ((bl s).drop a) with
    | none => rw [hp] at hm; cases hm
    | some m =>
      rw [hp] at hm
      simp only [] at hm
      have hle := parse_le 8 _ _ hp
      rw [List.length_drop, bl_len] at hle
      cases hq : many (parse 8) r (((bl s).drop a).drop m) with
      | none => rw [hq] at hm; cases hm
      | some q' =>
        rw [List.drop_drop] at hq
        have hr := ih (i + 1) (a + m) q' (acc ++ [s.extract a (a + m)]) (by omega) hn (by simp; omega) (by omega) hq
        have ht := impl_termAt_ev s hs 8 a (by decide) has
        rw [hp] at ht
        have hw : Aside0 (wrap64 ((i : Int) + 1) = ((i + 1 : Nat) : Int)) := ⟨by rw [w64 (by omega) (by omega)]; omega⟩
        refine Ev.step (f := fun k => (impl_termAt.f k s (a : Int) ((8 : Nat) : Int)).bind fun t166 => (if 0 ≤ (a : Int) then (if (a : Int) ≤ t166 then (if t166 ≤ (s.size : Int) then (if acc.length < 8796093022208 then (impl_Parts.l0 k s t166 (acc ++ [s.extract (a : Int).toNat (t166 : Int).toNat]) (n : Int) ((i + 1 : Nat) : Int)) else (none)) else (none)) else (none)) else (none))) (fun k => ?_) (Ev.bind ht ?_)
        · simp only [impl_Parts.l0]; rw [if_pos (by omega), hw.out]; rfl
        · have a1 : (a : Int) ≤ ((a + m : Nat) : Int) := by omega
          have a2 : ((a + m : Nat) : Int) ≤ (s.size : Int) := by omega
          have a3 : acc.length < 8796093022208 := by omega
          have a0 : 0 ≤ (a : Int) := by omega
          simp only [tA, a0, a1, a2, a3, if_true, Int.toNat_natCast]
          refine ev_eq hr ?_
          rw [spl, hp]; simp
theorem impl_Parts_ev (s : ByteArray) (hs : s.size ≤ 140737488355327) : Ev (fun k => impl_Parts.f k s) (partsS s) := by
  unfold impl_Parts.f
  refine Ev.bind (impl_isOf_ev s hs 108) ?_
  unfold partsS
  by_cases h : isK s 108 = true
  · have ho := isK_ok h
    have hr := okS_rv ho
    obtain ⟨h12, q, hq⟩ := list_cases h
    simp only [h, if_true]
    refine Ev.bind (impl_varAt_ev s hs 1 (okS_size ho).1) ?_
    rw [okS_vA ho]
    exact impl_Parts_loop s hs (nOf s) (nOf s) 0 (1 + kOf s) q [] (by omega) (by omega) rfl (by omega) hq
  · simp only [h]
    exact Ev.now _

theorem impl_ReadAtom_ev (s : ByteArray) (hs : s.size ≤ 140737488355327) : Ev (fun k => impl_ReadAtom.f k s) (raS s) := by
  unfold impl_ReadAtom.f
  refine Ev.bind (impl_isOf_ev s hs 97) ?_
  unfold raS
  by_cases h : isK s 97 = true
  · have ho := isK_ok h
    have hr := okS_rv ho
    simp only [h, if_true]
    refine Ev.bind (impl_varAt_ev s hs 1 (okS_size ho).1) ?_
    rw [okS_vA ho]
    have a1 : 0 ≤ ((1 + kOf s : Nat) : Int) := by omega
    have a2 : ((1 + kOf s : Nat) : Int) ≤ (s.size : Int) := by omega
    simp only [a1, a2, if_true, Int.toNat_natCast]
    exact Ev.now _
  · simp only [h]
    exact Ev.now _

theorem impl_ReadNum_ev (s : ByteArray) (hs : s.size ≤ 140737488355327) : Ev (fun k => impl_ReadNum.f k s) (rnS s) := by
  unfold impl_ReadNum.f
  refine Ev.bind (impl_ReadAtom_ev s hs) ?_
  have hz : (raS s).1.size ≤ 140737488355327 := by
    unfold raS; split
    · rw [ByteArray.size_extract]; omega
    · decide
  refine Ev.bind (impl_ReadVar_ev _ hz) ?_
  by_cases h1 : (raS s).2 = true
  · by_cases h2 : (rvI (bl (raS s).1)).2 = 0
    · have e : rnS s = (0, false) := by unfold rnS; rw [if_neg (fun e => e.2.1 h2)]
      rw [e]
      simp only [h1, h2, if_true]; exact Ev.now _
    · by_cases h3 : (rvI (bl (raS s).1)).2 = ((raS s).1.size : Int)
      · have e : rnS s = ((rvI (bl (raS s).1)).1, true) := by unfold rnS; rw [if_pos ⟨h1, h2, h3⟩]
        rw [e]
        simp only [h1, h2, if_true, if_false]
        simp only [h3, if_true]; exact Ev.now _
      · have e : rnS s = (0, false) := by unfold rnS; rw [if_neg (fun e => h3 e.2.2)]
        rw [e]
        simp only [h1, h2, if_true, if_false]
        simp only [h3, if_false]; exact Ev.now _
  · have e : rnS s = (0, false) := by unfold rnS; rw [if_neg (fun e => h1 e.1)]
    rw [e]
    simp only [h1]
    exact Ev.now _

theorem impl_ReadNums_loop (ps : List ByteArray) (hl : ps.length ≤ 12) (hp : ∀ p ∈ ps, p.size ≤ 900) (d : Nat) : ∀ (i : Nat), i + d = ps.length →
    Ev (fun k => impl_ReadNums.l0 k ((ps.take i).map fun p => (rnS p).1) ps (ps.length : Int) (i : Int)) (if ((ps.drop i).all fun p => (rnS p).2) = true then (ps.map fun p => (rnS p).1, true) else ([], false)) := by
  induction d with
  | zero =>
    intro i hi
    rw [List.drop_of_length_le (by omega), List.take_of_length_le (by omega)]
    simp only [List.all_nil, if_true]
    refine Ev.step (f := fun _ => some (ps.map fun p => (rnS p).1, true)) (fun k => ?_) (Ev.now _)
    simp only [impl_ReadNums.l0]; rw [if_neg (by omega)]
  | succ d ih =>
    intro i hi
    have hlt : i < ps.length := by omega
    have hcons : ps.drop i = ps[i] :: ps.drop (i + 1) := List.drop_eq_getElem_cons hlt
    have hsz := hp _ (List.getElem_mem hlt)
    have hw : Aside0 (wrap64 ((i : Int) + 1) = ((i + 1 : Nat) : Int)) := ⟨by rw [w64 (by omega) (by omega)]; omega⟩
    refine Ev.step (f := fun k => (impl_ReadNum.f k ps[i]).bind fun t => (if t.2 = true then (if ((ps.take i).map fun p => (rnS p).1).length < 17592186044416 then impl_ReadNums.l0 k ((ps.take i).map (fun p => (rnS p).1) ++ [t.1]) ps (ps.length : Int) ((i + 1 : Nat) : Int) else none) else some (([] : List Int), false))) (fun k => ?_) (Ev.bind (impl_ReadNum_ev ps[i] (by omega)) ?_)
    · simp only [impl_ReadNums.l0]; rw [if_pos (by omega), if_pos (by omega), if_pos (by omega), rdOf_get ps i hlt, hw.out]
    · rw [hcons, List.all_cons]
      by_cases h : (rnS ps[i]).2 = true
      · have hr := ih (i + 1) (by omega)
        have hlen : ((ps.take i).map fun p => (rnS p).1).length < 17592186044416 := by rw [List.length_map, List.length_take]; omega
        simp only [h, hlen, if_true, Bool.true_and]
        rw [List.take_succ_eq_append_getElem hlt, List.map_append] at hr
        exact hr
      · rw [Bool.eq_false_iff.mpr h, Bool.false_and]
        simp only [Bool.false_eq_true, if_false]
        exact Ev.now _
theorem impl_ReadNums_ev (s : ByteArray) (hs : s.size ≤ 140737488355327) : Ev (fun k => impl_ReadNums.f k s) (rnsS s) := by
  unfold impl_ReadNums.f
  refine Ev.bind (impl_Parts_ev s hs) ?_
  unfold rnsS
  by_cases h : (partsS s).2 = true
  · simp only [h, if_true, true_and]
    refine ev_eq (impl_ReadNums_loop _ (partsS_len s) (fun p hp => mem_parts hp) (partsS s).1.length 0 (by omega)) ?_
    rw [List.drop_zero]
  · have h' : ¬ ((partsS s).2 = true ∧ ((partsS s).1.all fun p => (rnS p).2) = true) := fun e => h e.1
    rw [if_neg h']
    simp only [h]
    exact Ev.now _

theorem impl_ReadRest_ev (s : ByteArray) (hs : s.size ≤ 140737488355327) : Ev (fun k => impl_ReadRest.f k s) (rrS s) := by
  have dead : ∀ l, Ev (fun k => impl_ReadRest.j0 k l true) (0, 0, 0, false) := by
    intro l
    refine Ev.step (f := fun _ => some (0, 0, 0, false)) (fun k => ?_) (Ev.now _)
    simp [impl_ReadRest.j0]
  unfold impl_ReadRest.f
  refine Ev.bind (impl_ReadNums_ev s hs) ?_
  unfold rrS
  cases h2 : (rnsS s).2 with
  | false =>
    simp only [Bool.false_eq_true, if_false]
    refine ev_eq (dead _) ?_
    split
    · rename_i e; cases e
    · rfl
  | true =>
    simp only [if_true]
    cases hl : (rnsS s).1 with
    | nil => exact dead _
    | cons a t1 =>
      cases t1 with
      | nil => exact dead _
      | cons b t2 =>
        cases t2 with
        | nil => exact dead _
        | cons c t3 =>
          cases t3 with
          | nil =>
            refine Ev.step (f := fun _ => some (if restB a b c = true then (a, b, c, true) else (0, 0, 0, false))) (fun k => ?_) (Ev.now _)
            have r0 : rd [a, b, c] 0 = a := rfl
            have r1 : rd [a, b, c] 1 = b := rfl
            have r2 : rd [a, b, c] 2 = c := rfl
            simp only [impl_ReadRest.j0, r0, r1, r2, impl_RestOk_eq, Option.bind_some]
            rw [if_neg (by simp), if_pos (by simp), if_pos (by simp), if_pos (by simp)]
            split <;> rfl
          | cons d t4 =>
            have e : (((a :: b :: c :: d :: t4).length : Int) != 3) = true := by
              rw [bne_iff_ne]; simp only [List.length_cons]; omega
            rw [e]
            exact dead _

noncomputable def sdS (s : ByteArray) : Int × ByteArray × Bool := if isK s 115 = true then ((nOf s : Int), s.extract (1 + kOf s) s.size, true) else (0, ⟨#[]⟩, false)
theorem impl_sealed_ev (s : ByteArray) (hs : s.size ≤ 140737488355327) : Ev (fun k => impl_sealed.f k s) (sdS s) := by
  unfold impl_sealed.f
  refine Ev.bind (impl_isOf_ev s hs 115) ?_
  unfold sdS
  by_cases h : isK s 115 = true
  · have ho := isK_ok h
    have hr := okS_rv ho
    simp only [h, if_true]
    refine Ev.bind (impl_varAt_ev s hs 1 (okS_size ho).1) ?_
    rw [okS_vA ho]
    have a1 : 0 ≤ ((1 + kOf s : Nat) : Int) := by omega
    have a2 : ((1 + kOf s : Nat) : Int) ≤ (s.size : Int) := by omega
    simp only [a1, a2, if_true, Int.toNat_natCast]
    exact Ev.now _
  · simp only [h]
    exact Ev.now _

theorem impl_Open_ev (s : ByteArray) (hs : s.size ≤ 140737488355327) (n : Int) : Ev (fun k => impl_Open.f k s n) (opS s n) := by
  unfold impl_Open.f
  refine Ev.bind (impl_sealed_ev s hs) ?_
  unfold sdS opS
  by_cases h : isK s 115 = true
  · simp only [h, if_true, true_and]
    by_cases hn : (nOf s : Int) = n
    · simp only [hn, if_true]; exact Ev.now _
    · simp only [hn, if_false]; exact Ev.now _
  · simp only [h]
    exact Ev.now _

theorem impl_ReadKey_ev (s : ByteArray) (hs : s.size ≤ 140737488355327) : Ev (fun k => impl_ReadKey.f k s) (rkS s) := by
  unfold impl_ReadKey.f
  refine Ev.bind (impl_isOf_ev s hs 107) ?_
  unfold rkS
  by_cases h : isK s 107 = true
  · have ho := isK_ok h
    simp only [h, if_true]
    refine Ev.bind (impl_varAt_ev s hs 1 (okS_size ho).1) ?_
    rw [okS_vA ho]
    exact Ev.now _
  · simp only [h]
    exact Ev.now _

theorem impl_ReadTicket_ev (s : ByteArray) (hs : s.size ≤ 1073741824) (key : Int) : Ev (fun k => impl_ReadTicket.f k s key) (rtS s key) := by
  have ho := opS_size s key
  unfold impl_ReadTicket.f
  refine Ev.bind (impl_Open_ev s (by omega) key) (Ev.bind (impl_Parts_ev _ (by omega)) ?_)
  by_cases h3 : (partsS (opS s key).1).1.length = 5
  · obtain ⟨w, i, r, p, v, hl⟩ : ∃ w i r p v, (partsS (opS s key).1).1 = [w, i, r, p, v] := by
      match (partsS (opS s key).1).1, h3 with
      | [w, i, r, p, v], _ => exact ⟨w, i, r, p, v, rfl⟩
    have zw : w.size ≤ 900 := mem_parts (by rw [hl]; simp)
    have zi : i.size ≤ 900 := mem_parts (by rw [hl]; simp)
    have zr : r.size ≤ 900 := mem_parts (by rw [hl]; simp)
    have zp : p.size ≤ 900 := mem_parts (by rw [hl]; simp)
    have zv : v.size ≤ 900 := mem_parts (by rw [hl]; simp)
    have r0 : rdOf ByteArray.empty [w, i, r, p, v] 0 = w := rfl
    have r1 : rdOf ByteArray.empty [w, i, r, p, v] 1 = i := rfl
    have r2 : rdOf ByteArray.empty [w, i, r, p, v] 2 = r := rfl
    have r3 : rdOf ByteArray.empty [w, i, r, p, v] 3 = p := rfl
    have r4 : rdOf ByteArray.empty [w, i, r, p, v] 4 = v := rfl
    have e3 : (([w, i, r, p, v] : List ByteArray).length : Int) = 5 := rfl
    simp only [hl, e3, if_true, r0, r1, r2, r3, r4, show (0 : Int) < 5 from by decide, show (1 : Int) < 5 from by decide, show (2 : Int) < 5 from by decide, show (3 : Int) < 5 from by decide, show (4 : Int) < 5 from by decide]
    refine Ev.bind (impl_ReadNums_ev w (by omega)) ?_
    by_cases h5 : (rnsS w).1.length = 2
    · obtain ⟨c, f, e⟩ : ∃ c f, (rnsS w).1 = [c, f] := by
        match (rnsS w).1, h5 with
        | [c, f], _ => exact ⟨c, f, rfl⟩
      have hq2 : (rnsS w).2 = true := by
        cases h : (rnsS w).2 with
        | true => rfl
        | false =>
          exfalso
          unfold rnsS at h e
          split at h
          · cases h
          · rename_i hh; rw [if_neg hh] at e; cases e
      have hb := (read_nums (Prod.ext e hq2)).2.2.2 f (by simp)
      have hiff := rt_iff hl e
      have lp := rnsS_le p
      have lv := rnsS_le v
      have d0 : rd [c, f] 0 = c := rfl
      have d1 : rd [c, f] 1 = f := rfl
      have e2 : (([c, f] : List Int).length : Int) = 2 := rfl
      simp only [e, e2, if_true, d0, d1, show (0 : Int) < 2 from by decide, show (1 : Int) < 2 from by decide]
      refine Ev.bind (impl_ReadKey_ev i (by omega)) (Ev.bind (impl_ReadRest_ev r (by omega)) (Ev.bind (impl_ReadNums_ev p (by omega)) (Ev.bind (impl_ReadNums_ev v (by omega)) (Ev.bind (impl_ShowTicket_ev c f _ _ _ _ _ _ key (by omega) (by omega) (by omega) (by omega)) ?_))))
      rw [rtS_in hl e]
      simp only [toList_iff]
      by_cases he : stS c f (rkS i).1 (rrS r).1 (rrS r).2.1 (rrS r).2.2.1 (rnsS p).1 (rnsS v).1 key = s
      · rw [if_pos (hiff.1 he)]
        simp only [he, if_true]
        exact Ev.now _
      · rw [if_neg (fun hh => he (hiff.2 hh))]
        simp only [he, if_false]
        exact Ev.now _
    · have h5' : ¬ (((rnsS w).1.length : Int) = 2) := by omega
      simp only [h5', if_false]
      exact ev_eq (Ev.now _) (rtS_len2 hl h5).symm
  · have h3' : ¬ (((partsS (opS s key).1).1.length : Int) = 5) := by omega
    simp only [h3', if_false]
    exact ev_eq (Ev.now _) (rtS_len h3).symm

def marksI (n : Nat) : List Int := (List.range n).map fun i => ((1 + i : Nat) : Int)
theorem marksI_len (n : Nat) : (marksI n).length = n := by simp [marksI]
theorem marksI_succ (n : Nat) : marksI (n + 1) = marksI n ++ [((1 + n : Nat) : Int)] := by simp [marksI, List.range_succ]
theorem laws_markIntS_ev (l : List Int) (hl : l.length ≤ 1073741824) : Ev (fun k => laws_markIntS.f k l 1) (((1 + l.length : Nat) : Int), marksI l.length) := by
  have loop : ∀ (d i : Nat) (rest : List Int), rest.length = d → i + d ≤ 1073741824 → Ev (fun k => laws_markIntS.l0 k (marksI i ++ rest) ((1 + i : Nat) : Int) (i : Int)) (((1 + (i + d) : Nat) : Int), marksI (i + d)) := by
    intro d
    induction d with
    | zero =>
      intro i rest hr hi
      have : rest = [] := List.eq_nil_of_length_eq_zero hr
      subst this
      refine Ev.step (f := fun _ => some (((1 + i : Nat) : Int), marksI i)) (fun k => ?_) (Ev.now _)
      simp only [laws_markIntS.l0, List.append_nil]
      rw [if_neg (by rw [marksI_len]; omega)]
    | succ d ih =>
      intro i rest hr hi
      match rest, hr with
      | x :: rest, hr =>
        simp only [List.length_cons] at hr
        have hlen : i < (marksI i ++ x :: rest).length := by rw [List.length_append, marksI_len, List.length_cons]; omega
        have hset : (marksI i ++ x :: rest).set i ((1 + i : Nat) : Int) = marksI i ++ ((1 + i : Nat) : Int) :: rest := by
          rw [List.set_append_right _ _ (by rw [marksI_len]; omega), marksI_len]; simp
        have hr' := ih (i + 1) rest (by omega) (by omega)
        rw [marksI_succ, List.append_assoc] at hr'
        have e : i + 1 + d = i + (d + 1) := by omega
        rw [e] at hr'
        refine Ev.step (fun k => ?_) hr'
        simp only [laws_markIntS.l0]
        have a1 : wrap64 (((1 + i : Nat) : Int) + 1) = ((1 + (i + 1) : Nat) : Int) := by rw [w64 (by omega) (by omega)]; omega
        rw [if_pos (by omega), if_pos (by omega), a1]
        clear a1
        have a4 : wrap64 ((i : Int) + 1) = ((i + 1 : Nat) : Int) := by rw [w64 (by omega) (by omega)]; omega
        rw [a4, Int.toNat_natCast, hset]
        rfl
  unfold laws_markIntS.f
  have := loop l.length 0 l rfl (by omega)
  simpa [marksI] using this
theorem laws_heldIntS_ev (n : Nat) (hl : n ≤ 1073741824) : Ev (fun k => laws_heldIntS.f k (marksI n) 1) ((1 + n : Nat) : Int) := by
  have loop : ∀ d i : Nat, i + d = n → Ev (fun k => laws_heldIntS.l0 k (marksI n) ((1 + i : Nat) : Int) (i : Int)) ((1 + n : Nat) : Int) := by
    intro d
    induction d with
    | zero =>
      intro i hi
      have : i = n := by omega
      subst this
      refine Ev.step (f := fun _ => some ((1 + i : Nat) : Int)) (fun k => ?_) (Ev.now _)
      simp only [laws_heldIntS.l0]
      rw [if_neg (by rw [marksI_len]; omega)]
    | succ d ih =>
      intro i hi
      have hrd : rd (marksI n) (i : Int) = ((1 + i : Nat) : Int) := by
        rw [rd_get _ _ (by rw [marksI_len]; omega)]
        simp [marksI]
      refine Ev.step (fun k => ?_) (ih (i + 1) (by omega))
      simp only [laws_heldIntS.l0]
      rw [if_pos (by rw [marksI_len]; omega), if_pos (by omega), hrd, if_pos rfl]
      have a1 : wrap64 (((1 + i : Nat) : Int) + 1) = ((1 + (i + 1) : Nat) : Int) := by rw [w64 (by omega) (by omega)]; omega
      rw [a1]
      clear a1
      have a4 : wrap64 ((i : Int) + 1) = ((i + 1 : Nat) : Int) := by rw [w64 (by omega) (by omega)]; omega
      rw [a4]
  unfold laws_heldIntS.f
  exact loop n 0 (by omega)

def marksF (b n : Nat) : List Int := (List.range n).map fun i => ((b + i : Nat) : Int)
theorem marksF_len (b n : Nat) : (marksF b n).length = n := by simp [marksF]
theorem marksF_succ (b n : Nat) : marksF b (n + 1) = marksF b n ++ [((b + n : Nat) : Int)] := by simp [marksF, List.range_succ]
theorem laws_markIntS_from (b : Nat) (l : List Int) (hb : b ≤ 1073741824) (hl : l.length ≤ 1073741824) : Ev (fun k => laws_markIntS.f k l (b : Int)) (((b + l.length : Nat) : Int), marksF b l.length) := by
  have loop : ∀ (d i : Nat) (rest : List Int), rest.length = d → i + d ≤ 1073741824 → Ev (fun k => laws_markIntS.l0 k (marksF b i ++ rest) ((b + i : Nat) : Int) (i : Int)) (((b + (i + d) : Nat) : Int), marksF b (i + d)) := by
    intro d
    induction d with
    | zero =>
      intro i rest hr hi
      have : rest = [] := List.eq_nil_of_length_eq_zero hr
      subst this
      refine Ev.step (f := fun _ => some (((b + i : Nat) : Int), marksF b i)) (fun k => ?_) (Ev.now _)
      simp only [laws_markIntS.l0, List.append_nil]
      rw [if_neg (by rw [marksF_len]; omega)]
    | succ d ih =>
      intro i rest hr hi
      match rest, hr with
      | x :: rest, hr =>
        simp only [List.length_cons] at hr
        have hlen : i < (marksF b i ++ x :: rest).length := by rw [List.length_append, marksF_len, List.length_cons]; omega
        have hset : (marksF b i ++ x :: rest).set i ((b + i : Nat) : Int) = marksF b i ++ ((b + i : Nat) : Int) :: rest := by
          rw [List.set_append_right _ _ (by rw [marksF_len]; omega), marksF_len]; simp
        have hr' := ih (i + 1) rest (by omega) (by omega)
        rw [marksF_succ, List.append_assoc] at hr'
        have e : i + 1 + d = i + (d + 1) := by omega
        rw [e] at hr'
        refine Ev.step (fun k => ?_) hr'
        simp only [laws_markIntS.l0]
        have a1 : wrap64 (((b + i : Nat) : Int) + 1) = ((b + (i + 1) : Nat) : Int) := by rw [w64 (by omega) (by omega)]; omega
        rw [if_pos (by omega), if_pos (by omega), a1]
        clear a1
        have a4 : wrap64 ((i : Int) + 1) = ((i + 1 : Nat) : Int) := by rw [w64 (by omega) (by omega)]; omega
        rw [a4, Int.toNat_natCast, hset]
        rfl
  unfold laws_markIntS.f
  have := loop l.length 0 l rfl (by omega)
  simpa [marksF] using this
theorem laws_heldIntS_from (b n : Nat) (hb : b ≤ 1073741824) (hl : n ≤ 1073741824) : Ev (fun k => laws_heldIntS.f k (marksF b n) (b : Int)) ((b + n : Nat) : Int) := by
  have loop : ∀ d i : Nat, i + d = n → Ev (fun k => laws_heldIntS.l0 k (marksF b n) ((b + i : Nat) : Int) (i : Int)) ((b + n : Nat) : Int) := by
    intro d
    induction d with
    | zero =>
      intro i hi
      have : i = n := by omega
      subst this
      refine Ev.step (f := fun _ => some ((b + i : Nat) : Int)) (fun k => ?_) (Ev.now _)
      simp only [laws_heldIntS.l0]
      rw [if_neg (by rw [marksF_len]; omega)]
    | succ d ih =>
      intro i hi
      have hrd : rd (marksF b n) (i : Int) = ((b + i : Nat) : Int) := by
        rw [rd_get _ _ (by rw [marksF_len]; omega)]
        simp [marksF]
      refine Ev.step (fun k => ?_) (ih (i + 1) (by omega))
      simp only [laws_heldIntS.l0]
      rw [if_pos (by rw [marksF_len]; omega), if_pos (by omega), hrd, if_pos rfl]
      have a1 : wrap64 (((b + i : Nat) : Int) + 1) = ((b + (i + 1) : Nat) : Int) := by rw [w64 (by omega) (by omega)]; omega
      rw [a1]
      clear a1
      have a4 : wrap64 ((i : Int) + 1) = ((i + 1 : Nat) : Int) := by rw [w64 (by omega) (by omega)]; omega
      rw [a4]
  unfold laws_heldIntS.f
  exact loop n 0 (by omega)

theorem laws_markTicket_ev (c f i s o e : Int) (l m : List Int) (hl : l.length ≤ 1073741) (hm : m.length ≤ 1073741) : Ev (fun k => laws_markTicket.f k c f i s o e l m 1) (((1 + l.length + m.length : Nat) : Int), marksF 1 l.length, marksF (1 + l.length) m.length) := by
  unfold laws_markTicket.f
  exact Ev.bind (laws_markIntS_from 1 l (by decide) (by omega)) (Ev.bind (laws_markIntS_from (1 + l.length) m (by omega) (by omega)) (Ev.now _))

theorem laws_heldTicket_ev (c f i s o e : Int) (n m : Nat) (hl : n ≤ 1073741) (hm : m ≤ 1073741) : Ev (fun k => laws_heldTicket.f k c f i s o e (marksF 1 n) (marksF (1 + n) m) 1) ((1 + n + m : Nat) : Int) := by
  unfold laws_heldTicket.f
  refine Ev.bind (laws_heldIntS_from 1 n (by decide) (by omega)) ?_
  have h1 : ¬ (((1 + n : Nat) : Int) < 0) := by omega
  simp only [h1, if_false]
  refine Ev.bind (laws_heldIntS_from (1 + n) m (by omega) (by omega)) ?_
  have h2 : ¬ (((1 + n + m : Nat) : Int) < 0) := by omega
  simp only [h2, if_false]
  exact Ev.now _

theorem FnExactReadTicket : ∀ (a0 : ByteArray) (a1 : Int), a0.size ≤ 140737488351232 → (Lit.int .i64 a1).wf = true → ∃ k, laws_FnExactReadTicket.f k a0 a1 = some true := by
  intro s key
  intros
  by_cases h : (s.size : Int) > 1048576
  · exact ⟨0, by unfold laws_FnExactReadTicket.f; rw [if_pos h]⟩
  · apply Ev.rounds
    unfold laws_FnExactReadTicket.f
    simp only [h, if_false]
    have hsp := spec_ReadTicket_ev s (by omega) key
    have him := impl_ReadTicket_ev s (by omega) key
    have hlen := rtS_lens s key
    obtain ⟨⟨c, f, i, a, o, e, p, v, b⟩, hr⟩ : ∃ q, q = rtS s key := ⟨_, rfl⟩
    rw [← hr] at hsp him hlen
    simp only at hlen
    obtain ⟨lp, lv⟩ := hlen
    have heq := laws_eqTicket_self c f i a o e p v (by omega) (by omega)
    have hheld := laws_heldTicket_ev c f i a o e p.length v.length (by omega) (by omega)
    have neg : ¬ (((1 + p.length + v.length : Nat) : Int) < 0) := by omega
    have last : Ev (fun k => laws_FnExactReadTicket.j1 k ((1 + p.length + v.length : Nat) : Int) false c f i a o e (marksF 1 p.length) (marksF (1 + p.length) v.length)) true := by
      refine Ev.step (fun k => by simp only [laws_FnExactReadTicket.j1]; rw [if_neg (by decide)]) (Ev.bind hheld ?_)
      simp only [neg, if_true, if_false]
      exact Ev.now _
    have mid : Ev (fun k => laws_FnExactReadTicket.j0 k s key b false c f i a o e p v c f i a o e p v) true := by
      refine Ev.step (fun k => by simp only [laws_FnExactReadTicket.j0]; rw [if_neg (by decide)]) (Ev.bind (laws_markTicket_ev c f i a o e p v (by omega) (by omega)) (Ev.bind hheld ?_))
      simp only [neg, if_true, if_false]
      refine Ev.bind him (Ev.bind heq ?_)
      simp only [if_true, bne_self_eq_false]
      exact last
    refine Ev.bind hsp (Ev.bind him (Ev.bind heq ?_))
    simp only [if_true, bne_self_eq_false]
    exact mid

end Go.Proofs.Ytmhjpnjolgigmaa.Pure
