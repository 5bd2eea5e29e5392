-- Printed by a program of this session (a patched print).
import Derived.Test.YtgcijejmmhjibaaDoorBx0
import Derived.Test.YtgcijejmmhjibaaDoorBx1
import Derived.Test.YtgcijejmmhjibaaDoorBx2
import Derived.Test.YtgcijejmmhjibaaDoorBx3
import Derived.Test.YtgcijejmmhjibaaDoorBx4
import Derived.Test.YtgcijejmmhjibaaDoorBx5
namespace Go.Proofs.YtgcijejmmhjibaaDoor.B
open Go.RowKit Go.Proofs.YtgcijejmmhjibaaDoorW.PrintWords Go.Proofs.YtgcijejmmhjibaaDoorW.PrintLast Go.Proofs.YtgcijejmmhjibaaDoorW.PrintMore
attribute [local go_sem] max2_int min2_int max_two min_two max_three min_three max_four min_four   -- for this text's walks alone
set_option linter.unusedVariables false
set_option linter.unusedSimpArgs false

theorem s6qm0 {p : Prop} (h : p := by repeat' first | (with_reducible exact ih0 _ _ _ _) | (with_reducible exact ih1 _ _ _ _ _ _ _) | (with_reducible exact cost_checkRelations.mono _ _ _) | (with_reducible exact cost_joined.mono _ _ _) | (with_reducible exact cost_size.mono _ _ _ _) | (with_reducible exact LeO.refl _) | (with_reducible exact LeO.none _) | (with_reducible refine LeO.ite ?_ ?_) | (with_reducible refine LeO.bind ?_ (fun _ => ?_)) | exact ih0 _ _ _ _ | exact ih1 _ _ _ _ _ _ _ | exact cost_checkRelations.mono _ _ _ | exact cost_joined.mono _ _ _ | exact cost_size.mono _ _ _ _ | exact LeO.none _ | refine LeO.ite ?_ ?_ | refine LeO.bind ?_ (fun _ => ?_)) : p := h
theorem s6q0 {p : Prop} (h : p := by simp) : p := h
theorem s6q1 {p : Prop} (h : p := by omega) : p := h
theorem s6q2 {p : Prop} (h : p := by decide) : p := h
theorem s6q3 {p : Prop} (h : p := by rw [e_]; rfl) : p := h
theorem s6q4 {p : Prop} (h : p := by injection e209) : p := h
theorem s6q5 {p : Prop} (h : p := by injection e217) : p := h
theorem s6q6 {p : Prop} (h : p := by rw [hw, Ny205.out]; exact HP21.1) : p := h
theorem s6q7 {p : Prop} (h : p := by rw [hw, Ny216.out]; exact HP50.1) : p := h
theorem s6q8 {p : Prop} (h : p := by rw [hw, Ny224.out]; exact HP65.1) : p := h
theorem s6q9 {p : Prop} (h : p := by first | rfl | (simp; done) | (simp [*]; done)) : p := h
theorem s6q10 {p : Prop} (h : p := by first | (with_reducible assumption) | assumption) : p := h
theorem s6q11 {p : Prop} (h : p := by first | exact Int.natCast_pos.1 (Int.lt_of_le_of_lt p15 q15) | omega) : p := h
theorem s6q12 {p : Prop} (h : p := by first | exact Int.natCast_pos.1 (Int.lt_of_le_of_lt p39 q39) | omega) : p := h
theorem s6q13 {p : Prop} (h : p := by first | exact Int.natCast_pos.1 (Int.lt_of_le_of_lt p54 q54) | omega) : p := h
theorem s6q14 {p : Prop} (h : p := by (with_reducible repeat (first | apply Kd.S_alloc | apply Kd.S_drewN | apply Kd.S_drew)); exact HO_8.out) : p := h
theorem s6q15 {p : Prop} (h : p := by (with_reducible repeat (first | apply Kd.R_alloc | apply Kd.R_drewN | apply Kd.R_drew)); exact HO182.out) : p := h
theorem s6q16 {p : Prop} (h : p := by (with_reducible repeat (first | apply Kd.R_alloc | apply Kd.R_drewN | apply Kd.R_drew)); exact HO185.out) : p := h
theorem s6q17 {p : Prop} (h : p := by (with_reducible repeat (first | apply Kd.R_alloc | apply Kd.R_drewN | apply Kd.R_drew)); exact HO190.out) : p := h
theorem s6q18 {p : Prop} (h : p := by (with_reducible repeat (first | apply Kd.R_alloc | apply Kd.R_drewN | apply Kd.R_drew)); exact HO212.out) : p := h
theorem s6q19 {p : Prop} (h : p := by (with_reducible repeat (first | apply Kd.R_alloc | apply Kd.R_drewN | apply Kd.R_drew)); exact HO220.out) : p := h
theorem s6q20 {p : Prop} (h : p := by (with_reducible repeat (first | apply Kd.R_alloc | apply Kd.R_drewN | apply Kd.R_drew)); exact HL199_0.out) : p := h
theorem s6q21 {p : Prop} (h : p := by (with_reducible repeat (first | apply Kd.R_alloc | apply Kd.R_drewN | apply Kd.R_drew)); exact HL207_0.out) : p := h
theorem s6q22 {p : Prop} (h : p := by (with_reducible repeat (first | apply Kd.R_alloc | apply Kd.R_drewN | apply Kd.R_drew)); exact HL209_0.out) : p := h
theorem s6q23 {p : Prop} (h : p := by (with_reducible repeat (first | apply Kd.R_alloc | apply Kd.R_drewN | apply Kd.R_drew)); exact HL217_0.out) : p := h
theorem s6q24 {p : Prop} (h : p := by (with_reducible repeat (first | refine blk_drewN ?_ _ | refine blk_drew ?_ | refine blk_alloc ?_ _)); exact BK208.out) : p := h
theorem s6q25 {p : Prop} (h : p := by repeat (first | (with_reducible first | exact HB.out | apply below_alloc | apply pw_below_drewN | apply below_drew1) | exact HB.out)) : p := h
theorem s6q26 {p : Prop} (h : p := by (try simp only [List.map_toArray, List.map_cons, List.map_nil]); first | done | rfl | (simp only [List.length_drop, List.length_take]; rfl)) : p := h
theorem s6q27 {p : Prop} (h : p := by (with_reducible repeat (first | apply Kd.R_alloc | apply Kd.R_drewN | apply Kd.R_drew)); exact Kd.R_mono HL207_0.out (fun _ hk => ⟨⟨hk.1.2, hk.2⟩, hk.1.1⟩)) : p := h
theorem s6q28 {p : Prop} (h : p := by (with_reducible repeat (first | apply Kd.S_alloc | apply Kd.S_drewN | apply Kd.S_drew)); exact Kd.S_mono HO_8.out (fun k_ hk => ⟨trivial, fun e_ => hk e_⟩)) : p := h
theorem s6q29 {p : Prop} (h : p := by repeat (first | (with_reducible first | exact HB.out | apply below_alloc | apply pw_below_drewN | apply below_drew1 | refine below_set ?_ GE208.out) | exact HB.out)) : p := h
theorem s6q30 {p : Prop} (h : p := by (with_reducible repeat (first | apply Kd.S_alloc | apply Kd.S_drewN | apply Kd.S_drew)); exact Kd.S_mono HO_8.out (fun k_ hk => ⟨⟨hk.1, hk.2.2⟩, fun e_ => hk.2.1 e_⟩)) : p := h
theorem s6q31 {p : Prop} (h : p := by (with_reducible repeat (first | apply Kd.R_alloc | apply Kd.R_drewN | apply Kd.R_drew)); exact Kd.R_mono HL209_0.out (fun _ hk => ⟨⟨hk.1.2, ⟨hk.2, hk.1.1.1⟩⟩, hk.1.1.2⟩)) : p := h
theorem s6q32 {p : Prop} (h : p := by (with_reducible repeat (first | apply Kd.R_alloc | apply Kd.R_drewN | apply Kd.R_drew)); exact Kd.R_mono HL217_0.out (fun _ hk => ⟨⟨hk.1.2, ⟨hk.2, hk.1.1.1⟩⟩, hk.1.1.2⟩)) : p := h
theorem s6q33 {p : Prop} (h : p := by repeat (first | (with_reducible exact HR199_0.out) | (with_reducible refine Kd.C_alloc ?_ _) | (with_reducible refine Kd.C_drewN ?_ _) | (with_reducible refine Kd.C_drew ?_) | exact HR199_0.out)) : p := h
theorem s6q34 {p : Prop} (h : p := by repeat (first | (with_reducible exact HR207_0.out) | (with_reducible refine Kd.C_alloc ?_ _) | (with_reducible refine Kd.C_drewN ?_ _) | (with_reducible refine Kd.C_drew ?_) | exact HR207_0.out)) : p := h
theorem s6q35 {p : Prop} (h : p := by repeat (first | (with_reducible exact HR209_0.out) | (with_reducible refine Kd.C_alloc ?_ _) | (with_reducible refine Kd.C_drewN ?_ _) | (with_reducible refine Kd.C_drew ?_) | exact HR209_0.out)) : p := h
theorem s6q36 {p : Prop} (h : p := by repeat (first | (with_reducible exact HR217_0.out) | (with_reducible refine Kd.C_alloc ?_ _) | (with_reducible refine Kd.C_drewN ?_ _) | (with_reducible refine Kd.C_drew ?_) | exact HR217_0.out)) : p := h
theorem s6q37 {p : Prop} (h : p := by (with_reducible repeat (first | apply Kd.S_alloc | apply Kd.S_drewN | apply Kd.S_drew)); exact Kd.S_mono (Kd.S_far (p := ⟨gb208, 1, none⟩) (Kd.S_far (p := ⟨gb208, 0, none⟩) (Kd.S_mono HO_8.out (fun k_ hk => (⟨hk, hk.2⟩ : _ ∧ k_ ≠ gb208))) (fun _ hk => hk.2) (.slice A207_0 ((rd_T80 x8_2 (Go.bits .andNot .i64 x9_1 (ji31))).f0).length c207_0)) (fun _ hk => hk.2) (.int .i64 ((rd_T80 x8_2 (Go.bits .andNot .i64 x9_1 (ji31))).f1))) (fun _ hk => hk.1.2)) : p := h
theorem s6q38 {p : Prop} (h : p := by (with_reducible repeat (first | refine blk_drewN ?_ _ | refine blk_drew ?_ | refine blk_alloc ?_ _)); refine blk_put (cs := #[.slice A207_0 ((rd_T80 x8_2 (Go.bits .andNot .i64 x9_1 (ji31))).f0).length c207_0, .int .i64 0]) ?_ 1 _ rfl; (with_reducible repeat (first | refine blk_drewN ?_ _ | refine blk_drew ?_ | refine blk_alloc ?_ _)); refine blk_put (cs := #[.slice none 0 0, .int .i64 0]) ?_ 0 _ rfl; (with_reducible repeat (first | refine blk_drewN ?_ _ | refine blk_drew ?_ | refine blk_alloc ?_ _)); exact BK208.out) : p := h
theorem s6q39 {p : Prop} (h : p := by rw [hw]; exact s6q29) : p := h
theorem s6q40 {p : Prop} (h : p := by rw [hw]; exact s6q37) : p := h
theorem s6q41 {p : Prop} (h : p := by rw [hw]; exact s6q38) : p := h
theorem s6q42 {p : Prop} (h : p := by rw [hw]; exact below_set (HB.out) GB15.out) : p := h
theorem s6q43 {p : Prop} (h : p := by rw [hw]; exact below_set (below_set (HB.out) GB39.out) GB39.out) : p := h
theorem s6q44 {p : Prop} (h : p := by rw [hw]; exact below_set (below_set (HB.out) GB54.out) GB54.out) : p := h
theorem s6q45 {p : Prop} (h : p := by first | exact q207 | exact of_decide_eq_true s6q10 | (have e_ := (Kd.S_reads' HO_8.out).1; omega)) : p := h
theorem s6q46 {p : Prop} (h : p := by first | exact q209 | exact of_decide_eq_true s6q10 | (have e_ := (Kd.S_reads' HO_8.out).1; omega)) : p := h
theorem s6q47 {p : Prop} (h : p := by first | exact q217 | exact of_decide_eq_true s6q10 | (have e_ := (Kd.S_reads' HO_8.out).1; omega)) : p := h
theorem s6q48 {p : Prop} (h : p := by have h_ : (x9_1 : Int) < ((x8_1.length : Int) : Int) := of_decide_eq_true s6q10; first | exact h_ | (have e_ := (Kd.S_reads' HO_8.out).1; omega) | simpa using h_) : p := h
theorem s6q49 {p : Prop} (h : p := by have h_ : (x9_1 : Int) < ((x8_2.length : Int) : Int) := of_decide_eq_true s6q10; first | exact h_ | (have e_ := (Kd.S_reads' HO_8.out).1; omega) | simpa using h_) : p := h
theorem s6q50 {p : Prop} (h : p := by (with_reducible repeat (first | apply Kd.R_alloc | apply Kd.R_drewN | apply Kd.R_drew)); exact Kd.R_mono (Kd.R_far (p := ⟨gb208, 1, none⟩) (Kd.R_far (p := ⟨gb208, 0, none⟩) (Kd.R_types HL207_0.out BK208.out s6q2) (fun _ hk => hk.2) (.slice A207_0 ((rd_T80 x8_2 (Go.bits .andNot .i64 x9_1 (ji31))).f0).length c207_0)) (fun _ hk => hk.2) (.int .i64 ((rd_T80 x8_2 (Go.bits .andNot .i64 x9_1 (ji31))).f1))) (fun _ hk => hk.1.2)) : p := h
theorem s6q51 {p : Prop} (h : p := by rw [hw]; exact s6q50) : p := h
theorem s6q52 {p : Prop} (h : p := by rw [hg]; exact (below_size s6q25)) : p := h
/-! ### slices_Equal_int_int: function 19 -/
def slices_Equal_int_int.l0 : Nat → List Int → List Int → Int → Int → Option (Bool)
  | 0, _, _, _, _ => none
  | k + 1, x0, x1, x12, x13 => if x13 < x12 then (if 0 ≤ x13 then (if x13 < (x0.length : Int) then (if x13 < (x1.length : Int) then (if (rd x0 x13) = (rd x1 x13) then (slices_Equal_int_int.l0 k x0 x1 x12 (wrap64 (x13 + 1))) else (some false)) else (none)) else (none)) else (none)) else (some true)
def slices_Equal_int_int.f (k : Nat) (l0 : List Int) (l1 : List Int) : Option (Bool) := if (l0.length : Int) = (l1.length : Int) then (slices_Equal_int_int.l0 k l0 l1 (l0.length : Int) 0) else (some false)
theorem slices_Equal_int_int.mono_l : ∀ k, (∀ y0 y1 y2 y3, LeO (slices_Equal_int_int.l0 k y0 y1 y2 y3) (slices_Equal_int_int.l0 (k + 1) y0 y1 y2 y3))
  | 0 => fun _ _ _ _ r h => by simp [slices_Equal_int_int.l0] at h
  | k + 1 => by
    have ih0 := slices_Equal_int_int.mono_l k
    · intro y0 y1 y2 y3
      unfold slices_Equal_int_int.l0
      repeat' first | (with_reducible exact ih0 _ _ _ _) | (with_reducible exact LeO.refl _) | (with_reducible exact LeO.none _) | (with_reducible refine LeO.ite ?_ ?_) | (with_reducible refine LeO.bind ?_ (fun _ => ?_)) | exact ih0 _ _ _ _ | exact LeO.none _ | refine LeO.ite ?_ ?_ | refine LeO.bind ?_ (fun _ => ?_)
theorem slices_Equal_int_int.mono : ∀ a0 a1 k, LeO (slices_Equal_int_int.f k a0 a1) (slices_Equal_int_int.f (k + 1) a0 a1) := by
 intro a0 a1 k
 have ih0 := slices_Equal_int_int.mono_l k
 unfold slices_Equal_int_int.f
 repeat' first
  | (with_reducible exact ih0 _ _ _ _)
  | (with_reducible exact LeO.refl _)
  | (with_reducible exact LeO.none _)
  | (with_reducible refine LeO.ite ?_ ?_)
  | (with_reducible refine LeO.bind ?_ (fun _ => ?_))
  | exact ih0 _ _ _ _
  | exact LeO.none _
  | refine LeO.ite ?_ ?_
  | refine LeO.bind ?_ (fun _ => ?_)
set_option maxHeartbeats 8000000 in
set_option maxRecDepth 100000 in
theorem slices_Equal_int_int.calls (k : Nat) (A0 : Option Addr) (c0 : Nat) (l0 : List Int) (A1 : Option Addr) (c1 : Nat) (l1 : List Int) (r : Bool) (w : World) (hr0 : Kd.C (Kd.int .i64) w A0 l0.length l0) (hc0 : l0.length ≤ c0) (hr1 : Kd.C (Kd.int .i64) w A1 l1.length l1) (hc1 : l1.length ≤ c1) (h : slices_Equal_int_int.f k l0 l1 = some r) :
    Calls Tryd.prog 19 #[.slice A0 l0.length c0, .slice A1 l1.length c1] w fun e w' => e = .returned (.bool r) ∧ Drawn0 w w' := by
 have HR0 := Aside0.mk hr0
 have HC0 := Aside0.mk hc0
 clear hr0 hc0
 have HR1 := Aside0.mk hr1
 have HC1 := Aside0.mk hc1
 clear hr1 hc1
 have H : (if (l0.length : Int) = (l1.length : Int) then (slices_Equal_int_int.l0 k l0 l1 (l0.length : Int) 0) else (some false)) = some r := h
 clear h
 by_cases c3 : (l0.length : Int) = (l1.length : Int)
 case neg =>
  rw [if_neg c3] at H
  have c3b0 : ((l0.length : Int) == (l1.length : Int)) = false := beq_eq_false_iff_ne.mpr c3
  have c3b1 : ((l0.length : Int) != (l1.length : Int)) = true := bne_iff_ne.mpr c3
  have c3b2 : (l0.length == l1.length) = false := by first | simpa using c3 | (simp at c3 ⊢; omega)
  obtain rfl := Option.some.inj H
  go_enter Tryd.func19, Tryd.ntmps19
  go_wp2
  repeat (go_quiet (fail); try go_wp2)
  go_ret
  exact ⟨by first | rfl | (simp; done) | (simp [*]; done), by repeat (first | exact Drawn0.refl _ | apply Drawn0.step)⟩
 rw [if_pos c3] at H
 have c3b0 : ((l0.length : Int) == (l1.length : Int)) = true := beq_iff_eq.mpr c3
 have c3b1 : ((l0.length : Int) != (l1.length : Int)) = false := bne_eq_false_iff_eq.mpr c3
 have c3b2 : (l0.length == l1.length) = true := by first | simpa using c3 | (simp at c3 ⊢; omega)
 clear c3
 have H' := Aside0.mk H
 clear H
 go_enter Tryd.func19, Tryd.ntmps19
 go_wp2
 go_loopg [13] k (fun kq v13 w' => ∃ (x13_1 : Int), v13 = .int .i64 x13_1 ∧ Aside0 (slices_Equal_int_int.l0 kq l0 l1 (l0.length : Int) x13_1 = some r) ∧ Aside0 (kq ≤ k) ∧ Drawn0 w w')
 case atStart => exact ⟨(0), s6q9, H', ⟨Nat.le_refl _⟩, by repeat (first | exact Drawn0.refl _ | apply Drawn0.step)⟩
 clear H'
 try clear c1
 try clear p2
 try clear c3
 try clear c3b0
 try clear c3b1
 try clear c3b2
 obtain ⟨x13_1, rfl, HA, HK1, ⟨m1, rfl⟩⟩ := hrel
 cases gk with
 | zero => exact absurd HA.out (by simp [slices_Equal_int_int.l0])
 | succ k1 => ?_
 have H := HA.out
 clear HA
 simp only [slices_Equal_int_int.l0] at H
 by_cases c4 : x13_1 < (l0.length : Int)
 case neg =>
  rw [if_neg c4] at H
  have c4b0 : decide (x13_1 < (l0.length : Int)) = false := decide_eq_false c4
  clear c4
  obtain rfl := Option.some.inj H
  go_wp2
  repeat (go_quiet (fail); try go_wp2)
  go_ret
  exact ⟨by first | rfl | (simp; done) | (simp [*]; done), by repeat (first | exact Drawn0.refl _ | apply Drawn0.step)⟩
 rw [if_pos c4] at H
 have c4b0 : decide (x13_1 < (l0.length : Int)) = true := decide_eq_true c4
 clear c4
 by_cases c5 : 0 ≤ x13_1
 case neg =>
  rw [if_neg c5] at H
  exact absurd H s6q0
 rw [if_pos c5] at H
 have c5b0 : decide (0 ≤ x13_1) = true := decide_eq_true c5
 clear c5
 by_cases c6 : x13_1 < (l0.length : Int)
 case neg =>
  rw [if_neg c6] at H
  exact absurd H s6q0
 rw [if_pos c6] at H
 have c6b0 : decide (x13_1 < (l0.length : Int)) = true := decide_eq_true c6
 clear c6
 by_cases c7 : x13_1 < (l1.length : Int)
 case neg =>
  rw [if_neg c7] at H
  exact absurd H s6q0
 rw [if_pos c7] at H
 have c7b0 : decide (x13_1 < (l1.length : Int)) = true := decide_eq_true c7
 clear c7
 by_cases c8 : (rd l0 x13_1) = (rd l1 x13_1)
 case neg =>
  rw [if_neg c8] at H
  have c8b0 : ((rd l0 x13_1) == (rd l1 x13_1)) = false := beq_eq_false_iff_ne.mpr c8
  have c8b1 : ((rd l0 x13_1) != (rd l1 x13_1)) = true := bne_iff_ne.mpr c8
  obtain rfl := Option.some.inj H
  have p178 : 0 ≤ (x13_1 : Int) := of_decide_eq_true s6q10
  have q178 : x13_1 < (l0.length : Int) := of_decide_eq_true s6q10
  obtain ⟨ad178, e178, hx178_0⟩ := Kd.at_int HR0.out x13_1 p178 q178
  cases e178
  replace p178 := eq_true p178
  replace q178 := eq_true q178
  have p179 : 0 ≤ (x13_1 : Int) := of_decide_eq_true s6q10
  have q179 : x13_1 < (l1.length : Int) := of_decide_eq_true s6q10
  obtain ⟨ad179, e179, hx179_0⟩ := Kd.at_int HR1.out x13_1 p179 q179
  cases e179
  replace p179 := eq_true p179
  replace q179 := eq_true q179
  go_wp2
  repeat (go_quiet (fail); try go_wp2)
  go_ret
  exact ⟨by first | rfl | (simp; done) | (simp [*]; done), by repeat (first | exact Drawn0.refl _ | apply Drawn0.step)⟩
 rw [if_pos c8] at H
 have c8b0 : ((rd l0 x13_1) == (rd l1 x13_1)) = true := beq_iff_eq.mpr c8
 have c8b1 : ((rd l0 x13_1) != (rd l1 x13_1)) = false := bne_eq_false_iff_eq.mpr c8
 clear c8
 have H' := Aside0.mk H
 clear H
 have p178 : 0 ≤ (x13_1 : Int) := of_decide_eq_true s6q10
 have q178 : x13_1 < (l0.length : Int) := of_decide_eq_true s6q10
 obtain ⟨ad178, e178, hx178_0⟩ := Kd.at_int HR0.out x13_1 p178 q178
 cases e178
 replace p178 := eq_true p178
 replace q178 := eq_true q178
 have p179 : 0 ≤ (x13_1 : Int) := of_decide_eq_true s6q10
 have q179 : x13_1 < (l1.length : Int) := of_decide_eq_true s6q10
 obtain ⟨ad179, e179, hx179_0⟩ := Kd.at_int HR1.out x13_1 p179 q179
 cases e179
 replace p179 := eq_true p179
 replace q179 := eq_true q179
 go_wp2
 repeat (go_quiet (fail); try go_wp2)
 first | go_roundg k1 | (refine Handed.intro k1 ?measure ?_; rotate_left; go_step; (repeat apply Exists.intro); simp only [add_plain]; refine ⟨?rel, rfl⟩)
 case measure => have := HK1.out; omega
 case rel => exact ⟨(wrap64 (x13_1 + 1)), s6q9, H', ⟨by have := HK1.out; omega⟩, by repeat (first | exact Drawn0.refl _ | apply Drawn0.step)⟩
/-! ### peristylelaw10_awake: function 16 -/
def peristylelaw10_awake.f (k : Nat)  : Option (Bool) := (cost_Best.f k (([10, 100, 5] : List Int)) (([(⟨0, 1, 10⟩ : S75), (⟨1, 2, 100⟩ : S75)] : List (S75)))).bind fun bt186 => (if bt186.2.2 = 0 then (if bt186.2.1 = 10 then ((slices_Equal_int_int.f k bt186.1 (([0, 1, 2, (-1), (-1)] : List Int))).bind fun t194 => (some t194)) else (some false)) else (some false))
theorem peristylelaw10_awake.mono : ∀ k, LeO (peristylelaw10_awake.f k ) (peristylelaw10_awake.f (k + 1) ) := by
 intro  k
 unfold peristylelaw10_awake.f
 repeat' first
  | (with_reducible exact cost_Best.mono _ _ _)
  | (with_reducible exact slices_Equal_int_int.mono _ _ _)
  | (with_reducible exact LeO.refl _)
  | (with_reducible exact LeO.none _)
  | (with_reducible refine LeO.ite ?_ ?_)
  | (with_reducible refine LeO.bind ?_ (fun _ => ?_))
  | exact cost_Best.mono _ _ _
  | exact slices_Equal_int_int.mono _ _ _
  | exact LeO.none _
  | refine LeO.ite ?_ ?_
  | refine LeO.bind ?_ (fun _ => ?_)
set_option maxHeartbeats 8000000 in
set_option maxRecDepth 100000 in
theorem peristylelaw10_awake.calls (k : Nat)  (r : Bool) (w : World) (hG : Glob w) (h : peristylelaw10_awake.f k  = some r) :
    Calls Tryd.prog 16 #[] w fun e w' => e = .returned (.bool r) ∧ Below w.heap.size w w' := by
 have hu75 := Tryd.underlying75
 have HG := Aside0.mk hG
 clear hG
 have HB := Aside0.mk (Below.refl w.heap.size w)
 have H : ((cost_Best.f k (([10, 100, 5] : List Int)) (([(⟨0, 1, 10⟩ : S75), (⟨1, 2, 100⟩ : S75)] : List (S75)))).bind fun bt186 => (if bt186.2.2 = 0 then (if bt186.2.1 = 10 then ((slices_Equal_int_int.f k bt186.1 (([0, 1, 2, (-1), (-1)] : List Int))).bind fun t194 => (some t194)) else (some false)) else (some false))) = some r := h
 clear h
 obtain ⟨y180, hy180⟩ : ∃ y_ : List Int, y_ = (([10, 100, 5] : List Int)) := ⟨_, rfl⟩
 replace H : ((cost_Best.f k y180 (([(⟨0, 1, 10⟩ : S75), (⟨1, 2, 100⟩ : S75)] : List (S75)))).bind fun bt186 => (if bt186.2.2 = 0 then (if bt186.2.1 = 10 then ((slices_Equal_int_int.f k bt186.1 (([0, 1, 2, (-1), (-1)] : List Int))).bind fun t194 => (some t194)) else (some false)) else (some false))) = some r := sqz hy180 H
 have Ny180 := Aside0.mk hy180
 clear hy180
 obtain ⟨y183, hy183⟩ : ∃ y_ : List (S75), y_ = (([(⟨0, 1, 10⟩ : S75), (⟨1, 2, 100⟩ : S75)] : List (S75))) := ⟨_, rfl⟩
 replace H : ((cost_Best.f k y180 y183).bind fun bt186 => (if bt186.2.2 = 0 then (if bt186.2.1 = 10 then ((slices_Equal_int_int.f k bt186.1 (([0, 1, 2, (-1), (-1)] : List Int))).bind fun t194 => (some t194)) else (some false)) else (some false))) = some r := sqz hy183 H
 have Ny183 := Aside0.mk hy183
 clear hy183
 replace H := Option.bind_eq_some_iff.mp H
 obtain ⟨⟨t186, t187, t188⟩, A10, H⟩ := H
 replace H : (if t188 = 0 then (if t187 = 10 then ((slices_Equal_int_int.f k t186 (([0, 1, 2, (-1), (-1)] : List Int))).bind fun t194 => (some t194)) else (some false)) else (some false)) = some r := H
 have A1 := Aside0.mk A10
 clear A10
 by_cases c2 : t188 = 0
 case neg =>
  rw [if_neg c2] at H
  have c2b0 : (t188 == 0) = false := beq_eq_false_iff_ne.mpr c2
  have c2b1 : (t188 != 0) = true := bne_iff_ne.mpr c2
  obtain rfl := Option.some.inj H
  go_enter Tryd.func16, Tryd.ntmps16
  go_wp2_with (first | ((with_reducible refine gate_dst (N := 5) rfl ?_); (try (refine gate_guard (by rfl) ?_; dsimp only)); refine Kd.R_lit (Kd.int .i64) _ 3 ?hg (N := 5) ?hd (xs := ([10, 100, 5] : List Int)) (inner := [.int .i64 10, .int .i64 100, .int .i64 5]) (ok := fun _ => True) (okp := fun _ => True) ?hr ?hp (fun _ hk => hk) trivial (Below.refl _ _) (Nat.le_refl _) s6q0 ?_; (case hd => rfl); (case hg => rfl); (case hr => first | (go_simp; done) | (go_simp; rfl)); (case hp => exact (Reps.one (show Kd.M (Kd.int .i64) _ _ _ 10 [.int .i64 10] from rfl) (Reps.one (show Kd.M (Kd.int .i64) _ _ _ 100 [.int .i64 100] from rfl) (Reps.one (show Kd.M (Kd.int .i64) _ _ _ 5 [.int .i64 5] from rfl) (Reps.none _ _))))); intro v181 w23 ho24 hb hg_ hnew_; clear hg_ hnew_; (first | rw [← Ny180.out] at ho24 | (simp only [Int.reduceToNat] at ho24; rw [← Ny180.out] at ho24)); have n0_ := Aside0.mk (Kd.R_lower ho24 (below_size s6q25)); have n1_ := Aside0.mk (below_step s6q25 hb); clear HB; have HO182 := n0_; have HB := n1_; clear n0_ n1_; clear hb ho24) | ((with_reducible refine gate_dst (N := 8) rfl ?_); (try (refine gate_guard (by rfl) ?_; dsimp only)); refine Kd.R_lit k75 _ 75 ?hg (N := 8) ?hd (xs := ([(⟨0, 1, 10⟩ : S75), (⟨1, 2, 100⟩ : S75)] : List (S75))) (inner := [.int .i64 0, .int .i64 1, .int .i64 10, .int .i64 1, .int .i64 2, .int .i64 100]) (ok := fun _ => True) (okp := fun _ => True) ?hr ?hp (fun _ hk => hk) trivial (Below.refl _ _) (Nat.le_refl _) s6q0 ?_; (case hd => rfl); (case hg => rfl); (case hr => first | (go_simp; done) | (go_simp; rfl)); (case hp => exact (Reps.c3 (show Kd.M k75 _ _ _ (⟨0, 1, 10⟩ : S75) [.int .i64 0, .int .i64 1, .int .i64 10] from (k75_mkM _ _ _ (⟨0, 1, 10⟩ : S75) )) (Reps.c3 (show Kd.M k75 _ _ _ (⟨1, 2, 100⟩ : S75) [.int .i64 1, .int .i64 2, .int .i64 100] from (k75_mkM _ _ _ (⟨1, 2, 100⟩ : S75) )) (Reps.none _ _)))); intro v184 w25 ho26 hb hg_ hnew_; clear hg_ hnew_; (first | rw [← Ny183.out] at ho26 | (simp only [Int.reduceToNat] at ho26; rw [← Ny183.out] at ho26)); have n0_ := Aside0.mk (Kd.R_below s6q15 hb); have n1_ := Aside0.mk (Kd.R_lower ho26 (below_size s6q25)); have n2_ := Aside0.mk (below_step s6q25 hb); clear HO182; clear HB; have HO182 := n0_; have HO185 := n1_; have HB := n2_; clear n0_ n1_ n2_; clear hb ho26; obtain ⟨Ao27, co27, eo27⟩ := Kd.R_slice HO182.out; subst eo27; obtain ⟨Ao28, co28, eo28⟩ := Kd.R_slice HO185.out; subst eo28) | ((with_reducible refine gate_callee (f := 17) rfl ?_); refine goesL_ (some 9) rfl rfl Tryd.func17 (by kernel_rfl) rfl #[.slice Ao27 y180.length co27, .slice Ao28 y183.length co28] rfl s6q26 ?_; (with_reducible refine (cost_Best.calls k _ _ y180 _ _ y183 t186 t187 t188 _ ?side1 ?side2 ?side3 ?side4 ?side5 A1.out).mono ?_); (case side1 => repeat (first | exact (Kd.R_reads' HO182.out).2.2 | (with_reducible refine Kd.C_alloc ?_ _) | (with_reducible refine Kd.C_drewN ?_ _) | (with_reducible refine Kd.C_drew ?_))); (case side2 => exact (Kd.R_reads' HO182.out).2.1); (case side3 => repeat (first | exact (Kd.R_reads' HO185.out).2.2 | (with_reducible refine Kd.C_alloc ?_ _) | (with_reducible refine Kd.C_drewN ?_ _) | (with_reducible refine Kd.C_drew ?_))); (case side4 => exact (Kd.R_reads' HO185.out).2.1); (case side5 => exact Glob_below HG.out s6q25); rintro e w29 ⟨v189, rfl, ho0, hb⟩; refine ⟨_, rfl, ?_⟩; have n0_ := Aside0.mk (Kd.R_elder' s6q15 (Kd.R_base ho0) hb); have n1_ := Aside0.mk (Kd.R_below s6q16 hb); have n2_ := Aside0.mk (Kd.R_lower (Kd.R_new' ho0 (Kd.R_lt s6q15)) (below_size s6q25)); have n3_ := Aside0.mk (below_step s6q25 hb); clear HO182; clear HO185; clear HB; have HO182 := n0_; have HO185 := n1_; have HO190 := n2_; have HB := n3_; clear n0_ n1_ n2_ n3_; (try clear hb); (try clear hb2); (try clear hk); (try clear hi); (try clear ho0)))
  go_ret
  exact ⟨by first | rfl | (simp [errW_none, errW_some] <;> rfl) | (simp [*, errW_none, errW_some] <;> rfl), by repeat (first | (with_reducible first | exact HB.out | apply below_alloc | apply pw_below_drewN | apply below_drew1) | exact HB.out)⟩
 rw [if_pos c2] at H
 have c2b0 : (t188 == 0) = true := beq_iff_eq.mpr c2
 have c2b1 : (t188 != 0) = false := bne_eq_false_iff_eq.mpr c2
 clear c2
 by_cases c3 : t187 = 10
 case neg =>
  rw [if_neg c3] at H
  have c3b0 : (t187 == 10) = false := beq_eq_false_iff_ne.mpr c3
  have c3b1 : (t187 != 10) = true := bne_iff_ne.mpr c3
  obtain rfl := Option.some.inj H
  go_enter Tryd.func16, Tryd.ntmps16
  go_wp2_with (first | ((with_reducible refine gate_dst (N := 5) rfl ?_); (try (refine gate_guard (by rfl) ?_; dsimp only)); refine Kd.R_lit (Kd.int .i64) _ 3 ?hg (N := 5) ?hd (xs := ([10, 100, 5] : List Int)) (inner := [.int .i64 10, .int .i64 100, .int .i64 5]) (ok := fun _ => True) (okp := fun _ => True) ?hr ?hp (fun _ hk => hk) trivial (Below.refl _ _) (Nat.le_refl _) s6q0 ?_; (case hd => rfl); (case hg => rfl); (case hr => first | (go_simp; done) | (go_simp; rfl)); (case hp => exact (Reps.one (show Kd.M (Kd.int .i64) _ _ _ 10 [.int .i64 10] from rfl) (Reps.one (show Kd.M (Kd.int .i64) _ _ _ 100 [.int .i64 100] from rfl) (Reps.one (show Kd.M (Kd.int .i64) _ _ _ 5 [.int .i64 5] from rfl) (Reps.none _ _))))); intro v181 w16 ho17 hb hg_ hnew_; clear hg_ hnew_; (first | rw [← Ny180.out] at ho17 | (simp only [Int.reduceToNat] at ho17; rw [← Ny180.out] at ho17)); have n0_ := Aside0.mk (Kd.R_lower ho17 (below_size s6q25)); have n1_ := Aside0.mk (below_step s6q25 hb); clear HB; have HO182 := n0_; have HB := n1_; clear n0_ n1_; clear hb ho17) | ((with_reducible refine gate_dst (N := 8) rfl ?_); (try (refine gate_guard (by rfl) ?_; dsimp only)); refine Kd.R_lit k75 _ 75 ?hg (N := 8) ?hd (xs := ([(⟨0, 1, 10⟩ : S75), (⟨1, 2, 100⟩ : S75)] : List (S75))) (inner := [.int .i64 0, .int .i64 1, .int .i64 10, .int .i64 1, .int .i64 2, .int .i64 100]) (ok := fun _ => True) (okp := fun _ => True) ?hr ?hp (fun _ hk => hk) trivial (Below.refl _ _) (Nat.le_refl _) s6q0 ?_; (case hd => rfl); (case hg => rfl); (case hr => first | (go_simp; done) | (go_simp; rfl)); (case hp => exact (Reps.c3 (show Kd.M k75 _ _ _ (⟨0, 1, 10⟩ : S75) [.int .i64 0, .int .i64 1, .int .i64 10] from (k75_mkM _ _ _ (⟨0, 1, 10⟩ : S75) )) (Reps.c3 (show Kd.M k75 _ _ _ (⟨1, 2, 100⟩ : S75) [.int .i64 1, .int .i64 2, .int .i64 100] from (k75_mkM _ _ _ (⟨1, 2, 100⟩ : S75) )) (Reps.none _ _)))); intro v184 w18 ho19 hb hg_ hnew_; clear hg_ hnew_; (first | rw [← Ny183.out] at ho19 | (simp only [Int.reduceToNat] at ho19; rw [← Ny183.out] at ho19)); have n0_ := Aside0.mk (Kd.R_below s6q15 hb); have n1_ := Aside0.mk (Kd.R_lower ho19 (below_size s6q25)); have n2_ := Aside0.mk (below_step s6q25 hb); clear HO182; clear HB; have HO182 := n0_; have HO185 := n1_; have HB := n2_; clear n0_ n1_ n2_; clear hb ho19; obtain ⟨Ao20, co20, eo20⟩ := Kd.R_slice HO182.out; subst eo20; obtain ⟨Ao21, co21, eo21⟩ := Kd.R_slice HO185.out; subst eo21) | ((with_reducible refine gate_callee (f := 17) rfl ?_); refine goesL_ (some 9) rfl rfl Tryd.func17 (by kernel_rfl) rfl #[.slice Ao20 y180.length co20, .slice Ao21 y183.length co21] rfl s6q26 ?_; (with_reducible refine (cost_Best.calls k _ _ y180 _ _ y183 t186 t187 t188 _ ?side1 ?side2 ?side3 ?side4 ?side5 A1.out).mono ?_); (case side1 => repeat (first | exact (Kd.R_reads' HO182.out).2.2 | (with_reducible refine Kd.C_alloc ?_ _) | (with_reducible refine Kd.C_drewN ?_ _) | (with_reducible refine Kd.C_drew ?_))); (case side2 => exact (Kd.R_reads' HO182.out).2.1); (case side3 => repeat (first | exact (Kd.R_reads' HO185.out).2.2 | (with_reducible refine Kd.C_alloc ?_ _) | (with_reducible refine Kd.C_drewN ?_ _) | (with_reducible refine Kd.C_drew ?_))); (case side4 => exact (Kd.R_reads' HO185.out).2.1); (case side5 => exact Glob_below HG.out s6q25); rintro e w22 ⟨v189, rfl, ho0, hb⟩; refine ⟨_, rfl, ?_⟩; have n0_ := Aside0.mk (Kd.R_elder' s6q15 (Kd.R_base ho0) hb); have n1_ := Aside0.mk (Kd.R_below s6q16 hb); have n2_ := Aside0.mk (Kd.R_lower (Kd.R_new' ho0 (Kd.R_lt s6q15)) (below_size s6q25)); have n3_ := Aside0.mk (below_step s6q25 hb); clear HO182; clear HO185; clear HB; have HO182 := n0_; have HO185 := n1_; have HO190 := n2_; have HB := n3_; clear n0_ n1_ n2_ n3_; (try clear hb); (try clear hb2); (try clear hk); (try clear hi); (try clear ho0)))
  go_ret
  exact ⟨by first | rfl | (simp [errW_none, errW_some] <;> rfl) | (simp [*, errW_none, errW_some] <;> rfl), by repeat (first | (with_reducible first | exact HB.out | apply below_alloc | apply pw_below_drewN | apply below_drew1) | exact HB.out)⟩
 rw [if_pos c3] at H
 have c3b0 : (t187 == 10) = true := beq_iff_eq.mpr c3
 have c3b1 : (t187 != 10) = false := bne_eq_false_iff_eq.mpr c3
 clear c3
 obtain ⟨y191, hy191⟩ : ∃ y_ : List Int, y_ = (([0, 1, 2, (-1), (-1)] : List Int)) := ⟨_, rfl⟩
 replace H : ((slices_Equal_int_int.f k t186 y191).bind fun t194 => (some t194)) = some r := sqz hy191 H
 have Ny191 := Aside0.mk hy191
 clear hy191
 replace H := Option.bind_eq_some_iff.mp H
 obtain ⟨t194, A40, H⟩ := H
 replace H : (some t194) = some r := H
 have A4 := Aside0.mk A40
 clear A40
 obtain rfl := Option.some.inj H
 go_enter Tryd.func16, Tryd.ntmps16
 go_wp2_with (first | ((with_reducible refine gate_dst (N := 5) rfl ?_); (try (refine gate_guard (by rfl) ?_; dsimp only)); refine Kd.R_lit (Kd.int .i64) _ 3 ?hg (N := 5) ?hd (xs := ([10, 100, 5] : List Int)) (inner := [.int .i64 10, .int .i64 100, .int .i64 5]) (ok := fun _ => True) (okp := fun _ => True) ?hr ?hp (fun _ hk => hk) trivial (Below.refl _ _) (Nat.le_refl _) s6q0 ?_; (case hd => rfl); (case hg => rfl); (case hr => first | (go_simp; done) | (go_simp; rfl)); (case hp => exact (Reps.one (show Kd.M (Kd.int .i64) _ _ _ 10 [.int .i64 10] from rfl) (Reps.one (show Kd.M (Kd.int .i64) _ _ _ 100 [.int .i64 100] from rfl) (Reps.one (show Kd.M (Kd.int .i64) _ _ _ 5 [.int .i64 5] from rfl) (Reps.none _ _))))); intro v181 w5 ho6 hb hg_ hnew_; clear hg_ hnew_; (first | rw [← Ny180.out] at ho6 | (simp only [Int.reduceToNat] at ho6; rw [← Ny180.out] at ho6)); have n0_ := Aside0.mk (Kd.R_lower ho6 (below_size s6q25)); have n1_ := Aside0.mk (below_step s6q25 hb); clear HB; have HO182 := n0_; have HB := n1_; clear n0_ n1_; clear hb ho6) | ((with_reducible refine gate_dst (N := 8) rfl ?_); (try (refine gate_guard (by rfl) ?_; dsimp only)); refine Kd.R_lit k75 _ 75 ?hg (N := 8) ?hd (xs := ([(⟨0, 1, 10⟩ : S75), (⟨1, 2, 100⟩ : S75)] : List (S75))) (inner := [.int .i64 0, .int .i64 1, .int .i64 10, .int .i64 1, .int .i64 2, .int .i64 100]) (ok := fun _ => True) (okp := fun _ => True) ?hr ?hp (fun _ hk => hk) trivial (Below.refl _ _) (Nat.le_refl _) s6q0 ?_; (case hd => rfl); (case hg => rfl); (case hr => first | (go_simp; done) | (go_simp; rfl)); (case hp => exact (Reps.c3 (show Kd.M k75 _ _ _ (⟨0, 1, 10⟩ : S75) [.int .i64 0, .int .i64 1, .int .i64 10] from (k75_mkM _ _ _ (⟨0, 1, 10⟩ : S75) )) (Reps.c3 (show Kd.M k75 _ _ _ (⟨1, 2, 100⟩ : S75) [.int .i64 1, .int .i64 2, .int .i64 100] from (k75_mkM _ _ _ (⟨1, 2, 100⟩ : S75) )) (Reps.none _ _)))); intro v184 w7 ho8 hb hg_ hnew_; clear hg_ hnew_; (first | rw [← Ny183.out] at ho8 | (simp only [Int.reduceToNat] at ho8; rw [← Ny183.out] at ho8)); have n0_ := Aside0.mk (Kd.R_below s6q15 hb); have n1_ := Aside0.mk (Kd.R_lower ho8 (below_size s6q25)); have n2_ := Aside0.mk (below_step s6q25 hb); clear HO182; clear HB; have HO182 := n0_; have HO185 := n1_; have HB := n2_; clear n0_ n1_ n2_; clear hb ho8; obtain ⟨Ao9, co9, eo9⟩ := Kd.R_slice HO182.out; subst eo9; obtain ⟨Ao10, co10, eo10⟩ := Kd.R_slice HO185.out; subst eo10) | ((with_reducible refine gate_callee (f := 17) rfl ?_); refine goesL_ (some 9) rfl rfl Tryd.func17 (by kernel_rfl) rfl #[.slice Ao9 y180.length co9, .slice Ao10 y183.length co10] rfl s6q26 ?_; (with_reducible refine (cost_Best.calls k _ _ y180 _ _ y183 t186 t187 t188 _ ?side1 ?side2 ?side3 ?side4 ?side5 A1.out).mono ?_); (case side1 => repeat (first | exact (Kd.R_reads' HO182.out).2.2 | (with_reducible refine Kd.C_alloc ?_ _) | (with_reducible refine Kd.C_drewN ?_ _) | (with_reducible refine Kd.C_drew ?_))); (case side2 => exact (Kd.R_reads' HO182.out).2.1); (case side3 => repeat (first | exact (Kd.R_reads' HO185.out).2.2 | (with_reducible refine Kd.C_alloc ?_ _) | (with_reducible refine Kd.C_drewN ?_ _) | (with_reducible refine Kd.C_drew ?_))); (case side4 => exact (Kd.R_reads' HO185.out).2.1); (case side5 => exact Glob_below HG.out s6q25); rintro e w11 ⟨v189, rfl, ho0, hb⟩; refine ⟨_, rfl, ?_⟩; have n0_ := Aside0.mk (Kd.R_elder' s6q15 (Kd.R_base ho0) hb); have n1_ := Aside0.mk (Kd.R_below s6q16 hb); have n2_ := Aside0.mk (Kd.R_lower (Kd.R_new' ho0 (Kd.R_lt s6q15)) (below_size s6q25)); have n3_ := Aside0.mk (below_step s6q25 hb); clear HO182; clear HO185; clear HB; have HO182 := n0_; have HO185 := n1_; have HO190 := n2_; have HB := n3_; clear n0_ n1_ n2_ n3_; (try clear hb); (try clear hb2); (try clear hk); (try clear hi); (try clear ho0)) | ((with_reducible refine gate_dst (N := 21) rfl ?_); (try (refine gate_guard (by rfl) ?_; dsimp only)); refine Kd.R_lit (Kd.int .i64) _ 3 ?hg (N := 21) ?hd (xs := ([0, 1, 2, (-1), (-1)] : List Int)) (inner := [.int .i64 0, .int .i64 1, .int .i64 2, .int .i64 (-1), .int .i64 (-1)]) (ok := fun _ => True) (okp := fun _ => True) ?hr ?hp (fun _ hk => hk) trivial (Below.refl _ _) (Nat.le_refl _) s6q0 ?_; (case hd => rfl); (case hg => rfl); (case hr => first | (go_simp; done) | (go_simp; rfl)); (case hp => exact (Reps.one (show Kd.M (Kd.int .i64) _ _ _ 0 [.int .i64 0] from rfl) (Reps.one (show Kd.M (Kd.int .i64) _ _ _ 1 [.int .i64 1] from rfl) (Reps.one (show Kd.M (Kd.int .i64) _ _ _ 2 [.int .i64 2] from rfl) (Reps.one (show Kd.M (Kd.int .i64) _ _ _ (-1) [.int .i64 (-1)] from rfl) (Reps.one (show Kd.M (Kd.int .i64) _ _ _ (-1) [.int .i64 (-1)] from rfl) (Reps.none _ _))))))); intro v192 w12 ho13 hb hg_ hnew_; clear hg_ hnew_; (first | rw [← Ny191.out] at ho13 | (simp only [Int.reduceToNat] at ho13; rw [← Ny191.out] at ho13)); have n0_ := Aside0.mk (Kd.R_elder' s6q15 (Kd.R_base ho13) hb); have n1_ := Aside0.mk (Kd.R_below s6q16 hb); have n2_ := Aside0.mk (Kd.R_elder' s6q17 (Kd.R_base ho13) hb); have n3_ := Aside0.mk (Kd.R_lower (Kd.R_new' (Kd.R_new' ho13 (Kd.R_lt s6q15)) (Kd.R_lt s6q17)) (below_size s6q25)); have n4_ := Aside0.mk (below_step s6q25 hb); clear HO182; clear HO185; clear HO190; clear HB; have HO182 := n0_; have HO185 := n1_; have HO190 := n2_; have HO193 := n3_; have HB := n4_; clear n0_ n1_ n2_ n3_ n4_; clear hb ho13; obtain ⟨Ao14, co14, eo14⟩ := Kd.R_slice HO190.out; subst eo14; obtain ⟨Ao15, co15, eo15⟩ := Kd.R_slice HO193.out; subst eo15) | (go_at_call 19; (with_reducible refine (slices_Equal_int_int.calls k _ _ t186 _ _ y191 t194 _ ?side1 ?side2 ?side3 ?side4 A4.out).mono ?_); (case side1 => repeat (first | exact (Kd.R_reads' HO190.out).2.2 | (with_reducible refine Kd.C_alloc ?_ _) | (with_reducible refine Kd.C_drewN ?_ _) | (with_reducible refine Kd.C_drew ?_))); (case side2 => exact (Kd.R_reads' HO190.out).2.1); (case side3 => repeat (first | exact (Kd.R_reads' HO193.out).2.2 | (with_reducible refine Kd.C_alloc ?_ _) | (with_reducible refine Kd.C_drewN ?_ _) | (with_reducible refine Kd.C_drew ?_))); (case side4 => exact (Kd.R_reads' HO193.out).2.1); rintro e w' ⟨rfl, ⟨nd, rfl⟩⟩))
 go_ret
 exact ⟨by first | rfl | (simp [errW_none, errW_some] <;> rfl) | (simp [*, errW_none, errW_some] <;> rfl), by repeat (first | (with_reducible first | exact HB.out | apply below_alloc | apply pw_below_drewN | apply below_drew1) | exact HB.out)⟩
/-! ### cost_BestLine: function 20 -/
mutual
def cost_BestLine.l0 : Nat → List Int → List (S75) → List (S80) → Int → Option (List Int × Int × Int)
  | 0, _, _, _, _ => none
  | k + 1, x0, x1, x8, x9 => if x9 < (x8.length : Int) then (if (Go.bits .and .i64 x9 (wrap64 (x9 - 1))) = 0 then ((bits_TrailingZeros.f (IntKind.u64.wrap (x9))).bind fun t201 => ((some (([t201] : List Int) : List Int)).bind fun y202 => (if 0 ≤ x9 then (if (y202.length : Int) = 0 then (none) else (cost_BestLine.l0 k x0 x1 (x8.set (x9 : Int).toNat (⟨y202, (rd_T80 x8 x9).f1⟩ : S80)) (wrap64 (x9 + 1)))) else (none)))) else ((cost_size.f k x0 x1 x9).bind fun t206 => (cost_BestLine.l1 k x0 x1 x8 x9 t206 (x0.length : Int) 0))) else (if 0 ≤ (wrap64 ((x8.length : Int) - 1)) then (if (wrap64 ((x8.length : Int) - 1)) < (x8.length : Int) then (some ((rd_T80 x8 (wrap64 ((x8.length : Int) - 1))).f0, (rd_T80 x8 (wrap64 ((x8.length : Int) - 1))).f1, 0)) else (none)) else (none))
def cost_BestLine.l1 : Nat → List Int → List (S75) → List (S80) → Int → Int → Int → Int → Option (List Int × Int × Int)
  | 0, _, _, _, _, _, _, _ => none
  | k + 1, x0, x1, x8, x9, x10, x49, x50 => if x50 < x49 then (if 0 ≤ x50 then (if (Go.bits .and .i64 (shr .i64 x9 x50) 1) = 0 then (cost_BestLine.l1 k x0 x1 x8 x9 x10 x49 (wrap64 (x50 + 1))) else (if 0 ≤ (Go.bits .andNot .i64 x9 (shl .i64 1 x50)) then (if (Go.bits .andNot .i64 x9 (shl .i64 1 x50)) < (x8.length : Int) then (if 0 ≤ x9 then (if x9 < (x8.length : Int) then (if (((rd_T80 x8 x9).f0).length : Int) = 0 then ((cost_joined.f k ((rd_T80 x8 (Go.bits .andNot .i64 x9 (shl .i64 1 x50))).f0) (([x50] : List Int))).bind fun t213 => (if (t213.length : Int) = 0 then (none) else (cost_BestLine.l1 k x0 x1 (x8.set (x9 : Int).toNat (⟨t213, mn 1000000000000000 (wrap64 (((rd_T80 x8 (Go.bits .andNot .i64 x9 (shl .i64 1 x50))).f1) + x10))⟩ : S80)) x9 x10 x49 (wrap64 (x50 + 1))))) else (if (mn 1000000000000000 (wrap64 (((rd_T80 x8 (Go.bits .andNot .i64 x9 (shl .i64 1 x50))).f1) + x10))) < ((rd_T80 x8 x9).f1) then ((cost_joined.f k ((rd_T80 x8 (Go.bits .andNot .i64 x9 (shl .i64 1 x50))).f0) (([x50] : List Int))).bind fun t221 => (if (t221.length : Int) = 0 then (none) else (cost_BestLine.l1 k x0 x1 (x8.set (x9 : Int).toNat (⟨t221, mn 1000000000000000 (wrap64 (((rd_T80 x8 (Go.bits .andNot .i64 x9 (shl .i64 1 x50))).f1) + x10))⟩ : S80)) x9 x10 x49 (wrap64 (x50 + 1))))) else (cost_BestLine.l1 k x0 x1 x8 x9 x10 x49 (wrap64 (x50 + 1))))) else (none)) else (none)) else (none)) else (none))) else (none)) else (cost_BestLine.l0 k x0 x1 x8 (wrap64 (x9 + 1)))
end
def cost_BestLine.f (k : Nat) (l0 : List Int) (l1 : List (S75)) : Option (List Int × Int × Int) := (cost_checkRelations.f k l0 l1).bind fun t195 => (if t195 = 0 then (if 0 ≤ (shl .i64 1 (l0.length : Int)) then (if (shl .i64 1 (l0.length : Int) : Int).toNat ≤ 8796093022208 then (cost_BestLine.l0 k l0 l1 (List.replicate (shl .i64 1 (l0.length : Int) : Int).toNat z80) 1) else (none)) else (none)) else (some (([] : List Int), 0, t195)))
theorem cost_BestLine.mono_l : ∀ k, (∀ y0 y1 y2 y3, LeO (cost_BestLine.l0 k y0 y1 y2 y3) (cost_BestLine.l0 (k + 1) y0 y1 y2 y3)) ∧ (∀ y0 y1 y2 y3 y4 y5 y6, LeO (cost_BestLine.l1 k y0 y1 y2 y3 y4 y5 y6) (cost_BestLine.l1 (k + 1) y0 y1 y2 y3 y4 y5 y6))
  | 0 => ⟨fun _ _ _ _ r h => by simp [cost_BestLine.l0] at h, fun _ _ _ _ _ _ _ r h => by simp [cost_BestLine.l1] at h⟩
  | k + 1 => by
    obtain ⟨ih0, ih1⟩ := cost_BestLine.mono_l k
    refine ⟨?_, ?_⟩
    · intro y0 y1 y2 y3
      unfold cost_BestLine.l0
      exact s6qm0
    · intro y0 y1 y2 y3 y4 y5 y6
      unfold cost_BestLine.l1
      exact s6qm0
theorem cost_BestLine.mono : ∀ a0 a1 k, LeO (cost_BestLine.f k a0 a1) (cost_BestLine.f (k + 1) a0 a1) := by
 intro a0 a1 k
 obtain ⟨ih0, ih1⟩ := cost_BestLine.mono_l k
 unfold cost_BestLine.f
 repeat' first
  | (with_reducible exact ih0 _ _ _ _)
  | (with_reducible exact ih1 _ _ _ _ _ _ _)
  | (with_reducible exact cost_checkRelations.mono _ _ _)
  | (with_reducible exact cost_joined.mono _ _ _)
  | (with_reducible exact cost_size.mono _ _ _ _)
  | (with_reducible exact LeO.refl _)
  | (with_reducible exact LeO.none _)
  | (with_reducible refine LeO.ite ?_ ?_)
  | (with_reducible refine LeO.bind ?_ (fun _ => ?_))
  | exact ih0 _ _ _ _
  | exact ih1 _ _ _ _ _ _ _
  | exact cost_checkRelations.mono _ _ _
  | exact cost_joined.mono _ _ _
  | exact cost_size.mono _ _ _ _
  | exact LeO.none _
  | refine LeO.ite ?_ ?_
  | refine LeO.bind ?_ (fun _ => ?_)
set_option maxHeartbeats 8000000 in
set_option maxRecDepth 100000 in
theorem cost_BestLine.calls (k : Nat) (A0 : Option Addr) (c0 : Nat) (l0 : List Int) (A1 : Option Addr) (c1 : Nat) (l1 : List (S75)) (r1 : List Int) (r2 : Int) (r3 : Int) (w : World) (hr0 : Kd.C (Kd.int .i64) w A0 l0.length l0) (hc0 : l0.length ≤ c0) (hr1 : Kd.C k75 w A1 l1.length l1) (hc1 : l1.length ≤ c1) (hG : Glob w) (h : cost_BestLine.f k l0 l1 = some (r1, r2, r3)) :
    Calls Tryd.prog 20 #[.slice A0 l0.length c0, .slice A1 l1.length c1] w fun e w' => ∃ v0_ : Value, e = .returned (.tuple #[v0_, .int .i64 r2, .int .i64 r3]) ∧ Kd.R (Kd.int .i64) 3 w' w.heap.size (fun _ => True) v0_ r1 ∧ Below w.heap.size w w' := by
 have hnileql22 := fun (W : World) (a : Option Addr) (n c : Nat) => run_eql_nil (P := Tryd.prog) W 22 3 a n c Tryd.underlying22
 have hu80 := Tryd.underlying80
 have HG := Aside0.mk hG
 clear hG
 have HR0 := Aside0.mk hr0
 have HC0 := Aside0.mk hc0
 clear hr0 hc0
 have HR1 := Aside0.mk hr1
 have HC1 := Aside0.mk hc1
 clear hr1 hc1
 have HB := Aside0.mk (Below.refl w.heap.size w)
 have H : ((cost_checkRelations.f k l0 l1).bind fun t195 => (if t195 = 0 then (if 0 ≤ (shl .i64 1 (l0.length : Int)) then (if (shl .i64 1 (l0.length : Int) : Int).toNat ≤ 8796093022208 then (cost_BestLine.l0 k l0 l1 (List.replicate (shl .i64 1 (l0.length : Int) : Int).toNat z80) 1) else (none)) else (none)) else (some (([] : List Int), 0, t195)))) = some (r1, r2, r3) := h
 clear h
 replace H := Option.bind_eq_some_iff.mp H
 obtain ⟨t195, A30, H⟩ := H
 replace H : (if t195 = 0 then (if 0 ≤ (shl .i64 1 (l0.length : Int)) then (if (shl .i64 1 (l0.length : Int) : Int).toNat ≤ 8796093022208 then (cost_BestLine.l0 k l0 l1 (List.replicate (shl .i64 1 (l0.length : Int) : Int).toNat z80) 1) else (none)) else (none)) else (some (([] : List Int), 0, t195))) = some (r1, r2, r3) := H
 have A3 := Aside0.mk A30
 clear A30
 by_cases c4 : t195 = 0
 case neg =>
  rw [if_neg c4] at H
  have c4b0 : (t195 == 0) = false := beq_eq_false_iff_ne.mpr c4
  have c4b1 : (t195 != 0) = true := bne_iff_ne.mpr c4
  simp only [Option.some.injEq, Prod.mk.injEq] at H
  obtain ⟨rfl, rfl, rfl⟩ := H
  go_enter Tryd.func20, Tryd.ntmps20
  go_wp2_with (first | (go_at_call 40; (with_reducible refine (cost_checkRelations.calls k _ _ l0 _ _ l1 t195 _ ?side1 ?side2 ?side3 ?side4 A3.out).mono ?_); (case side1 => repeat (first | exact HR0.out | (with_reducible refine Kd.C_alloc ?_ _) | (with_reducible refine Kd.C_drewN ?_ _) | (with_reducible refine Kd.C_drew ?_))); (case side2 => exact HC0.out); (case side3 => repeat (first | exact HR1.out | (with_reducible refine Kd.C_alloc ?_ _) | (with_reducible refine Kd.C_drewN ?_ _) | (with_reducible refine Kd.C_drew ?_))); (case side4 => exact HC1.out); rintro e w77 ⟨rfl, hb⟩; have n0_ := Aside0.mk (below_step s6q25 hb); clear HB; have HB := n0_; clear n0_; (try clear hb); (try clear hb2); (try clear hk); (try clear hi)))
  repeat (go_quiet (first | (go_at_call 40; (with_reducible refine (cost_checkRelations.calls k _ _ l0 _ _ l1 t195 _ ?side1 ?side2 ?side3 ?side4 A3.out).mono ?_); (case side1 => repeat (first | exact HR0.out | (with_reducible refine Kd.C_alloc ?_ _) | (with_reducible refine Kd.C_drewN ?_ _) | (with_reducible refine Kd.C_drew ?_))); (case side2 => exact HC0.out); (case side3 => repeat (first | exact HR1.out | (with_reducible refine Kd.C_alloc ?_ _) | (with_reducible refine Kd.C_drewN ?_ _) | (with_reducible refine Kd.C_drew ?_))); (case side4 => exact HC1.out); rintro e w77 ⟨rfl, hb⟩; have n0_ := Aside0.mk (below_step s6q25 hb); clear HB; have HB := n0_; clear n0_; (try clear hb); (try clear hb2); (try clear hk); (try clear hi))); try go_wp2_with (first | (go_at_call 40; (with_reducible refine (cost_checkRelations.calls k _ _ l0 _ _ l1 t195 _ ?side1 ?side2 ?side3 ?side4 A3.out).mono ?_); (case side1 => repeat (first | exact HR0.out | (with_reducible refine Kd.C_alloc ?_ _) | (with_reducible refine Kd.C_drewN ?_ _) | (with_reducible refine Kd.C_drew ?_))); (case side2 => exact HC0.out); (case side3 => repeat (first | exact HR1.out | (with_reducible refine Kd.C_alloc ?_ _) | (with_reducible refine Kd.C_drewN ?_ _) | (with_reducible refine Kd.C_drew ?_))); (case side4 => exact HC1.out); rintro e w77 ⟨rfl, hb⟩; have n0_ := Aside0.mk (below_step s6q25 hb); clear HB; have HB := n0_; clear n0_; (try clear hb); (try clear hb2); (try clear hk); (try clear hi))))
  go_ret3
  exact ⟨_, by first | rfl | (simp [errW_none, errW_some] <;> rfl) | (simp [*, errW_none, errW_some] <;> rfl), by first | exact Kd.R_nil _ _ _ _ _ | exact Kd.N_nil _ _ _ _ _ | exact Kd.V_nil _ _ _ _ _ | exact Kd.Q_nil _ _ _ _ _ | exact Kd.S_nil _ _ _ _ _, by repeat (first | (with_reducible first | exact HB.out | apply below_alloc | apply pw_below_drewN | apply below_drew1) | exact HB.out)⟩
 rw [if_pos c4] at H
 have c4b0 : (t195 == 0) = true := beq_iff_eq.mpr c4
 have c4b1 : (t195 != 0) = false := bne_eq_false_iff_eq.mpr c4
 clear c4
 obtain ⟨ji5, hji5⟩ : ∃ j_ : Int, (shl .i64 1 (l0.length : Int)) = j_ := ⟨_, rfl⟩
 replace H : (if 0 ≤ (ji5) then (if (ji5 : Int).toNat ≤ 8796093022208 then (cost_BestLine.l0 k l0 l1 (List.replicate (ji5 : Int).toNat z80) 1) else (none)) else (none)) = some (r1, r2, r3) := by first | (rw [hji5] at H; exact H) | (simp only [hji5] at H ⊢; exact H)
 (try rw [hji5] at A3)
 have hji5_ : (IntKind.i64.wrap (1 * 2 ^ min (l0.length : Int).toNat 64)) = ji5 := hji5
 have hji5z : (l0.length : Int) ≤ 64 → (IntKind.i64.wrap (1 * 2 ^ (l0.length : Int).toNat)) = ji5 := shl_small hji5
 have hji5p : (IntKind.i64.wrap (1 * 2 ^ min l0.length 64)) = ji5 := hji5_
 have hji5q : (l0.length : Int) ≤ 64 → (IntKind.i64.wrap (1 * 2 ^ l0.length)) = ji5 := hji5z
 have hji5r : (IntKind.i64.wrap (2 ^ min l0.length 64)) = ji5 := by have h_ := hji5p; rw [Int.one_mul] at h_; exact h_
 have hji5s : (l0.length : Int) ≤ 64 → (IntKind.i64.wrap (2 ^ l0.length)) = ji5 := fun hle_ => by have h_ := hji5q hle_; rw [Int.one_mul] at h_; exact h_
 have hji5u : (IntKind.i64.wrap (2 ^ min (l0.length : Int).toNat 64)) = ji5 := by have h_ := hji5_; rw [Int.one_mul] at h_; exact h_
 have hji5v : (l0.length : Int) ≤ 64 → (IntKind.i64.wrap (2 ^ (l0.length : Int).toNat)) = ji5 := fun hle_ => by have h_ := hji5z hle_; rw [Int.one_mul] at h_; exact h_
 have hji5y : (wrap64 (1 * 2 ^ min (l0.length : Int).toNat 64)) = ji5 := (i64_w _).symm.trans hji5_
 have hji5x : (l0.length : Int) ≤ 64 → (wrap64 (1 * 2 ^ (l0.length : Int).toNat)) = ji5 := fun h_ => (i64_w _).symm.trans (hji5z h_)
 by_cases c6 : 0 ≤ (ji5)
 case neg =>
  rw [if_neg c6] at H
  exact absurd H s6q0
 rw [if_pos c6] at H
 have c6b0 := eq_true c6
 have c6b1 : decide (0 ≤ (ji5)) = true := decide_eq_true c6
 clear c6
 by_cases c7 : (ji5 : Int).toNat ≤ 8796093022208
 case neg =>
  rw [if_neg c7] at H
  exact absurd H s6q0
 rw [if_pos c7] at H
 have c7b0 := eq_true c7
 have c7b1 : decide ((ji5 : Int).toNat ≤ 8796093022208) = true := decide_eq_true c7
 clear c7
 obtain ⟨y196, hy196⟩ : ∃ y_ : List (S80), y_ = (List.replicate (ji5 : Int).toNat z80) := ⟨_, rfl⟩
 replace H : (cost_BestLine.l0 k l0 l1 y196 1) = some (r1, r2, r3) := sqz hy196 H
 have Ny196 := Aside0.mk hy196
 clear hy196
 have H' := Aside0.mk H
 clear H
 go_enter Tryd.func20, Tryd.ntmps20
 go_wp2_with (first | (go_at_call 40; (with_reducible refine (cost_checkRelations.calls k _ _ l0 _ _ l1 t195 _ ?side1 ?side2 ?side3 ?side4 A3.out).mono ?_); (case side1 => repeat (first | exact HR0.out | (with_reducible refine Kd.C_alloc ?_ _) | (with_reducible refine Kd.C_drewN ?_ _) | (with_reducible refine Kd.C_drew ?_))); (case side2 => exact HC0.out); (case side3 => repeat (first | exact HR1.out | (with_reducible refine Kd.C_alloc ?_ _) | (with_reducible refine Kd.C_drewN ?_ _) | (with_reducible refine Kd.C_drew ?_))); (case side4 => exact HC1.out); rintro e w8 ⟨rfl, hb⟩; have n0_ := Aside0.mk (below_step s6q25 hb); clear HB; have HB := n0_; clear n0_; (try clear hb); (try clear hb2); (try clear hk); (try clear hi)) | ((with_reducible refine gate_dst (N := 24) rfl ?_); refine Kd.S_make k80 _ 80 rfl (N := 24) rfl 76 _ _ rfl ji5 rfl rfl Tryd.underlying76 (.agg #[(.slice none 0 0), (.int .i64 0)]) 32 info80 rfl s6q2 s6q1 z80 (ok := fun _ => True) (okp := fun _ => True) (k80_mkM _ _ _ z80 (Kd.R_nil _ _ _ _ _)) (fun _ hk => hk) trivial (of_decide_eq_true s6q10) (Nat.le_trans (Nat.mul_le_mul_right _ (of_decide_eq_true s6q10 : ji5.toNat ≤ 8796093022208)) s6q1) (Below.refl _ _) (Nat.le_refl _) ?_; intro v197 w9 ho10 hb hg_ hnew_; clear hg_ hnew_; (first | rw [← Ny196.out] at ho10 | (simp only [Int.reduceToNat] at ho10; rw [← Ny196.out] at ho10)); have n0_ := Aside0.mk (Kd.S_lower ho10 (below_size s6q25)); have n1_ := Aside0.mk (below_step s6q25 hb); clear HB; have HO198 := n0_; have HB := n1_; clear n0_ n1_; clear hb ho10))
 go_loopg [9] k (fun kq v9 w' => ∃ (x8_1 : List (S80)) (x9_1 : Int), v9 = .int .i64 x9_1 ∧ Aside0 (cost_BestLine.l0 kq l0 l1 x8_1 x9_1 = some (r1, r2, r3)) ∧ Aside0 (kq ≤ k) ∧ Aside0 (Kd.S k80 80 w' w.heap.size (fun _ => True) v197 x8_1) ∧ Aside0 (Below w.heap.size w w'))
 case atStart => exact ⟨(y196), (1), s6q9, H', ⟨Nat.le_refl _⟩, ⟨by (with_reducible repeat (first | apply Kd.S_alloc | apply Kd.S_drewN | apply Kd.S_drew)); exact HO198.out⟩, ⟨by repeat (first | (with_reducible first | exact HB.out | apply below_alloc | apply pw_below_drewN | apply below_drew1) | exact HB.out)⟩⟩
 clear H'
 try clear c1
 try clear c2
 try clear p2
 try clear c4
 try clear c4b0
 try clear c4b1
 try clear c6
 try clear c6b0
 try clear c6b1
 try clear p6
 try clear c7
 try clear c7b0
 try clear c7b1
 obtain ⟨x8_1, x9_1, rfl, HA, HK1, HO_8, HB⟩ := hrel
 cases gk with
 | zero => exact absurd HA.out (by simp [cost_BestLine.l0])
 | succ k1 => ?_
 have H := HA.out
 clear HA
 simp only [cost_BestLine.l0] at H
 by_cases c11 : x9_1 < (x8_1.length : Int)
 case neg =>
  rw [if_neg c11] at H
  have c11b0 : decide (x9_1 < (x8_1.length : Int)) = false := decide_eq_false c11
  clear c11
  obtain ⟨ji71, hji71⟩ : ∃ j_ : Int, (wrap64 ((x8_1.length : Int) - 1)) = j_ := ⟨_, rfl⟩
  replace H : (if 0 ≤ (ji71) then (if (ji71) < (x8_1.length : Int) then (some ((rd_T80 x8_1 (ji71)).f0, (rd_T80 x8_1 (ji71)).f1, 0)) else (none)) else (none)) = some (r1, r2, r3) := by first | (rw [hji71] at H; exact H) | (simp only [hji71] at H ⊢; exact H)
  have hji71w : (IntKind.i64.wrap ((x8_1.length : Int) - 1)) = ji71 := (i64_w _).trans hji71
  by_cases c72 : 0 ≤ (ji71)
  case neg =>
   rw [if_neg c72] at H
   exact absurd H s6q0
  rw [if_pos c72] at H
  have c72b0 : decide (0 ≤ (ji71)) = true := decide_eq_true c72
  clear c72
  by_cases c73 : (ji71) < (x8_1.length : Int)
  case neg =>
   rw [if_neg c73] at H
   exact absurd H s6q0
  rw [if_pos c73] at H
  have c73b0 : decide ((ji71) < (x8_1.length : Int)) = true := decide_eq_true c73
  clear c73
  simp only [Option.some.injEq, Prod.mk.injEq] at H
  obtain ⟨rfl, rfl, rfl⟩ := H
  obtain ⟨Ao74, co74, eo74⟩ := Kd.S_slice HO_8.out
  subst eo74
  have p199 : 0 ≤ ((ji71) : Int) := of_decide_eq_true s6q10
  have q199 : (ji71) < (x8_1.length : Int) := of_decide_eq_true s6q10
  obtain ⟨ad199, A199_0, c199_0, e199, hx199_0, hx199_1, hl199_0, hi199_0⟩ := at_T80 (Kd.S_reads' HO_8.out).2.2 (ji71) p199 q199
  have hnl199_0 := at_T80_nil0 (Kd.S_reads' HO_8.out).2.2 (ji71) p199 q199 e199 hx199_0
  cases e199
  obtain ⟨ce199, hce199, hMe199, hcc199⟩ := Kd.S_get HO_8.out z80 (ji71) p199 (by first | exact q199 | exact of_decide_eq_true s6q10 | (have e_ := (Kd.S_reads' HO_8.out).1; omega))
  obtain ⟨ve199_0, rfl, ge199_0⟩ := k80_openM hMe199
  have hv199_0 := hcc199 0 _ rfl
  rw [Nat.add_zero] at hv199_0
  replace hv199_0 := Option.some.inj (hv199_0.symm.trans hx199_0)
  rw [hv199_0] at ge199_0
  have HL199_0 := Aside0.mk (show Kd.R (Kd.int .i64) 3 _ _ _ _ ((rd_T80 x8_1 (ji71)).f0) from ge199_0)
  clear hv199_0 ge199_0
  clear hcc199 hce199
  have HR199_0 := Aside0.mk hi199_0
  have HC199_0 := Aside0.mk hl199_0
  clear hi199_0 hl199_0
  replace p199 := eq_true p199
  replace q199 := eq_true q199
  go_wp2_with (first | ((with_reducible refine gate_dst (N := 14) rfl ?_); refine box_event ?hg (N := 14) ?hd (cs := #[.slice none 0 0, .int .i64 0]) (t := 80) ?hr ?_; (case hd => rfl); (case hg => rfl); (case hr => first | (go_simp; done) | (go_simp; rfl)); intro gb200 hg w75 hbox hb; have n0_ := Aside0.mk (Kd.S_below (Kd.S_elderB s6q14 gb200 (Nat.le_of_eq hg.symm)) hb); have n1_ := Aside0.mk (Kd.R_below s6q20 hb); have n2_ := Aside0.mk (Kd.C_below s6q33 hb); have n3_ := Aside0.mk (below_step s6q25 hb); have n4_ := Aside0.mk (hbox); have n5_ := Aside0.mk ((s6q52 : w.heap.size ≤ gb200)); have n6_ := Aside0.mk ((s6q52 : w.heap.size ≤ gb200)); clear HO_8; clear HL199_0; clear HR199_0; clear HB; have HO_8 := n0_; have HL199_0 := n1_; have HR199_0 := n2_; have HB := n3_; have BK200 := n4_; have GW200 := n5_; have GE200 := n6_; clear n0_ n1_ n2_ n3_ n4_ n5_ n6_; clear hb hbox hg; have hcz76_0 : w75.cell? ⟨gb200, 0, none⟩ = some (.slice none 0 0) := (blk_cell BK200.out 0).trans rfl; have hcz76_1 : w75.cell? ⟨gb200, 1, none⟩ = some (.int .i64 0) := (blk_cell BK200.out 1).trans rfl; have hfz76_0 := blk_frozen BK200.out 0; have hfz76_1 := blk_frozen BK200.out 1))
  repeat (go_quiet (first | ((with_reducible refine gate_dst (N := 14) rfl ?_); refine box_event ?hg (N := 14) ?hd (cs := #[.slice none 0 0, .int .i64 0]) (t := 80) ?hr ?_; (case hd => rfl); (case hg => rfl); (case hr => first | (go_simp; done) | (go_simp; rfl)); intro gb200 hg w75 hbox hb; have n0_ := Aside0.mk (Kd.S_below (Kd.S_elderB s6q14 gb200 (Nat.le_of_eq hg.symm)) hb); have n1_ := Aside0.mk (Kd.R_below s6q20 hb); have n2_ := Aside0.mk (Kd.C_below s6q33 hb); have n3_ := Aside0.mk (below_step s6q25 hb); have n4_ := Aside0.mk (hbox); have n5_ := Aside0.mk ((s6q52 : w.heap.size ≤ gb200)); have n6_ := Aside0.mk ((s6q52 : w.heap.size ≤ gb200)); clear HO_8; clear HL199_0; clear HR199_0; clear HB; have HO_8 := n0_; have HL199_0 := n1_; have HR199_0 := n2_; have HB := n3_; have BK200 := n4_; have GW200 := n5_; have GE200 := n6_; clear n0_ n1_ n2_ n3_ n4_ n5_ n6_; clear hb hbox hg; have hcz76_0 : w75.cell? ⟨gb200, 0, none⟩ = some (.slice none 0 0) := (blk_cell BK200.out 0).trans rfl; have hcz76_1 : w75.cell? ⟨gb200, 1, none⟩ = some (.int .i64 0) := (blk_cell BK200.out 1).trans rfl; have hfz76_0 := blk_frozen BK200.out 0; have hfz76_1 := blk_frozen BK200.out 1)); try go_wp2_with (first | ((with_reducible refine gate_dst (N := 14) rfl ?_); refine box_event ?hg (N := 14) ?hd (cs := #[.slice none 0 0, .int .i64 0]) (t := 80) ?hr ?_; (case hd => rfl); (case hg => rfl); (case hr => first | (go_simp; done) | (go_simp; rfl)); intro gb200 hg w75 hbox hb; have n0_ := Aside0.mk (Kd.S_below (Kd.S_elderB s6q14 gb200 (Nat.le_of_eq hg.symm)) hb); have n1_ := Aside0.mk (Kd.R_below s6q20 hb); have n2_ := Aside0.mk (Kd.C_below s6q33 hb); have n3_ := Aside0.mk (below_step s6q25 hb); have n4_ := Aside0.mk (hbox); have n5_ := Aside0.mk ((s6q52 : w.heap.size ≤ gb200)); have n6_ := Aside0.mk ((s6q52 : w.heap.size ≤ gb200)); clear HO_8; clear HL199_0; clear HR199_0; clear HB; have HO_8 := n0_; have HL199_0 := n1_; have HR199_0 := n2_; have HB := n3_; have BK200 := n4_; have GW200 := n5_; have GE200 := n6_; clear n0_ n1_ n2_ n3_ n4_ n5_ n6_; clear hb hbox hg; have hcz76_0 : w75.cell? ⟨gb200, 0, none⟩ = some (.slice none 0 0) := (blk_cell BK200.out 0).trans rfl; have hcz76_1 : w75.cell? ⟨gb200, 1, none⟩ = some (.int .i64 0) := (blk_cell BK200.out 1).trans rfl; have hfz76_0 := blk_frozen BK200.out 0; have hfz76_1 := blk_frozen BK200.out 1)))
  go_ret3
  exact ⟨_, by first | rfl | (simp [errW_none, errW_some] <;> rfl) | (simp only [← hji5, ← hji71]; first | rfl | (simp [errW_none, errW_some] <;> rfl)) | (simp [*, errW_none, errW_some] <;> rfl), by (with_reducible repeat (first | apply Kd.R_alloc | apply Kd.R_drewN | apply Kd.R_drew)); exact Kd.R_mono (Kd.R_far (p := ⟨gb200, 1, none⟩) (Kd.R_far (p := ⟨gb200, 0, none⟩) (Kd.R_types HL199_0.out BK200.out s6q2) (fun _ hk => hk.2) (.slice A199_0 ((rd_T80 x8_1 (ji71)).f0).length c199_0)) (fun _ hk => hk.2) (.int .i64 ((rd_T80 x8_1 (ji71)).f1))) (fun _ hk => trivial), by repeat (first | (with_reducible first | exact HB.out | apply below_alloc | apply pw_below_drewN | apply below_drew1 | refine below_set ?_ GE200.out) | exact HB.out)⟩
 rw [if_pos c11] at H
 have c11b0 : decide (x9_1 < (x8_1.length : Int)) = true := decide_eq_true c11
 clear c11
 by_cases c12 : (Go.bits .and .i64 x9_1 (wrap64 (x9_1 - 1))) = 0
 · rw [if_pos c12] at H
   have c12b0 : ((Go.bits .and .i64 x9_1 (wrap64 (x9_1 - 1))) == 0) = true := beq_iff_eq.mpr c12
   have c12b1 : ((Go.bits .and .i64 x9_1 (wrap64 (x9_1 - 1))) != 0) = false := bne_eq_false_iff_eq.mpr c12
   clear c12
   replace H := Option.bind_eq_some_iff.mp H
   obtain ⟨t201, A130, H⟩ := H
   replace H : ((some (([t201] : List Int) : List Int)).bind fun y202 => (if 0 ≤ x9_1 then (if (y202.length : Int) = 0 then (none) else (cost_BestLine.l0 k1 l0 l1 (x8_1.set (x9_1 : Int).toNat (⟨y202, (rd_T80 x8_1 x9_1).f1⟩ : S80)) (wrap64 (x9_1 + 1)))) else (none))) = some (r1, r2, r3) := H
   have A13 := Aside0.mk A130
   clear A130
   obtain ⟨y202, hy202⟩ : ∃ y_ : List Int, y_ = (([t201] : List Int)) := ⟨_, rfl⟩
   replace H : (if 0 ≤ x9_1 then (if (y202.length : Int) = 0 then (none) else (cost_BestLine.l0 k1 l0 l1 (x8_1.set (x9_1 : Int).toNat (⟨y202, (rd_T80 x8_1 x9_1).f1⟩ : S80)) (wrap64 (x9_1 + 1)))) else (none)) = some (r1, r2, r3) := sqz hy202 H
   have Ny202 := Aside0.mk hy202
   clear hy202
   by_cases c14 : 0 ≤ x9_1
   case neg =>
    rw [if_neg c14] at H
    exact absurd H s6q0
   rw [if_pos c14] at H
   have c14b0 : decide (0 ≤ x9_1) = true := decide_eq_true c14
   clear c14
   by_cases c16 : (y202.length : Int) = 0
   · rw [if_pos c16] at H
     exact absurd H s6q0
   rw [if_neg c16] at H
   have c16b0 : ((y202.length : Int) == 0) = false := beq_eq_false_iff_ne.mpr c16
   have c16b1 : ((y202.length : Int) != 0) = true := bne_iff_ne.mpr c16
   have c16b2 : ¬ (y202 = []) := fun h_ => c16 (by rw [h_]; rfl)
   obtain ⟨y205, hy205⟩ : ∃ y_ : List (S80), y_ = (x8_1.set (x9_1 : Int).toNat (⟨y202, (rd_T80 x8_1 x9_1).f1⟩ : S80)) := ⟨_, rfl⟩
   replace H : (cost_BestLine.l0 k1 l0 l1 y205 (wrap64 (x9_1 + 1))) = some (r1, r2, r3) := sqz hy205 H
   have Ny205 := Aside0.mk hy205
   clear hy205
   have H' := Aside0.mk H
   clear H
   obtain ⟨Ao17, co17, eo17⟩ := Kd.S_slice HO_8.out
   subst eo17
   go_wp2_with (first | (go_at_call 46; (with_reducible refine (bits_TrailingZeros.calls (IntKind.u64.wrap (x9_1)) t201 _ ?side1 A13.out).mono ?_); (case side1 => exact Glob_below HG.out s6q25); rintro e w' ⟨rfl, ⟨nd, rfl⟩⟩; (try first | exact ⟨rfl, _, World.drewN_drewN _ _ _⟩ | exact ⟨rfl, _, Eq.trans (World.drewN_drewN _ _ _) (congrArg (World.drewN _) (Nat.add_assoc _ _ _))⟩)) | ((with_reducible refine gate_dst (N := 41) rfl ?_); refine Kd.R_lit (Kd.int .i64) _ 3 ?hg (N := 41) ?hd (xs := ([t201] : List Int)) (inner := [.int .i64 t201]) (ok := fun _ => True) (okp := fun _ => True) ?hr ?hp (fun _ hk => hk) trivial (Below.refl _ _) (Nat.le_refl _) s6q0 ?_; (case hd => rfl); (case hg => rfl); (case hr => first | (go_simp; done) | (go_simp; rfl)); (case hp => exact (Reps.one (show Kd.M (Kd.int .i64) _ _ _ t201 [.int .i64 t201] from rfl) (Reps.none _ _))); intro v203 w18 ho19 hb hg_ hnew_; clear hg_ hnew_; (first | rw [← Ny202.out] at ho19 | (simp only [Int.reduceToNat] at ho19; rw [← Ny202.out] at ho19)); have n0_ := Aside0.mk (Kd.S_elder' s6q14 (Kd.R_base ho19) hb); have n1_ := Aside0.mk (Kd.R_lower ho19 (below_size s6q25)); have n2_ := Aside0.mk (below_step s6q25 hb); clear HO_8; clear HB; have HO_8 := n0_; have HO204 := n1_; have HB := n2_; clear n0_ n1_ n2_; clear hb ho19; have p15 : 0 ≤ (x9_1 : Int) := of_decide_eq_true s6q10; have q15 : (x9_1 : Int) < ((x8_1.length : Int) : Int) := of_decide_eq_true s6q10; obtain ⟨go15, co15, eo15, gb15, gl15, cl15, HG15⟩ := Kd.S_form HO_8.out s6q11; (first | cases eo15 | (injection eo15 with ea_ en_ ec_; (first | subst ea_ | (injection ea_ with ea_; subst ea_)); subst ec_; clear en_)); have GB15 := Aside0.mk gb15; have GG15 := Aside0.mk HG15; clear gb15 gl15 HG15; obtain ⟨_, ce15, hcl15, hM15, hcc15, hfr15, _, _⟩ := Kd.S_elem HO_8.out z80 (x9_1 : Int) p15 q15; obtain ⟨ve15_0, rfl, ge15_0⟩ := k80_openM hM15; have hx15_0 : w18.cell? ⟨go15, (x9_1 : Int).toNat * 2, none⟩ = some (ve15_0) := hcc15 0 _ rfl; have hx15_1 : w18.cell? ⟨go15, (x9_1 : Int).toNat * 2 + 1, none⟩ = some (.int .i64 ((rd_T80 x8_1 x9_1).f1)) := hcc15 1 _ rfl; have hf15_0 : w18.frozen? ⟨go15, (x9_1 : Int).toNat * 2, none⟩ = false := hfr15 0; have hf15_1 : w18.frozen? ⟨go15, (x9_1 : Int).toNat * 2 + 1, none⟩ = false := hfr15 1; clear hcl15 hcc15 hfr15 hM15; replace p15 := eq_true p15; replace q15 := eq_true q15; obtain ⟨Ao20, co20, eo20⟩ := Kd.R_slice HO204.out; subst eo20; have n_ := Aside0.mk (Kd.S_mono (ok' := (fun k_ => some k_ ≠ (.slice Ao20 y202.length co20 : Value).ownBlock)) HO_8.out (fun k_ hk => hk.2)); clear HO_8; have HO_8 := n_; clear n_; have HX21 := Aside0.mk (show Kd.S k80 80 w18 w.heap.size (fun k_ => ((fun _ => True)) k_ ∧ ¬ ((fun k_ => some k_ = (.slice Ao20 y202.length co20 : Value).ownBlock)) k_) (.slice (some ⟨go15, 0, none⟩) x8_1.length co17) x8_1 from s6q28); obtain ⟨oki21, ce21, hcl21, hM21, hcc21, hfr21, hoki21, hH21⟩ := Kd.S_elem HX21.out z80 (x9_1 : Int) (of_decide_eq_true s6q10) s6q48; obtain ⟨ve21_0, rfl, ge21_0⟩ := k80_openM hM21; have HP21 := Kd.S_seg hH21 (of_decide_eq_true s6q10) s6q48 (seg := [.slice Ao20 y202.length co20]) (j := 0) (show 1 ≤ 2 from by decide) (x' := (⟨y202, (rd_T80 x8_1 x9_1).f1⟩ : S80)) (k80_mkM _ _ _ (⟨y202, (rd_T80 x8_1 x9_1).f1⟩ : S80) (Kd.R_mono (Kd.R_tight rfl (Kd.R_mono (ok' := fun k_ => ((fun _ => True)) k_ ∧ k_ ≠ go15) (Kd.R_apart' (HO204.out) (Kd.S_typed HO_8.out) s6q2) (fun k_ hk => ⟨trivial, fun e_ => (hk.2) s6q3⟩))) (fun _ h_ => Or.inr (h_)))) (fun _ hk => hk) (fun k_ hk_ => ((Kd.R_mono (ok' := fun k_ => ((fun _ => True)) k_ ∧ k_ ≠ go15) (Kd.R_apart' (HO204.out) (Kd.S_typed HO_8.out) s6q2) (fun k_ hk => ⟨trivial, fun e_ => (hk.2) s6q3⟩))).1 k_ hk_.symm); have hx21_0 := hcc21 0 _ rfl; (try simp only [show (k80).sz = 2 from rfl, Nat.mul_one, Nat.add_zero] at hx21_0); have hf21_0 := hfr21 0; (try simp only [show (k80).sz = 2 from rfl, Nat.mul_one, Nat.add_zero] at hf21_0); clear hcl21 hcc21 hfr21 hM21 hoki21 hH21) | ((with_reducible refine gate_store (t := 22) (p := 43) rfl ?_); (try (rw [drewN_self w18]; generalize hq_ : World.drewN w18 _ = w18; have n0_ := Aside0.mk (Kd.S_at hq_ HO_8.out); have n1_ := Aside0.mk (below_at hq_ HB.out); clear hq_ HO_8 HB; have HO_8 := n0_; have HB := n1_; clear n0_ n1_; (try (have n_ := Aside0.mk (Kd.S_mono (ok' := (fun k_ => some k_ ≠ (.slice Ao20 y202.length co20 : Value).ownBlock)) HO_8.out (fun k_ hk => hk.2)); clear HO_8; have HO_8 := n_; clear n_)); (try (have HX21 := Aside0.mk (show Kd.S k80 80 w18 w.heap.size (fun k_ => ((fun _ => True)) k_ ∧ ¬ ((fun k_ => some k_ = (.slice Ao20 y202.length co20 : Value).ownBlock)) k_) (.slice (some ⟨go15, 0, none⟩) x8_1.length co17) x8_1 from s6q28))); (try (obtain ⟨oki21, ce21, hcl21, hM21, hcc21, hfr21, hoki21, hH21⟩ := Kd.S_elem HX21.out z80 (x9_1 : Int) (of_decide_eq_true s6q10) s6q48)); (try (obtain ⟨ve21_0, rfl, ge21_0⟩ := k80_openM hM21)); (try (have HP21 := Kd.S_seg hH21 (of_decide_eq_true s6q10) s6q48 (seg := [.slice Ao20 y202.length co20]) (j := 0) (show 1 ≤ 2 from by decide) (x' := (⟨y202, (rd_T80 x8_1 x9_1).f1⟩ : S80)) (k80_mkM _ _ _ (⟨y202, (rd_T80 x8_1 x9_1).f1⟩ : S80) (Kd.R_mono (Kd.R_tight rfl (Kd.R_mono (ok' := fun k_ => ((fun _ => True)) k_ ∧ k_ ≠ go15) (Kd.R_apart' (HO204.out) (Kd.S_typed HO_8.out) s6q2) (fun k_ hk => ⟨trivial, fun e_ => (hk.2) s6q3⟩))) (fun _ h_ => Or.inr (h_)))) (fun _ hk => hk) (fun k_ hk_ => ((Kd.R_mono (ok' := fun k_ => ((fun _ => True)) k_ ∧ k_ ≠ go15) (Kd.R_apart' (HO204.out) (Kd.S_typed HO_8.out) s6q2) (fun k_ hk => ⟨trivial, fun e_ => (hk.2) s6q3⟩))).1 k_ hk_.symm))); (try (have hx21_0 := hcc21 0 _ rfl)); (try (try simp only [show (k80).sz = 2 from rfl, Nat.mul_one, Nat.add_zero] at hx21_0)); (try (have hf21_0 := hfr21 0)); (try (try simp only [show (k80).sz = 2 from rfl, Nat.mul_one, Nat.add_zero] at hf21_0)); (try (clear hcl21 hcc21 hfr21 hM21 hoki21 hH21)))); refine store_event (t := 22) (p := 43) (v := ?vo_w22) (w1 := (w18.setCell ⟨go15, (x9_1 : Int).toNat * 2, none⟩ (.slice Ao20 y202.length co20))) ?hg ?ho ?hn ?hr ?_; (case ho => rfl); (case hg => rfl); (case hn => rfl); (case hr => first | (go_simp; done) | (go_simp; rfl)); intro w22 hw; have hg : w18.grownBy w22 (some go15) := (by rw [hw]; exact HP21.2); have hp_ : Kd.S k80 80 w22 w.heap.size (fun _ => True) (.slice (some ⟨go15, 0, none⟩) x8_1.length co17) y205 := s6q6; clear HP21; have n0_ := Aside0.mk (hp_); have n1_ := Aside0.mk ((s6q42 : Below w.heap.size w w22)); clear HO_8; clear HB; clear HO204; have HO_8 := n0_; have HB := n1_; clear n0_ n1_; clear hg hw hp_))
   first | go_roundg k1 | (refine Handed.intro k1 ?measure ?_; rotate_left; go_step; (repeat apply Exists.intro); simp only [add_plain]; refine ⟨?rel, rfl⟩)
   case measure => have := HK1.out; omega
   case rel => exact ⟨(y205), (wrap64 (x9_1 + 1)), s6q9, H', ⟨by have := HK1.out; omega⟩, ⟨by (with_reducible repeat (first | apply Kd.S_alloc | apply Kd.S_drewN | apply Kd.S_drew)); exact HO_8.out⟩, ⟨by repeat (first | (with_reducible first | exact HB.out | apply below_alloc | apply pw_below_drewN | apply below_drew1) | exact HB.out)⟩⟩
 rw [if_neg c12] at H
 have c12b0 : ((Go.bits .and .i64 x9_1 (wrap64 (x9_1 - 1))) == 0) = false := beq_eq_false_iff_ne.mpr c12
 have c12b1 : ((Go.bits .and .i64 x9_1 (wrap64 (x9_1 - 1))) != 0) = true := bne_iff_ne.mpr c12
 replace H := Option.bind_eq_some_iff.mp H
 obtain ⟨t206, A230, H⟩ := H
 replace H : (cost_BestLine.l1 k1 l0 l1 x8_1 x9_1 t206 (l0.length : Int) 0) = some (r1, r2, r3) := H
 have A23 := Aside0.mk A230
 clear A230
 have H' := Aside0.mk H
 clear H
 obtain ⟨Ao24, co24, eo24⟩ := Kd.S_slice HO_8.out
 subst eo24
 go_wp2_with (first | (go_at_call 42; (with_reducible refine (cost_size.calls k1 _ _ l0 _ _ l1 x9_1 t206 _ ?side1 ?side2 ?side3 ?side4 A23.out).mono ?_); (case side1 => repeat (first | exact (Kd.C_below HR0.out HB.out) | (with_reducible refine Kd.C_alloc ?_ _) | (with_reducible refine Kd.C_drewN ?_ _) | (with_reducible refine Kd.C_drew ?_))); (case side2 => exact HC0.out); (case side3 => repeat (first | exact (Kd.C_below HR1.out HB.out) | (with_reducible refine Kd.C_alloc ?_ _) | (with_reducible refine Kd.C_drewN ?_ _) | (with_reducible refine Kd.C_drew ?_))); (case side4 => exact HC1.out); rintro e w25 ⟨rfl, hb⟩; have n0_ := Aside0.mk (Kd.S_below s6q14 hb); have n1_ := Aside0.mk (below_step s6q25 hb); clear HO_8; clear HB; have HO_8 := n0_; have HB := n1_; clear n0_ n1_; (try clear hb); (try clear hb2); (try clear hk); (try clear hi)))
 go_loopg [50] k1 (fun kq v50 w' => ∃ (x8_2 : List (S80)) (x50_2 : Int), v50 = .int .i64 x50_2 ∧ Aside0 (cost_BestLine.l1 kq l0 l1 x8_2 x9_1 t206 (l0.length : Int) x50_2 = some (r1, r2, r3)) ∧ Aside0 (kq ≤ k1) ∧ Aside0 (Kd.S k80 80 w' w.heap.size (fun _ => True) (.slice Ao24 x8_1.length co24) x8_2) ∧ Aside0 (Below w.heap.size w w'))
 case atStart => exact ⟨(x8_1), (0), s6q9, H', ⟨Nat.le_refl _⟩, ⟨by (with_reducible repeat (first | apply Kd.S_alloc | apply Kd.S_drewN | apply Kd.S_drew)); exact HO_8.out⟩, ⟨by repeat (first | (with_reducible first | exact HB.out | apply below_alloc | apply pw_below_drewN | apply below_drew1) | exact HB.out)⟩⟩
 clear H'
 try clear c1
 try clear p1
 try clear q1
 try clear hx1
 try clear c2
 try clear p2
 try clear hx2
 try clear hf2
 try clear c4
 try clear c4b0
 try clear c4b1
 try clear c6
 try clear c6b0
 try clear c6b1
 try clear p6
 try clear c7
 try clear c7b0
 try clear c7b1
 try clear c11
 try clear c11b0
 try clear c12
 try clear c12b0
 try clear c12b1
 try clear c14
 try clear c14b0
 try clear c15
 try clear p15
 try clear q15
 try clear hx15
 try clear hf15
 try clear c16
 try clear c16b0
 try clear c16b1
 try clear c16b2
 try clear c20
 try clear c21
 try clear hx21
 try clear hf21
 try clear hx15_0
 try clear hx15_1
 try clear hx21_0
 try clear p15
 try clear p2
 try clear p6
 try clear q15
 obtain ⟨x8_2, x50_2, rfl, HA, HK2, HO_8, HB⟩ := hrel
 have hl8_2 := (Kd.S_reads' HO_8.out).1
 rw [hl8_2] at HO_8
 (try simp only [hl8_2])
 cases gk with
 | zero => exact absurd HA.out (by simp [cost_BestLine.l1])
 | succ k2 => ?_
 have H := HA.out
 clear HA
 simp only [cost_BestLine.l1] at H
 by_cases c26 : x50_2 < (l0.length : Int)
 case neg =>
  rw [if_neg c26] at H
  have c26b0 : decide (x50_2 < (l0.length : Int)) = false := decide_eq_false c26
  clear c26
  have H' := Aside0.mk H
  clear H
  go_wp2
  (try simp only [← hl8_2])
  first | go_roundg k2 | (refine Handed.intro k2 ?measure ?_; rotate_left; go_step; (repeat apply Exists.intro); simp only [add_plain]; refine ⟨?rel, rfl⟩)
  case measure => have := HK1.out; have := HK2.out; omega
  case rel => exact ⟨(x8_2), (wrap64 (x9_1 + 1)), s6q9, H', ⟨by have := HK1.out; have := HK2.out; omega⟩, ⟨by (try simp only [hl8_2]); (with_reducible repeat (first | apply Kd.S_alloc | apply Kd.S_drewN | apply Kd.S_drew)); exact HO_8.out⟩, ⟨by repeat (first | (with_reducible first | exact HB.out | apply below_alloc | apply pw_below_drewN | apply below_drew1) | exact HB.out)⟩⟩
 rw [if_pos c26] at H
 have c26b0 : decide (x50_2 < (l0.length : Int)) = true := decide_eq_true c26
 clear c26
 by_cases c27 : 0 ≤ x50_2
 case neg =>
  rw [if_neg c27] at H
  exact absurd H s6q0
 rw [if_pos c27] at H
 have c27b0 := eq_true c27
 have c27b1 : decide (0 ≤ x50_2) = true := decide_eq_true c27
 clear c27
 obtain ⟨ji28, hji28⟩ : ∃ j_ : Int, (shr .i64 x9_1 x50_2) = j_ := ⟨_, rfl⟩
 replace H : (if (Go.bits .and .i64 (ji28) 1) = 0 then (cost_BestLine.l1 k2 l0 l1 x8_2 x9_1 t206 (l0.length : Int) (wrap64 (x50_2 + 1))) else (if 0 ≤ (Go.bits .andNot .i64 x9_1 (shl .i64 1 x50_2)) then (if (Go.bits .andNot .i64 x9_1 (shl .i64 1 x50_2)) < (x8_2.length : Int) then (if 0 ≤ x9_1 then (if x9_1 < (x8_2.length : Int) then (if (((rd_T80 x8_2 x9_1).f0).length : Int) = 0 then ((cost_joined.f k2 ((rd_T80 x8_2 (Go.bits .andNot .i64 x9_1 (shl .i64 1 x50_2))).f0) (([x50_2] : List Int))).bind fun t213 => (if (t213.length : Int) = 0 then (none) else (cost_BestLine.l1 k2 l0 l1 (x8_2.set (x9_1 : Int).toNat (⟨t213, mn 1000000000000000 (wrap64 (((rd_T80 x8_2 (Go.bits .andNot .i64 x9_1 (shl .i64 1 x50_2))).f1) + t206))⟩ : S80)) x9_1 t206 (l0.length : Int) (wrap64 (x50_2 + 1))))) else (if (mn 1000000000000000 (wrap64 (((rd_T80 x8_2 (Go.bits .andNot .i64 x9_1 (shl .i64 1 x50_2))).f1) + t206))) < ((rd_T80 x8_2 x9_1).f1) then ((cost_joined.f k2 ((rd_T80 x8_2 (Go.bits .andNot .i64 x9_1 (shl .i64 1 x50_2))).f0) (([x50_2] : List Int))).bind fun t221 => (if (t221.length : Int) = 0 then (none) else (cost_BestLine.l1 k2 l0 l1 (x8_2.set (x9_1 : Int).toNat (⟨t221, mn 1000000000000000 (wrap64 (((rd_T80 x8_2 (Go.bits .andNot .i64 x9_1 (shl .i64 1 x50_2))).f1) + t206))⟩ : S80)) x9_1 t206 (l0.length : Int) (wrap64 (x50_2 + 1))))) else (cost_BestLine.l1 k2 l0 l1 x8_2 x9_1 t206 (l0.length : Int) (wrap64 (x50_2 + 1))))) else (none)) else (none)) else (none)) else (none))) = some (r1, r2, r3) := by first | (rw [hji28] at H; exact H) | (simp only [hji28] at H ⊢; exact H)
 have hji28_ : (x9_1 / 2 ^ min x50_2.toNat 64) = ji28 := hji28
 have hji28z : x50_2 ≤ 64 → (x9_1 / 2 ^ x50_2.toNat) = ji28 := shr_small hji28
 by_cases c29 : (Go.bits .and .i64 (ji28) 1) = 0
 · rw [if_pos c29] at H
   have c29b0 : ((Go.bits .and .i64 (ji28) 1) == 0) = true := beq_iff_eq.mpr c29
   have c29b1 : ((Go.bits .and .i64 (ji28) 1) != 0) = false := bne_eq_false_iff_eq.mpr c29
   clear c29
   have H' := Aside0.mk H
   clear H
   go_wp2
   (try simp only [← hl8_2])
   first | go_roundg k2 | (refine Handed.intro k2 ?measure ?_; rotate_left; go_step; (repeat apply Exists.intro); simp only [add_plain]; refine ⟨?rel, rfl⟩)
   case measure => have := HK1.out; have := HK2.out; omega
   case rel => exact ⟨(x8_2), (wrap64 (x50_2 + 1)), s6q9, H', ⟨by have := HK1.out; have := HK2.out; omega⟩, ⟨by (try simp only [hl8_2]); (with_reducible repeat (first | apply Kd.S_alloc | apply Kd.S_drewN | apply Kd.S_drew)); exact HO_8.out⟩, ⟨by repeat (first | (with_reducible first | exact HB.out | apply below_alloc | apply pw_below_drewN | apply below_drew1) | exact HB.out)⟩⟩
 rw [if_neg c29] at H
 have c29b0 : ((Go.bits .and .i64 (ji28) 1) == 0) = false := beq_eq_false_iff_ne.mpr c29
 have c29b1 : ((Go.bits .and .i64 (ji28) 1) != 0) = true := bne_iff_ne.mpr c29
 have c30b0 := eq_true (of_decide_eq_true s6q10 : 0 ≤ x50_2)
 obtain ⟨ji31, hji31⟩ : ∃ j_ : Int, (shl .i64 1 x50_2) = j_ := ⟨_, rfl⟩
 replace H : (if 0 ≤ (Go.bits .andNot .i64 x9_1 (ji31)) then (if (Go.bits .andNot .i64 x9_1 (ji31)) < (x8_2.length : Int) then (if 0 ≤ x9_1 then (if x9_1 < (x8_2.length : Int) then (if (((rd_T80 x8_2 x9_1).f0).length : Int) = 0 then ((cost_joined.f k2 ((rd_T80 x8_2 (Go.bits .andNot .i64 x9_1 (ji31))).f0) (([x50_2] : List Int))).bind fun t213 => (if (t213.length : Int) = 0 then (none) else (cost_BestLine.l1 k2 l0 l1 (x8_2.set (x9_1 : Int).toNat (⟨t213, mn 1000000000000000 (wrap64 (((rd_T80 x8_2 (Go.bits .andNot .i64 x9_1 (ji31))).f1) + t206))⟩ : S80)) x9_1 t206 (l0.length : Int) (wrap64 (x50_2 + 1))))) else (if (mn 1000000000000000 (wrap64 (((rd_T80 x8_2 (Go.bits .andNot .i64 x9_1 (ji31))).f1) + t206))) < ((rd_T80 x8_2 x9_1).f1) then ((cost_joined.f k2 ((rd_T80 x8_2 (Go.bits .andNot .i64 x9_1 (ji31))).f0) (([x50_2] : List Int))).bind fun t221 => (if (t221.length : Int) = 0 then (none) else (cost_BestLine.l1 k2 l0 l1 (x8_2.set (x9_1 : Int).toNat (⟨t221, mn 1000000000000000 (wrap64 (((rd_T80 x8_2 (Go.bits .andNot .i64 x9_1 (ji31))).f1) + t206))⟩ : S80)) x9_1 t206 (l0.length : Int) (wrap64 (x50_2 + 1))))) else (cost_BestLine.l1 k2 l0 l1 x8_2 x9_1 t206 (l0.length : Int) (wrap64 (x50_2 + 1))))) else (none)) else (none)) else (none)) else (none)) = some (r1, r2, r3) := by first | (rw [hji31] at H; exact H) | (simp only [hji31] at H ⊢; exact H)
 have hji31_ : (IntKind.i64.wrap (1 * 2 ^ min x50_2.toNat 64)) = ji31 := hji31
 have hji31z : x50_2 ≤ 64 → (IntKind.i64.wrap (1 * 2 ^ x50_2.toNat)) = ji31 := shl_small hji31
 have hji31u : (IntKind.i64.wrap (2 ^ min x50_2.toNat 64)) = ji31 := by have h_ := hji31_; rw [Int.one_mul] at h_; exact h_
 have hji31v : x50_2 ≤ 64 → (IntKind.i64.wrap (2 ^ x50_2.toNat)) = ji31 := fun hle_ => by have h_ := hji31z hle_; rw [Int.one_mul] at h_; exact h_
 have hji31y : (wrap64 (1 * 2 ^ min x50_2.toNat 64)) = ji31 := (i64_w _).symm.trans hji31_
 have hji31x : x50_2 ≤ 64 → (wrap64 (1 * 2 ^ x50_2.toNat)) = ji31 := fun h_ => (i64_w _).symm.trans (hji31z h_)
 by_cases c32 : 0 ≤ (Go.bits .andNot .i64 x9_1 (ji31))
 case neg =>
  rw [if_neg c32] at H
  exact absurd H s6q0
 rw [if_pos c32] at H
 have c32b0 : decide (0 ≤ (Go.bits .andNot .i64 x9_1 (ji31))) = true := decide_eq_true c32
 clear c32
 by_cases c33 : (Go.bits .andNot .i64 x9_1 (ji31)) < (x8_2.length : Int)
 case neg =>
  rw [if_neg c33] at H
  exact absurd H s6q0
 rw [if_pos c33] at H
 have c33b0 : decide ((Go.bits .andNot .i64 x9_1 (ji31)) < (x8_2.length : Int)) = true := decide_eq_true c33
 clear c33
 obtain ⟨ji34, hji34⟩ : ∃ j_ : Int, (mn 1000000000000000 (wrap64 (((rd_T80 x8_2 (Go.bits .andNot .i64 x9_1 (ji31))).f1) + t206))) = j_ := ⟨_, rfl⟩
 replace H : (if 0 ≤ x9_1 then (if x9_1 < (x8_2.length : Int) then (if (((rd_T80 x8_2 x9_1).f0).length : Int) = 0 then ((cost_joined.f k2 ((rd_T80 x8_2 (Go.bits .andNot .i64 x9_1 (ji31))).f0) (([x50_2] : List Int))).bind fun t213 => (if (t213.length : Int) = 0 then (none) else (cost_BestLine.l1 k2 l0 l1 (x8_2.set (x9_1 : Int).toNat (⟨t213, ji34⟩ : S80)) x9_1 t206 (l0.length : Int) (wrap64 (x50_2 + 1))))) else (if (ji34) < ((rd_T80 x8_2 x9_1).f1) then ((cost_joined.f k2 ((rd_T80 x8_2 (Go.bits .andNot .i64 x9_1 (ji31))).f0) (([x50_2] : List Int))).bind fun t221 => (if (t221.length : Int) = 0 then (none) else (cost_BestLine.l1 k2 l0 l1 (x8_2.set (x9_1 : Int).toNat (⟨t221, ji34⟩ : S80)) x9_1 t206 (l0.length : Int) (wrap64 (x50_2 + 1))))) else (cost_BestLine.l1 k2 l0 l1 x8_2 x9_1 t206 (l0.length : Int) (wrap64 (x50_2 + 1))))) else (none)) else (none)) = some (r1, r2, r3) := by first | (rw [hji34] at H; exact H) | (simp only [hji34] at H ⊢; exact H)
 have hji34_ : (if (wrap64 (((rd_T80 x8_2 (Go.bits .andNot .i64 x9_1 (ji31))).f1) + t206)) < 1000000000000000 then (wrap64 (((rd_T80 x8_2 (Go.bits .andNot .i64 x9_1 (ji31))).f1) + t206)) else 1000000000000000) = ji34 := hji34
 by_cases c35 : 0 ≤ x9_1
 case neg =>
  rw [if_neg c35] at H
  exact absurd H s6q0
 rw [if_pos c35] at H
 have c35b0 : decide (0 ≤ x9_1) = true := decide_eq_true c35
 clear c35
 by_cases c36 : x9_1 < (x8_2.length : Int)
 case neg =>
  rw [if_neg c36] at H
  exact absurd H s6q0
 rw [if_pos c36] at H
 have c36b0 : decide (x9_1 < (x8_2.length : Int)) = true := decide_eq_true c36
 clear c36
 by_cases c37 : (((rd_T80 x8_2 x9_1).f0).length : Int) = 0
 · rw [if_pos c37] at H
   have c37e : (((rd_T80 x8_2 x9_1).f0)).isEmpty = true := List.isEmpty_iff.mpr (List.eq_nil_of_length_eq_zero s6q1)
   have c37b0 : ((((rd_T80 x8_2 x9_1).f0).length : Int) == 0) = true := beq_iff_eq.mpr c37
   have c37b1 : ((((rd_T80 x8_2 x9_1).f0).length : Int) != 0) = false := bne_eq_false_iff_eq.mpr c37
   clear c37
   obtain ⟨y210, hy210⟩ : ∃ y_ : List Int, y_ = (([x50_2] : List Int)) := ⟨_, rfl⟩
   replace H : ((cost_joined.f k2 ((rd_T80 x8_2 (Go.bits .andNot .i64 x9_1 (ji31))).f0) y210).bind fun t213 => (if (t213.length : Int) = 0 then (none) else (cost_BestLine.l1 k2 l0 l1 (x8_2.set (x9_1 : Int).toNat (⟨t213, ji34⟩ : S80)) x9_1 t206 (l0.length : Int) (wrap64 (x50_2 + 1))))) = some (r1, r2, r3) := sqz hy210 H
   have Ny210 := Aside0.mk hy210
   clear hy210
   replace H := Option.bind_eq_some_iff.mp H
   obtain ⟨t213, A380, H⟩ := H
   replace H : (if (t213.length : Int) = 0 then (none) else (cost_BestLine.l1 k2 l0 l1 (x8_2.set (x9_1 : Int).toNat (⟨t213, ji34⟩ : S80)) x9_1 t206 (l0.length : Int) (wrap64 (x50_2 + 1)))) = some (r1, r2, r3) := H
   have A38 := Aside0.mk A380
   clear A380
   by_cases c40 : (t213.length : Int) = 0
   · rw [if_pos c40] at H
     exact absurd H s6q0
   rw [if_neg c40] at H
   have c40b0 : ((t213.length : Int) == 0) = false := beq_eq_false_iff_ne.mpr c40
   have c40b1 : ((t213.length : Int) != 0) = true := bne_iff_ne.mpr c40
   have c40b2 : ¬ (t213 = []) := fun h_ => c40 (by rw [h_]; rfl)
   obtain ⟨y216, hy216⟩ : ∃ y_ : List (S80), y_ = (x8_2.set (x9_1 : Int).toNat (⟨t213, ji34⟩ : S80)) := ⟨_, rfl⟩
   replace H : (cost_BestLine.l1 k2 l0 l1 y216 x9_1 t206 (l0.length : Int) (wrap64 (x50_2 + 1))) = some (r1, r2, r3) := sqz hy216 H
   have Ny216 := Aside0.mk hy216
   clear hy216
   have H' := Aside0.mk H
   clear H
   have p207 : 0 ≤ ((Go.bits .andNot .i64 x9_1 (ji31)) : Int) := of_decide_eq_true s6q10
   have q207 : (Go.bits .andNot .i64 x9_1 (ji31)) < (x8_2.length : Int) := of_decide_eq_true s6q10
   obtain ⟨ad207, A207_0, c207_0, e207, hx207_0, hx207_1, hl207_0, hi207_0⟩ := at_T80 (Kd.S_reads' HO_8.out).2.2 (Go.bits .andNot .i64 x9_1 (ji31)) p207 q207
   have hnl207_0 := at_T80_nil0 (Kd.S_reads' HO_8.out).2.2 (Go.bits .andNot .i64 x9_1 (ji31)) p207 q207 e207 hx207_0
   cases e207
   obtain ⟨ce207, hce207, hMe207, hcc207⟩ := Kd.S_get HO_8.out z80 (Go.bits .andNot .i64 x9_1 (ji31)) p207 s6q45
   obtain ⟨ve207_0, rfl, ge207_0⟩ := k80_openM hMe207
   have hv207_0 := hcc207 0 _ rfl
   rw [Nat.add_zero] at hv207_0
   replace hv207_0 := Option.some.inj (hv207_0.symm.trans hx207_0)
   rw [hv207_0] at ge207_0
   have HL207_0 := Aside0.mk (show Kd.R (Kd.int .i64) 3 _ _ _ _ ((rd_T80 x8_2 (Go.bits .andNot .i64 x9_1 (ji31))).f0) from ge207_0)
   clear hv207_0 ge207_0
   clear hcc207 hce207
   have HR207_0 := Aside0.mk hi207_0
   have HC207_0 := Aside0.mk hl207_0
   clear hi207_0 hl207_0
   replace p207 := eq_true p207
   replace q207 := eq_true q207
   go_wp2_with (first | ((with_reducible refine gate_dst (N := 12) rfl ?_); refine box_event ?hg (N := 12) ?hd (cs := #[.slice none 0 0, .int .i64 0]) (t := 80) ?hr ?_; (case hd => rfl); (case hg => rfl); (case hr => first | (go_simp; done) | (go_simp; rfl)); intro gb208 hg w41 hbox hb; have n0_ := Aside0.mk (Kd.S_below (Kd.S_elderB s6q14 gb208 (Nat.le_of_eq hg.symm)) hb); have n1_ := Aside0.mk (Kd.R_below s6q21 hb); have n2_ := Aside0.mk (Kd.C_below s6q34 hb); have n3_ := Aside0.mk (below_step s6q25 hb); have n4_ := Aside0.mk (hbox); have n5_ := Aside0.mk ((s6q52 : w.heap.size ≤ gb208)); have n6_ := Aside0.mk ((s6q52 : w.heap.size ≤ gb208)); clear HO_8; clear HL207_0; clear HR207_0; clear HB; have HO_8 := n0_; have HL207_0 := n1_; have HR207_0 := n2_; have HB := n3_; have BK208 := n4_; have GW208 := n5_; have GE208 := n6_; clear n0_ n1_ n2_ n3_ n4_ n5_ n6_; clear hb hbox hg; have hcz42_0 : w41.cell? ⟨gb208, 0, none⟩ = some (.slice none 0 0) := (blk_cell BK208.out 0).trans rfl; have hcz42_1 : w41.cell? ⟨gb208, 1, none⟩ = some (.int .i64 0) := (blk_cell BK208.out 1).trans rfl; have hfz42_0 := blk_frozen BK208.out 0; have hfz42_1 := blk_frozen BK208.out 1) | ((with_reducible refine gate_store (t := 80) (p := 12) rfl ?_); (try (rw [drewN_self w41]; generalize hq_ : World.drewN w41 _ = w41; have n0_ := Aside0.mk (Kd.S_at hq_ HO_8.out); have n1_ := Aside0.mk (Kd.R_at hq_ HL207_0.out); have n2_ := Aside0.mk (blk_at hq_ BK208.out); have n3_ := Aside0.mk (Kd.C_at hq_ HR207_0.out); have n4_ := Aside0.mk (below_at hq_ HB.out); clear hq_ HO_8 HL207_0 BK208 HR207_0 HB; have HO_8 := n0_; have HL207_0 := n1_; have BK208 := n2_; have HR207_0 := n3_; have HB := n4_; clear n0_ n1_ n2_ n3_ n4_)); refine store_event (t := 80) (p := 12) (v := ?vo_w43) (w1 := ((w41.setCell ⟨gb208, 0, none⟩ (.slice A207_0 ((rd_T80 x8_2 (Go.bits .andNot .i64 x9_1 (ji31))).f0).length c207_0)).setCell ⟨gb208, 1, none⟩ (.int .i64 ((rd_T80 x8_2 (Go.bits .andNot .i64 x9_1 (ji31))).f1)))) ?hg ?ho ?hn ?hr ?_; (case ho => rfl); (case hg => rfl); (case hn => rfl); (case hr => first | (go_simp; done) | (go_simp; rfl)); intro w43 hw; have n0_ : Aside0 (Kd.S k80 80 w43 w.heap.size (fun k_ => k_ ≠ gb208) (.slice (some ad207) x8_2.length co24) x8_2) := ⟨s6q40⟩; have n1_ : Aside0 (Kd.R (Kd.int .i64) 3 w43 w.heap.size (fun k_ => some k_ ≠ (.slice (some ad207) x8_2.length co24 : Value).ownBlock) (.slice A207_0 ((rd_T80 x8_2 (Go.bits .andNot .i64 x9_1 (ji31))).f0).length c207_0) ((rd_T80 x8_2 (Go.bits .andNot .i64 x9_1 (ji31))).f0)) := ⟨s6q51⟩; have n2_ : Aside0 (w43.heap[gb208]? = some (.cells #[.slice A207_0 ((rd_T80 x8_2 (Go.bits .andNot .i64 x9_1 (ji31))).f0).length c207_0, .int .i64 ((rd_T80 x8_2 (Go.bits .andNot .i64 x9_1 (ji31))).f1)] 80 (0, 0))) := ⟨s6q41⟩; have n3_ : Aside0 (Below w.heap.size w w43) := ⟨s6q39⟩; clear hw; clear HO_8; clear HL207_0; clear BK208; clear HB; have HO_8 := n0_; have HL207_0 := n1_; have BK208 := n2_; have HB := n3_; clear n0_ n1_ n2_ n3_; clear HR207_0; have HR207_0 := Aside0.mk (Kd.R_reads' HL207_0.out).2.2; have hcz44_0 : w43.cell? ⟨gb208, 0, none⟩ = some (.slice A207_0 ((rd_T80 x8_2 (Go.bits .andNot .i64 x9_1 (ji31))).f0).length c207_0) := (blk_cell BK208.out 0).trans rfl; have hcz44_1 : w43.cell? ⟨gb208, 1, none⟩ = some (.int .i64 ((rd_T80 x8_2 (Go.bits .andNot .i64 x9_1 (ji31))).f1)) := (blk_cell BK208.out 1).trans rfl; have hfz44_0 := blk_frozen BK208.out 0; have hfz44_1 := blk_frozen BK208.out 1; have p209 : 0 ≤ (x9_1 : Int) := of_decide_eq_true s6q10; have q209 : x9_1 < (x8_2.length : Int) := of_decide_eq_true s6q10; obtain ⟨ad209, A209_0, c209_0, e209, hx209_0, hx209_1, hl209_0, hi209_0⟩ := at_T80 (Kd.S_reads' HO_8.out).2.2 x9_1 p209 q209; have hnl209_0 := at_T80_nil0 (Kd.S_reads' HO_8.out).2.2 x9_1 p209 q209 e209 hx209_0; obtain rfl : ad207 = ad209 := s6q4; obtain ⟨ce209, hce209, hMe209, hcc209⟩ := Kd.S_get HO_8.out z80 x9_1 p209 s6q46; obtain ⟨ve209_0, rfl, ge209_0⟩ := k80_openM hMe209; have hv209_0 := hcc209 0 _ rfl; rw [Nat.add_zero] at hv209_0; replace hv209_0 := Option.some.inj (hv209_0.symm.trans hx209_0); rw [hv209_0] at ge209_0; have HL209_0 := Aside0.mk (show Kd.R (Kd.int .i64) 3 _ _ _ _ ((rd_T80 x8_2 x9_1).f0) from ge209_0); clear hv209_0 ge209_0; clear hcc209 hce209; have HR209_0 := Aside0.mk hi209_0; have HC209_0 := Aside0.mk hl209_0; clear hi209_0 hl209_0; replace p209 := eq_true p209; replace q209 := eq_true q209) | ((with_reducible refine gate_dst (N := 90) rfl ?_); refine Kd.R_lit (Kd.int .i64) _ 3 ?hg (N := 90) ?hd (xs := ([x50_2] : List Int)) (inner := [.int .i64 x50_2]) (ok := fun _ => True) (okp := fun _ => True) ?hr ?hp (fun _ hk => hk) trivial (Below.refl _ _) (Nat.le_refl _) s6q0 ?_; (case hd => rfl); (case hg => rfl); (case hr => first | (go_simp; done) | (go_simp; rfl)); (case hp => exact (Reps.one (show Kd.M (Kd.int .i64) _ _ _ x50_2 [.int .i64 x50_2] from rfl) (Reps.none _ _))); intro v211 w45 ho46 hb hg_ hnew_; clear hg_ hnew_; (first | rw [← Ny210.out] at ho46 | (simp only [Int.reduceToNat] at ho46; rw [← Ny210.out] at ho46)); have n0_ := Aside0.mk (Kd.S_elder' s6q14 (Kd.R_base ho46) hb); have n1_ := Aside0.mk (Kd.R_elder' s6q21 (Kd.R_base ho46) hb); have n2_ := Aside0.mk (Kd.R_elder' s6q22 (Kd.R_base ho46) hb); have n3_ := Aside0.mk (Kd.R_lower (Kd.R_new' (Kd.R_new' ho46 (Kd.R_lt s6q21)) (Kd.R_lt s6q22)) (below_size s6q29)); have n4_ := Aside0.mk (Kd.C_below s6q34 hb); have n5_ := Aside0.mk (blk_below (g := gb208) (o := .cells #[.slice A207_0 ((rd_T80 x8_2 (Go.bits .andNot .i64 x9_1 (ji31))).f0).length c207_0, .int .i64 ((rd_T80 x8_2 (Go.bits .andNot .i64 x9_1 (ji31))).f1)] 80 (0, 0)) s6q24 hb); have n6_ := Aside0.mk (Kd.C_below s6q35 hb); have n7_ := Aside0.mk (below_step s6q29 hb); clear HO_8; clear HL207_0; clear HL209_0; clear HR207_0; clear BK208; clear HR209_0; clear HB; have HO_8 := n0_; have HL207_0 := n1_; have HL209_0 := n2_; have HO212 := n3_; have HR207_0 := n4_; have BK208 := n5_; have HR209_0 := n6_; have HB := n7_; clear n0_ n1_ n2_ n3_ n4_ n5_ n6_ n7_; clear hb ho46; obtain ⟨Ao47, co47, eo47⟩ := Kd.R_slice HO212.out; subst eo47) | (go_at_call 47; (with_reducible refine (cost_joined.calls k2 _ _ ((rd_T80 x8_2 (Go.bits .andNot .i64 x9_1 (ji31))).f0) _ _ y210 t213 _ ?side1 ?side2 ?side3 ?side4 A38.out).mono ?_); (case side1 => repeat (first | exact s6q34 | (with_reducible refine Kd.C_alloc ?_ _) | (with_reducible refine Kd.C_drewN ?_ _) | (with_reducible refine Kd.C_drew ?_))); (case side2 => exact HC207_0.out); (case side3 => repeat (first | exact (Kd.R_reads' HO212.out).2.2 | (with_reducible refine Kd.C_alloc ?_ _) | (with_reducible refine Kd.C_drewN ?_ _) | (with_reducible refine Kd.C_drew ?_))); (case side4 => exact (Kd.R_reads' HO212.out).2.1); rintro e w48 ⟨v214, rfl, ho0, hb⟩; have n0_ := Aside0.mk (Kd.S_elder' s6q14 (Kd.R_base ho0) hb); have n1_ := Aside0.mk (Kd.R_elder' s6q21 (Kd.R_base ho0) hb); have n2_ := Aside0.mk (Kd.R_elder' s6q22 (Kd.R_base ho0) hb); have n3_ := Aside0.mk (Kd.R_elder' s6q18 (Kd.R_base ho0) hb); have n4_ := Aside0.mk (Kd.R_lower (Kd.R_new' (Kd.R_new' (Kd.R_new' ho0 (Kd.R_lt s6q21)) (Kd.R_lt s6q22)) (Kd.R_lt s6q18)) (below_size s6q29)); have n5_ := Aside0.mk (Kd.C_below s6q34 hb); have n6_ := Aside0.mk (blk_below (g := gb208) (o := .cells #[.slice A207_0 ((rd_T80 x8_2 (Go.bits .andNot .i64 x9_1 (ji31))).f0).length c207_0, .int .i64 ((rd_T80 x8_2 (Go.bits .andNot .i64 x9_1 (ji31))).f1)] 80 (0, 0)) s6q24 hb); have n7_ := Aside0.mk (Kd.C_below s6q35 hb); have n8_ := Aside0.mk (below_step s6q29 hb); clear HO_8; clear HL207_0; clear HL209_0; clear HO212; clear HR207_0; clear BK208; clear HR209_0; clear HB; have HO_8 := n0_; have HL207_0 := n1_; have HL209_0 := n2_; have HO212 := n3_; have HO215 := n4_; have HR207_0 := n5_; have BK208 := n6_; have HR209_0 := n7_; have HB := n8_; clear n0_ n1_ n2_ n3_ n4_ n5_ n6_ n7_ n8_; (try clear hb); (try clear hb2); (try clear hk); (try clear hi); (try clear ho0); obtain ⟨Ao49, co49, eo49⟩ := Kd.R_slice HO215.out; subst eo49; have p39 : 0 ≤ (x9_1 : Int) := of_decide_eq_true s6q10; have q39 : (x9_1 : Int) < ((x8_2.length : Int) : Int) := of_decide_eq_true s6q10; obtain ⟨go39, co39, eo39, gb39, gl39, cl39, HG39⟩ := Kd.S_form HO_8.out s6q12; (first | cases eo39 | (injection eo39 with ea_ en_ ec_; (first | subst ea_ | (injection ea_ with ea_; subst ea_)); subst ec_; clear en_)); have GB39 := Aside0.mk gb39; have GG39 := Aside0.mk HG39; clear gb39 gl39 HG39; (first | simp only [add_plain] at hx207_0 | skip); (first | simp only [add_plain] at hx207_1 | skip); (first | simp only [add_plain] at hx209_0 | skip); (first | simp only [add_plain] at hx209_1 | skip); obtain ⟨_, ce39, hcl39, hM39, hcc39, hfr39, _, _⟩ := Kd.S_elem HO_8.out z80 (x9_1 : Int) p39 q39; obtain ⟨ve39_0, rfl, ge39_0⟩ := k80_openM hM39; have hx39_0 : w48.cell? ⟨go39, (x9_1 : Int).toNat * 2, none⟩ = some (ve39_0) := hcc39 0 _ rfl; have hx39_1 : w48.cell? ⟨go39, (x9_1 : Int).toNat * 2 + 1, none⟩ = some (.int .i64 ((rd_T80 x8_2 x9_1).f1)) := hcc39 1 _ rfl; have hf39_0 : w48.frozen? ⟨go39, (x9_1 : Int).toNat * 2, none⟩ = false := hfr39 0; have hf39_1 : w48.frozen? ⟨go39, (x9_1 : Int).toNat * 2 + 1, none⟩ = false := hfr39 1; clear hcl39 hcc39 hfr39 hM39; replace p39 := eq_true p39; replace q39 := eq_true q39; have n_ := Aside0.mk (Kd.S_mono (ok' := (fun k_ => some k_ ≠ (.slice Ao47 y210.length co47 : Value).ownBlock ∧ some k_ ≠ (.slice Ao49 t213.length co49 : Value).ownBlock ∧ k_ ≠ gb208)) HO_8.out (fun k_ hk => ⟨hk.1.2, ⟨hk.2, hk.1.1⟩⟩)); clear HO_8; have HO_8 := n_; clear n_; have HX50 := Aside0.mk (show Kd.S k80 80 w48 w.heap.size (fun k_ => ((fun k_ => some k_ ≠ (.slice Ao47 y210.length co47 : Value).ownBlock ∧ k_ ≠ gb208)) k_ ∧ ¬ ((fun k_ => some k_ = (.slice Ao49 t213.length co49 : Value).ownBlock)) k_) (.slice (some ⟨go39, 0, none⟩) x8_2.length co24) x8_2 from s6q30); obtain ⟨oki50, ce50, hcl50, hM50, hcc50, hfr50, hoki50, hH50⟩ := Kd.S_elem HX50.out z80 (x9_1 : Int) (of_decide_eq_true s6q10) s6q49; obtain ⟨ve50_0, rfl, ge50_0⟩ := k80_openM hM50; have HP50 := Kd.S_seg hH50 (of_decide_eq_true s6q10) s6q49 (seg := [.slice Ao49 t213.length co49, .int .i64 ji34]) (j := 0) (show 2 ≤ 2 from by decide) (x' := (⟨t213, ji34⟩ : S80)) (k80_mkM _ _ _ (⟨t213, ji34⟩ : S80) (Kd.R_mono (Kd.R_tight rfl (Kd.R_mono (ok' := fun k_ => ((fun k_ => some k_ ≠ (.slice Ao47 y210.length co47 : Value).ownBlock ∧ k_ ≠ gb208)) k_ ∧ k_ ≠ go39) (Kd.R_types (Kd.R_apart' (HO215.out) (Kd.S_typed HO_8.out) s6q2) BK208.out s6q2) (fun k_ hk => ⟨⟨hk.1.1.2, hk.2⟩, fun e_ => (hk.1.2) s6q3⟩))) (fun _ h_ => Or.inr (h_)))) (fun _ hk => hk) (fun k_ hk_ => ((Kd.R_mono (ok' := fun k_ => ((fun k_ => some k_ ≠ (.slice Ao47 y210.length co47 : Value).ownBlock ∧ k_ ≠ gb208)) k_ ∧ k_ ≠ go39) (Kd.R_types (Kd.R_apart' (HO215.out) (Kd.S_typed HO_8.out) s6q2) BK208.out s6q2) (fun k_ hk => ⟨⟨hk.1.1.2, hk.2⟩, fun e_ => (hk.1.2) s6q3⟩))).1 k_ hk_.symm); have hx50_0 := hcc50 0 _ rfl; (try simp only [show (k80).sz = 2 from rfl, Nat.mul_one, Nat.add_zero] at hx50_0); have hf50_0 := hfr50 0; (try simp only [show (k80).sz = 2 from rfl, Nat.mul_one, Nat.add_zero] at hf50_0); have hx50_1 := hcc50 1 _ rfl; (try simp only [show (k80).sz = 2 from rfl, Nat.mul_one, Nat.add_zero] at hx50_1); have hf50_1 := hfr50 1; (try simp only [show (k80).sz = 2 from rfl, Nat.mul_one, Nat.add_zero] at hf50_1); clear hcl50 hcc50 hfr50 hM50 hoki50 hH50) | ((with_reducible refine gate_store (t := 80) (p := 94) rfl ?_); (try (rw [drewN_self w48]; generalize hq_ : World.drewN w48 _ = w48; have n0_ := Aside0.mk (Kd.S_at hq_ HO_8.out); have n1_ := Aside0.mk (Kd.R_at hq_ HL207_0.out); have n2_ := Aside0.mk (Kd.R_at hq_ HL209_0.out); have n3_ := Aside0.mk (Kd.R_at hq_ HO212.out); have n4_ := Aside0.mk (blk_at hq_ BK208.out); have n5_ := Aside0.mk (below_at hq_ HB.out); clear hq_ HO_8 HL207_0 HL209_0 HO212 BK208 HB; have HO_8 := n0_; have HL207_0 := n1_; have HL209_0 := n2_; have HO212 := n3_; have BK208 := n4_; have HB := n5_; clear n0_ n1_ n2_ n3_ n4_ n5_; (try (have n_ := Aside0.mk (Kd.S_mono (ok' := (fun k_ => some k_ ≠ (.slice Ao47 y210.length co47 : Value).ownBlock ∧ some k_ ≠ (.slice Ao49 t213.length co49 : Value).ownBlock ∧ k_ ≠ gb208)) HO_8.out (fun k_ hk => ⟨hk.1.2, ⟨hk.2, hk.1.1⟩⟩)); clear HO_8; have HO_8 := n_; clear n_)); (try (have HX50 := Aside0.mk (show Kd.S k80 80 w48 w.heap.size (fun k_ => ((fun k_ => some k_ ≠ (.slice Ao47 y210.length co47 : Value).ownBlock ∧ k_ ≠ gb208)) k_ ∧ ¬ ((fun k_ => some k_ = (.slice Ao49 t213.length co49 : Value).ownBlock)) k_) (.slice (some ⟨go39, 0, none⟩) x8_2.length co24) x8_2 from s6q30))); (try (obtain ⟨oki50, ce50, hcl50, hM50, hcc50, hfr50, hoki50, hH50⟩ := Kd.S_elem HX50.out z80 (x9_1 : Int) (of_decide_eq_true s6q10) s6q49)); (try (obtain ⟨ve50_0, rfl, ge50_0⟩ := k80_openM hM50)); (try (have HP50 := Kd.S_seg hH50 (of_decide_eq_true s6q10) s6q49 (seg := [.slice Ao49 t213.length co49, .int .i64 ji34]) (j := 0) (show 2 ≤ 2 from by decide) (x' := (⟨t213, ji34⟩ : S80)) (k80_mkM _ _ _ (⟨t213, ji34⟩ : S80) (Kd.R_mono (Kd.R_tight rfl (Kd.R_mono (ok' := fun k_ => ((fun k_ => some k_ ≠ (.slice Ao47 y210.length co47 : Value).ownBlock ∧ k_ ≠ gb208)) k_ ∧ k_ ≠ go39) (Kd.R_types (Kd.R_apart' (HO215.out) (Kd.S_typed HO_8.out) s6q2) BK208.out s6q2) (fun k_ hk => ⟨⟨hk.1.1.2, hk.2⟩, fun e_ => (hk.1.2) s6q3⟩))) (fun _ h_ => Or.inr (h_)))) (fun _ hk => hk) (fun k_ hk_ => ((Kd.R_mono (ok' := fun k_ => ((fun k_ => some k_ ≠ (.slice Ao47 y210.length co47 : Value).ownBlock ∧ k_ ≠ gb208)) k_ ∧ k_ ≠ go39) (Kd.R_types (Kd.R_apart' (HO215.out) (Kd.S_typed HO_8.out) s6q2) BK208.out s6q2) (fun k_ hk => ⟨⟨hk.1.1.2, hk.2⟩, fun e_ => (hk.1.2) s6q3⟩))).1 k_ hk_.symm))); (try (have hx50_0 := hcc50 0 _ rfl)); (try (try simp only [show (k80).sz = 2 from rfl, Nat.mul_one, Nat.add_zero] at hx50_0)); (try (have hf50_0 := hfr50 0)); (try (try simp only [show (k80).sz = 2 from rfl, Nat.mul_one, Nat.add_zero] at hf50_0)); (try (have hx50_1 := hcc50 1 _ rfl)); (try (try simp only [show (k80).sz = 2 from rfl, Nat.mul_one, Nat.add_zero] at hx50_1)); (try (have hf50_1 := hfr50 1)); (try (try simp only [show (k80).sz = 2 from rfl, Nat.mul_one, Nat.add_zero] at hf50_1)); (try (clear hcl50 hcc50 hfr50 hM50 hoki50 hH50)))); refine store_event (t := 80) (p := 94) (v := ?vo_w51) (w1 := ((w48.setCell ⟨go39, (x9_1 : Int).toNat * 2, none⟩ (.slice Ao49 t213.length co49)).setCell ⟨go39, (x9_1 : Int).toNat * 2 + 1, none⟩ (.int .i64 ji34))) ?hg ?ho ?hn ?hr ?_; (case ho => rfl); (case hg => rfl); (case hn => rfl); (case hr => first | (go_simp; done) | (go_simp; rfl)); intro w51 hw; have hg : w48.grownBy w51 (some go39) := (by rw [hw]; exact HP50.2); have hp_ : Kd.S k80 80 w51 w.heap.size (fun k_ => some k_ ≠ (.slice Ao47 y210.length co47 : Value).ownBlock ∧ k_ ≠ gb208) (.slice (some ⟨go39, 0, none⟩) x8_2.length co24) y216 := s6q7; clear HP50; have n0_ := Aside0.mk (hp_); have n1_ := Aside0.mk (Kd.R_after (v := (.slice (some ⟨go39, 0, none⟩) x8_2.length co24)) (v1 := (.slice (some ⟨go39, 0, none⟩) x8_2.length co24)) (ok := (fun k_ => some k_ ≠ (.slice Ao47 y210.length co47 : Value).ownBlock ∧ some k_ ≠ (.slice Ao49 t213.length co49 : Value).ownBlock)) s6q27 hg (.inl rfl)); have n2_ := Aside0.mk (blk_grown (g := gb208) (o := .cells #[.slice A207_0 ((rd_T80 x8_2 (Go.bits .andNot .i64 x9_1 (ji31))).f0).length c207_0, .int .i64 ((rd_T80 x8_2 (Go.bits .andNot .i64 x9_1 (ji31))).f1)] 80 (0, 0)) s6q24 hg (Kd.S_away HO_8.out (fun _ hk => hk.2.2))); have n3_ := Aside0.mk (Kd.R_after (v := (.slice (some ⟨go39, 0, none⟩) x8_2.length co24)) (v1 := (.slice (some ⟨go39, 0, none⟩) x8_2.length co24)) (ok := (fun k_ => some k_ ≠ (.slice Ao47 y210.length co47 : Value).ownBlock ∧ some k_ ≠ (.slice Ao49 t213.length co49 : Value).ownBlock ∧ k_ ≠ gb208)) s6q31 hg (.inl rfl)); have n4_ := Aside0.mk (Kd.R_over' (v := (.slice (some ⟨go39, 0, none⟩) x8_2.length co24)) s6q18 (Kd.S_typed HO_8.out) s6q2 hg); have n5_ := Aside0.mk ((s6q43 : Below w.heap.size w w51)); clear HO_8; clear HL207_0; clear BK208; clear HL209_0; clear HO212; clear HB; clear HO215; have HO_8 := n0_; have HL207_0 := n1_; have BK208 := n2_; have HL209_0 := n3_; have HO212 := n4_; have HB := n5_; clear n0_ n1_ n2_ n3_ n4_ n5_; clear hg hw hp_))
   (try simp only [← hl8_2])
   first | go_roundg k2 | (refine Handed.intro k2 ?measure ?_; rotate_left; go_step; (repeat apply Exists.intro); simp only [add_plain]; refine ⟨?rel, rfl⟩)
   case measure => have := HK1.out; have := HK2.out; omega
   case rel => exact ⟨(y216), (wrap64 (x50_2 + 1)), s6q9, H', ⟨by have := HK1.out; have := HK2.out; omega⟩, ⟨by (try simp only [hl8_2]); (with_reducible repeat (first | apply Kd.S_alloc | apply Kd.S_drewN | apply Kd.S_drew)); exact Kd.S_mono HO_8.out (fun _ hk => trivial)⟩, ⟨by repeat (first | (with_reducible first | exact HB.out | apply below_alloc | apply pw_below_drewN | apply below_drew1 | refine below_set ?_ GE208.out) | exact HB.out)⟩⟩
 rw [if_neg c37] at H
 have c37e : (((rd_T80 x8_2 x9_1).f0)).isEmpty = false := isEmpty_false s6q1
 have c37b0 : ((((rd_T80 x8_2 x9_1).f0).length : Int) == 0) = false := beq_eq_false_iff_ne.mpr c37
 have c37b1 : ((((rd_T80 x8_2 x9_1).f0).length : Int) != 0) = true := bne_iff_ne.mpr c37
 have c37b2 : ¬ (((rd_T80 x8_2 x9_1).f0) = []) := fun h_ => c37 (by rw [h_]; rfl)
 by_cases c52 : (ji34) < ((rd_T80 x8_2 x9_1).f1)
 case neg =>
  rw [if_neg c52] at H
  have c52b0 : decide ((ji34) < ((rd_T80 x8_2 x9_1).f1)) = false := decide_eq_false c52
  clear c52
  have H' := Aside0.mk H
  clear H
  have p207 : 0 ≤ ((Go.bits .andNot .i64 x9_1 (ji31)) : Int) := of_decide_eq_true s6q10
  have q207 : (Go.bits .andNot .i64 x9_1 (ji31)) < (x8_2.length : Int) := of_decide_eq_true s6q10
  obtain ⟨ad207, A207_0, c207_0, e207, hx207_0, hx207_1, hl207_0, hi207_0⟩ := at_T80 (Kd.S_reads' HO_8.out).2.2 (Go.bits .andNot .i64 x9_1 (ji31)) p207 q207
  have hnl207_0 := at_T80_nil0 (Kd.S_reads' HO_8.out).2.2 (Go.bits .andNot .i64 x9_1 (ji31)) p207 q207 e207 hx207_0
  cases e207
  obtain ⟨ce207, hce207, hMe207, hcc207⟩ := Kd.S_get HO_8.out z80 (Go.bits .andNot .i64 x9_1 (ji31)) p207 s6q45
  obtain ⟨ve207_0, rfl, ge207_0⟩ := k80_openM hMe207
  have hv207_0 := hcc207 0 _ rfl
  rw [Nat.add_zero] at hv207_0
  replace hv207_0 := Option.some.inj (hv207_0.symm.trans hx207_0)
  rw [hv207_0] at ge207_0
  have HL207_0 := Aside0.mk (show Kd.R (Kd.int .i64) 3 _ _ _ _ ((rd_T80 x8_2 (Go.bits .andNot .i64 x9_1 (ji31))).f0) from ge207_0)
  clear hv207_0 ge207_0
  clear hcc207 hce207
  have HR207_0 := Aside0.mk hi207_0
  have HC207_0 := Aside0.mk hl207_0
  clear hi207_0 hl207_0
  replace p207 := eq_true p207
  replace q207 := eq_true q207
  go_wp2_with (first | ((with_reducible refine gate_dst (N := 12) rfl ?_); refine box_event ?hg (N := 12) ?hd (cs := #[.slice none 0 0, .int .i64 0]) (t := 80) ?hr ?_; (case hd => rfl); (case hg => rfl); (case hr => first | (go_simp; done) | (go_simp; rfl)); intro gb208 hg w67 hbox hb; have n0_ := Aside0.mk (Kd.S_below (Kd.S_elderB s6q14 gb208 (Nat.le_of_eq hg.symm)) hb); have n1_ := Aside0.mk (Kd.R_below s6q21 hb); have n2_ := Aside0.mk (Kd.C_below s6q34 hb); have n3_ := Aside0.mk (below_step s6q25 hb); have n4_ := Aside0.mk (hbox); have n5_ := Aside0.mk ((s6q52 : w.heap.size ≤ gb208)); have n6_ := Aside0.mk ((s6q52 : w.heap.size ≤ gb208)); clear HO_8; clear HL207_0; clear HR207_0; clear HB; have HO_8 := n0_; have HL207_0 := n1_; have HR207_0 := n2_; have HB := n3_; have BK208 := n4_; have GW208 := n5_; have GE208 := n6_; clear n0_ n1_ n2_ n3_ n4_ n5_ n6_; clear hb hbox hg; have hcz68_0 : w67.cell? ⟨gb208, 0, none⟩ = some (.slice none 0 0) := (blk_cell BK208.out 0).trans rfl; have hcz68_1 : w67.cell? ⟨gb208, 1, none⟩ = some (.int .i64 0) := (blk_cell BK208.out 1).trans rfl; have hfz68_0 := blk_frozen BK208.out 0; have hfz68_1 := blk_frozen BK208.out 1) | ((with_reducible refine gate_store (t := 80) (p := 12) rfl ?_); (try (rw [drewN_self w67]; generalize hq_ : World.drewN w67 _ = w67; have n0_ := Aside0.mk (Kd.S_at hq_ HO_8.out); have n1_ := Aside0.mk (Kd.R_at hq_ HL207_0.out); have n2_ := Aside0.mk (blk_at hq_ BK208.out); have n3_ := Aside0.mk (Kd.C_at hq_ HR207_0.out); have n4_ := Aside0.mk (below_at hq_ HB.out); clear hq_ HO_8 HL207_0 BK208 HR207_0 HB; have HO_8 := n0_; have HL207_0 := n1_; have BK208 := n2_; have HR207_0 := n3_; have HB := n4_; clear n0_ n1_ n2_ n3_ n4_)); refine store_event (t := 80) (p := 12) (v := ?vo_w69) (w1 := ((w67.setCell ⟨gb208, 0, none⟩ (.slice A207_0 ((rd_T80 x8_2 (Go.bits .andNot .i64 x9_1 (ji31))).f0).length c207_0)).setCell ⟨gb208, 1, none⟩ (.int .i64 ((rd_T80 x8_2 (Go.bits .andNot .i64 x9_1 (ji31))).f1)))) ?hg ?ho ?hn ?hr ?_; (case ho => rfl); (case hg => rfl); (case hn => rfl); (case hr => first | (go_simp; done) | (go_simp; rfl)); intro w69 hw; have n0_ : Aside0 (Kd.S k80 80 w69 w.heap.size (fun k_ => k_ ≠ gb208) (.slice (some ad207) x8_2.length co24) x8_2) := ⟨s6q40⟩; have n1_ : Aside0 (Kd.R (Kd.int .i64) 3 w69 w.heap.size (fun k_ => some k_ ≠ (.slice (some ad207) x8_2.length co24 : Value).ownBlock) (.slice A207_0 ((rd_T80 x8_2 (Go.bits .andNot .i64 x9_1 (ji31))).f0).length c207_0) ((rd_T80 x8_2 (Go.bits .andNot .i64 x9_1 (ji31))).f0)) := ⟨s6q51⟩; have n2_ : Aside0 (w69.heap[gb208]? = some (.cells #[.slice A207_0 ((rd_T80 x8_2 (Go.bits .andNot .i64 x9_1 (ji31))).f0).length c207_0, .int .i64 ((rd_T80 x8_2 (Go.bits .andNot .i64 x9_1 (ji31))).f1)] 80 (0, 0))) := ⟨s6q41⟩; have n3_ : Aside0 (Below w.heap.size w w69) := ⟨s6q39⟩; clear hw; clear HO_8; clear HL207_0; clear BK208; clear HB; have HO_8 := n0_; have HL207_0 := n1_; have BK208 := n2_; have HB := n3_; clear n0_ n1_ n2_ n3_; clear HR207_0; have HR207_0 := Aside0.mk (Kd.R_reads' HL207_0.out).2.2; have hcz70_0 : w69.cell? ⟨gb208, 0, none⟩ = some (.slice A207_0 ((rd_T80 x8_2 (Go.bits .andNot .i64 x9_1 (ji31))).f0).length c207_0) := (blk_cell BK208.out 0).trans rfl; have hcz70_1 : w69.cell? ⟨gb208, 1, none⟩ = some (.int .i64 ((rd_T80 x8_2 (Go.bits .andNot .i64 x9_1 (ji31))).f1)) := (blk_cell BK208.out 1).trans rfl; have hfz70_0 := blk_frozen BK208.out 0; have hfz70_1 := blk_frozen BK208.out 1; have p209 : 0 ≤ (x9_1 : Int) := of_decide_eq_true s6q10; have q209 : x9_1 < (x8_2.length : Int) := of_decide_eq_true s6q10; obtain ⟨ad209, A209_0, c209_0, e209, hx209_0, hx209_1, hl209_0, hi209_0⟩ := at_T80 (Kd.S_reads' HO_8.out).2.2 x9_1 p209 q209; have hnl209_0 := at_T80_nil0 (Kd.S_reads' HO_8.out).2.2 x9_1 p209 q209 e209 hx209_0; obtain rfl : ad207 = ad209 := s6q4; obtain ⟨ce209, hce209, hMe209, hcc209⟩ := Kd.S_get HO_8.out z80 x9_1 p209 s6q46; obtain ⟨ve209_0, rfl, ge209_0⟩ := k80_openM hMe209; have hv209_0 := hcc209 0 _ rfl; rw [Nat.add_zero] at hv209_0; replace hv209_0 := Option.some.inj (hv209_0.symm.trans hx209_0); rw [hv209_0] at ge209_0; have HL209_0 := Aside0.mk (show Kd.R (Kd.int .i64) 3 _ _ _ _ ((rd_T80 x8_2 x9_1).f0) from ge209_0); clear hv209_0 ge209_0; clear hcc209 hce209; have HR209_0 := Aside0.mk hi209_0; have HC209_0 := Aside0.mk hl209_0; clear hi209_0 hl209_0; replace p209 := eq_true p209; replace q209 := eq_true q209; have p217 : 0 ≤ (x9_1 : Int) := of_decide_eq_true s6q10; have q217 : x9_1 < (x8_2.length : Int) := of_decide_eq_true s6q10; obtain ⟨ad217, A217_0, c217_0, e217, hx217_0, hx217_1, hl217_0, hi217_0⟩ := at_T80 (Kd.S_reads' HO_8.out).2.2 x9_1 p217 q217; have hnl217_0 := at_T80_nil0 (Kd.S_reads' HO_8.out).2.2 x9_1 p217 q217 e217 hx217_0; obtain rfl : ad207 = ad217 := s6q5; obtain ⟨ce217, hce217, hMe217, hcc217⟩ := Kd.S_get HO_8.out z80 x9_1 p217 s6q47; obtain ⟨ve217_0, rfl, ge217_0⟩ := k80_openM hMe217; have hv217_0 := hcc217 0 _ rfl; rw [Nat.add_zero] at hv217_0; replace hv217_0 := Option.some.inj (hv217_0.symm.trans hx217_0); rw [hv217_0] at ge217_0; have HL217_0 := Aside0.mk (show Kd.R (Kd.int .i64) 3 _ _ _ _ ((rd_T80 x8_2 x9_1).f0) from ge217_0); clear hv217_0 ge217_0; clear hcc217 hce217; have HR217_0 := Aside0.mk hi217_0; have HC217_0 := Aside0.mk hl217_0; clear hi217_0 hl217_0; replace p217 := eq_true p217; replace q217 := eq_true q217; have ea_ := Option.some.inj (hx209_0.symm.trans hx217_0); injection ea_ with ea_ en_ ec_; subst ea_; subst ec_; clear en_))
  (try simp only [← hl8_2])
  first | go_roundg k2 | (refine Handed.intro k2 ?measure ?_; rotate_left; go_step; (repeat apply Exists.intro); simp only [add_plain]; refine ⟨?rel, rfl⟩)
  case measure => have := HK1.out; have := HK2.out; omega
  case rel => exact ⟨(x8_2), (wrap64 (x50_2 + 1)), s6q9, H', ⟨by have := HK1.out; have := HK2.out; omega⟩, ⟨by (try simp only [hl8_2]); (with_reducible repeat (first | apply Kd.S_alloc | apply Kd.S_drewN | apply Kd.S_drew)); exact Kd.S_mono HO_8.out (fun _ hk => trivial)⟩, ⟨by repeat (first | (with_reducible first | exact HB.out | apply below_alloc | apply pw_below_drewN | apply below_drew1 | refine below_set ?_ GE208.out) | exact HB.out)⟩⟩
 rw [if_pos c52] at H
 have c52b0 : decide ((ji34) < ((rd_T80 x8_2 x9_1).f1)) = true := decide_eq_true c52
 clear c52
 obtain ⟨y218, hy218⟩ : ∃ y_ : List Int, y_ = (([x50_2] : List Int)) := ⟨_, rfl⟩
 replace H : ((cost_joined.f k2 ((rd_T80 x8_2 (Go.bits .andNot .i64 x9_1 (ji31))).f0) y218).bind fun t221 => (if (t221.length : Int) = 0 then (none) else (cost_BestLine.l1 k2 l0 l1 (x8_2.set (x9_1 : Int).toNat (⟨t221, ji34⟩ : S80)) x9_1 t206 (l0.length : Int) (wrap64 (x50_2 + 1))))) = some (r1, r2, r3) := sqz hy218 H
 have Ny218 := Aside0.mk hy218
 clear hy218
 replace H := Option.bind_eq_some_iff.mp H
 obtain ⟨t221, A530, H⟩ := H
 replace H : (if (t221.length : Int) = 0 then (none) else (cost_BestLine.l1 k2 l0 l1 (x8_2.set (x9_1 : Int).toNat (⟨t221, ji34⟩ : S80)) x9_1 t206 (l0.length : Int) (wrap64 (x50_2 + 1)))) = some (r1, r2, r3) := H
 have A53 := Aside0.mk A530
 clear A530
 by_cases c55 : (t221.length : Int) = 0
 · rw [if_pos c55] at H
   exact absurd H s6q0
 rw [if_neg c55] at H
 have c55b0 : ((t221.length : Int) == 0) = false := beq_eq_false_iff_ne.mpr c55
 have c55b1 : ((t221.length : Int) != 0) = true := bne_iff_ne.mpr c55
 have c55b2 : ¬ (t221 = []) := fun h_ => c55 (by rw [h_]; rfl)
 obtain ⟨y224, hy224⟩ : ∃ y_ : List (S80), y_ = (x8_2.set (x9_1 : Int).toNat (⟨t221, ji34⟩ : S80)) := ⟨_, rfl⟩
 replace H : (cost_BestLine.l1 k2 l0 l1 y224 x9_1 t206 (l0.length : Int) (wrap64 (x50_2 + 1))) = some (r1, r2, r3) := sqz hy224 H
 have Ny224 := Aside0.mk hy224
 clear hy224
 have H' := Aside0.mk H
 clear H
 have p207 : 0 ≤ ((Go.bits .andNot .i64 x9_1 (ji31)) : Int) := of_decide_eq_true s6q10
 have q207 : (Go.bits .andNot .i64 x9_1 (ji31)) < (x8_2.length : Int) := of_decide_eq_true s6q10
 obtain ⟨ad207, A207_0, c207_0, e207, hx207_0, hx207_1, hl207_0, hi207_0⟩ := at_T80 (Kd.S_reads' HO_8.out).2.2 (Go.bits .andNot .i64 x9_1 (ji31)) p207 q207
 have hnl207_0 := at_T80_nil0 (Kd.S_reads' HO_8.out).2.2 (Go.bits .andNot .i64 x9_1 (ji31)) p207 q207 e207 hx207_0
 cases e207
 obtain ⟨ce207, hce207, hMe207, hcc207⟩ := Kd.S_get HO_8.out z80 (Go.bits .andNot .i64 x9_1 (ji31)) p207 s6q45
 obtain ⟨ve207_0, rfl, ge207_0⟩ := k80_openM hMe207
 have hv207_0 := hcc207 0 _ rfl
 rw [Nat.add_zero] at hv207_0
 replace hv207_0 := Option.some.inj (hv207_0.symm.trans hx207_0)
 rw [hv207_0] at ge207_0
 have HL207_0 := Aside0.mk (show Kd.R (Kd.int .i64) 3 _ _ _ _ ((rd_T80 x8_2 (Go.bits .andNot .i64 x9_1 (ji31))).f0) from ge207_0)
 clear hv207_0 ge207_0
 clear hcc207 hce207
 have HR207_0 := Aside0.mk hi207_0
 have HC207_0 := Aside0.mk hl207_0
 clear hi207_0 hl207_0
 replace p207 := eq_true p207
 replace q207 := eq_true q207
 go_wp2_with (first | ((with_reducible refine gate_dst (N := 12) rfl ?_); refine box_event ?hg (N := 12) ?hd (cs := #[.slice none 0 0, .int .i64 0]) (t := 80) ?hr ?_; (case hd => rfl); (case hg => rfl); (case hr => first | (go_simp; done) | (go_simp; rfl)); intro gb208 hg w56 hbox hb; have n0_ := Aside0.mk (Kd.S_below (Kd.S_elderB s6q14 gb208 (Nat.le_of_eq hg.symm)) hb); have n1_ := Aside0.mk (Kd.R_below s6q21 hb); have n2_ := Aside0.mk (Kd.C_below s6q34 hb); have n3_ := Aside0.mk (below_step s6q25 hb); have n4_ := Aside0.mk (hbox); have n5_ := Aside0.mk ((s6q52 : w.heap.size ≤ gb208)); have n6_ := Aside0.mk ((s6q52 : w.heap.size ≤ gb208)); clear HO_8; clear HL207_0; clear HR207_0; clear HB; have HO_8 := n0_; have HL207_0 := n1_; have HR207_0 := n2_; have HB := n3_; have BK208 := n4_; have GW208 := n5_; have GE208 := n6_; clear n0_ n1_ n2_ n3_ n4_ n5_ n6_; clear hb hbox hg; have hcz57_0 : w56.cell? ⟨gb208, 0, none⟩ = some (.slice none 0 0) := (blk_cell BK208.out 0).trans rfl; have hcz57_1 : w56.cell? ⟨gb208, 1, none⟩ = some (.int .i64 0) := (blk_cell BK208.out 1).trans rfl; have hfz57_0 := blk_frozen BK208.out 0; have hfz57_1 := blk_frozen BK208.out 1) | ((with_reducible refine gate_store (t := 80) (p := 12) rfl ?_); (try (rw [drewN_self w56]; generalize hq_ : World.drewN w56 _ = w56; have n0_ := Aside0.mk (Kd.S_at hq_ HO_8.out); have n1_ := Aside0.mk (Kd.R_at hq_ HL207_0.out); have n2_ := Aside0.mk (blk_at hq_ BK208.out); have n3_ := Aside0.mk (Kd.C_at hq_ HR207_0.out); have n4_ := Aside0.mk (below_at hq_ HB.out); clear hq_ HO_8 HL207_0 BK208 HR207_0 HB; have HO_8 := n0_; have HL207_0 := n1_; have BK208 := n2_; have HR207_0 := n3_; have HB := n4_; clear n0_ n1_ n2_ n3_ n4_)); refine store_event (t := 80) (p := 12) (v := ?vo_w58) (w1 := ((w56.setCell ⟨gb208, 0, none⟩ (.slice A207_0 ((rd_T80 x8_2 (Go.bits .andNot .i64 x9_1 (ji31))).f0).length c207_0)).setCell ⟨gb208, 1, none⟩ (.int .i64 ((rd_T80 x8_2 (Go.bits .andNot .i64 x9_1 (ji31))).f1)))) ?hg ?ho ?hn ?hr ?_; (case ho => rfl); (case hg => rfl); (case hn => rfl); (case hr => first | (go_simp; done) | (go_simp; rfl)); intro w58 hw; have n0_ : Aside0 (Kd.S k80 80 w58 w.heap.size (fun k_ => k_ ≠ gb208) (.slice (some ad207) x8_2.length co24) x8_2) := ⟨s6q40⟩; have n1_ : Aside0 (Kd.R (Kd.int .i64) 3 w58 w.heap.size (fun k_ => some k_ ≠ (.slice (some ad207) x8_2.length co24 : Value).ownBlock) (.slice A207_0 ((rd_T80 x8_2 (Go.bits .andNot .i64 x9_1 (ji31))).f0).length c207_0) ((rd_T80 x8_2 (Go.bits .andNot .i64 x9_1 (ji31))).f0)) := ⟨s6q51⟩; have n2_ : Aside0 (w58.heap[gb208]? = some (.cells #[.slice A207_0 ((rd_T80 x8_2 (Go.bits .andNot .i64 x9_1 (ji31))).f0).length c207_0, .int .i64 ((rd_T80 x8_2 (Go.bits .andNot .i64 x9_1 (ji31))).f1)] 80 (0, 0))) := ⟨s6q41⟩; have n3_ : Aside0 (Below w.heap.size w w58) := ⟨s6q39⟩; clear hw; clear HO_8; clear HL207_0; clear BK208; clear HB; have HO_8 := n0_; have HL207_0 := n1_; have BK208 := n2_; have HB := n3_; clear n0_ n1_ n2_ n3_; clear HR207_0; have HR207_0 := Aside0.mk (Kd.R_reads' HL207_0.out).2.2; have hcz59_0 : w58.cell? ⟨gb208, 0, none⟩ = some (.slice A207_0 ((rd_T80 x8_2 (Go.bits .andNot .i64 x9_1 (ji31))).f0).length c207_0) := (blk_cell BK208.out 0).trans rfl; have hcz59_1 : w58.cell? ⟨gb208, 1, none⟩ = some (.int .i64 ((rd_T80 x8_2 (Go.bits .andNot .i64 x9_1 (ji31))).f1)) := (blk_cell BK208.out 1).trans rfl; have hfz59_0 := blk_frozen BK208.out 0; have hfz59_1 := blk_frozen BK208.out 1; have p209 : 0 ≤ (x9_1 : Int) := of_decide_eq_true s6q10; have q209 : x9_1 < (x8_2.length : Int) := of_decide_eq_true s6q10; obtain ⟨ad209, A209_0, c209_0, e209, hx209_0, hx209_1, hl209_0, hi209_0⟩ := at_T80 (Kd.S_reads' HO_8.out).2.2 x9_1 p209 q209; have hnl209_0 := at_T80_nil0 (Kd.S_reads' HO_8.out).2.2 x9_1 p209 q209 e209 hx209_0; obtain rfl : ad207 = ad209 := s6q4; obtain ⟨ce209, hce209, hMe209, hcc209⟩ := Kd.S_get HO_8.out z80 x9_1 p209 s6q46; obtain ⟨ve209_0, rfl, ge209_0⟩ := k80_openM hMe209; have hv209_0 := hcc209 0 _ rfl; rw [Nat.add_zero] at hv209_0; replace hv209_0 := Option.some.inj (hv209_0.symm.trans hx209_0); rw [hv209_0] at ge209_0; have HL209_0 := Aside0.mk (show Kd.R (Kd.int .i64) 3 _ _ _ _ ((rd_T80 x8_2 x9_1).f0) from ge209_0); clear hv209_0 ge209_0; clear hcc209 hce209; have HR209_0 := Aside0.mk hi209_0; have HC209_0 := Aside0.mk hl209_0; clear hi209_0 hl209_0; replace p209 := eq_true p209; replace q209 := eq_true q209; have p217 : 0 ≤ (x9_1 : Int) := of_decide_eq_true s6q10; have q217 : x9_1 < (x8_2.length : Int) := of_decide_eq_true s6q10; obtain ⟨ad217, A217_0, c217_0, e217, hx217_0, hx217_1, hl217_0, hi217_0⟩ := at_T80 (Kd.S_reads' HO_8.out).2.2 x9_1 p217 q217; have hnl217_0 := at_T80_nil0 (Kd.S_reads' HO_8.out).2.2 x9_1 p217 q217 e217 hx217_0; obtain rfl : ad207 = ad217 := s6q5; obtain ⟨ce217, hce217, hMe217, hcc217⟩ := Kd.S_get HO_8.out z80 x9_1 p217 s6q47; obtain ⟨ve217_0, rfl, ge217_0⟩ := k80_openM hMe217; have hv217_0 := hcc217 0 _ rfl; rw [Nat.add_zero] at hv217_0; replace hv217_0 := Option.some.inj (hv217_0.symm.trans hx217_0); rw [hv217_0] at ge217_0; have HL217_0 := Aside0.mk (show Kd.R (Kd.int .i64) 3 _ _ _ _ ((rd_T80 x8_2 x9_1).f0) from ge217_0); clear hv217_0 ge217_0; clear hcc217 hce217; have HR217_0 := Aside0.mk hi217_0; have HC217_0 := Aside0.mk hl217_0; clear hi217_0 hl217_0; replace p217 := eq_true p217; replace q217 := eq_true q217; have ea_ := Option.some.inj (hx209_0.symm.trans hx217_0); injection ea_ with ea_ en_ ec_; subst ea_; subst ec_; clear en_) | ((with_reducible refine gate_dst (N := 90) rfl ?_); refine Kd.R_lit (Kd.int .i64) _ 3 ?hg (N := 90) ?hd (xs := ([x50_2] : List Int)) (inner := [.int .i64 x50_2]) (ok := fun _ => True) (okp := fun _ => True) ?hr ?hp (fun _ hk => hk) trivial (Below.refl _ _) (Nat.le_refl _) s6q0 ?_; (case hd => rfl); (case hg => rfl); (case hr => first | (go_simp; done) | (go_simp; rfl)); (case hp => exact (Reps.one (show Kd.M (Kd.int .i64) _ _ _ x50_2 [.int .i64 x50_2] from rfl) (Reps.none _ _))); intro v219 w60 ho61 hb hg_ hnew_; clear hg_ hnew_; (first | rw [← Ny218.out] at ho61 | (simp only [Int.reduceToNat] at ho61; rw [← Ny218.out] at ho61)); have n0_ := Aside0.mk (Kd.S_elder' s6q14 (Kd.R_base ho61) hb); have n1_ := Aside0.mk (Kd.R_elder' s6q21 (Kd.R_base ho61) hb); have n2_ := Aside0.mk (Kd.R_elder' s6q22 (Kd.R_base ho61) hb); have n3_ := Aside0.mk (Kd.R_elder' s6q23 (Kd.R_base ho61) hb); have n4_ := Aside0.mk (Kd.R_lower (Kd.R_new' (Kd.R_new' (Kd.R_new' ho61 (Kd.R_lt s6q21)) (Kd.R_lt s6q22)) (Kd.R_lt s6q23)) (below_size s6q29)); have n5_ := Aside0.mk (Kd.C_below s6q34 hb); have n6_ := Aside0.mk (blk_below (g := gb208) (o := .cells #[.slice A207_0 ((rd_T80 x8_2 (Go.bits .andNot .i64 x9_1 (ji31))).f0).length c207_0, .int .i64 ((rd_T80 x8_2 (Go.bits .andNot .i64 x9_1 (ji31))).f1)] 80 (0, 0)) s6q24 hb); have n7_ := Aside0.mk (Kd.C_below s6q35 hb); have n8_ := Aside0.mk (Kd.C_below s6q36 hb); have n9_ := Aside0.mk (below_step s6q29 hb); clear HO_8; clear HL207_0; clear HL209_0; clear HL217_0; clear HR207_0; clear BK208; clear HR209_0; clear HR217_0; clear HB; have HO_8 := n0_; have HL207_0 := n1_; have HL209_0 := n2_; have HL217_0 := n3_; have HO220 := n4_; have HR207_0 := n5_; have BK208 := n6_; have HR209_0 := n7_; have HR217_0 := n8_; have HB := n9_; clear n0_ n1_ n2_ n3_ n4_ n5_ n6_ n7_ n8_ n9_; clear hb ho61; obtain ⟨Ao62, co62, eo62⟩ := Kd.R_slice HO220.out; subst eo62) | (go_at_call 47; (with_reducible refine (cost_joined.calls k2 _ _ ((rd_T80 x8_2 (Go.bits .andNot .i64 x9_1 (ji31))).f0) _ _ y218 t221 _ ?side1 ?side2 ?side3 ?side4 A53.out).mono ?_); (case side1 => repeat (first | exact s6q34 | (with_reducible refine Kd.C_alloc ?_ _) | (with_reducible refine Kd.C_drewN ?_ _) | (with_reducible refine Kd.C_drew ?_))); (case side2 => exact HC207_0.out); (case side3 => repeat (first | exact (Kd.R_reads' HO220.out).2.2 | (with_reducible refine Kd.C_alloc ?_ _) | (with_reducible refine Kd.C_drewN ?_ _) | (with_reducible refine Kd.C_drew ?_))); (case side4 => exact (Kd.R_reads' HO220.out).2.1); rintro e w63 ⟨v222, rfl, ho0, hb⟩; have n0_ := Aside0.mk (Kd.S_elder' s6q14 (Kd.R_base ho0) hb); have n1_ := Aside0.mk (Kd.R_elder' s6q21 (Kd.R_base ho0) hb); have n2_ := Aside0.mk (Kd.R_elder' s6q22 (Kd.R_base ho0) hb); have n3_ := Aside0.mk (Kd.R_elder' s6q23 (Kd.R_base ho0) hb); have n4_ := Aside0.mk (Kd.R_elder' s6q19 (Kd.R_base ho0) hb); have n5_ := Aside0.mk (Kd.R_lower (Kd.R_new' (Kd.R_new' (Kd.R_new' (Kd.R_new' ho0 (Kd.R_lt s6q21)) (Kd.R_lt s6q22)) (Kd.R_lt s6q23)) (Kd.R_lt s6q19)) (below_size s6q29)); have n6_ := Aside0.mk (Kd.C_below s6q34 hb); have n7_ := Aside0.mk (blk_below (g := gb208) (o := .cells #[.slice A207_0 ((rd_T80 x8_2 (Go.bits .andNot .i64 x9_1 (ji31))).f0).length c207_0, .int .i64 ((rd_T80 x8_2 (Go.bits .andNot .i64 x9_1 (ji31))).f1)] 80 (0, 0)) s6q24 hb); have n8_ := Aside0.mk (Kd.C_below s6q35 hb); have n9_ := Aside0.mk (Kd.C_below s6q36 hb); have n10_ := Aside0.mk (below_step s6q29 hb); clear HO_8; clear HL207_0; clear HL209_0; clear HL217_0; clear HO220; clear HR207_0; clear BK208; clear HR209_0; clear HR217_0; clear HB; have HO_8 := n0_; have HL207_0 := n1_; have HL209_0 := n2_; have HL217_0 := n3_; have HO220 := n4_; have HO223 := n5_; have HR207_0 := n6_; have BK208 := n7_; have HR209_0 := n8_; have HR217_0 := n9_; have HB := n10_; clear n0_ n1_ n2_ n3_ n4_ n5_ n6_ n7_ n8_ n9_ n10_; (try clear hb); (try clear hb2); (try clear hk); (try clear hi); (try clear ho0); obtain ⟨Ao64, co64, eo64⟩ := Kd.R_slice HO223.out; subst eo64; have p54 : 0 ≤ (x9_1 : Int) := of_decide_eq_true s6q10; have q54 : (x9_1 : Int) < ((x8_2.length : Int) : Int) := of_decide_eq_true s6q10; obtain ⟨go54, co54, eo54, gb54, gl54, cl54, HG54⟩ := Kd.S_form HO_8.out s6q13; (first | cases eo54 | (injection eo54 with ea_ en_ ec_; (first | subst ea_ | (injection ea_ with ea_; subst ea_)); subst ec_; clear en_)); have GB54 := Aside0.mk gb54; have GG54 := Aside0.mk HG54; clear gb54 gl54 HG54; (first | simp only [add_plain] at hx207_0 | skip); (first | simp only [add_plain] at hx207_1 | skip); (first | simp only [add_plain] at hx209_0 | skip); (first | simp only [add_plain] at hx209_1 | skip); (first | simp only [add_plain] at hx217_0 | skip); (first | simp only [add_plain] at hx217_1 | skip); obtain ⟨_, ce54, hcl54, hM54, hcc54, hfr54, _, _⟩ := Kd.S_elem HO_8.out z80 (x9_1 : Int) p54 q54; obtain ⟨ve54_0, rfl, ge54_0⟩ := k80_openM hM54; have hx54_0 : w63.cell? ⟨go54, (x9_1 : Int).toNat * 2, none⟩ = some (ve54_0) := hcc54 0 _ rfl; have hx54_1 : w63.cell? ⟨go54, (x9_1 : Int).toNat * 2 + 1, none⟩ = some (.int .i64 ((rd_T80 x8_2 x9_1).f1)) := hcc54 1 _ rfl; have hf54_0 : w63.frozen? ⟨go54, (x9_1 : Int).toNat * 2, none⟩ = false := hfr54 0; have hf54_1 : w63.frozen? ⟨go54, (x9_1 : Int).toNat * 2 + 1, none⟩ = false := hfr54 1; clear hcl54 hcc54 hfr54 hM54; replace p54 := eq_true p54; replace q54 := eq_true q54; have n_ := Aside0.mk (Kd.S_mono (ok' := (fun k_ => some k_ ≠ (.slice Ao62 y218.length co62 : Value).ownBlock ∧ some k_ ≠ (.slice Ao64 t221.length co64 : Value).ownBlock ∧ k_ ≠ gb208)) HO_8.out (fun k_ hk => ⟨hk.1.2, ⟨hk.2, hk.1.1⟩⟩)); clear HO_8; have HO_8 := n_; clear n_; have HX65 := Aside0.mk (show Kd.S k80 80 w63 w.heap.size (fun k_ => ((fun k_ => some k_ ≠ (.slice Ao62 y218.length co62 : Value).ownBlock ∧ k_ ≠ gb208)) k_ ∧ ¬ ((fun k_ => some k_ = (.slice Ao64 t221.length co64 : Value).ownBlock)) k_) (.slice (some ⟨go54, 0, none⟩) x8_2.length co24) x8_2 from s6q30); obtain ⟨oki65, ce65, hcl65, hM65, hcc65, hfr65, hoki65, hH65⟩ := Kd.S_elem HX65.out z80 (x9_1 : Int) (of_decide_eq_true s6q10) s6q49; obtain ⟨ve65_0, rfl, ge65_0⟩ := k80_openM hM65; have HP65 := Kd.S_seg hH65 (of_decide_eq_true s6q10) s6q49 (seg := [.slice Ao64 t221.length co64, .int .i64 ji34]) (j := 0) (show 2 ≤ 2 from by decide) (x' := (⟨t221, ji34⟩ : S80)) (k80_mkM _ _ _ (⟨t221, ji34⟩ : S80) (Kd.R_mono (Kd.R_tight rfl (Kd.R_mono (ok' := fun k_ => ((fun k_ => some k_ ≠ (.slice Ao62 y218.length co62 : Value).ownBlock ∧ k_ ≠ gb208)) k_ ∧ k_ ≠ go54) (Kd.R_types (Kd.R_apart' (HO223.out) (Kd.S_typed HO_8.out) s6q2) BK208.out s6q2) (fun k_ hk => ⟨⟨hk.1.1.2, hk.2⟩, fun e_ => (hk.1.2) s6q3⟩))) (fun _ h_ => Or.inr (h_)))) (fun _ hk => hk) (fun k_ hk_ => ((Kd.R_mono (ok' := fun k_ => ((fun k_ => some k_ ≠ (.slice Ao62 y218.length co62 : Value).ownBlock ∧ k_ ≠ gb208)) k_ ∧ k_ ≠ go54) (Kd.R_types (Kd.R_apart' (HO223.out) (Kd.S_typed HO_8.out) s6q2) BK208.out s6q2) (fun k_ hk => ⟨⟨hk.1.1.2, hk.2⟩, fun e_ => (hk.1.2) s6q3⟩))).1 k_ hk_.symm); have hx65_0 := hcc65 0 _ rfl; (try simp only [show (k80).sz = 2 from rfl, Nat.mul_one, Nat.add_zero] at hx65_0); have hf65_0 := hfr65 0; (try simp only [show (k80).sz = 2 from rfl, Nat.mul_one, Nat.add_zero] at hf65_0); have hx65_1 := hcc65 1 _ rfl; (try simp only [show (k80).sz = 2 from rfl, Nat.mul_one, Nat.add_zero] at hx65_1); have hf65_1 := hfr65 1; (try simp only [show (k80).sz = 2 from rfl, Nat.mul_one, Nat.add_zero] at hf65_1); clear hcl65 hcc65 hfr65 hM65 hoki65 hH65) | ((with_reducible refine gate_store (t := 80) (p := 94) rfl ?_); (try (rw [drewN_self w63]; generalize hq_ : World.drewN w63 _ = w63; have n0_ := Aside0.mk (Kd.S_at hq_ HO_8.out); have n1_ := Aside0.mk (Kd.R_at hq_ HL207_0.out); have n2_ := Aside0.mk (Kd.R_at hq_ HL209_0.out); have n3_ := Aside0.mk (Kd.R_at hq_ HL217_0.out); have n4_ := Aside0.mk (Kd.R_at hq_ HO220.out); have n5_ := Aside0.mk (blk_at hq_ BK208.out); have n6_ := Aside0.mk (below_at hq_ HB.out); clear hq_ HO_8 HL207_0 HL209_0 HL217_0 HO220 BK208 HB; have HO_8 := n0_; have HL207_0 := n1_; have HL209_0 := n2_; have HL217_0 := n3_; have HO220 := n4_; have BK208 := n5_; have HB := n6_; clear n0_ n1_ n2_ n3_ n4_ n5_ n6_; (try (have n_ := Aside0.mk (Kd.S_mono (ok' := (fun k_ => some k_ ≠ (.slice Ao62 y218.length co62 : Value).ownBlock ∧ some k_ ≠ (.slice Ao64 t221.length co64 : Value).ownBlock ∧ k_ ≠ gb208)) HO_8.out (fun k_ hk => ⟨hk.1.2, ⟨hk.2, hk.1.1⟩⟩)); clear HO_8; have HO_8 := n_; clear n_)); (try (have HX65 := Aside0.mk (show Kd.S k80 80 w63 w.heap.size (fun k_ => ((fun k_ => some k_ ≠ (.slice Ao62 y218.length co62 : Value).ownBlock ∧ k_ ≠ gb208)) k_ ∧ ¬ ((fun k_ => some k_ = (.slice Ao64 t221.length co64 : Value).ownBlock)) k_) (.slice (some ⟨go54, 0, none⟩) x8_2.length co24) x8_2 from s6q30))); (try (obtain ⟨oki65, ce65, hcl65, hM65, hcc65, hfr65, hoki65, hH65⟩ := Kd.S_elem HX65.out z80 (x9_1 : Int) (of_decide_eq_true s6q10) s6q49)); (try (obtain ⟨ve65_0, rfl, ge65_0⟩ := k80_openM hM65)); (try (have HP65 := Kd.S_seg hH65 (of_decide_eq_true s6q10) s6q49 (seg := [.slice Ao64 t221.length co64, .int .i64 ji34]) (j := 0) (show 2 ≤ 2 from by decide) (x' := (⟨t221, ji34⟩ : S80)) (k80_mkM _ _ _ (⟨t221, ji34⟩ : S80) (Kd.R_mono (Kd.R_tight rfl (Kd.R_mono (ok' := fun k_ => ((fun k_ => some k_ ≠ (.slice Ao62 y218.length co62 : Value).ownBlock ∧ k_ ≠ gb208)) k_ ∧ k_ ≠ go54) (Kd.R_types (Kd.R_apart' (HO223.out) (Kd.S_typed HO_8.out) s6q2) BK208.out s6q2) (fun k_ hk => ⟨⟨hk.1.1.2, hk.2⟩, fun e_ => (hk.1.2) s6q3⟩))) (fun _ h_ => Or.inr (h_)))) (fun _ hk => hk) (fun k_ hk_ => ((Kd.R_mono (ok' := fun k_ => ((fun k_ => some k_ ≠ (.slice Ao62 y218.length co62 : Value).ownBlock ∧ k_ ≠ gb208)) k_ ∧ k_ ≠ go54) (Kd.R_types (Kd.R_apart' (HO223.out) (Kd.S_typed HO_8.out) s6q2) BK208.out s6q2) (fun k_ hk => ⟨⟨hk.1.1.2, hk.2⟩, fun e_ => (hk.1.2) s6q3⟩))).1 k_ hk_.symm))); (try (have hx65_0 := hcc65 0 _ rfl)); (try (try simp only [show (k80).sz = 2 from rfl, Nat.mul_one, Nat.add_zero] at hx65_0)); (try (have hf65_0 := hfr65 0)); (try (try simp only [show (k80).sz = 2 from rfl, Nat.mul_one, Nat.add_zero] at hf65_0)); (try (have hx65_1 := hcc65 1 _ rfl)); (try (try simp only [show (k80).sz = 2 from rfl, Nat.mul_one, Nat.add_zero] at hx65_1)); (try (have hf65_1 := hfr65 1)); (try (try simp only [show (k80).sz = 2 from rfl, Nat.mul_one, Nat.add_zero] at hf65_1)); (try (clear hcl65 hcc65 hfr65 hM65 hoki65 hH65)))); refine store_event (t := 80) (p := 94) (v := ?vo_w66) (w1 := ((w63.setCell ⟨go54, (x9_1 : Int).toNat * 2, none⟩ (.slice Ao64 t221.length co64)).setCell ⟨go54, (x9_1 : Int).toNat * 2 + 1, none⟩ (.int .i64 ji34))) ?hg ?ho ?hn ?hr ?_; (case ho => rfl); (case hg => rfl); (case hn => rfl); (case hr => first | (go_simp; done) | (go_simp; rfl)); intro w66 hw; have hg : w63.grownBy w66 (some go54) := (by rw [hw]; exact HP65.2); have hp_ : Kd.S k80 80 w66 w.heap.size (fun k_ => some k_ ≠ (.slice Ao62 y218.length co62 : Value).ownBlock ∧ k_ ≠ gb208) (.slice (some ⟨go54, 0, none⟩) x8_2.length co24) y224 := s6q8; clear HP65; have n0_ := Aside0.mk (hp_); have n1_ := Aside0.mk (Kd.R_after (v := (.slice (some ⟨go54, 0, none⟩) x8_2.length co24)) (v1 := (.slice (some ⟨go54, 0, none⟩) x8_2.length co24)) (ok := (fun k_ => some k_ ≠ (.slice Ao62 y218.length co62 : Value).ownBlock ∧ some k_ ≠ (.slice Ao64 t221.length co64 : Value).ownBlock)) s6q27 hg (.inl rfl)); have n2_ := Aside0.mk (blk_grown (g := gb208) (o := .cells #[.slice A207_0 ((rd_T80 x8_2 (Go.bits .andNot .i64 x9_1 (ji31))).f0).length c207_0, .int .i64 ((rd_T80 x8_2 (Go.bits .andNot .i64 x9_1 (ji31))).f1)] 80 (0, 0)) s6q24 hg (Kd.S_away HO_8.out (fun _ hk => hk.2.2))); have n3_ := Aside0.mk (Kd.R_after (v := (.slice (some ⟨go54, 0, none⟩) x8_2.length co24)) (v1 := (.slice (some ⟨go54, 0, none⟩) x8_2.length co24)) (ok := (fun k_ => some k_ ≠ (.slice Ao62 y218.length co62 : Value).ownBlock ∧ some k_ ≠ (.slice Ao64 t221.length co64 : Value).ownBlock ∧ k_ ≠ gb208)) s6q31 hg (.inl rfl)); have n4_ := Aside0.mk (Kd.R_after (v := (.slice (some ⟨go54, 0, none⟩) x8_2.length co24)) (v1 := (.slice (some ⟨go54, 0, none⟩) x8_2.length co24)) (ok := (fun k_ => some k_ ≠ (.slice Ao62 y218.length co62 : Value).ownBlock ∧ some k_ ≠ (.slice Ao64 t221.length co64 : Value).ownBlock ∧ k_ ≠ gb208)) s6q32 hg (.inl rfl)); have n5_ := Aside0.mk (Kd.R_over' (v := (.slice (some ⟨go54, 0, none⟩) x8_2.length co24)) s6q19 (Kd.S_typed HO_8.out) s6q2 hg); have n6_ := Aside0.mk ((s6q44 : Below w.heap.size w w66)); clear HO_8; clear HL207_0; clear BK208; clear HL209_0; clear HL217_0; clear HO220; clear HB; clear HO223; have HO_8 := n0_; have HL207_0 := n1_; have BK208 := n2_; have HL209_0 := n3_; have HL217_0 := n4_; have HO220 := n5_; have HB := n6_; clear n0_ n1_ n2_ n3_ n4_ n5_ n6_; clear hg hw hp_))
 (try simp only [← hl8_2])
 first | go_roundg k2 | (refine Handed.intro k2 ?measure ?_; rotate_left; go_step; (repeat apply Exists.intro); simp only [add_plain]; refine ⟨?rel, rfl⟩)
 case measure => have := HK1.out; have := HK2.out; omega
 case rel => exact ⟨(y224), (wrap64 (x50_2 + 1)), s6q9, H', ⟨by have := HK1.out; have := HK2.out; omega⟩, ⟨by (try simp only [hl8_2]); (with_reducible repeat (first | apply Kd.S_alloc | apply Kd.S_drewN | apply Kd.S_drew)); exact Kd.S_mono HO_8.out (fun _ hk => trivial)⟩, ⟨by repeat (first | (with_reducible first | exact HB.out | apply below_alloc | apply pw_below_drewN | apply below_drew1 | refine below_set ?_ GE208.out) | exact HB.out)⟩⟩
/-! ### cost_grown: function 50 (by hand) -/
/-! ### slices.Delete of one element of a row of one's own -/
theorem R_beyond {α : Type} (d : Kd α) {W : World} {base : Nat} {e : TypeId} {ok : Nat → Prop} {g n c : Nat} {xs : List α} (HO : d.R e W base ok (.slice (some ⟨g, 0, none⟩) n c) xs) (zs : List Value) (o : Nat) (ho : n * d.sz ≤ o) (hfit : o + zs.length ≤ c * d.sz) :
    d.R e (W.setCells g o zs) base ok (.slice (some ⟨g, 0, none⟩) n c) xs ∧ W.grownBy (W.setCells g o zs) (some g) ∧ (∀ j, j < zs.length → (W.cell? ⟨g, o + j, none⟩).isSome = true) ∧ (∀ j, j < zs.length → W.frozen? ⟨g, o + j, none⟩ = false) := by
 obtain ⟨hn, hnc, _⟩ := Kd.R_reads' HO
 obtain ⟨hok, inner, hown, hr⟩ := HO
 have hin : inner.length = n * d.sz := by rw [hr.1, hn]
 rcases hown.2 with ⟨hv, _⟩ | ⟨g', cap', cur, hv, hb, hh, hle, hcm, hcs, htake⟩
 · cases hv
 injection hv with ha _ hc
 injection ha with ha
 injection ha with hg
 subst hg; subst hc
 have hfit' : o + zs.length ≤ cur.size := by omega
 obtain ⟨cur', h3, h4, h5⟩ := setCells_row zs o W cur hh hfit'
 obtain ⟨s1, s2, s3, s4⟩ := setCells_same g zs o W
 have hfar : ∀ k', k' ≠ g → (W.setCells g o zs).heap[k']? = W.heap[k']? := fun k' hk' => setCells_far zs _ k' hk'
 have hgo : some g = (Value.slice (some ⟨g, 0, none⟩) n c).ownBlock := by simp [Value.ownBlock]
 have hcl : cur.toList.length = cur.size := Array.length_toList
 have h6 : cur'.toList.take (xs.length * d.sz) = inner := by
  rw [h5, List.append_assoc, List.take_append_of_le_length (by rw [List.length_take, hcl, ← hn]; omega), List.take_take, Nat.min_eq_left (by rw [← hn]; omega)]
  exact htake
 refine ⟨⟨hok, inner, ⟨hown.1, .inr ⟨g, c, cur', by rw [← hn], hb, h3, hle, hcm, by rw [h4, hcs], h6⟩⟩, ?_⟩, ⟨s1, s2, s3, by rw [s4]; exact Nat.le_refl _, fun k' _ hk' => hfar k' (fun he => hk' (by rw [he]))⟩, ?_, ?_⟩
 · exact hr.imp_ fun p q hp => d.M_move (fun k' hk' => hfar k' (fun he => hk'.2 (by rw [he]; exact hgo))) hp
 · intro j hj
   rw [cell_of_row W g _ cur e (0, 0) hh]; simp; omega
 intro j _
 exact blk_frozen hh _
/-- clear(s[n:n+1]), behind a row of one's own: the row stays. -/
theorem R_clear {P : Program} {α : Type} (d : Kd α) {W : World} (t e ty : TypeId)
    (ht : P.underlying t = some (.slice e)) (z : Value) (zs : List Value) (hz : ∀ w, (zeroValue e).run P w = .ok z w) (hzs : (Builtin.zeroCells z.cells 1).toList = zs) (hone : ∀ v ∈ zs, v.oneCell' = true) (hlen : zs.length = d.sz)
    {g n c off c2 base : Nat} {e' : TypeId} {xs : List α} {ok : Nat → Prop} (hoff : off = n * d.sz) (hc : n + 1 ≤ c)
    (HO : d.R e' W base ok (.slice (some ⟨g, 0, none⟩) n c) xs) :
    ∃ w1, (Builtin.clear_ #[t] ty #[.slice (some ⟨g, off, none⟩) 1 c2]).run P W = .ok (.tuple #[]) w1 ∧ d.R e' w1 base ok (.slice (some ⟨g, 0, none⟩) n c) xs ∧ W.grownBy w1 (some g) := by
  have hcs : (n + 1) * d.sz ≤ c * d.sz := Nat.mul_le_mul_right _ hc
  have hs1 : (n + 1) * d.sz = n * d.sz + d.sz := Nat.succ_mul _ _
  obtain ⟨h1, h2, h3, h4⟩ := R_beyond d HO zs off s6q1 s6q1
  have hst := run_storeCells_cells (P := P) g off zs 0 W (by simpa using h3) (by simpa using h4) hone
  simp only [Nat.add_zero] at hst
  exact ⟨_, by simp [Builtin.clear_, run_underlying ht, hz, hzs, hst], h1, h2⟩
theorem grownBy_two {w w1 w2 : World} {g : Nat} (h1 : w.grownBy w1 (some g)) (h2 : w1.grownBy w2 (some g)) : w.grownBy w2 (some g) :=
  ⟨h2.os.trans h1.os, h2.tape.trans h1.tape, h2.output.trans h1.output, Nat.le_trans h1.size h2.size, fun i hi hne => (h2.block i (Nat.lt_of_lt_of_le hi h1.size) hne).trans (h1.block i hi hne)⟩
def zdel50 : Value := (.agg #[(.int .i64 0), (.slice none 0 0)])
theorem zerodel50 : ∀ w, (zeroValue 89).run Tryd.prog w = .ok zdel50 w := by
 intro w
 have h : (Tryd.prog.info? 89).map (·.zero) = some (some zdel50) := by kernel_rfl
 obtain ⟨i, hi, hz⟩ := Option.map_eq_some_iff.1 h
 simp [zeroValue, typeInfo, hi, hz]
set_option maxRecDepth 10000 in
theorem delete50 {α : Type} (d : Kd α) (hsz : d.sz = 2) {W : World} (base : Nat) {g n c : Nat} {k : Int} {xs : List α} {ok : Nat → Prop} (HO : d.R 89 W base ok (.slice (some ⟨g, 0, none⟩) n c) xs) (hk0 : 0 ≤ k) (hk : k < n) {j : Int} (hj : j = k + 1) {w0 : World} (HB : Below base w0 W) :
    Calls Tryd.prog 50 #[.slice (some ⟨g, 0, none⟩) n c, .int .i64 k, .int .i64 j] W fun e w1 => e = .returned (.slice (some ⟨g, 0, none⟩) (n - 1) c) ∧ d.R 89 w1 base ok (.slice (some ⟨g, 0, none⟩) (n - 1) c) (xs.eraseIdx k.toNat) ∧ Below base w0 w1 ∧ W.grownBy w1 (some g) := by
 subst hj
 have hnc := (Kd.R_reads' HO).2.1
 have hb63 := (Kd.R_reads' HO).2.2
 obtain ⟨m, rfl⟩ := Int.eq_ofNat_of_zero_le hk0
 obtain ⟨p, rfl⟩ : ∃ p, n = p + 1 := ⟨n - 1, by omega⟩
 have HR := Aside0.mk HO
 have HB_ := Aside0.mk HB
 clear HB
 have hmn : m < p + 1 := by omega
 clear HO hk0
 have q1 : decide ((m : Int) ≤ (m : Int) + 1) = true := decide_eq_true s6q1
 have q2 : decide ((m : Int) + 1 ≤ ((p + 1 : Nat) : Int)) = true := decide_eq_true s6q1
 have q3 : ((m : Int) == (m : Int) + 1) = false := by simp; omega
 have q4 : decide ((m : Int) ≤ ((p + 1 : Nat) : Int)) = true := decide_eq_true s6q1
 have q5 : decide ((0 : Int) ≤ (m : Int)) = true := decide_eq_true s6q1
 have q6 : decide ((0 : Int) ≤ (m : Int) + 1) = true := decide_eq_true s6q1
 have q7 : decide (((p + 1 : Nat) : Int) ≤ (c : Int)) = true := decide_eq_true s6q1
 have q8 : decide ((m : Int) ≤ (c : Int)) = true := decide_eq_true s6q1
 obtain ⟨A, hA, hA2⟩ : ∃ A : Addr, (if c = m + 1 then some (⟨g, 0, none⟩ : Addr) else some ⟨g, (m + 1) * 2, none⟩) = some A ∧ Hid (some A = if c = m + 1 then some ⟨g, 0, none⟩ else (some (⟨g, 0, none⟩ : Addr)).map (·.add ((m + 1) * d.sz))) := by
  by_cases h : c = m + 1
  · exact ⟨⟨g, 0, none⟩, by simp [h], by simp [Hid, h]⟩
  exact ⟨⟨g, (m + 1) * 2, none⟩, by simp [h], by simp [Hid, h, hsz, Addr.add_lit]⟩
 have hB := Aside0.mk (show base ≤ W.drew.heap.size from by
  have h1 := Kd.R_base HR.out g (by simp [Value.ownBlock])
  have h2 := Kd.R_lt HR.out g (by simp [Value.ownBlock])
  show base ≤ W.heap.size
  omega)
 have HR2 := Aside0.mk (Kd.R_drew HR.out)
 have hp0 : (0 : Int) ≤ (m : Int) + 1 := by omega
 have hp1 : (m : Int) + 1 ≤ ((p + 1 : Nat) : Int) := by omega
 have hp2 : ((m : Int) + 1).toNat = m + 1 := by omega
 have hp3 : m ≤ c := by omega
 have hp4 : p + 1 ≤ c := hnc
 have hp5 : m ≤ p := by omega
 go_enter Tryd.func50, Tryd.ntmps50
 go_wp2
 go_region_law (refine Kd.R_delete_step d (w0 := W.drew) base (by rfl) (.tmp 22) (.tmp 25) 87 89 (by rfl) Tryd.underlying87 (by rw [hsz]; kernel_rfl) (g := g) (n := p + 1) (c := c) (k := m) (m := p + 1 - (m + 1)) (c2 := c - (m + 1)) (A := some A) (by simp [Act.eval, Act.put]) (by simp [Act.eval, Act.put]) hA2 rfl HR2.out hmn (Below.refl _ _) hB.out (fun w1 ho hb hg => ?_))
 have ho2 : d.R 89 w1 base ok (.slice (some ⟨g, 0, none⟩) p c) (xs.eraseIdx m) := ho
 have HO2 := Aside0.mk ho2
 have HG2 := Aside0.mk hg
 clear ho ho2 hb hg
 have q9 : decide ((p : Int) ≤ ((p + 1 : Nat) : Int)) = true := decide_eq_true s6q1
 have q10 : decide ((0 : Int) ≤ (p : Int)) = true := decide_eq_true s6q1
 obtain ⟨w2, hclr, ho3, hg3⟩ := R_clear (P := Tryd.prog) d 87 89 0 Tryd.underlying87 zdel50 [(.int .i64 0), (.slice none 0 0)] zerodel50 (by kernel_rfl) (by simp [Value.oneCell']) (by rw [hsz]; rfl) (g := g) (n := p) (c := c) (off := p * 2) (c2 := c - p) (by rw [hsz]) hp4 HO2.out
 go_wp2
 go_ret
 have hgg := grownBy_two (show W.grownBy w1 (some g) from ⟨HG2.out.os, HG2.out.tape, HG2.out.output, HG2.out.size, HG2.out.block⟩) hg3
 exact ⟨by simp, ho3, HB_.out.grown hgg hB.out (fun k hk => by injection hk with hk; subst hk; exact Kd.R_base HR.out _ (by simp [Value.ownBlock])), hgg⟩
theorem delete50S {α : Type} (d : Kd α) (hsz : d.sz = 2) {W : World} (base : Nat) {g n c : Nat} {k : Int} {xs : List α} {ok : Nat → Prop} (HO : Kd.S d 89 W base ok (.slice (some ⟨g, 0, none⟩) n c) xs) (hk0 : 0 ≤ k) (hk : k < n) {j : Int} (hj : j = k + 1) {w0 : World} (HB : Below base w0 W) :
    Calls Tryd.prog 50 #[.slice (some ⟨g, 0, none⟩) n c, .int .i64 k, .int .i64 j] W fun e w1 => e = .returned (.slice (some ⟨g, 0, none⟩) (n - 1) c) ∧ Kd.S d 89 w1 base ok (.slice (some ⟨g, 0, none⟩) (n - 1) c) (xs.eraseIdx k.toNat) ∧ Below base w0 w1 ∧ W.grownBy w1 (some g) := by
 obtain ⟨f, HR⟩ := HO
 exact (delete50 (Kd.tag f d) hsz base HR hk0 hk hj HB).mono (fun e w1 ⟨h1, h2, h3⟩ => ⟨h1, Kd.S_erase h2, h3⟩)
theorem delete50N {α : Type} (d : Kd α) (hsz : d.sz = 2) {W : World} (base : Nat) {g n c : Nat} {k : Int} {xs : List α} {ok : Nat → Prop} (HO : Kd.N d 89 W base ok (.slice (some ⟨g, 0, none⟩) n c) xs) (hk0 : 0 ≤ k) (hk : k < n) {j : Int} (hj : j = k + 1) {w0 : World} (HB : Below base w0 W) :
    Calls Tryd.prog 50 #[.slice (some ⟨g, 0, none⟩) n c, .int .i64 k, .int .i64 j] W fun e w1 => e = .returned (.slice (some ⟨g, 0, none⟩) (n - 1) c) ∧ Kd.N d 89 w1 base ok (.slice (some ⟨g, 0, none⟩) (n - 1) c) (xs.eraseIdx k.toNat) ∧ Below base w0 w1 ∧ W.grownBy w1 (some g) := by
 obtain ⟨hown, rows, hl, hR, hf⟩ := HO
 exact (delete50 (Kd.raw d.sz) hsz base (Kd.raw_any hR) hk0 hk hj HB).mono (fun e w1 ⟨h1, h2, h3, h4⟩ => ⟨h1, Kd.N_erased hown hl hf h2 h4, h3, h4⟩)
end Go.Proofs.YtgcijejmmhjibaaDoor.B
