-- Printed by a program of this session (a patched print).
import Derived.Test.YtgcijejmmhjibaaDoorGx0
import Derived.Test.YtgcijejmmhjibaaDoorGx1
import Derived.Test.YtgcijejmmhjibaaDoorGx2
import Derived.Test.YtgcijejmmhjibaaDoorGx4
import Derived.Test.YtgcijejmmhjibaaDoorGx6
namespace Go.Proofs.YtgcijejmmhjibaaDoor.G
open Go.RowKit Go.Proofs.YtgcijejmmhjibaaDoorW.PrintWords Go.Proofs.YtgcijejmmhjibaaDoorW.PrintLast Go.Proofs.YtgcijejmmhjibaaDoorW.PrintMore
attribute [local go_sem] max2_int min2_int max_two min_two max_three min_three max_four min_four   -- for this text's walks alone
set_option linter.unusedVariables false
set_option linter.unusedSimpArgs false

theorem s7qm0 {p : Prop} (h : p := by repeat' first | (with_reducible exact ih0 _ _ _ _) | (with_reducible exact ih1 _ _ _ _ _ _ _) | (with_reducible exact cost_checkRelations.mono _ _ _) | (with_reducible exact cost_joined.mono _ _ _) | (with_reducible exact cost_size.mono _ _ _ _) | (with_reducible exact LeO.refl _) | (with_reducible exact LeO.none _) | (with_reducible refine LeO.ite ?_ ?_) | (with_reducible refine LeO.bind ?_ (fun _ => ?_)) | exact ih0 _ _ _ _ | exact ih1 _ _ _ _ _ _ _ | exact cost_checkRelations.mono _ _ _ | exact cost_joined.mono _ _ _ | exact cost_size.mono _ _ _ _ | exact LeO.none _ | refine LeO.ite ?_ ?_ | refine LeO.bind ?_ (fun _ => ?_)) : p := h
theorem s7q0 {p : Prop} (h : p := by simp) : p := h
theorem s7q1 {p : Prop} (h : p := by omega) : p := h
theorem s7q2 {p : Prop} (h : p := by decide) : p := h
theorem s7q3 {p : Prop} (h : p := by rw [e_]; rfl) : p := h
theorem s7q4 {p : Prop} (h : p := by injection e246) : p := h
theorem s7q5 {p : Prop} (h : p := by injection e254) : p := h
theorem s7q6 {p : Prop} (h : p := by rw [hw, Ny242.out]; exact HP21.1) : p := h
theorem s7q7 {p : Prop} (h : p := by rw [hw, Ny253.out]; exact HP50.1) : p := h
theorem s7q8 {p : Prop} (h : p := by rw [hw, Ny261.out]; exact HP65.1) : p := h
theorem s7q9 {p : Prop} (h : p := by first | rfl | (simp; done) | (simp [*]; done)) : p := h
theorem s7q10 {p : Prop} (h : p := by first | (with_reducible assumption) | assumption) : p := h
theorem s7q11 {p : Prop} (h : p := by first | exact Int.natCast_pos.1 (Int.lt_of_le_of_lt p15 q15) | omega) : p := h
theorem s7q12 {p : Prop} (h : p := by first | exact Int.natCast_pos.1 (Int.lt_of_le_of_lt p39 q39) | omega) : p := h
theorem s7q13 {p : Prop} (h : p := by first | exact Int.natCast_pos.1 (Int.lt_of_le_of_lt p54 q54) | omega) : p := h
theorem s7q14 {p : Prop} (h : p := by (with_reducible repeat (first | apply Kd.S_alloc | apply Kd.S_drewN | apply Kd.S_drew)); exact HO_8.out) : p := h
theorem s7q15 {p : Prop} (h : p := by (with_reducible repeat (first | apply Kd.N_alloc | apply Kd.N_drewN | apply Kd.N_drew)); exact HO229.out) : p := h
theorem s7q16 {p : Prop} (h : p := by (with_reducible repeat (first | apply Kd.R_alloc | apply Kd.R_drewN | apply Kd.R_drew)); exact HO249.out) : p := h
theorem s7q17 {p : Prop} (h : p := by (with_reducible repeat (first | apply Kd.R_alloc | apply Kd.R_drewN | apply Kd.R_drew)); exact HO257.out) : p := h
theorem s7q18 {p : Prop} (h : p := by (with_reducible repeat (first | apply Kd.R_alloc | apply Kd.R_drewN | apply Kd.R_drew)); exact HO264.out) : p := h
theorem s7q19 {p : Prop} (h : p := by (with_reducible repeat (first | apply Kd.R_alloc | apply Kd.R_drewN | apply Kd.R_drew)); exact HL236_0.out) : p := h
theorem s7q20 {p : Prop} (h : p := by (with_reducible repeat (first | apply Kd.R_alloc | apply Kd.R_drewN | apply Kd.R_drew)); exact HL244_0.out) : p := h
theorem s7q21 {p : Prop} (h : p := by (with_reducible repeat (first | apply Kd.R_alloc | apply Kd.R_drewN | apply Kd.R_drew)); exact HL246_0.out) : p := h
theorem s7q22 {p : Prop} (h : p := by (with_reducible repeat (first | apply Kd.R_alloc | apply Kd.R_drewN | apply Kd.R_drew)); exact HL254_0.out) : p := h
theorem s7q23 {p : Prop} (h : p := by (with_reducible repeat (first | apply Kd.V_alloc | apply Kd.V_drewN | apply Kd.V_drew)); exact HL230_1.out) : p := h
theorem s7q24 {p : Prop} (h : p := by (with_reducible repeat (first | refine blk_drewN ?_ _ | refine blk_drew ?_ | refine blk_alloc ?_ _)); exact BK245.out) : p := h
theorem s7q25 {p : Prop} (h : p := by repeat (first | (with_reducible first | exact HB.out | apply below_alloc | apply pw_below_drewN | apply below_drew1) | exact HB.out)) : p := h
theorem s7q26 {p : Prop} (h : p := by (with_reducible repeat (first | apply Kd.R_alloc | apply Kd.R_drewN | apply Kd.R_drew)); exact Kd.R_mono HL244_0.out (fun _ hk => ⟨⟨hk.1.2, hk.2⟩, hk.1.1⟩)) : p := h
theorem s7q27 {p : Prop} (h : p := by (with_reducible repeat (first | apply Kd.S_alloc | apply Kd.S_drewN | apply Kd.S_drew)); exact Kd.S_mono HO_8.out (fun k_ hk => ⟨trivial, fun e_ => hk e_⟩)) : p := h
theorem s7q28 {p : Prop} (h : p := by repeat (first | (with_reducible first | exact HB.out | apply below_alloc | apply pw_below_drewN | apply below_drew1 | refine below_set ?_ GE245.out) | exact HB.out)) : p := h
theorem s7q29 {p : Prop} (h : p := by (with_reducible repeat (first | apply Kd.S_alloc | apply Kd.S_drewN | apply Kd.S_drew)); exact Kd.S_mono HO_8.out (fun k_ hk => ⟨⟨hk.1, hk.2.2⟩, fun e_ => hk.2.1 e_⟩)) : p := h
theorem s7q30 {p : Prop} (h : p := by (with_reducible repeat (first | apply Kd.R_alloc | apply Kd.R_drewN | apply Kd.R_drew)); exact Kd.R_mono HL246_0.out (fun _ hk => ⟨⟨hk.1.2, ⟨hk.2, hk.1.1.1⟩⟩, hk.1.1.2⟩)) : p := h
theorem s7q31 {p : Prop} (h : p := by (with_reducible repeat (first | apply Kd.R_alloc | apply Kd.R_drewN | apply Kd.R_drew)); exact Kd.R_mono HL254_0.out (fun _ hk => ⟨⟨hk.1.2, ⟨hk.2, hk.1.1.1⟩⟩, hk.1.1.2⟩)) : p := h
theorem s7q32 {p : Prop} (h : p := by repeat (first | (with_reducible exact HR230_1.out) | (with_reducible refine Kd.C_alloc ?_ _) | (with_reducible refine Kd.C_drewN ?_ _) | (with_reducible refine Kd.C_drew ?_) | exact HR230_1.out)) : p := h
theorem s7q33 {p : Prop} (h : p := by repeat (first | (with_reducible exact HR236_0.out) | (with_reducible refine Kd.C_alloc ?_ _) | (with_reducible refine Kd.C_drewN ?_ _) | (with_reducible refine Kd.C_drew ?_) | exact HR236_0.out)) : p := h
theorem s7q34 {p : Prop} (h : p := by repeat (first | (with_reducible exact HR244_0.out) | (with_reducible refine Kd.C_alloc ?_ _) | (with_reducible refine Kd.C_drewN ?_ _) | (with_reducible refine Kd.C_drew ?_) | exact HR244_0.out)) : p := h
theorem s7q35 {p : Prop} (h : p := by repeat (first | (with_reducible exact HR246_0.out) | (with_reducible refine Kd.C_alloc ?_ _) | (with_reducible refine Kd.C_drewN ?_ _) | (with_reducible refine Kd.C_drew ?_) | exact HR246_0.out)) : p := h
theorem s7q36 {p : Prop} (h : p := by repeat (first | (with_reducible exact HR254_0.out) | (with_reducible refine Kd.C_alloc ?_ _) | (with_reducible refine Kd.C_drewN ?_ _) | (with_reducible refine Kd.C_drew ?_) | exact HR254_0.out)) : p := h
theorem s7q37 {p : Prop} (h : p := by (with_reducible repeat (first | apply Kd.S_alloc | apply Kd.S_drewN | apply Kd.S_drew)); exact Kd.S_mono (Kd.S_far (p := ⟨gb245, 1, none⟩) (Kd.S_far (p := ⟨gb245, 0, none⟩) (Kd.S_mono HO_8.out (fun k_ hk => (⟨hk, hk.2⟩ : _ ∧ k_ ≠ gb245))) (fun _ hk => hk.2) (.slice A244_0 ((rd_T80 x8_2 (Go.bits .andNot .i64 x9_1 (ji31))).f0).length c244_0)) (fun _ hk => hk.2) (.int .i64 ((rd_T80 x8_2 (Go.bits .andNot .i64 x9_1 (ji31))).f1))) (fun _ hk => hk.1.2)) : p := h
theorem s7q38 {p : Prop} (h : p := by (with_reducible repeat (first | refine blk_drewN ?_ _ | refine blk_drew ?_ | refine blk_alloc ?_ _)); refine blk_put (cs := #[.slice A244_0 ((rd_T80 x8_2 (Go.bits .andNot .i64 x9_1 (ji31))).f0).length c244_0, .int .i64 0]) ?_ 1 _ rfl; (with_reducible repeat (first | refine blk_drewN ?_ _ | refine blk_drew ?_ | refine blk_alloc ?_ _)); refine blk_put (cs := #[.slice none 0 0, .int .i64 0]) ?_ 0 _ rfl; (with_reducible repeat (first | refine blk_drewN ?_ _ | refine blk_drew ?_ | refine blk_alloc ?_ _)); exact BK245.out) : p := h
theorem s7q39 {p : Prop} (h : p := by rw [hw]; exact s7q28) : p := h
theorem s7q40 {p : Prop} (h : p := by rw [hw]; exact s7q37) : p := h
theorem s7q41 {p : Prop} (h : p := by rw [hw]; exact s7q38) : p := h
theorem s7q42 {p : Prop} (h : p := by rw [hw]; exact below_set (HB.out) GB15.out) : p := h
theorem s7q43 {p : Prop} (h : p := by rw [hw]; exact below_set (below_set (HB.out) GB39.out) GB39.out) : p := h
theorem s7q44 {p : Prop} (h : p := by rw [hw]; exact below_set (below_set (HB.out) GB54.out) GB54.out) : p := h
theorem s7q45 {p : Prop} (h : p := by first | exact q244 | exact of_decide_eq_true s7q10 | (have e_ := (Kd.S_reads' HO_8.out).1; omega)) : p := h
theorem s7q46 {p : Prop} (h : p := by first | exact q246 | exact of_decide_eq_true s7q10 | (have e_ := (Kd.S_reads' HO_8.out).1; omega)) : p := h
theorem s7q47 {p : Prop} (h : p := by first | exact q254 | exact of_decide_eq_true s7q10 | (have e_ := (Kd.S_reads' HO_8.out).1; omega)) : p := h
theorem s7q48 {p : Prop} (h : p := by first | exact q230 | exact of_decide_eq_true s7q10 | (have e_ := (Kd.N_reads' HO229.out).1; omega)) : p := h
theorem s7q49 {p : Prop} (h : p := by have h_ : (x9_1 : Int) < ((x8_1.length : Int) : Int) := of_decide_eq_true s7q10; first | exact h_ | (have e_ := (Kd.S_reads' HO_8.out).1; omega) | simpa using h_) : p := h
theorem s7q50 {p : Prop} (h : p := by have h_ : (x9_1 : Int) < ((x8_2.length : Int) : Int) := of_decide_eq_true s7q10; first | exact h_ | (have e_ := (Kd.S_reads' HO_8.out).1; omega) | simpa using h_) : p := h
theorem s7q51 {p : Prop} (h : p := by (with_reducible repeat (first | apply Kd.R_alloc | apply Kd.R_drewN | apply Kd.R_drew)); exact Kd.R_mono (Kd.R_far (p := ⟨gb245, 1, none⟩) (Kd.R_far (p := ⟨gb245, 0, none⟩) (Kd.R_types HL244_0.out BK245.out s7q2) (fun _ hk => hk.2) (.slice A244_0 ((rd_T80 x8_2 (Go.bits .andNot .i64 x9_1 (ji31))).f0).length c244_0)) (fun _ hk => hk.2) (.int .i64 ((rd_T80 x8_2 (Go.bits .andNot .i64 x9_1 (ji31))).f1))) (fun _ hk => hk.1.2)) : p := h
theorem s7q52 {p : Prop} (h : p := by rw [hw]; exact s7q51) : p := h
theorem s7q53 {p : Prop} (h : p := by rw [hg]; exact (below_size s7q25)) : p := h
/-! ### peristyleref10_Best: function 18 -/
def peristyleref10_Best.f (k : Nat) (l0 : List Int) (l1 : List (S75)) : Option (List Int × Int × Int) := (peristyleref10_checkGraph.f k l0 l1).bind fun t226 => (if t226 = 0 then ((peristyleref10_best.f k l0 l1).bind fun t227 => (if 0 ≤ (wrap64 ((t227.length : Int) - 1)) then (if (wrap64 ((t227.length : Int) - 1)) < (t227.length : Int) then (some ((rd_T85 t227 (wrap64 ((t227.length : Int) - 1))).f1, (rd_T85 t227 (wrap64 ((t227.length : Int) - 1))).f0, 0)) else (none)) else (none))) else (some (([] : List Int), 0, t226)))
theorem peristyleref10_Best.mono : ∀ a0 a1 k, LeO (peristyleref10_Best.f k a0 a1) (peristyleref10_Best.f (k + 1) a0 a1) := by
 intro a0 a1 k
 unfold peristyleref10_Best.f
 repeat' first
  | (with_reducible exact peristyleref10_best.mono _ _ _)
  | (with_reducible exact peristyleref10_checkGraph.mono _ _ _)
  | (with_reducible exact LeO.refl _)
  | (with_reducible exact LeO.none _)
  | (with_reducible refine LeO.ite ?_ ?_)
  | (with_reducible refine LeO.bind ?_ (fun _ => ?_))
  | exact peristyleref10_best.mono _ _ _
  | exact peristyleref10_checkGraph.mono _ _ _
  | exact LeO.none _
  | refine LeO.ite ?_ ?_
  | refine LeO.bind ?_ (fun _ => ?_)
set_option maxHeartbeats 8000000 in
set_option maxRecDepth 100000 in
theorem peristyleref10_Best.calls (k : Nat) (A0 : Option Addr) (c0 : Nat) (l0 : List Int) (A1 : Option Addr) (c1 : Nat) (l1 : List (S75)) (r1 : List Int) (r2 : Int) (r3 : Int) (w : World) (hr0 : Kd.C (Kd.int .i64) w A0 l0.length l0) (hc0 : l0.length ≤ c0) (hr1 : Kd.C k75 w A1 l1.length l1) (hc1 : l1.length ≤ c1) (h : peristyleref10_Best.f k l0 l1 = some (r1, r2, r3)) :
    Calls Tryd.prog 18 #[.slice A0 l0.length c0, .slice A1 l1.length c1] w fun e w' => ∃ v0_ : Value, e = .returned (.tuple #[v0_, .int .i64 r2, .int .i64 r3]) ∧ Kd.V (Kd.int .i64) 3 w' w.heap.size (fun k_ => (w.heap.size ≤ k_)) v0_ r1 ∧ Below w.heap.size w w' := by
 have hu85 := Tryd.underlying85
 have HR0 := Aside0.mk hr0
 have HC0 := Aside0.mk hc0
 clear hr0 hc0
 have HR1 := Aside0.mk hr1
 have HC1 := Aside0.mk hc1
 clear hr1 hc1
 have HB := Aside0.mk (Below.refl w.heap.size w)
 have H : ((peristyleref10_checkGraph.f k l0 l1).bind fun t226 => (if t226 = 0 then ((peristyleref10_best.f k l0 l1).bind fun t227 => (if 0 ≤ (wrap64 ((t227.length : Int) - 1)) then (if (wrap64 ((t227.length : Int) - 1)) < (t227.length : Int) then (some ((rd_T85 t227 (wrap64 ((t227.length : Int) - 1))).f1, (rd_T85 t227 (wrap64 ((t227.length : Int) - 1))).f0, 0)) else (none)) else (none))) else (some (([] : List Int), 0, t226)))) = some (r1, r2, r3) := h
 clear h
 replace H := Option.bind_eq_some_iff.mp H
 obtain ⟨t226, A30, H⟩ := H
 replace H : (if t226 = 0 then ((peristyleref10_best.f k l0 l1).bind fun t227 => (if 0 ≤ (wrap64 ((t227.length : Int) - 1)) then (if (wrap64 ((t227.length : Int) - 1)) < (t227.length : Int) then (some ((rd_T85 t227 (wrap64 ((t227.length : Int) - 1))).f1, (rd_T85 t227 (wrap64 ((t227.length : Int) - 1))).f0, 0)) else (none)) else (none))) else (some (([] : List Int), 0, t226))) = some (r1, r2, r3) := H
 have A3 := Aside0.mk A30
 clear A30
 by_cases c4 : t226 = 0
 case neg =>
  rw [if_neg c4] at H
  have c4b0 : (t226 == 0) = false := beq_eq_false_iff_ne.mpr c4
  have c4b1 : (t226 != 0) = true := bne_iff_ne.mpr c4
  simp only [Option.some.injEq, Prod.mk.injEq] at H
  obtain ⟨rfl, rfl, rfl⟩ := H
  go_enter Tryd.func18, Tryd.ntmps18
  go_wp2_with (first | (go_at_call 43; (with_reducible refine (peristyleref10_checkGraph.calls k _ _ l0 _ _ l1 t226 _ ?side1 ?side2 ?side3 ?side4 A3.out).mono ?_); (case side1 => repeat (first | exact HR0.out | (with_reducible refine Kd.C_alloc ?_ _) | (with_reducible refine Kd.C_drewN ?_ _) | (with_reducible refine Kd.C_drew ?_))); (case side2 => exact HC0.out); (case side3 => repeat (first | exact HR1.out | (with_reducible refine Kd.C_alloc ?_ _) | (with_reducible refine Kd.C_drewN ?_ _) | (with_reducible refine Kd.C_drew ?_))); (case side4 => exact HC1.out); rintro e w14 ⟨rfl, hb⟩; have n0_ := Aside0.mk (below_step s7q25 hb); clear HB; have HB := n0_; clear n0_; (try clear hb); (try clear hb2); (try clear hk); (try clear hi)))
  repeat (go_quiet (first | (go_at_call 43; (with_reducible refine (peristyleref10_checkGraph.calls k _ _ l0 _ _ l1 t226 _ ?side1 ?side2 ?side3 ?side4 A3.out).mono ?_); (case side1 => repeat (first | exact HR0.out | (with_reducible refine Kd.C_alloc ?_ _) | (with_reducible refine Kd.C_drewN ?_ _) | (with_reducible refine Kd.C_drew ?_))); (case side2 => exact HC0.out); (case side3 => repeat (first | exact HR1.out | (with_reducible refine Kd.C_alloc ?_ _) | (with_reducible refine Kd.C_drewN ?_ _) | (with_reducible refine Kd.C_drew ?_))); (case side4 => exact HC1.out); rintro e w14 ⟨rfl, hb⟩; have n0_ := Aside0.mk (below_step s7q25 hb); clear HB; have HB := n0_; clear n0_; (try clear hb); (try clear hb2); (try clear hk); (try clear hi))); try go_wp2_with (first | (go_at_call 43; (with_reducible refine (peristyleref10_checkGraph.calls k _ _ l0 _ _ l1 t226 _ ?side1 ?side2 ?side3 ?side4 A3.out).mono ?_); (case side1 => repeat (first | exact HR0.out | (with_reducible refine Kd.C_alloc ?_ _) | (with_reducible refine Kd.C_drewN ?_ _) | (with_reducible refine Kd.C_drew ?_))); (case side2 => exact HC0.out); (case side3 => repeat (first | exact HR1.out | (with_reducible refine Kd.C_alloc ?_ _) | (with_reducible refine Kd.C_drewN ?_ _) | (with_reducible refine Kd.C_drew ?_))); (case side4 => exact HC1.out); rintro e w14 ⟨rfl, hb⟩; have n0_ := Aside0.mk (below_step s7q25 hb); clear HB; have HB := n0_; clear n0_; (try clear hb); (try clear hb2); (try clear hk); (try clear hi))))
  go_ret3
  exact ⟨_, by first | rfl | (simp [errW_none, errW_some] <;> rfl) | (simp [*, errW_none, errW_some] <;> rfl), Kd.V_nil _ _ _ _ _, by repeat (first | (with_reducible first | exact HB.out | apply below_alloc | apply pw_below_drewN | apply below_drew1) | exact HB.out)⟩
 rw [if_pos c4] at H
 have c4b0 : (t226 == 0) = true := beq_iff_eq.mpr c4
 have c4b1 : (t226 != 0) = false := bne_eq_false_iff_eq.mpr c4
 clear c4
 replace H := Option.bind_eq_some_iff.mp H
 obtain ⟨t227, A50, H⟩ := H
 replace H : (if 0 ≤ (wrap64 ((t227.length : Int) - 1)) then (if (wrap64 ((t227.length : Int) - 1)) < (t227.length : Int) then (some ((rd_T85 t227 (wrap64 ((t227.length : Int) - 1))).f1, (rd_T85 t227 (wrap64 ((t227.length : Int) - 1))).f0, 0)) else (none)) else (none)) = some (r1, r2, r3) := H
 have A5 := Aside0.mk A50
 clear A50
 obtain ⟨ji6, hji6⟩ : ∃ j_ : Int, (wrap64 ((t227.length : Int) - 1)) = j_ := ⟨_, rfl⟩
 replace H : (if 0 ≤ (ji6) then (if (ji6) < (t227.length : Int) then (some ((rd_T85 t227 (ji6)).f1, (rd_T85 t227 (ji6)).f0, 0)) else (none)) else (none)) = some (r1, r2, r3) := by first | (rw [hji6] at H; exact H) | (simp only [hji6] at H ⊢; exact H)
 (try rw [hji6] at A3)
 (try rw [hji6] at A5)
 have hji6w : (IntKind.i64.wrap ((t227.length : Int) - 1)) = ji6 := (i64_w _).trans hji6
 by_cases c7 : 0 ≤ (ji6)
 case neg =>
  rw [if_neg c7] at H
  exact absurd H s7q0
 rw [if_pos c7] at H
 have c7b0 : decide (0 ≤ (ji6)) = true := decide_eq_true c7
 clear c7
 by_cases c8 : (ji6) < (t227.length : Int)
 case neg =>
  rw [if_neg c8] at H
  exact absurd H s7q0
 rw [if_pos c8] at H
 have c8b0 : decide ((ji6) < (t227.length : Int)) = true := decide_eq_true c8
 clear c8
 simp only [Option.some.injEq, Prod.mk.injEq] at H
 obtain ⟨rfl, rfl, rfl⟩ := H
 go_enter Tryd.func18, Tryd.ntmps18
 go_wp2_with (first | (go_at_call 43; (with_reducible refine (peristyleref10_checkGraph.calls k _ _ l0 _ _ l1 t226 _ ?side1 ?side2 ?side3 ?side4 A3.out).mono ?_); (case side1 => repeat (first | exact HR0.out | (with_reducible refine Kd.C_alloc ?_ _) | (with_reducible refine Kd.C_drewN ?_ _) | (with_reducible refine Kd.C_drew ?_))); (case side2 => exact HC0.out); (case side3 => repeat (first | exact HR1.out | (with_reducible refine Kd.C_alloc ?_ _) | (with_reducible refine Kd.C_drewN ?_ _) | (with_reducible refine Kd.C_drew ?_))); (case side4 => exact HC1.out); rintro e w9 ⟨rfl, hb⟩; have n0_ := Aside0.mk (below_step s7q25 hb); clear HB; have HB := n0_; clear n0_; (try clear hb); (try clear hb2); (try clear hk); (try clear hi)) | (go_at_call 48; (with_reducible refine (peristyleref10_best.calls k _ _ l0 _ _ l1 t227 _ ?side1 ?side2 ?side3 ?side4 A5.out).mono ?_); (case side1 => repeat (first | exact (Kd.C_below HR0.out HB.out) | (with_reducible refine Kd.C_alloc ?_ _) | (with_reducible refine Kd.C_drewN ?_ _) | (with_reducible refine Kd.C_drew ?_))); (case side2 => exact HC0.out); (case side3 => repeat (first | exact (Kd.C_below HR1.out HB.out) | (with_reducible refine Kd.C_alloc ?_ _) | (with_reducible refine Kd.C_drewN ?_ _) | (with_reducible refine Kd.C_drew ?_))); (case side4 => exact HC1.out); rintro e w10 ⟨v228, rfl, ho0, hb⟩; have n0_ := Aside0.mk (Kd.N_lower (Kd.N_mono (ok' := fun k_ => (w.heap.size ≤ k_)) ho0 (fun k_ hk_ => (Nat.le_trans (below_size s7q25) hk_))) (below_size s7q25)); have n1_ := Aside0.mk (below_step s7q25 hb); clear HB; have HO229 := n0_; have HB := n1_; clear n0_ n1_; (try clear hb); (try clear hb2); (try clear hk); (try clear hi); (try clear ho0); obtain ⟨Ao11, co11, eo11⟩ := Kd.N_slice HO229.out; subst eo11; have p230 : 0 ≤ ((ji6) : Int) := of_decide_eq_true s7q10; have q230 : (ji6) < (t227.length : Int) := of_decide_eq_true s7q10; obtain ⟨ad230, A230_1, c230_1, e230, hx230_0, hx230_1, hx230_2, hl230_1, hi230_1⟩ := at_T85 (Kd.N_reads' HO229.out).2.2 (ji6) p230 q230; cases e230; obtain ⟨ce230, hce230, hMe230, hcc230⟩ := Kd.N_get HO229.out z85 (ji6) p230 s7q48; obtain ⟨ua230_1, uc230_1, rfl, ul230_1, ge230_1⟩ := k85_openF hMe230; have hv230_1 := hcc230 1 _ rfl; rw [add_field _ _ 1 s7q1] at hv230_1; replace hv230_1 := Option.some.inj (hv230_1.symm.trans hx230_1); injection hv230_1 with hva_ hvn_ hvc_; rw [hva_] at ge230_1; rw [hvc_] at ul230_1; have HL230_1 := Aside0.mk (show Kd.V (Kd.int .i64) 3 _ w.heap.size _ _ ((rd_T85 t227 (ji6)).f1) from Kd.V_mk ul230_1 ge230_1); clear hva_ hvn_ hvc_ ge230_1 ul230_1; clear hcc230 hce230; have HR230_1 := Aside0.mk hi230_1; have HC230_1 := Aside0.mk hl230_1; clear hi230_1 hl230_1; replace p230 := eq_true p230; replace q230 := eq_true q230) | ((with_reducible refine gate_dst (N := 9) rfl ?_); refine box_event ?hg (N := 9) ?hd (cs := #[.int .i64 0, .slice none 0 0, .bool false]) (t := 85) ?hr ?_; (case hd => rfl); (case hg => rfl); (case hr => first | (go_simp; done) | (go_simp; rfl)); intro gb231 hg w12 hbox hb; have n0_ := Aside0.mk (Kd.N_below (Kd.N_elderB s7q15 gb231 (Nat.le_of_eq hg.symm)) hb); have n1_ := Aside0.mk (Kd.V_below (Kd.V_elderB s7q23 gb231 (Nat.le_of_eq hg.symm)) hb); have n2_ := Aside0.mk (Kd.C_below s7q32 hb); have n3_ := Aside0.mk (below_step s7q25 hb); have n4_ := Aside0.mk (hbox); have n5_ := Aside0.mk ((s7q53 : w.heap.size ≤ gb231)); have n6_ := Aside0.mk ((s7q53 : w.heap.size ≤ gb231)); clear HO229; clear HL230_1; clear HR230_1; clear HB; have HO229 := n0_; have HL230_1 := n1_; have HR230_1 := n2_; have HB := n3_; have BK231 := n4_; have GW231 := n5_; have GE231 := n6_; clear n0_ n1_ n2_ n3_ n4_ n5_ n6_; clear hb hbox hg; have hcz13_0 : w12.cell? ⟨gb231, 0, none⟩ = some (.int .i64 0) := (blk_cell BK231.out 0).trans rfl; have hcz13_1 : w12.cell? ⟨gb231, 1, none⟩ = some (.slice none 0 0) := (blk_cell BK231.out 1).trans rfl; have hcz13_2 : w12.cell? ⟨gb231, 2, none⟩ = some (.bool false) := (blk_cell BK231.out 2).trans rfl; have hfz13_0 := blk_frozen BK231.out 0; have hfz13_1 := blk_frozen BK231.out 1; have hfz13_2 := blk_frozen BK231.out 2))
 repeat (go_quiet (first | (go_at_call 43; (with_reducible refine (peristyleref10_checkGraph.calls k _ _ l0 _ _ l1 t226 _ ?side1 ?side2 ?side3 ?side4 A3.out).mono ?_); (case side1 => repeat (first | exact HR0.out | (with_reducible refine Kd.C_alloc ?_ _) | (with_reducible refine Kd.C_drewN ?_ _) | (with_reducible refine Kd.C_drew ?_))); (case side2 => exact HC0.out); (case side3 => repeat (first | exact HR1.out | (with_reducible refine Kd.C_alloc ?_ _) | (with_reducible refine Kd.C_drewN ?_ _) | (with_reducible refine Kd.C_drew ?_))); (case side4 => exact HC1.out); rintro e w9 ⟨rfl, hb⟩; have n0_ := Aside0.mk (below_step s7q25 hb); clear HB; have HB := n0_; clear n0_; (try clear hb); (try clear hb2); (try clear hk); (try clear hi)) | (go_at_call 48; (with_reducible refine (peristyleref10_best.calls k _ _ l0 _ _ l1 t227 _ ?side1 ?side2 ?side3 ?side4 A5.out).mono ?_); (case side1 => repeat (first | exact (Kd.C_below HR0.out HB.out) | (with_reducible refine Kd.C_alloc ?_ _) | (with_reducible refine Kd.C_drewN ?_ _) | (with_reducible refine Kd.C_drew ?_))); (case side2 => exact HC0.out); (case side3 => repeat (first | exact (Kd.C_below HR1.out HB.out) | (with_reducible refine Kd.C_alloc ?_ _) | (with_reducible refine Kd.C_drewN ?_ _) | (with_reducible refine Kd.C_drew ?_))); (case side4 => exact HC1.out); rintro e w10 ⟨v228, rfl, ho0, hb⟩; have n0_ := Aside0.mk (Kd.N_lower (Kd.N_mono (ok' := fun k_ => (w.heap.size ≤ k_)) ho0 (fun k_ hk_ => (Nat.le_trans (below_size s7q25) hk_))) (below_size s7q25)); have n1_ := Aside0.mk (below_step s7q25 hb); clear HB; have HO229 := n0_; have HB := n1_; clear n0_ n1_; (try clear hb); (try clear hb2); (try clear hk); (try clear hi); (try clear ho0); obtain ⟨Ao11, co11, eo11⟩ := Kd.N_slice HO229.out; subst eo11; have p230 : 0 ≤ ((ji6) : Int) := of_decide_eq_true s7q10; have q230 : (ji6) < (t227.length : Int) := of_decide_eq_true s7q10; obtain ⟨ad230, A230_1, c230_1, e230, hx230_0, hx230_1, hx230_2, hl230_1, hi230_1⟩ := at_T85 (Kd.N_reads' HO229.out).2.2 (ji6) p230 q230; cases e230; obtain ⟨ce230, hce230, hMe230, hcc230⟩ := Kd.N_get HO229.out z85 (ji6) p230 s7q48; obtain ⟨ua230_1, uc230_1, rfl, ul230_1, ge230_1⟩ := k85_openF hMe230; have hv230_1 := hcc230 1 _ rfl; rw [add_field _ _ 1 s7q1] at hv230_1; replace hv230_1 := Option.some.inj (hv230_1.symm.trans hx230_1); injection hv230_1 with hva_ hvn_ hvc_; rw [hva_] at ge230_1; rw [hvc_] at ul230_1; have HL230_1 := Aside0.mk (show Kd.V (Kd.int .i64) 3 _ w.heap.size _ _ ((rd_T85 t227 (ji6)).f1) from Kd.V_mk ul230_1 ge230_1); clear hva_ hvn_ hvc_ ge230_1 ul230_1; clear hcc230 hce230; have HR230_1 := Aside0.mk hi230_1; have HC230_1 := Aside0.mk hl230_1; clear hi230_1 hl230_1; replace p230 := eq_true p230; replace q230 := eq_true q230) | ((with_reducible refine gate_dst (N := 9) rfl ?_); refine box_event ?hg (N := 9) ?hd (cs := #[.int .i64 0, .slice none 0 0, .bool false]) (t := 85) ?hr ?_; (case hd => rfl); (case hg => rfl); (case hr => first | (go_simp; done) | (go_simp; rfl)); intro gb231 hg w12 hbox hb; have n0_ := Aside0.mk (Kd.N_below (Kd.N_elderB s7q15 gb231 (Nat.le_of_eq hg.symm)) hb); have n1_ := Aside0.mk (Kd.V_below (Kd.V_elderB s7q23 gb231 (Nat.le_of_eq hg.symm)) hb); have n2_ := Aside0.mk (Kd.C_below s7q32 hb); have n3_ := Aside0.mk (below_step s7q25 hb); have n4_ := Aside0.mk (hbox); have n5_ := Aside0.mk ((s7q53 : w.heap.size ≤ gb231)); have n6_ := Aside0.mk ((s7q53 : w.heap.size ≤ gb231)); clear HO229; clear HL230_1; clear HR230_1; clear HB; have HO229 := n0_; have HL230_1 := n1_; have HR230_1 := n2_; have HB := n3_; have BK231 := n4_; have GW231 := n5_; have GE231 := n6_; clear n0_ n1_ n2_ n3_ n4_ n5_ n6_; clear hb hbox hg; have hcz13_0 : w12.cell? ⟨gb231, 0, none⟩ = some (.int .i64 0) := (blk_cell BK231.out 0).trans rfl; have hcz13_1 : w12.cell? ⟨gb231, 1, none⟩ = some (.slice none 0 0) := (blk_cell BK231.out 1).trans rfl; have hcz13_2 : w12.cell? ⟨gb231, 2, none⟩ = some (.bool false) := (blk_cell BK231.out 2).trans rfl; have hfz13_0 := blk_frozen BK231.out 0; have hfz13_1 := blk_frozen BK231.out 1; have hfz13_2 := blk_frozen BK231.out 2)); try go_wp2_with (first | (go_at_call 43; (with_reducible refine (peristyleref10_checkGraph.calls k _ _ l0 _ _ l1 t226 _ ?side1 ?side2 ?side3 ?side4 A3.out).mono ?_); (case side1 => repeat (first | exact HR0.out | (with_reducible refine Kd.C_alloc ?_ _) | (with_reducible refine Kd.C_drewN ?_ _) | (with_reducible refine Kd.C_drew ?_))); (case side2 => exact HC0.out); (case side3 => repeat (first | exact HR1.out | (with_reducible refine Kd.C_alloc ?_ _) | (with_reducible refine Kd.C_drewN ?_ _) | (with_reducible refine Kd.C_drew ?_))); (case side4 => exact HC1.out); rintro e w9 ⟨rfl, hb⟩; have n0_ := Aside0.mk (below_step s7q25 hb); clear HB; have HB := n0_; clear n0_; (try clear hb); (try clear hb2); (try clear hk); (try clear hi)) | (go_at_call 48; (with_reducible refine (peristyleref10_best.calls k _ _ l0 _ _ l1 t227 _ ?side1 ?side2 ?side3 ?side4 A5.out).mono ?_); (case side1 => repeat (first | exact (Kd.C_below HR0.out HB.out) | (with_reducible refine Kd.C_alloc ?_ _) | (with_reducible refine Kd.C_drewN ?_ _) | (with_reducible refine Kd.C_drew ?_))); (case side2 => exact HC0.out); (case side3 => repeat (first | exact (Kd.C_below HR1.out HB.out) | (with_reducible refine Kd.C_alloc ?_ _) | (with_reducible refine Kd.C_drewN ?_ _) | (with_reducible refine Kd.C_drew ?_))); (case side4 => exact HC1.out); rintro e w10 ⟨v228, rfl, ho0, hb⟩; have n0_ := Aside0.mk (Kd.N_lower (Kd.N_mono (ok' := fun k_ => (w.heap.size ≤ k_)) ho0 (fun k_ hk_ => (Nat.le_trans (below_size s7q25) hk_))) (below_size s7q25)); have n1_ := Aside0.mk (below_step s7q25 hb); clear HB; have HO229 := n0_; have HB := n1_; clear n0_ n1_; (try clear hb); (try clear hb2); (try clear hk); (try clear hi); (try clear ho0); obtain ⟨Ao11, co11, eo11⟩ := Kd.N_slice HO229.out; subst eo11; have p230 : 0 ≤ ((ji6) : Int) := of_decide_eq_true s7q10; have q230 : (ji6) < (t227.length : Int) := of_decide_eq_true s7q10; obtain ⟨ad230, A230_1, c230_1, e230, hx230_0, hx230_1, hx230_2, hl230_1, hi230_1⟩ := at_T85 (Kd.N_reads' HO229.out).2.2 (ji6) p230 q230; cases e230; obtain ⟨ce230, hce230, hMe230, hcc230⟩ := Kd.N_get HO229.out z85 (ji6) p230 s7q48; obtain ⟨ua230_1, uc230_1, rfl, ul230_1, ge230_1⟩ := k85_openF hMe230; have hv230_1 := hcc230 1 _ rfl; rw [add_field _ _ 1 s7q1] at hv230_1; replace hv230_1 := Option.some.inj (hv230_1.symm.trans hx230_1); injection hv230_1 with hva_ hvn_ hvc_; rw [hva_] at ge230_1; rw [hvc_] at ul230_1; have HL230_1 := Aside0.mk (show Kd.V (Kd.int .i64) 3 _ w.heap.size _ _ ((rd_T85 t227 (ji6)).f1) from Kd.V_mk ul230_1 ge230_1); clear hva_ hvn_ hvc_ ge230_1 ul230_1; clear hcc230 hce230; have HR230_1 := Aside0.mk hi230_1; have HC230_1 := Aside0.mk hl230_1; clear hi230_1 hl230_1; replace p230 := eq_true p230; replace q230 := eq_true q230) | ((with_reducible refine gate_dst (N := 9) rfl ?_); refine box_event ?hg (N := 9) ?hd (cs := #[.int .i64 0, .slice none 0 0, .bool false]) (t := 85) ?hr ?_; (case hd => rfl); (case hg => rfl); (case hr => first | (go_simp; done) | (go_simp; rfl)); intro gb231 hg w12 hbox hb; have n0_ := Aside0.mk (Kd.N_below (Kd.N_elderB s7q15 gb231 (Nat.le_of_eq hg.symm)) hb); have n1_ := Aside0.mk (Kd.V_below (Kd.V_elderB s7q23 gb231 (Nat.le_of_eq hg.symm)) hb); have n2_ := Aside0.mk (Kd.C_below s7q32 hb); have n3_ := Aside0.mk (below_step s7q25 hb); have n4_ := Aside0.mk (hbox); have n5_ := Aside0.mk ((s7q53 : w.heap.size ≤ gb231)); have n6_ := Aside0.mk ((s7q53 : w.heap.size ≤ gb231)); clear HO229; clear HL230_1; clear HR230_1; clear HB; have HO229 := n0_; have HL230_1 := n1_; have HR230_1 := n2_; have HB := n3_; have BK231 := n4_; have GW231 := n5_; have GE231 := n6_; clear n0_ n1_ n2_ n3_ n4_ n5_ n6_; clear hb hbox hg; have hcz13_0 : w12.cell? ⟨gb231, 0, none⟩ = some (.int .i64 0) := (blk_cell BK231.out 0).trans rfl; have hcz13_1 : w12.cell? ⟨gb231, 1, none⟩ = some (.slice none 0 0) := (blk_cell BK231.out 1).trans rfl; have hcz13_2 : w12.cell? ⟨gb231, 2, none⟩ = some (.bool false) := (blk_cell BK231.out 2).trans rfl; have hfz13_0 := blk_frozen BK231.out 0; have hfz13_1 := blk_frozen BK231.out 1; have hfz13_2 := blk_frozen BK231.out 2)))
 go_ret3
 exact ⟨_, by first | rfl | (simp [errW_none, errW_some] <;> rfl) | (simp only [← hji6]; first | rfl | (simp [errW_none, errW_some] <;> rfl)) | (simp [*, errW_none, errW_some] <;> rfl), by (with_reducible repeat (first | apply Kd.V_alloc | apply Kd.V_drewN | apply Kd.V_drew)); exact Kd.V_mono (Kd.V_far (p := ⟨gb231, 2, none⟩) (Kd.V_far (p := ⟨gb231, 1, none⟩) (Kd.V_far (p := ⟨gb231, 0, none⟩) (Kd.V_mono HL230_1.out (fun k_ hk => (⟨hk, hk.2⟩ : _ ∧ k_ ≠ gb231))) (fun _ hk => hk.2) (.int .i64 ((rd_T85 t227 (ji6)).f0))) (fun _ hk => hk.2) (.slice A230_1 ((rd_T85 t227 (ji6)).f1).length c230_1)) (fun _ hk => hk.2) (.bool ((rd_T85 t227 (ji6)).f2))) (fun _ hk => hk.1.1.1), by repeat (first | (with_reducible first | exact HB.out | apply below_alloc | apply pw_below_drewN | apply below_drew1 | refine below_set ?_ GE231.out) | exact HB.out)⟩
/-! ### cost_BestLine: function 20 -/
mutual
def cost_BestLine.l0 : Nat → List Int → List (S75) → List (S80) → Int → Option (List Int × Int × Int)
  | 0, _, _, _, _ => none
  | k + 1, x0, x1, x8, x9 => if x9 < (x8.length : Int) then (if (Go.bits .and .i64 x9 (wrap64 (x9 - 1))) = 0 then ((bits_TrailingZeros.f (IntKind.u64.wrap (x9))).bind fun t238 => ((some (([t238] : List Int) : List Int)).bind fun y239 => (if 0 ≤ x9 then (if (y239.length : Int) = 0 then (none) else (cost_BestLine.l0 k x0 x1 (x8.set (x9 : Int).toNat (⟨y239, (rd_T80 x8 x9).f1⟩ : S80)) (wrap64 (x9 + 1)))) else (none)))) else ((cost_size.f k x0 x1 x9).bind fun t243 => (cost_BestLine.l1 k x0 x1 x8 x9 t243 (x0.length : Int) 0))) else (if 0 ≤ (wrap64 ((x8.length : Int) - 1)) then (if (wrap64 ((x8.length : Int) - 1)) < (x8.length : Int) then (some ((rd_T80 x8 (wrap64 ((x8.length : Int) - 1))).f0, (rd_T80 x8 (wrap64 ((x8.length : Int) - 1))).f1, 0)) else (none)) else (none))
def cost_BestLine.l1 : Nat → List Int → List (S75) → List (S80) → Int → Int → Int → Int → Option (List Int × Int × Int)
  | 0, _, _, _, _, _, _, _ => none
  | k + 1, x0, x1, x8, x9, x10, x49, x50 => if x50 < x49 then (if 0 ≤ x50 then (if (Go.bits .and .i64 (shr .i64 x9 x50) 1) = 0 then (cost_BestLine.l1 k x0 x1 x8 x9 x10 x49 (wrap64 (x50 + 1))) else (if 0 ≤ (Go.bits .andNot .i64 x9 (shl .i64 1 x50)) then (if (Go.bits .andNot .i64 x9 (shl .i64 1 x50)) < (x8.length : Int) then (if 0 ≤ x9 then (if x9 < (x8.length : Int) then (if (((rd_T80 x8 x9).f0).length : Int) = 0 then ((cost_joined.f k ((rd_T80 x8 (Go.bits .andNot .i64 x9 (shl .i64 1 x50))).f0) (([x50] : List Int))).bind fun t250 => (if (t250.length : Int) = 0 then (none) else (cost_BestLine.l1 k x0 x1 (x8.set (x9 : Int).toNat (⟨t250, mn 1000000000000000 (wrap64 (((rd_T80 x8 (Go.bits .andNot .i64 x9 (shl .i64 1 x50))).f1) + x10))⟩ : S80)) x9 x10 x49 (wrap64 (x50 + 1))))) else (if (mn 1000000000000000 (wrap64 (((rd_T80 x8 (Go.bits .andNot .i64 x9 (shl .i64 1 x50))).f1) + x10))) < ((rd_T80 x8 x9).f1) then ((cost_joined.f k ((rd_T80 x8 (Go.bits .andNot .i64 x9 (shl .i64 1 x50))).f0) (([x50] : List Int))).bind fun t258 => (if (t258.length : Int) = 0 then (none) else (cost_BestLine.l1 k x0 x1 (x8.set (x9 : Int).toNat (⟨t258, mn 1000000000000000 (wrap64 (((rd_T80 x8 (Go.bits .andNot .i64 x9 (shl .i64 1 x50))).f1) + x10))⟩ : S80)) x9 x10 x49 (wrap64 (x50 + 1))))) else (cost_BestLine.l1 k x0 x1 x8 x9 x10 x49 (wrap64 (x50 + 1))))) else (none)) else (none)) else (none)) else (none))) else (none)) else (cost_BestLine.l0 k x0 x1 x8 (wrap64 (x9 + 1)))
end
def cost_BestLine.f (k : Nat) (l0 : List Int) (l1 : List (S75)) : Option (List Int × Int × Int) := (cost_checkRelations.f k l0 l1).bind fun t232 => (if t232 = 0 then (if 0 ≤ (shl .i64 1 (l0.length : Int)) then (if (shl .i64 1 (l0.length : Int) : Int).toNat ≤ 8796093022208 then (cost_BestLine.l0 k l0 l1 (List.replicate (shl .i64 1 (l0.length : Int) : Int).toNat z80) 1) else (none)) else (none)) else (some (([] : List Int), 0, t232)))
theorem cost_BestLine.mono_l : ∀ k, (∀ y0 y1 y2 y3, LeO (cost_BestLine.l0 k y0 y1 y2 y3) (cost_BestLine.l0 (k + 1) y0 y1 y2 y3)) ∧ (∀ y0 y1 y2 y3 y4 y5 y6, LeO (cost_BestLine.l1 k y0 y1 y2 y3 y4 y5 y6) (cost_BestLine.l1 (k + 1) y0 y1 y2 y3 y4 y5 y6))
  | 0 => ⟨fun _ _ _ _ r h => by simp [cost_BestLine.l0] at h, fun _ _ _ _ _ _ _ r h => by simp [cost_BestLine.l1] at h⟩
  | k + 1 => by
    obtain ⟨ih0, ih1⟩ := cost_BestLine.mono_l k
    refine ⟨?_, ?_⟩
    · intro y0 y1 y2 y3
      unfold cost_BestLine.l0
      exact s7qm0
    · intro y0 y1 y2 y3 y4 y5 y6
      unfold cost_BestLine.l1
      exact s7qm0
theorem cost_BestLine.mono : ∀ a0 a1 k, LeO (cost_BestLine.f k a0 a1) (cost_BestLine.f (k + 1) a0 a1) := by
 intro a0 a1 k
 obtain ⟨ih0, ih1⟩ := cost_BestLine.mono_l k
 unfold cost_BestLine.f
 repeat' first
  | (with_reducible exact ih0 _ _ _ _)
  | (with_reducible exact ih1 _ _ _ _ _ _ _)
  | (with_reducible exact cost_checkRelations.mono _ _ _)
  | (with_reducible exact cost_joined.mono _ _ _)
  | (with_reducible exact cost_size.mono _ _ _ _)
  | (with_reducible exact LeO.refl _)
  | (with_reducible exact LeO.none _)
  | (with_reducible refine LeO.ite ?_ ?_)
  | (with_reducible refine LeO.bind ?_ (fun _ => ?_))
  | exact ih0 _ _ _ _
  | exact ih1 _ _ _ _ _ _ _
  | exact cost_checkRelations.mono _ _ _
  | exact cost_joined.mono _ _ _
  | exact cost_size.mono _ _ _ _
  | exact LeO.none _
  | refine LeO.ite ?_ ?_
  | refine LeO.bind ?_ (fun _ => ?_)
set_option maxHeartbeats 8000000 in
set_option maxRecDepth 100000 in
theorem cost_BestLine.calls (k : Nat) (A0 : Option Addr) (c0 : Nat) (l0 : List Int) (A1 : Option Addr) (c1 : Nat) (l1 : List (S75)) (r1 : List Int) (r2 : Int) (r3 : Int) (w : World) (hr0 : Kd.C (Kd.int .i64) w A0 l0.length l0) (hc0 : l0.length ≤ c0) (hr1 : Kd.C k75 w A1 l1.length l1) (hc1 : l1.length ≤ c1) (hG : Glob w) (h : cost_BestLine.f k l0 l1 = some (r1, r2, r3)) :
    Calls Tryd.prog 20 #[.slice A0 l0.length c0, .slice A1 l1.length c1] w fun e w' => ∃ v0_ : Value, e = .returned (.tuple #[v0_, .int .i64 r2, .int .i64 r3]) ∧ Kd.R (Kd.int .i64) 3 w' w.heap.size (fun _ => True) v0_ r1 ∧ Below w.heap.size w w' := by
 have hnileql22 := fun (W : World) (a : Option Addr) (n c : Nat) => run_eql_nil (P := Tryd.prog) W 22 3 a n c Tryd.underlying22
 have hu80 := Tryd.underlying80
 have HG := Aside0.mk hG
 clear hG
 have HR0 := Aside0.mk hr0
 have HC0 := Aside0.mk hc0
 clear hr0 hc0
 have HR1 := Aside0.mk hr1
 have HC1 := Aside0.mk hc1
 clear hr1 hc1
 have HB := Aside0.mk (Below.refl w.heap.size w)
 have H : ((cost_checkRelations.f k l0 l1).bind fun t232 => (if t232 = 0 then (if 0 ≤ (shl .i64 1 (l0.length : Int)) then (if (shl .i64 1 (l0.length : Int) : Int).toNat ≤ 8796093022208 then (cost_BestLine.l0 k l0 l1 (List.replicate (shl .i64 1 (l0.length : Int) : Int).toNat z80) 1) else (none)) else (none)) else (some (([] : List Int), 0, t232)))) = some (r1, r2, r3) := h
 clear h
 replace H := Option.bind_eq_some_iff.mp H
 obtain ⟨t232, A30, H⟩ := H
 replace H : (if t232 = 0 then (if 0 ≤ (shl .i64 1 (l0.length : Int)) then (if (shl .i64 1 (l0.length : Int) : Int).toNat ≤ 8796093022208 then (cost_BestLine.l0 k l0 l1 (List.replicate (shl .i64 1 (l0.length : Int) : Int).toNat z80) 1) else (none)) else (none)) else (some (([] : List Int), 0, t232))) = some (r1, r2, r3) := H
 have A3 := Aside0.mk A30
 clear A30
 by_cases c4 : t232 = 0
 case neg =>
  rw [if_neg c4] at H
  have c4b0 : (t232 == 0) = false := beq_eq_false_iff_ne.mpr c4
  have c4b1 : (t232 != 0) = true := bne_iff_ne.mpr c4
  simp only [Option.some.injEq, Prod.mk.injEq] at H
  obtain ⟨rfl, rfl, rfl⟩ := H
  go_enter Tryd.func20, Tryd.ntmps20
  go_wp2_with (first | (go_at_call 40; (with_reducible refine (cost_checkRelations.calls k _ _ l0 _ _ l1 t232 _ ?side1 ?side2 ?side3 ?side4 A3.out).mono ?_); (case side1 => repeat (first | exact HR0.out | (with_reducible refine Kd.C_alloc ?_ _) | (with_reducible refine Kd.C_drewN ?_ _) | (with_reducible refine Kd.C_drew ?_))); (case side2 => exact HC0.out); (case side3 => repeat (first | exact HR1.out | (with_reducible refine Kd.C_alloc ?_ _) | (with_reducible refine Kd.C_drewN ?_ _) | (with_reducible refine Kd.C_drew ?_))); (case side4 => exact HC1.out); rintro e w77 ⟨rfl, hb⟩; have n0_ := Aside0.mk (below_step s7q25 hb); clear HB; have HB := n0_; clear n0_; (try clear hb); (try clear hb2); (try clear hk); (try clear hi)))
  repeat (go_quiet (first | (go_at_call 40; (with_reducible refine (cost_checkRelations.calls k _ _ l0 _ _ l1 t232 _ ?side1 ?side2 ?side3 ?side4 A3.out).mono ?_); (case side1 => repeat (first | exact HR0.out | (with_reducible refine Kd.C_alloc ?_ _) | (with_reducible refine Kd.C_drewN ?_ _) | (with_reducible refine Kd.C_drew ?_))); (case side2 => exact HC0.out); (case side3 => repeat (first | exact HR1.out | (with_reducible refine Kd.C_alloc ?_ _) | (with_reducible refine Kd.C_drewN ?_ _) | (with_reducible refine Kd.C_drew ?_))); (case side4 => exact HC1.out); rintro e w77 ⟨rfl, hb⟩; have n0_ := Aside0.mk (below_step s7q25 hb); clear HB; have HB := n0_; clear n0_; (try clear hb); (try clear hb2); (try clear hk); (try clear hi))); try go_wp2_with (first | (go_at_call 40; (with_reducible refine (cost_checkRelations.calls k _ _ l0 _ _ l1 t232 _ ?side1 ?side2 ?side3 ?side4 A3.out).mono ?_); (case side1 => repeat (first | exact HR0.out | (with_reducible refine Kd.C_alloc ?_ _) | (with_reducible refine Kd.C_drewN ?_ _) | (with_reducible refine Kd.C_drew ?_))); (case side2 => exact HC0.out); (case side3 => repeat (first | exact HR1.out | (with_reducible refine Kd.C_alloc ?_ _) | (with_reducible refine Kd.C_drewN ?_ _) | (with_reducible refine Kd.C_drew ?_))); (case side4 => exact HC1.out); rintro e w77 ⟨rfl, hb⟩; have n0_ := Aside0.mk (below_step s7q25 hb); clear HB; have HB := n0_; clear n0_; (try clear hb); (try clear hb2); (try clear hk); (try clear hi))))
  go_ret3
  exact ⟨_, by first | rfl | (simp [errW_none, errW_some] <;> rfl) | (simp [*, errW_none, errW_some] <;> rfl), by first | exact Kd.R_nil _ _ _ _ _ | exact Kd.N_nil _ _ _ _ _ | exact Kd.V_nil _ _ _ _ _ | exact Kd.Q_nil _ _ _ _ _ | exact Kd.S_nil _ _ _ _ _, by repeat (first | (with_reducible first | exact HB.out | apply below_alloc | apply pw_below_drewN | apply below_drew1) | exact HB.out)⟩
 rw [if_pos c4] at H
 have c4b0 : (t232 == 0) = true := beq_iff_eq.mpr c4
 have c4b1 : (t232 != 0) = false := bne_eq_false_iff_eq.mpr c4
 clear c4
 obtain ⟨ji5, hji5⟩ : ∃ j_ : Int, (shl .i64 1 (l0.length : Int)) = j_ := ⟨_, rfl⟩
 replace H : (if 0 ≤ (ji5) then (if (ji5 : Int).toNat ≤ 8796093022208 then (cost_BestLine.l0 k l0 l1 (List.replicate (ji5 : Int).toNat z80) 1) else (none)) else (none)) = some (r1, r2, r3) := by first | (rw [hji5] at H; exact H) | (simp only [hji5] at H ⊢; exact H)
 (try rw [hji5] at A3)
 have hji5_ : (IntKind.i64.wrap (1 * 2 ^ min (l0.length : Int).toNat 64)) = ji5 := hji5
 have hji5z : (l0.length : Int) ≤ 64 → (IntKind.i64.wrap (1 * 2 ^ (l0.length : Int).toNat)) = ji5 := shl_small hji5
 have hji5p : (IntKind.i64.wrap (1 * 2 ^ min l0.length 64)) = ji5 := hji5_
 have hji5q : (l0.length : Int) ≤ 64 → (IntKind.i64.wrap (1 * 2 ^ l0.length)) = ji5 := hji5z
 have hji5r : (IntKind.i64.wrap (2 ^ min l0.length 64)) = ji5 := by have h_ := hji5p; rw [Int.one_mul] at h_; exact h_
 have hji5s : (l0.length : Int) ≤ 64 → (IntKind.i64.wrap (2 ^ l0.length)) = ji5 := fun hle_ => by have h_ := hji5q hle_; rw [Int.one_mul] at h_; exact h_
 have hji5u : (IntKind.i64.wrap (2 ^ min (l0.length : Int).toNat 64)) = ji5 := by have h_ := hji5_; rw [Int.one_mul] at h_; exact h_
 have hji5v : (l0.length : Int) ≤ 64 → (IntKind.i64.wrap (2 ^ (l0.length : Int).toNat)) = ji5 := fun hle_ => by have h_ := hji5z hle_; rw [Int.one_mul] at h_; exact h_
 have hji5y : (wrap64 (1 * 2 ^ min (l0.length : Int).toNat 64)) = ji5 := (i64_w _).symm.trans hji5_
 have hji5x : (l0.length : Int) ≤ 64 → (wrap64 (1 * 2 ^ (l0.length : Int).toNat)) = ji5 := fun h_ => (i64_w _).symm.trans (hji5z h_)
 by_cases c6 : 0 ≤ (ji5)
 case neg =>
  rw [if_neg c6] at H
  exact absurd H s7q0
 rw [if_pos c6] at H
 have c6b0 := eq_true c6
 have c6b1 : decide (0 ≤ (ji5)) = true := decide_eq_true c6
 clear c6
 by_cases c7 : (ji5 : Int).toNat ≤ 8796093022208
 case neg =>
  rw [if_neg c7] at H
  exact absurd H s7q0
 rw [if_pos c7] at H
 have c7b0 := eq_true c7
 have c7b1 : decide ((ji5 : Int).toNat ≤ 8796093022208) = true := decide_eq_true c7
 clear c7
 obtain ⟨y233, hy233⟩ : ∃ y_ : List (S80), y_ = (List.replicate (ji5 : Int).toNat z80) := ⟨_, rfl⟩
 replace H : (cost_BestLine.l0 k l0 l1 y233 1) = some (r1, r2, r3) := sqz hy233 H
 have Ny233 := Aside0.mk hy233
 clear hy233
 have H' := Aside0.mk H
 clear H
 go_enter Tryd.func20, Tryd.ntmps20
 go_wp2_with (first | (go_at_call 40; (with_reducible refine (cost_checkRelations.calls k _ _ l0 _ _ l1 t232 _ ?side1 ?side2 ?side3 ?side4 A3.out).mono ?_); (case side1 => repeat (first | exact HR0.out | (with_reducible refine Kd.C_alloc ?_ _) | (with_reducible refine Kd.C_drewN ?_ _) | (with_reducible refine Kd.C_drew ?_))); (case side2 => exact HC0.out); (case side3 => repeat (first | exact HR1.out | (with_reducible refine Kd.C_alloc ?_ _) | (with_reducible refine Kd.C_drewN ?_ _) | (with_reducible refine Kd.C_drew ?_))); (case side4 => exact HC1.out); rintro e w8 ⟨rfl, hb⟩; have n0_ := Aside0.mk (below_step s7q25 hb); clear HB; have HB := n0_; clear n0_; (try clear hb); (try clear hb2); (try clear hk); (try clear hi)) | ((with_reducible refine gate_dst (N := 24) rfl ?_); refine Kd.S_make k80 _ 80 rfl (N := 24) rfl 76 _ _ rfl ji5 rfl rfl Tryd.underlying76 (.agg #[(.slice none 0 0), (.int .i64 0)]) 32 info80 rfl s7q2 s7q1 z80 (ok := fun _ => True) (okp := fun _ => True) (k80_mkM _ _ _ z80 (Kd.R_nil _ _ _ _ _)) (fun _ hk => hk) trivial (of_decide_eq_true s7q10) (Nat.le_trans (Nat.mul_le_mul_right _ (of_decide_eq_true s7q10 : ji5.toNat ≤ 8796093022208)) s7q1) (Below.refl _ _) (Nat.le_refl _) ?_; intro v234 w9 ho10 hb hg_ hnew_; clear hg_ hnew_; (first | rw [← Ny233.out] at ho10 | (simp only [Int.reduceToNat] at ho10; rw [← Ny233.out] at ho10)); have n0_ := Aside0.mk (Kd.S_lower ho10 (below_size s7q25)); have n1_ := Aside0.mk (below_step s7q25 hb); clear HB; have HO235 := n0_; have HB := n1_; clear n0_ n1_; clear hb ho10))
 go_loopg [9] k (fun kq v9 w' => ∃ (x8_1 : List (S80)) (x9_1 : Int), v9 = .int .i64 x9_1 ∧ Aside0 (cost_BestLine.l0 kq l0 l1 x8_1 x9_1 = some (r1, r2, r3)) ∧ Aside0 (kq ≤ k) ∧ Aside0 (Kd.S k80 80 w' w.heap.size (fun _ => True) v234 x8_1) ∧ Aside0 (Below w.heap.size w w'))
 case atStart => exact ⟨(y233), (1), s7q9, H', ⟨Nat.le_refl _⟩, ⟨by (with_reducible repeat (first | apply Kd.S_alloc | apply Kd.S_drewN | apply Kd.S_drew)); exact HO235.out⟩, ⟨by repeat (first | (with_reducible first | exact HB.out | apply below_alloc | apply pw_below_drewN | apply below_drew1) | exact HB.out)⟩⟩
 clear H'
 try clear c1
 try clear c2
 try clear p2
 try clear c4
 try clear c4b0
 try clear c4b1
 try clear c6
 try clear c6b0
 try clear c6b1
 try clear p6
 try clear c7
 try clear c7b0
 try clear c7b1
 obtain ⟨x8_1, x9_1, rfl, HA, HK1, HO_8, HB⟩ := hrel
 cases gk with
 | zero => exact absurd HA.out (by simp [cost_BestLine.l0])
 | succ k1 => ?_
 have H := HA.out
 clear HA
 simp only [cost_BestLine.l0] at H
 by_cases c11 : x9_1 < (x8_1.length : Int)
 case neg =>
  rw [if_neg c11] at H
  have c11b0 : decide (x9_1 < (x8_1.length : Int)) = false := decide_eq_false c11
  clear c11
  obtain ⟨ji71, hji71⟩ : ∃ j_ : Int, (wrap64 ((x8_1.length : Int) - 1)) = j_ := ⟨_, rfl⟩
  replace H : (if 0 ≤ (ji71) then (if (ji71) < (x8_1.length : Int) then (some ((rd_T80 x8_1 (ji71)).f0, (rd_T80 x8_1 (ji71)).f1, 0)) else (none)) else (none)) = some (r1, r2, r3) := by first | (rw [hji71] at H; exact H) | (simp only [hji71] at H ⊢; exact H)
  have hji71w : (IntKind.i64.wrap ((x8_1.length : Int) - 1)) = ji71 := (i64_w _).trans hji71
  by_cases c72 : 0 ≤ (ji71)
  case neg =>
   rw [if_neg c72] at H
   exact absurd H s7q0
  rw [if_pos c72] at H
  have c72b0 : decide (0 ≤ (ji71)) = true := decide_eq_true c72
  clear c72
  by_cases c73 : (ji71) < (x8_1.length : Int)
  case neg =>
   rw [if_neg c73] at H
   exact absurd H s7q0
  rw [if_pos c73] at H
  have c73b0 : decide ((ji71) < (x8_1.length : Int)) = true := decide_eq_true c73
  clear c73
  simp only [Option.some.injEq, Prod.mk.injEq] at H
  obtain ⟨rfl, rfl, rfl⟩ := H
  obtain ⟨Ao74, co74, eo74⟩ := Kd.S_slice HO_8.out
  subst eo74
  have p236 : 0 ≤ ((ji71) : Int) := of_decide_eq_true s7q10
  have q236 : (ji71) < (x8_1.length : Int) := of_decide_eq_true s7q10
  obtain ⟨ad236, A236_0, c236_0, e236, hx236_0, hx236_1, hl236_0, hi236_0⟩ := at_T80 (Kd.S_reads' HO_8.out).2.2 (ji71) p236 q236
  have hnl236_0 := at_T80_nil0 (Kd.S_reads' HO_8.out).2.2 (ji71) p236 q236 e236 hx236_0
  cases e236
  obtain ⟨ce236, hce236, hMe236, hcc236⟩ := Kd.S_get HO_8.out z80 (ji71) p236 (by first | exact q236 | exact of_decide_eq_true s7q10 | (have e_ := (Kd.S_reads' HO_8.out).1; omega))
  obtain ⟨ve236_0, rfl, ge236_0⟩ := k80_openM hMe236
  have hv236_0 := hcc236 0 _ rfl
  rw [Nat.add_zero] at hv236_0
  replace hv236_0 := Option.some.inj (hv236_0.symm.trans hx236_0)
  rw [hv236_0] at ge236_0
  have HL236_0 := Aside0.mk (show Kd.R (Kd.int .i64) 3 _ _ _ _ ((rd_T80 x8_1 (ji71)).f0) from ge236_0)
  clear hv236_0 ge236_0
  clear hcc236 hce236
  have HR236_0 := Aside0.mk hi236_0
  have HC236_0 := Aside0.mk hl236_0
  clear hi236_0 hl236_0
  replace p236 := eq_true p236
  replace q236 := eq_true q236
  go_wp2_with (first | ((with_reducible refine gate_dst (N := 14) rfl ?_); refine box_event ?hg (N := 14) ?hd (cs := #[.slice none 0 0, .int .i64 0]) (t := 80) ?hr ?_; (case hd => rfl); (case hg => rfl); (case hr => first | (go_simp; done) | (go_simp; rfl)); intro gb237 hg w75 hbox hb; have n0_ := Aside0.mk (Kd.S_below (Kd.S_elderB s7q14 gb237 (Nat.le_of_eq hg.symm)) hb); have n1_ := Aside0.mk (Kd.R_below s7q19 hb); have n2_ := Aside0.mk (Kd.C_below s7q33 hb); have n3_ := Aside0.mk (below_step s7q25 hb); have n4_ := Aside0.mk (hbox); have n5_ := Aside0.mk ((s7q53 : w.heap.size ≤ gb237)); have n6_ := Aside0.mk ((s7q53 : w.heap.size ≤ gb237)); clear HO_8; clear HL236_0; clear HR236_0; clear HB; have HO_8 := n0_; have HL236_0 := n1_; have HR236_0 := n2_; have HB := n3_; have BK237 := n4_; have GW237 := n5_; have GE237 := n6_; clear n0_ n1_ n2_ n3_ n4_ n5_ n6_; clear hb hbox hg; have hcz76_0 : w75.cell? ⟨gb237, 0, none⟩ = some (.slice none 0 0) := (blk_cell BK237.out 0).trans rfl; have hcz76_1 : w75.cell? ⟨gb237, 1, none⟩ = some (.int .i64 0) := (blk_cell BK237.out 1).trans rfl; have hfz76_0 := blk_frozen BK237.out 0; have hfz76_1 := blk_frozen BK237.out 1))
  repeat (go_quiet (first | ((with_reducible refine gate_dst (N := 14) rfl ?_); refine box_event ?hg (N := 14) ?hd (cs := #[.slice none 0 0, .int .i64 0]) (t := 80) ?hr ?_; (case hd => rfl); (case hg => rfl); (case hr => first | (go_simp; done) | (go_simp; rfl)); intro gb237 hg w75 hbox hb; have n0_ := Aside0.mk (Kd.S_below (Kd.S_elderB s7q14 gb237 (Nat.le_of_eq hg.symm)) hb); have n1_ := Aside0.mk (Kd.R_below s7q19 hb); have n2_ := Aside0.mk (Kd.C_below s7q33 hb); have n3_ := Aside0.mk (below_step s7q25 hb); have n4_ := Aside0.mk (hbox); have n5_ := Aside0.mk ((s7q53 : w.heap.size ≤ gb237)); have n6_ := Aside0.mk ((s7q53 : w.heap.size ≤ gb237)); clear HO_8; clear HL236_0; clear HR236_0; clear HB; have HO_8 := n0_; have HL236_0 := n1_; have HR236_0 := n2_; have HB := n3_; have BK237 := n4_; have GW237 := n5_; have GE237 := n6_; clear n0_ n1_ n2_ n3_ n4_ n5_ n6_; clear hb hbox hg; have hcz76_0 : w75.cell? ⟨gb237, 0, none⟩ = some (.slice none 0 0) := (blk_cell BK237.out 0).trans rfl; have hcz76_1 : w75.cell? ⟨gb237, 1, none⟩ = some (.int .i64 0) := (blk_cell BK237.out 1).trans rfl; have hfz76_0 := blk_frozen BK237.out 0; have hfz76_1 := blk_frozen BK237.out 1)); try go_wp2_with (first | ((with_reducible refine gate_dst (N := 14) rfl ?_); refine box_event ?hg (N := 14) ?hd (cs := #[.slice none 0 0, .int .i64 0]) (t := 80) ?hr ?_; (case hd => rfl); (case hg => rfl); (case hr => first | (go_simp; done) | (go_simp; rfl)); intro gb237 hg w75 hbox hb; have n0_ := Aside0.mk (Kd.S_below (Kd.S_elderB s7q14 gb237 (Nat.le_of_eq hg.symm)) hb); have n1_ := Aside0.mk (Kd.R_below s7q19 hb); have n2_ := Aside0.mk (Kd.C_below s7q33 hb); have n3_ := Aside0.mk (below_step s7q25 hb); have n4_ := Aside0.mk (hbox); have n5_ := Aside0.mk ((s7q53 : w.heap.size ≤ gb237)); have n6_ := Aside0.mk ((s7q53 : w.heap.size ≤ gb237)); clear HO_8; clear HL236_0; clear HR236_0; clear HB; have HO_8 := n0_; have HL236_0 := n1_; have HR236_0 := n2_; have HB := n3_; have BK237 := n4_; have GW237 := n5_; have GE237 := n6_; clear n0_ n1_ n2_ n3_ n4_ n5_ n6_; clear hb hbox hg; have hcz76_0 : w75.cell? ⟨gb237, 0, none⟩ = some (.slice none 0 0) := (blk_cell BK237.out 0).trans rfl; have hcz76_1 : w75.cell? ⟨gb237, 1, none⟩ = some (.int .i64 0) := (blk_cell BK237.out 1).trans rfl; have hfz76_0 := blk_frozen BK237.out 0; have hfz76_1 := blk_frozen BK237.out 1)))
  go_ret3
  exact ⟨_, by first | rfl | (simp [errW_none, errW_some] <;> rfl) | (simp only [← hji5, ← hji71]; first | rfl | (simp [errW_none, errW_some] <;> rfl)) | (simp [*, errW_none, errW_some] <;> rfl), by (with_reducible repeat (first | apply Kd.R_alloc | apply Kd.R_drewN | apply Kd.R_drew)); exact Kd.R_mono (Kd.R_far (p := ⟨gb237, 1, none⟩) (Kd.R_far (p := ⟨gb237, 0, none⟩) (Kd.R_types HL236_0.out BK237.out s7q2) (fun _ hk => hk.2) (.slice A236_0 ((rd_T80 x8_1 (ji71)).f0).length c236_0)) (fun _ hk => hk.2) (.int .i64 ((rd_T80 x8_1 (ji71)).f1))) (fun _ hk => trivial), by repeat (first | (with_reducible first | exact HB.out | apply below_alloc | apply pw_below_drewN | apply below_drew1 | refine below_set ?_ GE237.out) | exact HB.out)⟩
 rw [if_pos c11] at H
 have c11b0 : decide (x9_1 < (x8_1.length : Int)) = true := decide_eq_true c11
 clear c11
 by_cases c12 : (Go.bits .and .i64 x9_1 (wrap64 (x9_1 - 1))) = 0
 · rw [if_pos c12] at H
   have c12b0 : ((Go.bits .and .i64 x9_1 (wrap64 (x9_1 - 1))) == 0) = true := beq_iff_eq.mpr c12
   have c12b1 : ((Go.bits .and .i64 x9_1 (wrap64 (x9_1 - 1))) != 0) = false := bne_eq_false_iff_eq.mpr c12
   clear c12
   replace H := Option.bind_eq_some_iff.mp H
   obtain ⟨t238, A130, H⟩ := H
   replace H : ((some (([t238] : List Int) : List Int)).bind fun y239 => (if 0 ≤ x9_1 then (if (y239.length : Int) = 0 then (none) else (cost_BestLine.l0 k1 l0 l1 (x8_1.set (x9_1 : Int).toNat (⟨y239, (rd_T80 x8_1 x9_1).f1⟩ : S80)) (wrap64 (x9_1 + 1)))) else (none))) = some (r1, r2, r3) := H
   have A13 := Aside0.mk A130
   clear A130
   obtain ⟨y239, hy239⟩ : ∃ y_ : List Int, y_ = (([t238] : List Int)) := ⟨_, rfl⟩
   replace H : (if 0 ≤ x9_1 then (if (y239.length : Int) = 0 then (none) else (cost_BestLine.l0 k1 l0 l1 (x8_1.set (x9_1 : Int).toNat (⟨y239, (rd_T80 x8_1 x9_1).f1⟩ : S80)) (wrap64 (x9_1 + 1)))) else (none)) = some (r1, r2, r3) := sqz hy239 H
   have Ny239 := Aside0.mk hy239
   clear hy239
   by_cases c14 : 0 ≤ x9_1
   case neg =>
    rw [if_neg c14] at H
    exact absurd H s7q0
   rw [if_pos c14] at H
   have c14b0 : decide (0 ≤ x9_1) = true := decide_eq_true c14
   clear c14
   by_cases c16 : (y239.length : Int) = 0
   · rw [if_pos c16] at H
     exact absurd H s7q0
   rw [if_neg c16] at H
   have c16b0 : ((y239.length : Int) == 0) = false := beq_eq_false_iff_ne.mpr c16
   have c16b1 : ((y239.length : Int) != 0) = true := bne_iff_ne.mpr c16
   have c16b2 : ¬ (y239 = []) := fun h_ => c16 (by rw [h_]; rfl)
   obtain ⟨y242, hy242⟩ : ∃ y_ : List (S80), y_ = (x8_1.set (x9_1 : Int).toNat (⟨y239, (rd_T80 x8_1 x9_1).f1⟩ : S80)) := ⟨_, rfl⟩
   replace H : (cost_BestLine.l0 k1 l0 l1 y242 (wrap64 (x9_1 + 1))) = some (r1, r2, r3) := sqz hy242 H
   have Ny242 := Aside0.mk hy242
   clear hy242
   have H' := Aside0.mk H
   clear H
   obtain ⟨Ao17, co17, eo17⟩ := Kd.S_slice HO_8.out
   subst eo17
   go_wp2_with (first | (go_at_call 46; (with_reducible refine (bits_TrailingZeros.calls (IntKind.u64.wrap (x9_1)) t238 _ ?side1 A13.out).mono ?_); (case side1 => exact Glob_below HG.out s7q25); rintro e w' ⟨rfl, ⟨nd, rfl⟩⟩; (try first | exact ⟨rfl, _, World.drewN_drewN _ _ _⟩ | exact ⟨rfl, _, Eq.trans (World.drewN_drewN _ _ _) (congrArg (World.drewN _) (Nat.add_assoc _ _ _))⟩)) | ((with_reducible refine gate_dst (N := 41) rfl ?_); refine Kd.R_lit (Kd.int .i64) _ 3 ?hg (N := 41) ?hd (xs := ([t238] : List Int)) (inner := [.int .i64 t238]) (ok := fun _ => True) (okp := fun _ => True) ?hr ?hp (fun _ hk => hk) trivial (Below.refl _ _) (Nat.le_refl _) s7q0 ?_; (case hd => rfl); (case hg => rfl); (case hr => first | (go_simp; done) | (go_simp; rfl)); (case hp => exact (Reps.one (show Kd.M (Kd.int .i64) _ _ _ t238 [.int .i64 t238] from rfl) (Reps.none _ _))); intro v240 w18 ho19 hb hg_ hnew_; clear hg_ hnew_; (first | rw [← Ny239.out] at ho19 | (simp only [Int.reduceToNat] at ho19; rw [← Ny239.out] at ho19)); have n0_ := Aside0.mk (Kd.S_elder' s7q14 (Kd.R_base ho19) hb); have n1_ := Aside0.mk (Kd.R_lower ho19 (below_size s7q25)); have n2_ := Aside0.mk (below_step s7q25 hb); clear HO_8; clear HB; have HO_8 := n0_; have HO241 := n1_; have HB := n2_; clear n0_ n1_ n2_; clear hb ho19; have p15 : 0 ≤ (x9_1 : Int) := of_decide_eq_true s7q10; have q15 : (x9_1 : Int) < ((x8_1.length : Int) : Int) := of_decide_eq_true s7q10; obtain ⟨go15, co15, eo15, gb15, gl15, cl15, HG15⟩ := Kd.S_form HO_8.out s7q11; (first | cases eo15 | (injection eo15 with ea_ en_ ec_; (first | subst ea_ | (injection ea_ with ea_; subst ea_)); subst ec_; clear en_)); have GB15 := Aside0.mk gb15; have GG15 := Aside0.mk HG15; clear gb15 gl15 HG15; obtain ⟨_, ce15, hcl15, hM15, hcc15, hfr15, _, _⟩ := Kd.S_elem HO_8.out z80 (x9_1 : Int) p15 q15; obtain ⟨ve15_0, rfl, ge15_0⟩ := k80_openM hM15; have hx15_0 : w18.cell? ⟨go15, (x9_1 : Int).toNat * 2, none⟩ = some (ve15_0) := hcc15 0 _ rfl; have hx15_1 : w18.cell? ⟨go15, (x9_1 : Int).toNat * 2 + 1, none⟩ = some (.int .i64 ((rd_T80 x8_1 x9_1).f1)) := hcc15 1 _ rfl; have hf15_0 : w18.frozen? ⟨go15, (x9_1 : Int).toNat * 2, none⟩ = false := hfr15 0; have hf15_1 : w18.frozen? ⟨go15, (x9_1 : Int).toNat * 2 + 1, none⟩ = false := hfr15 1; clear hcl15 hcc15 hfr15 hM15; replace p15 := eq_true p15; replace q15 := eq_true q15; obtain ⟨Ao20, co20, eo20⟩ := Kd.R_slice HO241.out; subst eo20; have n_ := Aside0.mk (Kd.S_mono (ok' := (fun k_ => some k_ ≠ (.slice Ao20 y239.length co20 : Value).ownBlock)) HO_8.out (fun k_ hk => hk.2)); clear HO_8; have HO_8 := n_; clear n_; have HX21 := Aside0.mk (show Kd.S k80 80 w18 w.heap.size (fun k_ => ((fun _ => True)) k_ ∧ ¬ ((fun k_ => some k_ = (.slice Ao20 y239.length co20 : Value).ownBlock)) k_) (.slice (some ⟨go15, 0, none⟩) x8_1.length co17) x8_1 from s7q27); obtain ⟨oki21, ce21, hcl21, hM21, hcc21, hfr21, hoki21, hH21⟩ := Kd.S_elem HX21.out z80 (x9_1 : Int) (of_decide_eq_true s7q10) s7q49; obtain ⟨ve21_0, rfl, ge21_0⟩ := k80_openM hM21; have HP21 := Kd.S_seg hH21 (of_decide_eq_true s7q10) s7q49 (seg := [.slice Ao20 y239.length co20]) (j := 0) (show 1 ≤ 2 from by decide) (x' := (⟨y239, (rd_T80 x8_1 x9_1).f1⟩ : S80)) (k80_mkM _ _ _ (⟨y239, (rd_T80 x8_1 x9_1).f1⟩ : S80) (Kd.R_mono (Kd.R_tight rfl (Kd.R_mono (ok' := fun k_ => ((fun _ => True)) k_ ∧ k_ ≠ go15) (Kd.R_apart' (HO241.out) (Kd.S_typed HO_8.out) s7q2) (fun k_ hk => ⟨trivial, fun e_ => (hk.2) s7q3⟩))) (fun _ h_ => Or.inr (h_)))) (fun _ hk => hk) (fun k_ hk_ => ((Kd.R_mono (ok' := fun k_ => ((fun _ => True)) k_ ∧ k_ ≠ go15) (Kd.R_apart' (HO241.out) (Kd.S_typed HO_8.out) s7q2) (fun k_ hk => ⟨trivial, fun e_ => (hk.2) s7q3⟩))).1 k_ hk_.symm); have hx21_0 := hcc21 0 _ rfl; (try simp only [show (k80).sz = 2 from rfl, Nat.mul_one, Nat.add_zero] at hx21_0); have hf21_0 := hfr21 0; (try simp only [show (k80).sz = 2 from rfl, Nat.mul_one, Nat.add_zero] at hf21_0); clear hcl21 hcc21 hfr21 hM21 hoki21 hH21) | ((with_reducible refine gate_store (t := 22) (p := 43) rfl ?_); (try (rw [drewN_self w18]; generalize hq_ : World.drewN w18 _ = w18; have n0_ := Aside0.mk (Kd.S_at hq_ HO_8.out); have n1_ := Aside0.mk (below_at hq_ HB.out); clear hq_ HO_8 HB; have HO_8 := n0_; have HB := n1_; clear n0_ n1_; (try (have n_ := Aside0.mk (Kd.S_mono (ok' := (fun k_ => some k_ ≠ (.slice Ao20 y239.length co20 : Value).ownBlock)) HO_8.out (fun k_ hk => hk.2)); clear HO_8; have HO_8 := n_; clear n_)); (try (have HX21 := Aside0.mk (show Kd.S k80 80 w18 w.heap.size (fun k_ => ((fun _ => True)) k_ ∧ ¬ ((fun k_ => some k_ = (.slice Ao20 y239.length co20 : Value).ownBlock)) k_) (.slice (some ⟨go15, 0, none⟩) x8_1.length co17) x8_1 from s7q27))); (try (obtain ⟨oki21, ce21, hcl21, hM21, hcc21, hfr21, hoki21, hH21⟩ := Kd.S_elem HX21.out z80 (x9_1 : Int) (of_decide_eq_true s7q10) s7q49)); (try (obtain ⟨ve21_0, rfl, ge21_0⟩ := k80_openM hM21)); (try (have HP21 := Kd.S_seg hH21 (of_decide_eq_true s7q10) s7q49 (seg := [.slice Ao20 y239.length co20]) (j := 0) (show 1 ≤ 2 from by decide) (x' := (⟨y239, (rd_T80 x8_1 x9_1).f1⟩ : S80)) (k80_mkM _ _ _ (⟨y239, (rd_T80 x8_1 x9_1).f1⟩ : S80) (Kd.R_mono (Kd.R_tight rfl (Kd.R_mono (ok' := fun k_ => ((fun _ => True)) k_ ∧ k_ ≠ go15) (Kd.R_apart' (HO241.out) (Kd.S_typed HO_8.out) s7q2) (fun k_ hk => ⟨trivial, fun e_ => (hk.2) s7q3⟩))) (fun _ h_ => Or.inr (h_)))) (fun _ hk => hk) (fun k_ hk_ => ((Kd.R_mono (ok' := fun k_ => ((fun _ => True)) k_ ∧ k_ ≠ go15) (Kd.R_apart' (HO241.out) (Kd.S_typed HO_8.out) s7q2) (fun k_ hk => ⟨trivial, fun e_ => (hk.2) s7q3⟩))).1 k_ hk_.symm))); (try (have hx21_0 := hcc21 0 _ rfl)); (try (try simp only [show (k80).sz = 2 from rfl, Nat.mul_one, Nat.add_zero] at hx21_0)); (try (have hf21_0 := hfr21 0)); (try (try simp only [show (k80).sz = 2 from rfl, Nat.mul_one, Nat.add_zero] at hf21_0)); (try (clear hcl21 hcc21 hfr21 hM21 hoki21 hH21)))); refine store_event (t := 22) (p := 43) (v := ?vo_w22) (w1 := (w18.setCell ⟨go15, (x9_1 : Int).toNat * 2, none⟩ (.slice Ao20 y239.length co20))) ?hg ?ho ?hn ?hr ?_; (case ho => rfl); (case hg => rfl); (case hn => rfl); (case hr => first | (go_simp; done) | (go_simp; rfl)); intro w22 hw; have hg : w18.grownBy w22 (some go15) := (by rw [hw]; exact HP21.2); have hp_ : Kd.S k80 80 w22 w.heap.size (fun _ => True) (.slice (some ⟨go15, 0, none⟩) x8_1.length co17) y242 := s7q6; clear HP21; have n0_ := Aside0.mk (hp_); have n1_ := Aside0.mk ((s7q42 : Below w.heap.size w w22)); clear HO_8; clear HB; clear HO241; have HO_8 := n0_; have HB := n1_; clear n0_ n1_; clear hg hw hp_))
   first | go_roundg k1 | (refine Handed.intro k1 ?measure ?_; rotate_left; go_step; (repeat apply Exists.intro); simp only [add_plain]; refine ⟨?rel, rfl⟩)
   case measure => have := HK1.out; omega
   case rel => exact ⟨(y242), (wrap64 (x9_1 + 1)), s7q9, H', ⟨by have := HK1.out; omega⟩, ⟨by (with_reducible repeat (first | apply Kd.S_alloc | apply Kd.S_drewN | apply Kd.S_drew)); exact HO_8.out⟩, ⟨by repeat (first | (with_reducible first | exact HB.out | apply below_alloc | apply pw_below_drewN | apply below_drew1) | exact HB.out)⟩⟩
 rw [if_neg c12] at H
 have c12b0 : ((Go.bits .and .i64 x9_1 (wrap64 (x9_1 - 1))) == 0) = false := beq_eq_false_iff_ne.mpr c12
 have c12b1 : ((Go.bits .and .i64 x9_1 (wrap64 (x9_1 - 1))) != 0) = true := bne_iff_ne.mpr c12
 replace H := Option.bind_eq_some_iff.mp H
 obtain ⟨t243, A230, H⟩ := H
 replace H : (cost_BestLine.l1 k1 l0 l1 x8_1 x9_1 t243 (l0.length : Int) 0) = some (r1, r2, r3) := H
 have A23 := Aside0.mk A230
 clear A230
 have H' := Aside0.mk H
 clear H
 obtain ⟨Ao24, co24, eo24⟩ := Kd.S_slice HO_8.out
 subst eo24
 go_wp2_with (first | (go_at_call 42; (with_reducible refine (cost_size.calls k1 _ _ l0 _ _ l1 x9_1 t243 _ ?side1 ?side2 ?side3 ?side4 A23.out).mono ?_); (case side1 => repeat (first | exact (Kd.C_below HR0.out HB.out) | (with_reducible refine Kd.C_alloc ?_ _) | (with_reducible refine Kd.C_drewN ?_ _) | (with_reducible refine Kd.C_drew ?_))); (case side2 => exact HC0.out); (case side3 => repeat (first | exact (Kd.C_below HR1.out HB.out) | (with_reducible refine Kd.C_alloc ?_ _) | (with_reducible refine Kd.C_drewN ?_ _) | (with_reducible refine Kd.C_drew ?_))); (case side4 => exact HC1.out); rintro e w25 ⟨rfl, hb⟩; have n0_ := Aside0.mk (Kd.S_below s7q14 hb); have n1_ := Aside0.mk (below_step s7q25 hb); clear HO_8; clear HB; have HO_8 := n0_; have HB := n1_; clear n0_ n1_; (try clear hb); (try clear hb2); (try clear hk); (try clear hi)))
 go_loopg [50] k1 (fun kq v50 w' => ∃ (x8_2 : List (S80)) (x50_2 : Int), v50 = .int .i64 x50_2 ∧ Aside0 (cost_BestLine.l1 kq l0 l1 x8_2 x9_1 t243 (l0.length : Int) x50_2 = some (r1, r2, r3)) ∧ Aside0 (kq ≤ k1) ∧ Aside0 (Kd.S k80 80 w' w.heap.size (fun _ => True) (.slice Ao24 x8_1.length co24) x8_2) ∧ Aside0 (Below w.heap.size w w'))
 case atStart => exact ⟨(x8_1), (0), s7q9, H', ⟨Nat.le_refl _⟩, ⟨by (with_reducible repeat (first | apply Kd.S_alloc | apply Kd.S_drewN | apply Kd.S_drew)); exact HO_8.out⟩, ⟨by repeat (first | (with_reducible first | exact HB.out | apply below_alloc | apply pw_below_drewN | apply below_drew1) | exact HB.out)⟩⟩
 clear H'
 try clear c1
 try clear p1
 try clear q1
 try clear hx1
 try clear c2
 try clear p2
 try clear hx2
 try clear hf2
 try clear c4
 try clear c4b0
 try clear c4b1
 try clear c6
 try clear c6b0
 try clear c6b1
 try clear p6
 try clear c7
 try clear c7b0
 try clear c7b1
 try clear c11
 try clear c11b0
 try clear c12
 try clear c12b0
 try clear c12b1
 try clear c14
 try clear c14b0
 try clear c15
 try clear p15
 try clear q15
 try clear hx15
 try clear hf15
 try clear c16
 try clear c16b0
 try clear c16b1
 try clear c16b2
 try clear c20
 try clear c21
 try clear hx21
 try clear hf21
 try clear hx15_0
 try clear hx15_1
 try clear hx21_0
 try clear p15
 try clear p2
 try clear p6
 try clear q15
 obtain ⟨x8_2, x50_2, rfl, HA, HK2, HO_8, HB⟩ := hrel
 have hl8_2 := (Kd.S_reads' HO_8.out).1
 rw [hl8_2] at HO_8
 (try simp only [hl8_2])
 cases gk with
 | zero => exact absurd HA.out (by simp [cost_BestLine.l1])
 | succ k2 => ?_
 have H := HA.out
 clear HA
 simp only [cost_BestLine.l1] at H
 by_cases c26 : x50_2 < (l0.length : Int)
 case neg =>
  rw [if_neg c26] at H
  have c26b0 : decide (x50_2 < (l0.length : Int)) = false := decide_eq_false c26
  clear c26
  have H' := Aside0.mk H
  clear H
  go_wp2
  (try simp only [← hl8_2])
  first | go_roundg k2 | (refine Handed.intro k2 ?measure ?_; rotate_left; go_step; (repeat apply Exists.intro); simp only [add_plain]; refine ⟨?rel, rfl⟩)
  case measure => have := HK1.out; have := HK2.out; omega
  case rel => exact ⟨(x8_2), (wrap64 (x9_1 + 1)), s7q9, H', ⟨by have := HK1.out; have := HK2.out; omega⟩, ⟨by (try simp only [hl8_2]); (with_reducible repeat (first | apply Kd.S_alloc | apply Kd.S_drewN | apply Kd.S_drew)); exact HO_8.out⟩, ⟨by repeat (first | (with_reducible first | exact HB.out | apply below_alloc | apply pw_below_drewN | apply below_drew1) | exact HB.out)⟩⟩
 rw [if_pos c26] at H
 have c26b0 : decide (x50_2 < (l0.length : Int)) = true := decide_eq_true c26
 clear c26
 by_cases c27 : 0 ≤ x50_2
 case neg =>
  rw [if_neg c27] at H
  exact absurd H s7q0
 rw [if_pos c27] at H
 have c27b0 := eq_true c27
 have c27b1 : decide (0 ≤ x50_2) = true := decide_eq_true c27
 clear c27
 obtain ⟨ji28, hji28⟩ : ∃ j_ : Int, (shr .i64 x9_1 x50_2) = j_ := ⟨_, rfl⟩
 replace H : (if (Go.bits .and .i64 (ji28) 1) = 0 then (cost_BestLine.l1 k2 l0 l1 x8_2 x9_1 t243 (l0.length : Int) (wrap64 (x50_2 + 1))) else (if 0 ≤ (Go.bits .andNot .i64 x9_1 (shl .i64 1 x50_2)) then (if (Go.bits .andNot .i64 x9_1 (shl .i64 1 x50_2)) < (x8_2.length : Int) then (if 0 ≤ x9_1 then (if x9_1 < (x8_2.length : Int) then (if (((rd_T80 x8_2 x9_1).f0).length : Int) = 0 then ((cost_joined.f k2 ((rd_T80 x8_2 (Go.bits .andNot .i64 x9_1 (shl .i64 1 x50_2))).f0) (([x50_2] : List Int))).bind fun t250 => (if (t250.length : Int) = 0 then (none) else (cost_BestLine.l1 k2 l0 l1 (x8_2.set (x9_1 : Int).toNat (⟨t250, mn 1000000000000000 (wrap64 (((rd_T80 x8_2 (Go.bits .andNot .i64 x9_1 (shl .i64 1 x50_2))).f1) + t243))⟩ : S80)) x9_1 t243 (l0.length : Int) (wrap64 (x50_2 + 1))))) else (if (mn 1000000000000000 (wrap64 (((rd_T80 x8_2 (Go.bits .andNot .i64 x9_1 (shl .i64 1 x50_2))).f1) + t243))) < ((rd_T80 x8_2 x9_1).f1) then ((cost_joined.f k2 ((rd_T80 x8_2 (Go.bits .andNot .i64 x9_1 (shl .i64 1 x50_2))).f0) (([x50_2] : List Int))).bind fun t258 => (if (t258.length : Int) = 0 then (none) else (cost_BestLine.l1 k2 l0 l1 (x8_2.set (x9_1 : Int).toNat (⟨t258, mn 1000000000000000 (wrap64 (((rd_T80 x8_2 (Go.bits .andNot .i64 x9_1 (shl .i64 1 x50_2))).f1) + t243))⟩ : S80)) x9_1 t243 (l0.length : Int) (wrap64 (x50_2 + 1))))) else (cost_BestLine.l1 k2 l0 l1 x8_2 x9_1 t243 (l0.length : Int) (wrap64 (x50_2 + 1))))) else (none)) else (none)) else (none)) else (none))) = some (r1, r2, r3) := by first | (rw [hji28] at H; exact H) | (simp only [hji28] at H ⊢; exact H)
 have hji28_ : (x9_1 / 2 ^ min x50_2.toNat 64) = ji28 := hji28
 have hji28z : x50_2 ≤ 64 → (x9_1 / 2 ^ x50_2.toNat) = ji28 := shr_small hji28
 by_cases c29 : (Go.bits .and .i64 (ji28) 1) = 0
 · rw [if_pos c29] at H
   have c29b0 : ((Go.bits .and .i64 (ji28) 1) == 0) = true := beq_iff_eq.mpr c29
   have c29b1 : ((Go.bits .and .i64 (ji28) 1) != 0) = false := bne_eq_false_iff_eq.mpr c29
   clear c29
   have H' := Aside0.mk H
   clear H
   go_wp2
   (try simp only [← hl8_2])
   first | go_roundg k2 | (refine Handed.intro k2 ?measure ?_; rotate_left; go_step; (repeat apply Exists.intro); simp only [add_plain]; refine ⟨?rel, rfl⟩)
   case measure => have := HK1.out; have := HK2.out; omega
   case rel => exact ⟨(x8_2), (wrap64 (x50_2 + 1)), s7q9, H', ⟨by have := HK1.out; have := HK2.out; omega⟩, ⟨by (try simp only [hl8_2]); (with_reducible repeat (first | apply Kd.S_alloc | apply Kd.S_drewN | apply Kd.S_drew)); exact HO_8.out⟩, ⟨by repeat (first | (with_reducible first | exact HB.out | apply below_alloc | apply pw_below_drewN | apply below_drew1) | exact HB.out)⟩⟩
 rw [if_neg c29] at H
 have c29b0 : ((Go.bits .and .i64 (ji28) 1) == 0) = false := beq_eq_false_iff_ne.mpr c29
 have c29b1 : ((Go.bits .and .i64 (ji28) 1) != 0) = true := bne_iff_ne.mpr c29
 have c30b0 := eq_true (of_decide_eq_true s7q10 : 0 ≤ x50_2)
 obtain ⟨ji31, hji31⟩ : ∃ j_ : Int, (shl .i64 1 x50_2) = j_ := ⟨_, rfl⟩
 replace H : (if 0 ≤ (Go.bits .andNot .i64 x9_1 (ji31)) then (if (Go.bits .andNot .i64 x9_1 (ji31)) < (x8_2.length : Int) then (if 0 ≤ x9_1 then (if x9_1 < (x8_2.length : Int) then (if (((rd_T80 x8_2 x9_1).f0).length : Int) = 0 then ((cost_joined.f k2 ((rd_T80 x8_2 (Go.bits .andNot .i64 x9_1 (ji31))).f0) (([x50_2] : List Int))).bind fun t250 => (if (t250.length : Int) = 0 then (none) else (cost_BestLine.l1 k2 l0 l1 (x8_2.set (x9_1 : Int).toNat (⟨t250, mn 1000000000000000 (wrap64 (((rd_T80 x8_2 (Go.bits .andNot .i64 x9_1 (ji31))).f1) + t243))⟩ : S80)) x9_1 t243 (l0.length : Int) (wrap64 (x50_2 + 1))))) else (if (mn 1000000000000000 (wrap64 (((rd_T80 x8_2 (Go.bits .andNot .i64 x9_1 (ji31))).f1) + t243))) < ((rd_T80 x8_2 x9_1).f1) then ((cost_joined.f k2 ((rd_T80 x8_2 (Go.bits .andNot .i64 x9_1 (ji31))).f0) (([x50_2] : List Int))).bind fun t258 => (if (t258.length : Int) = 0 then (none) else (cost_BestLine.l1 k2 l0 l1 (x8_2.set (x9_1 : Int).toNat (⟨t258, mn 1000000000000000 (wrap64 (((rd_T80 x8_2 (Go.bits .andNot .i64 x9_1 (ji31))).f1) + t243))⟩ : S80)) x9_1 t243 (l0.length : Int) (wrap64 (x50_2 + 1))))) else (cost_BestLine.l1 k2 l0 l1 x8_2 x9_1 t243 (l0.length : Int) (wrap64 (x50_2 + 1))))) else (none)) else (none)) else (none)) else (none)) = some (r1, r2, r3) := by first | (rw [hji31] at H; exact H) | (simp only [hji31] at H ⊢; exact H)
 have hji31_ : (IntKind.i64.wrap (1 * 2 ^ min x50_2.toNat 64)) = ji31 := hji31
 have hji31z : x50_2 ≤ 64 → (IntKind.i64.wrap (1 * 2 ^ x50_2.toNat)) = ji31 := shl_small hji31
 have hji31u : (IntKind.i64.wrap (2 ^ min x50_2.toNat 64)) = ji31 := by have h_ := hji31_; rw [Int.one_mul] at h_; exact h_
 have hji31v : x50_2 ≤ 64 → (IntKind.i64.wrap (2 ^ x50_2.toNat)) = ji31 := fun hle_ => by have h_ := hji31z hle_; rw [Int.one_mul] at h_; exact h_
 have hji31y : (wrap64 (1 * 2 ^ min x50_2.toNat 64)) = ji31 := (i64_w _).symm.trans hji31_
 have hji31x : x50_2 ≤ 64 → (wrap64 (1 * 2 ^ x50_2.toNat)) = ji31 := fun h_ => (i64_w _).symm.trans (hji31z h_)
 by_cases c32 : 0 ≤ (Go.bits .andNot .i64 x9_1 (ji31))
 case neg =>
  rw [if_neg c32] at H
  exact absurd H s7q0
 rw [if_pos c32] at H
 have c32b0 : decide (0 ≤ (Go.bits .andNot .i64 x9_1 (ji31))) = true := decide_eq_true c32
 clear c32
 by_cases c33 : (Go.bits .andNot .i64 x9_1 (ji31)) < (x8_2.length : Int)
 case neg =>
  rw [if_neg c33] at H
  exact absurd H s7q0
 rw [if_pos c33] at H
 have c33b0 : decide ((Go.bits .andNot .i64 x9_1 (ji31)) < (x8_2.length : Int)) = true := decide_eq_true c33
 clear c33
 obtain ⟨ji34, hji34⟩ : ∃ j_ : Int, (mn 1000000000000000 (wrap64 (((rd_T80 x8_2 (Go.bits .andNot .i64 x9_1 (ji31))).f1) + t243))) = j_ := ⟨_, rfl⟩
 replace H : (if 0 ≤ x9_1 then (if x9_1 < (x8_2.length : Int) then (if (((rd_T80 x8_2 x9_1).f0).length : Int) = 0 then ((cost_joined.f k2 ((rd_T80 x8_2 (Go.bits .andNot .i64 x9_1 (ji31))).f0) (([x50_2] : List Int))).bind fun t250 => (if (t250.length : Int) = 0 then (none) else (cost_BestLine.l1 k2 l0 l1 (x8_2.set (x9_1 : Int).toNat (⟨t250, ji34⟩ : S80)) x9_1 t243 (l0.length : Int) (wrap64 (x50_2 + 1))))) else (if (ji34) < ((rd_T80 x8_2 x9_1).f1) then ((cost_joined.f k2 ((rd_T80 x8_2 (Go.bits .andNot .i64 x9_1 (ji31))).f0) (([x50_2] : List Int))).bind fun t258 => (if (t258.length : Int) = 0 then (none) else (cost_BestLine.l1 k2 l0 l1 (x8_2.set (x9_1 : Int).toNat (⟨t258, ji34⟩ : S80)) x9_1 t243 (l0.length : Int) (wrap64 (x50_2 + 1))))) else (cost_BestLine.l1 k2 l0 l1 x8_2 x9_1 t243 (l0.length : Int) (wrap64 (x50_2 + 1))))) else (none)) else (none)) = some (r1, r2, r3) := by first | (rw [hji34] at H; exact H) | (simp only [hji34] at H ⊢; exact H)
 have hji34_ : (if (wrap64 (((rd_T80 x8_2 (Go.bits .andNot .i64 x9_1 (ji31))).f1) + t243)) < 1000000000000000 then (wrap64 (((rd_T80 x8_2 (Go.bits .andNot .i64 x9_1 (ji31))).f1) + t243)) else 1000000000000000) = ji34 := hji34
 by_cases c35 : 0 ≤ x9_1
 case neg =>
  rw [if_neg c35] at H
  exact absurd H s7q0
 rw [if_pos c35] at H
 have c35b0 : decide (0 ≤ x9_1) = true := decide_eq_true c35
 clear c35
 by_cases c36 : x9_1 < (x8_2.length : Int)
 case neg =>
  rw [if_neg c36] at H
  exact absurd H s7q0
 rw [if_pos c36] at H
 have c36b0 : decide (x9_1 < (x8_2.length : Int)) = true := decide_eq_true c36
 clear c36
 by_cases c37 : (((rd_T80 x8_2 x9_1).f0).length : Int) = 0
 · rw [if_pos c37] at H
   have c37e : (((rd_T80 x8_2 x9_1).f0)).isEmpty = true := List.isEmpty_iff.mpr (List.eq_nil_of_length_eq_zero s7q1)
   have c37b0 : ((((rd_T80 x8_2 x9_1).f0).length : Int) == 0) = true := beq_iff_eq.mpr c37
   have c37b1 : ((((rd_T80 x8_2 x9_1).f0).length : Int) != 0) = false := bne_eq_false_iff_eq.mpr c37
   clear c37
   obtain ⟨y247, hy247⟩ : ∃ y_ : List Int, y_ = (([x50_2] : List Int)) := ⟨_, rfl⟩
   replace H : ((cost_joined.f k2 ((rd_T80 x8_2 (Go.bits .andNot .i64 x9_1 (ji31))).f0) y247).bind fun t250 => (if (t250.length : Int) = 0 then (none) else (cost_BestLine.l1 k2 l0 l1 (x8_2.set (x9_1 : Int).toNat (⟨t250, ji34⟩ : S80)) x9_1 t243 (l0.length : Int) (wrap64 (x50_2 + 1))))) = some (r1, r2, r3) := sqz hy247 H
   have Ny247 := Aside0.mk hy247
   clear hy247
   replace H := Option.bind_eq_some_iff.mp H
   obtain ⟨t250, A380, H⟩ := H
   replace H : (if (t250.length : Int) = 0 then (none) else (cost_BestLine.l1 k2 l0 l1 (x8_2.set (x9_1 : Int).toNat (⟨t250, ji34⟩ : S80)) x9_1 t243 (l0.length : Int) (wrap64 (x50_2 + 1)))) = some (r1, r2, r3) := H
   have A38 := Aside0.mk A380
   clear A380
   by_cases c40 : (t250.length : Int) = 0
   · rw [if_pos c40] at H
     exact absurd H s7q0
   rw [if_neg c40] at H
   have c40b0 : ((t250.length : Int) == 0) = false := beq_eq_false_iff_ne.mpr c40
   have c40b1 : ((t250.length : Int) != 0) = true := bne_iff_ne.mpr c40
   have c40b2 : ¬ (t250 = []) := fun h_ => c40 (by rw [h_]; rfl)
   obtain ⟨y253, hy253⟩ : ∃ y_ : List (S80), y_ = (x8_2.set (x9_1 : Int).toNat (⟨t250, ji34⟩ : S80)) := ⟨_, rfl⟩
   replace H : (cost_BestLine.l1 k2 l0 l1 y253 x9_1 t243 (l0.length : Int) (wrap64 (x50_2 + 1))) = some (r1, r2, r3) := sqz hy253 H
   have Ny253 := Aside0.mk hy253
   clear hy253
   have H' := Aside0.mk H
   clear H
   have p244 : 0 ≤ ((Go.bits .andNot .i64 x9_1 (ji31)) : Int) := of_decide_eq_true s7q10
   have q244 : (Go.bits .andNot .i64 x9_1 (ji31)) < (x8_2.length : Int) := of_decide_eq_true s7q10
   obtain ⟨ad244, A244_0, c244_0, e244, hx244_0, hx244_1, hl244_0, hi244_0⟩ := at_T80 (Kd.S_reads' HO_8.out).2.2 (Go.bits .andNot .i64 x9_1 (ji31)) p244 q244
   have hnl244_0 := at_T80_nil0 (Kd.S_reads' HO_8.out).2.2 (Go.bits .andNot .i64 x9_1 (ji31)) p244 q244 e244 hx244_0
   cases e244
   obtain ⟨ce244, hce244, hMe244, hcc244⟩ := Kd.S_get HO_8.out z80 (Go.bits .andNot .i64 x9_1 (ji31)) p244 s7q45
   obtain ⟨ve244_0, rfl, ge244_0⟩ := k80_openM hMe244
   have hv244_0 := hcc244 0 _ rfl
   rw [Nat.add_zero] at hv244_0
   replace hv244_0 := Option.some.inj (hv244_0.symm.trans hx244_0)
   rw [hv244_0] at ge244_0
   have HL244_0 := Aside0.mk (show Kd.R (Kd.int .i64) 3 _ _ _ _ ((rd_T80 x8_2 (Go.bits .andNot .i64 x9_1 (ji31))).f0) from ge244_0)
   clear hv244_0 ge244_0
   clear hcc244 hce244
   have HR244_0 := Aside0.mk hi244_0
   have HC244_0 := Aside0.mk hl244_0
   clear hi244_0 hl244_0
   replace p244 := eq_true p244
   replace q244 := eq_true q244
   go_wp2_with (first | ((with_reducible refine gate_dst (N := 12) rfl ?_); refine box_event ?hg (N := 12) ?hd (cs := #[.slice none 0 0, .int .i64 0]) (t := 80) ?hr ?_; (case hd => rfl); (case hg => rfl); (case hr => first | (go_simp; done) | (go_simp; rfl)); intro gb245 hg w41 hbox hb; have n0_ := Aside0.mk (Kd.S_below (Kd.S_elderB s7q14 gb245 (Nat.le_of_eq hg.symm)) hb); have n1_ := Aside0.mk (Kd.R_below s7q20 hb); have n2_ := Aside0.mk (Kd.C_below s7q34 hb); have n3_ := Aside0.mk (below_step s7q25 hb); have n4_ := Aside0.mk (hbox); have n5_ := Aside0.mk ((s7q53 : w.heap.size ≤ gb245)); have n6_ := Aside0.mk ((s7q53 : w.heap.size ≤ gb245)); clear HO_8; clear HL244_0; clear HR244_0; clear HB; have HO_8 := n0_; have HL244_0 := n1_; have HR244_0 := n2_; have HB := n3_; have BK245 := n4_; have GW245 := n5_; have GE245 := n6_; clear n0_ n1_ n2_ n3_ n4_ n5_ n6_; clear hb hbox hg; have hcz42_0 : w41.cell? ⟨gb245, 0, none⟩ = some (.slice none 0 0) := (blk_cell BK245.out 0).trans rfl; have hcz42_1 : w41.cell? ⟨gb245, 1, none⟩ = some (.int .i64 0) := (blk_cell BK245.out 1).trans rfl; have hfz42_0 := blk_frozen BK245.out 0; have hfz42_1 := blk_frozen BK245.out 1) | ((with_reducible refine gate_store (t := 80) (p := 12) rfl ?_); (try (rw [drewN_self w41]; generalize hq_ : World.drewN w41 _ = w41; have n0_ := Aside0.mk (Kd.S_at hq_ HO_8.out); have n1_ := Aside0.mk (Kd.R_at hq_ HL244_0.out); have n2_ := Aside0.mk (blk_at hq_ BK245.out); have n3_ := Aside0.mk (Kd.C_at hq_ HR244_0.out); have n4_ := Aside0.mk (below_at hq_ HB.out); clear hq_ HO_8 HL244_0 BK245 HR244_0 HB; have HO_8 := n0_; have HL244_0 := n1_; have BK245 := n2_; have HR244_0 := n3_; have HB := n4_; clear n0_ n1_ n2_ n3_ n4_)); refine store_event (t := 80) (p := 12) (v := ?vo_w43) (w1 := ((w41.setCell ⟨gb245, 0, none⟩ (.slice A244_0 ((rd_T80 x8_2 (Go.bits .andNot .i64 x9_1 (ji31))).f0).length c244_0)).setCell ⟨gb245, 1, none⟩ (.int .i64 ((rd_T80 x8_2 (Go.bits .andNot .i64 x9_1 (ji31))).f1)))) ?hg ?ho ?hn ?hr ?_; (case ho => rfl); (case hg => rfl); (case hn => rfl); (case hr => first | (go_simp; done) | (go_simp; rfl)); intro w43 hw; have n0_ : Aside0 (Kd.S k80 80 w43 w.heap.size (fun k_ => k_ ≠ gb245) (.slice (some ad244) x8_2.length co24) x8_2) := ⟨s7q40⟩; have n1_ : Aside0 (Kd.R (Kd.int .i64) 3 w43 w.heap.size (fun k_ => some k_ ≠ (.slice (some ad244) x8_2.length co24 : Value).ownBlock) (.slice A244_0 ((rd_T80 x8_2 (Go.bits .andNot .i64 x9_1 (ji31))).f0).length c244_0) ((rd_T80 x8_2 (Go.bits .andNot .i64 x9_1 (ji31))).f0)) := ⟨s7q52⟩; have n2_ : Aside0 (w43.heap[gb245]? = some (.cells #[.slice A244_0 ((rd_T80 x8_2 (Go.bits .andNot .i64 x9_1 (ji31))).f0).length c244_0, .int .i64 ((rd_T80 x8_2 (Go.bits .andNot .i64 x9_1 (ji31))).f1)] 80 (0, 0))) := ⟨s7q41⟩; have n3_ : Aside0 (Below w.heap.size w w43) := ⟨s7q39⟩; clear hw; clear HO_8; clear HL244_0; clear BK245; clear HB; have HO_8 := n0_; have HL244_0 := n1_; have BK245 := n2_; have HB := n3_; clear n0_ n1_ n2_ n3_; clear HR244_0; have HR244_0 := Aside0.mk (Kd.R_reads' HL244_0.out).2.2; have hcz44_0 : w43.cell? ⟨gb245, 0, none⟩ = some (.slice A244_0 ((rd_T80 x8_2 (Go.bits .andNot .i64 x9_1 (ji31))).f0).length c244_0) := (blk_cell BK245.out 0).trans rfl; have hcz44_1 : w43.cell? ⟨gb245, 1, none⟩ = some (.int .i64 ((rd_T80 x8_2 (Go.bits .andNot .i64 x9_1 (ji31))).f1)) := (blk_cell BK245.out 1).trans rfl; have hfz44_0 := blk_frozen BK245.out 0; have hfz44_1 := blk_frozen BK245.out 1; have p246 : 0 ≤ (x9_1 : Int) := of_decide_eq_true s7q10; have q246 : x9_1 < (x8_2.length : Int) := of_decide_eq_true s7q10; obtain ⟨ad246, A246_0, c246_0, e246, hx246_0, hx246_1, hl246_0, hi246_0⟩ := at_T80 (Kd.S_reads' HO_8.out).2.2 x9_1 p246 q246; have hnl246_0 := at_T80_nil0 (Kd.S_reads' HO_8.out).2.2 x9_1 p246 q246 e246 hx246_0; obtain rfl : ad244 = ad246 := s7q4; obtain ⟨ce246, hce246, hMe246, hcc246⟩ := Kd.S_get HO_8.out z80 x9_1 p246 s7q46; obtain ⟨ve246_0, rfl, ge246_0⟩ := k80_openM hMe246; have hv246_0 := hcc246 0 _ rfl; rw [Nat.add_zero] at hv246_0; replace hv246_0 := Option.some.inj (hv246_0.symm.trans hx246_0); rw [hv246_0] at ge246_0; have HL246_0 := Aside0.mk (show Kd.R (Kd.int .i64) 3 _ _ _ _ ((rd_T80 x8_2 x9_1).f0) from ge246_0); clear hv246_0 ge246_0; clear hcc246 hce246; have HR246_0 := Aside0.mk hi246_0; have HC246_0 := Aside0.mk hl246_0; clear hi246_0 hl246_0; replace p246 := eq_true p246; replace q246 := eq_true q246) | ((with_reducible refine gate_dst (N := 90) rfl ?_); refine Kd.R_lit (Kd.int .i64) _ 3 ?hg (N := 90) ?hd (xs := ([x50_2] : List Int)) (inner := [.int .i64 x50_2]) (ok := fun _ => True) (okp := fun _ => True) ?hr ?hp (fun _ hk => hk) trivial (Below.refl _ _) (Nat.le_refl _) s7q0 ?_; (case hd => rfl); (case hg => rfl); (case hr => first | (go_simp; done) | (go_simp; rfl)); (case hp => exact (Reps.one (show Kd.M (Kd.int .i64) _ _ _ x50_2 [.int .i64 x50_2] from rfl) (Reps.none _ _))); intro v248 w45 ho46 hb hg_ hnew_; clear hg_ hnew_; (first | rw [← Ny247.out] at ho46 | (simp only [Int.reduceToNat] at ho46; rw [← Ny247.out] at ho46)); have n0_ := Aside0.mk (Kd.S_elder' s7q14 (Kd.R_base ho46) hb); have n1_ := Aside0.mk (Kd.R_elder' s7q20 (Kd.R_base ho46) hb); have n2_ := Aside0.mk (Kd.R_elder' s7q21 (Kd.R_base ho46) hb); have n3_ := Aside0.mk (Kd.R_lower (Kd.R_new' (Kd.R_new' ho46 (Kd.R_lt s7q20)) (Kd.R_lt s7q21)) (below_size s7q28)); have n4_ := Aside0.mk (Kd.C_below s7q34 hb); have n5_ := Aside0.mk (blk_below (g := gb245) (o := .cells #[.slice A244_0 ((rd_T80 x8_2 (Go.bits .andNot .i64 x9_1 (ji31))).f0).length c244_0, .int .i64 ((rd_T80 x8_2 (Go.bits .andNot .i64 x9_1 (ji31))).f1)] 80 (0, 0)) s7q24 hb); have n6_ := Aside0.mk (Kd.C_below s7q35 hb); have n7_ := Aside0.mk (below_step s7q28 hb); clear HO_8; clear HL244_0; clear HL246_0; clear HR244_0; clear BK245; clear HR246_0; clear HB; have HO_8 := n0_; have HL244_0 := n1_; have HL246_0 := n2_; have HO249 := n3_; have HR244_0 := n4_; have BK245 := n5_; have HR246_0 := n6_; have HB := n7_; clear n0_ n1_ n2_ n3_ n4_ n5_ n6_ n7_; clear hb ho46; obtain ⟨Ao47, co47, eo47⟩ := Kd.R_slice HO249.out; subst eo47) | (go_at_call 47; (with_reducible refine (cost_joined.calls k2 _ _ ((rd_T80 x8_2 (Go.bits .andNot .i64 x9_1 (ji31))).f0) _ _ y247 t250 _ ?side1 ?side2 ?side3 ?side4 A38.out).mono ?_); (case side1 => repeat (first | exact s7q34 | (with_reducible refine Kd.C_alloc ?_ _) | (with_reducible refine Kd.C_drewN ?_ _) | (with_reducible refine Kd.C_drew ?_))); (case side2 => exact HC244_0.out); (case side3 => repeat (first | exact (Kd.R_reads' HO249.out).2.2 | (with_reducible refine Kd.C_alloc ?_ _) | (with_reducible refine Kd.C_drewN ?_ _) | (with_reducible refine Kd.C_drew ?_))); (case side4 => exact (Kd.R_reads' HO249.out).2.1); rintro e w48 ⟨v251, rfl, ho0, hb⟩; have n0_ := Aside0.mk (Kd.S_elder' s7q14 (Kd.R_base ho0) hb); have n1_ := Aside0.mk (Kd.R_elder' s7q20 (Kd.R_base ho0) hb); have n2_ := Aside0.mk (Kd.R_elder' s7q21 (Kd.R_base ho0) hb); have n3_ := Aside0.mk (Kd.R_elder' s7q16 (Kd.R_base ho0) hb); have n4_ := Aside0.mk (Kd.R_lower (Kd.R_new' (Kd.R_new' (Kd.R_new' ho0 (Kd.R_lt s7q20)) (Kd.R_lt s7q21)) (Kd.R_lt s7q16)) (below_size s7q28)); have n5_ := Aside0.mk (Kd.C_below s7q34 hb); have n6_ := Aside0.mk (blk_below (g := gb245) (o := .cells #[.slice A244_0 ((rd_T80 x8_2 (Go.bits .andNot .i64 x9_1 (ji31))).f0).length c244_0, .int .i64 ((rd_T80 x8_2 (Go.bits .andNot .i64 x9_1 (ji31))).f1)] 80 (0, 0)) s7q24 hb); have n7_ := Aside0.mk (Kd.C_below s7q35 hb); have n8_ := Aside0.mk (below_step s7q28 hb); clear HO_8; clear HL244_0; clear HL246_0; clear HO249; clear HR244_0; clear BK245; clear HR246_0; clear HB; have HO_8 := n0_; have HL244_0 := n1_; have HL246_0 := n2_; have HO249 := n3_; have HO252 := n4_; have HR244_0 := n5_; have BK245 := n6_; have HR246_0 := n7_; have HB := n8_; clear n0_ n1_ n2_ n3_ n4_ n5_ n6_ n7_ n8_; (try clear hb); (try clear hb2); (try clear hk); (try clear hi); (try clear ho0); obtain ⟨Ao49, co49, eo49⟩ := Kd.R_slice HO252.out; subst eo49; have p39 : 0 ≤ (x9_1 : Int) := of_decide_eq_true s7q10; have q39 : (x9_1 : Int) < ((x8_2.length : Int) : Int) := of_decide_eq_true s7q10; obtain ⟨go39, co39, eo39, gb39, gl39, cl39, HG39⟩ := Kd.S_form HO_8.out s7q12; (first | cases eo39 | (injection eo39 with ea_ en_ ec_; (first | subst ea_ | (injection ea_ with ea_; subst ea_)); subst ec_; clear en_)); have GB39 := Aside0.mk gb39; have GG39 := Aside0.mk HG39; clear gb39 gl39 HG39; (first | simp only [add_plain] at hx244_0 | skip); (first | simp only [add_plain] at hx244_1 | skip); (first | simp only [add_plain] at hx246_0 | skip); (first | simp only [add_plain] at hx246_1 | skip); obtain ⟨_, ce39, hcl39, hM39, hcc39, hfr39, _, _⟩ := Kd.S_elem HO_8.out z80 (x9_1 : Int) p39 q39; obtain ⟨ve39_0, rfl, ge39_0⟩ := k80_openM hM39; have hx39_0 : w48.cell? ⟨go39, (x9_1 : Int).toNat * 2, none⟩ = some (ve39_0) := hcc39 0 _ rfl; have hx39_1 : w48.cell? ⟨go39, (x9_1 : Int).toNat * 2 + 1, none⟩ = some (.int .i64 ((rd_T80 x8_2 x9_1).f1)) := hcc39 1 _ rfl; have hf39_0 : w48.frozen? ⟨go39, (x9_1 : Int).toNat * 2, none⟩ = false := hfr39 0; have hf39_1 : w48.frozen? ⟨go39, (x9_1 : Int).toNat * 2 + 1, none⟩ = false := hfr39 1; clear hcl39 hcc39 hfr39 hM39; replace p39 := eq_true p39; replace q39 := eq_true q39; have n_ := Aside0.mk (Kd.S_mono (ok' := (fun k_ => some k_ ≠ (.slice Ao47 y247.length co47 : Value).ownBlock ∧ some k_ ≠ (.slice Ao49 t250.length co49 : Value).ownBlock ∧ k_ ≠ gb245)) HO_8.out (fun k_ hk => ⟨hk.1.2, ⟨hk.2, hk.1.1⟩⟩)); clear HO_8; have HO_8 := n_; clear n_; have HX50 := Aside0.mk (show Kd.S k80 80 w48 w.heap.size (fun k_ => ((fun k_ => some k_ ≠ (.slice Ao47 y247.length co47 : Value).ownBlock ∧ k_ ≠ gb245)) k_ ∧ ¬ ((fun k_ => some k_ = (.slice Ao49 t250.length co49 : Value).ownBlock)) k_) (.slice (some ⟨go39, 0, none⟩) x8_2.length co24) x8_2 from s7q29); obtain ⟨oki50, ce50, hcl50, hM50, hcc50, hfr50, hoki50, hH50⟩ := Kd.S_elem HX50.out z80 (x9_1 : Int) (of_decide_eq_true s7q10) s7q50; obtain ⟨ve50_0, rfl, ge50_0⟩ := k80_openM hM50; have HP50 := Kd.S_seg hH50 (of_decide_eq_true s7q10) s7q50 (seg := [.slice Ao49 t250.length co49, .int .i64 ji34]) (j := 0) (show 2 ≤ 2 from by decide) (x' := (⟨t250, ji34⟩ : S80)) (k80_mkM _ _ _ (⟨t250, ji34⟩ : S80) (Kd.R_mono (Kd.R_tight rfl (Kd.R_mono (ok' := fun k_ => ((fun k_ => some k_ ≠ (.slice Ao47 y247.length co47 : Value).ownBlock ∧ k_ ≠ gb245)) k_ ∧ k_ ≠ go39) (Kd.R_types (Kd.R_apart' (HO252.out) (Kd.S_typed HO_8.out) s7q2) BK245.out s7q2) (fun k_ hk => ⟨⟨hk.1.1.2, hk.2⟩, fun e_ => (hk.1.2) s7q3⟩))) (fun _ h_ => Or.inr (h_)))) (fun _ hk => hk) (fun k_ hk_ => ((Kd.R_mono (ok' := fun k_ => ((fun k_ => some k_ ≠ (.slice Ao47 y247.length co47 : Value).ownBlock ∧ k_ ≠ gb245)) k_ ∧ k_ ≠ go39) (Kd.R_types (Kd.R_apart' (HO252.out) (Kd.S_typed HO_8.out) s7q2) BK245.out s7q2) (fun k_ hk => ⟨⟨hk.1.1.2, hk.2⟩, fun e_ => (hk.1.2) s7q3⟩))).1 k_ hk_.symm); have hx50_0 := hcc50 0 _ rfl; (try simp only [show (k80).sz = 2 from rfl, Nat.mul_one, Nat.add_zero] at hx50_0); have hf50_0 := hfr50 0; (try simp only [show (k80).sz = 2 from rfl, Nat.mul_one, Nat.add_zero] at hf50_0); have hx50_1 := hcc50 1 _ rfl; (try simp only [show (k80).sz = 2 from rfl, Nat.mul_one, Nat.add_zero] at hx50_1); have hf50_1 := hfr50 1; (try simp only [show (k80).sz = 2 from rfl, Nat.mul_one, Nat.add_zero] at hf50_1); clear hcl50 hcc50 hfr50 hM50 hoki50 hH50) | ((with_reducible refine gate_store (t := 80) (p := 94) rfl ?_); (try (rw [drewN_self w48]; generalize hq_ : World.drewN w48 _ = w48; have n0_ := Aside0.mk (Kd.S_at hq_ HO_8.out); have n1_ := Aside0.mk (Kd.R_at hq_ HL244_0.out); have n2_ := Aside0.mk (Kd.R_at hq_ HL246_0.out); have n3_ := Aside0.mk (Kd.R_at hq_ HO249.out); have n4_ := Aside0.mk (blk_at hq_ BK245.out); have n5_ := Aside0.mk (below_at hq_ HB.out); clear hq_ HO_8 HL244_0 HL246_0 HO249 BK245 HB; have HO_8 := n0_; have HL244_0 := n1_; have HL246_0 := n2_; have HO249 := n3_; have BK245 := n4_; have HB := n5_; clear n0_ n1_ n2_ n3_ n4_ n5_; (try (have n_ := Aside0.mk (Kd.S_mono (ok' := (fun k_ => some k_ ≠ (.slice Ao47 y247.length co47 : Value).ownBlock ∧ some k_ ≠ (.slice Ao49 t250.length co49 : Value).ownBlock ∧ k_ ≠ gb245)) HO_8.out (fun k_ hk => ⟨hk.1.2, ⟨hk.2, hk.1.1⟩⟩)); clear HO_8; have HO_8 := n_; clear n_)); (try (have HX50 := Aside0.mk (show Kd.S k80 80 w48 w.heap.size (fun k_ => ((fun k_ => some k_ ≠ (.slice Ao47 y247.length co47 : Value).ownBlock ∧ k_ ≠ gb245)) k_ ∧ ¬ ((fun k_ => some k_ = (.slice Ao49 t250.length co49 : Value).ownBlock)) k_) (.slice (some ⟨go39, 0, none⟩) x8_2.length co24) x8_2 from s7q29))); (try (obtain ⟨oki50, ce50, hcl50, hM50, hcc50, hfr50, hoki50, hH50⟩ := Kd.S_elem HX50.out z80 (x9_1 : Int) (of_decide_eq_true s7q10) s7q50)); (try (obtain ⟨ve50_0, rfl, ge50_0⟩ := k80_openM hM50)); (try (have HP50 := Kd.S_seg hH50 (of_decide_eq_true s7q10) s7q50 (seg := [.slice Ao49 t250.length co49, .int .i64 ji34]) (j := 0) (show 2 ≤ 2 from by decide) (x' := (⟨t250, ji34⟩ : S80)) (k80_mkM _ _ _ (⟨t250, ji34⟩ : S80) (Kd.R_mono (Kd.R_tight rfl (Kd.R_mono (ok' := fun k_ => ((fun k_ => some k_ ≠ (.slice Ao47 y247.length co47 : Value).ownBlock ∧ k_ ≠ gb245)) k_ ∧ k_ ≠ go39) (Kd.R_types (Kd.R_apart' (HO252.out) (Kd.S_typed HO_8.out) s7q2) BK245.out s7q2) (fun k_ hk => ⟨⟨hk.1.1.2, hk.2⟩, fun e_ => (hk.1.2) s7q3⟩))) (fun _ h_ => Or.inr (h_)))) (fun _ hk => hk) (fun k_ hk_ => ((Kd.R_mono (ok' := fun k_ => ((fun k_ => some k_ ≠ (.slice Ao47 y247.length co47 : Value).ownBlock ∧ k_ ≠ gb245)) k_ ∧ k_ ≠ go39) (Kd.R_types (Kd.R_apart' (HO252.out) (Kd.S_typed HO_8.out) s7q2) BK245.out s7q2) (fun k_ hk => ⟨⟨hk.1.1.2, hk.2⟩, fun e_ => (hk.1.2) s7q3⟩))).1 k_ hk_.symm))); (try (have hx50_0 := hcc50 0 _ rfl)); (try (try simp only [show (k80).sz = 2 from rfl, Nat.mul_one, Nat.add_zero] at hx50_0)); (try (have hf50_0 := hfr50 0)); (try (try simp only [show (k80).sz = 2 from rfl, Nat.mul_one, Nat.add_zero] at hf50_0)); (try (have hx50_1 := hcc50 1 _ rfl)); (try (try simp only [show (k80).sz = 2 from rfl, Nat.mul_one, Nat.add_zero] at hx50_1)); (try (have hf50_1 := hfr50 1)); (try (try simp only [show (k80).sz = 2 from rfl, Nat.mul_one, Nat.add_zero] at hf50_1)); (try (clear hcl50 hcc50 hfr50 hM50 hoki50 hH50)))); refine store_event (t := 80) (p := 94) (v := ?vo_w51) (w1 := ((w48.setCell ⟨go39, (x9_1 : Int).toNat * 2, none⟩ (.slice Ao49 t250.length co49)).setCell ⟨go39, (x9_1 : Int).toNat * 2 + 1, none⟩ (.int .i64 ji34))) ?hg ?ho ?hn ?hr ?_; (case ho => rfl); (case hg => rfl); (case hn => rfl); (case hr => first | (go_simp; done) | (go_simp; rfl)); intro w51 hw; have hg : w48.grownBy w51 (some go39) := (by rw [hw]; exact HP50.2); have hp_ : Kd.S k80 80 w51 w.heap.size (fun k_ => some k_ ≠ (.slice Ao47 y247.length co47 : Value).ownBlock ∧ k_ ≠ gb245) (.slice (some ⟨go39, 0, none⟩) x8_2.length co24) y253 := s7q7; clear HP50; have n0_ := Aside0.mk (hp_); have n1_ := Aside0.mk (Kd.R_after (v := (.slice (some ⟨go39, 0, none⟩) x8_2.length co24)) (v1 := (.slice (some ⟨go39, 0, none⟩) x8_2.length co24)) (ok := (fun k_ => some k_ ≠ (.slice Ao47 y247.length co47 : Value).ownBlock ∧ some k_ ≠ (.slice Ao49 t250.length co49 : Value).ownBlock)) s7q26 hg (.inl rfl)); have n2_ := Aside0.mk (blk_grown (g := gb245) (o := .cells #[.slice A244_0 ((rd_T80 x8_2 (Go.bits .andNot .i64 x9_1 (ji31))).f0).length c244_0, .int .i64 ((rd_T80 x8_2 (Go.bits .andNot .i64 x9_1 (ji31))).f1)] 80 (0, 0)) s7q24 hg (Kd.S_away HO_8.out (fun _ hk => hk.2.2))); have n3_ := Aside0.mk (Kd.R_after (v := (.slice (some ⟨go39, 0, none⟩) x8_2.length co24)) (v1 := (.slice (some ⟨go39, 0, none⟩) x8_2.length co24)) (ok := (fun k_ => some k_ ≠ (.slice Ao47 y247.length co47 : Value).ownBlock ∧ some k_ ≠ (.slice Ao49 t250.length co49 : Value).ownBlock ∧ k_ ≠ gb245)) s7q30 hg (.inl rfl)); have n4_ := Aside0.mk (Kd.R_over' (v := (.slice (some ⟨go39, 0, none⟩) x8_2.length co24)) s7q16 (Kd.S_typed HO_8.out) s7q2 hg); have n5_ := Aside0.mk ((s7q43 : Below w.heap.size w w51)); clear HO_8; clear HL244_0; clear BK245; clear HL246_0; clear HO249; clear HB; clear HO252; have HO_8 := n0_; have HL244_0 := n1_; have BK245 := n2_; have HL246_0 := n3_; have HO249 := n4_; have HB := n5_; clear n0_ n1_ n2_ n3_ n4_ n5_; clear hg hw hp_))
   (try simp only [← hl8_2])
   first | go_roundg k2 | (refine Handed.intro k2 ?measure ?_; rotate_left; go_step; (repeat apply Exists.intro); simp only [add_plain]; refine ⟨?rel, rfl⟩)
   case measure => have := HK1.out; have := HK2.out; omega
   case rel => exact ⟨(y253), (wrap64 (x50_2 + 1)), s7q9, H', ⟨by have := HK1.out; have := HK2.out; omega⟩, ⟨by (try simp only [hl8_2]); (with_reducible repeat (first | apply Kd.S_alloc | apply Kd.S_drewN | apply Kd.S_drew)); exact Kd.S_mono HO_8.out (fun _ hk => trivial)⟩, ⟨by repeat (first | (with_reducible first | exact HB.out | apply below_alloc | apply pw_below_drewN | apply below_drew1 | refine below_set ?_ GE245.out) | exact HB.out)⟩⟩
 rw [if_neg c37] at H
 have c37e : (((rd_T80 x8_2 x9_1).f0)).isEmpty = false := isEmpty_false s7q1
 have c37b0 : ((((rd_T80 x8_2 x9_1).f0).length : Int) == 0) = false := beq_eq_false_iff_ne.mpr c37
 have c37b1 : ((((rd_T80 x8_2 x9_1).f0).length : Int) != 0) = true := bne_iff_ne.mpr c37
 have c37b2 : ¬ (((rd_T80 x8_2 x9_1).f0) = []) := fun h_ => c37 (by rw [h_]; rfl)
 by_cases c52 : (ji34) < ((rd_T80 x8_2 x9_1).f1)
 case neg =>
  rw [if_neg c52] at H
  have c52b0 : decide ((ji34) < ((rd_T80 x8_2 x9_1).f1)) = false := decide_eq_false c52
  clear c52
  have H' := Aside0.mk H
  clear H
  have p244 : 0 ≤ ((Go.bits .andNot .i64 x9_1 (ji31)) : Int) := of_decide_eq_true s7q10
  have q244 : (Go.bits .andNot .i64 x9_1 (ji31)) < (x8_2.length : Int) := of_decide_eq_true s7q10
  obtain ⟨ad244, A244_0, c244_0, e244, hx244_0, hx244_1, hl244_0, hi244_0⟩ := at_T80 (Kd.S_reads' HO_8.out).2.2 (Go.bits .andNot .i64 x9_1 (ji31)) p244 q244
  have hnl244_0 := at_T80_nil0 (Kd.S_reads' HO_8.out).2.2 (Go.bits .andNot .i64 x9_1 (ji31)) p244 q244 e244 hx244_0
  cases e244
  obtain ⟨ce244, hce244, hMe244, hcc244⟩ := Kd.S_get HO_8.out z80 (Go.bits .andNot .i64 x9_1 (ji31)) p244 s7q45
  obtain ⟨ve244_0, rfl, ge244_0⟩ := k80_openM hMe244
  have hv244_0 := hcc244 0 _ rfl
  rw [Nat.add_zero] at hv244_0
  replace hv244_0 := Option.some.inj (hv244_0.symm.trans hx244_0)
  rw [hv244_0] at ge244_0
  have HL244_0 := Aside0.mk (show Kd.R (Kd.int .i64) 3 _ _ _ _ ((rd_T80 x8_2 (Go.bits .andNot .i64 x9_1 (ji31))).f0) from ge244_0)
  clear hv244_0 ge244_0
  clear hcc244 hce244
  have HR244_0 := Aside0.mk hi244_0
  have HC244_0 := Aside0.mk hl244_0
  clear hi244_0 hl244_0
  replace p244 := eq_true p244
  replace q244 := eq_true q244
  go_wp2_with (first | ((with_reducible refine gate_dst (N := 12) rfl ?_); refine box_event ?hg (N := 12) ?hd (cs := #[.slice none 0 0, .int .i64 0]) (t := 80) ?hr ?_; (case hd => rfl); (case hg => rfl); (case hr => first | (go_simp; done) | (go_simp; rfl)); intro gb245 hg w67 hbox hb; have n0_ := Aside0.mk (Kd.S_below (Kd.S_elderB s7q14 gb245 (Nat.le_of_eq hg.symm)) hb); have n1_ := Aside0.mk (Kd.R_below s7q20 hb); have n2_ := Aside0.mk (Kd.C_below s7q34 hb); have n3_ := Aside0.mk (below_step s7q25 hb); have n4_ := Aside0.mk (hbox); have n5_ := Aside0.mk ((s7q53 : w.heap.size ≤ gb245)); have n6_ := Aside0.mk ((s7q53 : w.heap.size ≤ gb245)); clear HO_8; clear HL244_0; clear HR244_0; clear HB; have HO_8 := n0_; have HL244_0 := n1_; have HR244_0 := n2_; have HB := n3_; have BK245 := n4_; have GW245 := n5_; have GE245 := n6_; clear n0_ n1_ n2_ n3_ n4_ n5_ n6_; clear hb hbox hg; have hcz68_0 : w67.cell? ⟨gb245, 0, none⟩ = some (.slice none 0 0) := (blk_cell BK245.out 0).trans rfl; have hcz68_1 : w67.cell? ⟨gb245, 1, none⟩ = some (.int .i64 0) := (blk_cell BK245.out 1).trans rfl; have hfz68_0 := blk_frozen BK245.out 0; have hfz68_1 := blk_frozen BK245.out 1) | ((with_reducible refine gate_store (t := 80) (p := 12) rfl ?_); (try (rw [drewN_self w67]; generalize hq_ : World.drewN w67 _ = w67; have n0_ := Aside0.mk (Kd.S_at hq_ HO_8.out); have n1_ := Aside0.mk (Kd.R_at hq_ HL244_0.out); have n2_ := Aside0.mk (blk_at hq_ BK245.out); have n3_ := Aside0.mk (Kd.C_at hq_ HR244_0.out); have n4_ := Aside0.mk (below_at hq_ HB.out); clear hq_ HO_8 HL244_0 BK245 HR244_0 HB; have HO_8 := n0_; have HL244_0 := n1_; have BK245 := n2_; have HR244_0 := n3_; have HB := n4_; clear n0_ n1_ n2_ n3_ n4_)); refine store_event (t := 80) (p := 12) (v := ?vo_w69) (w1 := ((w67.setCell ⟨gb245, 0, none⟩ (.slice A244_0 ((rd_T80 x8_2 (Go.bits .andNot .i64 x9_1 (ji31))).f0).length c244_0)).setCell ⟨gb245, 1, none⟩ (.int .i64 ((rd_T80 x8_2 (Go.bits .andNot .i64 x9_1 (ji31))).f1)))) ?hg ?ho ?hn ?hr ?_; (case ho => rfl); (case hg => rfl); (case hn => rfl); (case hr => first | (go_simp; done) | (go_simp; rfl)); intro w69 hw; have n0_ : Aside0 (Kd.S k80 80 w69 w.heap.size (fun k_ => k_ ≠ gb245) (.slice (some ad244) x8_2.length co24) x8_2) := ⟨s7q40⟩; have n1_ : Aside0 (Kd.R (Kd.int .i64) 3 w69 w.heap.size (fun k_ => some k_ ≠ (.slice (some ad244) x8_2.length co24 : Value).ownBlock) (.slice A244_0 ((rd_T80 x8_2 (Go.bits .andNot .i64 x9_1 (ji31))).f0).length c244_0) ((rd_T80 x8_2 (Go.bits .andNot .i64 x9_1 (ji31))).f0)) := ⟨s7q52⟩; have n2_ : Aside0 (w69.heap[gb245]? = some (.cells #[.slice A244_0 ((rd_T80 x8_2 (Go.bits .andNot .i64 x9_1 (ji31))).f0).length c244_0, .int .i64 ((rd_T80 x8_2 (Go.bits .andNot .i64 x9_1 (ji31))).f1)] 80 (0, 0))) := ⟨s7q41⟩; have n3_ : Aside0 (Below w.heap.size w w69) := ⟨s7q39⟩; clear hw; clear HO_8; clear HL244_0; clear BK245; clear HB; have HO_8 := n0_; have HL244_0 := n1_; have BK245 := n2_; have HB := n3_; clear n0_ n1_ n2_ n3_; clear HR244_0; have HR244_0 := Aside0.mk (Kd.R_reads' HL244_0.out).2.2; have hcz70_0 : w69.cell? ⟨gb245, 0, none⟩ = some (.slice A244_0 ((rd_T80 x8_2 (Go.bits .andNot .i64 x9_1 (ji31))).f0).length c244_0) := (blk_cell BK245.out 0).trans rfl; have hcz70_1 : w69.cell? ⟨gb245, 1, none⟩ = some (.int .i64 ((rd_T80 x8_2 (Go.bits .andNot .i64 x9_1 (ji31))).f1)) := (blk_cell BK245.out 1).trans rfl; have hfz70_0 := blk_frozen BK245.out 0; have hfz70_1 := blk_frozen BK245.out 1; have p246 : 0 ≤ (x9_1 : Int) := of_decide_eq_true s7q10; have q246 : x9_1 < (x8_2.length : Int) := of_decide_eq_true s7q10; obtain ⟨ad246, A246_0, c246_0, e246, hx246_0, hx246_1, hl246_0, hi246_0⟩ := at_T80 (Kd.S_reads' HO_8.out).2.2 x9_1 p246 q246; have hnl246_0 := at_T80_nil0 (Kd.S_reads' HO_8.out).2.2 x9_1 p246 q246 e246 hx246_0; obtain rfl : ad244 = ad246 := s7q4; obtain ⟨ce246, hce246, hMe246, hcc246⟩ := Kd.S_get HO_8.out z80 x9_1 p246 s7q46; obtain ⟨ve246_0, rfl, ge246_0⟩ := k80_openM hMe246; have hv246_0 := hcc246 0 _ rfl; rw [Nat.add_zero] at hv246_0; replace hv246_0 := Option.some.inj (hv246_0.symm.trans hx246_0); rw [hv246_0] at ge246_0; have HL246_0 := Aside0.mk (show Kd.R (Kd.int .i64) 3 _ _ _ _ ((rd_T80 x8_2 x9_1).f0) from ge246_0); clear hv246_0 ge246_0; clear hcc246 hce246; have HR246_0 := Aside0.mk hi246_0; have HC246_0 := Aside0.mk hl246_0; clear hi246_0 hl246_0; replace p246 := eq_true p246; replace q246 := eq_true q246; have p254 : 0 ≤ (x9_1 : Int) := of_decide_eq_true s7q10; have q254 : x9_1 < (x8_2.length : Int) := of_decide_eq_true s7q10; obtain ⟨ad254, A254_0, c254_0, e254, hx254_0, hx254_1, hl254_0, hi254_0⟩ := at_T80 (Kd.S_reads' HO_8.out).2.2 x9_1 p254 q254; have hnl254_0 := at_T80_nil0 (Kd.S_reads' HO_8.out).2.2 x9_1 p254 q254 e254 hx254_0; obtain rfl : ad244 = ad254 := s7q5; obtain ⟨ce254, hce254, hMe254, hcc254⟩ := Kd.S_get HO_8.out z80 x9_1 p254 s7q47; obtain ⟨ve254_0, rfl, ge254_0⟩ := k80_openM hMe254; have hv254_0 := hcc254 0 _ rfl; rw [Nat.add_zero] at hv254_0; replace hv254_0 := Option.some.inj (hv254_0.symm.trans hx254_0); rw [hv254_0] at ge254_0; have HL254_0 := Aside0.mk (show Kd.R (Kd.int .i64) 3 _ _ _ _ ((rd_T80 x8_2 x9_1).f0) from ge254_0); clear hv254_0 ge254_0; clear hcc254 hce254; have HR254_0 := Aside0.mk hi254_0; have HC254_0 := Aside0.mk hl254_0; clear hi254_0 hl254_0; replace p254 := eq_true p254; replace q254 := eq_true q254; have ea_ := Option.some.inj (hx246_0.symm.trans hx254_0); injection ea_ with ea_ en_ ec_; subst ea_; subst ec_; clear en_))
  (try simp only [← hl8_2])
  first | go_roundg k2 | (refine Handed.intro k2 ?measure ?_; rotate_left; go_step; (repeat apply Exists.intro); simp only [add_plain]; refine ⟨?rel, rfl⟩)
  case measure => have := HK1.out; have := HK2.out; omega
  case rel => exact ⟨(x8_2), (wrap64 (x50_2 + 1)), s7q9, H', ⟨by have := HK1.out; have := HK2.out; omega⟩, ⟨by (try simp only [hl8_2]); (with_reducible repeat (first | apply Kd.S_alloc | apply Kd.S_drewN | apply Kd.S_drew)); exact Kd.S_mono HO_8.out (fun _ hk => trivial)⟩, ⟨by repeat (first | (with_reducible first | exact HB.out | apply below_alloc | apply pw_below_drewN | apply below_drew1 | refine below_set ?_ GE245.out) | exact HB.out)⟩⟩
 rw [if_pos c52] at H
 have c52b0 : decide ((ji34) < ((rd_T80 x8_2 x9_1).f1)) = true := decide_eq_true c52
 clear c52
 obtain ⟨y255, hy255⟩ : ∃ y_ : List Int, y_ = (([x50_2] : List Int)) := ⟨_, rfl⟩
 replace H : ((cost_joined.f k2 ((rd_T80 x8_2 (Go.bits .andNot .i64 x9_1 (ji31))).f0) y255).bind fun t258 => (if (t258.length : Int) = 0 then (none) else (cost_BestLine.l1 k2 l0 l1 (x8_2.set (x9_1 : Int).toNat (⟨t258, ji34⟩ : S80)) x9_1 t243 (l0.length : Int) (wrap64 (x50_2 + 1))))) = some (r1, r2, r3) := sqz hy255 H
 have Ny255 := Aside0.mk hy255
 clear hy255
 replace H := Option.bind_eq_some_iff.mp H
 obtain ⟨t258, A530, H⟩ := H
 replace H : (if (t258.length : Int) = 0 then (none) else (cost_BestLine.l1 k2 l0 l1 (x8_2.set (x9_1 : Int).toNat (⟨t258, ji34⟩ : S80)) x9_1 t243 (l0.length : Int) (wrap64 (x50_2 + 1)))) = some (r1, r2, r3) := H
 have A53 := Aside0.mk A530
 clear A530
 by_cases c55 : (t258.length : Int) = 0
 · rw [if_pos c55] at H
   exact absurd H s7q0
 rw [if_neg c55] at H
 have c55b0 : ((t258.length : Int) == 0) = false := beq_eq_false_iff_ne.mpr c55
 have c55b1 : ((t258.length : Int) != 0) = true := bne_iff_ne.mpr c55
 have c55b2 : ¬ (t258 = []) := fun h_ => c55 (by rw [h_]; rfl)
 obtain ⟨y261, hy261⟩ : ∃ y_ : List (S80), y_ = (x8_2.set (x9_1 : Int).toNat (⟨t258, ji34⟩ : S80)) := ⟨_, rfl⟩
 replace H : (cost_BestLine.l1 k2 l0 l1 y261 x9_1 t243 (l0.length : Int) (wrap64 (x50_2 + 1))) = some (r1, r2, r3) := sqz hy261 H
 have Ny261 := Aside0.mk hy261
 clear hy261
 have H' := Aside0.mk H
 clear H
 have p244 : 0 ≤ ((Go.bits .andNot .i64 x9_1 (ji31)) : Int) := of_decide_eq_true s7q10
 have q244 : (Go.bits .andNot .i64 x9_1 (ji31)) < (x8_2.length : Int) := of_decide_eq_true s7q10
 obtain ⟨ad244, A244_0, c244_0, e244, hx244_0, hx244_1, hl244_0, hi244_0⟩ := at_T80 (Kd.S_reads' HO_8.out).2.2 (Go.bits .andNot .i64 x9_1 (ji31)) p244 q244
 have hnl244_0 := at_T80_nil0 (Kd.S_reads' HO_8.out).2.2 (Go.bits .andNot .i64 x9_1 (ji31)) p244 q244 e244 hx244_0
 cases e244
 obtain ⟨ce244, hce244, hMe244, hcc244⟩ := Kd.S_get HO_8.out z80 (Go.bits .andNot .i64 x9_1 (ji31)) p244 s7q45
 obtain ⟨ve244_0, rfl, ge244_0⟩ := k80_openM hMe244
 have hv244_0 := hcc244 0 _ rfl
 rw [Nat.add_zero] at hv244_0
 replace hv244_0 := Option.some.inj (hv244_0.symm.trans hx244_0)
 rw [hv244_0] at ge244_0
 have HL244_0 := Aside0.mk (show Kd.R (Kd.int .i64) 3 _ _ _ _ ((rd_T80 x8_2 (Go.bits .andNot .i64 x9_1 (ji31))).f0) from ge244_0)
 clear hv244_0 ge244_0
 clear hcc244 hce244
 have HR244_0 := Aside0.mk hi244_0
 have HC244_0 := Aside0.mk hl244_0
 clear hi244_0 hl244_0
 replace p244 := eq_true p244
 replace q244 := eq_true q244
 go_wp2_with (first | ((with_reducible refine gate_dst (N := 12) rfl ?_); refine box_event ?hg (N := 12) ?hd (cs := #[.slice none 0 0, .int .i64 0]) (t := 80) ?hr ?_; (case hd => rfl); (case hg => rfl); (case hr => first | (go_simp; done) | (go_simp; rfl)); intro gb245 hg w56 hbox hb; have n0_ := Aside0.mk (Kd.S_below (Kd.S_elderB s7q14 gb245 (Nat.le_of_eq hg.symm)) hb); have n1_ := Aside0.mk (Kd.R_below s7q20 hb); have n2_ := Aside0.mk (Kd.C_below s7q34 hb); have n3_ := Aside0.mk (below_step s7q25 hb); have n4_ := Aside0.mk (hbox); have n5_ := Aside0.mk ((s7q53 : w.heap.size ≤ gb245)); have n6_ := Aside0.mk ((s7q53 : w.heap.size ≤ gb245)); clear HO_8; clear HL244_0; clear HR244_0; clear HB; have HO_8 := n0_; have HL244_0 := n1_; have HR244_0 := n2_; have HB := n3_; have BK245 := n4_; have GW245 := n5_; have GE245 := n6_; clear n0_ n1_ n2_ n3_ n4_ n5_ n6_; clear hb hbox hg; have hcz57_0 : w56.cell? ⟨gb245, 0, none⟩ = some (.slice none 0 0) := (blk_cell BK245.out 0).trans rfl; have hcz57_1 : w56.cell? ⟨gb245, 1, none⟩ = some (.int .i64 0) := (blk_cell BK245.out 1).trans rfl; have hfz57_0 := blk_frozen BK245.out 0; have hfz57_1 := blk_frozen BK245.out 1) | ((with_reducible refine gate_store (t := 80) (p := 12) rfl ?_); (try (rw [drewN_self w56]; generalize hq_ : World.drewN w56 _ = w56; have n0_ := Aside0.mk (Kd.S_at hq_ HO_8.out); have n1_ := Aside0.mk (Kd.R_at hq_ HL244_0.out); have n2_ := Aside0.mk (blk_at hq_ BK245.out); have n3_ := Aside0.mk (Kd.C_at hq_ HR244_0.out); have n4_ := Aside0.mk (below_at hq_ HB.out); clear hq_ HO_8 HL244_0 BK245 HR244_0 HB; have HO_8 := n0_; have HL244_0 := n1_; have BK245 := n2_; have HR244_0 := n3_; have HB := n4_; clear n0_ n1_ n2_ n3_ n4_)); refine store_event (t := 80) (p := 12) (v := ?vo_w58) (w1 := ((w56.setCell ⟨gb245, 0, none⟩ (.slice A244_0 ((rd_T80 x8_2 (Go.bits .andNot .i64 x9_1 (ji31))).f0).length c244_0)).setCell ⟨gb245, 1, none⟩ (.int .i64 ((rd_T80 x8_2 (Go.bits .andNot .i64 x9_1 (ji31))).f1)))) ?hg ?ho ?hn ?hr ?_; (case ho => rfl); (case hg => rfl); (case hn => rfl); (case hr => first | (go_simp; done) | (go_simp; rfl)); intro w58 hw; have n0_ : Aside0 (Kd.S k80 80 w58 w.heap.size (fun k_ => k_ ≠ gb245) (.slice (some ad244) x8_2.length co24) x8_2) := ⟨s7q40⟩; have n1_ : Aside0 (Kd.R (Kd.int .i64) 3 w58 w.heap.size (fun k_ => some k_ ≠ (.slice (some ad244) x8_2.length co24 : Value).ownBlock) (.slice A244_0 ((rd_T80 x8_2 (Go.bits .andNot .i64 x9_1 (ji31))).f0).length c244_0) ((rd_T80 x8_2 (Go.bits .andNot .i64 x9_1 (ji31))).f0)) := ⟨s7q52⟩; have n2_ : Aside0 (w58.heap[gb245]? = some (.cells #[.slice A244_0 ((rd_T80 x8_2 (Go.bits .andNot .i64 x9_1 (ji31))).f0).length c244_0, .int .i64 ((rd_T80 x8_2 (Go.bits .andNot .i64 x9_1 (ji31))).f1)] 80 (0, 0))) := ⟨s7q41⟩; have n3_ : Aside0 (Below w.heap.size w w58) := ⟨s7q39⟩; clear hw; clear HO_8; clear HL244_0; clear BK245; clear HB; have HO_8 := n0_; have HL244_0 := n1_; have BK245 := n2_; have HB := n3_; clear n0_ n1_ n2_ n3_; clear HR244_0; have HR244_0 := Aside0.mk (Kd.R_reads' HL244_0.out).2.2; have hcz59_0 : w58.cell? ⟨gb245, 0, none⟩ = some (.slice A244_0 ((rd_T80 x8_2 (Go.bits .andNot .i64 x9_1 (ji31))).f0).length c244_0) := (blk_cell BK245.out 0).trans rfl; have hcz59_1 : w58.cell? ⟨gb245, 1, none⟩ = some (.int .i64 ((rd_T80 x8_2 (Go.bits .andNot .i64 x9_1 (ji31))).f1)) := (blk_cell BK245.out 1).trans rfl; have hfz59_0 := blk_frozen BK245.out 0; have hfz59_1 := blk_frozen BK245.out 1; have p246 : 0 ≤ (x9_1 : Int) := of_decide_eq_true s7q10; have q246 : x9_1 < (x8_2.length : Int) := of_decide_eq_true s7q10; obtain ⟨ad246, A246_0, c246_0, e246, hx246_0, hx246_1, hl246_0, hi246_0⟩ := at_T80 (Kd.S_reads' HO_8.out).2.2 x9_1 p246 q246; have hnl246_0 := at_T80_nil0 (Kd.S_reads' HO_8.out).2.2 x9_1 p246 q246 e246 hx246_0; obtain rfl : ad244 = ad246 := s7q4; obtain ⟨ce246, hce246, hMe246, hcc246⟩ := Kd.S_get HO_8.out z80 x9_1 p246 s7q46; obtain ⟨ve246_0, rfl, ge246_0⟩ := k80_openM hMe246; have hv246_0 := hcc246 0 _ rfl; rw [Nat.add_zero] at hv246_0; replace hv246_0 := Option.some.inj (hv246_0.symm.trans hx246_0); rw [hv246_0] at ge246_0; have HL246_0 := Aside0.mk (show Kd.R (Kd.int .i64) 3 _ _ _ _ ((rd_T80 x8_2 x9_1).f0) from ge246_0); clear hv246_0 ge246_0; clear hcc246 hce246; have HR246_0 := Aside0.mk hi246_0; have HC246_0 := Aside0.mk hl246_0; clear hi246_0 hl246_0; replace p246 := eq_true p246; replace q246 := eq_true q246; have p254 : 0 ≤ (x9_1 : Int) := of_decide_eq_true s7q10; have q254 : x9_1 < (x8_2.length : Int) := of_decide_eq_true s7q10; obtain ⟨ad254, A254_0, c254_0, e254, hx254_0, hx254_1, hl254_0, hi254_0⟩ := at_T80 (Kd.S_reads' HO_8.out).2.2 x9_1 p254 q254; have hnl254_0 := at_T80_nil0 (Kd.S_reads' HO_8.out).2.2 x9_1 p254 q254 e254 hx254_0; obtain rfl : ad244 = ad254 := s7q5; obtain ⟨ce254, hce254, hMe254, hcc254⟩ := Kd.S_get HO_8.out z80 x9_1 p254 s7q47; obtain ⟨ve254_0, rfl, ge254_0⟩ := k80_openM hMe254; have hv254_0 := hcc254 0 _ rfl; rw [Nat.add_zero] at hv254_0; replace hv254_0 := Option.some.inj (hv254_0.symm.trans hx254_0); rw [hv254_0] at ge254_0; have HL254_0 := Aside0.mk (show Kd.R (Kd.int .i64) 3 _ _ _ _ ((rd_T80 x8_2 x9_1).f0) from ge254_0); clear hv254_0 ge254_0; clear hcc254 hce254; have HR254_0 := Aside0.mk hi254_0; have HC254_0 := Aside0.mk hl254_0; clear hi254_0 hl254_0; replace p254 := eq_true p254; replace q254 := eq_true q254; have ea_ := Option.some.inj (hx246_0.symm.trans hx254_0); injection ea_ with ea_ en_ ec_; subst ea_; subst ec_; clear en_) | ((with_reducible refine gate_dst (N := 90) rfl ?_); refine Kd.R_lit (Kd.int .i64) _ 3 ?hg (N := 90) ?hd (xs := ([x50_2] : List Int)) (inner := [.int .i64 x50_2]) (ok := fun _ => True) (okp := fun _ => True) ?hr ?hp (fun _ hk => hk) trivial (Below.refl _ _) (Nat.le_refl _) s7q0 ?_; (case hd => rfl); (case hg => rfl); (case hr => first | (go_simp; done) | (go_simp; rfl)); (case hp => exact (Reps.one (show Kd.M (Kd.int .i64) _ _ _ x50_2 [.int .i64 x50_2] from rfl) (Reps.none _ _))); intro v256 w60 ho61 hb hg_ hnew_; clear hg_ hnew_; (first | rw [← Ny255.out] at ho61 | (simp only [Int.reduceToNat] at ho61; rw [← Ny255.out] at ho61)); have n0_ := Aside0.mk (Kd.S_elder' s7q14 (Kd.R_base ho61) hb); have n1_ := Aside0.mk (Kd.R_elder' s7q20 (Kd.R_base ho61) hb); have n2_ := Aside0.mk (Kd.R_elder' s7q21 (Kd.R_base ho61) hb); have n3_ := Aside0.mk (Kd.R_elder' s7q22 (Kd.R_base ho61) hb); have n4_ := Aside0.mk (Kd.R_lower (Kd.R_new' (Kd.R_new' (Kd.R_new' ho61 (Kd.R_lt s7q20)) (Kd.R_lt s7q21)) (Kd.R_lt s7q22)) (below_size s7q28)); have n5_ := Aside0.mk (Kd.C_below s7q34 hb); have n6_ := Aside0.mk (blk_below (g := gb245) (o := .cells #[.slice A244_0 ((rd_T80 x8_2 (Go.bits .andNot .i64 x9_1 (ji31))).f0).length c244_0, .int .i64 ((rd_T80 x8_2 (Go.bits .andNot .i64 x9_1 (ji31))).f1)] 80 (0, 0)) s7q24 hb); have n7_ := Aside0.mk (Kd.C_below s7q35 hb); have n8_ := Aside0.mk (Kd.C_below s7q36 hb); have n9_ := Aside0.mk (below_step s7q28 hb); clear HO_8; clear HL244_0; clear HL246_0; clear HL254_0; clear HR244_0; clear BK245; clear HR246_0; clear HR254_0; clear HB; have HO_8 := n0_; have HL244_0 := n1_; have HL246_0 := n2_; have HL254_0 := n3_; have HO257 := n4_; have HR244_0 := n5_; have BK245 := n6_; have HR246_0 := n7_; have HR254_0 := n8_; have HB := n9_; clear n0_ n1_ n2_ n3_ n4_ n5_ n6_ n7_ n8_ n9_; clear hb ho61; obtain ⟨Ao62, co62, eo62⟩ := Kd.R_slice HO257.out; subst eo62) | (go_at_call 47; (with_reducible refine (cost_joined.calls k2 _ _ ((rd_T80 x8_2 (Go.bits .andNot .i64 x9_1 (ji31))).f0) _ _ y255 t258 _ ?side1 ?side2 ?side3 ?side4 A53.out).mono ?_); (case side1 => repeat (first | exact s7q34 | (with_reducible refine Kd.C_alloc ?_ _) | (with_reducible refine Kd.C_drewN ?_ _) | (with_reducible refine Kd.C_drew ?_))); (case side2 => exact HC244_0.out); (case side3 => repeat (first | exact (Kd.R_reads' HO257.out).2.2 | (with_reducible refine Kd.C_alloc ?_ _) | (with_reducible refine Kd.C_drewN ?_ _) | (with_reducible refine Kd.C_drew ?_))); (case side4 => exact (Kd.R_reads' HO257.out).2.1); rintro e w63 ⟨v259, rfl, ho0, hb⟩; have n0_ := Aside0.mk (Kd.S_elder' s7q14 (Kd.R_base ho0) hb); have n1_ := Aside0.mk (Kd.R_elder' s7q20 (Kd.R_base ho0) hb); have n2_ := Aside0.mk (Kd.R_elder' s7q21 (Kd.R_base ho0) hb); have n3_ := Aside0.mk (Kd.R_elder' s7q22 (Kd.R_base ho0) hb); have n4_ := Aside0.mk (Kd.R_elder' s7q17 (Kd.R_base ho0) hb); have n5_ := Aside0.mk (Kd.R_lower (Kd.R_new' (Kd.R_new' (Kd.R_new' (Kd.R_new' ho0 (Kd.R_lt s7q20)) (Kd.R_lt s7q21)) (Kd.R_lt s7q22)) (Kd.R_lt s7q17)) (below_size s7q28)); have n6_ := Aside0.mk (Kd.C_below s7q34 hb); have n7_ := Aside0.mk (blk_below (g := gb245) (o := .cells #[.slice A244_0 ((rd_T80 x8_2 (Go.bits .andNot .i64 x9_1 (ji31))).f0).length c244_0, .int .i64 ((rd_T80 x8_2 (Go.bits .andNot .i64 x9_1 (ji31))).f1)] 80 (0, 0)) s7q24 hb); have n8_ := Aside0.mk (Kd.C_below s7q35 hb); have n9_ := Aside0.mk (Kd.C_below s7q36 hb); have n10_ := Aside0.mk (below_step s7q28 hb); clear HO_8; clear HL244_0; clear HL246_0; clear HL254_0; clear HO257; clear HR244_0; clear BK245; clear HR246_0; clear HR254_0; clear HB; have HO_8 := n0_; have HL244_0 := n1_; have HL246_0 := n2_; have HL254_0 := n3_; have HO257 := n4_; have HO260 := n5_; have HR244_0 := n6_; have BK245 := n7_; have HR246_0 := n8_; have HR254_0 := n9_; have HB := n10_; clear n0_ n1_ n2_ n3_ n4_ n5_ n6_ n7_ n8_ n9_ n10_; (try clear hb); (try clear hb2); (try clear hk); (try clear hi); (try clear ho0); obtain ⟨Ao64, co64, eo64⟩ := Kd.R_slice HO260.out; subst eo64; have p54 : 0 ≤ (x9_1 : Int) := of_decide_eq_true s7q10; have q54 : (x9_1 : Int) < ((x8_2.length : Int) : Int) := of_decide_eq_true s7q10; obtain ⟨go54, co54, eo54, gb54, gl54, cl54, HG54⟩ := Kd.S_form HO_8.out s7q13; (first | cases eo54 | (injection eo54 with ea_ en_ ec_; (first | subst ea_ | (injection ea_ with ea_; subst ea_)); subst ec_; clear en_)); have GB54 := Aside0.mk gb54; have GG54 := Aside0.mk HG54; clear gb54 gl54 HG54; (first | simp only [add_plain] at hx244_0 | skip); (first | simp only [add_plain] at hx244_1 | skip); (first | simp only [add_plain] at hx246_0 | skip); (first | simp only [add_plain] at hx246_1 | skip); (first | simp only [add_plain] at hx254_0 | skip); (first | simp only [add_plain] at hx254_1 | skip); obtain ⟨_, ce54, hcl54, hM54, hcc54, hfr54, _, _⟩ := Kd.S_elem HO_8.out z80 (x9_1 : Int) p54 q54; obtain ⟨ve54_0, rfl, ge54_0⟩ := k80_openM hM54; have hx54_0 : w63.cell? ⟨go54, (x9_1 : Int).toNat * 2, none⟩ = some (ve54_0) := hcc54 0 _ rfl; have hx54_1 : w63.cell? ⟨go54, (x9_1 : Int).toNat * 2 + 1, none⟩ = some (.int .i64 ((rd_T80 x8_2 x9_1).f1)) := hcc54 1 _ rfl; have hf54_0 : w63.frozen? ⟨go54, (x9_1 : Int).toNat * 2, none⟩ = false := hfr54 0; have hf54_1 : w63.frozen? ⟨go54, (x9_1 : Int).toNat * 2 + 1, none⟩ = false := hfr54 1; clear hcl54 hcc54 hfr54 hM54; replace p54 := eq_true p54; replace q54 := eq_true q54; have n_ := Aside0.mk (Kd.S_mono (ok' := (fun k_ => some k_ ≠ (.slice Ao62 y255.length co62 : Value).ownBlock ∧ some k_ ≠ (.slice Ao64 t258.length co64 : Value).ownBlock ∧ k_ ≠ gb245)) HO_8.out (fun k_ hk => ⟨hk.1.2, ⟨hk.2, hk.1.1⟩⟩)); clear HO_8; have HO_8 := n_; clear n_; have HX65 := Aside0.mk (show Kd.S k80 80 w63 w.heap.size (fun k_ => ((fun k_ => some k_ ≠ (.slice Ao62 y255.length co62 : Value).ownBlock ∧ k_ ≠ gb245)) k_ ∧ ¬ ((fun k_ => some k_ = (.slice Ao64 t258.length co64 : Value).ownBlock)) k_) (.slice (some ⟨go54, 0, none⟩) x8_2.length co24) x8_2 from s7q29); obtain ⟨oki65, ce65, hcl65, hM65, hcc65, hfr65, hoki65, hH65⟩ := Kd.S_elem HX65.out z80 (x9_1 : Int) (of_decide_eq_true s7q10) s7q50; obtain ⟨ve65_0, rfl, ge65_0⟩ := k80_openM hM65; have HP65 := Kd.S_seg hH65 (of_decide_eq_true s7q10) s7q50 (seg := [.slice Ao64 t258.length co64, .int .i64 ji34]) (j := 0) (show 2 ≤ 2 from by decide) (x' := (⟨t258, ji34⟩ : S80)) (k80_mkM _ _ _ (⟨t258, ji34⟩ : S80) (Kd.R_mono (Kd.R_tight rfl (Kd.R_mono (ok' := fun k_ => ((fun k_ => some k_ ≠ (.slice Ao62 y255.length co62 : Value).ownBlock ∧ k_ ≠ gb245)) k_ ∧ k_ ≠ go54) (Kd.R_types (Kd.R_apart' (HO260.out) (Kd.S_typed HO_8.out) s7q2) BK245.out s7q2) (fun k_ hk => ⟨⟨hk.1.1.2, hk.2⟩, fun e_ => (hk.1.2) s7q3⟩))) (fun _ h_ => Or.inr (h_)))) (fun _ hk => hk) (fun k_ hk_ => ((Kd.R_mono (ok' := fun k_ => ((fun k_ => some k_ ≠ (.slice Ao62 y255.length co62 : Value).ownBlock ∧ k_ ≠ gb245)) k_ ∧ k_ ≠ go54) (Kd.R_types (Kd.R_apart' (HO260.out) (Kd.S_typed HO_8.out) s7q2) BK245.out s7q2) (fun k_ hk => ⟨⟨hk.1.1.2, hk.2⟩, fun e_ => (hk.1.2) s7q3⟩))).1 k_ hk_.symm); have hx65_0 := hcc65 0 _ rfl; (try simp only [show (k80).sz = 2 from rfl, Nat.mul_one, Nat.add_zero] at hx65_0); have hf65_0 := hfr65 0; (try simp only [show (k80).sz = 2 from rfl, Nat.mul_one, Nat.add_zero] at hf65_0); have hx65_1 := hcc65 1 _ rfl; (try simp only [show (k80).sz = 2 from rfl, Nat.mul_one, Nat.add_zero] at hx65_1); have hf65_1 := hfr65 1; (try simp only [show (k80).sz = 2 from rfl, Nat.mul_one, Nat.add_zero] at hf65_1); clear hcl65 hcc65 hfr65 hM65 hoki65 hH65) | ((with_reducible refine gate_store (t := 80) (p := 94) rfl ?_); (try (rw [drewN_self w63]; generalize hq_ : World.drewN w63 _ = w63; have n0_ := Aside0.mk (Kd.S_at hq_ HO_8.out); have n1_ := Aside0.mk (Kd.R_at hq_ HL244_0.out); have n2_ := Aside0.mk (Kd.R_at hq_ HL246_0.out); have n3_ := Aside0.mk (Kd.R_at hq_ HL254_0.out); have n4_ := Aside0.mk (Kd.R_at hq_ HO257.out); have n5_ := Aside0.mk (blk_at hq_ BK245.out); have n6_ := Aside0.mk (below_at hq_ HB.out); clear hq_ HO_8 HL244_0 HL246_0 HL254_0 HO257 BK245 HB; have HO_8 := n0_; have HL244_0 := n1_; have HL246_0 := n2_; have HL254_0 := n3_; have HO257 := n4_; have BK245 := n5_; have HB := n6_; clear n0_ n1_ n2_ n3_ n4_ n5_ n6_; (try (have n_ := Aside0.mk (Kd.S_mono (ok' := (fun k_ => some k_ ≠ (.slice Ao62 y255.length co62 : Value).ownBlock ∧ some k_ ≠ (.slice Ao64 t258.length co64 : Value).ownBlock ∧ k_ ≠ gb245)) HO_8.out (fun k_ hk => ⟨hk.1.2, ⟨hk.2, hk.1.1⟩⟩)); clear HO_8; have HO_8 := n_; clear n_)); (try (have HX65 := Aside0.mk (show Kd.S k80 80 w63 w.heap.size (fun k_ => ((fun k_ => some k_ ≠ (.slice Ao62 y255.length co62 : Value).ownBlock ∧ k_ ≠ gb245)) k_ ∧ ¬ ((fun k_ => some k_ = (.slice Ao64 t258.length co64 : Value).ownBlock)) k_) (.slice (some ⟨go54, 0, none⟩) x8_2.length co24) x8_2 from s7q29))); (try (obtain ⟨oki65, ce65, hcl65, hM65, hcc65, hfr65, hoki65, hH65⟩ := Kd.S_elem HX65.out z80 (x9_1 : Int) (of_decide_eq_true s7q10) s7q50)); (try (obtain ⟨ve65_0, rfl, ge65_0⟩ := k80_openM hM65)); (try (have HP65 := Kd.S_seg hH65 (of_decide_eq_true s7q10) s7q50 (seg := [.slice Ao64 t258.length co64, .int .i64 ji34]) (j := 0) (show 2 ≤ 2 from by decide) (x' := (⟨t258, ji34⟩ : S80)) (k80_mkM _ _ _ (⟨t258, ji34⟩ : S80) (Kd.R_mono (Kd.R_tight rfl (Kd.R_mono (ok' := fun k_ => ((fun k_ => some k_ ≠ (.slice Ao62 y255.length co62 : Value).ownBlock ∧ k_ ≠ gb245)) k_ ∧ k_ ≠ go54) (Kd.R_types (Kd.R_apart' (HO260.out) (Kd.S_typed HO_8.out) s7q2) BK245.out s7q2) (fun k_ hk => ⟨⟨hk.1.1.2, hk.2⟩, fun e_ => (hk.1.2) s7q3⟩))) (fun _ h_ => Or.inr (h_)))) (fun _ hk => hk) (fun k_ hk_ => ((Kd.R_mono (ok' := fun k_ => ((fun k_ => some k_ ≠ (.slice Ao62 y255.length co62 : Value).ownBlock ∧ k_ ≠ gb245)) k_ ∧ k_ ≠ go54) (Kd.R_types (Kd.R_apart' (HO260.out) (Kd.S_typed HO_8.out) s7q2) BK245.out s7q2) (fun k_ hk => ⟨⟨hk.1.1.2, hk.2⟩, fun e_ => (hk.1.2) s7q3⟩))).1 k_ hk_.symm))); (try (have hx65_0 := hcc65 0 _ rfl)); (try (try simp only [show (k80).sz = 2 from rfl, Nat.mul_one, Nat.add_zero] at hx65_0)); (try (have hf65_0 := hfr65 0)); (try (try simp only [show (k80).sz = 2 from rfl, Nat.mul_one, Nat.add_zero] at hf65_0)); (try (have hx65_1 := hcc65 1 _ rfl)); (try (try simp only [show (k80).sz = 2 from rfl, Nat.mul_one, Nat.add_zero] at hx65_1)); (try (have hf65_1 := hfr65 1)); (try (try simp only [show (k80).sz = 2 from rfl, Nat.mul_one, Nat.add_zero] at hf65_1)); (try (clear hcl65 hcc65 hfr65 hM65 hoki65 hH65)))); refine store_event (t := 80) (p := 94) (v := ?vo_w66) (w1 := ((w63.setCell ⟨go54, (x9_1 : Int).toNat * 2, none⟩ (.slice Ao64 t258.length co64)).setCell ⟨go54, (x9_1 : Int).toNat * 2 + 1, none⟩ (.int .i64 ji34))) ?hg ?ho ?hn ?hr ?_; (case ho => rfl); (case hg => rfl); (case hn => rfl); (case hr => first | (go_simp; done) | (go_simp; rfl)); intro w66 hw; have hg : w63.grownBy w66 (some go54) := (by rw [hw]; exact HP65.2); have hp_ : Kd.S k80 80 w66 w.heap.size (fun k_ => some k_ ≠ (.slice Ao62 y255.length co62 : Value).ownBlock ∧ k_ ≠ gb245) (.slice (some ⟨go54, 0, none⟩) x8_2.length co24) y261 := s7q8; clear HP65; have n0_ := Aside0.mk (hp_); have n1_ := Aside0.mk (Kd.R_after (v := (.slice (some ⟨go54, 0, none⟩) x8_2.length co24)) (v1 := (.slice (some ⟨go54, 0, none⟩) x8_2.length co24)) (ok := (fun k_ => some k_ ≠ (.slice Ao62 y255.length co62 : Value).ownBlock ∧ some k_ ≠ (.slice Ao64 t258.length co64 : Value).ownBlock)) s7q26 hg (.inl rfl)); have n2_ := Aside0.mk (blk_grown (g := gb245) (o := .cells #[.slice A244_0 ((rd_T80 x8_2 (Go.bits .andNot .i64 x9_1 (ji31))).f0).length c244_0, .int .i64 ((rd_T80 x8_2 (Go.bits .andNot .i64 x9_1 (ji31))).f1)] 80 (0, 0)) s7q24 hg (Kd.S_away HO_8.out (fun _ hk => hk.2.2))); have n3_ := Aside0.mk (Kd.R_after (v := (.slice (some ⟨go54, 0, none⟩) x8_2.length co24)) (v1 := (.slice (some ⟨go54, 0, none⟩) x8_2.length co24)) (ok := (fun k_ => some k_ ≠ (.slice Ao62 y255.length co62 : Value).ownBlock ∧ some k_ ≠ (.slice Ao64 t258.length co64 : Value).ownBlock ∧ k_ ≠ gb245)) s7q30 hg (.inl rfl)); have n4_ := Aside0.mk (Kd.R_after (v := (.slice (some ⟨go54, 0, none⟩) x8_2.length co24)) (v1 := (.slice (some ⟨go54, 0, none⟩) x8_2.length co24)) (ok := (fun k_ => some k_ ≠ (.slice Ao62 y255.length co62 : Value).ownBlock ∧ some k_ ≠ (.slice Ao64 t258.length co64 : Value).ownBlock ∧ k_ ≠ gb245)) s7q31 hg (.inl rfl)); have n5_ := Aside0.mk (Kd.R_over' (v := (.slice (some ⟨go54, 0, none⟩) x8_2.length co24)) s7q17 (Kd.S_typed HO_8.out) s7q2 hg); have n6_ := Aside0.mk ((s7q44 : Below w.heap.size w w66)); clear HO_8; clear HL244_0; clear BK245; clear HL246_0; clear HL254_0; clear HO257; clear HB; clear HO260; have HO_8 := n0_; have HL244_0 := n1_; have BK245 := n2_; have HL246_0 := n3_; have HL254_0 := n4_; have HO257 := n5_; have HB := n6_; clear n0_ n1_ n2_ n3_ n4_ n5_ n6_; clear hg hw hp_))
 (try simp only [← hl8_2])
 first | go_roundg k2 | (refine Handed.intro k2 ?measure ?_; rotate_left; go_step; (repeat apply Exists.intro); simp only [add_plain]; refine ⟨?rel, rfl⟩)
 case measure => have := HK1.out; have := HK2.out; omega
 case rel => exact ⟨(y261), (wrap64 (x50_2 + 1)), s7q9, H', ⟨by have := HK1.out; have := HK2.out; omega⟩, ⟨by (try simp only [hl8_2]); (with_reducible repeat (first | apply Kd.S_alloc | apply Kd.S_drewN | apply Kd.S_drew)); exact Kd.S_mono HO_8.out (fun _ hk => trivial)⟩, ⟨by repeat (first | (with_reducible first | exact HB.out | apply below_alloc | apply pw_below_drewN | apply below_drew1 | refine below_set ?_ GE245.out) | exact HB.out)⟩⟩
/-! ### slices_Clone_int_int: function 49 -/
def slices_Clone_int_int.f (l0 : List Int) : Option (List Int) := if (l0.length : Int) = 0 then (some ([] : List Int)) else ((some (([] : List Int) : List Int)).bind fun y262 => (if y262.length + l0.length < 17592186044416 then (some (y262 ++ l0)) else (none)))
set_option maxHeartbeats 8000000 in
set_option maxRecDepth 100000 in
theorem slices_Clone_int_int.calls (A0 : Option Addr) (c0 : Nat) (l0 : List Int) (r : List Int) (w : World) (hr0 : Kd.C (Kd.int .i64) w A0 l0.length l0) (hc0 : l0.length ≤ c0) (h : slices_Clone_int_int.f l0 = some r) :
    Calls Tryd.prog 49 #[.slice A0 l0.length c0] w fun e w' => ∃ v0_ : Value, e = .returned (v0_) ∧ Kd.R (Kd.int .i64) 3 w' w.heap.size (fun _ => True) v0_ r ∧ Below w.heap.size w w' := by
 have hnileql22 := fun (W : World) (a : Option Addr) (n c : Nat) => run_eql_nil (P := Tryd.prog) W 22 3 a n c Tryd.underlying22
 have HR0 := Aside0.mk hr0
 have HC0 := Aside0.mk hc0
 clear hr0 hc0
 have HB := Aside0.mk (Below.refl w.heap.size w)
 have H : (if (l0.length : Int) = 0 then (some ([] : List Int)) else ((some (([] : List Int) : List Int)).bind fun y262 => (if y262.length + l0.length < 17592186044416 then (some (y262 ++ l0)) else (none)))) = some r := h
 clear h
 by_cases c2 : (l0.length : Int) = 0
 case neg =>
  rw [if_neg c2] at H
  have c2n : A0.isNone = false := C_isSome HR0.out s7q1
  obtain ⟨y262, hy262⟩ : ∃ y_ : List Int, y_ = (([] : List Int)) := ⟨_, rfl⟩
  replace H : (if y262.length + l0.length < 17592186044416 then (some (y262 ++ l0)) else (none)) = some r := sqz hy262 H
  have Ny262 := Aside0.mk hy262
  clear hy262
  by_cases c7 : y262.length + l0.length < 17592186044416
  case neg =>
   rw [if_neg c7] at H
   exact absurd H s7q0
  rw [if_pos c7] at H
  have LMc7 := Aside0.mk c7
  clear c7
  obtain ⟨y265, hy265⟩ : ∃ y_ : List Int, y_ = (y262 ++ l0) := ⟨_, rfl⟩
  replace H : (some y265) = some r := sqz hy265 H
  have Ny265 := Aside0.mk hy265
  clear hy265
  obtain rfl := Option.some.inj H
  go_enter Tryd.func49, Tryd.ntmps49
  go_wp2_with (first | ((with_reducible refine gate_dst (N := 5) rfl ?_); refine Kd.R_lit (Kd.int .i64) _ 3 ?hg (N := 5) ?hd (xs := ([] : List Int)) (inner := []) (ok := fun _ => True) (okp := fun _ => True) ?hr ?hp (fun _ hk => hk) trivial (Below.refl _ _) (Nat.le_refl _) s7q0 ?_; (case hd => rfl); (case hg => rfl); (case hr => first | (go_simp; done) | (go_simp; rfl)); (case hp => exact (Reps.none _ _)); intro v263 w8 ho9 hb hg_ hnew_; clear hg_ hnew_; (first | rw [← Ny262.out] at ho9 | (simp only [Int.reduceToNat] at ho9; rw [← Ny262.out] at ho9)); have n0_ := Aside0.mk (Kd.R_lower ho9 (below_size s7q25)); have n1_ := Aside0.mk (below_step s7q25 hb); clear HB; have HO264 := n0_; have HB := n1_; clear n0_ n1_; clear hb ho9) | ((with_reducible refine gate_builtin (b := .append) (xs := #[.tmp 5, .tmp 6]) rfl ?_); at_builtin; refine Kd.R_append_rows (Kd.int .i64) (w0 := w) w.heap.size rfl (.tmp 5) (.tmp 6) 22 3 (.int .i64 0) 8 rfl Tryd.underlying22 info3 rfl s7q2 s7q1 v263 y262 l0 _ _ _ (fun _ => True) (fun _ => False) rfl rfl ?aO ?aR (fun _ _ h => h) (fun _ h => h.elim) ?aF ?aB ?aS ?aL ?_; (case aR => repeat (first | exact (Kd.C_below HR0.out HB.out) | (with_reducible refine Kd.C_alloc ?_ _) | (with_reducible refine Kd.C_drewN ?_ _) | (with_reducible refine Kd.C_drew ?_))); (case aB => exact s7q25); (case aF => exact (fun _ _ => trivial)); (case aO => exact s7q18); (case aS => exact (below_size s7q25)); (case aL => have := LMc7.out; omega); intro v266 w10 ho hb hg hat; rw [← Ny265.out] at ho; have n0_ := Aside0.mk (hb); have n1_ := Aside0.mk (ho); clear HB; clear HO264; have HB := n0_; have HO267 := n1_; clear n0_ n1_; clear ho hb hg hat))
  go_ret
  exact ⟨_, by first | rfl | (simp [errW_none, errW_some] <;> rfl) | (simp [*, errW_none, errW_some] <;> rfl), by (with_reducible repeat (first | apply Kd.R_alloc | apply Kd.R_drewN | apply Kd.R_drew)); exact HO267.out, by repeat (first | (with_reducible first | exact HB.out | apply below_alloc | apply pw_below_drewN | apply below_drew1) | exact HB.out)⟩
 have he_ : l0 = [] := List.eq_nil_of_length_eq_zero s7q1
 by_cases c2n : A0.isNone = true
 · rw [if_pos c2] at H
   clear he_
   obtain rfl := Option.some.inj H
   go_enter Tryd.func49, Tryd.ntmps49
   go_wp2
   go_ret
   exact ⟨_, by first | rfl | (simp [errW_none, errW_some] <;> rfl) | (simp [*, errW_none, errW_some] <;> rfl), by first | exact Kd.R_nil _ _ _ _ _ | exact Kd.N_nil _ _ _ _ _ | exact Kd.V_nil _ _ _ _ _ | exact Kd.Q_nil _ _ _ _ _ | exact Kd.S_nil _ _ _ _ _, by repeat (first | (with_reducible first | exact HB.out | apply below_alloc | apply pw_below_drewN | apply below_drew1) | exact HB.out)⟩
 rw [if_pos c2] at H
 replace c2n : A0.isNone = false := Bool.eq_false_iff.mpr c2n
 have H2 : ((some (([] : List Int) : List Int)).bind fun y262 => (if y262.length + l0.length < 17592186044416 then (some (y262 ++ l0)) else (none))) = some r := by (try rw [he_] at H); (try rw [he_]); first | exact H | simpa using H
 clear H he_
 have H := H2
 clear H2
 obtain ⟨y262, hy262⟩ : ∃ y_ : List Int, y_ = (([] : List Int)) := ⟨_, rfl⟩
 replace H : (if y262.length + l0.length < 17592186044416 then (some (y262 ++ l0)) else (none)) = some r := sqz hy262 H
 have Ny262 := Aside0.mk hy262
 clear hy262
 by_cases c3 : y262.length + l0.length < 17592186044416
 case neg =>
  rw [if_neg c3] at H
  exact absurd H s7q0
 rw [if_pos c3] at H
 have LMc3 := Aside0.mk c3
 clear c3
 obtain ⟨y265, hy265⟩ : ∃ y_ : List Int, y_ = (y262 ++ l0) := ⟨_, rfl⟩
 replace H : (some y265) = some r := sqz hy265 H
 have Ny265 := Aside0.mk hy265
 clear hy265
 obtain rfl := Option.some.inj H
 go_enter Tryd.func49, Tryd.ntmps49
 go_wp2_with (first | ((with_reducible refine gate_dst (N := 5) rfl ?_); refine Kd.R_lit (Kd.int .i64) _ 3 ?hg (N := 5) ?hd (xs := ([] : List Int)) (inner := []) (ok := fun _ => True) (okp := fun _ => True) ?hr ?hp (fun _ hk => hk) trivial (Below.refl _ _) (Nat.le_refl _) s7q0 ?_; (case hd => rfl); (case hg => rfl); (case hr => first | (go_simp; done) | (go_simp; rfl)); (case hp => exact (Reps.none _ _)); intro v263 w4 ho5 hb hg_ hnew_; clear hg_ hnew_; (first | rw [← Ny262.out] at ho5 | (simp only [Int.reduceToNat] at ho5; rw [← Ny262.out] at ho5)); have n0_ := Aside0.mk (Kd.R_lower ho5 (below_size s7q25)); have n1_ := Aside0.mk (below_step s7q25 hb); clear HB; have HO264 := n0_; have HB := n1_; clear n0_ n1_; clear hb ho5) | ((with_reducible refine gate_builtin (b := .append) (xs := #[.tmp 5, .tmp 6]) rfl ?_); at_builtin; refine Kd.R_append_rows (Kd.int .i64) (w0 := w) w.heap.size rfl (.tmp 5) (.tmp 6) 22 3 (.int .i64 0) 8 rfl Tryd.underlying22 info3 rfl s7q2 s7q1 v263 y262 l0 _ _ _ (fun _ => True) (fun _ => False) rfl rfl ?aO ?aR (fun _ _ h => h) (fun _ h => h.elim) ?aF ?aB ?aS ?aL ?_; (case aR => repeat (first | exact (Kd.C_below HR0.out HB.out) | (with_reducible refine Kd.C_alloc ?_ _) | (with_reducible refine Kd.C_drewN ?_ _) | (with_reducible refine Kd.C_drew ?_))); (case aB => exact s7q25); (case aF => exact (fun _ _ => trivial)); (case aO => exact s7q18); (case aS => exact (below_size s7q25)); (case aL => have := LMc3.out; omega); intro v266 w6 ho hb hg hat; rw [← Ny265.out] at ho; have n0_ := Aside0.mk (hb); have n1_ := Aside0.mk (ho); clear HB; clear HO264; have HB := n0_; have HO267 := n1_; clear n0_ n1_; clear ho hb hg hat))
 go_ret
 exact ⟨_, by first | rfl | (simp [errW_none, errW_some] <;> rfl) | (simp [*, errW_none, errW_some] <;> rfl), by (with_reducible repeat (first | apply Kd.R_alloc | apply Kd.R_drewN | apply Kd.R_drew)); exact HO267.out, by repeat (first | (with_reducible first | exact HB.out | apply below_alloc | apply pw_below_drewN | apply below_drew1) | exact HB.out)⟩
end Go.Proofs.YtgcijejmmhjibaaDoor.G
