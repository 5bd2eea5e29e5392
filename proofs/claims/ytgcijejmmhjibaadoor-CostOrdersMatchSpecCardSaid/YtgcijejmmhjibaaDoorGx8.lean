-- Printed by a program of this session (a patched print).
import Derived.Test.YtgcijejmmhjibaaDoorGx0
import Derived.Test.YtgcijejmmhjibaaDoorGx4
import Derived.Test.YtgcijejmmhjibaaDoorGx5
import Derived.Test.YtgcijejmmhjibaaDoorGx7
namespace Go.Proofs.YtgcijejmmhjibaaDoor.G
open Go.RowKit Go.Proofs.YtgcijejmmhjibaaDoorW.PrintWords Go.Proofs.YtgcijejmmhjibaaDoorW.PrintLast Go.Proofs.YtgcijejmmhjibaaDoorW.PrintMore
attribute [local go_sem] max2_int min2_int max_two min_two max_three min_three max_four min_four   -- for this text's walks alone
set_option linter.unusedVariables false
set_option linter.unusedSimpArgs false

theorem s8qm0 {p : Prop} (h : p := by repeat' first | (with_reducible exact ih0 _ _ _ _ _) | (with_reducible exact ih1 _ _ _ _) | (with_reducible exact ih2 _ _ _ _ _ _ _) | (with_reducible exact peristyleref10_checkGraph.mono _ _ _) | (with_reducible exact peristyleref10_size.mono _ _ _ _) | (with_reducible exact LeO.refl _) | (with_reducible exact LeO.none _) | (with_reducible refine LeO.ite ?_ ?_) | (with_reducible refine LeO.bind ?_ (fun _ => ?_)) | exact ih0 _ _ _ _ _ | exact ih1 _ _ _ _ | exact ih2 _ _ _ _ _ _ _ | exact peristyleref10_checkGraph.mono _ _ _ | exact peristyleref10_size.mono _ _ _ _ | exact LeO.none _ | refine LeO.ite ?_ ?_ | refine LeO.bind ?_ (fun _ => ?_)) : p := h
theorem s8q0 {p : Prop} (h : p := by simp) : p := h
theorem s8q1 {p : Prop} (h : p := by omega) : p := h
theorem s8q2 {p : Prop} (h : p := by decide) : p := h
theorem s8q3 {p : Prop} (h : p := by rw [e_]; rfl) : p := h
theorem s8q4 {p : Prop} (h : p := by injection e282) : p := h
theorem s8q5 {p : Prop} (h : p := by injection e283) : p := h
theorem s8q6 {p : Prop} (h : p := by rw [hw, Ny275.out]; exact HP20.1) : p := h
theorem s8q7 {p : Prop} (h : p := by rw [hw, Ny293.out]; exact HP57.1) : p := h
theorem s8q8 {p : Prop} (h : p := by rw [hw, Ny303.out]; exact HP76.1) : p := h
theorem s8q9 {p : Prop} (h : p := by first | rfl | (simp; done) | (simp [*]; done)) : p := h
theorem s8q10 {p : Prop} (h : p := by first | (with_reducible assumption) | assumption) : p := h
theorem s8q11 {p : Prop} (h : p := by first | exact Int.natCast_pos.1 (Int.lt_of_le_of_lt p16 q16) | omega) : p := h
theorem s8q12 {p : Prop} (h : p := by first | exact Int.natCast_pos.1 (Int.lt_of_le_of_lt p46 q46) | omega) : p := h
theorem s8q13 {p : Prop} (h : p := by first | exact Int.natCast_pos.1 (Int.lt_of_le_of_lt p65 q65) | omega) : p := h
theorem s8q14 {p : Prop} (h : p := by (with_reducible repeat (first | apply Kd.S_alloc | apply Kd.S_drewN | apply Kd.S_drew)); exact HO_8.out) : p := h
theorem s8q15 {p : Prop} (h : p := by (with_reducible repeat (first | apply Kd.R_alloc | apply Kd.R_drewN | apply Kd.R_drew)); exact HO286.out) : p := h
theorem s8q16 {p : Prop} (h : p := by (with_reducible repeat (first | apply Kd.R_alloc | apply Kd.R_drewN | apply Kd.R_drew)); exact HO289.out) : p := h
theorem s8q17 {p : Prop} (h : p := by (with_reducible repeat (first | apply Kd.R_alloc | apply Kd.R_drewN | apply Kd.R_drew)); exact HO296.out) : p := h
theorem s8q18 {p : Prop} (h : p := by (with_reducible repeat (first | apply Kd.R_alloc | apply Kd.R_drewN | apply Kd.R_drew)); exact HO299.out) : p := h
theorem s8q19 {p : Prop} (h : p := by (with_reducible repeat (first | apply Kd.R_alloc | apply Kd.R_drewN | apply Kd.R_drew)); exact HL276_1.out) : p := h
theorem s8q20 {p : Prop} (h : p := by (with_reducible repeat (first | apply Kd.R_alloc | apply Kd.R_drewN | apply Kd.R_drew)); exact HL278_1.out) : p := h
theorem s8q21 {p : Prop} (h : p := by (with_reducible repeat (first | apply Kd.R_alloc | apply Kd.R_drewN | apply Kd.R_drew)); exact HL280_1.out) : p := h
theorem s8q22 {p : Prop} (h : p := by (with_reducible repeat (first | apply Kd.R_alloc | apply Kd.R_drewN | apply Kd.R_drew)); exact HL282_1.out) : p := h
theorem s8q23 {p : Prop} (h : p := by (with_reducible repeat (first | apply Kd.R_alloc | apply Kd.R_drewN | apply Kd.R_drew)); exact HL283_1.out) : p := h
theorem s8q24 {p : Prop} (h : p := by (with_reducible repeat (first | refine blk_drewN ?_ _ | refine blk_drew ?_ | refine blk_alloc ?_ _)); exact BK281.out) : p := h
theorem s8q25 {p : Prop} (h : p := by repeat (first | (with_reducible first | exact HB.out | apply below_alloc | apply pw_below_drewN | apply below_drew1) | exact HB.out)) : p := h
theorem s8q26 {p : Prop} (h : p := by (with_reducible repeat (first | apply Kd.S_alloc | apply Kd.S_drewN | apply Kd.S_drew)); exact Kd.S_mono HO_8.out (fun _ hk => ⟨⟨hk.2, hk.1.1⟩, hk.1.2⟩)) : p := h
theorem s8q27 {p : Prop} (h : p := by (with_reducible repeat (first | apply Kd.R_alloc | apply Kd.R_drewN | apply Kd.R_drew)); exact Kd.R_mono HL280_1.out (fun _ hk => ⟨⟨hk.1.1, hk.2⟩, hk.1.2⟩)) : p := h
theorem s8q28 {p : Prop} (h : p := by (with_reducible repeat (first | apply Kd.R_alloc | apply Kd.R_drewN | apply Kd.R_drew)); exact Kd.R_mono HL280_1.out (fun _ hk => ⟨⟨hk.1.2, hk.2⟩, hk.1.1⟩)) : p := h
theorem s8q29 {p : Prop} (h : p := by (with_reducible repeat (first | apply Kd.R_alloc | apply Kd.R_drewN | apply Kd.R_drew)); exact Kd.R_mono HO296.out (fun _ hk => ⟨hk.1.1.2, ⟨hk.1.2, hk.2⟩⟩)) : p := h
theorem s8q30 {p : Prop} (h : p := by (with_reducible repeat (first | apply Kd.R_alloc | apply Kd.R_drewN | apply Kd.R_drew)); exact Kd.R_mono HO299.out (fun _ hk => ⟨⟨hk.1.1.2, hk.1.2⟩, hk.2⟩)) : p := h
theorem s8q31 {p : Prop} (h : p := by (with_reducible repeat (first | apply Kd.S_alloc | apply Kd.S_drewN | apply Kd.S_drew)); exact Kd.S_mono HO_8.out (fun k_ hk => ⟨trivial, fun e_ => hk e_⟩)) : p := h
theorem s8q32 {p : Prop} (h : p := by repeat (first | (with_reducible first | exact HB.out | apply below_alloc | apply pw_below_drewN | apply below_drew1 | refine below_set ?_ GE281.out) | exact HB.out)) : p := h
theorem s8q33 {p : Prop} (h : p := by (with_reducible repeat (first | apply Kd.S_alloc | apply Kd.S_drewN | apply Kd.S_drew)); exact Kd.S_mono HO_8.out (fun k_ hk => ⟨⟨hk.1, hk.2.2⟩, fun e_ => hk.2.1 e_⟩)) : p := h
theorem s8q34 {p : Prop} (h : p := by (with_reducible repeat (first | apply Kd.R_alloc | apply Kd.R_drewN | apply Kd.R_drew)); exact Kd.R_mono HL282_1.out (fun _ hk => ⟨⟨hk.1.1.2, ⟨hk.2, hk.1.1.1⟩⟩, hk.1.2⟩)) : p := h
theorem s8q35 {p : Prop} (h : p := by (with_reducible repeat (first | apply Kd.R_alloc | apply Kd.R_drewN | apply Kd.R_drew)); exact Kd.R_mono HL282_1.out (fun _ hk => ⟨⟨hk.1.2.1, ⟨hk.2, hk.1.2.2⟩⟩, hk.1.1⟩)) : p := h
theorem s8q36 {p : Prop} (h : p := by (with_reducible repeat (first | apply Kd.R_alloc | apply Kd.R_drewN | apply Kd.R_drew)); exact Kd.R_mono HL283_1.out (fun _ hk => ⟨⟨hk.1.1.2, ⟨hk.2, hk.1.1.1⟩⟩, hk.1.2⟩)) : p := h
theorem s8q37 {p : Prop} (h : p := by (with_reducible repeat (first | apply Kd.R_alloc | apply Kd.R_drewN | apply Kd.R_drew)); exact Kd.R_mono HL283_1.out (fun _ hk => ⟨⟨hk.1.2.1, ⟨hk.2, hk.1.2.2⟩⟩, hk.1.1⟩)) : p := h
theorem s8q38 {p : Prop} (h : p := by (with_reducible repeat (first | apply Kd.R_alloc | apply Kd.R_drewN | apply Kd.R_drew)); exact Kd.R_mono HO286.out (fun _ hk => ⟨hk.1.1.1.2, ⟨hk.1.1.2, ⟨hk.1.2, hk.2⟩⟩⟩)) : p := h
theorem s8q39 {p : Prop} (h : p := by (with_reducible repeat (first | apply Kd.R_alloc | apply Kd.R_drewN | apply Kd.R_drew)); exact Kd.R_mono HO289.out (fun _ hk => ⟨⟨hk.1.1.1.2, ⟨hk.1.1.2, hk.1.2⟩⟩, hk.2⟩)) : p := h
theorem s8q40 {p : Prop} (h : p := by repeat (first | (with_reducible exact HR276_1.out) | (with_reducible refine Kd.C_alloc ?_ _) | (with_reducible refine Kd.C_drewN ?_ _) | (with_reducible refine Kd.C_drew ?_) | exact HR276_1.out)) : p := h
theorem s8q41 {p : Prop} (h : p := by repeat (first | (with_reducible exact HR278_1.out) | (with_reducible refine Kd.C_alloc ?_ _) | (with_reducible refine Kd.C_drewN ?_ _) | (with_reducible refine Kd.C_drew ?_) | exact HR278_1.out)) : p := h
theorem s8q42 {p : Prop} (h : p := by repeat (first | (with_reducible exact HR280_1.out) | (with_reducible refine Kd.C_alloc ?_ _) | (with_reducible refine Kd.C_drewN ?_ _) | (with_reducible refine Kd.C_drew ?_) | exact HR280_1.out)) : p := h
theorem s8q43 {p : Prop} (h : p := by repeat (first | (with_reducible exact HR282_1.out) | (with_reducible refine Kd.C_alloc ?_ _) | (with_reducible refine Kd.C_drewN ?_ _) | (with_reducible refine Kd.C_drew ?_) | exact HR282_1.out)) : p := h
theorem s8q44 {p : Prop} (h : p := by repeat (first | (with_reducible exact HR283_1.out) | (with_reducible refine Kd.C_alloc ?_ _) | (with_reducible refine Kd.C_drewN ?_ _) | (with_reducible refine Kd.C_drew ?_) | exact HR283_1.out)) : p := h
theorem s8q45 {p : Prop} (h : p := by (with_reducible repeat (first | apply Kd.S_alloc | apply Kd.S_drewN | apply Kd.S_drew)); exact Kd.S_mono (Kd.S_far (p := ⟨gb281, 2, none⟩) (Kd.S_far (p := ⟨gb281, 1, none⟩) (Kd.S_far (p := ⟨gb281, 0, none⟩) (Kd.S_mono HO_8.out (fun k_ hk => (⟨hk, hk.2⟩ : _ ∧ k_ ≠ gb281))) (fun _ hk => hk.2) (.int .i64 ((rd_T85 x8_3 (Go.bits .andNot .i64 x10_2 (ji35))).f0))) (fun _ hk => hk.2) (.slice A280_1 ((rd_T85 x8_3 (Go.bits .andNot .i64 x10_2 (ji35))).f1).length c280_1)) (fun _ hk => hk.2) (.bool ((rd_T85 x8_3 (Go.bits .andNot .i64 x10_2 (ji35))).f2))) (fun _ hk => hk.1.2)) : p := h
theorem s8q46 {p : Prop} (h : p := by (with_reducible repeat (first | refine blk_drewN ?_ _ | refine blk_drew ?_ | refine blk_alloc ?_ _)); refine blk_put (cs := #[.int .i64 ((rd_T85 x8_3 (Go.bits .andNot .i64 x10_2 (ji35))).f0), .slice A280_1 ((rd_T85 x8_3 (Go.bits .andNot .i64 x10_2 (ji35))).f1).length c280_1, .bool false]) ?_ 2 _ rfl; (with_reducible repeat (first | refine blk_drewN ?_ _ | refine blk_drew ?_ | refine blk_alloc ?_ _)); refine blk_put (cs := #[.int .i64 ((rd_T85 x8_3 (Go.bits .andNot .i64 x10_2 (ji35))).f0), .slice none 0 0, .bool false]) ?_ 1 _ rfl; (with_reducible repeat (first | refine blk_drewN ?_ _ | refine blk_drew ?_ | refine blk_alloc ?_ _)); refine blk_put (cs := #[.int .i64 0, .slice none 0 0, .bool false]) ?_ 0 _ rfl; (with_reducible repeat (first | refine blk_drewN ?_ _ | refine blk_drew ?_ | refine blk_alloc ?_ _)); exact BK281.out) : p := h
theorem s8q47 {p : Prop} (h : p := by rw [hw]; exact s8q32) : p := h
theorem s8q48 {p : Prop} (h : p := by rw [hw]; exact s8q45) : p := h
theorem s8q49 {p : Prop} (h : p := by rw [hw]; exact s8q46) : p := h
theorem s8q50 {p : Prop} (h : p := by rw [hw]; exact below_set (below_set (below_set (HB.out) GB16.out) GB16.out) GB16.out) : p := h
theorem s8q51 {p : Prop} (h : p := by rw [hw]; exact below_set (below_set (below_set (HB.out) GB46.out) GB46.out) GB46.out) : p := h
theorem s8q52 {p : Prop} (h : p := by rw [hw]; exact below_set (below_set (below_set (HB.out) GB65.out) GB65.out) GB65.out) : p := h
theorem s8q53 {p : Prop} (h : p := by first | exact q278 | exact of_decide_eq_true s8q10 | (have e_ := (Kd.S_reads' HO_8.out).1; omega)) : p := h
theorem s8q54 {p : Prop} (h : p := by first | exact q280 | exact of_decide_eq_true s8q10 | (have e_ := (Kd.S_reads' HO_8.out).1; omega)) : p := h
theorem s8q55 {p : Prop} (h : p := by first | exact q282 | exact of_decide_eq_true s8q10 | (have e_ := (Kd.S_reads' HO_8.out).1; omega)) : p := h
theorem s8q56 {p : Prop} (h : p := by first | exact q283 | exact of_decide_eq_true s8q10 | (have e_ := (Kd.S_reads' HO_8.out).1; omega)) : p := h
theorem s8q57 {p : Prop} (h : p := by have h_ : (x10_2 : Int) < ((x8_3.length : Int) : Int) := of_decide_eq_true s8q10; first | exact h_ | (have e_ := (Kd.S_reads' HO_8.out).1; omega) | simpa using h_) : p := h
theorem s8q58 {p : Prop} (h : p := by have h_ : ((ji13) : Int) < ((x8_1.length : Int) : Int) := of_decide_eq_true s8q10; first | exact h_ | (have e_ := (Kd.S_reads' HO_8.out).1; omega) | simpa using h_) : p := h
theorem s8q59 {p : Prop} (h : p := by (with_reducible repeat (first | apply Kd.R_alloc | apply Kd.R_drewN | apply Kd.R_drew)); exact Kd.R_mono (Kd.R_far (p := ⟨gb281, 2, none⟩) (Kd.R_far (p := ⟨gb281, 1, none⟩) (Kd.R_far (p := ⟨gb281, 0, none⟩) (Kd.R_types HL280_1.out BK281.out s8q2) (fun _ hk => hk.2) (.int .i64 ((rd_T85 x8_3 (Go.bits .andNot .i64 x10_2 (ji35))).f0))) (fun _ hk => hk.2) (.slice A280_1 ((rd_T85 x8_3 (Go.bits .andNot .i64 x10_2 (ji35))).f1).length c280_1)) (fun _ hk => hk.2) (.bool ((rd_T85 x8_3 (Go.bits .andNot .i64 x10_2 (ji35))).f2))) (fun _ hk => hk.1.2)) : p := h
theorem s8q60 {p : Prop} (h : p := by rw [hw]; exact s8q59) : p := h
theorem s8q61 {p : Prop} (h : p := by rw [hg]; exact (below_size s8q25)) : p := h
theorem s8q62 {p : Prop} (h : p := by rw [if_neg (show ¬ (false = true) by decide)] at H; exact H) : p := h
/-! ### peristyleref10_BestLine: function 21 -/
mutual
def peristyleref10_BestLine.l0 : Nat → List Int → List (S75) → List (S85) → Int → Int → Option (List Int × Int × Int)
  | 0, _, _, _, _, _ => none
  | k + 1, x0, x1, x8, x27, x28 => if x28 < x27 then (if 0 ≤ x28 then (if 0 ≤ (shl .i64 1 x28) then (if (shl .i64 1 x28) < (x8.length : Int) then (peristyleref10_BestLine.l0 k x0 x1 (x8.set ((shl .i64 1 x28) : Int).toNat (⟨0, (([x28] : List Int)), true⟩ : S85)) x27 (wrap64 (x28 + 1))) else (none)) else (none)) else (none)) else (peristyleref10_BestLine.l1 k x0 x1 x8 1)
def peristyleref10_BestLine.l1 : Nat → List Int → List (S75) → List (S85) → Int → Option (List Int × Int × Int)
  | 0, _, _, _, _ => none
  | k + 1, x0, x1, x8, x10 => if x10 < (x8.length : Int) then (if 0 ≤ x10 then (if (rd_T85 x8 x10).f2 = true then (peristyleref10_BestLine.l1 k x0 x1 x8 (wrap64 (x10 + 1))) else ((peristyleref10_size.f k x0 x1 x10).bind fun t279 => (peristyleref10_BestLine.l2 k x0 x1 x8 x10 t279 (x0.length : Int) 0))) else (none)) else (if 0 ≤ (wrap64 ((x8.length : Int) - 1)) then (if (wrap64 ((x8.length : Int) - 1)) < (x8.length : Int) then (some ((rd_T85 x8 (wrap64 ((x8.length : Int) - 1))).f1, (rd_T85 x8 (wrap64 ((x8.length : Int) - 1))).f0, 0)) else (none)) else (none))
def peristyleref10_BestLine.l2 : Nat → List Int → List (S75) → List (S85) → Int → Int → Int → Int → Option (List Int × Int × Int)
  | 0, _, _, _, _, _, _, _ => none
  | k + 1, x0, x1, x8, x10, x11, x55, x56 => if x56 < x55 then (if 0 ≤ x56 then (if (Go.bits .and .i64 (shr .i64 x10 x56) 1) = 0 then (peristyleref10_BestLine.l2 k x0 x1 x8 x10 x11 x55 (wrap64 (x56 + 1))) else (if 0 ≤ (Go.bits .andNot .i64 x10 (shl .i64 1 x56)) then (if (Go.bits .andNot .i64 x10 (shl .i64 1 x56)) < (x8.length : Int) then (if 0 ≤ x10 then (if x10 < (x8.length : Int) then (if ((rd_T85 x8 x10).f2 = true) then (if (mn 1000000000000000 (wrap64 (((rd_T85 x8 (Go.bits .andNot .i64 x10 (shl .i64 1 x56))).f0) + x11))) < ((rd_T85 x8 x10).f0) then ((slices_Clone_int_int.f ((rd_T85 x8 (Go.bits .andNot .i64 x10 (shl .i64 1 x56))).f1)).bind fun t284 => ((some (([x56, (-1)] : List Int) : List Int)).bind fun y287 => (if t284.length + y287.length < 17592186044416 then (peristyleref10_BestLine.l2 k x0 x1 (x8.set (x10 : Int).toNat (⟨mn 1000000000000000 (wrap64 (((rd_T85 x8 (Go.bits .andNot .i64 x10 (shl .i64 1 x56))).f0) + x11)), (t284 ++ y287), true⟩ : S85)) x10 x11 x55 (wrap64 (x56 + 1))) else (none)))) else (peristyleref10_BestLine.l2 k x0 x1 x8 x10 x11 x55 (wrap64 (x56 + 1)))) else ((slices_Clone_int_int.f ((rd_T85 x8 (Go.bits .andNot .i64 x10 (shl .i64 1 x56))).f1)).bind fun t294 => ((some (([x56, (-1)] : List Int) : List Int)).bind fun y297 => (if t294.length + y297.length < 17592186044416 then (peristyleref10_BestLine.l2 k x0 x1 (x8.set (x10 : Int).toNat (⟨mn 1000000000000000 (wrap64 (((rd_T85 x8 (Go.bits .andNot .i64 x10 (shl .i64 1 x56))).f0) + x11)), (t294 ++ y297), true⟩ : S85)) x10 x11 x55 (wrap64 (x56 + 1))) else (none))))) else (none)) else (none)) else (none)) else (none))) else (none)) else (peristyleref10_BestLine.l1 k x0 x1 x8 (wrap64 (x10 + 1)))
end
def peristyleref10_BestLine.f (k : Nat) (l0 : List Int) (l1 : List (S75)) : Option (List Int × Int × Int) := (peristyleref10_checkGraph.f k l0 l1).bind fun t268 => (if t268 = 0 then (if 0 ≤ (shl .i64 1 (l0.length : Int)) then (if (shl .i64 1 (l0.length : Int) : Int).toNat ≤ 7036874417766 then (peristyleref10_BestLine.l0 k l0 l1 (List.replicate (shl .i64 1 (l0.length : Int) : Int).toNat z85) (l0.length : Int) 0) else (none)) else (none)) else (some (([] : List Int), 0, t268)))
theorem peristyleref10_BestLine.mono_l : ∀ k, (∀ y0 y1 y2 y3 y4, LeO (peristyleref10_BestLine.l0 k y0 y1 y2 y3 y4) (peristyleref10_BestLine.l0 (k + 1) y0 y1 y2 y3 y4)) ∧ (∀ y0 y1 y2 y3, LeO (peristyleref10_BestLine.l1 k y0 y1 y2 y3) (peristyleref10_BestLine.l1 (k + 1) y0 y1 y2 y3)) ∧ (∀ y0 y1 y2 y3 y4 y5 y6, LeO (peristyleref10_BestLine.l2 k y0 y1 y2 y3 y4 y5 y6) (peristyleref10_BestLine.l2 (k + 1) y0 y1 y2 y3 y4 y5 y6))
  | 0 => ⟨fun _ _ _ _ _ r h => by simp [peristyleref10_BestLine.l0] at h, fun _ _ _ _ r h => by simp [peristyleref10_BestLine.l1] at h, fun _ _ _ _ _ _ _ r h => by simp [peristyleref10_BestLine.l2] at h⟩
  | k + 1 => by
    obtain ⟨ih0, ih1, ih2⟩ := peristyleref10_BestLine.mono_l k
    refine ⟨?_, ?_, ?_⟩
    · intro y0 y1 y2 y3 y4
      unfold peristyleref10_BestLine.l0
      exact s8qm0
    · intro y0 y1 y2 y3
      unfold peristyleref10_BestLine.l1
      exact s8qm0
    · intro y0 y1 y2 y3 y4 y5 y6
      unfold peristyleref10_BestLine.l2
      exact s8qm0
theorem peristyleref10_BestLine.mono : ∀ a0 a1 k, LeO (peristyleref10_BestLine.f k a0 a1) (peristyleref10_BestLine.f (k + 1) a0 a1) := by
 intro a0 a1 k
 obtain ⟨ih0, ih1, ih2⟩ := peristyleref10_BestLine.mono_l k
 unfold peristyleref10_BestLine.f
 repeat' first
  | (with_reducible exact ih0 _ _ _ _ _)
  | (with_reducible exact ih1 _ _ _ _)
  | (with_reducible exact ih2 _ _ _ _ _ _ _)
  | (with_reducible exact peristyleref10_checkGraph.mono _ _ _)
  | (with_reducible exact peristyleref10_size.mono _ _ _ _)
  | (with_reducible exact LeO.refl _)
  | (with_reducible exact LeO.none _)
  | (with_reducible refine LeO.ite ?_ ?_)
  | (with_reducible refine LeO.bind ?_ (fun _ => ?_))
  | exact ih0 _ _ _ _ _
  | exact ih1 _ _ _ _
  | exact ih2 _ _ _ _ _ _ _
  | exact peristyleref10_checkGraph.mono _ _ _
  | exact peristyleref10_size.mono _ _ _ _
  | exact LeO.none _
  | refine LeO.ite ?_ ?_
  | refine LeO.bind ?_ (fun _ => ?_)
set_option maxHeartbeats 8000000 in
set_option maxRecDepth 100000 in
theorem peristyleref10_BestLine.calls (k : Nat) (A0 : Option Addr) (c0 : Nat) (l0 : List Int) (A1 : Option Addr) (c1 : Nat) (l1 : List (S75)) (r1 : List Int) (r2 : Int) (r3 : Int) (w : World) (hr0 : Kd.C (Kd.int .i64) w A0 l0.length l0) (hc0 : l0.length ≤ c0) (hr1 : Kd.C k75 w A1 l1.length l1) (hc1 : l1.length ≤ c1) (h : peristyleref10_BestLine.f k l0 l1 = some (r1, r2, r3)) :
    Calls Tryd.prog 21 #[.slice A0 l0.length c0, .slice A1 l1.length c1] w fun e w' => ∃ v0_ : Value, e = .returned (.tuple #[v0_, .int .i64 r2, .int .i64 r3]) ∧ Kd.R (Kd.int .i64) 3 w' w.heap.size (fun _ => True) v0_ r1 ∧ Below w.heap.size w w' := by
 have hu85 := Tryd.underlying85
 have HR0 := Aside0.mk hr0
 have HC0 := Aside0.mk hc0
 clear hr0 hc0
 have HR1 := Aside0.mk hr1
 have HC1 := Aside0.mk hc1
 clear hr1 hc1
 have HB := Aside0.mk (Below.refl w.heap.size w)
 have H : ((peristyleref10_checkGraph.f k l0 l1).bind fun t268 => (if t268 = 0 then (if 0 ≤ (shl .i64 1 (l0.length : Int)) then (if (shl .i64 1 (l0.length : Int) : Int).toNat ≤ 7036874417766 then (peristyleref10_BestLine.l0 k l0 l1 (List.replicate (shl .i64 1 (l0.length : Int) : Int).toNat z85) (l0.length : Int) 0) else (none)) else (none)) else (some (([] : List Int), 0, t268)))) = some (r1, r2, r3) := h
 clear h
 replace H := Option.bind_eq_some_iff.mp H
 obtain ⟨t268, A30, H⟩ := H
 replace H : (if t268 = 0 then (if 0 ≤ (shl .i64 1 (l0.length : Int)) then (if (shl .i64 1 (l0.length : Int) : Int).toNat ≤ 7036874417766 then (peristyleref10_BestLine.l0 k l0 l1 (List.replicate (shl .i64 1 (l0.length : Int) : Int).toNat z85) (l0.length : Int) 0) else (none)) else (none)) else (some (([] : List Int), 0, t268))) = some (r1, r2, r3) := H
 have A3 := Aside0.mk A30
 clear A30
 by_cases c4 : t268 = 0
 case neg =>
  rw [if_neg c4] at H
  have c4b0 : (t268 == 0) = false := beq_eq_false_iff_ne.mpr c4
  have c4b1 : (t268 != 0) = true := bne_iff_ne.mpr c4
  simp only [Option.some.injEq, Prod.mk.injEq] at H
  obtain ⟨rfl, rfl, rfl⟩ := H
  go_enter Tryd.func21, Tryd.ntmps21
  go_wp2_with (first | (go_at_call 43; (with_reducible refine (peristyleref10_checkGraph.calls k _ _ l0 _ _ l1 t268 _ ?side1 ?side2 ?side3 ?side4 A3.out).mono ?_); (case side1 => repeat (first | exact HR0.out | (with_reducible refine Kd.C_alloc ?_ _) | (with_reducible refine Kd.C_drewN ?_ _) | (with_reducible refine Kd.C_drew ?_))); (case side2 => exact HC0.out); (case side3 => repeat (first | exact HR1.out | (with_reducible refine Kd.C_alloc ?_ _) | (with_reducible refine Kd.C_drewN ?_ _) | (with_reducible refine Kd.C_drew ?_))); (case side4 => exact HC1.out); rintro e w84 ⟨rfl, hb⟩; have n0_ := Aside0.mk (below_step s8q25 hb); clear HB; have HB := n0_; clear n0_; (try clear hb); (try clear hb2); (try clear hk); (try clear hi)))
  repeat (go_quiet (first | (go_at_call 43; (with_reducible refine (peristyleref10_checkGraph.calls k _ _ l0 _ _ l1 t268 _ ?side1 ?side2 ?side3 ?side4 A3.out).mono ?_); (case side1 => repeat (first | exact HR0.out | (with_reducible refine Kd.C_alloc ?_ _) | (with_reducible refine Kd.C_drewN ?_ _) | (with_reducible refine Kd.C_drew ?_))); (case side2 => exact HC0.out); (case side3 => repeat (first | exact HR1.out | (with_reducible refine Kd.C_alloc ?_ _) | (with_reducible refine Kd.C_drewN ?_ _) | (with_reducible refine Kd.C_drew ?_))); (case side4 => exact HC1.out); rintro e w84 ⟨rfl, hb⟩; have n0_ := Aside0.mk (below_step s8q25 hb); clear HB; have HB := n0_; clear n0_; (try clear hb); (try clear hb2); (try clear hk); (try clear hi))); try go_wp2_with (first | (go_at_call 43; (with_reducible refine (peristyleref10_checkGraph.calls k _ _ l0 _ _ l1 t268 _ ?side1 ?side2 ?side3 ?side4 A3.out).mono ?_); (case side1 => repeat (first | exact HR0.out | (with_reducible refine Kd.C_alloc ?_ _) | (with_reducible refine Kd.C_drewN ?_ _) | (with_reducible refine Kd.C_drew ?_))); (case side2 => exact HC0.out); (case side3 => repeat (first | exact HR1.out | (with_reducible refine Kd.C_alloc ?_ _) | (with_reducible refine Kd.C_drewN ?_ _) | (with_reducible refine Kd.C_drew ?_))); (case side4 => exact HC1.out); rintro e w84 ⟨rfl, hb⟩; have n0_ := Aside0.mk (below_step s8q25 hb); clear HB; have HB := n0_; clear n0_; (try clear hb); (try clear hb2); (try clear hk); (try clear hi))))
  go_ret3
  exact ⟨_, by first | rfl | (simp [errW_none, errW_some] <;> rfl) | (simp [*, errW_none, errW_some] <;> rfl), by first | exact Kd.R_nil _ _ _ _ _ | exact Kd.N_nil _ _ _ _ _ | exact Kd.V_nil _ _ _ _ _ | exact Kd.Q_nil _ _ _ _ _ | exact Kd.S_nil _ _ _ _ _, by repeat (first | (with_reducible first | exact HB.out | apply below_alloc | apply pw_below_drewN | apply below_drew1) | exact HB.out)⟩
 rw [if_pos c4] at H
 have c4b0 : (t268 == 0) = true := beq_iff_eq.mpr c4
 have c4b1 : (t268 != 0) = false := bne_eq_false_iff_eq.mpr c4
 clear c4
 obtain ⟨ji5, hji5⟩ : ∃ j_ : Int, (shl .i64 1 (l0.length : Int)) = j_ := ⟨_, rfl⟩
 replace H : (if 0 ≤ (ji5) then (if (ji5 : Int).toNat ≤ 7036874417766 then (peristyleref10_BestLine.l0 k l0 l1 (List.replicate (ji5 : Int).toNat z85) (l0.length : Int) 0) else (none)) else (none)) = some (r1, r2, r3) := by first | (rw [hji5] at H; exact H) | (simp only [hji5] at H ⊢; exact H)
 (try rw [hji5] at A3)
 have hji5_ : (IntKind.i64.wrap (1 * 2 ^ min (l0.length : Int).toNat 64)) = ji5 := hji5
 have hji5z : (l0.length : Int) ≤ 64 → (IntKind.i64.wrap (1 * 2 ^ (l0.length : Int).toNat)) = ji5 := shl_small hji5
 have hji5p : (IntKind.i64.wrap (1 * 2 ^ min l0.length 64)) = ji5 := hji5_
 have hji5q : (l0.length : Int) ≤ 64 → (IntKind.i64.wrap (1 * 2 ^ l0.length)) = ji5 := hji5z
 have hji5r : (IntKind.i64.wrap (2 ^ min l0.length 64)) = ji5 := by have h_ := hji5p; rw [Int.one_mul] at h_; exact h_
 have hji5s : (l0.length : Int) ≤ 64 → (IntKind.i64.wrap (2 ^ l0.length)) = ji5 := fun hle_ => by have h_ := hji5q hle_; rw [Int.one_mul] at h_; exact h_
 have hji5u : (IntKind.i64.wrap (2 ^ min (l0.length : Int).toNat 64)) = ji5 := by have h_ := hji5_; rw [Int.one_mul] at h_; exact h_
 have hji5v : (l0.length : Int) ≤ 64 → (IntKind.i64.wrap (2 ^ (l0.length : Int).toNat)) = ji5 := fun hle_ => by have h_ := hji5z hle_; rw [Int.one_mul] at h_; exact h_
 have hji5y : (wrap64 (1 * 2 ^ min (l0.length : Int).toNat 64)) = ji5 := (i64_w _).symm.trans hji5_
 have hji5x : (l0.length : Int) ≤ 64 → (wrap64 (1 * 2 ^ (l0.length : Int).toNat)) = ji5 := fun h_ => (i64_w _).symm.trans (hji5z h_)
 by_cases c6 : 0 ≤ (ji5)
 case neg =>
  rw [if_neg c6] at H
  exact absurd H s8q0
 rw [if_pos c6] at H
 have c6b0 := eq_true c6
 have c6b1 : decide (0 ≤ (ji5)) = true := decide_eq_true c6
 clear c6
 by_cases c7 : (ji5 : Int).toNat ≤ 7036874417766
 case neg =>
  rw [if_neg c7] at H
  exact absurd H s8q0
 rw [if_pos c7] at H
 have c7b0 := eq_true c7
 have c7b1 : decide ((ji5 : Int).toNat ≤ 7036874417766) = true := decide_eq_true c7
 clear c7
 obtain ⟨y269, hy269⟩ : ∃ y_ : List (S85), y_ = (List.replicate (ji5 : Int).toNat z85) := ⟨_, rfl⟩
 replace H : (peristyleref10_BestLine.l0 k l0 l1 y269 (l0.length : Int) 0) = some (r1, r2, r3) := sqz hy269 H
 have Ny269 := Aside0.mk hy269
 clear hy269
 have H' := Aside0.mk H
 clear H
 go_enter Tryd.func21, Tryd.ntmps21
 go_wp2_with (first | (go_at_call 43; (with_reducible refine (peristyleref10_checkGraph.calls k _ _ l0 _ _ l1 t268 _ ?side1 ?side2 ?side3 ?side4 A3.out).mono ?_); (case side1 => repeat (first | exact HR0.out | (with_reducible refine Kd.C_alloc ?_ _) | (with_reducible refine Kd.C_drewN ?_ _) | (with_reducible refine Kd.C_drew ?_))); (case side2 => exact HC0.out); (case side3 => repeat (first | exact HR1.out | (with_reducible refine Kd.C_alloc ?_ _) | (with_reducible refine Kd.C_drewN ?_ _) | (with_reducible refine Kd.C_drew ?_))); (case side4 => exact HC1.out); rintro e w8 ⟨rfl, hb⟩; have n0_ := Aside0.mk (below_step s8q25 hb); clear HB; have HB := n0_; clear n0_; (try clear hb); (try clear hb2); (try clear hk); (try clear hi)) | ((with_reducible refine gate_dst (N := 25) rfl ?_); refine Kd.S_make k85 _ 85 rfl (N := 25) rfl 82 _ _ rfl ji5 rfl rfl Tryd.underlying82 (.agg #[(.int .i64 0), (.slice none 0 0), (.bool false)]) 40 info85 rfl s8q2 s8q1 z85 (ok := fun _ => True) (okp := fun _ => True) (k85_mkM _ _ _ z85 (Kd.R_nil _ _ _ _ _)) (fun _ hk => hk) trivial (of_decide_eq_true s8q10) (Nat.le_trans (Nat.mul_le_mul_right _ (of_decide_eq_true s8q10 : ji5.toNat ≤ 7036874417766)) s8q1) (Below.refl _ _) (Nat.le_refl _) ?_; intro v270 w9 ho10 hb hg_ hnew_; clear hg_ hnew_; (first | rw [← Ny269.out] at ho10 | (simp only [Int.reduceToNat] at ho10; rw [← Ny269.out] at ho10)); have n0_ := Aside0.mk (Kd.S_lower ho10 (below_size s8q25)); have n1_ := Aside0.mk (below_step s8q25 hb); clear HB; have HO271 := n0_; have HB := n1_; clear n0_ n1_; clear hb ho10))
 go_loopg [28] k (fun kq v28 w' => ∃ (x8_1 : List (S85)) (x28_1 : Int), v28 = .int .i64 x28_1 ∧ Aside0 (peristyleref10_BestLine.l0 kq l0 l1 x8_1 (l0.length : Int) x28_1 = some (r1, r2, r3)) ∧ Aside0 (kq ≤ k) ∧ Aside0 (Kd.S k85 85 w' w.heap.size (fun _ => True) v270 x8_1) ∧ Aside0 (Below w.heap.size w w'))
 case atStart => exact ⟨(y269), (0), s8q9, H', ⟨Nat.le_refl _⟩, ⟨by (with_reducible repeat (first | apply Kd.S_alloc | apply Kd.S_drewN | apply Kd.S_drew)); exact HO271.out⟩, ⟨by repeat (first | (with_reducible first | exact HB.out | apply below_alloc | apply pw_below_drewN | apply below_drew1) | exact HB.out)⟩⟩
 clear H'
 try clear c1
 try clear c2
 try clear p2
 try clear c4
 try clear c4b0
 try clear c4b1
 try clear c6
 try clear c6b0
 try clear c6b1
 try clear p6
 try clear c7
 try clear c7b0
 try clear c7b1
 obtain ⟨x8_1, x28_1, rfl, HA, HK1, HO_8, HB⟩ := hrel
 cases gk with
 | zero => exact absurd HA.out (by simp [peristyleref10_BestLine.l0])
 | succ k1 => ?_
 have H := HA.out
 clear HA
 simp only [peristyleref10_BestLine.l0] at H
 by_cases c11 : x28_1 < (l0.length : Int)
 · rw [if_pos c11] at H
   have c11b0 : decide (x28_1 < (l0.length : Int)) = true := decide_eq_true c11
   clear c11
   by_cases c12 : 0 ≤ x28_1
   case neg =>
    rw [if_neg c12] at H
    exact absurd H s8q0
   rw [if_pos c12] at H
   have c12b0 := eq_true c12
   have c12b1 : decide (0 ≤ x28_1) = true := decide_eq_true c12
   clear c12
   obtain ⟨ji13, hji13⟩ : ∃ j_ : Int, (shl .i64 1 x28_1) = j_ := ⟨_, rfl⟩
   replace H : (if 0 ≤ (ji13) then (if (ji13) < (x8_1.length : Int) then (peristyleref10_BestLine.l0 k1 l0 l1 (x8_1.set ((ji13) : Int).toNat (⟨0, (([x28_1] : List Int)), true⟩ : S85)) (l0.length : Int) (wrap64 (x28_1 + 1))) else (none)) else (none)) = some (r1, r2, r3) := by first | (rw [hji13] at H; exact H) | (simp only [hji13] at H ⊢; exact H)
   have hji13_ : (IntKind.i64.wrap (1 * 2 ^ min x28_1.toNat 64)) = ji13 := hji13
   have hji13z : x28_1 ≤ 64 → (IntKind.i64.wrap (1 * 2 ^ x28_1.toNat)) = ji13 := shl_small hji13
   have hji13u : (IntKind.i64.wrap (2 ^ min x28_1.toNat 64)) = ji13 := by have h_ := hji13_; rw [Int.one_mul] at h_; exact h_
   have hji13v : x28_1 ≤ 64 → (IntKind.i64.wrap (2 ^ x28_1.toNat)) = ji13 := fun hle_ => by have h_ := hji13z hle_; rw [Int.one_mul] at h_; exact h_
   have hji13y : (wrap64 (1 * 2 ^ min x28_1.toNat 64)) = ji13 := (i64_w _).symm.trans hji13_
   have hji13x : x28_1 ≤ 64 → (wrap64 (1 * 2 ^ x28_1.toNat)) = ji13 := fun h_ => (i64_w _).symm.trans (hji13z h_)
   obtain ⟨y272, hy272⟩ : ∃ y_ : List Int, y_ = (([x28_1] : List Int)) := ⟨_, rfl⟩
   replace H : (if 0 ≤ (ji13) then (if (ji13) < (x8_1.length : Int) then (peristyleref10_BestLine.l0 k1 l0 l1 (x8_1.set ((ji13) : Int).toNat (⟨0, y272, true⟩ : S85)) (l0.length : Int) (wrap64 (x28_1 + 1))) else (none)) else (none)) = some (r1, r2, r3) := sqz hy272 H
   have Ny272 := Aside0.mk hy272
   clear hy272
   by_cases c14 : 0 ≤ (ji13)
   case neg =>
    rw [if_neg c14] at H
    exact absurd H s8q0
   rw [if_pos c14] at H
   have c14b0 : decide (0 ≤ (ji13)) = true := decide_eq_true c14
   clear c14
   by_cases c15 : (ji13) < (x8_1.length : Int)
   case neg =>
    rw [if_neg c15] at H
    exact absurd H s8q0
   rw [if_pos c15] at H
   have c15b0 : decide ((ji13) < (x8_1.length : Int)) = true := decide_eq_true c15
   clear c15
   obtain ⟨y275, hy275⟩ : ∃ y_ : List (S85), y_ = (x8_1.set ((ji13) : Int).toNat (⟨0, y272, true⟩ : S85)) := ⟨_, rfl⟩
   replace H : (peristyleref10_BestLine.l0 k1 l0 l1 y275 (l0.length : Int) (wrap64 (x28_1 + 1))) = some (r1, r2, r3) := sqz hy275 H
   have Ny275 := Aside0.mk hy275
   clear hy275
   have H' := Aside0.mk H
   clear H
   go_wp2_with (first | ((with_reducible refine gate_dst (N := 35) rfl ?_); refine Kd.R_lit (Kd.int .i64) _ 3 ?hg (N := 35) ?hd (xs := ([x28_1] : List Int)) (inner := [.int .i64 x28_1]) (ok := fun _ => True) (okp := fun _ => True) ?hr ?hp (fun _ hk => hk) trivial (Below.refl _ _) (Nat.le_refl _) s8q0 ?_; (case hd => rfl); (case hg => rfl); (case hr => first | (go_simp; done) | (go_simp; rfl)); (case hp => exact (Reps.one (show Kd.M (Kd.int .i64) _ _ _ x28_1 [.int .i64 x28_1] from rfl) (Reps.none _ _))); intro v273 w17 ho18 hb hg_ hnew_; clear hg_ hnew_; (first | rw [← Ny272.out] at ho18 | (simp only [Int.reduceToNat] at ho18; rw [← Ny272.out] at ho18)); have n0_ := Aside0.mk (Kd.S_elder' s8q14 (Kd.R_base ho18) hb); have n1_ := Aside0.mk (Kd.R_lower ho18 (below_size s8q25)); have n2_ := Aside0.mk (below_step s8q25 hb); clear HO_8; clear HB; have HO_8 := n0_; have HO274 := n1_; have HB := n2_; clear n0_ n1_ n2_; clear hb ho18; obtain ⟨Ao19, co19, eo19⟩ := Kd.R_slice HO274.out; subst eo19; have p16 : 0 ≤ ((ji13) : Int) := of_decide_eq_true s8q10; have q16 : ((ji13) : Int) < ((x8_1.length : Int) : Int) := of_decide_eq_true s8q10; obtain ⟨go16, co16, eo16, gb16, gl16, cl16, HG16⟩ := Kd.S_form HO_8.out s8q11; (first | cases eo16 | (injection eo16 with ea_ en_ ec_; (first | subst ea_ | (injection ea_ with ea_; subst ea_)); subst ec_; clear en_)); have GB16 := Aside0.mk gb16; have GG16 := Aside0.mk HG16; clear gb16 gl16 HG16; obtain ⟨_, ce16, hcl16, hM16, hcc16, hfr16, _, _⟩ := Kd.S_elem HO_8.out z85 ((ji13) : Int) p16 q16; obtain ⟨ve16_1, rfl, ge16_1⟩ := k85_openM hM16; have hx16_0 : w17.cell? ⟨go16, ((ji13) : Int).toNat * 3, none⟩ = some (.int .i64 ((rd_T85 x8_1 (ji13)).f0)) := hcc16 0 _ rfl; have hx16_1 : w17.cell? ⟨go16, ((ji13) : Int).toNat * 3 + 1, none⟩ = some (ve16_1) := hcc16 1 _ rfl; have hx16_2 : w17.cell? ⟨go16, ((ji13) : Int).toNat * 3 + 2, none⟩ = some (.bool ((rd_T85 x8_1 (ji13)).f2)) := hcc16 2 _ rfl; have hf16_0 : w17.frozen? ⟨go16, ((ji13) : Int).toNat * 3, none⟩ = false := hfr16 0; have hf16_1 : w17.frozen? ⟨go16, ((ji13) : Int).toNat * 3 + 1, none⟩ = false := hfr16 1; have hf16_2 : w17.frozen? ⟨go16, ((ji13) : Int).toNat * 3 + 2, none⟩ = false := hfr16 2; clear hcl16 hcc16 hfr16 hM16; replace p16 := eq_true p16; replace q16 := eq_true q16; have n_ := Aside0.mk (Kd.S_mono (ok' := (fun k_ => some k_ ≠ (.slice Ao19 y272.length co19 : Value).ownBlock)) HO_8.out (fun k_ hk => hk.2)); clear HO_8; have HO_8 := n_; clear n_; have HX20 := Aside0.mk (show Kd.S k85 85 w17 w.heap.size (fun k_ => ((fun _ => True)) k_ ∧ ¬ ((fun k_ => some k_ = (.slice Ao19 y272.length co19 : Value).ownBlock)) k_) (.slice (some ⟨go16, 0, none⟩) x8_1.length co16) x8_1 from s8q31); obtain ⟨oki20, ce20, hcl20, hM20, hcc20, hfr20, hoki20, hH20⟩ := Kd.S_elem HX20.out z85 ((ji13) : Int) (of_decide_eq_true s8q10) s8q58; obtain ⟨ve20_1, rfl, ge20_1⟩ := k85_openM hM20; have HP20 := Kd.S_seg hH20 (of_decide_eq_true s8q10) s8q58 (seg := [.int .i64 0, .slice Ao19 y272.length co19, .bool true]) (j := 0) (show 3 ≤ 3 from by decide) (x' := (⟨0, y272, true⟩ : S85)) (k85_mkM _ _ _ (⟨0, y272, true⟩ : S85) (Kd.R_mono (Kd.R_tight rfl (Kd.R_mono (ok' := fun k_ => ((fun _ => True)) k_ ∧ k_ ≠ go16) (Kd.R_apart' (HO274.out) (Kd.S_typed HO_8.out) s8q2) (fun k_ hk => ⟨trivial, fun e_ => (hk.2) s8q3⟩))) (fun _ h_ => Or.inr (h_)))) (fun _ hk => hk) (fun k_ hk_ => ((Kd.R_mono (ok' := fun k_ => ((fun _ => True)) k_ ∧ k_ ≠ go16) (Kd.R_apart' (HO274.out) (Kd.S_typed HO_8.out) s8q2) (fun k_ hk => ⟨trivial, fun e_ => (hk.2) s8q3⟩))).1 k_ hk_.symm); have hx20_0 := hcc20 0 _ rfl; (try simp only [show (k85).sz = 3 from rfl, Nat.mul_one, Nat.add_zero] at hx20_0); have hf20_0 := hfr20 0; (try simp only [show (k85).sz = 3 from rfl, Nat.mul_one, Nat.add_zero] at hf20_0); have hx20_1 := hcc20 1 _ rfl; (try simp only [show (k85).sz = 3 from rfl, Nat.mul_one, Nat.add_zero] at hx20_1); have hf20_1 := hfr20 1; (try simp only [show (k85).sz = 3 from rfl, Nat.mul_one, Nat.add_zero] at hf20_1); have hx20_2 := hcc20 2 _ rfl; (try simp only [show (k85).sz = 3 from rfl, Nat.mul_one, Nat.add_zero] at hx20_2); have hf20_2 := hfr20 2; (try simp only [show (k85).sz = 3 from rfl, Nat.mul_one, Nat.add_zero] at hf20_2); clear hcl20 hcc20 hfr20 hM20 hoki20 hH20) | ((with_reducible refine gate_store (t := 85) (p := 37) rfl ?_); (try (rw [drewN_self w17]; generalize hq_ : World.drewN w17 _ = w17; have n0_ := Aside0.mk (Kd.S_at hq_ HO_8.out); have n1_ := Aside0.mk (below_at hq_ HB.out); clear hq_ HO_8 HB; have HO_8 := n0_; have HB := n1_; clear n0_ n1_; (try (have n_ := Aside0.mk (Kd.S_mono (ok' := (fun k_ => some k_ ≠ (.slice Ao19 y272.length co19 : Value).ownBlock)) HO_8.out (fun k_ hk => hk.2)); clear HO_8; have HO_8 := n_; clear n_)); (try (have HX20 := Aside0.mk (show Kd.S k85 85 w17 w.heap.size (fun k_ => ((fun _ => True)) k_ ∧ ¬ ((fun k_ => some k_ = (.slice Ao19 y272.length co19 : Value).ownBlock)) k_) (.slice (some ⟨go16, 0, none⟩) x8_1.length co16) x8_1 from s8q31))); (try (obtain ⟨oki20, ce20, hcl20, hM20, hcc20, hfr20, hoki20, hH20⟩ := Kd.S_elem HX20.out z85 ((ji13) : Int) (of_decide_eq_true s8q10) s8q58)); (try (obtain ⟨ve20_1, rfl, ge20_1⟩ := k85_openM hM20)); (try (have HP20 := Kd.S_seg hH20 (of_decide_eq_true s8q10) s8q58 (seg := [.int .i64 0, .slice Ao19 y272.length co19, .bool true]) (j := 0) (show 3 ≤ 3 from by decide) (x' := (⟨0, y272, true⟩ : S85)) (k85_mkM _ _ _ (⟨0, y272, true⟩ : S85) (Kd.R_mono (Kd.R_tight rfl (Kd.R_mono (ok' := fun k_ => ((fun _ => True)) k_ ∧ k_ ≠ go16) (Kd.R_apart' (HO274.out) (Kd.S_typed HO_8.out) s8q2) (fun k_ hk => ⟨trivial, fun e_ => (hk.2) s8q3⟩))) (fun _ h_ => Or.inr (h_)))) (fun _ hk => hk) (fun k_ hk_ => ((Kd.R_mono (ok' := fun k_ => ((fun _ => True)) k_ ∧ k_ ≠ go16) (Kd.R_apart' (HO274.out) (Kd.S_typed HO_8.out) s8q2) (fun k_ hk => ⟨trivial, fun e_ => (hk.2) s8q3⟩))).1 k_ hk_.symm))); (try (have hx20_0 := hcc20 0 _ rfl)); (try (try simp only [show (k85).sz = 3 from rfl, Nat.mul_one, Nat.add_zero] at hx20_0)); (try (have hf20_0 := hfr20 0)); (try (try simp only [show (k85).sz = 3 from rfl, Nat.mul_one, Nat.add_zero] at hf20_0)); (try (have hx20_1 := hcc20 1 _ rfl)); (try (try simp only [show (k85).sz = 3 from rfl, Nat.mul_one, Nat.add_zero] at hx20_1)); (try (have hf20_1 := hfr20 1)); (try (try simp only [show (k85).sz = 3 from rfl, Nat.mul_one, Nat.add_zero] at hf20_1)); (try (have hx20_2 := hcc20 2 _ rfl)); (try (try simp only [show (k85).sz = 3 from rfl, Nat.mul_one, Nat.add_zero] at hx20_2)); (try (have hf20_2 := hfr20 2)); (try (try simp only [show (k85).sz = 3 from rfl, Nat.mul_one, Nat.add_zero] at hf20_2)); (try (clear hcl20 hcc20 hfr20 hM20 hoki20 hH20)))); refine store_event (t := 85) (p := 37) (v := ?vo_w21) (w1 := (((w17.setCell ⟨go16, ((ji13) : Int).toNat * 3, none⟩ (.int .i64 0)).setCell ⟨go16, ((ji13) : Int).toNat * 3 + 1, none⟩ (.slice Ao19 y272.length co19)).setCell ⟨go16, ((ji13) : Int).toNat * 3 + 2, none⟩ (.bool true))) ?hg ?ho ?hn ?hr ?_; (case ho => rfl); (case hg => rfl); (case hn => rfl); (case hr => first | (go_simp; done) | (go_simp; rfl)); intro w21 hw; have hg : w17.grownBy w21 (some go16) := (by rw [hw]; exact HP20.2); have hp_ : Kd.S k85 85 w21 w.heap.size (fun _ => True) (.slice (some ⟨go16, 0, none⟩) x8_1.length co16) y275 := s8q6; clear HP20; have n0_ := Aside0.mk (hp_); have n1_ := Aside0.mk ((s8q50 : Below w.heap.size w w21)); clear HO_8; clear HB; clear HO274; have HO_8 := n0_; have HB := n1_; clear n0_ n1_; clear hg hw hp_))
   first | go_roundg k1 | (refine Handed.intro k1 ?measure ?_; rotate_left; go_step; (repeat apply Exists.intro); simp only [add_plain]; refine ⟨?rel, rfl⟩)
   case measure => have := HK1.out; omega
   case rel => exact ⟨(y275), (wrap64 (x28_1 + 1)), s8q9, H', ⟨by have := HK1.out; omega⟩, ⟨by (with_reducible repeat (first | apply Kd.S_alloc | apply Kd.S_drewN | apply Kd.S_drew)); exact HO_8.out⟩, ⟨by repeat (first | (with_reducible first | exact HB.out | apply below_alloc | apply pw_below_drewN | apply below_drew1) | exact HB.out)⟩⟩
 rw [if_neg c11] at H
 have c11b0 : decide (x28_1 < (l0.length : Int)) = false := decide_eq_false c11
 clear c11
 have H' := Aside0.mk H
 clear H
 go_wp2
 go_loopg [10] k1 (fun kq v10 w' => ∃ (x8_2 : List (S85)) (x10_2 : Int), v10 = .int .i64 x10_2 ∧ Aside0 (peristyleref10_BestLine.l1 kq l0 l1 x8_2 x10_2 = some (r1, r2, r3)) ∧ Aside0 (kq ≤ k1) ∧ Aside0 (Kd.S k85 85 w' w.heap.size (fun _ => True) v270 x8_2) ∧ Aside0 (Below w.heap.size w w'))
 case atStart => exact ⟨(x8_1), (1), s8q9, H', ⟨Nat.le_refl _⟩, ⟨by (with_reducible repeat (first | apply Kd.S_alloc | apply Kd.S_drewN | apply Kd.S_drew)); exact HO_8.out⟩, ⟨by repeat (first | (with_reducible first | exact HB.out | apply below_alloc | apply pw_below_drewN | apply below_drew1) | exact HB.out)⟩⟩
 clear H'
 try clear c1
 try clear p1
 try clear q1
 try clear hx1
 try clear c2
 try clear p2
 try clear hx2
 try clear hf2
 try clear c4
 try clear c4b0
 try clear c4b1
 try clear c6
 try clear c6b0
 try clear c6b1
 try clear p6
 try clear c7
 try clear c7b0
 try clear c7b1
 try clear c11
 try clear c11b0
 try clear c12
 try clear c12b0
 try clear c12b1
 try clear c14
 try clear c14b0
 try clear c15
 try clear c15b0
 try clear c16
 try clear p16
 try clear q16
 try clear hx16
 try clear hf16
 try clear c20
 try clear hx20
 try clear hf20
 try clear c21
 try clear hx16_0
 try clear hx16_1
 try clear hx16_2
 try clear hx20_0
 try clear hx20_1
 try clear hx20_2
 try clear p16
 try clear p2
 try clear p6
 try clear q16
 obtain ⟨x8_2, x10_2, rfl, HA, HK2, HO_8, HB⟩ := hrel
 cases gk with
 | zero => exact absurd HA.out (by simp [peristyleref10_BestLine.l1])
 | succ k2 => ?_
 have H := HA.out
 clear HA
 simp only [peristyleref10_BestLine.l1] at H
 by_cases c22 : x10_2 < (x8_2.length : Int)
 case neg =>
  rw [if_neg c22] at H
  have c22b0 : decide (x10_2 < (x8_2.length : Int)) = false := decide_eq_false c22
  clear c22
  obtain ⟨ji78, hji78⟩ : ∃ j_ : Int, (wrap64 ((x8_2.length : Int) - 1)) = j_ := ⟨_, rfl⟩
  replace H : (if 0 ≤ (ji78) then (if (ji78) < (x8_2.length : Int) then (some ((rd_T85 x8_2 (ji78)).f1, (rd_T85 x8_2 (ji78)).f0, 0)) else (none)) else (none)) = some (r1, r2, r3) := by first | (rw [hji78] at H; exact H) | (simp only [hji78] at H ⊢; exact H)
  have hji78w : (IntKind.i64.wrap ((x8_2.length : Int) - 1)) = ji78 := (i64_w _).trans hji78
  by_cases c79 : 0 ≤ (ji78)
  case neg =>
   rw [if_neg c79] at H
   exact absurd H s8q0
  rw [if_pos c79] at H
  have c79b0 : decide (0 ≤ (ji78)) = true := decide_eq_true c79
  clear c79
  by_cases c80 : (ji78) < (x8_2.length : Int)
  case neg =>
   rw [if_neg c80] at H
   exact absurd H s8q0
  rw [if_pos c80] at H
  have c80b0 : decide ((ji78) < (x8_2.length : Int)) = true := decide_eq_true c80
  clear c80
  simp only [Option.some.injEq, Prod.mk.injEq] at H
  obtain ⟨rfl, rfl, rfl⟩ := H
  obtain ⟨Ao81, co81, eo81⟩ := Kd.S_slice HO_8.out
  subst eo81
  have p276 : 0 ≤ ((ji78) : Int) := of_decide_eq_true s8q10
  have q276 : (ji78) < (x8_2.length : Int) := of_decide_eq_true s8q10
  obtain ⟨ad276, A276_1, c276_1, e276, hx276_0, hx276_1, hx276_2, hl276_1, hi276_1⟩ := at_T85 (Kd.S_reads' HO_8.out).2.2 (ji78) p276 q276
  cases e276
  obtain ⟨ce276, hce276, hMe276, hcc276⟩ := Kd.S_get HO_8.out z85 (ji78) p276 (by first | exact q276 | exact of_decide_eq_true s8q10 | (have e_ := (Kd.S_reads' HO_8.out).1; omega))
  obtain ⟨ve276_1, rfl, ge276_1⟩ := k85_openM hMe276
  have hv276_1 := hcc276 1 _ rfl
  rw [add_field _ _ 1 s8q1] at hv276_1
  replace hv276_1 := Option.some.inj (hv276_1.symm.trans hx276_1)
  rw [hv276_1] at ge276_1
  have HL276_1 := Aside0.mk (show Kd.R (Kd.int .i64) 3 _ _ _ _ ((rd_T85 x8_2 (ji78)).f1) from ge276_1)
  clear hv276_1 ge276_1
  clear hcc276 hce276
  have HR276_1 := Aside0.mk hi276_1
  have HC276_1 := Aside0.mk hl276_1
  clear hi276_1 hl276_1
  replace p276 := eq_true p276
  replace q276 := eq_true q276
  go_wp2_with (first | ((with_reducible refine gate_dst (N := 15) rfl ?_); refine box_event ?hg (N := 15) ?hd (cs := #[.int .i64 0, .slice none 0 0, .bool false]) (t := 85) ?hr ?_; (case hd => rfl); (case hg => rfl); (case hr => first | (go_simp; done) | (go_simp; rfl)); intro gb277 hg w82 hbox hb; have n0_ := Aside0.mk (Kd.S_below (Kd.S_elderB s8q14 gb277 (Nat.le_of_eq hg.symm)) hb); have n1_ := Aside0.mk (Kd.R_below s8q19 hb); have n2_ := Aside0.mk (Kd.C_below s8q40 hb); have n3_ := Aside0.mk (below_step s8q25 hb); have n4_ := Aside0.mk (hbox); have n5_ := Aside0.mk ((s8q61 : w.heap.size ≤ gb277)); have n6_ := Aside0.mk ((s8q61 : w.heap.size ≤ gb277)); clear HO_8; clear HL276_1; clear HR276_1; clear HB; have HO_8 := n0_; have HL276_1 := n1_; have HR276_1 := n2_; have HB := n3_; have BK277 := n4_; have GW277 := n5_; have GE277 := n6_; clear n0_ n1_ n2_ n3_ n4_ n5_ n6_; clear hb hbox hg; have hcz83_0 : w82.cell? ⟨gb277, 0, none⟩ = some (.int .i64 0) := (blk_cell BK277.out 0).trans rfl; have hcz83_1 : w82.cell? ⟨gb277, 1, none⟩ = some (.slice none 0 0) := (blk_cell BK277.out 1).trans rfl; have hcz83_2 : w82.cell? ⟨gb277, 2, none⟩ = some (.bool false) := (blk_cell BK277.out 2).trans rfl; have hfz83_0 := blk_frozen BK277.out 0; have hfz83_1 := blk_frozen BK277.out 1; have hfz83_2 := blk_frozen BK277.out 2))
  repeat (go_quiet (first | ((with_reducible refine gate_dst (N := 15) rfl ?_); refine box_event ?hg (N := 15) ?hd (cs := #[.int .i64 0, .slice none 0 0, .bool false]) (t := 85) ?hr ?_; (case hd => rfl); (case hg => rfl); (case hr => first | (go_simp; done) | (go_simp; rfl)); intro gb277 hg w82 hbox hb; have n0_ := Aside0.mk (Kd.S_below (Kd.S_elderB s8q14 gb277 (Nat.le_of_eq hg.symm)) hb); have n1_ := Aside0.mk (Kd.R_below s8q19 hb); have n2_ := Aside0.mk (Kd.C_below s8q40 hb); have n3_ := Aside0.mk (below_step s8q25 hb); have n4_ := Aside0.mk (hbox); have n5_ := Aside0.mk ((s8q61 : w.heap.size ≤ gb277)); have n6_ := Aside0.mk ((s8q61 : w.heap.size ≤ gb277)); clear HO_8; clear HL276_1; clear HR276_1; clear HB; have HO_8 := n0_; have HL276_1 := n1_; have HR276_1 := n2_; have HB := n3_; have BK277 := n4_; have GW277 := n5_; have GE277 := n6_; clear n0_ n1_ n2_ n3_ n4_ n5_ n6_; clear hb hbox hg; have hcz83_0 : w82.cell? ⟨gb277, 0, none⟩ = some (.int .i64 0) := (blk_cell BK277.out 0).trans rfl; have hcz83_1 : w82.cell? ⟨gb277, 1, none⟩ = some (.slice none 0 0) := (blk_cell BK277.out 1).trans rfl; have hcz83_2 : w82.cell? ⟨gb277, 2, none⟩ = some (.bool false) := (blk_cell BK277.out 2).trans rfl; have hfz83_0 := blk_frozen BK277.out 0; have hfz83_1 := blk_frozen BK277.out 1; have hfz83_2 := blk_frozen BK277.out 2)); try go_wp2_with (first | ((with_reducible refine gate_dst (N := 15) rfl ?_); refine box_event ?hg (N := 15) ?hd (cs := #[.int .i64 0, .slice none 0 0, .bool false]) (t := 85) ?hr ?_; (case hd => rfl); (case hg => rfl); (case hr => first | (go_simp; done) | (go_simp; rfl)); intro gb277 hg w82 hbox hb; have n0_ := Aside0.mk (Kd.S_below (Kd.S_elderB s8q14 gb277 (Nat.le_of_eq hg.symm)) hb); have n1_ := Aside0.mk (Kd.R_below s8q19 hb); have n2_ := Aside0.mk (Kd.C_below s8q40 hb); have n3_ := Aside0.mk (below_step s8q25 hb); have n4_ := Aside0.mk (hbox); have n5_ := Aside0.mk ((s8q61 : w.heap.size ≤ gb277)); have n6_ := Aside0.mk ((s8q61 : w.heap.size ≤ gb277)); clear HO_8; clear HL276_1; clear HR276_1; clear HB; have HO_8 := n0_; have HL276_1 := n1_; have HR276_1 := n2_; have HB := n3_; have BK277 := n4_; have GW277 := n5_; have GE277 := n6_; clear n0_ n1_ n2_ n3_ n4_ n5_ n6_; clear hb hbox hg; have hcz83_0 : w82.cell? ⟨gb277, 0, none⟩ = some (.int .i64 0) := (blk_cell BK277.out 0).trans rfl; have hcz83_1 : w82.cell? ⟨gb277, 1, none⟩ = some (.slice none 0 0) := (blk_cell BK277.out 1).trans rfl; have hcz83_2 : w82.cell? ⟨gb277, 2, none⟩ = some (.bool false) := (blk_cell BK277.out 2).trans rfl; have hfz83_0 := blk_frozen BK277.out 0; have hfz83_1 := blk_frozen BK277.out 1; have hfz83_2 := blk_frozen BK277.out 2)))
  go_ret3
  exact ⟨_, by first | rfl | (simp [errW_none, errW_some] <;> rfl) | (simp only [← hji5, ← hji78]; first | rfl | (simp [errW_none, errW_some] <;> rfl)) | (simp [*, errW_none, errW_some] <;> rfl), by (with_reducible repeat (first | apply Kd.R_alloc | apply Kd.R_drewN | apply Kd.R_drew)); exact Kd.R_mono (Kd.R_far (p := ⟨gb277, 2, none⟩) (Kd.R_far (p := ⟨gb277, 1, none⟩) (Kd.R_far (p := ⟨gb277, 0, none⟩) (Kd.R_types HL276_1.out BK277.out s8q2) (fun _ hk => hk.2) (.int .i64 ((rd_T85 x8_2 (ji78)).f0))) (fun _ hk => hk.2) (.slice A276_1 ((rd_T85 x8_2 (ji78)).f1).length c276_1)) (fun _ hk => hk.2) (.bool ((rd_T85 x8_2 (ji78)).f2))) (fun _ hk => trivial), by repeat (first | (with_reducible first | exact HB.out | apply below_alloc | apply pw_below_drewN | apply below_drew1 | refine below_set ?_ GE277.out) | exact HB.out)⟩
 rw [if_pos c22] at H
 have c22b0 : decide (x10_2 < (x8_2.length : Int)) = true := decide_eq_true c22
 clear c22
 by_cases c23 : 0 ≤ x10_2
 case neg =>
  rw [if_neg c23] at H
  exact absurd H s8q0
 rw [if_pos c23] at H
 have c23b0 : decide (0 ≤ x10_2) = true := decide_eq_true c23
 clear c23
 obtain ⟨bq24, hbq24⟩ : ∃ b_ : Bool, b_ = ((rd_T85 x8_2 x10_2).f2) := ⟨_, rfl⟩
 replace H : (if bq24 = true then (peristyleref10_BestLine.l1 k2 l0 l1 x8_2 (wrap64 (x10_2 + 1))) else ((peristyleref10_size.f k2 l0 l1 x10_2).bind fun t279 => (peristyleref10_BestLine.l2 k2 l0 l1 x8_2 x10_2 t279 (l0.length : Int) 0))) = some (r1, r2, r3) := by rw [← hbq24] at H; exact H
 have Nbq24 := Aside0.mk hbq24
 clear hbq24
 by_cases c25 : bq24 = true
 · subst c25
   have H1 : (peristyleref10_BestLine.l1 k2 l0 l1 x8_2 (wrap64 (x10_2 + 1))) = some (r1, r2, r3) := by rw [if_pos rfl] at H; exact H
   clear H
   have H := H1
   clear H1
   have H' := Aside0.mk H
   clear H
   obtain ⟨Ao26, co26, eo26⟩ := Kd.S_slice HO_8.out
   subst eo26
   have p278 : 0 ≤ (x10_2 : Int) := of_decide_eq_true s8q10
   have q278 : x10_2 < (x8_2.length : Int) := of_decide_eq_true s8q10
   obtain ⟨ad278, A278_1, c278_1, e278, hx278_0, hx278_1, hx278_2, hl278_1, hi278_1⟩ := at_T85 (Kd.S_reads' HO_8.out).2.2 x10_2 p278 q278
   (try rw [← Nbq24.out] at hx278_2)
   cases e278
   obtain ⟨ce278, hce278, hMe278, hcc278⟩ := Kd.S_get HO_8.out z85 x10_2 p278 s8q53
   obtain ⟨ve278_1, rfl, ge278_1⟩ := k85_openM hMe278
   have hv278_1 := hcc278 1 _ rfl
   rw [add_field _ _ 1 s8q1] at hv278_1
   replace hv278_1 := Option.some.inj (hv278_1.symm.trans hx278_1)
   rw [hv278_1] at ge278_1
   have HL278_1 := Aside0.mk (show Kd.R (Kd.int .i64) 3 _ _ _ _ ((rd_T85 x8_2 x10_2).f1) from ge278_1)
   clear hv278_1 ge278_1
   clear hcc278 hce278
   have HR278_1 := Aside0.mk hi278_1
   have HC278_1 := Aside0.mk hl278_1
   clear hi278_1 hl278_1
   replace p278 := eq_true p278
   replace q278 := eq_true q278
   go_wp2
   first | go_roundg k2 | (refine Handed.intro k2 ?measure ?_; rotate_left; go_step; (repeat apply Exists.intro); simp only [add_plain]; refine ⟨?rel, rfl⟩)
   case measure => have := HK1.out; have := HK2.out; omega
   case rel => exact ⟨(x8_2), (wrap64 (x10_2 + 1)), s8q9, H', ⟨by have := HK1.out; have := HK2.out; omega⟩, ⟨by (with_reducible repeat (first | apply Kd.S_alloc | apply Kd.S_drewN | apply Kd.S_drew)); exact HO_8.out⟩, ⟨by repeat (first | (with_reducible first | exact HB.out | apply below_alloc | apply pw_below_drewN | apply below_drew1) | exact HB.out)⟩⟩
 replace c25 := Bool.eq_false_iff.mpr c25
 subst c25
 have H1 : ((peristyleref10_size.f k2 l0 l1 x10_2).bind fun t279 => (peristyleref10_BestLine.l2 k2 l0 l1 x8_2 x10_2 t279 (l0.length : Int) 0)) = some (r1, r2, r3) := s8q62
 clear H
 have H := H1
 clear H1
 replace H := Option.bind_eq_some_iff.mp H
 obtain ⟨t279, A270, H⟩ := H
 replace H : (peristyleref10_BestLine.l2 k2 l0 l1 x8_2 x10_2 t279 (l0.length : Int) 0) = some (r1, r2, r3) := H
 have A27 := Aside0.mk A270
 clear A270
 have H' := Aside0.mk H
 clear H
 obtain ⟨Ao28, co28, eo28⟩ := Kd.S_slice HO_8.out
 subst eo28
 have p278 : 0 ≤ (x10_2 : Int) := of_decide_eq_true s8q10
 have q278 : x10_2 < (x8_2.length : Int) := of_decide_eq_true s8q10
 obtain ⟨ad278, A278_1, c278_1, e278, hx278_0, hx278_1, hx278_2, hl278_1, hi278_1⟩ := at_T85 (Kd.S_reads' HO_8.out).2.2 x10_2 p278 q278
 (try rw [← Nbq24.out] at hx278_2)
 cases e278
 obtain ⟨ce278, hce278, hMe278, hcc278⟩ := Kd.S_get HO_8.out z85 x10_2 p278 s8q53
 obtain ⟨ve278_1, rfl, ge278_1⟩ := k85_openM hMe278
 have hv278_1 := hcc278 1 _ rfl
 rw [add_field _ _ 1 s8q1] at hv278_1
 replace hv278_1 := Option.some.inj (hv278_1.symm.trans hx278_1)
 rw [hv278_1] at ge278_1
 have HL278_1 := Aside0.mk (show Kd.R (Kd.int .i64) 3 _ _ _ _ ((rd_T85 x8_2 x10_2).f1) from ge278_1)
 clear hv278_1 ge278_1
 clear hcc278 hce278
 have HR278_1 := Aside0.mk hi278_1
 have HC278_1 := Aside0.mk hl278_1
 clear hi278_1 hl278_1
 replace p278 := eq_true p278
 replace q278 := eq_true q278
 go_wp2_with (first | (go_at_call 45; (with_reducible refine (peristyleref10_size.calls k2 _ _ l0 _ _ l1 x10_2 t279 _ ?side1 ?side2 ?side3 ?side4 A27.out).mono ?_); (case side1 => repeat (first | exact (Kd.C_below HR0.out HB.out) | (with_reducible refine Kd.C_alloc ?_ _) | (with_reducible refine Kd.C_drewN ?_ _) | (with_reducible refine Kd.C_drew ?_))); (case side2 => exact HC0.out); (case side3 => repeat (first | exact (Kd.C_below HR1.out HB.out) | (with_reducible refine Kd.C_alloc ?_ _) | (with_reducible refine Kd.C_drewN ?_ _) | (with_reducible refine Kd.C_drew ?_))); (case side4 => exact HC1.out); rintro e w29 ⟨rfl, hb⟩; have n0_ := Aside0.mk (Kd.S_below s8q14 hb); have n1_ := Aside0.mk (Kd.R_below s8q20 hb); have n2_ := Aside0.mk (Kd.C_below s8q41 hb); have n3_ := Aside0.mk (below_step s8q25 hb); clear HO_8; clear HL278_1; clear HR278_1; clear HB; have HO_8 := n0_; have HL278_1 := n1_; have HR278_1 := n2_; have HB := n3_; clear n0_ n1_ n2_ n3_; (try clear hb); (try clear hb2); (try clear hk); (try clear hi)))
 go_loopg [56] k2 (fun kq v56 w' => ∃ (x8_3 : List (S85)) (x56_3 : Int), v56 = .int .i64 x56_3 ∧ Aside0 (peristyleref10_BestLine.l2 kq l0 l1 x8_3 x10_2 t279 (l0.length : Int) x56_3 = some (r1, r2, r3)) ∧ Aside0 (kq ≤ k2) ∧ Aside0 (Kd.S k85 85 w' w.heap.size (fun _ => True) (.slice (some ad278) x8_2.length co28) x8_3) ∧ Aside0 (Below w.heap.size w w'))
 case atStart => exact ⟨(x8_2), (0), s8q9, H', ⟨Nat.le_refl _⟩, ⟨by (with_reducible repeat (first | apply Kd.S_alloc | apply Kd.S_drewN | apply Kd.S_drew)); exact HO_8.out⟩, ⟨by repeat (first | (with_reducible first | exact HB.out | apply below_alloc | apply pw_below_drewN | apply below_drew1) | exact HB.out)⟩⟩
 clear H'
 try clear c1
 try clear p1
 try clear q1
 try clear hx1
 try clear c2
 try clear p2
 try clear q2
 try clear hx2
 try clear hf2
 try clear c4
 try clear c4b0
 try clear c4b1
 try clear c6
 try clear c6b0
 try clear c6b1
 try clear p6
 try clear c7
 try clear c7b0
 try clear c7b1
 try clear c11
 try clear c11b0
 try clear c12
 try clear c12b0
 try clear c12b1
 try clear c14
 try clear c14b0
 try clear c15
 try clear c15b0
 try clear c16
 try clear p16
 try clear q16
 try clear hx16
 try clear hf16
 try clear c20
 try clear hx20
 try clear hf20
 try clear c21
 try clear c22
 try clear c22b0
 try clear c23
 try clear c23b0
 try clear q24
 try clear c25
 try clear c27
 try clear p27
 try clear q27
 try clear hx27
 try clear hx16_0
 try clear hx16_1
 try clear hx16_2
 try clear hx20_0
 try clear hx20_1
 try clear hx20_2
 try clear hx278_0
 try clear hx278_1
 try clear hx278_2
 try clear p1
 try clear p16
 try clear p2
 try clear p278
 try clear p6
 try clear q1
 try clear q16
 try clear q278
 obtain ⟨x8_3, x56_3, rfl, HA, HK3, HO_8, HB⟩ := hrel
 have hl8_3 := (Kd.S_reads' HO_8.out).1
 rw [hl8_3] at HO_8
 (try simp only [hl8_3])
 cases gk with
 | zero => exact absurd HA.out (by simp [peristyleref10_BestLine.l2])
 | succ k3 => ?_
 have H := HA.out
 clear HA
 simp only [peristyleref10_BestLine.l2] at H
 by_cases c30 : x56_3 < (l0.length : Int)
 case neg =>
  rw [if_neg c30] at H
  have c30b0 : decide (x56_3 < (l0.length : Int)) = false := decide_eq_false c30
  clear c30
  have H' := Aside0.mk H
  clear H
  go_wp2
  (try simp only [← hl8_3])
  first | go_roundg k3 | (refine Handed.intro k3 ?measure ?_; rotate_left; go_step; (repeat apply Exists.intro); simp only [add_plain]; refine ⟨?rel, rfl⟩)
  case measure => have := HK1.out; have := HK2.out; have := HK3.out; omega
  case rel => exact ⟨(x8_3), (wrap64 (x10_2 + 1)), s8q9, H', ⟨by have := HK1.out; have := HK2.out; have := HK3.out; omega⟩, ⟨by (try simp only [hl8_3]); (with_reducible repeat (first | apply Kd.S_alloc | apply Kd.S_drewN | apply Kd.S_drew)); exact HO_8.out⟩, ⟨by repeat (first | (with_reducible first | exact HB.out | apply below_alloc | apply pw_below_drewN | apply below_drew1) | exact HB.out)⟩⟩
 rw [if_pos c30] at H
 have c30b0 : decide (x56_3 < (l0.length : Int)) = true := decide_eq_true c30
 clear c30
 by_cases c31 : 0 ≤ x56_3
 case neg =>
  rw [if_neg c31] at H
  exact absurd H s8q0
 rw [if_pos c31] at H
 have c31b0 := eq_true c31
 have c31b1 : decide (0 ≤ x56_3) = true := decide_eq_true c31
 clear c31
 obtain ⟨ji32, hji32⟩ : ∃ j_ : Int, (shr .i64 x10_2 x56_3) = j_ := ⟨_, rfl⟩
 replace H : (if (Go.bits .and .i64 (ji32) 1) = 0 then (peristyleref10_BestLine.l2 k3 l0 l1 x8_3 x10_2 t279 (l0.length : Int) (wrap64 (x56_3 + 1))) else (if 0 ≤ (Go.bits .andNot .i64 x10_2 (shl .i64 1 x56_3)) then (if (Go.bits .andNot .i64 x10_2 (shl .i64 1 x56_3)) < (x8_3.length : Int) then (if 0 ≤ x10_2 then (if x10_2 < (x8_3.length : Int) then (if ((rd_T85 x8_3 x10_2).f2 = true) then (if (mn 1000000000000000 (wrap64 (((rd_T85 x8_3 (Go.bits .andNot .i64 x10_2 (shl .i64 1 x56_3))).f0) + t279))) < ((rd_T85 x8_3 x10_2).f0) then ((slices_Clone_int_int.f ((rd_T85 x8_3 (Go.bits .andNot .i64 x10_2 (shl .i64 1 x56_3))).f1)).bind fun t284 => ((some (([x56_3, (-1)] : List Int) : List Int)).bind fun y287 => (if t284.length + y287.length < 17592186044416 then (peristyleref10_BestLine.l2 k3 l0 l1 (x8_3.set (x10_2 : Int).toNat (⟨mn 1000000000000000 (wrap64 (((rd_T85 x8_3 (Go.bits .andNot .i64 x10_2 (shl .i64 1 x56_3))).f0) + t279)), (t284 ++ y287), true⟩ : S85)) x10_2 t279 (l0.length : Int) (wrap64 (x56_3 + 1))) else (none)))) else (peristyleref10_BestLine.l2 k3 l0 l1 x8_3 x10_2 t279 (l0.length : Int) (wrap64 (x56_3 + 1)))) else ((slices_Clone_int_int.f ((rd_T85 x8_3 (Go.bits .andNot .i64 x10_2 (shl .i64 1 x56_3))).f1)).bind fun t294 => ((some (([x56_3, (-1)] : List Int) : List Int)).bind fun y297 => (if t294.length + y297.length < 17592186044416 then (peristyleref10_BestLine.l2 k3 l0 l1 (x8_3.set (x10_2 : Int).toNat (⟨mn 1000000000000000 (wrap64 (((rd_T85 x8_3 (Go.bits .andNot .i64 x10_2 (shl .i64 1 x56_3))).f0) + t279)), (t294 ++ y297), true⟩ : S85)) x10_2 t279 (l0.length : Int) (wrap64 (x56_3 + 1))) else (none))))) else (none)) else (none)) else (none)) else (none))) = some (r1, r2, r3) := by first | (rw [hji32] at H; exact H) | (simp only [hji32] at H ⊢; exact H)
 have hji32_ : (x10_2 / 2 ^ min x56_3.toNat 64) = ji32 := hji32
 have hji32z : x56_3 ≤ 64 → (x10_2 / 2 ^ x56_3.toNat) = ji32 := shr_small hji32
 by_cases c33 : (Go.bits .and .i64 (ji32) 1) = 0
 · rw [if_pos c33] at H
   have c33b0 : ((Go.bits .and .i64 (ji32) 1) == 0) = true := beq_iff_eq.mpr c33
   have c33b1 : ((Go.bits .and .i64 (ji32) 1) != 0) = false := bne_eq_false_iff_eq.mpr c33
   clear c33
   have H' := Aside0.mk H
   clear H
   go_wp2
   (try simp only [← hl8_3])
   first | go_roundg k3 | (refine Handed.intro k3 ?measure ?_; rotate_left; go_step; (repeat apply Exists.intro); simp only [add_plain]; refine ⟨?rel, rfl⟩)
   case measure => have := HK1.out; have := HK2.out; have := HK3.out; omega
   case rel => exact ⟨(x8_3), (wrap64 (x56_3 + 1)), s8q9, H', ⟨by have := HK1.out; have := HK2.out; have := HK3.out; omega⟩, ⟨by (try simp only [hl8_3]); (with_reducible repeat (first | apply Kd.S_alloc | apply Kd.S_drewN | apply Kd.S_drew)); exact HO_8.out⟩, ⟨by repeat (first | (with_reducible first | exact HB.out | apply below_alloc | apply pw_below_drewN | apply below_drew1) | exact HB.out)⟩⟩
 rw [if_neg c33] at H
 have c33b0 : ((Go.bits .and .i64 (ji32) 1) == 0) = false := beq_eq_false_iff_ne.mpr c33
 have c33b1 : ((Go.bits .and .i64 (ji32) 1) != 0) = true := bne_iff_ne.mpr c33
 have c34b0 := eq_true (of_decide_eq_true s8q10 : 0 ≤ x56_3)
 obtain ⟨ji35, hji35⟩ : ∃ j_ : Int, (shl .i64 1 x56_3) = j_ := ⟨_, rfl⟩
 replace H : (if 0 ≤ (Go.bits .andNot .i64 x10_2 (ji35)) then (if (Go.bits .andNot .i64 x10_2 (ji35)) < (x8_3.length : Int) then (if 0 ≤ x10_2 then (if x10_2 < (x8_3.length : Int) then (if ((rd_T85 x8_3 x10_2).f2 = true) then (if (mn 1000000000000000 (wrap64 (((rd_T85 x8_3 (Go.bits .andNot .i64 x10_2 (ji35))).f0) + t279))) < ((rd_T85 x8_3 x10_2).f0) then ((slices_Clone_int_int.f ((rd_T85 x8_3 (Go.bits .andNot .i64 x10_2 (ji35))).f1)).bind fun t284 => ((some (([x56_3, (-1)] : List Int) : List Int)).bind fun y287 => (if t284.length + y287.length < 17592186044416 then (peristyleref10_BestLine.l2 k3 l0 l1 (x8_3.set (x10_2 : Int).toNat (⟨mn 1000000000000000 (wrap64 (((rd_T85 x8_3 (Go.bits .andNot .i64 x10_2 (ji35))).f0) + t279)), (t284 ++ y287), true⟩ : S85)) x10_2 t279 (l0.length : Int) (wrap64 (x56_3 + 1))) else (none)))) else (peristyleref10_BestLine.l2 k3 l0 l1 x8_3 x10_2 t279 (l0.length : Int) (wrap64 (x56_3 + 1)))) else ((slices_Clone_int_int.f ((rd_T85 x8_3 (Go.bits .andNot .i64 x10_2 (ji35))).f1)).bind fun t294 => ((some (([x56_3, (-1)] : List Int) : List Int)).bind fun y297 => (if t294.length + y297.length < 17592186044416 then (peristyleref10_BestLine.l2 k3 l0 l1 (x8_3.set (x10_2 : Int).toNat (⟨mn 1000000000000000 (wrap64 (((rd_T85 x8_3 (Go.bits .andNot .i64 x10_2 (ji35))).f0) + t279)), (t294 ++ y297), true⟩ : S85)) x10_2 t279 (l0.length : Int) (wrap64 (x56_3 + 1))) else (none))))) else (none)) else (none)) else (none)) else (none)) = some (r1, r2, r3) := by first | (rw [hji35] at H; exact H) | (simp only [hji35] at H ⊢; exact H)
 have hji35_ : (IntKind.i64.wrap (1 * 2 ^ min x56_3.toNat 64)) = ji35 := hji35
 have hji35z : x56_3 ≤ 64 → (IntKind.i64.wrap (1 * 2 ^ x56_3.toNat)) = ji35 := shl_small hji35
 have hji35u : (IntKind.i64.wrap (2 ^ min x56_3.toNat 64)) = ji35 := by have h_ := hji35_; rw [Int.one_mul] at h_; exact h_
 have hji35v : x56_3 ≤ 64 → (IntKind.i64.wrap (2 ^ x56_3.toNat)) = ji35 := fun hle_ => by have h_ := hji35z hle_; rw [Int.one_mul] at h_; exact h_
 have hji35y : (wrap64 (1 * 2 ^ min x56_3.toNat 64)) = ji35 := (i64_w _).symm.trans hji35_
 have hji35x : x56_3 ≤ 64 → (wrap64 (1 * 2 ^ x56_3.toNat)) = ji35 := fun h_ => (i64_w _).symm.trans (hji35z h_)
 by_cases c36 : 0 ≤ (Go.bits .andNot .i64 x10_2 (ji35))
 case neg =>
  rw [if_neg c36] at H
  exact absurd H s8q0
 rw [if_pos c36] at H
 have c36b0 : decide (0 ≤ (Go.bits .andNot .i64 x10_2 (ji35))) = true := decide_eq_true c36
 clear c36
 by_cases c37 : (Go.bits .andNot .i64 x10_2 (ji35)) < (x8_3.length : Int)
 case neg =>
  rw [if_neg c37] at H
  exact absurd H s8q0
 rw [if_pos c37] at H
 have c37b0 : decide ((Go.bits .andNot .i64 x10_2 (ji35)) < (x8_3.length : Int)) = true := decide_eq_true c37
 clear c37
 obtain ⟨ji38, hji38⟩ : ∃ j_ : Int, (mn 1000000000000000 (wrap64 (((rd_T85 x8_3 (Go.bits .andNot .i64 x10_2 (ji35))).f0) + t279))) = j_ := ⟨_, rfl⟩
 replace H : (if 0 ≤ x10_2 then (if x10_2 < (x8_3.length : Int) then (if ((rd_T85 x8_3 x10_2).f2 = true) then (if (ji38) < ((rd_T85 x8_3 x10_2).f0) then ((slices_Clone_int_int.f ((rd_T85 x8_3 (Go.bits .andNot .i64 x10_2 (ji35))).f1)).bind fun t284 => ((some (([x56_3, (-1)] : List Int) : List Int)).bind fun y287 => (if t284.length + y287.length < 17592186044416 then (peristyleref10_BestLine.l2 k3 l0 l1 (x8_3.set (x10_2 : Int).toNat (⟨ji38, (t284 ++ y287), true⟩ : S85)) x10_2 t279 (l0.length : Int) (wrap64 (x56_3 + 1))) else (none)))) else (peristyleref10_BestLine.l2 k3 l0 l1 x8_3 x10_2 t279 (l0.length : Int) (wrap64 (x56_3 + 1)))) else ((slices_Clone_int_int.f ((rd_T85 x8_3 (Go.bits .andNot .i64 x10_2 (ji35))).f1)).bind fun t294 => ((some (([x56_3, (-1)] : List Int) : List Int)).bind fun y297 => (if t294.length + y297.length < 17592186044416 then (peristyleref10_BestLine.l2 k3 l0 l1 (x8_3.set (x10_2 : Int).toNat (⟨ji38, (t294 ++ y297), true⟩ : S85)) x10_2 t279 (l0.length : Int) (wrap64 (x56_3 + 1))) else (none))))) else (none)) else (none)) = some (r1, r2, r3) := by first | (rw [hji38] at H; exact H) | (simp only [hji38] at H ⊢; exact H)
 have hji38_ : (if (wrap64 (((rd_T85 x8_3 (Go.bits .andNot .i64 x10_2 (ji35))).f0) + t279)) < 1000000000000000 then (wrap64 (((rd_T85 x8_3 (Go.bits .andNot .i64 x10_2 (ji35))).f0) + t279)) else 1000000000000000) = ji38 := hji38
 by_cases c39 : 0 ≤ x10_2
 case neg =>
  rw [if_neg c39] at H
  exact absurd H s8q0
 rw [if_pos c39] at H
 have c39b0 : decide (0 ≤ x10_2) = true := decide_eq_true c39
 clear c39
 by_cases c40 : x10_2 < (x8_3.length : Int)
 case neg =>
  rw [if_neg c40] at H
  exact absurd H s8q0
 rw [if_pos c40] at H
 have c40b0 : decide (x10_2 < (x8_3.length : Int)) = true := decide_eq_true c40
 clear c40
 obtain ⟨bq41, hbq41⟩ : ∃ b_ : Bool, b_ = ((rd_T85 x8_3 x10_2).f2) := ⟨_, rfl⟩
 replace H : (if (bq41 = true) then (if (ji38) < ((rd_T85 x8_3 x10_2).f0) then ((slices_Clone_int_int.f ((rd_T85 x8_3 (Go.bits .andNot .i64 x10_2 (ji35))).f1)).bind fun t284 => ((some (([x56_3, (-1)] : List Int) : List Int)).bind fun y287 => (if t284.length + y287.length < 17592186044416 then (peristyleref10_BestLine.l2 k3 l0 l1 (x8_3.set (x10_2 : Int).toNat (⟨ji38, (t284 ++ y287), true⟩ : S85)) x10_2 t279 (l0.length : Int) (wrap64 (x56_3 + 1))) else (none)))) else (peristyleref10_BestLine.l2 k3 l0 l1 x8_3 x10_2 t279 (l0.length : Int) (wrap64 (x56_3 + 1)))) else ((slices_Clone_int_int.f ((rd_T85 x8_3 (Go.bits .andNot .i64 x10_2 (ji35))).f1)).bind fun t294 => ((some (([x56_3, (-1)] : List Int) : List Int)).bind fun y297 => (if t294.length + y297.length < 17592186044416 then (peristyleref10_BestLine.l2 k3 l0 l1 (x8_3.set (x10_2 : Int).toNat (⟨ji38, (t294 ++ y297), true⟩ : S85)) x10_2 t279 (l0.length : Int) (wrap64 (x56_3 + 1))) else (none))))) = some (r1, r2, r3) := by rw [← hbq41] at H; exact H
 have Nbq41 := Aside0.mk hbq41
 clear hbq41
 by_cases c42 : (bq41 = true)
 case neg =>
  replace c42 := Bool.eq_false_iff.mpr c42
  subst c42
  have H1 : ((slices_Clone_int_int.f ((rd_T85 x8_3 (Go.bits .andNot .i64 x10_2 (ji35))).f1)).bind fun t294 => ((some (([x56_3, (-1)] : List Int) : List Int)).bind fun y297 => (if t294.length + y297.length < 17592186044416 then (peristyleref10_BestLine.l2 k3 l0 l1 (x8_3.set (x10_2 : Int).toNat (⟨ji38, (t294 ++ y297), true⟩ : S85)) x10_2 t279 (l0.length : Int) (wrap64 (x56_3 + 1))) else (none)))) = some (r1, r2, r3) := s8q62
  clear H
  have H := H1
  clear H1
  replace H := Option.bind_eq_some_iff.mp H
  obtain ⟨t294, A630, H⟩ := H
  replace H : ((some (([x56_3, (-1)] : List Int) : List Int)).bind fun y297 => (if t294.length + y297.length < 17592186044416 then (peristyleref10_BestLine.l2 k3 l0 l1 (x8_3.set (x10_2 : Int).toNat (⟨ji38, (t294 ++ y297), true⟩ : S85)) x10_2 t279 (l0.length : Int) (wrap64 (x56_3 + 1))) else (none))) = some (r1, r2, r3) := H
  have A63 := Aside0.mk A630
  clear A630
  obtain ⟨y297, hy297⟩ : ∃ y_ : List Int, y_ = (([x56_3, (-1)] : List Int)) := ⟨_, rfl⟩
  replace H : (if t294.length + y297.length < 17592186044416 then (peristyleref10_BestLine.l2 k3 l0 l1 (x8_3.set (x10_2 : Int).toNat (⟨ji38, (t294 ++ y297), true⟩ : S85)) x10_2 t279 (l0.length : Int) (wrap64 (x56_3 + 1))) else (none)) = some (r1, r2, r3) := sqz hy297 H
  have Ny297 := Aside0.mk hy297
  clear hy297
  by_cases c64 : t294.length + y297.length < 17592186044416
  case neg =>
   rw [if_neg c64] at H
   exact absurd H s8q0
  rw [if_pos c64] at H
  have LMc64 := Aside0.mk c64
  clear c64
  obtain ⟨y300, hy300⟩ : ∃ y_ : List Int, y_ = (t294 ++ y297) := ⟨_, rfl⟩
  replace H : (peristyleref10_BestLine.l2 k3 l0 l1 (x8_3.set (x10_2 : Int).toNat (⟨ji38, y300, true⟩ : S85)) x10_2 t279 (l0.length : Int) (wrap64 (x56_3 + 1))) = some (r1, r2, r3) := sqz hy300 H
  have Ny300 := Aside0.mk hy300
  clear hy300
  obtain ⟨y303, hy303⟩ : ∃ y_ : List (S85), y_ = (x8_3.set (x10_2 : Int).toNat (⟨ji38, y300, true⟩ : S85)) := ⟨_, rfl⟩
  replace H : (peristyleref10_BestLine.l2 k3 l0 l1 y303 x10_2 t279 (l0.length : Int) (wrap64 (x56_3 + 1))) = some (r1, r2, r3) := sqz hy303 H
  have Ny303 := Aside0.mk hy303
  clear hy303
  have H' := Aside0.mk H
  clear H
  have p280 : 0 ≤ ((Go.bits .andNot .i64 x10_2 (ji35)) : Int) := of_decide_eq_true s8q10
  have q280 : (Go.bits .andNot .i64 x10_2 (ji35)) < (x8_3.length : Int) := of_decide_eq_true s8q10
  obtain ⟨ad280, A280_1, c280_1, e280, hx280_0, hx280_1, hx280_2, hl280_1, hi280_1⟩ := at_T85 (Kd.S_reads' HO_8.out).2.2 (Go.bits .andNot .i64 x10_2 (ji35)) p280 q280
  (try rw [← Nbq24.out] at hx280_2)
  (try rw [← Nbq41.out] at hx280_2)
  obtain rfl : ad278 = ad280 := (by injection e280)
  obtain ⟨ce280, hce280, hMe280, hcc280⟩ := Kd.S_get HO_8.out z85 (Go.bits .andNot .i64 x10_2 (ji35)) p280 s8q54
  obtain ⟨ve280_1, rfl, ge280_1⟩ := k85_openM hMe280
  have hv280_1 := hcc280 1 _ rfl
  rw [add_field _ _ 1 s8q1] at hv280_1
  replace hv280_1 := Option.some.inj (hv280_1.symm.trans hx280_1)
  rw [hv280_1] at ge280_1
  have HL280_1 := Aside0.mk (show Kd.R (Kd.int .i64) 3 _ _ _ _ ((rd_T85 x8_3 (Go.bits .andNot .i64 x10_2 (ji35))).f1) from ge280_1)
  clear hv280_1 ge280_1
  clear hcc280 hce280
  have HR280_1 := Aside0.mk hi280_1
  have HC280_1 := Aside0.mk hl280_1
  clear hi280_1 hl280_1
  replace p280 := eq_true p280
  replace q280 := eq_true q280
  go_wp2_with (first | ((with_reducible refine gate_dst (N := 13) rfl ?_); refine box_event ?hg (N := 13) ?hd (cs := #[.int .i64 0, .slice none 0 0, .bool false]) (t := 85) ?hr ?_; (case hd => rfl); (case hg => rfl); (case hr => first | (go_simp; done) | (go_simp; rfl)); intro gb281 hg w66 hbox hb; have n0_ := Aside0.mk (Kd.S_below (Kd.S_elderB s8q14 gb281 (Nat.le_of_eq hg.symm)) hb); have n1_ := Aside0.mk (Kd.R_below s8q21 hb); have n2_ := Aside0.mk (Kd.C_below s8q42 hb); have n3_ := Aside0.mk (below_step s8q25 hb); have n4_ := Aside0.mk (hbox); have n5_ := Aside0.mk ((s8q61 : w.heap.size ≤ gb281)); have n6_ := Aside0.mk ((s8q61 : w.heap.size ≤ gb281)); clear HO_8; clear HL280_1; clear HR280_1; clear HB; have HO_8 := n0_; have HL280_1 := n1_; have HR280_1 := n2_; have HB := n3_; have BK281 := n4_; have GW281 := n5_; have GE281 := n6_; clear n0_ n1_ n2_ n3_ n4_ n5_ n6_; clear hb hbox hg; have hcz67_0 : w66.cell? ⟨gb281, 0, none⟩ = some (.int .i64 0) := (blk_cell BK281.out 0).trans rfl; have hcz67_1 : w66.cell? ⟨gb281, 1, none⟩ = some (.slice none 0 0) := (blk_cell BK281.out 1).trans rfl; have hcz67_2 : w66.cell? ⟨gb281, 2, none⟩ = some (.bool false) := (blk_cell BK281.out 2).trans rfl; have hfz67_0 := blk_frozen BK281.out 0; have hfz67_1 := blk_frozen BK281.out 1; have hfz67_2 := blk_frozen BK281.out 2) | ((with_reducible refine gate_store (t := 85) (p := 13) rfl ?_); (try (rw [drewN_self w66]; generalize hq_ : World.drewN w66 _ = w66; have n0_ := Aside0.mk (Kd.S_at hq_ HO_8.out); have n1_ := Aside0.mk (Kd.R_at hq_ HL280_1.out); have n2_ := Aside0.mk (blk_at hq_ BK281.out); have n3_ := Aside0.mk (Kd.C_at hq_ HR280_1.out); have n4_ := Aside0.mk (below_at hq_ HB.out); clear hq_ HO_8 HL280_1 BK281 HR280_1 HB; have HO_8 := n0_; have HL280_1 := n1_; have BK281 := n2_; have HR280_1 := n3_; have HB := n4_; clear n0_ n1_ n2_ n3_ n4_)); refine store_event (t := 85) (p := 13) (v := ?vo_w68) (w1 := (((w66.setCell ⟨gb281, 0, none⟩ (.int .i64 ((rd_T85 x8_3 (Go.bits .andNot .i64 x10_2 (ji35))).f0))).setCell ⟨gb281, 1, none⟩ (.slice A280_1 ((rd_T85 x8_3 (Go.bits .andNot .i64 x10_2 (ji35))).f1).length c280_1)).setCell ⟨gb281, 2, none⟩ (.bool ((rd_T85 x8_3 (Go.bits .andNot .i64 x10_2 (ji35))).f2)))) ?hg ?ho ?hn ?hr ?_; (case ho => rfl); (case hg => rfl); (case hn => rfl); (case hr => first | (go_simp; done) | (go_simp; rfl)); intro w68 hw; have n0_ : Aside0 (Kd.S k85 85 w68 w.heap.size (fun k_ => k_ ≠ gb281) (.slice (some ad278) x8_3.length co28) x8_3) := ⟨s8q48⟩; have n1_ : Aside0 (Kd.R (Kd.int .i64) 3 w68 w.heap.size (fun k_ => some k_ ≠ (.slice (some ad278) x8_3.length co28 : Value).ownBlock) (.slice A280_1 ((rd_T85 x8_3 (Go.bits .andNot .i64 x10_2 (ji35))).f1).length c280_1) ((rd_T85 x8_3 (Go.bits .andNot .i64 x10_2 (ji35))).f1)) := ⟨s8q60⟩; have n2_ : Aside0 (w68.heap[gb281]? = some (.cells #[.int .i64 ((rd_T85 x8_3 (Go.bits .andNot .i64 x10_2 (ji35))).f0), .slice A280_1 ((rd_T85 x8_3 (Go.bits .andNot .i64 x10_2 (ji35))).f1).length c280_1, .bool ((rd_T85 x8_3 (Go.bits .andNot .i64 x10_2 (ji35))).f2)] 85 (0, 0))) := ⟨s8q49⟩; have n3_ : Aside0 (Below w.heap.size w w68) := ⟨s8q47⟩; clear hw; clear HO_8; clear HL280_1; clear BK281; clear HB; have HO_8 := n0_; have HL280_1 := n1_; have BK281 := n2_; have HB := n3_; clear n0_ n1_ n2_ n3_; clear HR280_1; have HR280_1 := Aside0.mk (Kd.R_reads' HL280_1.out).2.2; have hcz69_0 : w68.cell? ⟨gb281, 0, none⟩ = some (.int .i64 ((rd_T85 x8_3 (Go.bits .andNot .i64 x10_2 (ji35))).f0)) := (blk_cell BK281.out 0).trans rfl; have hcz69_1 : w68.cell? ⟨gb281, 1, none⟩ = some (.slice A280_1 ((rd_T85 x8_3 (Go.bits .andNot .i64 x10_2 (ji35))).f1).length c280_1) := (blk_cell BK281.out 1).trans rfl; have hcz69_2 : w68.cell? ⟨gb281, 2, none⟩ = some (.bool ((rd_T85 x8_3 (Go.bits .andNot .i64 x10_2 (ji35))).f2)) := (blk_cell BK281.out 2).trans rfl; have hfz69_0 := blk_frozen BK281.out 0; have hfz69_1 := blk_frozen BK281.out 1; have hfz69_2 := blk_frozen BK281.out 2; have p282 : 0 ≤ (x10_2 : Int) := of_decide_eq_true s8q10; have q282 : x10_2 < (x8_3.length : Int) := of_decide_eq_true s8q10; obtain ⟨ad282, A282_1, c282_1, e282, hx282_0, hx282_1, hx282_2, hl282_1, hi282_1⟩ := at_T85 (Kd.S_reads' HO_8.out).2.2 x10_2 p282 q282; (try rw [← Nbq24.out] at hx282_2); (try rw [← Nbq41.out] at hx282_2); obtain rfl : ad278 = ad282 := s8q4; obtain ⟨ce282, hce282, hMe282, hcc282⟩ := Kd.S_get HO_8.out z85 x10_2 p282 s8q55; obtain ⟨ve282_1, rfl, ge282_1⟩ := k85_openM hMe282; have hv282_1 := hcc282 1 _ rfl; rw [add_field _ _ 1 s8q1] at hv282_1; replace hv282_1 := Option.some.inj (hv282_1.symm.trans hx282_1); rw [hv282_1] at ge282_1; have HL282_1 := Aside0.mk (show Kd.R (Kd.int .i64) 3 _ _ _ _ ((rd_T85 x8_3 x10_2).f1) from ge282_1); clear hv282_1 ge282_1; clear hcc282 hce282; have HR282_1 := Aside0.mk hi282_1; have HC282_1 := Aside0.mk hl282_1; clear hi282_1 hl282_1; replace p282 := eq_true p282; replace q282 := eq_true q282) | (go_at_call 49; (with_reducible refine (slices_Clone_int_int.calls _ _ ((rd_T85 x8_3 (Go.bits .andNot .i64 x10_2 (ji35))).f1) t294 _ ?side1 ?side2 A63.out).mono ?_); (case side1 => repeat (first | exact s8q42 | (with_reducible refine Kd.C_alloc ?_ _) | (with_reducible refine Kd.C_drewN ?_ _) | (with_reducible refine Kd.C_drew ?_))); (case side2 => exact HC280_1.out); rintro e w70 ⟨v295, rfl, ho0, hb⟩; have n0_ := Aside0.mk (Kd.S_elder' s8q14 (Kd.R_base ho0) hb); have n1_ := Aside0.mk (Kd.R_elder' s8q21 (Kd.R_base ho0) hb); have n2_ := Aside0.mk (Kd.R_elder' s8q22 (Kd.R_base ho0) hb); have n3_ := Aside0.mk (Kd.R_lower (Kd.R_new' (Kd.R_new' ho0 (Kd.R_lt s8q21)) (Kd.R_lt s8q22)) (below_size s8q32)); have n4_ := Aside0.mk (Kd.C_below s8q42 hb); have n5_ := Aside0.mk (blk_below (g := gb281) (o := .cells #[.int .i64 ((rd_T85 x8_3 (Go.bits .andNot .i64 x10_2 (ji35))).f0), .slice A280_1 ((rd_T85 x8_3 (Go.bits .andNot .i64 x10_2 (ji35))).f1).length c280_1, .bool ((rd_T85 x8_3 (Go.bits .andNot .i64 x10_2 (ji35))).f2)] 85 (0, 0)) s8q24 hb); have n6_ := Aside0.mk (Kd.C_below s8q43 hb); have n7_ := Aside0.mk (below_step s8q32 hb); clear HO_8; clear HL280_1; clear HL282_1; clear HR280_1; clear BK281; clear HR282_1; clear HB; have HO_8 := n0_; have HL280_1 := n1_; have HL282_1 := n2_; have HO296 := n3_; have HR280_1 := n4_; have BK281 := n5_; have HR282_1 := n6_; have HB := n7_; clear n0_ n1_ n2_ n3_ n4_ n5_ n6_ n7_; (try clear hb); (try clear hb2); (try clear hk); (try clear hi); (try clear ho0)) | ((with_reducible refine gate_dst (N := 98) rfl ?_); refine Kd.R_lit (Kd.int .i64) _ 3 ?hg (N := 98) ?hd (xs := ([x56_3, (-1)] : List Int)) (inner := [.int .i64 x56_3, .int .i64 (-1)]) (ok := fun _ => True) (okp := fun _ => True) ?hr ?hp (fun _ hk => hk) trivial (Below.refl _ _) (Nat.le_refl _) s8q0 ?_; (case hd => rfl); (case hg => rfl); (case hr => first | (go_simp; done) | (go_simp; rfl)); (case hp => exact (Reps.one (show Kd.M (Kd.int .i64) _ _ _ x56_3 [.int .i64 x56_3] from rfl) (Reps.one (show Kd.M (Kd.int .i64) _ _ _ (-1) [.int .i64 (-1)] from rfl) (Reps.none _ _)))); intro v298 w71 ho72 hb hg_ hnew_; clear hg_ hnew_; (first | rw [← Ny297.out] at ho72 | (simp only [Int.reduceToNat] at ho72; rw [← Ny297.out] at ho72)); have n0_ := Aside0.mk (Kd.S_elder' s8q14 (Kd.R_base ho72) hb); have n1_ := Aside0.mk (Kd.R_elder' s8q21 (Kd.R_base ho72) hb); have n2_ := Aside0.mk (Kd.R_elder' s8q22 (Kd.R_base ho72) hb); have n3_ := Aside0.mk (Kd.R_elder' s8q17 (Kd.R_base ho72) hb); have n4_ := Aside0.mk (Kd.R_lower (Kd.R_new' (Kd.R_new' (Kd.R_new' ho72 (Kd.R_lt s8q21)) (Kd.R_lt s8q22)) (Kd.R_lt s8q17)) (below_size s8q32)); have n5_ := Aside0.mk (Kd.C_below s8q42 hb); have n6_ := Aside0.mk (blk_below (g := gb281) (o := .cells #[.int .i64 ((rd_T85 x8_3 (Go.bits .andNot .i64 x10_2 (ji35))).f0), .slice A280_1 ((rd_T85 x8_3 (Go.bits .andNot .i64 x10_2 (ji35))).f1).length c280_1, .bool ((rd_T85 x8_3 (Go.bits .andNot .i64 x10_2 (ji35))).f2)] 85 (0, 0)) s8q24 hb); have n7_ := Aside0.mk (Kd.C_below s8q43 hb); have n8_ := Aside0.mk (below_step s8q32 hb); clear HO_8; clear HL280_1; clear HL282_1; clear HO296; clear HR280_1; clear BK281; clear HR282_1; clear HB; have HO_8 := n0_; have HL280_1 := n1_; have HL282_1 := n2_; have HO296 := n3_; have HO299 := n4_; have HR280_1 := n5_; have BK281 := n6_; have HR282_1 := n7_; have HB := n8_; clear n0_ n1_ n2_ n3_ n4_ n5_ n6_ n7_ n8_; clear hb ho72; obtain ⟨Ao74, co74, eo74⟩ := Kd.R_slice HO299.out; subst eo74) | ((with_reducible refine gate_builtin (b := .append) (xs := #[.tmp 96, .tmp 98]) rfl ?_); at_builtin; refine Kd.R_append_rows (Kd.int .i64) (w0 := w) w.heap.size rfl (.tmp 96) (.tmp 98) 22 3 (.int .i64 0) 8 rfl Tryd.underlying22 info3 rfl s8q2 s8q1 v295 t294 y297 _ _ _ (fun k_ => some k_ ≠ (.slice A280_1 ((rd_T85 x8_3 (Go.bits .andNot .i64 x10_2 (ji35))).f1).length c280_1 : Value).ownBlock ∧ some k_ ≠ (.slice A282_1 ((rd_T85 x8_3 x10_2).f1).length c282_1 : Value).ownBlock ∧ some k_ ≠ (.slice Ao74 y297.length co74 : Value).ownBlock) (fun _ => False) rfl rfl ?aO ?aR (fun _ _ h => h) (fun _ h => h.elim) ?aF ?aB ?aS ?aL ?_; (case aR => repeat (first | exact (Kd.R_reads' HO299.out).2.2 | (with_reducible refine Kd.C_alloc ?_ _) | (with_reducible refine Kd.C_drewN ?_ _) | (with_reducible refine Kd.C_drew ?_))); (case aB => exact s8q32); (case aF => exact (fun k_ hk => ⟨Kd.fresh' (Kd.R_lt s8q21) k_ hk, Kd.fresh' (Kd.R_lt s8q22) k_ hk, Kd.fresh' (Kd.R_lt s8q18) k_ hk⟩)); (case aO => exact s8q29); (case aS => exact (below_size s8q32)); (case aL => have := LMc64.out; omega); intro v301 w73 ho hb hg hat; rw [← Ny300.out] at ho; have n0_ := Aside0.mk (Kd.S_after (ok := (fun k_ => some k_ ≠ (.slice Ao74 y297.length co74 : Value).ownBlock ∧ k_ ≠ gb281)) s8q26 hg hat); have n1_ := Aside0.mk (Kd.R_after (ok := (fun k_ => some k_ ≠ (.slice (some ad278) x8_3.length co28 : Value).ownBlock ∧ some k_ ≠ (.slice Ao74 y297.length co74 : Value).ownBlock)) s8q27 hg hat); have n2_ := Aside0.mk (blk_grown (g := gb281) (o := .cells #[.int .i64 ((rd_T85 x8_3 (Go.bits .andNot .i64 x10_2 (ji35))).f0), .slice A280_1 ((rd_T85 x8_3 (Go.bits .andNot .i64 x10_2 (ji35))).f1).length c280_1, .bool ((rd_T85 x8_3 (Go.bits .andNot .i64 x10_2 (ji35))).f2)] 85 (0, 0)) s8q24 hg (Kd.R_ne HO296.out BK281.out s8q2)); have n3_ := Aside0.mk (Kd.R_after (ok := (fun k_ => some k_ ≠ (.slice (some ad278) x8_3.length co28 : Value).ownBlock ∧ some k_ ≠ (.slice Ao74 y297.length co74 : Value).ownBlock ∧ k_ ≠ gb281)) s8q34 hg hat); have n4_ := Aside0.mk (Kd.R_after (ok := (fun k_ => some k_ ≠ (.slice A280_1 ((rd_T85 x8_3 (Go.bits .andNot .i64 x10_2 (ji35))).f1).length c280_1 : Value).ownBlock ∧ some k_ ≠ (.slice A282_1 ((rd_T85 x8_3 x10_2).f1).length c282_1 : Value).ownBlock)) s8q30 hg hat); have n5_ := Aside0.mk (hb); have n6_ := Aside0.mk (ho); clear HO_8; clear HL280_1; clear BK281; clear HL282_1; clear HO299; clear HB; clear HO296; have HO_8 := n0_; have HL280_1 := n1_; have BK281 := n2_; have HL282_1 := n3_; have HO299 := n4_; have HB := n5_; have HO302 := n6_; clear n0_ n1_ n2_ n3_ n4_ n5_ n6_; clear ho hb hg hat; obtain ⟨Ao75, co75, eo75⟩ := Kd.R_slice HO302.out; subst eo75; have p65 : 0 ≤ (x10_2 : Int) := of_decide_eq_true s8q10; have q65 : (x10_2 : Int) < ((x8_3.length : Int) : Int) := of_decide_eq_true s8q10; obtain ⟨go65, co65, eo65, gb65, gl65, cl65, HG65⟩ := Kd.S_form HO_8.out s8q13; (first | cases eo65 | (injection eo65 with ea_ en_ ec_; (first | subst ea_ | (injection ea_ with ea_; subst ea_)); subst ec_; clear en_)); have GB65 := Aside0.mk gb65; have GG65 := Aside0.mk HG65; clear gb65 gl65 HG65; (first | simp only [add_plain] at hx280_0 | skip); (first | simp only [add_plain] at hx280_1 | skip); (first | simp only [add_plain] at hx280_2 | skip); (first | simp only [add_plain] at hx282_0 | skip); (first | simp only [add_plain] at hx282_1 | skip); (first | simp only [add_plain] at hx282_2 | skip); (first | simp only [add_plain] at hx283_0 | skip); (first | simp only [add_plain] at hx283_1 | skip); (first | simp only [add_plain] at hx283_2 | skip); obtain ⟨_, ce65, hcl65, hM65, hcc65, hfr65, _, _⟩ := Kd.S_elem HO_8.out z85 (x10_2 : Int) p65 q65; obtain ⟨ve65_1, rfl, ge65_1⟩ := k85_openM hM65; have hx65_0 : w73.cell? ⟨go65, (x10_2 : Int).toNat * 3, none⟩ = some (.int .i64 ((rd_T85 x8_3 x10_2).f0)) := hcc65 0 _ rfl; have hx65_1 : w73.cell? ⟨go65, (x10_2 : Int).toNat * 3 + 1, none⟩ = some (ve65_1) := hcc65 1 _ rfl; have hx65_2 : w73.cell? ⟨go65, (x10_2 : Int).toNat * 3 + 2, none⟩ = some (.bool ((rd_T85 x8_3 x10_2).f2)) := hcc65 2 _ rfl; have hf65_0 : w73.frozen? ⟨go65, (x10_2 : Int).toNat * 3, none⟩ = false := hfr65 0; have hf65_1 : w73.frozen? ⟨go65, (x10_2 : Int).toNat * 3 + 1, none⟩ = false := hfr65 1; have hf65_2 : w73.frozen? ⟨go65, (x10_2 : Int).toNat * 3 + 2, none⟩ = false := hfr65 2; clear hcl65 hcc65 hfr65 hM65; replace p65 := eq_true p65; replace q65 := eq_true q65; have n_ := Aside0.mk (Kd.S_mono (ok' := (fun k_ => some k_ ≠ (.slice Ao74 y297.length co74 : Value).ownBlock ∧ some k_ ≠ (.slice Ao75 y300.length co75 : Value).ownBlock ∧ k_ ≠ gb281)) HO_8.out (fun k_ hk => ⟨hk.1.1, ⟨hk.2, hk.1.2⟩⟩)); clear HO_8; have HO_8 := n_; clear n_; have HX76 := Aside0.mk (show Kd.S k85 85 w73 w.heap.size (fun k_ => ((fun k_ => some k_ ≠ (.slice Ao74 y297.length co74 : Value).ownBlock ∧ k_ ≠ gb281)) k_ ∧ ¬ ((fun k_ => some k_ = (.slice Ao75 y300.length co75 : Value).ownBlock)) k_) (.slice (some ⟨go65, 0, none⟩) x8_3.length co28) x8_3 from s8q33); obtain ⟨oki76, ce76, hcl76, hM76, hcc76, hfr76, hoki76, hH76⟩ := Kd.S_elem HX76.out z85 (x10_2 : Int) (of_decide_eq_true s8q10) s8q57; obtain ⟨ve76_1, rfl, ge76_1⟩ := k85_openM hM76; have HP76 := Kd.S_seg hH76 (of_decide_eq_true s8q10) s8q57 (seg := [.int .i64 ji38, .slice Ao75 y300.length co75, .bool true]) (j := 0) (show 3 ≤ 3 from by decide) (x' := (⟨ji38, y300, true⟩ : S85)) (k85_mkM _ _ _ (⟨ji38, y300, true⟩ : S85) (Kd.R_mono (Kd.R_tight rfl (Kd.R_mono (ok' := fun k_ => ((fun k_ => some k_ ≠ (.slice Ao74 y297.length co74 : Value).ownBlock ∧ k_ ≠ gb281)) k_ ∧ k_ ≠ go65) (Kd.R_types (Kd.R_apart' (HO302.out) (Kd.S_typed HO_8.out) s8q2) BK281.out s8q2) (fun k_ hk => ⟨⟨hk.1.1.2.2, hk.2⟩, fun e_ => (hk.1.2) s8q3⟩))) (fun _ h_ => Or.inr (h_)))) (fun _ hk => hk) (fun k_ hk_ => ((Kd.R_mono (ok' := fun k_ => ((fun k_ => some k_ ≠ (.slice Ao74 y297.length co74 : Value).ownBlock ∧ k_ ≠ gb281)) k_ ∧ k_ ≠ go65) (Kd.R_types (Kd.R_apart' (HO302.out) (Kd.S_typed HO_8.out) s8q2) BK281.out s8q2) (fun k_ hk => ⟨⟨hk.1.1.2.2, hk.2⟩, fun e_ => (hk.1.2) s8q3⟩))).1 k_ hk_.symm); have hx76_0 := hcc76 0 _ rfl; (try simp only [show (k85).sz = 3 from rfl, Nat.mul_one, Nat.add_zero] at hx76_0); have hf76_0 := hfr76 0; (try simp only [show (k85).sz = 3 from rfl, Nat.mul_one, Nat.add_zero] at hf76_0); have hx76_1 := hcc76 1 _ rfl; (try simp only [show (k85).sz = 3 from rfl, Nat.mul_one, Nat.add_zero] at hx76_1); have hf76_1 := hfr76 1; (try simp only [show (k85).sz = 3 from rfl, Nat.mul_one, Nat.add_zero] at hf76_1); have hx76_2 := hcc76 2 _ rfl; (try simp only [show (k85).sz = 3 from rfl, Nat.mul_one, Nat.add_zero] at hx76_2); have hf76_2 := hfr76 2; (try simp only [show (k85).sz = 3 from rfl, Nat.mul_one, Nat.add_zero] at hf76_2); clear hcl76 hcc76 hfr76 hM76 hoki76 hH76) | ((with_reducible refine gate_store (t := 85) (p := 101) rfl ?_); (try (rw [drewN_self w73]; generalize hq_ : World.drewN w73 _ = w73; have n0_ := Aside0.mk (Kd.S_at hq_ HO_8.out); have n1_ := Aside0.mk (Kd.R_at hq_ HL280_1.out); have n2_ := Aside0.mk (Kd.R_at hq_ HL282_1.out); have n3_ := Aside0.mk (Kd.R_at hq_ HO299.out); have n4_ := Aside0.mk (blk_at hq_ BK281.out); have n5_ := Aside0.mk (below_at hq_ HB.out); clear hq_ HO_8 HL280_1 HL282_1 HO299 BK281 HB; have HO_8 := n0_; have HL280_1 := n1_; have HL282_1 := n2_; have HO299 := n3_; have BK281 := n4_; have HB := n5_; clear n0_ n1_ n2_ n3_ n4_ n5_; (try (have n_ := Aside0.mk (Kd.S_mono (ok' := (fun k_ => some k_ ≠ (.slice Ao74 y297.length co74 : Value).ownBlock ∧ some k_ ≠ (.slice Ao75 y300.length co75 : Value).ownBlock ∧ k_ ≠ gb281)) HO_8.out (fun k_ hk => ⟨hk.1.1, ⟨hk.2, hk.1.2⟩⟩)); clear HO_8; have HO_8 := n_; clear n_)); (try (have HX76 := Aside0.mk (show Kd.S k85 85 w73 w.heap.size (fun k_ => ((fun k_ => some k_ ≠ (.slice Ao74 y297.length co74 : Value).ownBlock ∧ k_ ≠ gb281)) k_ ∧ ¬ ((fun k_ => some k_ = (.slice Ao75 y300.length co75 : Value).ownBlock)) k_) (.slice (some ⟨go65, 0, none⟩) x8_3.length co28) x8_3 from s8q33))); (try (obtain ⟨oki76, ce76, hcl76, hM76, hcc76, hfr76, hoki76, hH76⟩ := Kd.S_elem HX76.out z85 (x10_2 : Int) (of_decide_eq_true s8q10) s8q57)); (try (obtain ⟨ve76_1, rfl, ge76_1⟩ := k85_openM hM76)); (try (have HP76 := Kd.S_seg hH76 (of_decide_eq_true s8q10) s8q57 (seg := [.int .i64 ji38, .slice Ao75 y300.length co75, .bool true]) (j := 0) (show 3 ≤ 3 from by decide) (x' := (⟨ji38, y300, true⟩ : S85)) (k85_mkM _ _ _ (⟨ji38, y300, true⟩ : S85) (Kd.R_mono (Kd.R_tight rfl (Kd.R_mono (ok' := fun k_ => ((fun k_ => some k_ ≠ (.slice Ao74 y297.length co74 : Value).ownBlock ∧ k_ ≠ gb281)) k_ ∧ k_ ≠ go65) (Kd.R_types (Kd.R_apart' (HO302.out) (Kd.S_typed HO_8.out) s8q2) BK281.out s8q2) (fun k_ hk => ⟨⟨hk.1.1.2.2, hk.2⟩, fun e_ => (hk.1.2) s8q3⟩))) (fun _ h_ => Or.inr (h_)))) (fun _ hk => hk) (fun k_ hk_ => ((Kd.R_mono (ok' := fun k_ => ((fun k_ => some k_ ≠ (.slice Ao74 y297.length co74 : Value).ownBlock ∧ k_ ≠ gb281)) k_ ∧ k_ ≠ go65) (Kd.R_types (Kd.R_apart' (HO302.out) (Kd.S_typed HO_8.out) s8q2) BK281.out s8q2) (fun k_ hk => ⟨⟨hk.1.1.2.2, hk.2⟩, fun e_ => (hk.1.2) s8q3⟩))).1 k_ hk_.symm))); (try (have hx76_0 := hcc76 0 _ rfl)); (try (try simp only [show (k85).sz = 3 from rfl, Nat.mul_one, Nat.add_zero] at hx76_0)); (try (have hf76_0 := hfr76 0)); (try (try simp only [show (k85).sz = 3 from rfl, Nat.mul_one, Nat.add_zero] at hf76_0)); (try (have hx76_1 := hcc76 1 _ rfl)); (try (try simp only [show (k85).sz = 3 from rfl, Nat.mul_one, Nat.add_zero] at hx76_1)); (try (have hf76_1 := hfr76 1)); (try (try simp only [show (k85).sz = 3 from rfl, Nat.mul_one, Nat.add_zero] at hf76_1)); (try (have hx76_2 := hcc76 2 _ rfl)); (try (try simp only [show (k85).sz = 3 from rfl, Nat.mul_one, Nat.add_zero] at hx76_2)); (try (have hf76_2 := hfr76 2)); (try (try simp only [show (k85).sz = 3 from rfl, Nat.mul_one, Nat.add_zero] at hf76_2)); (try (clear hcl76 hcc76 hfr76 hM76 hoki76 hH76)))); refine store_event (t := 85) (p := 101) (v := ?vo_w77) (w1 := (((w73.setCell ⟨go65, (x10_2 : Int).toNat * 3, none⟩ (.int .i64 ji38)).setCell ⟨go65, (x10_2 : Int).toNat * 3 + 1, none⟩ (.slice Ao75 y300.length co75)).setCell ⟨go65, (x10_2 : Int).toNat * 3 + 2, none⟩ (.bool true))) ?hg ?ho ?hn ?hr ?_; (case ho => rfl); (case hg => rfl); (case hn => rfl); (case hr => first | (go_simp; done) | (go_simp; rfl)); intro w77 hw; have hg : w73.grownBy w77 (some go65) := (by rw [hw]; exact HP76.2); have hp_ : Kd.S k85 85 w77 w.heap.size (fun k_ => some k_ ≠ (.slice Ao74 y297.length co74 : Value).ownBlock ∧ k_ ≠ gb281) (.slice (some ⟨go65, 0, none⟩) x8_3.length co28) y303 := s8q8; clear HP76; have n0_ := Aside0.mk (hp_); have n1_ := Aside0.mk (Kd.R_after (v := (.slice (some ⟨go65, 0, none⟩) x8_3.length co28)) (v1 := (.slice (some ⟨go65, 0, none⟩) x8_3.length co28)) (ok := (fun k_ => some k_ ≠ (.slice Ao74 y297.length co74 : Value).ownBlock ∧ some k_ ≠ (.slice Ao75 y300.length co75 : Value).ownBlock)) s8q28 hg (.inl rfl)); have n2_ := Aside0.mk (blk_grown (g := gb281) (o := .cells #[.int .i64 ((rd_T85 x8_3 (Go.bits .andNot .i64 x10_2 (ji35))).f0), .slice A280_1 ((rd_T85 x8_3 (Go.bits .andNot .i64 x10_2 (ji35))).f1).length c280_1, .bool ((rd_T85 x8_3 (Go.bits .andNot .i64 x10_2 (ji35))).f2)] 85 (0, 0)) s8q24 hg (Kd.S_away HO_8.out (fun _ hk => hk.2.2))); have n3_ := Aside0.mk (Kd.R_after (v := (.slice (some ⟨go65, 0, none⟩) x8_3.length co28)) (v1 := (.slice (some ⟨go65, 0, none⟩) x8_3.length co28)) (ok := (fun k_ => some k_ ≠ (.slice Ao74 y297.length co74 : Value).ownBlock ∧ some k_ ≠ (.slice Ao75 y300.length co75 : Value).ownBlock ∧ k_ ≠ gb281)) s8q35 hg (.inl rfl)); have n4_ := Aside0.mk (Kd.R_over' (v := (.slice (some ⟨go65, 0, none⟩) x8_3.length co28)) s8q18 (Kd.S_typed HO_8.out) s8q2 hg); have n5_ := Aside0.mk ((s8q52 : Below w.heap.size w w77)); clear HO_8; clear HL280_1; clear BK281; clear HL282_1; clear HO299; clear HB; clear HO302; have HO_8 := n0_; have HL280_1 := n1_; have BK281 := n2_; have HL282_1 := n3_; have HO299 := n4_; have HB := n5_; clear n0_ n1_ n2_ n3_ n4_ n5_; clear hg hw hp_))
  (try simp only [← hl8_3])
  first | go_roundg k3 | (refine Handed.intro k3 ?measure ?_; rotate_left; go_step; (repeat apply Exists.intro); simp only [add_plain]; refine ⟨?rel, rfl⟩)
  case measure => have := HK1.out; have := HK2.out; have := HK3.out; omega
  case rel => exact ⟨(y303), (wrap64 (x56_3 + 1)), s8q9, H', ⟨by have := HK1.out; have := HK2.out; have := HK3.out; omega⟩, ⟨by (try simp only [hl8_3]); (with_reducible repeat (first | apply Kd.S_alloc | apply Kd.S_drewN | apply Kd.S_drew)); exact Kd.S_mono HO_8.out (fun _ hk => trivial)⟩, ⟨by repeat (first | (with_reducible first | exact HB.out | apply below_alloc | apply pw_below_drewN | apply below_drew1 | refine below_set ?_ GE281.out) | exact HB.out)⟩⟩
 subst c42
 have H1 : (if (ji38) < ((rd_T85 x8_3 x10_2).f0) then ((slices_Clone_int_int.f ((rd_T85 x8_3 (Go.bits .andNot .i64 x10_2 (ji35))).f1)).bind fun t284 => ((some (([x56_3, (-1)] : List Int) : List Int)).bind fun y287 => (if t284.length + y287.length < 17592186044416 then (peristyleref10_BestLine.l2 k3 l0 l1 (x8_3.set (x10_2 : Int).toNat (⟨ji38, (t284 ++ y287), true⟩ : S85)) x10_2 t279 (l0.length : Int) (wrap64 (x56_3 + 1))) else (none)))) else (peristyleref10_BestLine.l2 k3 l0 l1 x8_3 x10_2 t279 (l0.length : Int) (wrap64 (x56_3 + 1)))) = some (r1, r2, r3) := by rw [if_pos rfl] at H; exact H
 clear H
 have H := H1
 clear H1
 by_cases c43 : (ji38) < ((rd_T85 x8_3 x10_2).f0)
 case neg =>
  rw [if_neg c43] at H
  have c43b0 : decide ((ji38) < ((rd_T85 x8_3 x10_2).f0)) = false := decide_eq_false c43
  clear c43
  have H' := Aside0.mk H
  clear H
  have p280 : 0 ≤ ((Go.bits .andNot .i64 x10_2 (ji35)) : Int) := of_decide_eq_true s8q10
  have q280 : (Go.bits .andNot .i64 x10_2 (ji35)) < (x8_3.length : Int) := of_decide_eq_true s8q10
  obtain ⟨ad280, A280_1, c280_1, e280, hx280_0, hx280_1, hx280_2, hl280_1, hi280_1⟩ := at_T85 (Kd.S_reads' HO_8.out).2.2 (Go.bits .andNot .i64 x10_2 (ji35)) p280 q280
  (try rw [← Nbq24.out] at hx280_2)
  (try rw [← Nbq41.out] at hx280_2)
  obtain rfl : ad278 = ad280 := (by injection e280)
  obtain ⟨ce280, hce280, hMe280, hcc280⟩ := Kd.S_get HO_8.out z85 (Go.bits .andNot .i64 x10_2 (ji35)) p280 s8q54
  obtain ⟨ve280_1, rfl, ge280_1⟩ := k85_openM hMe280
  have hv280_1 := hcc280 1 _ rfl
  rw [add_field _ _ 1 s8q1] at hv280_1
  replace hv280_1 := Option.some.inj (hv280_1.symm.trans hx280_1)
  rw [hv280_1] at ge280_1
  have HL280_1 := Aside0.mk (show Kd.R (Kd.int .i64) 3 _ _ _ _ ((rd_T85 x8_3 (Go.bits .andNot .i64 x10_2 (ji35))).f1) from ge280_1)
  clear hv280_1 ge280_1
  clear hcc280 hce280
  have HR280_1 := Aside0.mk hi280_1
  have HC280_1 := Aside0.mk hl280_1
  clear hi280_1 hl280_1
  replace p280 := eq_true p280
  replace q280 := eq_true q280
  go_wp2_with (first | ((with_reducible refine gate_dst (N := 13) rfl ?_); refine box_event ?hg (N := 13) ?hd (cs := #[.int .i64 0, .slice none 0 0, .bool false]) (t := 85) ?hr ?_; (case hd => rfl); (case hg => rfl); (case hr => first | (go_simp; done) | (go_simp; rfl)); intro gb281 hg w59 hbox hb; have n0_ := Aside0.mk (Kd.S_below (Kd.S_elderB s8q14 gb281 (Nat.le_of_eq hg.symm)) hb); have n1_ := Aside0.mk (Kd.R_below s8q21 hb); have n2_ := Aside0.mk (Kd.C_below s8q42 hb); have n3_ := Aside0.mk (below_step s8q25 hb); have n4_ := Aside0.mk (hbox); have n5_ := Aside0.mk ((s8q61 : w.heap.size ≤ gb281)); have n6_ := Aside0.mk ((s8q61 : w.heap.size ≤ gb281)); clear HO_8; clear HL280_1; clear HR280_1; clear HB; have HO_8 := n0_; have HL280_1 := n1_; have HR280_1 := n2_; have HB := n3_; have BK281 := n4_; have GW281 := n5_; have GE281 := n6_; clear n0_ n1_ n2_ n3_ n4_ n5_ n6_; clear hb hbox hg; have hcz60_0 : w59.cell? ⟨gb281, 0, none⟩ = some (.int .i64 0) := (blk_cell BK281.out 0).trans rfl; have hcz60_1 : w59.cell? ⟨gb281, 1, none⟩ = some (.slice none 0 0) := (blk_cell BK281.out 1).trans rfl; have hcz60_2 : w59.cell? ⟨gb281, 2, none⟩ = some (.bool false) := (blk_cell BK281.out 2).trans rfl; have hfz60_0 := blk_frozen BK281.out 0; have hfz60_1 := blk_frozen BK281.out 1; have hfz60_2 := blk_frozen BK281.out 2) | ((with_reducible refine gate_store (t := 85) (p := 13) rfl ?_); (try (rw [drewN_self w59]; generalize hq_ : World.drewN w59 _ = w59; have n0_ := Aside0.mk (Kd.S_at hq_ HO_8.out); have n1_ := Aside0.mk (Kd.R_at hq_ HL280_1.out); have n2_ := Aside0.mk (blk_at hq_ BK281.out); have n3_ := Aside0.mk (Kd.C_at hq_ HR280_1.out); have n4_ := Aside0.mk (below_at hq_ HB.out); clear hq_ HO_8 HL280_1 BK281 HR280_1 HB; have HO_8 := n0_; have HL280_1 := n1_; have BK281 := n2_; have HR280_1 := n3_; have HB := n4_; clear n0_ n1_ n2_ n3_ n4_)); refine store_event (t := 85) (p := 13) (v := ?vo_w61) (w1 := (((w59.setCell ⟨gb281, 0, none⟩ (.int .i64 ((rd_T85 x8_3 (Go.bits .andNot .i64 x10_2 (ji35))).f0))).setCell ⟨gb281, 1, none⟩ (.slice A280_1 ((rd_T85 x8_3 (Go.bits .andNot .i64 x10_2 (ji35))).f1).length c280_1)).setCell ⟨gb281, 2, none⟩ (.bool ((rd_T85 x8_3 (Go.bits .andNot .i64 x10_2 (ji35))).f2)))) ?hg ?ho ?hn ?hr ?_; (case ho => rfl); (case hg => rfl); (case hn => rfl); (case hr => first | (go_simp; done) | (go_simp; rfl)); intro w61 hw; have n0_ : Aside0 (Kd.S k85 85 w61 w.heap.size (fun k_ => k_ ≠ gb281) (.slice (some ad278) x8_3.length co28) x8_3) := ⟨s8q48⟩; have n1_ : Aside0 (Kd.R (Kd.int .i64) 3 w61 w.heap.size (fun k_ => some k_ ≠ (.slice (some ad278) x8_3.length co28 : Value).ownBlock) (.slice A280_1 ((rd_T85 x8_3 (Go.bits .andNot .i64 x10_2 (ji35))).f1).length c280_1) ((rd_T85 x8_3 (Go.bits .andNot .i64 x10_2 (ji35))).f1)) := ⟨s8q60⟩; have n2_ : Aside0 (w61.heap[gb281]? = some (.cells #[.int .i64 ((rd_T85 x8_3 (Go.bits .andNot .i64 x10_2 (ji35))).f0), .slice A280_1 ((rd_T85 x8_3 (Go.bits .andNot .i64 x10_2 (ji35))).f1).length c280_1, .bool ((rd_T85 x8_3 (Go.bits .andNot .i64 x10_2 (ji35))).f2)] 85 (0, 0))) := ⟨s8q49⟩; have n3_ : Aside0 (Below w.heap.size w w61) := ⟨s8q47⟩; clear hw; clear HO_8; clear HL280_1; clear BK281; clear HB; have HO_8 := n0_; have HL280_1 := n1_; have BK281 := n2_; have HB := n3_; clear n0_ n1_ n2_ n3_; clear HR280_1; have HR280_1 := Aside0.mk (Kd.R_reads' HL280_1.out).2.2; have hcz62_0 : w61.cell? ⟨gb281, 0, none⟩ = some (.int .i64 ((rd_T85 x8_3 (Go.bits .andNot .i64 x10_2 (ji35))).f0)) := (blk_cell BK281.out 0).trans rfl; have hcz62_1 : w61.cell? ⟨gb281, 1, none⟩ = some (.slice A280_1 ((rd_T85 x8_3 (Go.bits .andNot .i64 x10_2 (ji35))).f1).length c280_1) := (blk_cell BK281.out 1).trans rfl; have hcz62_2 : w61.cell? ⟨gb281, 2, none⟩ = some (.bool ((rd_T85 x8_3 (Go.bits .andNot .i64 x10_2 (ji35))).f2)) := (blk_cell BK281.out 2).trans rfl; have hfz62_0 := blk_frozen BK281.out 0; have hfz62_1 := blk_frozen BK281.out 1; have hfz62_2 := blk_frozen BK281.out 2; have p282 : 0 ≤ (x10_2 : Int) := of_decide_eq_true s8q10; have q282 : x10_2 < (x8_3.length : Int) := of_decide_eq_true s8q10; obtain ⟨ad282, A282_1, c282_1, e282, hx282_0, hx282_1, hx282_2, hl282_1, hi282_1⟩ := at_T85 (Kd.S_reads' HO_8.out).2.2 x10_2 p282 q282; (try rw [← Nbq24.out] at hx282_2); (try rw [← Nbq41.out] at hx282_2); obtain rfl : ad278 = ad282 := s8q4; obtain ⟨ce282, hce282, hMe282, hcc282⟩ := Kd.S_get HO_8.out z85 x10_2 p282 s8q55; obtain ⟨ve282_1, rfl, ge282_1⟩ := k85_openM hMe282; have hv282_1 := hcc282 1 _ rfl; rw [add_field _ _ 1 s8q1] at hv282_1; replace hv282_1 := Option.some.inj (hv282_1.symm.trans hx282_1); rw [hv282_1] at ge282_1; have HL282_1 := Aside0.mk (show Kd.R (Kd.int .i64) 3 _ _ _ _ ((rd_T85 x8_3 x10_2).f1) from ge282_1); clear hv282_1 ge282_1; clear hcc282 hce282; have HR282_1 := Aside0.mk hi282_1; have HC282_1 := Aside0.mk hl282_1; clear hi282_1 hl282_1; replace p282 := eq_true p282; replace q282 := eq_true q282; have p283 : 0 ≤ (x10_2 : Int) := of_decide_eq_true s8q10; have q283 : x10_2 < (x8_3.length : Int) := of_decide_eq_true s8q10; obtain ⟨ad283, A283_1, c283_1, e283, hx283_0, hx283_1, hx283_2, hl283_1, hi283_1⟩ := at_T85 (Kd.S_reads' HO_8.out).2.2 x10_2 p283 q283; (try rw [← Nbq24.out] at hx283_2); (try rw [← Nbq41.out] at hx283_2); obtain rfl : ad278 = ad283 := s8q5; obtain ⟨ce283, hce283, hMe283, hcc283⟩ := Kd.S_get HO_8.out z85 x10_2 p283 s8q56; obtain ⟨ve283_1, rfl, ge283_1⟩ := k85_openM hMe283; have hv283_1 := hcc283 1 _ rfl; rw [add_field _ _ 1 s8q1] at hv283_1; replace hv283_1 := Option.some.inj (hv283_1.symm.trans hx283_1); rw [hv283_1] at ge283_1; have HL283_1 := Aside0.mk (show Kd.R (Kd.int .i64) 3 _ _ _ _ ((rd_T85 x8_3 x10_2).f1) from ge283_1); clear hv283_1 ge283_1; clear hcc283 hce283; have HR283_1 := Aside0.mk hi283_1; have HC283_1 := Aside0.mk hl283_1; clear hi283_1 hl283_1; replace p283 := eq_true p283; replace q283 := eq_true q283; have ea_ := Option.some.inj (hx282_1.symm.trans hx283_1); injection ea_ with ea_ en_ ec_; subst ea_; subst ec_; clear en_))
  (try simp only [← hl8_3])
  first | go_roundg k3 | (refine Handed.intro k3 ?measure ?_; rotate_left; go_step; (repeat apply Exists.intro); simp only [add_plain]; refine ⟨?rel, rfl⟩)
  case measure => have := HK1.out; have := HK2.out; have := HK3.out; omega
  case rel => exact ⟨(x8_3), (wrap64 (x56_3 + 1)), s8q9, H', ⟨by have := HK1.out; have := HK2.out; have := HK3.out; omega⟩, ⟨by (try simp only [hl8_3]); (with_reducible repeat (first | apply Kd.S_alloc | apply Kd.S_drewN | apply Kd.S_drew)); exact Kd.S_mono HO_8.out (fun _ hk => trivial)⟩, ⟨by repeat (first | (with_reducible first | exact HB.out | apply below_alloc | apply pw_below_drewN | apply below_drew1 | refine below_set ?_ GE281.out) | exact HB.out)⟩⟩
 rw [if_pos c43] at H
 have c43b0 : decide ((ji38) < ((rd_T85 x8_3 x10_2).f0)) = true := decide_eq_true c43
 clear c43
 replace H := Option.bind_eq_some_iff.mp H
 obtain ⟨t284, A440, H⟩ := H
 replace H : ((some (([x56_3, (-1)] : List Int) : List Int)).bind fun y287 => (if t284.length + y287.length < 17592186044416 then (peristyleref10_BestLine.l2 k3 l0 l1 (x8_3.set (x10_2 : Int).toNat (⟨ji38, (t284 ++ y287), true⟩ : S85)) x10_2 t279 (l0.length : Int) (wrap64 (x56_3 + 1))) else (none))) = some (r1, r2, r3) := H
 have A44 := Aside0.mk A440
 clear A440
 obtain ⟨y287, hy287⟩ : ∃ y_ : List Int, y_ = (([x56_3, (-1)] : List Int)) := ⟨_, rfl⟩
 replace H : (if t284.length + y287.length < 17592186044416 then (peristyleref10_BestLine.l2 k3 l0 l1 (x8_3.set (x10_2 : Int).toNat (⟨ji38, (t284 ++ y287), true⟩ : S85)) x10_2 t279 (l0.length : Int) (wrap64 (x56_3 + 1))) else (none)) = some (r1, r2, r3) := sqz hy287 H
 have Ny287 := Aside0.mk hy287
 clear hy287
 by_cases c45 : t284.length + y287.length < 17592186044416
 case neg =>
  rw [if_neg c45] at H
  exact absurd H s8q0
 rw [if_pos c45] at H
 have LMc45 := Aside0.mk c45
 clear c45
 obtain ⟨y290, hy290⟩ : ∃ y_ : List Int, y_ = (t284 ++ y287) := ⟨_, rfl⟩
 replace H : (peristyleref10_BestLine.l2 k3 l0 l1 (x8_3.set (x10_2 : Int).toNat (⟨ji38, y290, true⟩ : S85)) x10_2 t279 (l0.length : Int) (wrap64 (x56_3 + 1))) = some (r1, r2, r3) := sqz hy290 H
 have Ny290 := Aside0.mk hy290
 clear hy290
 obtain ⟨y293, hy293⟩ : ∃ y_ : List (S85), y_ = (x8_3.set (x10_2 : Int).toNat (⟨ji38, y290, true⟩ : S85)) := ⟨_, rfl⟩
 replace H : (peristyleref10_BestLine.l2 k3 l0 l1 y293 x10_2 t279 (l0.length : Int) (wrap64 (x56_3 + 1))) = some (r1, r2, r3) := sqz hy293 H
 have Ny293 := Aside0.mk hy293
 clear hy293
 have H' := Aside0.mk H
 clear H
 have p280 : 0 ≤ ((Go.bits .andNot .i64 x10_2 (ji35)) : Int) := of_decide_eq_true s8q10
 have q280 : (Go.bits .andNot .i64 x10_2 (ji35)) < (x8_3.length : Int) := of_decide_eq_true s8q10
 obtain ⟨ad280, A280_1, c280_1, e280, hx280_0, hx280_1, hx280_2, hl280_1, hi280_1⟩ := at_T85 (Kd.S_reads' HO_8.out).2.2 (Go.bits .andNot .i64 x10_2 (ji35)) p280 q280
 (try rw [← Nbq24.out] at hx280_2)
 (try rw [← Nbq41.out] at hx280_2)
 obtain rfl : ad278 = ad280 := (by injection e280)
 obtain ⟨ce280, hce280, hMe280, hcc280⟩ := Kd.S_get HO_8.out z85 (Go.bits .andNot .i64 x10_2 (ji35)) p280 s8q54
 obtain ⟨ve280_1, rfl, ge280_1⟩ := k85_openM hMe280
 have hv280_1 := hcc280 1 _ rfl
 rw [add_field _ _ 1 s8q1] at hv280_1
 replace hv280_1 := Option.some.inj (hv280_1.symm.trans hx280_1)
 rw [hv280_1] at ge280_1
 have HL280_1 := Aside0.mk (show Kd.R (Kd.int .i64) 3 _ _ _ _ ((rd_T85 x8_3 (Go.bits .andNot .i64 x10_2 (ji35))).f1) from ge280_1)
 clear hv280_1 ge280_1
 clear hcc280 hce280
 have HR280_1 := Aside0.mk hi280_1
 have HC280_1 := Aside0.mk hl280_1
 clear hi280_1 hl280_1
 replace p280 := eq_true p280
 replace q280 := eq_true q280
 go_wp2_with (first | ((with_reducible refine gate_dst (N := 13) rfl ?_); refine box_event ?hg (N := 13) ?hd (cs := #[.int .i64 0, .slice none 0 0, .bool false]) (t := 85) ?hr ?_; (case hd => rfl); (case hg => rfl); (case hr => first | (go_simp; done) | (go_simp; rfl)); intro gb281 hg w47 hbox hb; have n0_ := Aside0.mk (Kd.S_below (Kd.S_elderB s8q14 gb281 (Nat.le_of_eq hg.symm)) hb); have n1_ := Aside0.mk (Kd.R_below s8q21 hb); have n2_ := Aside0.mk (Kd.C_below s8q42 hb); have n3_ := Aside0.mk (below_step s8q25 hb); have n4_ := Aside0.mk (hbox); have n5_ := Aside0.mk ((s8q61 : w.heap.size ≤ gb281)); have n6_ := Aside0.mk ((s8q61 : w.heap.size ≤ gb281)); clear HO_8; clear HL280_1; clear HR280_1; clear HB; have HO_8 := n0_; have HL280_1 := n1_; have HR280_1 := n2_; have HB := n3_; have BK281 := n4_; have GW281 := n5_; have GE281 := n6_; clear n0_ n1_ n2_ n3_ n4_ n5_ n6_; clear hb hbox hg; have hcz48_0 : w47.cell? ⟨gb281, 0, none⟩ = some (.int .i64 0) := (blk_cell BK281.out 0).trans rfl; have hcz48_1 : w47.cell? ⟨gb281, 1, none⟩ = some (.slice none 0 0) := (blk_cell BK281.out 1).trans rfl; have hcz48_2 : w47.cell? ⟨gb281, 2, none⟩ = some (.bool false) := (blk_cell BK281.out 2).trans rfl; have hfz48_0 := blk_frozen BK281.out 0; have hfz48_1 := blk_frozen BK281.out 1; have hfz48_2 := blk_frozen BK281.out 2) | ((with_reducible refine gate_store (t := 85) (p := 13) rfl ?_); (try (rw [drewN_self w47]; generalize hq_ : World.drewN w47 _ = w47; have n0_ := Aside0.mk (Kd.S_at hq_ HO_8.out); have n1_ := Aside0.mk (Kd.R_at hq_ HL280_1.out); have n2_ := Aside0.mk (blk_at hq_ BK281.out); have n3_ := Aside0.mk (Kd.C_at hq_ HR280_1.out); have n4_ := Aside0.mk (below_at hq_ HB.out); clear hq_ HO_8 HL280_1 BK281 HR280_1 HB; have HO_8 := n0_; have HL280_1 := n1_; have BK281 := n2_; have HR280_1 := n3_; have HB := n4_; clear n0_ n1_ n2_ n3_ n4_)); refine store_event (t := 85) (p := 13) (v := ?vo_w49) (w1 := (((w47.setCell ⟨gb281, 0, none⟩ (.int .i64 ((rd_T85 x8_3 (Go.bits .andNot .i64 x10_2 (ji35))).f0))).setCell ⟨gb281, 1, none⟩ (.slice A280_1 ((rd_T85 x8_3 (Go.bits .andNot .i64 x10_2 (ji35))).f1).length c280_1)).setCell ⟨gb281, 2, none⟩ (.bool ((rd_T85 x8_3 (Go.bits .andNot .i64 x10_2 (ji35))).f2)))) ?hg ?ho ?hn ?hr ?_; (case ho => rfl); (case hg => rfl); (case hn => rfl); (case hr => first | (go_simp; done) | (go_simp; rfl)); intro w49 hw; have n0_ : Aside0 (Kd.S k85 85 w49 w.heap.size (fun k_ => k_ ≠ gb281) (.slice (some ad278) x8_3.length co28) x8_3) := ⟨s8q48⟩; have n1_ : Aside0 (Kd.R (Kd.int .i64) 3 w49 w.heap.size (fun k_ => some k_ ≠ (.slice (some ad278) x8_3.length co28 : Value).ownBlock) (.slice A280_1 ((rd_T85 x8_3 (Go.bits .andNot .i64 x10_2 (ji35))).f1).length c280_1) ((rd_T85 x8_3 (Go.bits .andNot .i64 x10_2 (ji35))).f1)) := ⟨s8q60⟩; have n2_ : Aside0 (w49.heap[gb281]? = some (.cells #[.int .i64 ((rd_T85 x8_3 (Go.bits .andNot .i64 x10_2 (ji35))).f0), .slice A280_1 ((rd_T85 x8_3 (Go.bits .andNot .i64 x10_2 (ji35))).f1).length c280_1, .bool ((rd_T85 x8_3 (Go.bits .andNot .i64 x10_2 (ji35))).f2)] 85 (0, 0))) := ⟨s8q49⟩; have n3_ : Aside0 (Below w.heap.size w w49) := ⟨s8q47⟩; clear hw; clear HO_8; clear HL280_1; clear BK281; clear HB; have HO_8 := n0_; have HL280_1 := n1_; have BK281 := n2_; have HB := n3_; clear n0_ n1_ n2_ n3_; clear HR280_1; have HR280_1 := Aside0.mk (Kd.R_reads' HL280_1.out).2.2; have hcz50_0 : w49.cell? ⟨gb281, 0, none⟩ = some (.int .i64 ((rd_T85 x8_3 (Go.bits .andNot .i64 x10_2 (ji35))).f0)) := (blk_cell BK281.out 0).trans rfl; have hcz50_1 : w49.cell? ⟨gb281, 1, none⟩ = some (.slice A280_1 ((rd_T85 x8_3 (Go.bits .andNot .i64 x10_2 (ji35))).f1).length c280_1) := (blk_cell BK281.out 1).trans rfl; have hcz50_2 : w49.cell? ⟨gb281, 2, none⟩ = some (.bool ((rd_T85 x8_3 (Go.bits .andNot .i64 x10_2 (ji35))).f2)) := (blk_cell BK281.out 2).trans rfl; have hfz50_0 := blk_frozen BK281.out 0; have hfz50_1 := blk_frozen BK281.out 1; have hfz50_2 := blk_frozen BK281.out 2; have p282 : 0 ≤ (x10_2 : Int) := of_decide_eq_true s8q10; have q282 : x10_2 < (x8_3.length : Int) := of_decide_eq_true s8q10; obtain ⟨ad282, A282_1, c282_1, e282, hx282_0, hx282_1, hx282_2, hl282_1, hi282_1⟩ := at_T85 (Kd.S_reads' HO_8.out).2.2 x10_2 p282 q282; (try rw [← Nbq24.out] at hx282_2); (try rw [← Nbq41.out] at hx282_2); obtain rfl : ad278 = ad282 := s8q4; obtain ⟨ce282, hce282, hMe282, hcc282⟩ := Kd.S_get HO_8.out z85 x10_2 p282 s8q55; obtain ⟨ve282_1, rfl, ge282_1⟩ := k85_openM hMe282; have hv282_1 := hcc282 1 _ rfl; rw [add_field _ _ 1 s8q1] at hv282_1; replace hv282_1 := Option.some.inj (hv282_1.symm.trans hx282_1); rw [hv282_1] at ge282_1; have HL282_1 := Aside0.mk (show Kd.R (Kd.int .i64) 3 _ _ _ _ ((rd_T85 x8_3 x10_2).f1) from ge282_1); clear hv282_1 ge282_1; clear hcc282 hce282; have HR282_1 := Aside0.mk hi282_1; have HC282_1 := Aside0.mk hl282_1; clear hi282_1 hl282_1; replace p282 := eq_true p282; replace q282 := eq_true q282; have p283 : 0 ≤ (x10_2 : Int) := of_decide_eq_true s8q10; have q283 : x10_2 < (x8_3.length : Int) := of_decide_eq_true s8q10; obtain ⟨ad283, A283_1, c283_1, e283, hx283_0, hx283_1, hx283_2, hl283_1, hi283_1⟩ := at_T85 (Kd.S_reads' HO_8.out).2.2 x10_2 p283 q283; (try rw [← Nbq24.out] at hx283_2); (try rw [← Nbq41.out] at hx283_2); obtain rfl : ad278 = ad283 := s8q5; obtain ⟨ce283, hce283, hMe283, hcc283⟩ := Kd.S_get HO_8.out z85 x10_2 p283 s8q56; obtain ⟨ve283_1, rfl, ge283_1⟩ := k85_openM hMe283; have hv283_1 := hcc283 1 _ rfl; rw [add_field _ _ 1 s8q1] at hv283_1; replace hv283_1 := Option.some.inj (hv283_1.symm.trans hx283_1); rw [hv283_1] at ge283_1; have HL283_1 := Aside0.mk (show Kd.R (Kd.int .i64) 3 _ _ _ _ ((rd_T85 x8_3 x10_2).f1) from ge283_1); clear hv283_1 ge283_1; clear hcc283 hce283; have HR283_1 := Aside0.mk hi283_1; have HC283_1 := Aside0.mk hl283_1; clear hi283_1 hl283_1; replace p283 := eq_true p283; replace q283 := eq_true q283; have ea_ := Option.some.inj (hx282_1.symm.trans hx283_1); injection ea_ with ea_ en_ ec_; subst ea_; subst ec_; clear en_) | (go_at_call 49; (with_reducible refine (slices_Clone_int_int.calls _ _ ((rd_T85 x8_3 (Go.bits .andNot .i64 x10_2 (ji35))).f1) t284 _ ?side1 ?side2 A44.out).mono ?_); (case side1 => repeat (first | exact s8q42 | (with_reducible refine Kd.C_alloc ?_ _) | (with_reducible refine Kd.C_drewN ?_ _) | (with_reducible refine Kd.C_drew ?_))); (case side2 => exact HC280_1.out); rintro e w51 ⟨v285, rfl, ho0, hb⟩; have n0_ := Aside0.mk (Kd.S_elder' s8q14 (Kd.R_base ho0) hb); have n1_ := Aside0.mk (Kd.R_elder' s8q21 (Kd.R_base ho0) hb); have n2_ := Aside0.mk (Kd.R_elder' s8q22 (Kd.R_base ho0) hb); have n3_ := Aside0.mk (Kd.R_elder' s8q23 (Kd.R_base ho0) hb); have n4_ := Aside0.mk (Kd.R_lower (Kd.R_new' (Kd.R_new' (Kd.R_new' ho0 (Kd.R_lt s8q21)) (Kd.R_lt s8q22)) (Kd.R_lt s8q23)) (below_size s8q32)); have n5_ := Aside0.mk (Kd.C_below s8q42 hb); have n6_ := Aside0.mk (blk_below (g := gb281) (o := .cells #[.int .i64 ((rd_T85 x8_3 (Go.bits .andNot .i64 x10_2 (ji35))).f0), .slice A280_1 ((rd_T85 x8_3 (Go.bits .andNot .i64 x10_2 (ji35))).f1).length c280_1, .bool ((rd_T85 x8_3 (Go.bits .andNot .i64 x10_2 (ji35))).f2)] 85 (0, 0)) s8q24 hb); have n7_ := Aside0.mk (Kd.C_below s8q43 hb); have n8_ := Aside0.mk (Kd.C_below s8q44 hb); have n9_ := Aside0.mk (below_step s8q32 hb); clear HO_8; clear HL280_1; clear HL282_1; clear HL283_1; clear HR280_1; clear BK281; clear HR282_1; clear HR283_1; clear HB; have HO_8 := n0_; have HL280_1 := n1_; have HL282_1 := n2_; have HL283_1 := n3_; have HO286 := n4_; have HR280_1 := n5_; have BK281 := n6_; have HR282_1 := n7_; have HR283_1 := n8_; have HB := n9_; clear n0_ n1_ n2_ n3_ n4_ n5_ n6_ n7_ n8_ n9_; (try clear hb); (try clear hb2); (try clear hk); (try clear hi); (try clear ho0)) | ((with_reducible refine gate_dst (N := 98) rfl ?_); refine Kd.R_lit (Kd.int .i64) _ 3 ?hg (N := 98) ?hd (xs := ([x56_3, (-1)] : List Int)) (inner := [.int .i64 x56_3, .int .i64 (-1)]) (ok := fun _ => True) (okp := fun _ => True) ?hr ?hp (fun _ hk => hk) trivial (Below.refl _ _) (Nat.le_refl _) s8q0 ?_; (case hd => rfl); (case hg => rfl); (case hr => first | (go_simp; done) | (go_simp; rfl)); (case hp => exact (Reps.one (show Kd.M (Kd.int .i64) _ _ _ x56_3 [.int .i64 x56_3] from rfl) (Reps.one (show Kd.M (Kd.int .i64) _ _ _ (-1) [.int .i64 (-1)] from rfl) (Reps.none _ _)))); intro v288 w52 ho53 hb hg_ hnew_; clear hg_ hnew_; (first | rw [← Ny287.out] at ho53 | (simp only [Int.reduceToNat] at ho53; rw [← Ny287.out] at ho53)); have n0_ := Aside0.mk (Kd.S_elder' s8q14 (Kd.R_base ho53) hb); have n1_ := Aside0.mk (Kd.R_elder' s8q21 (Kd.R_base ho53) hb); have n2_ := Aside0.mk (Kd.R_elder' s8q22 (Kd.R_base ho53) hb); have n3_ := Aside0.mk (Kd.R_elder' s8q23 (Kd.R_base ho53) hb); have n4_ := Aside0.mk (Kd.R_elder' s8q15 (Kd.R_base ho53) hb); have n5_ := Aside0.mk (Kd.R_lower (Kd.R_new' (Kd.R_new' (Kd.R_new' (Kd.R_new' ho53 (Kd.R_lt s8q21)) (Kd.R_lt s8q22)) (Kd.R_lt s8q23)) (Kd.R_lt s8q15)) (below_size s8q32)); have n6_ := Aside0.mk (Kd.C_below s8q42 hb); have n7_ := Aside0.mk (blk_below (g := gb281) (o := .cells #[.int .i64 ((rd_T85 x8_3 (Go.bits .andNot .i64 x10_2 (ji35))).f0), .slice A280_1 ((rd_T85 x8_3 (Go.bits .andNot .i64 x10_2 (ji35))).f1).length c280_1, .bool ((rd_T85 x8_3 (Go.bits .andNot .i64 x10_2 (ji35))).f2)] 85 (0, 0)) s8q24 hb); have n8_ := Aside0.mk (Kd.C_below s8q43 hb); have n9_ := Aside0.mk (Kd.C_below s8q44 hb); have n10_ := Aside0.mk (below_step s8q32 hb); clear HO_8; clear HL280_1; clear HL282_1; clear HL283_1; clear HO286; clear HR280_1; clear BK281; clear HR282_1; clear HR283_1; clear HB; have HO_8 := n0_; have HL280_1 := n1_; have HL282_1 := n2_; have HL283_1 := n3_; have HO286 := n4_; have HO289 := n5_; have HR280_1 := n6_; have BK281 := n7_; have HR282_1 := n8_; have HR283_1 := n9_; have HB := n10_; clear n0_ n1_ n2_ n3_ n4_ n5_ n6_ n7_ n8_ n9_ n10_; clear hb ho53; obtain ⟨Ao55, co55, eo55⟩ := Kd.R_slice HO289.out; subst eo55) | ((with_reducible refine gate_builtin (b := .append) (xs := #[.tmp 96, .tmp 98]) rfl ?_); at_builtin; refine Kd.R_append_rows (Kd.int .i64) (w0 := w) w.heap.size rfl (.tmp 96) (.tmp 98) 22 3 (.int .i64 0) 8 rfl Tryd.underlying22 info3 rfl s8q2 s8q1 v285 t284 y287 _ _ _ (fun k_ => some k_ ≠ (.slice A280_1 ((rd_T85 x8_3 (Go.bits .andNot .i64 x10_2 (ji35))).f1).length c280_1 : Value).ownBlock ∧ some k_ ≠ (.slice A282_1 ((rd_T85 x8_3 x10_2).f1).length c282_1 : Value).ownBlock ∧ some k_ ≠ (.slice A282_1 ((rd_T85 x8_3 x10_2).f1).length c282_1 : Value).ownBlock ∧ some k_ ≠ (.slice Ao55 y287.length co55 : Value).ownBlock) (fun _ => False) rfl rfl ?aO ?aR (fun _ _ h => h) (fun _ h => h.elim) ?aF ?aB ?aS ?aL ?_; (case aR => repeat (first | exact (Kd.R_reads' HO289.out).2.2 | (with_reducible refine Kd.C_alloc ?_ _) | (with_reducible refine Kd.C_drewN ?_ _) | (with_reducible refine Kd.C_drew ?_))); (case aB => exact s8q32); (case aF => exact (fun k_ hk => ⟨Kd.fresh' (Kd.R_lt s8q21) k_ hk, Kd.fresh' (Kd.R_lt s8q22) k_ hk, Kd.fresh' (Kd.R_lt s8q23) k_ hk, Kd.fresh' (Kd.R_lt s8q16) k_ hk⟩)); (case aO => exact s8q38); (case aS => exact (below_size s8q32)); (case aL => have := LMc45.out; omega); intro v291 w54 ho hb hg hat; rw [← Ny290.out] at ho; have n0_ := Aside0.mk (Kd.S_after (ok := (fun k_ => some k_ ≠ (.slice Ao55 y287.length co55 : Value).ownBlock ∧ k_ ≠ gb281)) s8q26 hg hat); have n1_ := Aside0.mk (Kd.R_after (ok := (fun k_ => some k_ ≠ (.slice (some ad278) x8_3.length co28 : Value).ownBlock ∧ some k_ ≠ (.slice Ao55 y287.length co55 : Value).ownBlock)) s8q27 hg hat); have n2_ := Aside0.mk (blk_grown (g := gb281) (o := .cells #[.int .i64 ((rd_T85 x8_3 (Go.bits .andNot .i64 x10_2 (ji35))).f0), .slice A280_1 ((rd_T85 x8_3 (Go.bits .andNot .i64 x10_2 (ji35))).f1).length c280_1, .bool ((rd_T85 x8_3 (Go.bits .andNot .i64 x10_2 (ji35))).f2)] 85 (0, 0)) s8q24 hg (Kd.R_ne HO286.out BK281.out s8q2)); have n3_ := Aside0.mk (Kd.R_after (ok := (fun k_ => some k_ ≠ (.slice (some ad278) x8_3.length co28 : Value).ownBlock ∧ some k_ ≠ (.slice Ao55 y287.length co55 : Value).ownBlock ∧ k_ ≠ gb281)) s8q34 hg hat); have n4_ := Aside0.mk (Kd.R_after (ok := (fun k_ => some k_ ≠ (.slice (some ad278) x8_3.length co28 : Value).ownBlock ∧ some k_ ≠ (.slice Ao55 y287.length co55 : Value).ownBlock ∧ k_ ≠ gb281)) s8q36 hg hat); have n5_ := Aside0.mk (Kd.R_after (ok := (fun k_ => some k_ ≠ (.slice A280_1 ((rd_T85 x8_3 (Go.bits .andNot .i64 x10_2 (ji35))).f1).length c280_1 : Value).ownBlock ∧ some k_ ≠ (.slice A282_1 ((rd_T85 x8_3 x10_2).f1).length c282_1 : Value).ownBlock ∧ some k_ ≠ (.slice A282_1 ((rd_T85 x8_3 x10_2).f1).length c282_1 : Value).ownBlock)) s8q39 hg hat); have n6_ := Aside0.mk (hb); have n7_ := Aside0.mk (ho); clear HO_8; clear HL280_1; clear BK281; clear HL282_1; clear HL283_1; clear HO289; clear HB; clear HO286; have HO_8 := n0_; have HL280_1 := n1_; have BK281 := n2_; have HL282_1 := n3_; have HL283_1 := n4_; have HO289 := n5_; have HB := n6_; have HO292 := n7_; clear n0_ n1_ n2_ n3_ n4_ n5_ n6_ n7_; clear ho hb hg hat; obtain ⟨Ao56, co56, eo56⟩ := Kd.R_slice HO292.out; subst eo56; have p46 : 0 ≤ (x10_2 : Int) := of_decide_eq_true s8q10; have q46 : (x10_2 : Int) < ((x8_3.length : Int) : Int) := of_decide_eq_true s8q10; obtain ⟨go46, co46, eo46, gb46, gl46, cl46, HG46⟩ := Kd.S_form HO_8.out s8q12; (first | cases eo46 | (injection eo46 with ea_ en_ ec_; (first | subst ea_ | (injection ea_ with ea_; subst ea_)); subst ec_; clear en_)); have GB46 := Aside0.mk gb46; have GG46 := Aside0.mk HG46; clear gb46 gl46 HG46; (first | simp only [add_plain] at hx278_0 | skip); (first | simp only [add_plain] at hx278_1 | skip); (first | simp only [add_plain] at hx278_2 | skip); (first | simp only [add_plain] at hx280_0 | skip); (first | simp only [add_plain] at hx280_1 | skip); (first | simp only [add_plain] at hx280_2 | skip); (first | simp only [add_plain] at hx282_0 | skip); (first | simp only [add_plain] at hx282_1 | skip); (first | simp only [add_plain] at hx282_2 | skip); (first | simp only [add_plain] at hx283_0 | skip); (first | simp only [add_plain] at hx283_1 | skip); (first | simp only [add_plain] at hx283_2 | skip); obtain ⟨_, ce46, hcl46, hM46, hcc46, hfr46, _, _⟩ := Kd.S_elem HO_8.out z85 (x10_2 : Int) p46 q46; obtain ⟨ve46_1, rfl, ge46_1⟩ := k85_openM hM46; have hx46_0 : w54.cell? ⟨go46, (x10_2 : Int).toNat * 3, none⟩ = some (.int .i64 ((rd_T85 x8_3 x10_2).f0)) := hcc46 0 _ rfl; have hx46_1 : w54.cell? ⟨go46, (x10_2 : Int).toNat * 3 + 1, none⟩ = some (ve46_1) := hcc46 1 _ rfl; have hx46_2 : w54.cell? ⟨go46, (x10_2 : Int).toNat * 3 + 2, none⟩ = some (.bool ((rd_T85 x8_3 x10_2).f2)) := hcc46 2 _ rfl; have hf46_0 : w54.frozen? ⟨go46, (x10_2 : Int).toNat * 3, none⟩ = false := hfr46 0; have hf46_1 : w54.frozen? ⟨go46, (x10_2 : Int).toNat * 3 + 1, none⟩ = false := hfr46 1; have hf46_2 : w54.frozen? ⟨go46, (x10_2 : Int).toNat * 3 + 2, none⟩ = false := hfr46 2; clear hcl46 hcc46 hfr46 hM46; replace p46 := eq_true p46; replace q46 := eq_true q46; have n_ := Aside0.mk (Kd.S_mono (ok' := (fun k_ => some k_ ≠ (.slice Ao55 y287.length co55 : Value).ownBlock ∧ some k_ ≠ (.slice Ao56 y290.length co56 : Value).ownBlock ∧ k_ ≠ gb281)) HO_8.out (fun k_ hk => ⟨hk.1.1, ⟨hk.2, hk.1.2⟩⟩)); clear HO_8; have HO_8 := n_; clear n_; have HX57 := Aside0.mk (show Kd.S k85 85 w54 w.heap.size (fun k_ => ((fun k_ => some k_ ≠ (.slice Ao55 y287.length co55 : Value).ownBlock ∧ k_ ≠ gb281)) k_ ∧ ¬ ((fun k_ => some k_ = (.slice Ao56 y290.length co56 : Value).ownBlock)) k_) (.slice (some ⟨go46, 0, none⟩) x8_3.length co28) x8_3 from s8q33); obtain ⟨oki57, ce57, hcl57, hM57, hcc57, hfr57, hoki57, hH57⟩ := Kd.S_elem HX57.out z85 (x10_2 : Int) (of_decide_eq_true s8q10) s8q57; obtain ⟨ve57_1, rfl, ge57_1⟩ := k85_openM hM57; have HP57 := Kd.S_seg hH57 (of_decide_eq_true s8q10) s8q57 (seg := [.int .i64 ji38, .slice Ao56 y290.length co56, .bool true]) (j := 0) (show 3 ≤ 3 from by decide) (x' := (⟨ji38, y290, true⟩ : S85)) (k85_mkM _ _ _ (⟨ji38, y290, true⟩ : S85) (Kd.R_mono (Kd.R_tight rfl (Kd.R_mono (ok' := fun k_ => ((fun k_ => some k_ ≠ (.slice Ao55 y287.length co55 : Value).ownBlock ∧ k_ ≠ gb281)) k_ ∧ k_ ≠ go46) (Kd.R_types (Kd.R_apart' (HO292.out) (Kd.S_typed HO_8.out) s8q2) BK281.out s8q2) (fun k_ hk => ⟨⟨hk.1.1.2.2.2, hk.2⟩, fun e_ => (hk.1.2) s8q3⟩))) (fun _ h_ => Or.inr (h_)))) (fun _ hk => hk) (fun k_ hk_ => ((Kd.R_mono (ok' := fun k_ => ((fun k_ => some k_ ≠ (.slice Ao55 y287.length co55 : Value).ownBlock ∧ k_ ≠ gb281)) k_ ∧ k_ ≠ go46) (Kd.R_types (Kd.R_apart' (HO292.out) (Kd.S_typed HO_8.out) s8q2) BK281.out s8q2) (fun k_ hk => ⟨⟨hk.1.1.2.2.2, hk.2⟩, fun e_ => (hk.1.2) s8q3⟩))).1 k_ hk_.symm); have hx57_0 := hcc57 0 _ rfl; (try simp only [show (k85).sz = 3 from rfl, Nat.mul_one, Nat.add_zero] at hx57_0); have hf57_0 := hfr57 0; (try simp only [show (k85).sz = 3 from rfl, Nat.mul_one, Nat.add_zero] at hf57_0); have hx57_1 := hcc57 1 _ rfl; (try simp only [show (k85).sz = 3 from rfl, Nat.mul_one, Nat.add_zero] at hx57_1); have hf57_1 := hfr57 1; (try simp only [show (k85).sz = 3 from rfl, Nat.mul_one, Nat.add_zero] at hf57_1); have hx57_2 := hcc57 2 _ rfl; (try simp only [show (k85).sz = 3 from rfl, Nat.mul_one, Nat.add_zero] at hx57_2); have hf57_2 := hfr57 2; (try simp only [show (k85).sz = 3 from rfl, Nat.mul_one, Nat.add_zero] at hf57_2); clear hcl57 hcc57 hfr57 hM57 hoki57 hH57) | ((with_reducible refine gate_store (t := 85) (p := 101) rfl ?_); (try (rw [drewN_self w54]; generalize hq_ : World.drewN w54 _ = w54; have n0_ := Aside0.mk (Kd.S_at hq_ HO_8.out); have n1_ := Aside0.mk (Kd.R_at hq_ HL280_1.out); have n2_ := Aside0.mk (Kd.R_at hq_ HL282_1.out); have n3_ := Aside0.mk (Kd.R_at hq_ HL283_1.out); have n4_ := Aside0.mk (Kd.R_at hq_ HO289.out); have n5_ := Aside0.mk (blk_at hq_ BK281.out); have n6_ := Aside0.mk (below_at hq_ HB.out); clear hq_ HO_8 HL280_1 HL282_1 HL283_1 HO289 BK281 HB; have HO_8 := n0_; have HL280_1 := n1_; have HL282_1 := n2_; have HL283_1 := n3_; have HO289 := n4_; have BK281 := n5_; have HB := n6_; clear n0_ n1_ n2_ n3_ n4_ n5_ n6_; (try (have n_ := Aside0.mk (Kd.S_mono (ok' := (fun k_ => some k_ ≠ (.slice Ao55 y287.length co55 : Value).ownBlock ∧ some k_ ≠ (.slice Ao56 y290.length co56 : Value).ownBlock ∧ k_ ≠ gb281)) HO_8.out (fun k_ hk => ⟨hk.1.1, ⟨hk.2, hk.1.2⟩⟩)); clear HO_8; have HO_8 := n_; clear n_)); (try (have HX57 := Aside0.mk (show Kd.S k85 85 w54 w.heap.size (fun k_ => ((fun k_ => some k_ ≠ (.slice Ao55 y287.length co55 : Value).ownBlock ∧ k_ ≠ gb281)) k_ ∧ ¬ ((fun k_ => some k_ = (.slice Ao56 y290.length co56 : Value).ownBlock)) k_) (.slice (some ⟨go46, 0, none⟩) x8_3.length co28) x8_3 from s8q33))); (try (obtain ⟨oki57, ce57, hcl57, hM57, hcc57, hfr57, hoki57, hH57⟩ := Kd.S_elem HX57.out z85 (x10_2 : Int) (of_decide_eq_true s8q10) s8q57)); (try (obtain ⟨ve57_1, rfl, ge57_1⟩ := k85_openM hM57)); (try (have HP57 := Kd.S_seg hH57 (of_decide_eq_true s8q10) s8q57 (seg := [.int .i64 ji38, .slice Ao56 y290.length co56, .bool true]) (j := 0) (show 3 ≤ 3 from by decide) (x' := (⟨ji38, y290, true⟩ : S85)) (k85_mkM _ _ _ (⟨ji38, y290, true⟩ : S85) (Kd.R_mono (Kd.R_tight rfl (Kd.R_mono (ok' := fun k_ => ((fun k_ => some k_ ≠ (.slice Ao55 y287.length co55 : Value).ownBlock ∧ k_ ≠ gb281)) k_ ∧ k_ ≠ go46) (Kd.R_types (Kd.R_apart' (HO292.out) (Kd.S_typed HO_8.out) s8q2) BK281.out s8q2) (fun k_ hk => ⟨⟨hk.1.1.2.2.2, hk.2⟩, fun e_ => (hk.1.2) s8q3⟩))) (fun _ h_ => Or.inr (h_)))) (fun _ hk => hk) (fun k_ hk_ => ((Kd.R_mono (ok' := fun k_ => ((fun k_ => some k_ ≠ (.slice Ao55 y287.length co55 : Value).ownBlock ∧ k_ ≠ gb281)) k_ ∧ k_ ≠ go46) (Kd.R_types (Kd.R_apart' (HO292.out) (Kd.S_typed HO_8.out) s8q2) BK281.out s8q2) (fun k_ hk => ⟨⟨hk.1.1.2.2.2, hk.2⟩, fun e_ => (hk.1.2) s8q3⟩))).1 k_ hk_.symm))); (try (have hx57_0 := hcc57 0 _ rfl)); (try (try simp only [show (k85).sz = 3 from rfl, Nat.mul_one, Nat.add_zero] at hx57_0)); (try (have hf57_0 := hfr57 0)); (try (try simp only [show (k85).sz = 3 from rfl, Nat.mul_one, Nat.add_zero] at hf57_0)); (try (have hx57_1 := hcc57 1 _ rfl)); (try (try simp only [show (k85).sz = 3 from rfl, Nat.mul_one, Nat.add_zero] at hx57_1)); (try (have hf57_1 := hfr57 1)); (try (try simp only [show (k85).sz = 3 from rfl, Nat.mul_one, Nat.add_zero] at hf57_1)); (try (have hx57_2 := hcc57 2 _ rfl)); (try (try simp only [show (k85).sz = 3 from rfl, Nat.mul_one, Nat.add_zero] at hx57_2)); (try (have hf57_2 := hfr57 2)); (try (try simp only [show (k85).sz = 3 from rfl, Nat.mul_one, Nat.add_zero] at hf57_2)); (try (clear hcl57 hcc57 hfr57 hM57 hoki57 hH57)))); refine store_event (t := 85) (p := 101) (v := ?vo_w58) (w1 := (((w54.setCell ⟨go46, (x10_2 : Int).toNat * 3, none⟩ (.int .i64 ji38)).setCell ⟨go46, (x10_2 : Int).toNat * 3 + 1, none⟩ (.slice Ao56 y290.length co56)).setCell ⟨go46, (x10_2 : Int).toNat * 3 + 2, none⟩ (.bool true))) ?hg ?ho ?hn ?hr ?_; (case ho => rfl); (case hg => rfl); (case hn => rfl); (case hr => first | (go_simp; done) | (go_simp; rfl)); intro w58 hw; have hg : w54.grownBy w58 (some go46) := (by rw [hw]; exact HP57.2); have hp_ : Kd.S k85 85 w58 w.heap.size (fun k_ => some k_ ≠ (.slice Ao55 y287.length co55 : Value).ownBlock ∧ k_ ≠ gb281) (.slice (some ⟨go46, 0, none⟩) x8_3.length co28) y293 := s8q7; clear HP57; have n0_ := Aside0.mk (hp_); have n1_ := Aside0.mk (Kd.R_after (v := (.slice (some ⟨go46, 0, none⟩) x8_3.length co28)) (v1 := (.slice (some ⟨go46, 0, none⟩) x8_3.length co28)) (ok := (fun k_ => some k_ ≠ (.slice Ao55 y287.length co55 : Value).ownBlock ∧ some k_ ≠ (.slice Ao56 y290.length co56 : Value).ownBlock)) s8q28 hg (.inl rfl)); have n2_ := Aside0.mk (blk_grown (g := gb281) (o := .cells #[.int .i64 ((rd_T85 x8_3 (Go.bits .andNot .i64 x10_2 (ji35))).f0), .slice A280_1 ((rd_T85 x8_3 (Go.bits .andNot .i64 x10_2 (ji35))).f1).length c280_1, .bool ((rd_T85 x8_3 (Go.bits .andNot .i64 x10_2 (ji35))).f2)] 85 (0, 0)) s8q24 hg (Kd.S_away HO_8.out (fun _ hk => hk.2.2))); have n3_ := Aside0.mk (Kd.R_after (v := (.slice (some ⟨go46, 0, none⟩) x8_3.length co28)) (v1 := (.slice (some ⟨go46, 0, none⟩) x8_3.length co28)) (ok := (fun k_ => some k_ ≠ (.slice Ao55 y287.length co55 : Value).ownBlock ∧ some k_ ≠ (.slice Ao56 y290.length co56 : Value).ownBlock ∧ k_ ≠ gb281)) s8q35 hg (.inl rfl)); have n4_ := Aside0.mk (Kd.R_after (v := (.slice (some ⟨go46, 0, none⟩) x8_3.length co28)) (v1 := (.slice (some ⟨go46, 0, none⟩) x8_3.length co28)) (ok := (fun k_ => some k_ ≠ (.slice Ao55 y287.length co55 : Value).ownBlock ∧ some k_ ≠ (.slice Ao56 y290.length co56 : Value).ownBlock ∧ k_ ≠ gb281)) s8q37 hg (.inl rfl)); have n5_ := Aside0.mk (Kd.R_over' (v := (.slice (some ⟨go46, 0, none⟩) x8_3.length co28)) s8q16 (Kd.S_typed HO_8.out) s8q2 hg); have n6_ := Aside0.mk ((s8q51 : Below w.heap.size w w58)); clear HO_8; clear HL280_1; clear BK281; clear HL282_1; clear HL283_1; clear HO289; clear HB; clear HO292; have HO_8 := n0_; have HL280_1 := n1_; have BK281 := n2_; have HL282_1 := n3_; have HL283_1 := n4_; have HO289 := n5_; have HB := n6_; clear n0_ n1_ n2_ n3_ n4_ n5_ n6_; clear hg hw hp_))
 (try simp only [← hl8_3])
 first | go_roundg k3 | (refine Handed.intro k3 ?measure ?_; rotate_left; go_step; (repeat apply Exists.intro); simp only [add_plain]; refine ⟨?rel, rfl⟩)
 case measure => have := HK1.out; have := HK2.out; have := HK3.out; omega
 case rel => exact ⟨(y293), (wrap64 (x56_3 + 1)), s8q9, H', ⟨by have := HK1.out; have := HK2.out; have := HK3.out; omega⟩, ⟨by (try simp only [hl8_3]); (with_reducible repeat (first | apply Kd.S_alloc | apply Kd.S_drewN | apply Kd.S_drew)); exact Kd.S_mono HO_8.out (fun _ hk => trivial)⟩, ⟨by repeat (first | (with_reducible first | exact HB.out | apply below_alloc | apply pw_below_drewN | apply below_drew1 | refine below_set ?_ GE281.out) | exact HB.out)⟩⟩
/-! ### cost_grown: function 50 (by hand) -/
/-! ### slices.Delete of one element of a row of one's own -/
theorem R_beyond {α : Type} (d : Kd α) {W : World} {base : Nat} {e : TypeId} {ok : Nat → Prop} {g n c : Nat} {xs : List α} (HO : d.R e W base ok (.slice (some ⟨g, 0, none⟩) n c) xs) (zs : List Value) (o : Nat) (ho : n * d.sz ≤ o) (hfit : o + zs.length ≤ c * d.sz) :
    d.R e (W.setCells g o zs) base ok (.slice (some ⟨g, 0, none⟩) n c) xs ∧ W.grownBy (W.setCells g o zs) (some g) ∧ (∀ j, j < zs.length → (W.cell? ⟨g, o + j, none⟩).isSome = true) ∧ (∀ j, j < zs.length → W.frozen? ⟨g, o + j, none⟩ = false) := by
 obtain ⟨hn, hnc, _⟩ := Kd.R_reads' HO
 obtain ⟨hok, inner, hown, hr⟩ := HO
 have hin : inner.length = n * d.sz := by rw [hr.1, hn]
 rcases hown.2 with ⟨hv, _⟩ | ⟨g', cap', cur, hv, hb, hh, hle, hcm, hcs, htake⟩
 · cases hv
 injection hv with ha _ hc
 injection ha with ha
 injection ha with hg
 subst hg; subst hc
 have hfit' : o + zs.length ≤ cur.size := by omega
 obtain ⟨cur', h3, h4, h5⟩ := setCells_row zs o W cur hh hfit'
 obtain ⟨s1, s2, s3, s4⟩ := setCells_same g zs o W
 have hfar : ∀ k', k' ≠ g → (W.setCells g o zs).heap[k']? = W.heap[k']? := fun k' hk' => setCells_far zs _ k' hk'
 have hgo : some g = (Value.slice (some ⟨g, 0, none⟩) n c).ownBlock := by simp [Value.ownBlock]
 have hcl : cur.toList.length = cur.size := Array.length_toList
 have h6 : cur'.toList.take (xs.length * d.sz) = inner := by
  rw [h5, List.append_assoc, List.take_append_of_le_length (by rw [List.length_take, hcl, ← hn]; omega), List.take_take, Nat.min_eq_left (by rw [← hn]; omega)]
  exact htake
 refine ⟨⟨hok, inner, ⟨hown.1, .inr ⟨g, c, cur', by rw [← hn], hb, h3, hle, hcm, by rw [h4, hcs], h6⟩⟩, ?_⟩, ⟨s1, s2, s3, by rw [s4]; exact Nat.le_refl _, fun k' _ hk' => hfar k' (fun he => hk' (by rw [he]))⟩, ?_, ?_⟩
 · exact hr.imp_ fun p q hp => d.M_move (fun k' hk' => hfar k' (fun he => hk'.2 (by rw [he]; exact hgo))) hp
 · intro j hj
   rw [cell_of_row W g _ cur e (0, 0) hh]; simp; omega
 intro j _
 exact blk_frozen hh _
/-- clear(s[n:n+1]), behind a row of one's own: the row stays. -/
theorem R_clear {P : Program} {α : Type} (d : Kd α) {W : World} (t e ty : TypeId)
    (ht : P.underlying t = some (.slice e)) (z : Value) (zs : List Value) (hz : ∀ w, (zeroValue e).run P w = .ok z w) (hzs : (Builtin.zeroCells z.cells 1).toList = zs) (hone : ∀ v ∈ zs, v.oneCell' = true) (hlen : zs.length = d.sz)
    {g n c off c2 base : Nat} {e' : TypeId} {xs : List α} {ok : Nat → Prop} (hoff : off = n * d.sz) (hc : n + 1 ≤ c)
    (HO : d.R e' W base ok (.slice (some ⟨g, 0, none⟩) n c) xs) :
    ∃ w1, (Builtin.clear_ #[t] ty #[.slice (some ⟨g, off, none⟩) 1 c2]).run P W = .ok (.tuple #[]) w1 ∧ d.R e' w1 base ok (.slice (some ⟨g, 0, none⟩) n c) xs ∧ W.grownBy w1 (some g) := by
  have hcs : (n + 1) * d.sz ≤ c * d.sz := Nat.mul_le_mul_right _ hc
  have hs1 : (n + 1) * d.sz = n * d.sz + d.sz := Nat.succ_mul _ _
  obtain ⟨h1, h2, h3, h4⟩ := R_beyond d HO zs off s8q1 s8q1
  have hst := run_storeCells_cells (P := P) g off zs 0 W (by simpa using h3) (by simpa using h4) hone
  simp only [Nat.add_zero] at hst
  exact ⟨_, by simp [Builtin.clear_, run_underlying ht, hz, hzs, hst], h1, h2⟩
theorem grownBy_two {w w1 w2 : World} {g : Nat} (h1 : w.grownBy w1 (some g)) (h2 : w1.grownBy w2 (some g)) : w.grownBy w2 (some g) :=
  ⟨h2.os.trans h1.os, h2.tape.trans h1.tape, h2.output.trans h1.output, Nat.le_trans h1.size h2.size, fun i hi hne => (h2.block i (Nat.lt_of_lt_of_le hi h1.size) hne).trans (h1.block i hi hne)⟩
def zdel50 : Value := (.agg #[(.int .i64 0), (.slice none 0 0)])
theorem zerodel50 : ∀ w, (zeroValue 89).run Tryd.prog w = .ok zdel50 w := by
 intro w
 have h : (Tryd.prog.info? 89).map (·.zero) = some (some zdel50) := by kernel_rfl
 obtain ⟨i, hi, hz⟩ := Option.map_eq_some_iff.1 h
 simp [zeroValue, typeInfo, hi, hz]
set_option maxRecDepth 10000 in
theorem delete50 {α : Type} (d : Kd α) (hsz : d.sz = 2) {W : World} (base : Nat) {g n c : Nat} {k : Int} {xs : List α} {ok : Nat → Prop} (HO : d.R 89 W base ok (.slice (some ⟨g, 0, none⟩) n c) xs) (hk0 : 0 ≤ k) (hk : k < n) {j : Int} (hj : j = k + 1) {w0 : World} (HB : Below base w0 W) :
    Calls Tryd.prog 50 #[.slice (some ⟨g, 0, none⟩) n c, .int .i64 k, .int .i64 j] W fun e w1 => e = .returned (.slice (some ⟨g, 0, none⟩) (n - 1) c) ∧ d.R 89 w1 base ok (.slice (some ⟨g, 0, none⟩) (n - 1) c) (xs.eraseIdx k.toNat) ∧ Below base w0 w1 ∧ W.grownBy w1 (some g) := by
 subst hj
 have hnc := (Kd.R_reads' HO).2.1
 have hb63 := (Kd.R_reads' HO).2.2
 obtain ⟨m, rfl⟩ := Int.eq_ofNat_of_zero_le hk0
 obtain ⟨p, rfl⟩ : ∃ p, n = p + 1 := ⟨n - 1, by omega⟩
 have HR := Aside0.mk HO
 have HB_ := Aside0.mk HB
 clear HB
 have hmn : m < p + 1 := by omega
 clear HO hk0
 have q1 : decide ((m : Int) ≤ (m : Int) + 1) = true := decide_eq_true s8q1
 have q2 : decide ((m : Int) + 1 ≤ ((p + 1 : Nat) : Int)) = true := decide_eq_true s8q1
 have q3 : ((m : Int) == (m : Int) + 1) = false := by simp; omega
 have q4 : decide ((m : Int) ≤ ((p + 1 : Nat) : Int)) = true := decide_eq_true s8q1
 have q5 : decide ((0 : Int) ≤ (m : Int)) = true := decide_eq_true s8q1
 have q6 : decide ((0 : Int) ≤ (m : Int) + 1) = true := decide_eq_true s8q1
 have q7 : decide (((p + 1 : Nat) : Int) ≤ (c : Int)) = true := decide_eq_true s8q1
 have q8 : decide ((m : Int) ≤ (c : Int)) = true := decide_eq_true s8q1
 obtain ⟨A, hA, hA2⟩ : ∃ A : Addr, (if c = m + 1 then some (⟨g, 0, none⟩ : Addr) else some ⟨g, (m + 1) * 2, none⟩) = some A ∧ Hid (some A = if c = m + 1 then some ⟨g, 0, none⟩ else (some (⟨g, 0, none⟩ : Addr)).map (·.add ((m + 1) * d.sz))) := by
  by_cases h : c = m + 1
  · exact ⟨⟨g, 0, none⟩, by simp [h], by simp [Hid, h]⟩
  exact ⟨⟨g, (m + 1) * 2, none⟩, by simp [h], by simp [Hid, h, hsz, Addr.add_lit]⟩
 have hB := Aside0.mk (show base ≤ W.drew.heap.size from by
  have h1 := Kd.R_base HR.out g (by simp [Value.ownBlock])
  have h2 := Kd.R_lt HR.out g (by simp [Value.ownBlock])
  show base ≤ W.heap.size
  omega)
 have HR2 := Aside0.mk (Kd.R_drew HR.out)
 have hp0 : (0 : Int) ≤ (m : Int) + 1 := by omega
 have hp1 : (m : Int) + 1 ≤ ((p + 1 : Nat) : Int) := by omega
 have hp2 : ((m : Int) + 1).toNat = m + 1 := by omega
 have hp3 : m ≤ c := by omega
 have hp4 : p + 1 ≤ c := hnc
 have hp5 : m ≤ p := by omega
 go_enter Tryd.func50, Tryd.ntmps50
 go_wp2
 go_region_law (refine Kd.R_delete_step d (w0 := W.drew) base (by rfl) (.tmp 22) (.tmp 25) 87 89 (by rfl) Tryd.underlying87 (by rw [hsz]; kernel_rfl) (g := g) (n := p + 1) (c := c) (k := m) (m := p + 1 - (m + 1)) (c2 := c - (m + 1)) (A := some A) (by simp [Act.eval, Act.put]) (by simp [Act.eval, Act.put]) hA2 rfl HR2.out hmn (Below.refl _ _) hB.out (fun w1 ho hb hg => ?_))
 have ho2 : d.R 89 w1 base ok (.slice (some ⟨g, 0, none⟩) p c) (xs.eraseIdx m) := ho
 have HO2 := Aside0.mk ho2
 have HG2 := Aside0.mk hg
 clear ho ho2 hb hg
 have q9 : decide ((p : Int) ≤ ((p + 1 : Nat) : Int)) = true := decide_eq_true s8q1
 have q10 : decide ((0 : Int) ≤ (p : Int)) = true := decide_eq_true s8q1
 obtain ⟨w2, hclr, ho3, hg3⟩ := R_clear (P := Tryd.prog) d 87 89 0 Tryd.underlying87 zdel50 [(.int .i64 0), (.slice none 0 0)] zerodel50 (by kernel_rfl) (by simp [Value.oneCell']) (by rw [hsz]; rfl) (g := g) (n := p) (c := c) (off := p * 2) (c2 := c - p) (by rw [hsz]) hp4 HO2.out
 go_wp2
 go_ret
 have hgg := grownBy_two (show W.grownBy w1 (some g) from ⟨HG2.out.os, HG2.out.tape, HG2.out.output, HG2.out.size, HG2.out.block⟩) hg3
 exact ⟨by simp, ho3, HB_.out.grown hgg hB.out (fun k hk => by injection hk with hk; subst hk; exact Kd.R_base HR.out _ (by simp [Value.ownBlock])), hgg⟩
theorem delete50S {α : Type} (d : Kd α) (hsz : d.sz = 2) {W : World} (base : Nat) {g n c : Nat} {k : Int} {xs : List α} {ok : Nat → Prop} (HO : Kd.S d 89 W base ok (.slice (some ⟨g, 0, none⟩) n c) xs) (hk0 : 0 ≤ k) (hk : k < n) {j : Int} (hj : j = k + 1) {w0 : World} (HB : Below base w0 W) :
    Calls Tryd.prog 50 #[.slice (some ⟨g, 0, none⟩) n c, .int .i64 k, .int .i64 j] W fun e w1 => e = .returned (.slice (some ⟨g, 0, none⟩) (n - 1) c) ∧ Kd.S d 89 w1 base ok (.slice (some ⟨g, 0, none⟩) (n - 1) c) (xs.eraseIdx k.toNat) ∧ Below base w0 w1 ∧ W.grownBy w1 (some g) := by
 obtain ⟨f, HR⟩ := HO
 exact (delete50 (Kd.tag f d) hsz base HR hk0 hk hj HB).mono (fun e w1 ⟨h1, h2, h3⟩ => ⟨h1, Kd.S_erase h2, h3⟩)
theorem delete50N {α : Type} (d : Kd α) (hsz : d.sz = 2) {W : World} (base : Nat) {g n c : Nat} {k : Int} {xs : List α} {ok : Nat → Prop} (HO : Kd.N d 89 W base ok (.slice (some ⟨g, 0, none⟩) n c) xs) (hk0 : 0 ≤ k) (hk : k < n) {j : Int} (hj : j = k + 1) {w0 : World} (HB : Below base w0 W) :
    Calls Tryd.prog 50 #[.slice (some ⟨g, 0, none⟩) n c, .int .i64 k, .int .i64 j] W fun e w1 => e = .returned (.slice (some ⟨g, 0, none⟩) (n - 1) c) ∧ Kd.N d 89 w1 base ok (.slice (some ⟨g, 0, none⟩) (n - 1) c) (xs.eraseIdx k.toNat) ∧ Below base w0 w1 ∧ W.grownBy w1 (some g) := by
 obtain ⟨hown, rows, hl, hR, hf⟩ := HO
 exact (delete50 (Kd.raw d.sz) hsz base (Kd.raw_any hR) hk0 hk hj HB).mono (fun e w1 ⟨h1, h2, h3, h4⟩ => ⟨h1, Kd.N_erased hown hl hf h2 h4, h3, h4⟩)
end Go.Proofs.YtgcijejmmhjibaaDoor.G
