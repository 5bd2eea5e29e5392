-- Printed by a program of this session (a patched print).
import Derived.Test.YtgcijejmmhjibaaDoorGx0
import Derived.Test.YtgcijejmmhjibaaDoorGx2
import Derived.Test.YtgcijejmmhjibaaDoorGx5
namespace Go.Proofs.YtgcijejmmhjibaaDoor.G
open Go.RowKit Go.Proofs.YtgcijejmmhjibaaDoorW.PrintWords Go.Proofs.YtgcijejmmhjibaaDoorW.PrintLast Go.Proofs.YtgcijejmmhjibaaDoorW.PrintMore
attribute [local go_sem] max2_int min2_int max_two min_two max_three min_three max_four min_four   -- for this text's walks alone
set_option linter.unusedVariables false
set_option linter.unusedSimpArgs false

theorem s6qm0 {p : Prop} (h : p := by repeat' first | (with_reducible exact ih0 _ _ _ _ _) | (with_reducible exact ih1 _ _ _ _) | (with_reducible exact ih2 _ _ _ _ _ _) | (with_reducible exact ih3 _ _ _ _ _ _ _) | (with_reducible exact peristyleref10_size.mono _ _ _ _) | (with_reducible exact slices_Concat_int_int.mono _ _) | (with_reducible exact LeO.refl _) | (with_reducible exact LeO.none _) | (with_reducible refine LeO.ite ?_ ?_) | (with_reducible refine LeO.bind ?_ (fun _ => ?_)) | exact ih0 _ _ _ _ _ | exact ih1 _ _ _ _ | exact ih2 _ _ _ _ _ _ | exact ih3 _ _ _ _ _ _ _ | exact peristyleref10_size.mono _ _ _ _ | exact slices_Concat_int_int.mono _ _ | exact LeO.none _ | refine LeO.ite ?_ ?_ | refine LeO.bind ?_ (fun _ => ?_)) : p := h
theorem s6q0 {p : Prop} (h : p := by omega) : p := h
theorem s6q1 {p : Prop} (h : p := by decide) : p := h
theorem s6q2 {p : Prop} (h : p := by kernel_rfl) : p := h
theorem s6q3 {p : Prop} (h : p := by rw [e_]; rfl) : p := h
theorem s6q4 {p : Prop} (h : p := by simp only [putAll, Act.put, sqa, sqb, sqc]) : p := h
theorem s6q5 {p : Prop} (h : p := by first | rfl | (simp; done) | (simp [*]; done)) : p := h
theorem s6q6 {p : Prop} (h : p := by first | (with_reducible assumption) | assumption) : p := h
theorem s6q7 {p : Prop} (h : p := by (with_reducible repeat (first | apply Kd.N_alloc | apply Kd.N_drewN | apply Kd.N_drew)); exact HO_5.out) : p := h
theorem s6q8 {p : Prop} (h : p := by (with_reducible repeat (first | apply Kd.N_alloc | apply Kd.N_drewN | apply Kd.N_drew)); exact HO208.out) : p := h
theorem s6q9 {p : Prop} (h : p := by (with_reducible repeat (first | apply Kd.N_alloc | apply Kd.N_drewN | apply Kd.N_drew)); exact HO218.out) : p := h
theorem s6q10 {p : Prop} (h : p := by (with_reducible repeat (first | apply Kd.V_alloc | apply Kd.V_drewN | apply Kd.V_drew)); exact HL200_1.out) : p := h
theorem s6q11 {p : Prop} (h : p := by (with_reducible repeat (first | apply Kd.V_alloc | apply Kd.V_drewN | apply Kd.V_drew)); exact HL201_1.out) : p := h
theorem s6q12 {p : Prop} (h : p := by (with_reducible repeat (first | apply Kd.V_alloc | apply Kd.V_drewN | apply Kd.V_drew)); exact HL204_1.out) : p := h
theorem s6q13 {p : Prop} (h : p := by (with_reducible repeat (first | apply Kd.V_alloc | apply Kd.V_drewN | apply Kd.V_drew)); exact HL205_1.out) : p := h
theorem s6q14 {p : Prop} (h : p := by (with_reducible repeat (first | refine blk_drewN ?_ _ | refine blk_drew ?_ | refine blk_alloc ?_ _)); exact BK202.out) : p := h
theorem s6q15 {p : Prop} (h : p := by (with_reducible repeat (first | refine blk_drewN ?_ _ | refine blk_drew ?_ | refine blk_alloc ?_ _)); exact BK203.out) : p := h
theorem s6q16 {p : Prop} (h : p := by repeat (first | (with_reducible first | exact HB.out | apply below_alloc | apply pw_below_drewN | apply below_drew1) | exact HB.out)) : p := h
theorem s6q17 {p : Prop} (h : p := by (try simp only [List.map_toArray, List.map_cons, List.map_nil]); first | done | rfl | (simp only [List.length_drop, List.length_take]; rfl)) : p := h
theorem s6q18 {p : Prop} (h : p := by (with_reducible repeat (first | apply Kd.N_alloc | apply Kd.N_drewN | apply Kd.N_drew)); exact Kd.N_mono HO_5.out (fun _ hk => ⟨hk.1.1, ⟨hk.1.2, hk.2⟩⟩)) : p := h
theorem s6q19 {p : Prop} (h : p := by (with_reducible repeat (first | apply Kd.N_alloc | apply Kd.N_drewN | apply Kd.N_drew)); exact Kd.N_mono HO_5.out (fun _ hk => ⟨hk.1.1, ⟨hk.2, hk.1.2⟩⟩)) : p := h
theorem s6q20 {p : Prop} (h : p := by repeat (first | (with_reducible first | exact HB.out | apply below_alloc | apply pw_below_drewN | apply below_drew1 | refine below_set ?_ GE202.out) | exact HB.out)) : p := h
theorem s6q21 {p : Prop} (h : p := by repeat (first | (with_reducible first | exact HB.out | apply below_alloc | apply pw_below_drewN | apply below_drew1 | refine below_set ?_ GE203.out) | exact HB.out)) : p := h
theorem s6q22 {p : Prop} (h : p := by (with_reducible repeat (first | apply Kd.V_alloc | apply Kd.V_drewN | apply Kd.V_drew)); exact Kd.V_mono HL200_1.out (fun _ hk => ⟨hk.1.1.1, ⟨hk.1.1.2, ⟨hk.1.2, hk.2⟩⟩⟩)) : p := h
theorem s6q23 {p : Prop} (h : p := by (with_reducible repeat (first | apply Kd.V_alloc | apply Kd.V_drewN | apply Kd.V_drew)); exact Kd.V_mono HL200_1.out (fun _ hk => ⟨hk.1.1.1, ⟨hk.1.1.2, ⟨hk.2, hk.1.2⟩⟩⟩)) : p := h
theorem s6q24 {p : Prop} (h : p := by (with_reducible repeat (first | apply Kd.V_alloc | apply Kd.V_drewN | apply Kd.V_drew)); exact Kd.V_mono HL201_1.out (fun _ hk => ⟨hk.1.1.1, ⟨hk.1.1.2, ⟨hk.1.2, hk.2⟩⟩⟩)) : p := h
theorem s6q25 {p : Prop} (h : p := by (with_reducible repeat (first | apply Kd.V_alloc | apply Kd.V_drewN | apply Kd.V_drew)); exact Kd.V_mono HL201_1.out (fun _ hk => ⟨hk.1.1.1, ⟨hk.1.1.2, ⟨hk.2, hk.1.2⟩⟩⟩)) : p := h
theorem s6q26 {p : Prop} (h : p := by (with_reducible repeat (first | apply Kd.N_alloc | apply Kd.N_drewN | apply Kd.N_drew)); exact Kd.N_mono HO_5.out (fun _ hk => ⟨hk.1, ⟨hk.2.1, ⟨hk.2.2.2.1, hk.2.2.2.2⟩⟩⟩)) : p := h
theorem s6q27 {p : Prop} (h : p := by (with_reducible repeat (first | apply Kd.N_alloc | apply Kd.N_drewN | apply Kd.N_drew)); exact Kd.N_mono HO_5.out (fun _ hk => ⟨⟨hk.1.1.1, ⟨hk.1.2, ⟨hk.1.1.2.1, hk.1.1.2.2⟩⟩⟩, hk.2⟩)) : p := h
theorem s6q28 {p : Prop} (h : p := by repeat (first | (with_reducible exact HR200_1.out) | (with_reducible refine Kd.C_alloc ?_ _) | (with_reducible refine Kd.C_drewN ?_ _) | (with_reducible refine Kd.C_drew ?_) | exact HR200_1.out)) : p := h
theorem s6q29 {p : Prop} (h : p := by repeat (first | (with_reducible exact HR201_1.out) | (with_reducible refine Kd.C_alloc ?_ _) | (with_reducible refine Kd.C_drewN ?_ _) | (with_reducible refine Kd.C_drew ?_) | exact HR201_1.out)) : p := h
theorem s6q30 {p : Prop} (h : p := by repeat (first | (with_reducible exact HR204_1.out) | (with_reducible refine Kd.C_alloc ?_ _) | (with_reducible refine Kd.C_drewN ?_ _) | (with_reducible refine Kd.C_drew ?_) | exact HR204_1.out)) : p := h
theorem s6q31 {p : Prop} (h : p := by repeat (first | (with_reducible exact HR205_1.out) | (with_reducible refine Kd.C_alloc ?_ _) | (with_reducible refine Kd.C_drewN ?_ _) | (with_reducible refine Kd.C_drew ?_) | exact HR205_1.out)) : p := h
theorem s6q32 {p : Prop} (h : p := by repeat (first | (with_reducible first | exact HB.out | apply below_alloc | apply pw_below_drewN | apply below_drew1 | refine below_set ?_ GE202.out | refine below_set ?_ GE203.out) | exact HB.out)) : p := h
theorem s6q33 {p : Prop} (h : p := by repeat (first | (with_reducible first | exact HB.out | apply below_alloc | apply pw_below_drewN | apply below_drew1 | refine below_set ?_ GE203.out | refine below_set ?_ GE202.out) | exact HB.out)) : p := h
theorem s6q34 {p : Prop} (h : p := by (with_reducible repeat (first | apply Kd.V_alloc | apply Kd.V_drewN | apply Kd.V_drew)); exact Kd.V_mono HL200_1.out (fun _ hk => ⟨⟨hk.1.1, ⟨hk.1.2.2.1, ⟨hk.2, ⟨hk.1.2.2.2.1, hk.1.2.2.2.2⟩⟩⟩⟩, hk.1.2.1⟩)) : p := h
theorem s6q35 {p : Prop} (h : p := by (with_reducible repeat (first | apply Kd.V_alloc | apply Kd.V_drewN | apply Kd.V_drew)); exact Kd.V_mono HL200_1.out (fun _ hk => ⟨⟨hk.1.1.1, ⟨hk.1.1.2.1, ⟨hk.1.2, ⟨hk.1.1.2.2.1, hk.1.1.2.2.2⟩⟩⟩⟩, hk.2⟩)) : p := h
theorem s6q36 {p : Prop} (h : p := by (with_reducible repeat (first | apply Kd.V_alloc | apply Kd.V_drewN | apply Kd.V_drew)); exact Kd.V_mono HL201_1.out (fun _ hk => ⟨⟨hk.1.1, ⟨hk.1.2.2.1, ⟨hk.2, ⟨hk.1.2.2.2.1, hk.1.2.2.2.2⟩⟩⟩⟩, hk.1.2.1⟩)) : p := h
theorem s6q37 {p : Prop} (h : p := by (with_reducible repeat (first | apply Kd.V_alloc | apply Kd.V_drewN | apply Kd.V_drew)); exact Kd.V_mono HL201_1.out (fun _ hk => ⟨⟨hk.1.1.1, ⟨hk.1.1.2.1, ⟨hk.1.2, ⟨hk.1.1.2.2.1, hk.1.1.2.2.2⟩⟩⟩⟩, hk.2⟩)) : p := h
theorem s6q38 {p : Prop} (h : p := by (with_reducible repeat (first | apply Kd.V_alloc | apply Kd.V_drewN | apply Kd.V_drew)); exact Kd.V_mono HL204_1.out (fun _ hk => ⟨⟨hk.1.1, ⟨hk.1.2.2.1, ⟨hk.2, ⟨hk.1.2.2.2.1, hk.1.2.2.2.2⟩⟩⟩⟩, hk.1.2.1⟩)) : p := h
theorem s6q39 {p : Prop} (h : p := by (with_reducible repeat (first | apply Kd.V_alloc | apply Kd.V_drewN | apply Kd.V_drew)); exact Kd.V_mono HL204_1.out (fun _ hk => ⟨⟨hk.1.1.1.1, ⟨hk.1.1.2, ⟨hk.1.2, ⟨hk.1.1.1.2.1, hk.1.1.1.2.2⟩⟩⟩⟩, hk.2⟩)) : p := h
theorem s6q40 {p : Prop} (h : p := by first | exact Kd.own_blk (Kd.N_away HO_5.out (fun _ hk => hk.2.1)) | (rw [add_block]; exact Kd.own_blk (Kd.N_away HO_5.out (fun _ hk => hk.2.1))) | (show (Addr.add _ _).block ≠ _; rw [add_block]; exact Kd.own_blk (Kd.N_away HO_5.out (fun _ hk => hk.2.1))) | (dsimp only; exact Kd.own_blk (Kd.N_away HO_5.out (fun _ hk => hk.2.1)))) : p := h
theorem s6q41 {p : Prop} (h : p := by first | exact Kd.own_blk (Kd.N_away HO_5.out (fun _ hk => hk.2.2)) | (rw [add_block]; exact Kd.own_blk (Kd.N_away HO_5.out (fun _ hk => hk.2.2))) | (show (Addr.add _ _).block ≠ _; rw [add_block]; exact Kd.own_blk (Kd.N_away HO_5.out (fun _ hk => hk.2.2))) | (dsimp only; exact Kd.own_blk (Kd.N_away HO_5.out (fun _ hk => hk.2.2)))) : p := h
theorem s6q42 {p : Prop} (h : p := by first | exact q197 | exact of_decide_eq_true s6q6 | (have e_ := (Kd.N_reads' HO_5.out).1; omega)) : p := h
theorem s6q43 {p : Prop} (h : p := by first | exact q200 | exact of_decide_eq_true s6q6 | (have e_ := (Kd.N_reads' HO_5.out).1; omega)) : p := h
theorem s6q44 {p : Prop} (h : p := by first | exact q201 | exact of_decide_eq_true s6q6 | (have e_ := (Kd.N_reads' HO_5.out).1; omega)) : p := h
theorem s6q45 {p : Prop} (h : p := by first | exact q204 | exact of_decide_eq_true s6q6 | (have e_ := (Kd.N_reads' HO_5.out).1; omega)) : p := h
theorem s6q46 {p : Prop} (h : p := by first | exact q205 | exact of_decide_eq_true s6q6 | (have e_ := (Kd.N_reads' HO_5.out).1; omega)) : p := h
theorem s6q47 {p : Prop} (h : p := by have h_ : (x7_2 : Int) < ((x5_3.length : Int) : Int) := of_decide_eq_true s6q6; first | exact h_ | (have e_ := (Kd.N_reads' HO_5.out).1; omega) | simpa using h_) : p := h
theorem s6q48 {p : Prop} (h : p := by have h_ : ((ji10) : Int) < ((x5_1.length : Int) : Int) := of_decide_eq_true s6q6; first | exact h_ | (have e_ := (Kd.N_reads' HO_5.out).1; omega) | simpa using h_) : p := h
theorem s6q49 {p : Prop} (h : p := by rw [hg]; exact (below_size s6q16)) : p := h
theorem s6q50 {p : Prop} (h : p := by rw [hg]; exact (below_size s6q20)) : p := h
theorem s6q51 {p : Prop} (h : p := by rw [hg]; exact (below_size s6q21)) : p := h
theorem s6q52 {p : Prop} (h : p := by rw [hg]; exact Nat.ne_of_gt (blk_lt (g := gb202) (o := .cells #[.int .i64 0, .slice none 0 0, .bool false] 85 (0, 0)) s6q14)) : p := h
theorem s6q53 {p : Prop} (h : p := by rw [hg]; exact Nat.ne_of_gt (blk_lt (g := gb203) (o := .cells #[.int .i64 0, .slice none 0 0, .bool false] 85 (0, 0)) s6q15)) : p := h
theorem s6q54 {p : Prop} (h : p := by rw [hg]; exact Nat.ne_of_lt (blk_lt (g := gb202) (o := .cells #[.int .i64 0, .slice none 0 0, .bool false] 85 (0, 0)) s6q14)) : p := h
theorem s6q55 {p : Prop} (h : p := by rw [hg]; exact Nat.ne_of_lt (blk_lt (g := gb203) (o := .cells #[.int .i64 0, .slice none 0 0, .bool false] 85 (0, 0)) s6q15)) : p := h
theorem s6q56 {p : Prop} (h : p := by rw [if_neg (show ¬ (false = true) by decide)] at H; exact H) : p := h
/-! ### peristyleref10_best: function 48 -/
mutual
def peristyleref10_best.l0 : Nat → List Int → List (S75) → List (S85) → Int → Int → Option ((List (S85)))
  | 0, _, _, _, _, _ => none
  | k + 1, x0, x1, x5, x18, x19 => if x19 < x18 then (if 0 ≤ x19 then (if 0 ≤ (shl .i64 1 x19) then (if (shl .i64 1 x19) < (x5.length : Int) then (peristyleref10_best.l0 k x0 x1 (x5.set ((shl .i64 1 x19) : Int).toNat (⟨0, (([x19] : List Int)), true⟩ : S85)) x18 (wrap64 (x19 + 1))) else (none)) else (none)) else (none)) else (peristyleref10_best.l1 k x0 x1 x5 1)
def peristyleref10_best.l1 : Nat → List Int → List (S75) → List (S85) → Int → Option ((List (S85)))
  | 0, _, _, _, _ => none
  | k + 1, x0, x1, x5, x7 => if x7 < (x5.length : Int) then (if 0 ≤ x7 then (if (rd_T85 x5 x7).f2 = true then (peristyleref10_best.l1 k x0 x1 x5 (wrap64 (x7 + 1))) else ((peristyleref10_size.f k x0 x1 x7).bind fun t198 => (peristyleref10_best.l2 k x0 x1 x5 x7 t198 1))) else (none)) else (some x5)
def peristyleref10_best.l2 : Nat → List Int → List (S75) → List (S85) → Int → Int → Int → Option ((List (S85)))
  | 0, _, _, _, _, _, _ => none
  | k + 1, x0, x1, x5, x7, x8, x9 => if x9 < x7 then (if (Go.bits .and .i64 x9 x7) = x9 then ((peristyleref10_least.f x7).bind fun t199 => (peristyleref10_best.j3 k x0 x1 x5 x7 x8 x9 ((Go.bits .and .i64 x9 t199) == 0))) else (peristyleref10_best.j3 k x0 x1 x5 x7 x8 x9 true)) else (peristyleref10_best.l1 k x0 x1 x5 (wrap64 (x7 + 1)))
def peristyleref10_best.j3 : Nat → List Int → List (S75) → List (S85) → Int → Int → Int → Bool → Option ((List (S85)))
  | 0, _, _, _, _, _, _, _ => none
  | k + 1, x0, x1, x5, x7, x8, x9, x61 => if x61 = true then (peristyleref10_best.l2 k x0 x1 x5 x7 x8 (wrap64 (x9 + 1))) else (if 0 ≤ x9 then (if x9 < (x5.length : Int) then (if 0 ≤ (Go.bits .andNot .i64 x7 x9) then (if (Go.bits .andNot .i64 x7 x9) < (x5.length : Int) then (if 0 ≤ x7 then (if x7 < (x5.length : Int) then (if ((rd_T85 x5 x7).f2 = true) then (if (mn 1000000000000000 (wrap64 ((wrap64 (((rd_T85 x5 x9).f0) + ((rd_T85 x5 (Go.bits .andNot .i64 x7 x9)).f0))) + x8))) < ((rd_T85 x5 x7).f0) then ((slices_Concat_int_int.f k (([(rd_T85 x5 x9).f1, (rd_T85 x5 (Go.bits .andNot .i64 x7 x9)).f1] : List (List Int)))).bind fun t209 => (if t209.length < 17592186044416 then (peristyleref10_best.l2 k x0 x1 (x5.set (x7 : Int).toNat (⟨mn 1000000000000000 (wrap64 ((wrap64 (((rd_T85 x5 x9).f0) + ((rd_T85 x5 (Go.bits .andNot .i64 x7 x9)).f0))) + x8)), (t209 ++ [(-1)]), true⟩ : S85)) x7 x8 (wrap64 (x9 + 1))) else (none))) else (peristyleref10_best.l2 k x0 x1 x5 x7 x8 (wrap64 (x9 + 1)))) else ((slices_Concat_int_int.f k (([(rd_T85 x5 x9).f1, (rd_T85 x5 (Go.bits .andNot .i64 x7 x9)).f1] : List (List Int)))).bind fun t219 => (if t219.length < 17592186044416 then (peristyleref10_best.l2 k x0 x1 (x5.set (x7 : Int).toNat (⟨mn 1000000000000000 (wrap64 ((wrap64 (((rd_T85 x5 x9).f0) + ((rd_T85 x5 (Go.bits .andNot .i64 x7 x9)).f0))) + x8)), (t219 ++ [(-1)]), true⟩ : S85)) x7 x8 (wrap64 (x9 + 1))) else (none)))) else (none)) else (none)) else (none)) else (none)) else (none)) else (none))
end
def peristyleref10_best.f (k : Nat) (l0 : List Int) (l1 : List (S75)) : Option ((List (S85))) := if 0 ≤ (shl .i64 1 (l0.length : Int)) then (if (shl .i64 1 (l0.length : Int) : Int).toNat ≤ 7036874417766 then (peristyleref10_best.l0 k l0 l1 (List.replicate (shl .i64 1 (l0.length : Int) : Int).toNat z85) (l0.length : Int) 0) else (none)) else (none)
theorem peristyleref10_best.mono_l : ∀ k, (∀ y0 y1 y2 y3 y4, LeO (peristyleref10_best.l0 k y0 y1 y2 y3 y4) (peristyleref10_best.l0 (k + 1) y0 y1 y2 y3 y4)) ∧ (∀ y0 y1 y2 y3, LeO (peristyleref10_best.l1 k y0 y1 y2 y3) (peristyleref10_best.l1 (k + 1) y0 y1 y2 y3)) ∧ (∀ y0 y1 y2 y3 y4 y5, LeO (peristyleref10_best.l2 k y0 y1 y2 y3 y4 y5) (peristyleref10_best.l2 (k + 1) y0 y1 y2 y3 y4 y5)) ∧ (∀ y0 y1 y2 y3 y4 y5 y6, LeO (peristyleref10_best.j3 k y0 y1 y2 y3 y4 y5 y6) (peristyleref10_best.j3 (k + 1) y0 y1 y2 y3 y4 y5 y6))
  | 0 => ⟨fun _ _ _ _ _ r h => by simp [peristyleref10_best.l0] at h, fun _ _ _ _ r h => by simp [peristyleref10_best.l1] at h, fun _ _ _ _ _ _ r h => by simp [peristyleref10_best.l2] at h, fun _ _ _ _ _ _ _ r h => by simp [peristyleref10_best.j3] at h⟩
  | k + 1 => by
    obtain ⟨ih0, ih1, ih2, ih3⟩ := peristyleref10_best.mono_l k
    refine ⟨?_, ?_, ?_, ?_⟩
    · intro y0 y1 y2 y3 y4
      unfold peristyleref10_best.l0
      exact s6qm0
    · intro y0 y1 y2 y3
      unfold peristyleref10_best.l1
      exact s6qm0
    · intro y0 y1 y2 y3 y4 y5
      unfold peristyleref10_best.l2
      exact s6qm0
    · intro y0 y1 y2 y3 y4 y5 y6
      unfold peristyleref10_best.j3
      exact s6qm0
theorem peristyleref10_best.mono : ∀ a0 a1 k, LeO (peristyleref10_best.f k a0 a1) (peristyleref10_best.f (k + 1) a0 a1) := by
 intro a0 a1 k
 obtain ⟨ih0, ih1, ih2, ih3⟩ := peristyleref10_best.mono_l k
 unfold peristyleref10_best.f
 repeat' first
  | (with_reducible exact ih0 _ _ _ _ _)
  | (with_reducible exact ih1 _ _ _ _)
  | (with_reducible exact ih2 _ _ _ _ _ _)
  | (with_reducible exact ih3 _ _ _ _ _ _ _)
  | (with_reducible exact peristyleref10_size.mono _ _ _ _)
  | (with_reducible exact slices_Concat_int_int.mono _ _)
  | (with_reducible exact LeO.refl _)
  | (with_reducible exact LeO.none _)
  | (with_reducible refine LeO.ite ?_ ?_)
  | (with_reducible refine LeO.bind ?_ (fun _ => ?_))
  | exact ih0 _ _ _ _ _
  | exact ih1 _ _ _ _
  | exact ih2 _ _ _ _ _ _
  | exact ih3 _ _ _ _ _ _ _
  | exact peristyleref10_size.mono _ _ _ _
  | exact slices_Concat_int_int.mono _ _
  | exact LeO.none _
  | refine LeO.ite ?_ ?_
  | refine LeO.bind ?_ (fun _ => ?_)
def peristyleref10_best.T16 : Bool × List (List Nat × List Nat) := (true, [([], []), ([], []), ([0, 1], [0, 1]), ([2], [2]), ([], []), ([], []), ([], []), ([5, 6], [5, 6]), ([4, 7], [4, 7]), ([8], [8]), ([], []), ([], []), ([10, 3, 0, 1, 2, 3, 10, 11], [3, 10]), ([11, 9, 12, 0, 1, 2, 3, 4, 5, 6, 7, 8, 9, 10, 11, 12], [9, 11])])
def peristyleref10_best.B16 : List Nat := [0, 0, 3, 7, 0, 0, 0, 96, 240, 496, 0, 0, 3087, 8191]
theorem peristyleref10_best.tab16 : rtab .any (opsOf Tryd.f48 16) = peristyleref10_best.T16 := by kernel_rfl
theorem peristyleref10_best.bits16 : waitsOk peristyleref10_best.T16.2 peristyleref10_best.B16 = true := by kernel_rfl
set_option maxHeartbeats 8000000 in
set_option maxRecDepth 100000 in
theorem peristyleref10_best.calls (k : Nat) (A0 : Option Addr) (c0 : Nat) (l0 : List Int) (A1 : Option Addr) (c1 : Nat) (l1 : List (S75)) (r : List (S85)) (w : World) (hr0 : Kd.C (Kd.int .i64) w A0 l0.length l0) (hc0 : l0.length ≤ c0) (hr1 : Kd.C k75 w A1 l1.length l1) (hc1 : l1.length ≤ c1) (h : peristyleref10_best.f k l0 l1 = some r) :
    Calls Tryd.prog 48 #[.slice A0 l0.length c0, .slice A1 l1.length c1] w fun e w' => ∃ v0_ : Value, e = .returned (v0_) ∧ Kd.N k85 85 w' w.heap.size (fun k_ => (w.heap.size ≤ k_)) v0_ r ∧ Below w.heap.size w w' := by
 have hu85 := Tryd.underlying85
 have HR0 := Aside0.mk hr0
 have HC0 := Aside0.mk hc0
 clear hr0 hc0
 have HR1 := Aside0.mk hr1
 have HC1 := Aside0.mk hc1
 clear hr1 hc1
 have HB := Aside0.mk (Below.refl w.heap.size w)
 have H : (if 0 ≤ (shl .i64 1 (l0.length : Int)) then (if (shl .i64 1 (l0.length : Int) : Int).toNat ≤ 7036874417766 then (peristyleref10_best.l0 k l0 l1 (List.replicate (shl .i64 1 (l0.length : Int) : Int).toNat z85) (l0.length : Int) 0) else (none)) else (none)) = some r := h
 clear h
 obtain ⟨ji3, hji3⟩ : ∃ j_ : Int, (shl .i64 1 (l0.length : Int)) = j_ := ⟨_, rfl⟩
 replace H : (if 0 ≤ (ji3) then (if (ji3 : Int).toNat ≤ 7036874417766 then (peristyleref10_best.l0 k l0 l1 (List.replicate (ji3 : Int).toNat z85) (l0.length : Int) 0) else (none)) else (none)) = some r := by first | (rw [hji3] at H; exact H) | (simp only [hji3] at H ⊢; exact H)
 have hji3_ : (IntKind.i64.wrap (1 * 2 ^ min (l0.length : Int).toNat 64)) = ji3 := hji3
 have hji3z : (l0.length : Int) ≤ 64 → (IntKind.i64.wrap (1 * 2 ^ (l0.length : Int).toNat)) = ji3 := shl_small hji3
 have hji3p : (IntKind.i64.wrap (1 * 2 ^ min l0.length 64)) = ji3 := hji3_
 have hji3q : (l0.length : Int) ≤ 64 → (IntKind.i64.wrap (1 * 2 ^ l0.length)) = ji3 := hji3z
 have hji3r : (IntKind.i64.wrap (2 ^ min l0.length 64)) = ji3 := by have h_ := hji3p; rw [Int.one_mul] at h_; exact h_
 have hji3s : (l0.length : Int) ≤ 64 → (IntKind.i64.wrap (2 ^ l0.length)) = ji3 := fun hle_ => by have h_ := hji3q hle_; rw [Int.one_mul] at h_; exact h_
 have hji3u : (IntKind.i64.wrap (2 ^ min (l0.length : Int).toNat 64)) = ji3 := by have h_ := hji3_; rw [Int.one_mul] at h_; exact h_
 have hji3v : (l0.length : Int) ≤ 64 → (IntKind.i64.wrap (2 ^ (l0.length : Int).toNat)) = ji3 := fun hle_ => by have h_ := hji3z hle_; rw [Int.one_mul] at h_; exact h_
 have hji3y : (wrap64 (1 * 2 ^ min (l0.length : Int).toNat 64)) = ji3 := (i64_w _).symm.trans hji3_
 have hji3x : (l0.length : Int) ≤ 64 → (wrap64 (1 * 2 ^ (l0.length : Int).toNat)) = ji3 := fun h_ => (i64_w _).symm.trans (hji3z h_)
 by_cases c4 : 0 ≤ (ji3)
 case neg =>
  rw [if_neg c4] at H
  exact absurd H (by simp)
 rw [if_pos c4] at H
 have c4b0 := eq_true c4
 have c4b1 : decide (0 ≤ (ji3)) = true := decide_eq_true c4
 clear c4
 by_cases c5 : (ji3 : Int).toNat ≤ 7036874417766
 case neg =>
  rw [if_neg c5] at H
  exact absurd H (by simp)
 rw [if_pos c5] at H
 have c5b0 := eq_true c5
 have c5b1 : decide ((ji3 : Int).toNat ≤ 7036874417766) = true := decide_eq_true c5
 clear c5
 obtain ⟨y190, hy190⟩ : ∃ y_ : List (S85), y_ = (List.replicate (ji3 : Int).toNat z85) := ⟨_, rfl⟩
 replace H : (peristyleref10_best.l0 k l0 l1 y190 (l0.length : Int) 0) = some r := sqz hy190 H
 have Ny190 := Aside0.mk hy190
 clear hy190
 have H' := Aside0.mk H
 clear H
 go_enter Tryd.func48, Tryd.ntmps48
 go_wp2_with (first | ((with_reducible refine gate_dst (N := 16) rfl ?_); refine Kd.N_make k85 _ 85 rfl (N' := 16) rfl 82 _ _ rfl ji3 rfl rfl Tryd.underlying82 (.agg #[(.int .i64 0), (.slice none 0 0), (.bool false)]) 40 info85 rfl s6q1 s6q0 z85 (ok := fun k_ => w.heap.size ≤ k_) (okp := fun _ => False) (k85_mkF _ _ z85 (Nat.le_refl _) (Kd.F_nil _ _ _)) (fun _ hk => hk.elim) (Nat.le_refl _) (of_decide_eq_true s6q6) (Nat.le_trans (Nat.mul_le_mul_right _ (of_decide_eq_true s6q6 : ji3.toNat ≤ 7036874417766)) s6q0) (Below.refl _ _) (Nat.le_refl _) ?_; intro v191 w6 ho7 hb hg_ hnew_; clear hg_ hnew_; (first | rw [← Ny190.out] at ho7 | (simp only [Int.reduceToNat] at ho7; rw [← Ny190.out] at ho7)); have n0_ := Aside0.mk (Kd.N_lower (Kd.N_mono (ok' := fun k_ => (w.heap.size ≤ k_)) ho7 (fun k_ hk_ => (Nat.le_trans (below_size s6q16) hk_))) (below_size s6q16)); have n1_ := Aside0.mk (below_step s6q16 hb); clear HB; have HO192 := n0_; have HB := n1_; clear n0_ n1_; clear hb ho7))
 go_loopg [19] k (fun kq v19 w' => ∃ (x5_1 : List (S85)) (x19_1 : Int), v19 = .int .i64 x19_1 ∧ Aside0 (peristyleref10_best.l0 kq l0 l1 x5_1 (l0.length : Int) x19_1 = some r) ∧ Aside0 (kq ≤ k) ∧ Aside0 (Kd.N k85 85 w' w.heap.size (fun k_ => (w.heap.size ≤ k_)) v191 x5_1) ∧ Aside0 (Below w.heap.size w w'))
 case atStart => exact ⟨(y190), (0), s6q5, H', ⟨Nat.le_refl _⟩, ⟨by (with_reducible repeat (first | apply Kd.N_alloc | apply Kd.N_drewN | apply Kd.N_drew)); exact HO192.out⟩, ⟨by repeat (first | (with_reducible first | exact HB.out | apply below_alloc | apply pw_below_drewN | apply below_drew1) | exact HB.out)⟩⟩
 clear H'
 try clear c1
 try clear p2
 try clear c4
 try clear c4b0
 try clear c4b1
 try clear c5
 try clear c5b0
 try clear c5b1
 try clear p6
 obtain ⟨x5_1, x19_1, rfl, HA, HK1, HO_5, HB⟩ := hrel
 cases gk with
 | zero => exact absurd HA.out (by simp [peristyleref10_best.l0])
 | succ k1 => ?_
 have H := HA.out
 clear HA
 simp only [peristyleref10_best.l0] at H
 by_cases c8 : x19_1 < (l0.length : Int)
 · rw [if_pos c8] at H
   have c8b0 : decide (x19_1 < (l0.length : Int)) = true := decide_eq_true c8
   clear c8
   by_cases c9 : 0 ≤ x19_1
   case neg =>
    rw [if_neg c9] at H
    exact absurd H (by simp)
   rw [if_pos c9] at H
   have c9b0 := eq_true c9
   have c9b1 : decide (0 ≤ x19_1) = true := decide_eq_true c9
   clear c9
   obtain ⟨ji10, hji10⟩ : ∃ j_ : Int, (shl .i64 1 x19_1) = j_ := ⟨_, rfl⟩
   replace H : (if 0 ≤ (ji10) then (if (ji10) < (x5_1.length : Int) then (peristyleref10_best.l0 k1 l0 l1 (x5_1.set ((ji10) : Int).toNat (⟨0, (([x19_1] : List Int)), true⟩ : S85)) (l0.length : Int) (wrap64 (x19_1 + 1))) else (none)) else (none)) = some r := by first | (rw [hji10] at H; exact H) | (simp only [hji10] at H ⊢; exact H)
   have hji10_ : (IntKind.i64.wrap (1 * 2 ^ min x19_1.toNat 64)) = ji10 := hji10
   have hji10z : x19_1 ≤ 64 → (IntKind.i64.wrap (1 * 2 ^ x19_1.toNat)) = ji10 := shl_small hji10
   have hji10u : (IntKind.i64.wrap (2 ^ min x19_1.toNat 64)) = ji10 := by have h_ := hji10_; rw [Int.one_mul] at h_; exact h_
   have hji10v : x19_1 ≤ 64 → (IntKind.i64.wrap (2 ^ x19_1.toNat)) = ji10 := fun hle_ => by have h_ := hji10z hle_; rw [Int.one_mul] at h_; exact h_
   have hji10y : (wrap64 (1 * 2 ^ min x19_1.toNat 64)) = ji10 := (i64_w _).symm.trans hji10_
   have hji10x : x19_1 ≤ 64 → (wrap64 (1 * 2 ^ x19_1.toNat)) = ji10 := fun h_ => (i64_w _).symm.trans (hji10z h_)
   obtain ⟨y193, hy193⟩ : ∃ y_ : List Int, y_ = (([x19_1] : List Int)) := ⟨_, rfl⟩
   replace H : (if 0 ≤ (ji10) then (if (ji10) < (x5_1.length : Int) then (peristyleref10_best.l0 k1 l0 l1 (x5_1.set ((ji10) : Int).toNat (⟨0, y193, true⟩ : S85)) (l0.length : Int) (wrap64 (x19_1 + 1))) else (none)) else (none)) = some r := sqz hy193 H
   have Ny193 := Aside0.mk hy193
   clear hy193
   by_cases c11 : 0 ≤ (ji10)
   case neg =>
    rw [if_neg c11] at H
    exact absurd H (by simp)
   rw [if_pos c11] at H
   have c11b0 : decide (0 ≤ (ji10)) = true := decide_eq_true c11
   clear c11
   by_cases c12 : (ji10) < (x5_1.length : Int)
   case neg =>
    rw [if_neg c12] at H
    exact absurd H (by simp)
   rw [if_pos c12] at H
   have c12b0 : decide ((ji10) < (x5_1.length : Int)) = true := decide_eq_true c12
   clear c12
   obtain ⟨y196, hy196⟩ : ∃ y_ : List (S85), y_ = (x5_1.set ((ji10) : Int).toNat (⟨0, y193, true⟩ : S85)) := ⟨_, rfl⟩
   replace H : (peristyleref10_best.l0 k1 l0 l1 y196 (l0.length : Int) (wrap64 (x19_1 + 1))) = some r := sqz hy196 H
   have Ny196 := Aside0.mk hy196
   clear hy196
   have H' := Aside0.mk H
   clear H
   go_wp2_with (first | ((with_reducible refine gate_dst (N := 26) rfl ?_); refine Kd.R_lit (Kd.int .i64) _ 3 ?hg (N := 26) ?hd (xs := ([x19_1] : List Int)) (inner := [.int .i64 x19_1]) (ok := fun _ => True) (okp := fun _ => True) ?hr ?hp (fun _ hk => hk) trivial (Below.refl _ _) (Nat.le_refl _) (by simp) ?_; (case hd => rfl); (case hg => rfl); (case hr => first | (go_simp; done) | (go_simp; rfl)); (case hp => exact (Reps.one (show Kd.M (Kd.int .i64) _ _ _ x19_1 [.int .i64 x19_1] from rfl) (Reps.none _ _))); intro v194 w14 ho15 hb hg_ hnew_; clear hg_ hnew_; (first | rw [← Ny193.out] at ho15 | (simp only [Int.reduceToNat] at ho15; rw [← Ny193.out] at ho15)); have n0_ := Aside0.mk (Kd.N_elder' s6q7 (Kd.R_base ho15) hb); have n1_ := Aside0.mk (Kd.R_lower (Kd.R_newM (M := fun k_ => (w.heap.size ≤ k_)) ho15 (below_size s6q16) (fun k_ h_ => h_)) (below_size s6q16)); have n2_ := Aside0.mk (below_step s6q16 hb); clear HO_5; clear HB; have HO_5 := n0_; have HO195 := n1_; have HB := n2_; clear n0_ n1_ n2_; clear hb ho15; obtain ⟨Ao16, co16, eo16⟩ := Kd.R_slice HO195.out; subst eo16; have p13 : 0 ≤ ((ji10) : Int) := of_decide_eq_true s6q6; have q13 : ((ji10) : Int) < ((x5_1.length : Int) : Int) := of_decide_eq_true s6q6; obtain ⟨go13, co13, eo13, gb13, gl13, cl13, HG13⟩ := Kd.N_form HO_5.out (by first | exact Int.natCast_pos.1 (Int.lt_of_le_of_lt p13 q13) | omega); (first | cases eo13 | (injection eo13 with ea_ en_ ec_; (first | subst ea_ | (injection ea_ with ea_; subst ea_)); subst ec_; clear en_)); have GB13 := Aside0.mk gb13; have GG13 := Aside0.mk HG13; clear gb13 gl13 HG13; obtain ⟨ce13, hcl13, hM13, hcc13, hfr13⟩ := Kd.N_elem HO_5.out z85 ((ji10) : Int) p13 q13; obtain ⟨ua13_1, uc13_1, rfl, ul13_1, ge13_1⟩ := k85_openF hM13; have hx13_0 : w14.cell? ⟨go13, ((ji10) : Int).toNat * 3, none⟩ = some (.int .i64 ((rd_T85 x5_1 (ji10)).f0)) := hcc13 0 _ rfl; have hx13_1 : w14.cell? ⟨go13, ((ji10) : Int).toNat * 3 + 1, none⟩ = some (.slice ua13_1 ((rd_T85 x5_1 (ji10)).f1).length uc13_1) := hcc13 1 _ rfl; have hx13_2 : w14.cell? ⟨go13, ((ji10) : Int).toNat * 3 + 2, none⟩ = some (.bool ((rd_T85 x5_1 (ji10)).f2)) := hcc13 2 _ rfl; have hf13_0 : w14.frozen? ⟨go13, ((ji10) : Int).toNat * 3, none⟩ = false := hfr13 0; have hf13_1 : w14.frozen? ⟨go13, ((ji10) : Int).toNat * 3 + 1, none⟩ = false := hfr13 1; have hf13_2 : w14.frozen? ⟨go13, ((ji10) : Int).toNat * 3 + 2, none⟩ = false := hfr13 2; clear hcl13 hcc13 hfr13 hM13; replace p13 := eq_true p13; replace q13 := eq_true q13; have HX17 := Aside0.mk (show Kd.N k85 85 w14 w.heap.size (fun k_ => (w.heap.size ≤ k_)) (.slice (some ⟨go13, 0, none⟩) x5_1.length co13) x5_1 from (by (with_reducible repeat (first | apply Kd.N_alloc | apply Kd.N_drewN | apply Kd.N_drew)); exact Kd.N_mono HO_5.out (fun _ hk => hk.1))); obtain ⟨ce17, hcl17, hM17, hcc17, hfr17⟩ := Kd.N_elem HX17.out z85 ((ji10) : Int) (of_decide_eq_true s6q6) s6q48; obtain ⟨ua17_1, uc17_1, rfl, ul17_1, ge17_1⟩ := k85_openF hM17; have HP17 := Kd.N_seg HX17.out ((ji10) : Int) (of_decide_eq_true s6q6) s6q48 (seg := [.int .i64 0, .slice Ao16 y193.length co16, .bool true]) (j := 0) hcl17 hcc17 (show 3 ≤ 3 from by decide) (x' := (⟨0, y193, true⟩ : S85)) (k85_mkF _ _ (⟨0, y193, true⟩ : S85) (Kd.R_reads' (Kd.R_mono (ok' := (fun k_ => ((fun k_ => (w.heap.size ≤ k_))) k_ ∧ k_ ≠ go13)) (Kd.R_apart' (HO195.out) (Kd.N_typed HO_5.out) s6q1) (fun k_ hk => ⟨hk.1.1, fun e_ => (hk.2) s6q3⟩))).2.1 (Kd.R_F (Kd.R_mono (ok' := (fun k_ => ((fun k_ => (w.heap.size ≤ k_))) k_ ∧ k_ ≠ go13)) (Kd.R_apart' (HO195.out) (Kd.N_typed HO_5.out) s6q1) (fun k_ hk => ⟨hk.1.1, fun e_ => (hk.2) s6q3⟩)))) (fun _ hk => hk); have hx17_0 := hcc17 0 _ rfl; (try simp only [show (k85).sz = 3 from rfl, Nat.mul_one, Nat.add_zero] at hx17_0); have hf17_0 := hfr17 0; (try simp only [show (k85).sz = 3 from rfl, Nat.mul_one, Nat.add_zero] at hf17_0); have hx17_1 := hcc17 1 _ rfl; (try simp only [show (k85).sz = 3 from rfl, Nat.mul_one, Nat.add_zero] at hx17_1); have hf17_1 := hfr17 1; (try simp only [show (k85).sz = 3 from rfl, Nat.mul_one, Nat.add_zero] at hf17_1); have hx17_2 := hcc17 2 _ rfl; (try simp only [show (k85).sz = 3 from rfl, Nat.mul_one, Nat.add_zero] at hx17_2); have hf17_2 := hfr17 2; (try simp only [show (k85).sz = 3 from rfl, Nat.mul_one, Nat.add_zero] at hf17_2); clear hcl17 hcc17 hfr17 hM17) | ((with_reducible refine gate_store (t := 85) (p := 28) rfl ?_); refine store_event (t := 85) (p := 28) (v := ?vo_w18) (w1 := (((w14.setCell ⟨go13, ((ji10) : Int).toNat * 3, none⟩ (.int .i64 0)).setCell ⟨go13, ((ji10) : Int).toNat * 3 + 1, none⟩ (.slice Ao16 y193.length co16)).setCell ⟨go13, ((ji10) : Int).toNat * 3 + 2, none⟩ (.bool true))) ?hg ?ho ?hn ?hr ?_; (case ho => rfl); (case hg => rfl); (case hn => rfl); (case hr => first | (go_simp; done) | (go_simp; rfl)); intro w18 hw; have hg : w14.grownBy w18 (some go13) := (by rw [hw]; exact HP17.2); have hp_ : Kd.N k85 85 w18 w.heap.size (fun k_ => (w.heap.size ≤ k_)) (.slice (some ⟨go13, 0, none⟩) x5_1.length co13) y196 := (by rw [hw, Ny196.out]; exact HP17.1); clear HP17; have n0_ := Aside0.mk (hp_); have n1_ := Aside0.mk ((by rw [hw]; exact below_set (below_set (below_set (HB.out) GB13.out) GB13.out) GB13.out : Below w.heap.size w w18)); clear HO_5; clear HB; clear HO195; have HO_5 := n0_; have HB := n1_; clear n0_ n1_; clear hg hw hp_))
   first | go_roundg k1 | (refine Handed.intro k1 ?measure ?_; rotate_left; go_step; (repeat apply Exists.intro); simp only [add_plain]; refine ⟨?rel, rfl⟩)
   case measure => have := HK1.out; omega
   case rel => exact ⟨(y196), (wrap64 (x19_1 + 1)), s6q5, H', ⟨by have := HK1.out; omega⟩, ⟨by (with_reducible repeat (first | apply Kd.N_alloc | apply Kd.N_drewN | apply Kd.N_drew)); exact HO_5.out⟩, ⟨by repeat (first | (with_reducible first | exact HB.out | apply below_alloc | apply pw_below_drewN | apply below_drew1) | exact HB.out)⟩⟩
 rw [if_neg c8] at H
 have c8b0 : decide (x19_1 < (l0.length : Int)) = false := decide_eq_false c8
 clear c8
 have H' := Aside0.mk H
 clear H
 go_wp2
 go_loopg [7] k1 (fun kq v7 w' => ∃ (x5_2 : List (S85)) (x7_2 : Int), v7 = .int .i64 x7_2 ∧ Aside0 (peristyleref10_best.l1 kq l0 l1 x5_2 x7_2 = some r) ∧ Aside0 (kq ≤ k1) ∧ Aside0 (Kd.N k85 85 w' w.heap.size (fun k_ => (w.heap.size ≤ k_)) v191 x5_2) ∧ Aside0 (Below w.heap.size w w'))
 case atStart => exact ⟨(x5_1), (1), s6q5, H', ⟨Nat.le_refl _⟩, ⟨by (with_reducible repeat (first | apply Kd.N_alloc | apply Kd.N_drewN | apply Kd.N_drew)); exact HO_5.out⟩, ⟨by repeat (first | (with_reducible first | exact HB.out | apply below_alloc | apply pw_below_drewN | apply below_drew1) | exact HB.out)⟩⟩
 clear H'
 try clear c1
 try clear p1
 try clear q1
 try clear hx1
 try clear p2
 try clear c4
 try clear c4b0
 try clear c4b1
 try clear c5
 try clear c5b0
 try clear c5b1
 try clear p6
 try clear c8
 try clear c8b0
 try clear c9
 try clear c9b0
 try clear c9b1
 try clear c11
 try clear c11b0
 try clear c12
 try clear c12b0
 try clear c13
 try clear p13
 try clear q13
 try clear hx13
 try clear hf13
 try clear c17
 try clear hx17
 try clear hf17
 try clear hx13_0
 try clear hx13_1
 try clear hx13_2
 try clear hx17_0
 try clear hx17_1
 try clear hx17_2
 try clear p13
 try clear p2
 try clear p6
 try clear q13
 obtain ⟨x5_2, x7_2, rfl, HA, HK2, HO_5, HB⟩ := hrel
 cases gk with
 | zero => exact absurd HA.out (by simp [peristyleref10_best.l1])
 | succ k2 => ?_
 have H := HA.out
 clear HA
 simp only [peristyleref10_best.l1] at H
 by_cases c19 : x7_2 < (x5_2.length : Int)
 case neg =>
  rw [if_neg c19] at H
  have c19b0 : decide (x7_2 < (x5_2.length : Int)) = false := decide_eq_false c19
  clear c19
  obtain rfl := Option.some.inj H
  obtain ⟨Ao106, co106, eo106⟩ := Kd.N_slice HO_5.out
  subst eo106
  go_wp2
  go_ret
  exact ⟨_, by first | rfl | (simp [errW_none, errW_some] <;> rfl) | (simp only [← hji3]; first | rfl | (simp [errW_none, errW_some] <;> rfl)) | (simp [*, errW_none, errW_some] <;> rfl), by (with_reducible repeat (first | apply Kd.N_alloc | apply Kd.N_drewN | apply Kd.N_drew)); exact HO_5.out, by repeat (first | (with_reducible first | exact HB.out | apply below_alloc | apply pw_below_drewN | apply below_drew1) | exact HB.out)⟩
 rw [if_pos c19] at H
 have c19b0 : decide (x7_2 < (x5_2.length : Int)) = true := decide_eq_true c19
 clear c19
 by_cases c20 : 0 ≤ x7_2
 case neg =>
  rw [if_neg c20] at H
  exact absurd H (by simp)
 rw [if_pos c20] at H
 have c20b0 : decide (0 ≤ x7_2) = true := decide_eq_true c20
 clear c20
 obtain ⟨bq21, hbq21⟩ : ∃ b_ : Bool, b_ = ((rd_T85 x5_2 x7_2).f2) := ⟨_, rfl⟩
 replace H : (if bq21 = true then (peristyleref10_best.l1 k2 l0 l1 x5_2 (wrap64 (x7_2 + 1))) else ((peristyleref10_size.f k2 l0 l1 x7_2).bind fun t198 => (peristyleref10_best.l2 k2 l0 l1 x5_2 x7_2 t198 1))) = some r := by rw [← hbq21] at H; exact H
 have Nbq21 := Aside0.mk hbq21
 clear hbq21
 by_cases c22 : bq21 = true
 · subst c22
   have H1 : (peristyleref10_best.l1 k2 l0 l1 x5_2 (wrap64 (x7_2 + 1))) = some r := by rw [if_pos rfl] at H; exact H
   clear H
   have H := H1
   clear H1
   have H' := Aside0.mk H
   clear H
   obtain ⟨Ao23, co23, eo23⟩ := Kd.N_slice HO_5.out
   subst eo23
   have p197 : 0 ≤ (x7_2 : Int) := of_decide_eq_true s6q6
   have q197 : x7_2 < (x5_2.length : Int) := of_decide_eq_true s6q6
   obtain ⟨ad197, A197_1, c197_1, e197, hx197_0, hx197_1, hx197_2, hl197_1, hi197_1⟩ := at_T85 (Kd.N_reads' HO_5.out).2.2 x7_2 p197 q197
   (try rw [← Nbq21.out] at hx197_2)
   cases e197
   obtain ⟨ce197, hce197, hMe197, hcc197⟩ := Kd.N_get HO_5.out z85 x7_2 p197 s6q42
   obtain ⟨ua197_1, uc197_1, rfl, ul197_1, ge197_1⟩ := k85_openF hMe197
   have hv197_1 := hcc197 1 _ rfl
   rw [add_field _ _ 1 s6q0] at hv197_1
   replace hv197_1 := Option.some.inj (hv197_1.symm.trans hx197_1)
   injection hv197_1 with hva_ hvn_ hvc_
   rw [hva_] at ge197_1
   rw [hvc_] at ul197_1
   have HL197_1 := Aside0.mk (show Kd.V (Kd.int .i64) 3 _ w.heap.size _ _ ((rd_T85 x5_2 x7_2).f1) from Kd.V_mk ul197_1 ge197_1)
   clear hva_ hvn_ hvc_ ge197_1 ul197_1
   clear hcc197 hce197
   have HR197_1 := Aside0.mk hi197_1
   have HC197_1 := Aside0.mk hl197_1
   clear hi197_1 hl197_1
   replace p197 := eq_true p197
   replace q197 := eq_true q197
   go_wp2
   first | go_roundg k2 | (refine Handed.intro k2 ?measure ?_; rotate_left; go_step; (repeat apply Exists.intro); simp only [add_plain]; refine ⟨?rel, rfl⟩)
   case measure => have := HK1.out; have := HK2.out; omega
   case rel => exact ⟨(x5_2), (wrap64 (x7_2 + 1)), s6q5, H', ⟨by have := HK1.out; have := HK2.out; omega⟩, ⟨by (with_reducible repeat (first | apply Kd.N_alloc | apply Kd.N_drewN | apply Kd.N_drew)); exact HO_5.out⟩, ⟨by repeat (first | (with_reducible first | exact HB.out | apply below_alloc | apply pw_below_drewN | apply below_drew1) | exact HB.out)⟩⟩
 replace c22 := Bool.eq_false_iff.mpr c22
 subst c22
 have H1 : ((peristyleref10_size.f k2 l0 l1 x7_2).bind fun t198 => (peristyleref10_best.l2 k2 l0 l1 x5_2 x7_2 t198 1)) = some r := s6q56
 clear H
 have H := H1
 clear H1
 replace H := Option.bind_eq_some_iff.mp H
 obtain ⟨t198, A240, H⟩ := H
 replace H : (peristyleref10_best.l2 k2 l0 l1 x5_2 x7_2 t198 1) = some r := H
 have A24 := Aside0.mk A240
 clear A240
 have H' := Aside0.mk H
 clear H
 obtain ⟨Ao25, co25, eo25⟩ := Kd.N_slice HO_5.out
 subst eo25
 have p197 : 0 ≤ (x7_2 : Int) := of_decide_eq_true s6q6
 have q197 : x7_2 < (x5_2.length : Int) := of_decide_eq_true s6q6
 obtain ⟨ad197, A197_1, c197_1, e197, hx197_0, hx197_1, hx197_2, hl197_1, hi197_1⟩ := at_T85 (Kd.N_reads' HO_5.out).2.2 x7_2 p197 q197
 (try rw [← Nbq21.out] at hx197_2)
 cases e197
 obtain ⟨ce197, hce197, hMe197, hcc197⟩ := Kd.N_get HO_5.out z85 x7_2 p197 s6q42
 obtain ⟨ua197_1, uc197_1, rfl, ul197_1, ge197_1⟩ := k85_openF hMe197
 have hv197_1 := hcc197 1 _ rfl
 rw [add_field _ _ 1 s6q0] at hv197_1
 replace hv197_1 := Option.some.inj (hv197_1.symm.trans hx197_1)
 injection hv197_1 with hva_ hvn_ hvc_
 rw [hva_] at ge197_1
 rw [hvc_] at ul197_1
 have HL197_1 := Aside0.mk (show Kd.V (Kd.int .i64) 3 _ w.heap.size _ _ ((rd_T85 x5_2 x7_2).f1) from Kd.V_mk ul197_1 ge197_1)
 clear hva_ hvn_ hvc_ ge197_1 ul197_1
 clear hcc197 hce197
 have HR197_1 := Aside0.mk hi197_1
 have HC197_1 := Aside0.mk hl197_1
 clear hi197_1 hl197_1
 replace p197 := eq_true p197
 replace q197 := eq_true q197
 go_wp2_with (first | ((with_reducible refine gate_callee (f := 45) rfl ?_); refine goesL_ (some 44) rfl rfl Tryd.func45 s6q2 rfl #[.slice A0 l0.length c0, .slice A1 l1.length c1, .int .i64 x7_2] rfl s6q17 ?_; (with_reducible refine (peristyleref10_size.calls k2 _ _ l0 _ _ l1 x7_2 t198 _ ?side1 ?side2 ?side3 ?side4 A24.out).mono ?_); (case side1 => repeat (first | exact (Kd.C_below HR0.out HB.out) | (with_reducible refine Kd.C_alloc ?_ _) | (with_reducible refine Kd.C_drewN ?_ _) | (with_reducible refine Kd.C_drew ?_))); (case side2 => exact HC0.out); (case side3 => repeat (first | exact (Kd.C_below HR1.out HB.out) | (with_reducible refine Kd.C_alloc ?_ _) | (with_reducible refine Kd.C_drewN ?_ _) | (with_reducible refine Kd.C_drew ?_))); (case side4 => exact HC1.out); rintro e w26 ⟨rfl, hb⟩; refine ⟨_, rfl, ?_⟩; have n0_ := Aside0.mk (Kd.N_below s6q7 hb); have n1_ := Aside0.mk (Kd.V_below (by (with_reducible repeat (first | apply Kd.V_alloc | apply Kd.V_drewN | apply Kd.V_drew)); exact HL197_1.out) hb); have n2_ := Aside0.mk (Kd.C_below (by repeat (first | (with_reducible exact HR197_1.out) | (with_reducible refine Kd.C_alloc ?_ _) | (with_reducible refine Kd.C_drewN ?_ _) | (with_reducible refine Kd.C_drew ?_) | exact HR197_1.out)) hb); have n3_ := Aside0.mk (below_step s6q16 hb); clear HO_5; clear HL197_1; clear HR197_1; clear HB; have HO_5 := n0_; have HL197_1 := n1_; have HR197_1 := n2_; have HB := n3_; clear n0_ n1_ n2_ n3_; (try clear hb); (try clear hb2); (try clear hk); (try clear hi)))
 go_loopg [9] k2 (fun kq v9 w' => ∃ (x5_3 : List (S85)) (x9_3 : Int), v9 = .int .i64 x9_3 ∧ Aside0 (peristyleref10_best.l2 kq l0 l1 x5_3 x7_2 t198 x9_3 = some r) ∧ Aside0 (kq ≤ k2) ∧ Aside0 (Kd.N k85 85 w' w.heap.size (fun k_ => (w.heap.size ≤ k_)) (.slice (some ad197) x5_2.length co25) x5_3) ∧ Aside0 (Below w.heap.size w w'))
 case atStart => exact ⟨(x5_2), (1), s6q5, H', ⟨Nat.le_refl _⟩, ⟨by (with_reducible repeat (first | apply Kd.N_alloc | apply Kd.N_drewN | apply Kd.N_drew)); exact HO_5.out⟩, ⟨by repeat (first | (with_reducible first | exact HB.out | apply below_alloc | apply pw_below_drewN | apply below_drew1) | exact HB.out)⟩⟩
 clear H'
 try clear c1
 try clear p1
 try clear q1
 try clear hx1
 try clear c2
 try clear p2
 try clear q2
 try clear c4
 try clear c4b0
 try clear c4b1
 try clear c5
 try clear c5b0
 try clear c5b1
 try clear p6
 try clear c8
 try clear c8b0
 try clear c9
 try clear c9b0
 try clear c9b1
 try clear c11
 try clear c11b0
 try clear c12
 try clear c12b0
 try clear c13
 try clear p13
 try clear q13
 try clear hx13
 try clear hf13
 try clear c17
 try clear hx17
 try clear hf17
 try clear c19
 try clear c19b0
 try clear p19
 try clear q19
 try clear hx19
 try clear c20
 try clear c20b0
 try clear q21
 try clear c22
 try clear hx13_0
 try clear hx13_1
 try clear hx13_2
 try clear hx17_0
 try clear hx17_1
 try clear hx17_2
 try clear hx197_0
 try clear hx197_1
 try clear hx197_2
 try clear p1
 try clear p13
 try clear p197
 try clear p2
 try clear p6
 try clear q1
 try clear q13
 try clear q197
 obtain ⟨x5_3, x9_3, rfl, HA, HK3, HO_5, HB⟩ := hrel
 have hl5_3 := (Kd.N_reads' HO_5.out).1
 rw [hl5_3] at HO_5
 (try simp only [hl5_3])
 cases gk with
 | zero => exact absurd HA.out (by simp [peristyleref10_best.l2])
 | succ k3 => ?_
 have H := HA.out
 clear HA
 simp only [peristyleref10_best.l2] at H
 by_cases c27 : x9_3 < x7_2
 case neg =>
  rw [if_neg c27] at H
  have c27b0 : decide (x9_3 < x7_2) = false := decide_eq_false c27
  clear c27
  have H' := Aside0.mk H
  clear H
  go_wp2
  (try simp only [← hl5_3])
  first | go_roundg k3 | (refine Handed.intro k3 ?measure ?_; rotate_left; go_step; (repeat apply Exists.intro); simp only [add_plain]; refine ⟨?rel, rfl⟩)
  case measure => have := HK1.out; have := HK2.out; have := HK3.out; omega
  case rel => exact ⟨(x5_3), (wrap64 (x7_2 + 1)), s6q5, H', ⟨by have := HK1.out; have := HK2.out; have := HK3.out; omega⟩, ⟨by (try simp only [hl5_3]); (with_reducible repeat (first | apply Kd.N_alloc | apply Kd.N_drewN | apply Kd.N_drew)); exact HO_5.out⟩, ⟨by repeat (first | (with_reducible first | exact HB.out | apply below_alloc | apply pw_below_drewN | apply below_drew1) | exact HB.out)⟩⟩
 rw [if_pos c27] at H
 have c27b0 : decide (x9_3 < x7_2) = true := decide_eq_true c27
 clear c27
 have HC28 := Aside0.mk H
 clear H
 go_upto_region 15 with (fail)
 go_cut [61] (fun v61 wc => ∃ (kq : Nat) (x61_27 : Bool), v61 = .bool x61_27 ∧ Aside0 (peristyleref10_best.j3 kq l0 l1 x5_3 x7_2 t198 x9_3 x61_27 = some r) ∧ Aside0 (kq ≤ k3) ∧ Aside0 (Kd.N k85 85 wc w.heap.size (fun k_ => (w.heap.size ≤ k_)) (.slice (some ad197) x5_3.length co25) x5_3) ∧ Aside0 (Below w.heap.size w wc))
 case first =>
  have H := HC28.out
  clear HC28
  by_cases c29 : (Go.bits .and .i64 x9_3 x7_2) = x9_3
  case neg =>
   rw [if_neg c29] at H
   have c29b0 : ((Go.bits .and .i64 x9_3 x7_2) == x9_3) = false := beq_eq_false_iff_ne.mpr c29
   have c29b1 : ((Go.bits .and .i64 x9_3 x7_2) != x9_3) = true := bne_iff_ne.mpr c29
   (first | rw [c29b0] | (simp only [i64_w, i32_w]; rw [c29b0]) | skip)
   have H' := Aside0.mk H
   clear H
   go_wp2
   go_meet
   case rel => exact ⟨_, (true), s6q5, H', ⟨by have := HK1.out; have := HK2.out; have := HK3.out; first | omega | exact Nat.le_refl _⟩, ⟨by (try simp only [hl5_3]); (with_reducible repeat (first | apply Kd.N_alloc | apply Kd.N_drewN | apply Kd.N_drew)); exact HO_5.out⟩, ⟨by repeat (first | (with_reducible first | exact HB.out | apply below_alloc | apply pw_below_drewN | apply below_drew1) | exact HB.out)⟩⟩
  rw [if_pos c29] at H
  have c29b0 : ((Go.bits .and .i64 x9_3 x7_2) == x9_3) = true := beq_iff_eq.mpr c29
  have c29b1 : ((Go.bits .and .i64 x9_3 x7_2) != x9_3) = false := bne_eq_false_iff_eq.mpr c29
  clear c29
  (first | rw [c29b0] | (simp only [i64_w, i32_w]; rw [c29b0]) | skip)
  replace H := Option.bind_eq_some_iff.mp H
  obtain ⟨t199, A300, H⟩ := H
  replace H : (peristyleref10_best.j3 k3 l0 l1 x5_3 x7_2 t198 x9_3 ((Go.bits .and .i64 x9_3 t199) == 0)) = some r := H
  have A30 := Aside0.mk A300
  clear A300
  have H' := Aside0.mk H
  clear H
  go_wp2_with (first | (go_at_call 91; (with_reducible refine (peristyleref10_least.calls x7_2 t199 _ A30.out).mono ?_); rintro e w' ⟨rfl, ⟨nd, rfl⟩⟩))
  go_meet
  case rel => exact ⟨_, (((Go.bits .and .i64 x9_3 t199) == 0)), s6q5, H', ⟨by have := HK1.out; have := HK2.out; have := HK3.out; first | omega | exact Nat.le_refl _⟩, ⟨by (try simp only [hl5_3]); (with_reducible repeat (first | apply Kd.N_alloc | apply Kd.N_drewN | apply Kd.N_drew)); exact HO_5.out⟩, ⟨by repeat (first | (with_reducible first | exact HB.out | apply below_alloc | apply pw_below_drewN | apply below_drew1) | exact HB.out)⟩⟩
 clear HC28
 try clear c1
 try clear p1
 try clear q1
 try clear hx1
 try clear c2
 try clear p2
 try clear q2
 try clear c4
 try clear c4b0
 try clear c4b1
 try clear c5
 try clear c5b0
 try clear c5b1
 try clear p6
 try clear c8
 try clear c8b0
 try clear c9
 try clear c9b0
 try clear c9b1
 try clear c11
 try clear c11b0
 try clear c12
 try clear c12b0
 try clear c13
 try clear p13
 try clear q13
 try clear hx13
 try clear hf13
 try clear c17
 try clear hx17
 try clear hf17
 try clear c19
 try clear c19b0
 try clear p19
 try clear q19
 try clear hx19
 try clear c20
 try clear c20b0
 try clear q21
 try clear c22
 try clear c27
 try clear c27b0
 try clear c29
 try clear c29b0
 try clear c29b1
 try clear hx13_0
 try clear hx13_1
 try clear hx13_2
 try clear hx17_0
 try clear hx17_1
 try clear hx17_2
 try clear hx197_0
 try clear hx197_1
 try clear hx197_2
 try clear p1
 try clear p13
 try clear p19
 try clear p197
 try clear p2
 try clear p6
 try clear q1
 try clear q13
 try clear q19
 try clear q197
 try clear q2
 try clear q21
 obtain ⟨kq, x61_27, rfl, HA, HJ27, HO_5, HB⟩ := hcut
 cases kq with
 | zero => exact absurd HA.out (by simp [peristyleref10_best.j3])
 | succ kj27 => ?_
 have H := HA.out
 clear HA
 simp only [peristyleref10_best.j3] at H
 by_cases c31 : x61_27 = true
 · subst c31
   have H1 : (peristyleref10_best.l2 kj27 l0 l1 x5_3 x7_2 t198 (wrap64 (x9_3 + 1))) = some r := by rw [if_pos rfl] at H; exact H
   clear H
   have H := H1
   clear H1
   have H' := Aside0.mk H
   clear H
   go_wp2
   (try simp only [← hl5_3])
   first | go_roundg kj27 | (refine Handed.intro kj27 ?measure ?_; rotate_left; go_step; (repeat apply Exists.intro); simp only [add_plain]; refine ⟨?rel, rfl⟩)
   case measure => have := HK1.out; have := HK2.out; have := HK3.out; have := HJ27.out; omega
   case rel => exact ⟨(x5_3), (wrap64 (x9_3 + 1)), s6q5, H', ⟨by have := HK1.out; have := HK2.out; have := HK3.out; have := HJ27.out; omega⟩, ⟨by (try simp only [hl5_3]); (with_reducible repeat (first | apply Kd.N_alloc | apply Kd.N_drewN | apply Kd.N_drew)); exact HO_5.out⟩, ⟨by repeat (first | (with_reducible first | exact HB.out | apply below_alloc | apply pw_below_drewN | apply below_drew1) | exact HB.out)⟩⟩
 replace c31 := Bool.eq_false_iff.mpr c31
 subst c31
 have H1 : (if 0 ≤ x9_3 then (if x9_3 < (x5_3.length : Int) then (if 0 ≤ (Go.bits .andNot .i64 x7_2 x9_3) then (if (Go.bits .andNot .i64 x7_2 x9_3) < (x5_3.length : Int) then (if 0 ≤ x7_2 then (if x7_2 < (x5_3.length : Int) then (if ((rd_T85 x5_3 x7_2).f2 = true) then (if (mn 1000000000000000 (wrap64 ((wrap64 (((rd_T85 x5_3 x9_3).f0) + ((rd_T85 x5_3 (Go.bits .andNot .i64 x7_2 x9_3)).f0))) + t198))) < ((rd_T85 x5_3 x7_2).f0) then ((slices_Concat_int_int.f kj27 (([(rd_T85 x5_3 x9_3).f1, (rd_T85 x5_3 (Go.bits .andNot .i64 x7_2 x9_3)).f1] : List (List Int)))).bind fun t209 => (if t209.length < 17592186044416 then (peristyleref10_best.l2 kj27 l0 l1 (x5_3.set (x7_2 : Int).toNat (⟨mn 1000000000000000 (wrap64 ((wrap64 (((rd_T85 x5_3 x9_3).f0) + ((rd_T85 x5_3 (Go.bits .andNot .i64 x7_2 x9_3)).f0))) + t198)), (t209 ++ [(-1)]), true⟩ : S85)) x7_2 t198 (wrap64 (x9_3 + 1))) else (none))) else (peristyleref10_best.l2 kj27 l0 l1 x5_3 x7_2 t198 (wrap64 (x9_3 + 1)))) else ((slices_Concat_int_int.f kj27 (([(rd_T85 x5_3 x9_3).f1, (rd_T85 x5_3 (Go.bits .andNot .i64 x7_2 x9_3)).f1] : List (List Int)))).bind fun t219 => (if t219.length < 17592186044416 then (peristyleref10_best.l2 kj27 l0 l1 (x5_3.set (x7_2 : Int).toNat (⟨mn 1000000000000000 (wrap64 ((wrap64 (((rd_T85 x5_3 x9_3).f0) + ((rd_T85 x5_3 (Go.bits .andNot .i64 x7_2 x9_3)).f0))) + t198)), (t219 ++ [(-1)]), true⟩ : S85)) x7_2 t198 (wrap64 (x9_3 + 1))) else (none)))) else (none)) else (none)) else (none)) else (none)) else (none)) else (none)) = some r := s6q56
 clear H
 have H := H1
 clear H1
 by_cases c32 : 0 ≤ x9_3
 case neg =>
  rw [if_neg c32] at H
  exact absurd H (by simp)
 rw [if_pos c32] at H
 have c32b0 : decide (0 ≤ x9_3) = true := decide_eq_true c32
 clear c32
 by_cases c33 : x9_3 < (x5_3.length : Int)
 case neg =>
  rw [if_neg c33] at H
  exact absurd H (by simp)
 rw [if_pos c33] at H
 have c33b0 : decide (x9_3 < (x5_3.length : Int)) = true := decide_eq_true c33
 clear c33
 by_cases c34 : 0 ≤ (Go.bits .andNot .i64 x7_2 x9_3)
 case neg =>
  rw [if_neg c34] at H
  exact absurd H (by simp)
 rw [if_pos c34] at H
 have c34b0 : decide (0 ≤ (Go.bits .andNot .i64 x7_2 x9_3)) = true := decide_eq_true c34
 clear c34
 by_cases c35 : (Go.bits .andNot .i64 x7_2 x9_3) < (x5_3.length : Int)
 case neg =>
  rw [if_neg c35] at H
  exact absurd H (by simp)
 rw [if_pos c35] at H
 have c35b0 : decide ((Go.bits .andNot .i64 x7_2 x9_3) < (x5_3.length : Int)) = true := decide_eq_true c35
 clear c35
 obtain ⟨ji36, hji36⟩ : ∃ j_ : Int, (mn 1000000000000000 (wrap64 ((wrap64 (((rd_T85 x5_3 x9_3).f0) + ((rd_T85 x5_3 (Go.bits .andNot .i64 x7_2 x9_3)).f0))) + t198))) = j_ := ⟨_, rfl⟩
 replace H : (if 0 ≤ x7_2 then (if x7_2 < (x5_3.length : Int) then (if ((rd_T85 x5_3 x7_2).f2 = true) then (if (ji36) < ((rd_T85 x5_3 x7_2).f0) then ((slices_Concat_int_int.f kj27 (([(rd_T85 x5_3 x9_3).f1, (rd_T85 x5_3 (Go.bits .andNot .i64 x7_2 x9_3)).f1] : List (List Int)))).bind fun t209 => (if t209.length < 17592186044416 then (peristyleref10_best.l2 kj27 l0 l1 (x5_3.set (x7_2 : Int).toNat (⟨ji36, (t209 ++ [(-1)]), true⟩ : S85)) x7_2 t198 (wrap64 (x9_3 + 1))) else (none))) else (peristyleref10_best.l2 kj27 l0 l1 x5_3 x7_2 t198 (wrap64 (x9_3 + 1)))) else ((slices_Concat_int_int.f kj27 (([(rd_T85 x5_3 x9_3).f1, (rd_T85 x5_3 (Go.bits .andNot .i64 x7_2 x9_3)).f1] : List (List Int)))).bind fun t219 => (if t219.length < 17592186044416 then (peristyleref10_best.l2 kj27 l0 l1 (x5_3.set (x7_2 : Int).toNat (⟨ji36, (t219 ++ [(-1)]), true⟩ : S85)) x7_2 t198 (wrap64 (x9_3 + 1))) else (none)))) else (none)) else (none)) = some r := by first | (rw [hji36] at H; exact H) | (simp only [hji36] at H ⊢; exact H)
 have hji36_ : (if (wrap64 ((wrap64 (((rd_T85 x5_3 x9_3).f0) + ((rd_T85 x5_3 (Go.bits .andNot .i64 x7_2 x9_3)).f0))) + t198)) < 1000000000000000 then (wrap64 ((wrap64 (((rd_T85 x5_3 x9_3).f0) + ((rd_T85 x5_3 (Go.bits .andNot .i64 x7_2 x9_3)).f0))) + t198)) else 1000000000000000) = ji36 := hji36
 by_cases c37 : 0 ≤ x7_2
 case neg =>
  rw [if_neg c37] at H
  exact absurd H (by simp)
 rw [if_pos c37] at H
 have c37b0 : decide (0 ≤ x7_2) = true := decide_eq_true c37
 clear c37
 by_cases c38 : x7_2 < (x5_3.length : Int)
 case neg =>
  rw [if_neg c38] at H
  exact absurd H (by simp)
 rw [if_pos c38] at H
 have c38b0 : decide (x7_2 < (x5_3.length : Int)) = true := decide_eq_true c38
 clear c38
 obtain ⟨bq39, hbq39⟩ : ∃ b_ : Bool, b_ = ((rd_T85 x5_3 x7_2).f2) := ⟨_, rfl⟩
 replace H : (if (bq39 = true) then (if (ji36) < ((rd_T85 x5_3 x7_2).f0) then ((slices_Concat_int_int.f kj27 (([(rd_T85 x5_3 x9_3).f1, (rd_T85 x5_3 (Go.bits .andNot .i64 x7_2 x9_3)).f1] : List (List Int)))).bind fun t209 => (if t209.length < 17592186044416 then (peristyleref10_best.l2 kj27 l0 l1 (x5_3.set (x7_2 : Int).toNat (⟨ji36, (t209 ++ [(-1)]), true⟩ : S85)) x7_2 t198 (wrap64 (x9_3 + 1))) else (none))) else (peristyleref10_best.l2 kj27 l0 l1 x5_3 x7_2 t198 (wrap64 (x9_3 + 1)))) else ((slices_Concat_int_int.f kj27 (([(rd_T85 x5_3 x9_3).f1, (rd_T85 x5_3 (Go.bits .andNot .i64 x7_2 x9_3)).f1] : List (List Int)))).bind fun t219 => (if t219.length < 17592186044416 then (peristyleref10_best.l2 kj27 l0 l1 (x5_3.set (x7_2 : Int).toNat (⟨ji36, (t219 ++ [(-1)]), true⟩ : S85)) x7_2 t198 (wrap64 (x9_3 + 1))) else (none)))) = some r := by rw [← hbq39] at H; exact H
 have Nbq39 := Aside0.mk hbq39
 clear hbq39
 by_cases c40 : (bq39 = true)
 case neg =>
  replace c40 := Bool.eq_false_iff.mpr c40
  subst c40
  have H1 : ((slices_Concat_int_int.f kj27 (([(rd_T85 x5_3 x9_3).f1, (rd_T85 x5_3 (Go.bits .andNot .i64 x7_2 x9_3)).f1] : List (List Int)))).bind fun t219 => (if t219.length < 17592186044416 then (peristyleref10_best.l2 kj27 l0 l1 (x5_3.set (x7_2 : Int).toNat (⟨ji36, (t219 ++ [(-1)]), true⟩ : S85)) x7_2 t198 (wrap64 (x9_3 + 1))) else (none))) = some r := s6q56
  clear H
  have H := H1
  clear H1
  obtain ⟨y216, hy216⟩ : ∃ y_ : List (List Int), y_ = (([(rd_T85 x5_3 x9_3).f1, (rd_T85 x5_3 (Go.bits .andNot .i64 x7_2 x9_3)).f1] : List (List Int))) := ⟨_, rfl⟩
  replace H : ((slices_Concat_int_int.f kj27 y216).bind fun t219 => (if t219.length < 17592186044416 then (peristyleref10_best.l2 kj27 l0 l1 (x5_3.set (x7_2 : Int).toNat (⟨ji36, (t219 ++ [(-1)]), true⟩ : S85)) x7_2 t198 (wrap64 (x9_3 + 1))) else (none))) = some r := sqz hy216 H
  have Ny216 := Aside0.mk hy216
  clear hy216
  replace H := Option.bind_eq_some_iff.mp H
  obtain ⟨t219, A810, H⟩ := H
  replace H : (if t219.length < 17592186044416 then (peristyleref10_best.l2 kj27 l0 l1 (x5_3.set (x7_2 : Int).toNat (⟨ji36, (t219 ++ [(-1)]), true⟩ : S85)) x7_2 t198 (wrap64 (x9_3 + 1))) else (none)) = some r := H
  have A81 := Aside0.mk A810
  clear A810
  by_cases c82 : t219.length < 17592186044416
  case neg =>
   rw [if_neg c82] at H
   exact absurd H (by simp)
  rw [if_pos c82] at H
  have LMc82 := Aside0.mk c82
  clear c82
  obtain ⟨y222, hy222⟩ : ∃ y_ : List Int, y_ = (t219 ++ [(-1)]) := ⟨_, rfl⟩
  replace H : (peristyleref10_best.l2 kj27 l0 l1 (x5_3.set (x7_2 : Int).toNat (⟨ji36, y222, true⟩ : S85)) x7_2 t198 (wrap64 (x9_3 + 1))) = some r := sqz hy222 H
  have Ny222 := Aside0.mk hy222
  clear hy222
  obtain ⟨y225, hy225⟩ : ∃ y_ : List (S85), y_ = (x5_3.set (x7_2 : Int).toNat (⟨ji36, y222, true⟩ : S85)) := ⟨_, rfl⟩
  replace H : (peristyleref10_best.l2 kj27 l0 l1 y225 x7_2 t198 (wrap64 (x9_3 + 1))) = some r := sqz hy225 H
  have Ny225 := Aside0.mk hy225
  clear hy225
  have H' := Aside0.mk H
  clear H
  try go_wp2
  have n0_ := Aside0.mk (Kd.N_drew HO_5.out)
  have n1_ := Aside0.mk (below_drew1 HB.out)
  clear HO_5
  clear HB
  have HO_5 := n0_
  have HB := n1_
  clear n0_ n1_
  have p200 : 0 ≤ (x9_3 : Int) := of_decide_eq_true s6q6
  have q200 : x9_3 < (x5_3.length : Int) := of_decide_eq_true s6q6
  obtain ⟨ad200, A200_1, c200_1, e200, hx200_0, hx200_1, hx200_2, hl200_1, hi200_1⟩ := at_T85 (Kd.N_reads' HO_5.out).2.2 x9_3 p200 q200
  (try rw [← Nbq21.out] at hx200_2)
  (try rw [← Nbq39.out] at hx200_2)
  obtain rfl : ad197 = ad200 := (by injection e200)
  obtain ⟨ce200, hce200, hMe200, hcc200⟩ := Kd.N_get HO_5.out z85 x9_3 p200 s6q43
  obtain ⟨ua200_1, uc200_1, rfl, ul200_1, ge200_1⟩ := k85_openF hMe200
  have hv200_1 := hcc200 1 _ rfl
  rw [add_field _ _ 1 s6q0] at hv200_1
  replace hv200_1 := Option.some.inj (hv200_1.symm.trans hx200_1)
  injection hv200_1 with hva_ hvn_ hvc_
  rw [hva_] at ge200_1
  rw [hvc_] at ul200_1
  have HL200_1 := Aside0.mk (show Kd.V (Kd.int .i64) 3 _ w.heap.size _ _ ((rd_T85 x5_3 x9_3).f1) from Kd.V_mk ul200_1 ge200_1)
  clear hva_ hvn_ hvc_ ge200_1 ul200_1
  clear hcc200 hce200
  have HR200_1 := Aside0.mk hi200_1
  have HC200_1 := Aside0.mk hl200_1
  clear hi200_1 hl200_1
  replace p200 := eq_true p200
  replace q200 := eq_true q200
  have p201 : 0 ≤ ((Go.bits .andNot .i64 x7_2 x9_3) : Int) := of_decide_eq_true s6q6
  have q201 : (Go.bits .andNot .i64 x7_2 x9_3) < (x5_3.length : Int) := of_decide_eq_true s6q6
  obtain ⟨ad201, A201_1, c201_1, e201, hx201_0, hx201_1, hx201_2, hl201_1, hi201_1⟩ := at_T85 (Kd.N_reads' HO_5.out).2.2 (Go.bits .andNot .i64 x7_2 x9_3) p201 q201
  (try rw [← Nbq21.out] at hx201_2)
  (try rw [← Nbq39.out] at hx201_2)
  obtain rfl : ad197 = ad201 := (by injection e201)
  obtain ⟨ce201, hce201, hMe201, hcc201⟩ := Kd.N_get HO_5.out z85 (Go.bits .andNot .i64 x7_2 x9_3) p201 s6q44
  obtain ⟨ua201_1, uc201_1, rfl, ul201_1, ge201_1⟩ := k85_openF hMe201
  have hv201_1 := hcc201 1 _ rfl
  rw [add_field _ _ 1 s6q0] at hv201_1
  replace hv201_1 := Option.some.inj (hv201_1.symm.trans hx201_1)
  injection hv201_1 with hva_ hvn_ hvc_
  rw [hva_] at ge201_1
  rw [hvc_] at ul201_1
  have HL201_1 := Aside0.mk (show Kd.V (Kd.int .i64) 3 _ w.heap.size _ _ ((rd_T85 x5_3 (Go.bits .andNot .i64 x7_2 x9_3)).f1) from Kd.V_mk ul201_1 ge201_1)
  clear hva_ hvn_ hvc_ ge201_1 ul201_1
  clear hcc201 hce201
  have HR201_1 := Aside0.mk hi201_1
  have HC201_1 := Aside0.mk hl201_1
  clear hi201_1 hl201_1
  replace p201 := eq_true p201
  replace q201 := eq_true q201
  refine start_ (n := 14) (S := fun w' => w'.cell? (ad197.add ((x9_3).toNat * 3)) = some (.int .i64 ((rd_T85 x5_3 x9_3).f0)) ∧ w'.cell? ⟨(ad197.add ((x9_3).toNat * 3)).block, (ad197.add ((x9_3).toNat * 3)).off + 1, none⟩ = some (.slice A200_1 ((rd_T85 x5_3 x9_3).f1).length c200_1) ∧ w'.cell? ⟨(ad197.add ((x9_3).toNat * 3)).block, (ad197.add ((x9_3).toNat * 3)).off + 2, none⟩ = some (.bool ((rd_T85 x5_3 x9_3).f2)) ∧ w'.cell? (ad197.add (((Go.bits .andNot .i64 x7_2 x9_3)).toNat * 3)) = some (.int .i64 ((rd_T85 x5_3 (Go.bits .andNot .i64 x7_2 x9_3)).f0)) ∧ w'.cell? ⟨(ad197.add (((Go.bits .andNot .i64 x7_2 x9_3)).toNat * 3)).block, (ad197.add (((Go.bits .andNot .i64 x7_2 x9_3)).toNat * 3)).off + 1, none⟩ = some (.slice A201_1 ((rd_T85 x5_3 (Go.bits .andNot .i64 x7_2 x9_3)).f1).length c201_1) ∧ w'.cell? ⟨(ad197.add (((Go.bits .andNot .i64 x7_2 x9_3)).toNat * 3)).block, (ad197.add (((Go.bits .andNot .i64 x7_2 x9_3)).toNat * 3)).off + 2, none⟩ = some (.bool ((rd_T85 x5_3 (Go.bits .andNot .i64 x7_2 x9_3)).f2))) (ds := []) #[false, false, false, false, false, false, false, false, false, false, false, false, false, false] s6q2 rfl rfl ⟨hx200_0, hx200_1, hx200_2, hx201_0, hx201_1, hx201_2⟩ (fun hHeld => ?_); refine with_tabW peristyleref10_best.tab16 peristyleref10_best.bits16 (fun HT_ HW_ => ?_)
  generalize wc.drew = w84 at HO_5 HB HL200_1 HL201_1 HR200_1 HR201_1 hx200_0 hx200_1 hx200_2 hx201_0 hx201_1 hx201_2 hHeld ⊢
  refine pure_ (i := 0) (N := some 62) (v := ?_) (a' := ?_) #[true, false, false, false, false, false, false, false, false, false, false, false, false, false] rfl rfl (any_of HT_.out s6q2) (fun _ _ _ h => h) (Or.inl ⟨by rfl, ?_⟩) ?_ ?_
  rotate_left
  · intro w'
    go_simp
    with_reducible rfl
  rotate_left
  · simp only [Act.put, sqa, sqb, sqc, i64_w, i32_w]
    rfl
  refine pure_ (i := 1) (N := some 63) (v := ?_) (a' := ?_) #[true, true, false, false, false, false, false, false, false, false, false, false, false, false] rfl rfl (any_of HT_.out s6q2) (fun _ _ _ h => h) (Or.inl ⟨by rfl, ?_⟩) ?_ ?_
  rotate_left
  · intro w'
    go_simp
    with_reducible rfl
  rotate_left
  · simp only [Act.put, sqa, sqb, sqc, i64_w, i32_w]
    rfl
  refine pure_ (i := 2) (N := some 64) (v := ?_) (a' := ?_) #[true, true, true, false, false, false, false, false, false, false, false, false, false, false] rfl rfl (any_of HT_.out s6q2) (fun _ _ _ h => h) (Or.inl ⟨by rfl, ?_⟩) ?_ ?_
  rotate_left
  · intro w'
    go_simp
    with_reducible rfl
  rotate_left
  · simp only [Act.put, sqa, sqb, sqc, i64_w, i32_w]
    rfl
  refine pure_ (i := 4) (N := some 66) (v := ?_) (a' := ?_) #[true, true, true, false, true, false, false, false, false, false, false, false, false, false] rfl rfl (any_of HT_.out s6q2) (fun _ _ _ h => h) (Or.inl ⟨by rfl, ?_⟩) ?_ ?_
  rotate_left
  · intro w'
    go_simp
    with_reducible rfl
  rotate_left
  · simp only [Act.put, sqa, sqb, sqc, i64_w, i32_w]
    rfl
  refine pure_ (i := 5) (N := some 67) (v := ?_) (a' := ?_) #[true, true, true, false, true, true, false, false, false, false, false, false, false, false] rfl rfl (any_of HT_.out s6q2) (fun _ _ _ h => h) (Or.inl ⟨by rfl, ?_⟩) ?_ ?_
  rotate_left
  · intro w'
    go_simp
    with_reducible rfl
  rotate_left
  · simp only [Act.put, sqa, sqb, sqc, i64_w, i32_w]
    rfl
  refine pure_ (i := 6) (N := some 68) (v := ?_) (a' := ?_) #[true, true, true, false, true, true, true, false, false, false, false, false, false, false] rfl rfl (any_of HT_.out s6q2) (fun _ _ _ h => h) (Or.inl ⟨by rfl, ?_⟩) ?_ ?_
  rotate_left
  · intro w'
    go_simp
    with_reducible rfl
  rotate_left
  · simp only [Act.put, sqa, sqb, sqc, i64_w, i32_w]
    rfl
  refine pure_ (i := 7) (N := some 69) (v := ?_) (a' := ?_) #[true, true, true, false, true, true, true, true, false, false, false, false, false, false] rfl rfl (any_of HT_.out s6q2) (fun _ _ _ h => h) (Or.inl ⟨by rfl, ?_⟩) ?_ ?_
  rotate_left
  · intro w'
    go_simp
    with_reducible rfl
  rotate_left
  · simp only [Act.put, sqa, sqb, sqc, i64_w, i32_w]
    rfl
  refine pure_ (i := 8) (N := some 70) (v := ?_) (a' := ?_) #[true, true, true, false, true, true, true, true, true, false, false, false, false, false] rfl rfl (any_of HT_.out s6q2) (fun _ _ _ h => h) (Or.inl ⟨by rfl, ?_⟩) ?_ ?_
  rotate_left
  · intro w'
    go_simp
    with_reducible rfl
  rotate_left
  · simp only [Act.put, sqa, sqb, sqc, i64_w, i32_w]
    rfl
  refine take_ (i := 3) (N := some 65) (v := ?_) (a' := ?_) #[true, true, true, true, true, true, true, true, true, false, false, false, false, false] rfl rfl (take_ofW HT_.out HW_.out s6q2) (fun _ _ _ h => h) (Or.inl ⟨by rfl, ?_⟩) hHeld ?_ ?_
  rotate_left
  · rintro w' ⟨s0, s1, s2, s3, s4, s5⟩
    go_simp
    with_reducible rfl
  rotate_left
  · simp only [Act.put, sqa, sqb, sqc, i64_w, i32_w]
    rfl
  refine take_ (i := 9) (N := some 71) (v := ?_) (a' := ?_) #[true, true, true, true, true, true, true, true, true, true, false, false, false, false] rfl rfl (take_ofW HT_.out HW_.out s6q2) (fun _ _ _ h => h) (Or.inl ⟨by rfl, ?_⟩) hHeld ?_ ?_
  rotate_left
  · rintro w' ⟨s0, s1, s2, s3, s4, s5⟩
    go_simp
    with_reducible rfl
  rotate_left
  · simp only [Act.put, sqa, sqb, sqc, i64_w, i32_w]
    rfl
  refine join_ (σ := Nat × Nat) 2 #[true, true, true, true, true, true, true, true, true, true, true, true, false, false] (fun s_ => [(10, .pointer (some ⟨s_.1, 0, none⟩)), (11, .pointer (some ⟨s_.2, 0, none⟩))]) (fun s_ w' => (w'.cell? (ad197.add ((x9_3).toNat * 3)) = some (.int .i64 ((rd_T85 x5_3 x9_3).f0)) ∧ w'.cell? ⟨(ad197.add ((x9_3).toNat * 3)).block, (ad197.add ((x9_3).toNat * 3)).off + 1, none⟩ = some (.slice A200_1 ((rd_T85 x5_3 x9_3).f1).length c200_1) ∧ w'.cell? ⟨(ad197.add ((x9_3).toNat * 3)).block, (ad197.add ((x9_3).toNat * 3)).off + 2, none⟩ = some (.bool ((rd_T85 x5_3 x9_3).f2)) ∧ w'.cell? (ad197.add (((Go.bits .andNot .i64 x7_2 x9_3)).toNat * 3)) = some (.int .i64 ((rd_T85 x5_3 (Go.bits .andNot .i64 x7_2 x9_3)).f0)) ∧ w'.cell? ⟨(ad197.add (((Go.bits .andNot .i64 x7_2 x9_3)).toNat * 3)).block, (ad197.add (((Go.bits .andNot .i64 x7_2 x9_3)).toNat * 3)).off + 1, none⟩ = some (.slice A201_1 ((rd_T85 x5_3 (Go.bits .andNot .i64 x7_2 x9_3)).f1).length c201_1) ∧ w'.cell? ⟨(ad197.add (((Go.bits .andNot .i64 x7_2 x9_3)).toNat * 3)).block, (ad197.add (((Go.bits .andNot .i64 x7_2 x9_3)).toNat * 3)).off + 2, none⟩ = some (.bool ((rd_T85 x5_3 (Go.bits .andNot .i64 x7_2 x9_3)).f2))) ∧ (Kd.V (Kd.int .i64) 3 w' w.heap.size (fun k_ => (w.heap.size ≤ k_) ∧ some k_ ≠ (.slice (some ad197) x5_3.length co25 : Value).ownBlock ∧ k_ ≠ s_.1 ∧ k_ ≠ s_.2) (.slice A200_1 ((rd_T85 x5_3 x9_3).f1).length c200_1) ((rd_T85 x5_3 x9_3).f1)) ∧ (Kd.V (Kd.int .i64) 3 w' w.heap.size (fun k_ => (w.heap.size ≤ k_) ∧ some k_ ≠ (.slice (some ad197) x5_3.length co25 : Value).ownBlock ∧ k_ ≠ s_.1 ∧ k_ ≠ s_.2) (.slice A201_1 ((rd_T85 x5_3 (Go.bits .andNot .i64 x7_2 x9_3)).f1).length c201_1) ((rd_T85 x5_3 (Go.bits .andNot .i64 x7_2 x9_3)).f1)) ∧ (Kd.N k85 85 w' w.heap.size (fun k_ => (w.heap.size ≤ k_) ∧ k_ ≠ s_.1 ∧ k_ ≠ s_.2) (.slice (some ad197) x5_3.length co25) x5_3) ∧ (w'.heap[s_.1]? = some (.cells #[.int .i64 0, .slice none 0 0, .bool false] 85 (0, 0))) ∧ (w'.heap[s_.2]? = some (.cells #[.int .i64 0, .slice none 0 0, .bool false] 85 (0, 0))) ∧ (w.heap.size ≤ s_.1) ∧ (w.heap.size ≤ s_.1) ∧ (s_.2 ≠ s_.1) ∧ (s_.1 ≠ s_.2) ∧ (w.heap.size ≤ s_.2) ∧ (w.heap.size ≤ s_.2) ∧ (Below w.heap.size w w')) ?_ ?_
  rotate_left
  · intro hCont
    refine two_ (i := 10) (j := 11) (Ni := some 10) (Nj := some 11) #[true, true, true, true, true, true, true, true, true, true, true, false, false, false] #[true, true, true, true, true, true, true, true, true, true, false, true, false, false] rfl rfl rfl rfl (two_of HT_.out s6q2) s6q1 s6q1 (fun K hK => ?_) (fun K hK => ?_)
    · skip
      refine box_step ?hg (N := 10) ?hd (cs := #[.int .i64 0, .slice none 0 0, .bool false]) (t := 85) ?hr ?_; (case hd => rfl); (case hg => rfl); (case hr => first | (go_simp; done) | (go_simp; rfl))
      intro gb202 hg w85 hbox hb
      have HS0_ := pw_cell_below hb hHeld.1
      have HS1_ := pw_cell_below hb hHeld.2.1
      have HS2_ := pw_cell_below hb hHeld.2.2.1
      have HS3_ := pw_cell_below hb hHeld.2.2.2.1
      have HS4_ := pw_cell_below hb hHeld.2.2.2.2.1
      have HS5_ := pw_cell_below hb hHeld.2.2.2.2.2
      have n0_ := Aside0.mk (Kd.N_below (Kd.N_elderB s6q7 gb202 (Nat.le_of_eq hg.symm)) hb)
      have n1_ := Aside0.mk (Kd.V_below (Kd.V_elderB s6q10 gb202 (Nat.le_of_eq hg.symm)) hb)
      have n2_ := Aside0.mk (Kd.V_below (Kd.V_elderB s6q11 gb202 (Nat.le_of_eq hg.symm)) hb)
      have n3_ := Aside0.mk (Kd.C_below s6q28 hb)
      have n4_ := Aside0.mk (Kd.C_below s6q29 hb)
      have n5_ := Aside0.mk (below_step s6q16 hb)
      have n6_ := Aside0.mk (hbox)
      have n7_ := Aside0.mk ((s6q49 : w.heap.size ≤ gb202))
      have n8_ := Aside0.mk ((s6q49 : w.heap.size ≤ gb202))
      clear HO_5
      clear HL200_1
      clear HL201_1
      clear HR200_1
      clear HR201_1
      clear HB
      have HO_5 := n0_
      have HL200_1 := n1_
      have HL201_1 := n2_
      have HR200_1 := n3_
      have HR201_1 := n4_
      have HB := n5_
      have BK202 := n6_
      have GW202 := n7_
      have GE202 := n8_
      clear n0_ n1_ n2_ n3_ n4_ n5_ n6_ n7_ n8_
      clear hb hbox hg
      refine hK.out _ _ ⟨HS0_, HS1_, HS2_, HS3_, HS4_, HS5_⟩ (fun hHeld => ?_)
      clear hK K
      refine norm_ (a' := ?_) ?_ ?_
      rotate_left
      · show Act.put _ (some 10) _ = _
        simp only [Act.put, sqa, sqb, sqc, i64_w, i32_w]
        rfl
      refine one_ (i := 11) (N := some 11) #[true, true, true, true, true, true, true, true, true, true, true, true, false, false] rfl rfl (one_of HT_.out s6q2) s6q1 (fun K hK => ?_)
      refine box_step ?hg (N := 11) ?hd (cs := #[.int .i64 0, .slice none 0 0, .bool false]) (t := 85) ?hr ?_; (case hd => rfl); (case hg => rfl); (case hr => first | (go_simp; done) | (go_simp; rfl))
      intro gb203 hg w86 hbox hb
      have HS0_ := pw_cell_below hb hHeld.1
      have HS1_ := pw_cell_below hb hHeld.2.1
      have HS2_ := pw_cell_below hb hHeld.2.2.1
      have HS3_ := pw_cell_below hb hHeld.2.2.2.1
      have HS4_ := pw_cell_below hb hHeld.2.2.2.2.1
      have HS5_ := pw_cell_below hb hHeld.2.2.2.2.2
      have n0_ := Aside0.mk (Kd.N_below (Kd.N_elderB s6q7 gb203 (Nat.le_of_eq hg.symm)) hb)
      have n1_ := Aside0.mk (Kd.V_below (Kd.V_elderB s6q10 gb203 (Nat.le_of_eq hg.symm)) hb)
      have n2_ := Aside0.mk (Kd.V_below (Kd.V_elderB s6q11 gb203 (Nat.le_of_eq hg.symm)) hb)
      have n3_ := Aside0.mk (Kd.C_below s6q28 hb)
      have n4_ := Aside0.mk (Kd.C_below s6q29 hb)
      have n5_ := Aside0.mk (blk_below (g := gb202) (o := .cells #[.int .i64 0, .slice none 0 0, .bool false] 85 (0, 0)) s6q14 hb)
      have n6_ := Aside0.mk (below_step s6q20 hb)
      have n7_ := Aside0.mk (hbox)
      have n8_ := Aside0.mk ((s6q50 : w.heap.size ≤ gb203))
      have n9_ := Aside0.mk ((s6q50 : w.heap.size ≤ gb203))
      have n10_ := Aside0.mk ((s6q54 : gb202 ≠ gb203))
      have n11_ := Aside0.mk ((s6q52 : gb203 ≠ gb202))
      clear HO_5
      clear HL200_1
      clear HL201_1
      clear HR200_1
      clear HR201_1
      clear BK202
      clear HB
      have HO_5 := n0_
      have HL200_1 := n1_
      have HL201_1 := n2_
      have HR200_1 := n3_
      have HR201_1 := n4_
      have BK202 := n5_
      have HB := n6_
      have BK203 := n7_
      have GW203 := n8_
      have GE203 := n9_
      have NB202_203 := n10_
      have NB203_202 := n11_
      clear n0_ n1_ n2_ n3_ n4_ n5_ n6_ n7_ n8_ n9_ n10_ n11_
      clear hb hbox hg
      refine hK.out _ _ ⟨HS0_, HS1_, HS2_, HS3_, HS4_, HS5_⟩ (fun hHeld => ?_)
      clear hK K
      refine norm_ (a' := ?_) ?_ ?_
      rotate_left
      · show Act.put _ (some 11) _ = _
        simp only [Act.put, sqa, sqb, sqc, i64_w, i32_w]
        rfl
      exact norm_ s6q4 (hCont (gb202, gb203) _ ⟨hHeld, s6q22, s6q24, s6q18, s6q14, s6q15, GW202.out, GE202.out, NB203_202.out, NB202_203.out, GW203.out, GE203.out, s6q32⟩)
    skip
    refine box_step ?hg (N := 11) ?hd (cs := #[.int .i64 0, .slice none 0 0, .bool false]) (t := 85) ?hr ?_; (case hd => rfl); (case hg => rfl); (case hr => first | (go_simp; done) | (go_simp; rfl))
    intro gb203 hg w85 hbox hb
    have HS0_ := pw_cell_below hb hHeld.1
    have HS1_ := pw_cell_below hb hHeld.2.1
    have HS2_ := pw_cell_below hb hHeld.2.2.1
    have HS3_ := pw_cell_below hb hHeld.2.2.2.1
    have HS4_ := pw_cell_below hb hHeld.2.2.2.2.1
    have HS5_ := pw_cell_below hb hHeld.2.2.2.2.2
    have n0_ := Aside0.mk (Kd.N_below (Kd.N_elderB s6q7 gb203 (Nat.le_of_eq hg.symm)) hb)
    have n1_ := Aside0.mk (Kd.V_below (Kd.V_elderB s6q10 gb203 (Nat.le_of_eq hg.symm)) hb)
    have n2_ := Aside0.mk (Kd.V_below (Kd.V_elderB s6q11 gb203 (Nat.le_of_eq hg.symm)) hb)
    have n3_ := Aside0.mk (Kd.C_below s6q28 hb)
    have n4_ := Aside0.mk (Kd.C_below s6q29 hb)
    have n5_ := Aside0.mk (below_step s6q16 hb)
    have n6_ := Aside0.mk (hbox)
    have n7_ := Aside0.mk ((s6q49 : w.heap.size ≤ gb203))
    have n8_ := Aside0.mk ((s6q49 : w.heap.size ≤ gb203))
    clear HO_5
    clear HL200_1
    clear HL201_1
    clear HR200_1
    clear HR201_1
    clear HB
    have HO_5 := n0_
    have HL200_1 := n1_
    have HL201_1 := n2_
    have HR200_1 := n3_
    have HR201_1 := n4_
    have HB := n5_
    have BK203 := n6_
    have GW203 := n7_
    have GE203 := n8_
    clear n0_ n1_ n2_ n3_ n4_ n5_ n6_ n7_ n8_
    clear hb hbox hg
    refine hK.out _ _ ⟨HS0_, HS1_, HS2_, HS3_, HS4_, HS5_⟩ (fun hHeld => ?_)
    clear hK K
    refine norm_ (a' := ?_) ?_ ?_
    rotate_left
    · show Act.put _ (some 11) _ = _
      simp only [Act.put, sqa, sqb, sqc, i64_w, i32_w]
      rfl
    refine one_ (i := 10) (N := some 10) #[true, true, true, true, true, true, true, true, true, true, true, true, false, false] rfl rfl (one_of HT_.out s6q2) s6q1 (fun K hK => ?_)
    refine box_step ?hg (N := 10) ?hd (cs := #[.int .i64 0, .slice none 0 0, .bool false]) (t := 85) ?hr ?_; (case hd => rfl); (case hg => rfl); (case hr => first | (go_simp; done) | (go_simp; rfl))
    intro gb202 hg w86 hbox hb
    have HS0_ := pw_cell_below hb hHeld.1
    have HS1_ := pw_cell_below hb hHeld.2.1
    have HS2_ := pw_cell_below hb hHeld.2.2.1
    have HS3_ := pw_cell_below hb hHeld.2.2.2.1
    have HS4_ := pw_cell_below hb hHeld.2.2.2.2.1
    have HS5_ := pw_cell_below hb hHeld.2.2.2.2.2
    have n0_ := Aside0.mk (Kd.N_below (Kd.N_elderB s6q7 gb202 (Nat.le_of_eq hg.symm)) hb)
    have n1_ := Aside0.mk (Kd.V_below (Kd.V_elderB s6q10 gb202 (Nat.le_of_eq hg.symm)) hb)
    have n2_ := Aside0.mk (Kd.V_below (Kd.V_elderB s6q11 gb202 (Nat.le_of_eq hg.symm)) hb)
    have n3_ := Aside0.mk (Kd.C_below s6q28 hb)
    have n4_ := Aside0.mk (Kd.C_below s6q29 hb)
    have n5_ := Aside0.mk (blk_below (g := gb203) (o := .cells #[.int .i64 0, .slice none 0 0, .bool false] 85 (0, 0)) s6q15 hb)
    have n6_ := Aside0.mk (below_step s6q21 hb)
    have n7_ := Aside0.mk (hbox)
    have n8_ := Aside0.mk ((s6q51 : w.heap.size ≤ gb202))
    have n9_ := Aside0.mk ((s6q51 : w.heap.size ≤ gb202))
    have n10_ := Aside0.mk ((s6q55 : gb203 ≠ gb202))
    have n11_ := Aside0.mk ((s6q53 : gb202 ≠ gb203))
    clear HO_5
    clear HL200_1
    clear HL201_1
    clear HR200_1
    clear HR201_1
    clear BK203
    clear HB
    have HO_5 := n0_
    have HL200_1 := n1_
    have HL201_1 := n2_
    have HR200_1 := n3_
    have HR201_1 := n4_
    have BK203 := n5_
    have HB := n6_
    have BK202 := n7_
    have GW202 := n8_
    have GE202 := n9_
    have NB203_202 := n10_
    have NB202_203 := n11_
    clear n0_ n1_ n2_ n3_ n4_ n5_ n6_ n7_ n8_ n9_ n10_ n11_
    clear hb hbox hg
    refine hK.out _ _ ⟨HS0_, HS1_, HS2_, HS3_, HS4_, HS5_⟩ (fun hHeld => ?_)
    clear hK K
    refine norm_ (a' := ?_) ?_ ?_
    rotate_left
    · show Act.put _ (some 10) _ = _
      simp only [Act.put, sqa, sqb, sqc, i64_w, i32_w]
      rfl
    exact norm_ s6q4 (hCont (gb202, gb203) _ ⟨hHeld, s6q23, s6q25, s6q19, s6q14, s6q15, GW202.out, GE202.out, NB203_202.out, NB202_203.out, GW203.out, GE203.out, s6q33⟩)
  rintro ⟨gb202, gb203⟩ w87 ⟨hS_, h0_, h1_, h2_, h3_, h4_, h5_, h6_, h7_, h8_, h9_, h10_, h11_⟩
  have n0_ : Aside0 (Kd.V (Kd.int .i64) 3 w87 w.heap.size (fun k_ => (w.heap.size ≤ k_) ∧ some k_ ≠ (.slice (some ad197) x5_3.length co25 : Value).ownBlock ∧ k_ ≠ gb202 ∧ k_ ≠ gb203) (.slice A200_1 ((rd_T85 x5_3 x9_3).f1).length c200_1) ((rd_T85 x5_3 x9_3).f1)) := ⟨h0_⟩
  have n1_ : Aside0 (Kd.V (Kd.int .i64) 3 w87 w.heap.size (fun k_ => (w.heap.size ≤ k_) ∧ some k_ ≠ (.slice (some ad197) x5_3.length co25 : Value).ownBlock ∧ k_ ≠ gb202 ∧ k_ ≠ gb203) (.slice A201_1 ((rd_T85 x5_3 (Go.bits .andNot .i64 x7_2 x9_3)).f1).length c201_1) ((rd_T85 x5_3 (Go.bits .andNot .i64 x7_2 x9_3)).f1)) := ⟨h1_⟩
  have n2_ : Aside0 (Kd.N k85 85 w87 w.heap.size (fun k_ => (w.heap.size ≤ k_) ∧ k_ ≠ gb202 ∧ k_ ≠ gb203) (.slice (some ad197) x5_3.length co25) x5_3) := ⟨h2_⟩
  have n3_ : Aside0 (w87.heap[gb202]? = some (.cells #[.int .i64 0, .slice none 0 0, .bool false] 85 (0, 0))) := ⟨h3_⟩
  have n4_ : Aside0 (w87.heap[gb203]? = some (.cells #[.int .i64 0, .slice none 0 0, .bool false] 85 (0, 0))) := ⟨h4_⟩
  have n5_ : Aside0 (w.heap.size ≤ gb202) := ⟨h5_⟩
  have n6_ : Aside0 (w.heap.size ≤ gb202) := ⟨h6_⟩
  have n7_ : Aside0 (gb203 ≠ gb202) := ⟨h7_⟩
  have n8_ : Aside0 (gb202 ≠ gb203) := ⟨h8_⟩
  have n9_ : Aside0 (w.heap.size ≤ gb203) := ⟨h9_⟩
  have n10_ : Aside0 (w.heap.size ≤ gb203) := ⟨h10_⟩
  have n11_ : Aside0 (Below w.heap.size w w87) := ⟨h11_⟩
  clear HO_5
  clear HB
  clear h0_ h1_ h2_ h3_ h4_ h5_ h6_ h7_ h8_ h9_ h10_ h11_
  have HL200_1 := n0_
  have HL201_1 := n1_
  have HO_5 := n2_
  have BK202 := n3_
  have BK203 := n4_
  have GW202 := n5_
  have GE202 := n6_
  have NB203_202 := n7_
  have NB202_203 := n8_
  have GW203 := n9_
  have GE203 := n10_
  have HB := n11_
  clear n0_ n1_ n2_ n3_ n4_ n5_ n6_ n7_ n8_ n9_ n10_ n11_
  have hHeld : w87.cell? (ad197.add ((x9_3).toNat * 3)) = some (.int .i64 ((rd_T85 x5_3 x9_3).f0)) ∧ w87.cell? ⟨(ad197.add ((x9_3).toNat * 3)).block, (ad197.add ((x9_3).toNat * 3)).off + 1, none⟩ = some (.slice A200_1 ((rd_T85 x5_3 x9_3).f1).length c200_1) ∧ w87.cell? ⟨(ad197.add ((x9_3).toNat * 3)).block, (ad197.add ((x9_3).toNat * 3)).off + 2, none⟩ = some (.bool ((rd_T85 x5_3 x9_3).f2)) ∧ w87.cell? (ad197.add (((Go.bits .andNot .i64 x7_2 x9_3)).toNat * 3)) = some (.int .i64 ((rd_T85 x5_3 (Go.bits .andNot .i64 x7_2 x9_3)).f0)) ∧ w87.cell? ⟨(ad197.add (((Go.bits .andNot .i64 x7_2 x9_3)).toNat * 3)).block, (ad197.add (((Go.bits .andNot .i64 x7_2 x9_3)).toNat * 3)).off + 1, none⟩ = some (.slice A201_1 ((rd_T85 x5_3 (Go.bits .andNot .i64 x7_2 x9_3)).f1).length c201_1) ∧ w87.cell? ⟨(ad197.add (((Go.bits .andNot .i64 x7_2 x9_3)).toNat * 3)).block, (ad197.add (((Go.bits .andNot .i64 x7_2 x9_3)).toNat * 3)).off + 2, none⟩ = some (.bool ((rd_T85 x5_3 (Go.bits .andNot .i64 x7_2 x9_3)).f2)) := hS_
  refine norm_ (a' := ?_) ?_ ?_
  rotate_left
  · simp only [putAll, Act.put, sqa, sqb, sqc]
    rfl
  refine one_ (i := 12) (N := none) #[true, true, true, true, true, true, true, true, true, true, true, true, true, false] rfl rfl (one_of HT_.out s6q2) s6q1 (fun K hK => ?_)
  have hs88 : w87.cell? ⟨gb202, 0, none⟩ = some (.int .i64 0) := (blk_cell BK202.out 0).trans rfl
  have hfs88 := blk_frozen BK202.out 0
  have hns88_1 := NB203_202.out
  have hms88_1 := NB202_203.out
  have hs89 : w87.cell? ⟨gb202, 1, none⟩ = some (.slice none 0 0) := (blk_cell BK202.out 1).trans rfl
  have hfs89 := blk_frozen BK202.out 1
  have hns89_1 := NB203_202.out
  have hms89_1 := NB202_203.out
  have hs90 : w87.cell? ⟨gb202, 2, none⟩ = some (.bool false) := (blk_cell BK202.out 2).trans rfl
  have hfs90 := blk_frozen BK202.out 2
  have hns90_1 := NB203_202.out
  have hms90_1 := NB202_203.out
  refine skip_ (w1 := ?_) (by rfl) rfl ?_ ?_
  rotate_left
  · go_simp
    rfl
  refine hK.out _ _ ⟨((cell_far (p := ⟨gb202, _, none⟩) s6q40 _).trans (((cell_far (p := ⟨gb202, _, none⟩) s6q40 _).trans (((cell_far (p := ⟨gb202, _, none⟩) s6q40 _).trans (hHeld.1)))))), ((cell_far (p := ⟨gb202, _, none⟩) s6q40 _).trans (((cell_far (p := ⟨gb202, _, none⟩) s6q40 _).trans (((cell_far (p := ⟨gb202, _, none⟩) s6q40 _).trans (hHeld.2.1)))))), ((cell_far (p := ⟨gb202, _, none⟩) s6q40 _).trans (((cell_far (p := ⟨gb202, _, none⟩) s6q40 _).trans (((cell_far (p := ⟨gb202, _, none⟩) s6q40 _).trans (hHeld.2.2.1)))))), ((cell_far (p := ⟨gb202, _, none⟩) s6q40 _).trans (((cell_far (p := ⟨gb202, _, none⟩) s6q40 _).trans (((cell_far (p := ⟨gb202, _, none⟩) s6q40 _).trans (hHeld.2.2.2.1)))))), ((cell_far (p := ⟨gb202, _, none⟩) s6q40 _).trans (((cell_far (p := ⟨gb202, _, none⟩) s6q40 _).trans (((cell_far (p := ⟨gb202, _, none⟩) s6q40 _).trans (hHeld.2.2.2.2.1)))))), ((cell_far (p := ⟨gb202, _, none⟩) s6q40 _).trans (((cell_far (p := ⟨gb202, _, none⟩) s6q40 _).trans (((cell_far (p := ⟨gb202, _, none⟩) s6q40 _).trans (hHeld.2.2.2.2.2))))))⟩ (fun hHeld => ?_)
  clear hK K
  refine one_ (i := 13) (N := none) #[true, true, true, true, true, true, true, true, true, true, true, true, true, true] rfl rfl (one_of HT_.out s6q2) s6q1 (fun K hK => ?_)
  have hs91 : w87.cell? ⟨gb203, 0, none⟩ = some (.int .i64 0) := (blk_cell BK203.out 0).trans rfl
  have hfs91 := blk_frozen BK203.out 0
  have hns91_0 := NB202_203.out
  have hms91_0 := NB203_202.out
  have hs92 : w87.cell? ⟨gb203, 1, none⟩ = some (.slice none 0 0) := (blk_cell BK203.out 1).trans rfl
  have hfs92 := blk_frozen BK203.out 1
  have hns92_0 := NB202_203.out
  have hms92_0 := NB203_202.out
  have hs93 : w87.cell? ⟨gb203, 2, none⟩ = some (.bool false) := (blk_cell BK203.out 2).trans rfl
  have hfs93 := blk_frozen BK203.out 2
  have hns93_0 := NB202_203.out
  have hms93_0 := NB203_202.out
  refine skip_ (w1 := ?_) (by rfl) rfl ?_ ?_
  rotate_left
  · go_simp
    rfl
  refine hK.out _ _ ⟨((cell_far (p := ⟨gb203, _, none⟩) s6q41 _).trans (((cell_far (p := ⟨gb203, _, none⟩) s6q41 _).trans (((cell_far (p := ⟨gb203, _, none⟩) s6q41 _).trans (hHeld.1)))))), ((cell_far (p := ⟨gb203, _, none⟩) s6q41 _).trans (((cell_far (p := ⟨gb203, _, none⟩) s6q41 _).trans (((cell_far (p := ⟨gb203, _, none⟩) s6q41 _).trans (hHeld.2.1)))))), ((cell_far (p := ⟨gb203, _, none⟩) s6q41 _).trans (((cell_far (p := ⟨gb203, _, none⟩) s6q41 _).trans (((cell_far (p := ⟨gb203, _, none⟩) s6q41 _).trans (hHeld.2.2.1)))))), ((cell_far (p := ⟨gb203, _, none⟩) s6q41 _).trans (((cell_far (p := ⟨gb203, _, none⟩) s6q41 _).trans (((cell_far (p := ⟨gb203, _, none⟩) s6q41 _).trans (hHeld.2.2.2.1)))))), ((cell_far (p := ⟨gb203, _, none⟩) s6q41 _).trans (((cell_far (p := ⟨gb203, _, none⟩) s6q41 _).trans (((cell_far (p := ⟨gb203, _, none⟩) s6q41 _).trans (hHeld.2.2.2.2.1)))))), ((cell_far (p := ⟨gb203, _, none⟩) s6q41 _).trans (((cell_far (p := ⟨gb203, _, none⟩) s6q41 _).trans (((cell_far (p := ⟨gb203, _, none⟩) s6q41 _).trans (hHeld.2.2.2.2.2))))))⟩ (fun hHeld => ?_)
  clear hK K
  refine done_ (done_of HT_.out s6q2) ?_
  have n0_ : Aside0 (Kd.N k85 85 ((((((w87.setCell ⟨gb202, 0, none⟩ (.int .i64 ((rd_T85 x5_3 x9_3).f0))).setCell ⟨gb202, 1, none⟩ (.slice A200_1 ((rd_T85 x5_3 x9_3).f1).length c200_1)).setCell ⟨gb202, 2, none⟩ (.bool ((rd_T85 x5_3 x9_3).f2))).setCell ⟨gb203, 0, none⟩ (.int .i64 ((rd_T85 x5_3 (Go.bits .andNot .i64 x7_2 x9_3)).f0))).setCell ⟨gb203, 1, none⟩ (.slice A201_1 ((rd_T85 x5_3 (Go.bits .andNot .i64 x7_2 x9_3)).f1).length c201_1)).setCell ⟨gb203, 2, none⟩ (.bool ((rd_T85 x5_3 (Go.bits .andNot .i64 x7_2 x9_3)).f2))) w.heap.size (fun k_ => (w.heap.size ≤ k_) ∧ k_ ≠ gb202 ∧ k_ ≠ gb203) (.slice (some ad197) x5_3.length co25) x5_3) := ⟨by (with_reducible repeat (first | apply Kd.N_alloc | apply Kd.N_drewN | apply Kd.N_drew)); exact Kd.N_mono (Kd.N_far (p := ⟨gb203, 2, none⟩) (Kd.N_far (p := ⟨gb203, 1, none⟩) (Kd.N_far (p := ⟨gb203, 0, none⟩) (Kd.N_far (p := ⟨gb202, 2, none⟩) (Kd.N_far (p := ⟨gb202, 1, none⟩) (Kd.N_far (p := ⟨gb202, 0, none⟩) (Kd.N_mono (Kd.N_mono HO_5.out (fun k_ hk => (⟨hk, hk.2.1⟩ : _ ∧ k_ ≠ gb202))) (fun k_ hk => (⟨hk, hk.1.2.2⟩ : _ ∧ k_ ≠ gb203))) (fun _ hk => hk.1.2) (.int .i64 ((rd_T85 x5_3 x9_3).f0))) (fun _ hk => hk.1.2) (.slice A200_1 ((rd_T85 x5_3 x9_3).f1).length c200_1)) (fun _ hk => hk.1.2) (.bool ((rd_T85 x5_3 x9_3).f2))) (fun _ hk => hk.2) (.int .i64 ((rd_T85 x5_3 (Go.bits .andNot .i64 x7_2 x9_3)).f0))) (fun _ hk => hk.2) (.slice A201_1 ((rd_T85 x5_3 (Go.bits .andNot .i64 x7_2 x9_3)).f1).length c201_1)) (fun _ hk => hk.2) (.bool ((rd_T85 x5_3 (Go.bits .andNot .i64 x7_2 x9_3)).f2))) (fun _ hk => ⟨hk.1.1.1, ⟨hk.1.1.2.1, hk.1.1.2.2⟩⟩)⟩
  have n1_ : Aside0 (Kd.V (Kd.int .i64) 3 ((((((w87.setCell ⟨gb202, 0, none⟩ (.int .i64 ((rd_T85 x5_3 x9_3).f0))).setCell ⟨gb202, 1, none⟩ (.slice A200_1 ((rd_T85 x5_3 x9_3).f1).length c200_1)).setCell ⟨gb202, 2, none⟩ (.bool ((rd_T85 x5_3 x9_3).f2))).setCell ⟨gb203, 0, none⟩ (.int .i64 ((rd_T85 x5_3 (Go.bits .andNot .i64 x7_2 x9_3)).f0))).setCell ⟨gb203, 1, none⟩ (.slice A201_1 ((rd_T85 x5_3 (Go.bits .andNot .i64 x7_2 x9_3)).f1).length c201_1)).setCell ⟨gb203, 2, none⟩ (.bool ((rd_T85 x5_3 (Go.bits .andNot .i64 x7_2 x9_3)).f2))) w.heap.size (fun k_ => (w.heap.size ≤ k_) ∧ some k_ ≠ (.slice (some ad197) x5_3.length co25 : Value).ownBlock ∧ k_ ≠ gb202 ∧ k_ ≠ gb203) (.slice A200_1 ((rd_T85 x5_3 x9_3).f1).length c200_1) ((rd_T85 x5_3 x9_3).f1)) := ⟨by (with_reducible repeat (first | apply Kd.V_alloc | apply Kd.V_drewN | apply Kd.V_drew)); exact Kd.V_mono (Kd.V_far (p := ⟨gb203, 2, none⟩) (Kd.V_far (p := ⟨gb203, 1, none⟩) (Kd.V_far (p := ⟨gb203, 0, none⟩) (Kd.V_far (p := ⟨gb202, 2, none⟩) (Kd.V_far (p := ⟨gb202, 1, none⟩) (Kd.V_far (p := ⟨gb202, 0, none⟩) (Kd.V_mono (Kd.V_mono HL200_1.out (fun k_ hk => (⟨hk, hk.2.2.1⟩ : _ ∧ k_ ≠ gb202))) (fun k_ hk => (⟨hk, hk.1.2.2.2⟩ : _ ∧ k_ ≠ gb203))) (fun _ hk => hk.1.2) (.int .i64 ((rd_T85 x5_3 x9_3).f0))) (fun _ hk => hk.1.2) (.slice A200_1 ((rd_T85 x5_3 x9_3).f1).length c200_1)) (fun _ hk => hk.1.2) (.bool ((rd_T85 x5_3 x9_3).f2))) (fun _ hk => hk.2) (.int .i64 ((rd_T85 x5_3 (Go.bits .andNot .i64 x7_2 x9_3)).f0))) (fun _ hk => hk.2) (.slice A201_1 ((rd_T85 x5_3 (Go.bits .andNot .i64 x7_2 x9_3)).f1).length c201_1)) (fun _ hk => hk.2) (.bool ((rd_T85 x5_3 (Go.bits .andNot .i64 x7_2 x9_3)).f2))) (fun _ hk => ⟨hk.1.1.1, ⟨hk.1.1.2.1, ⟨hk.1.1.2.2.1, hk.1.1.2.2.2⟩⟩⟩)⟩
  have n2_ : Aside0 (Kd.V (Kd.int .i64) 3 ((((((w87.setCell ⟨gb202, 0, none⟩ (.int .i64 ((rd_T85 x5_3 x9_3).f0))).setCell ⟨gb202, 1, none⟩ (.slice A200_1 ((rd_T85 x5_3 x9_3).f1).length c200_1)).setCell ⟨gb202, 2, none⟩ (.bool ((rd_T85 x5_3 x9_3).f2))).setCell ⟨gb203, 0, none⟩ (.int .i64 ((rd_T85 x5_3 (Go.bits .andNot .i64 x7_2 x9_3)).f0))).setCell ⟨gb203, 1, none⟩ (.slice A201_1 ((rd_T85 x5_3 (Go.bits .andNot .i64 x7_2 x9_3)).f1).length c201_1)).setCell ⟨gb203, 2, none⟩ (.bool ((rd_T85 x5_3 (Go.bits .andNot .i64 x7_2 x9_3)).f2))) w.heap.size (fun k_ => (w.heap.size ≤ k_) ∧ some k_ ≠ (.slice (some ad197) x5_3.length co25 : Value).ownBlock ∧ k_ ≠ gb202 ∧ k_ ≠ gb203) (.slice A201_1 ((rd_T85 x5_3 (Go.bits .andNot .i64 x7_2 x9_3)).f1).length c201_1) ((rd_T85 x5_3 (Go.bits .andNot .i64 x7_2 x9_3)).f1)) := ⟨by (with_reducible repeat (first | apply Kd.V_alloc | apply Kd.V_drewN | apply Kd.V_drew)); exact Kd.V_mono (Kd.V_far (p := ⟨gb203, 2, none⟩) (Kd.V_far (p := ⟨gb203, 1, none⟩) (Kd.V_far (p := ⟨gb203, 0, none⟩) (Kd.V_far (p := ⟨gb202, 2, none⟩) (Kd.V_far (p := ⟨gb202, 1, none⟩) (Kd.V_far (p := ⟨gb202, 0, none⟩) (Kd.V_mono (Kd.V_mono HL201_1.out (fun k_ hk => (⟨hk, hk.2.2.1⟩ : _ ∧ k_ ≠ gb202))) (fun k_ hk => (⟨hk, hk.1.2.2.2⟩ : _ ∧ k_ ≠ gb203))) (fun _ hk => hk.1.2) (.int .i64 ((rd_T85 x5_3 x9_3).f0))) (fun _ hk => hk.1.2) (.slice A200_1 ((rd_T85 x5_3 x9_3).f1).length c200_1)) (fun _ hk => hk.1.2) (.bool ((rd_T85 x5_3 x9_3).f2))) (fun _ hk => hk.2) (.int .i64 ((rd_T85 x5_3 (Go.bits .andNot .i64 x7_2 x9_3)).f0))) (fun _ hk => hk.2) (.slice A201_1 ((rd_T85 x5_3 (Go.bits .andNot .i64 x7_2 x9_3)).f1).length c201_1)) (fun _ hk => hk.2) (.bool ((rd_T85 x5_3 (Go.bits .andNot .i64 x7_2 x9_3)).f2))) (fun _ hk => ⟨hk.1.1.1, ⟨hk.1.1.2.1, ⟨hk.1.1.2.2.1, hk.1.1.2.2.2⟩⟩⟩)⟩
  have n3_ : Aside0 (((((((w87.setCell ⟨gb202, 0, none⟩ (.int .i64 ((rd_T85 x5_3 x9_3).f0))).setCell ⟨gb202, 1, none⟩ (.slice A200_1 ((rd_T85 x5_3 x9_3).f1).length c200_1)).setCell ⟨gb202, 2, none⟩ (.bool ((rd_T85 x5_3 x9_3).f2))).setCell ⟨gb203, 0, none⟩ (.int .i64 ((rd_T85 x5_3 (Go.bits .andNot .i64 x7_2 x9_3)).f0))).setCell ⟨gb203, 1, none⟩ (.slice A201_1 ((rd_T85 x5_3 (Go.bits .andNot .i64 x7_2 x9_3)).f1).length c201_1)).setCell ⟨gb203, 2, none⟩ (.bool ((rd_T85 x5_3 (Go.bits .andNot .i64 x7_2 x9_3)).f2))).heap[gb202]? = some (.cells #[.int .i64 ((rd_T85 x5_3 x9_3).f0), .slice A200_1 ((rd_T85 x5_3 x9_3).f1).length c200_1, .bool ((rd_T85 x5_3 x9_3).f2)] 85 (0, 0))) := ⟨by (with_reducible repeat (first | refine blk_drewN ?_ _ | refine blk_drew ?_ | refine blk_alloc ?_ _)); refine blk_far ?_ NB202_203.out _; (with_reducible repeat (first | refine blk_drewN ?_ _ | refine blk_drew ?_ | refine blk_alloc ?_ _)); refine blk_far ?_ NB202_203.out _; (with_reducible repeat (first | refine blk_drewN ?_ _ | refine blk_drew ?_ | refine blk_alloc ?_ _)); refine blk_far ?_ NB202_203.out _; (with_reducible repeat (first | refine blk_drewN ?_ _ | refine blk_drew ?_ | refine blk_alloc ?_ _)); refine blk_put (cs := #[.int .i64 ((rd_T85 x5_3 x9_3).f0), .slice A200_1 ((rd_T85 x5_3 x9_3).f1).length c200_1, .bool false]) ?_ 2 _ rfl; (with_reducible repeat (first | refine blk_drewN ?_ _ | refine blk_drew ?_ | refine blk_alloc ?_ _)); refine blk_put (cs := #[.int .i64 ((rd_T85 x5_3 x9_3).f0), .slice none 0 0, .bool false]) ?_ 1 _ rfl; (with_reducible repeat (first | refine blk_drewN ?_ _ | refine blk_drew ?_ | refine blk_alloc ?_ _)); refine blk_put (cs := #[.int .i64 0, .slice none 0 0, .bool false]) ?_ 0 _ rfl; (with_reducible repeat (first | refine blk_drewN ?_ _ | refine blk_drew ?_ | refine blk_alloc ?_ _)); exact BK202.out⟩
  have n4_ : Aside0 (((((((w87.setCell ⟨gb202, 0, none⟩ (.int .i64 ((rd_T85 x5_3 x9_3).f0))).setCell ⟨gb202, 1, none⟩ (.slice A200_1 ((rd_T85 x5_3 x9_3).f1).length c200_1)).setCell ⟨gb202, 2, none⟩ (.bool ((rd_T85 x5_3 x9_3).f2))).setCell ⟨gb203, 0, none⟩ (.int .i64 ((rd_T85 x5_3 (Go.bits .andNot .i64 x7_2 x9_3)).f0))).setCell ⟨gb203, 1, none⟩ (.slice A201_1 ((rd_T85 x5_3 (Go.bits .andNot .i64 x7_2 x9_3)).f1).length c201_1)).setCell ⟨gb203, 2, none⟩ (.bool ((rd_T85 x5_3 (Go.bits .andNot .i64 x7_2 x9_3)).f2))).heap[gb203]? = some (.cells #[.int .i64 ((rd_T85 x5_3 (Go.bits .andNot .i64 x7_2 x9_3)).f0), .slice A201_1 ((rd_T85 x5_3 (Go.bits .andNot .i64 x7_2 x9_3)).f1).length c201_1, .bool ((rd_T85 x5_3 (Go.bits .andNot .i64 x7_2 x9_3)).f2)] 85 (0, 0))) := ⟨by (with_reducible repeat (first | refine blk_drewN ?_ _ | refine blk_drew ?_ | refine blk_alloc ?_ _)); refine blk_put (cs := #[.int .i64 ((rd_T85 x5_3 (Go.bits .andNot .i64 x7_2 x9_3)).f0), .slice A201_1 ((rd_T85 x5_3 (Go.bits .andNot .i64 x7_2 x9_3)).f1).length c201_1, .bool false]) ?_ 2 _ rfl; (with_reducible repeat (first | refine blk_drewN ?_ _ | refine blk_drew ?_ | refine blk_alloc ?_ _)); refine blk_put (cs := #[.int .i64 ((rd_T85 x5_3 (Go.bits .andNot .i64 x7_2 x9_3)).f0), .slice none 0 0, .bool false]) ?_ 1 _ rfl; (with_reducible repeat (first | refine blk_drewN ?_ _ | refine blk_drew ?_ | refine blk_alloc ?_ _)); refine blk_put (cs := #[.int .i64 0, .slice none 0 0, .bool false]) ?_ 0 _ rfl; (with_reducible repeat (first | refine blk_drewN ?_ _ | refine blk_drew ?_ | refine blk_alloc ?_ _)); refine blk_far ?_ NB203_202.out _; (with_reducible repeat (first | refine blk_drewN ?_ _ | refine blk_drew ?_ | refine blk_alloc ?_ _)); refine blk_far ?_ NB203_202.out _; (with_reducible repeat (first | refine blk_drewN ?_ _ | refine blk_drew ?_ | refine blk_alloc ?_ _)); refine blk_far ?_ NB203_202.out _; (with_reducible repeat (first | refine blk_drewN ?_ _ | refine blk_drew ?_ | refine blk_alloc ?_ _)); exact BK203.out⟩
  have n5_ : Aside0 (Below w.heap.size w ((((((w87.setCell ⟨gb202, 0, none⟩ (.int .i64 ((rd_T85 x5_3 x9_3).f0))).setCell ⟨gb202, 1, none⟩ (.slice A200_1 ((rd_T85 x5_3 x9_3).f1).length c200_1)).setCell ⟨gb202, 2, none⟩ (.bool ((rd_T85 x5_3 x9_3).f2))).setCell ⟨gb203, 0, none⟩ (.int .i64 ((rd_T85 x5_3 (Go.bits .andNot .i64 x7_2 x9_3)).f0))).setCell ⟨gb203, 1, none⟩ (.slice A201_1 ((rd_T85 x5_3 (Go.bits .andNot .i64 x7_2 x9_3)).f1).length c201_1)).setCell ⟨gb203, 2, none⟩ (.bool ((rd_T85 x5_3 (Go.bits .andNot .i64 x7_2 x9_3)).f2)))) := ⟨by repeat (first | (with_reducible first | exact HB.out | apply below_alloc | apply pw_below_drewN | apply below_drew1 | refine below_set ?_ GE202.out | refine below_set ?_ GE203.out) | exact HB.out)⟩
  (try clear HO_5)
  (try clear HL200_1)
  (try clear HL201_1)
  (try clear BK202)
  (try clear BK203)
  (try clear HB)
  generalize ((((((w87.setCell ⟨gb202, 0, none⟩ (.int .i64 ((rd_T85 x5_3 x9_3).f0))).setCell ⟨gb202, 1, none⟩ (.slice A200_1 ((rd_T85 x5_3 x9_3).f1).length c200_1)).setCell ⟨gb202, 2, none⟩ (.bool ((rd_T85 x5_3 x9_3).f2))).setCell ⟨gb203, 0, none⟩ (.int .i64 ((rd_T85 x5_3 (Go.bits .andNot .i64 x7_2 x9_3)).f0))).setCell ⟨gb203, 1, none⟩ (.slice A201_1 ((rd_T85 x5_3 (Go.bits .andNot .i64 x7_2 x9_3)).f1).length c201_1)).setCell ⟨gb203, 2, none⟩ (.bool ((rd_T85 x5_3 (Go.bits .andNot .i64 x7_2 x9_3)).f2))) = w94 at n0_ n1_ n2_ n3_ n4_ n5_ ⊢
  have HO_5 := n0_
  have HL200_1 := n1_
  have HL201_1 := n2_
  have BK202 := n3_
  have BK203 := n4_
  have HB := n5_
  clear n0_ n1_ n2_ n3_ n4_ n5_
  have hnb95 := NB202_203.out
  have hnc95 := NB203_202.out
  have hcz96_0 : w94.cell? ⟨gb202, 0, none⟩ = some (.int .i64 ((rd_T85 x5_3 x9_3).f0)) := (blk_cell BK202.out 0).trans rfl
  have hcz96_1 : w94.cell? ⟨gb202, 1, none⟩ = some (.slice A200_1 ((rd_T85 x5_3 x9_3).f1).length c200_1) := (blk_cell BK202.out 1).trans rfl
  have hcz96_2 : w94.cell? ⟨gb202, 2, none⟩ = some (.bool ((rd_T85 x5_3 x9_3).f2)) := (blk_cell BK202.out 2).trans rfl
  have hfz96_0 := blk_frozen BK202.out 0
  have hfz96_1 := blk_frozen BK202.out 1
  have hfz96_2 := blk_frozen BK202.out 2
  have hcz97_0 : w94.cell? ⟨gb203, 0, none⟩ = some (.int .i64 ((rd_T85 x5_3 (Go.bits .andNot .i64 x7_2 x9_3)).f0)) := (blk_cell BK203.out 0).trans rfl
  have hcz97_1 : w94.cell? ⟨gb203, 1, none⟩ = some (.slice A201_1 ((rd_T85 x5_3 (Go.bits .andNot .i64 x7_2 x9_3)).f1).length c201_1) := (blk_cell BK203.out 1).trans rfl
  have hcz97_2 : w94.cell? ⟨gb203, 2, none⟩ = some (.bool ((rd_T85 x5_3 (Go.bits .andNot .i64 x7_2 x9_3)).f2)) := (blk_cell BK203.out 2).trans rfl
  have hfz97_0 := blk_frozen BK203.out 0
  have hfz97_1 := blk_frozen BK203.out 1
  have hfz97_2 := blk_frozen BK203.out 2
  have p204 : 0 ≤ (x7_2 : Int) := of_decide_eq_true s6q6
  have q204 : x7_2 < (x5_3.length : Int) := of_decide_eq_true s6q6
  obtain ⟨ad204, A204_1, c204_1, e204, hx204_0, hx204_1, hx204_2, hl204_1, hi204_1⟩ := at_T85 (Kd.N_reads' HO_5.out).2.2 x7_2 p204 q204
  (try rw [← Nbq21.out] at hx204_2)
  (try rw [← Nbq39.out] at hx204_2)
  obtain rfl : ad197 = ad204 := (by injection e204)
  obtain ⟨ce204, hce204, hMe204, hcc204⟩ := Kd.N_get HO_5.out z85 x7_2 p204 s6q45
  obtain ⟨ua204_1, uc204_1, rfl, ul204_1, ge204_1⟩ := k85_openF hMe204
  have hv204_1 := hcc204 1 _ rfl
  rw [add_field _ _ 1 s6q0] at hv204_1
  replace hv204_1 := Option.some.inj (hv204_1.symm.trans hx204_1)
  injection hv204_1 with hva_ hvn_ hvc_
  rw [hva_] at ge204_1
  rw [hvc_] at ul204_1
  have HL204_1 := Aside0.mk (show Kd.V (Kd.int .i64) 3 _ w.heap.size _ _ ((rd_T85 x5_3 x7_2).f1) from Kd.V_mk ul204_1 ge204_1)
  clear hva_ hvn_ hvc_ ge204_1 ul204_1
  clear hcc204 hce204
  have HR204_1 := Aside0.mk hi204_1
  have HC204_1 := Aside0.mk hl204_1
  clear hi204_1 hl204_1
  replace p204 := eq_true p204
  replace q204 := eq_true q204
  try go_wp2_with (first | ((with_reducible refine gate_dst (N := 102) rfl ?_); refine Kd.N_lit (Kd.slice 3 (Kd.int .i64)) _ 22 ?hg (N' := 102) ?hd (xs := ([(rd_T85 x5_3 x9_3).f1, (rd_T85 x5_3 (Go.bits .andNot .i64 x7_2 x9_3)).f1] : List (List Int))) (inner := [.slice A200_1 ((rd_T85 x5_3 x9_3).f1).length c200_1, .slice A201_1 ((rd_T85 x5_3 (Go.bits .andNot .i64 x7_2 x9_3)).f1).length c201_1]) (ok := (fun k_ => (w.heap.size ≤ k_) ∧ some k_ ≠ (.slice (some ad197) x5_3.length co25 : Value).ownBlock ∧ k_ ≠ gb202 ∧ k_ ≠ gb203)) (okp := (fun k_ => (w.heap.size ≤ k_) ∧ some k_ ≠ (.slice (some ad197) x5_3.length co25 : Value).ownBlock ∧ k_ ≠ gb202 ∧ k_ ≠ gb203)) ?hr ?hp (fun _ hk => hk) ((show ∀ k_, w94.heap.size ≤ k_ → (fun k_ => (w.heap.size ≤ k_) ∧ some k_ ≠ (.slice (some ad197) x5_3.length co25 : Value).ownBlock ∧ k_ ≠ gb202 ∧ k_ ≠ gb203) k_ from fun k_ hk => ⟨(Nat.le_trans (below_size s6q32) hk), Kd.fresh' (Kd.N_lt s6q7) k_ hk, Kd.freshB (g := gb202) (o := .cells #[.int .i64 ((rd_T85 x5_3 x9_3).f0), .slice A200_1 ((rd_T85 x5_3 x9_3).f1).length c200_1, .bool ((rd_T85 x5_3 x9_3).f2)] 85 (0, 0)) s6q14 k_ hk, Kd.freshB (g := gb203) (o := .cells #[.int .i64 ((rd_T85 x5_3 (Go.bits .andNot .i64 x7_2 x9_3)).f0), .slice A201_1 ((rd_T85 x5_3 (Go.bits .andNot .i64 x7_2 x9_3)).f1).length c201_1, .bool ((rd_T85 x5_3 (Go.bits .andNot .i64 x7_2 x9_3)).f2)] 85 (0, 0)) s6q15 k_ hk⟩) _ (Nat.le_refl _)) (Below.refl _ _) (Nat.le_refl _) (by simp) ?_; (case hd => rfl); (case hg => rfl); (case hr => first | (go_simp; done) | (go_simp; rfl)); (case hp => exact (Reps.one (show Kd.FK (Kd.slice 3 (Kd.int .i64)) _ _ ((rd_T85 x5_3 x9_3).f1) [.slice A200_1 ((rd_T85 x5_3 x9_3).f1).length c200_1] from (Kd.FK_slice_mk (Kd.V_reads' (Kd.V_mono (ok' := (fun k_ => (w.heap.size ≤ k_) ∧ some k_ ≠ (.slice (some ad197) x5_3.length co25 : Value).ownBlock ∧ k_ ≠ gb202 ∧ k_ ≠ gb203)) (HL200_1.out) (fun k_ hk => ⟨hk.1, ⟨hk.2.1, ⟨hk.2.2.1, hk.2.2.2⟩⟩⟩))).2.1 (Kd.V_F (Kd.V_mono (ok' := (fun k_ => (w.heap.size ≤ k_) ∧ some k_ ≠ (.slice (some ad197) x5_3.length co25 : Value).ownBlock ∧ k_ ≠ gb202 ∧ k_ ≠ gb203)) (HL200_1.out) (fun k_ hk => ⟨hk.1, ⟨hk.2.1, ⟨hk.2.2.1, hk.2.2.2⟩⟩⟩))))) (Reps.one (show Kd.FK (Kd.slice 3 (Kd.int .i64)) _ _ ((rd_T85 x5_3 (Go.bits .andNot .i64 x7_2 x9_3)).f1) [.slice A201_1 ((rd_T85 x5_3 (Go.bits .andNot .i64 x7_2 x9_3)).f1).length c201_1] from (Kd.FK_slice_mk (Kd.V_reads' (Kd.V_mono (ok' := (fun k_ => (w.heap.size ≤ k_) ∧ some k_ ≠ (.slice (some ad197) x5_3.length co25 : Value).ownBlock ∧ k_ ≠ gb202 ∧ k_ ≠ gb203)) (HL201_1.out) (fun k_ hk => ⟨hk.1, ⟨hk.2.1, ⟨hk.2.2.1, hk.2.2.2⟩⟩⟩))).2.1 (Kd.V_F (Kd.V_mono (ok' := (fun k_ => (w.heap.size ≤ k_) ∧ some k_ ≠ (.slice (some ad197) x5_3.length co25 : Value).ownBlock ∧ k_ ≠ gb202 ∧ k_ ≠ gb203)) (HL201_1.out) (fun k_ hk => ⟨hk.1, ⟨hk.2.1, ⟨hk.2.2.1, hk.2.2.2⟩⟩⟩))))) (Reps.none _ _)))); intro v217 w98 ho99 hb hg_ hnew_; clear hg_ hnew_; (first | rw [← Ny216.out] at ho99 | (simp only [Int.reduceToNat] at ho99; rw [← Ny216.out] at ho99)); have n0_ := Aside0.mk (Kd.N_elder' s6q7 (Kd.N_base ho99) hb); have n1_ := Aside0.mk (Kd.V_elder' s6q10 (Kd.N_base ho99) hb); have n2_ := Aside0.mk (Kd.V_elder' s6q11 (Kd.N_base ho99) hb); have n3_ := Aside0.mk (Kd.V_elder' s6q12 (Kd.N_base ho99) hb); have n4_ := Aside0.mk (Kd.N_lower ho99 (below_size s6q32)); have n5_ := Aside0.mk (blk_below (g := gb202) (o := .cells #[.int .i64 ((rd_T85 x5_3 x9_3).f0), .slice A200_1 ((rd_T85 x5_3 x9_3).f1).length c200_1, .bool ((rd_T85 x5_3 x9_3).f2)] 85 (0, 0)) s6q14 hb); have n6_ := Aside0.mk (blk_below (g := gb203) (o := .cells #[.int .i64 ((rd_T85 x5_3 (Go.bits .andNot .i64 x7_2 x9_3)).f0), .slice A201_1 ((rd_T85 x5_3 (Go.bits .andNot .i64 x7_2 x9_3)).f1).length c201_1, .bool ((rd_T85 x5_3 (Go.bits .andNot .i64 x7_2 x9_3)).f2)] 85 (0, 0)) s6q15 hb); have n7_ := Aside0.mk (Kd.C_below s6q30 hb); have n8_ := Aside0.mk (below_step s6q32 hb); clear HO_5; clear HL200_1; clear HL201_1; clear HL204_1; clear BK202; clear BK203; clear HR204_1; clear HB; have HO_5 := n0_; have HL200_1 := n1_; have HL201_1 := n2_; have HL204_1 := n3_; have HO218 := n4_; have BK202 := n5_; have BK203 := n6_; have HR204_1 := n7_; have HB := n8_; clear n0_ n1_ n2_ n3_ n4_ n5_ n6_ n7_ n8_; clear hb ho99; obtain ⟨Ao100, co100, eo100⟩ := Kd.N_slice HO218.out; subst eo100) | ((with_reducible refine gate_callee (f := 51) rfl ?_); refine goesL_ (some 103) rfl rfl Tryd.func51 s6q2 rfl #[.slice Ao100 y216.length co100] rfl s6q17 ?_; (with_reducible refine (slices_Concat_int_int.calls kj27 _ _ y216 t219 _ ?side1 ?side2 A81.out).mono ?_); (case side1 => repeat (first | exact (Kd.N_reads' HO218.out).2.2 | (with_reducible refine Kd.C_alloc ?_ _) | (with_reducible refine Kd.C_drewN ?_ _) | (with_reducible refine Kd.C_drew ?_))); (case side2 => exact (Kd.N_reads' HO218.out).2.1); rintro e w101 ⟨v220, rfl, ho0, hb⟩; refine ⟨_, rfl, ?_⟩; have n0_ := Aside0.mk (Kd.N_elder' s6q7 (Kd.R_base ho0) hb); have n1_ := Aside0.mk (Kd.V_elder' s6q10 (Kd.R_base ho0) hb); have n2_ := Aside0.mk (Kd.V_elder' s6q11 (Kd.R_base ho0) hb); have n3_ := Aside0.mk (Kd.V_elder' s6q12 (Kd.R_base ho0) hb); have n4_ := Aside0.mk (Kd.N_elder' s6q9 (Kd.R_base ho0) hb); have n5_ := Aside0.mk (Kd.R_lower (Kd.R_newM (M := fun k_ => (w.heap.size ≤ k_)) ho0 (below_size s6q32) (fun k_ h_ => h_)) (below_size s6q32)); have n6_ := Aside0.mk (blk_below (g := gb202) (o := .cells #[.int .i64 ((rd_T85 x5_3 x9_3).f0), .slice A200_1 ((rd_T85 x5_3 x9_3).f1).length c200_1, .bool ((rd_T85 x5_3 x9_3).f2)] 85 (0, 0)) s6q14 hb); have n7_ := Aside0.mk (blk_below (g := gb203) (o := .cells #[.int .i64 ((rd_T85 x5_3 (Go.bits .andNot .i64 x7_2 x9_3)).f0), .slice A201_1 ((rd_T85 x5_3 (Go.bits .andNot .i64 x7_2 x9_3)).f1).length c201_1, .bool ((rd_T85 x5_3 (Go.bits .andNot .i64 x7_2 x9_3)).f2)] 85 (0, 0)) s6q15 hb); have n8_ := Aside0.mk (Kd.C_below s6q30 hb); have n9_ := Aside0.mk (below_step s6q32 hb); clear HO_5; clear HL200_1; clear HL201_1; clear HL204_1; clear HO218; clear BK202; clear BK203; clear HR204_1; clear HB; have HO_5 := n0_; have HL200_1 := n1_; have HL201_1 := n2_; have HL204_1 := n3_; have HO218 := n4_; have HO221 := n5_; have BK202 := n6_; have BK203 := n7_; have HR204_1 := n8_; have HB := n9_; clear n0_ n1_ n2_ n3_ n4_ n5_ n6_ n7_ n8_ n9_; (try clear hb); (try clear hb2); (try clear hk); (try clear hi); (try clear ho0)) | ((with_reducible refine gate_builtin (b := .append) (xs := #[.tmp 103, .tmp 104]) rfl ?_); at_builtin; refine Kd.R_append (Kd.int .i64) (w0 := w) w.heap.size rfl (.tmp 103) (.tmp 104) 22 3 (.int .i64 0) 8 rfl Tryd.underlying22 info3 rfl s6q1 s6q0 v220 t219 (-1) [.int .i64 (-1)] (fun k_ => (w.heap.size ≤ k_)) (fun _ => False) rfl rfl ?aP (fun _ hk => hk.elim) ?aF ?aO ?aB ?aS ?aL ?_; (case aP => exact rfl); (case aB => exact s6q32); (case aF => exact (fun k_ hk => (Nat.le_trans (below_size s6q32) hk))); (case aO => exact (by (with_reducible repeat (first | apply Kd.R_alloc | apply Kd.R_drewN | apply Kd.R_drew)); exact Kd.R_mono HO221.out (fun _ hk => hk.1))); (case aS => exact (below_size s6q32)); (case aL => have := LMc82.out; omega); intro v223 w102 ho hb hg hat; rw [← Ny222.out] at ho; have n0_ := Aside0.mk (Kd.N_afterv (ok := (fun k_ => (w.heap.size ≤ k_) ∧ some k_ ≠ (.slice Ao100 y216.length co100 : Value).ownBlock ∧ k_ ≠ gb202 ∧ k_ ≠ gb203)) s6q27 hg hat); have n1_ := Aside0.mk (Kd.V_afterv (ok := (fun k_ => (w.heap.size ≤ k_) ∧ some k_ ≠ (.slice (some ad197) x5_3.length co25 : Value).ownBlock ∧ some k_ ≠ (.slice Ao100 y216.length co100 : Value).ownBlock ∧ k_ ≠ gb202 ∧ k_ ≠ gb203)) s6q35 hg hat); have n2_ := Aside0.mk (Kd.V_afterv (ok := (fun k_ => (w.heap.size ≤ k_) ∧ some k_ ≠ (.slice (some ad197) x5_3.length co25 : Value).ownBlock ∧ some k_ ≠ (.slice Ao100 y216.length co100 : Value).ownBlock ∧ k_ ≠ gb202 ∧ k_ ≠ gb203)) s6q37 hg hat); have n3_ := Aside0.mk (blk_grown (g := gb202) (o := .cells #[.int .i64 ((rd_T85 x5_3 x9_3).f0), .slice A200_1 ((rd_T85 x5_3 x9_3).f1).length c200_1, .bool ((rd_T85 x5_3 x9_3).f2)] 85 (0, 0)) s6q14 hg (Kd.R_ne HO221.out BK202.out s6q1)); have n4_ := Aside0.mk (blk_grown (g := gb203) (o := .cells #[.int .i64 ((rd_T85 x5_3 (Go.bits .andNot .i64 x7_2 x9_3)).f0), .slice A201_1 ((rd_T85 x5_3 (Go.bits .andNot .i64 x7_2 x9_3)).f1).length c201_1, .bool ((rd_T85 x5_3 (Go.bits .andNot .i64 x7_2 x9_3)).f2)] 85 (0, 0)) s6q15 hg (Kd.R_ne HO221.out BK203.out s6q1)); have n5_ := Aside0.mk (Kd.V_afterv (ok := (fun k_ => (w.heap.size ≤ k_) ∧ some k_ ≠ (.slice (some ad197) x5_3.length co25 : Value).ownBlock ∧ some k_ ≠ (.slice Ao100 y216.length co100 : Value).ownBlock ∧ k_ ≠ gb202 ∧ k_ ≠ gb203)) s6q39 hg hat); have n6_ := Aside0.mk (Kd.N_afterv (ok := (fun k_ => (w.heap.size ≤ k_) ∧ some k_ ≠ (.slice (some ad197) x5_3.length co25 : Value).ownBlock ∧ k_ ≠ gb202 ∧ k_ ≠ gb203)) s6q9 hg hat); have n7_ := Aside0.mk (hb); have n8_ := Aside0.mk (ho); clear HO_5; clear HL200_1; clear HL201_1; clear BK202; clear BK203; clear HL204_1; clear HO218; clear HB; clear HO221; have HO_5 := n0_; have HL200_1 := n1_; have HL201_1 := n2_; have BK202 := n3_; have BK203 := n4_; have HL204_1 := n5_; have HO218 := n6_; have HB := n7_; have HO224 := n8_; clear n0_ n1_ n2_ n3_ n4_ n5_ n6_ n7_ n8_; clear ho hb hg hat; obtain ⟨Ao103, co103, eo103⟩ := Kd.R_slice HO224.out; subst eo103; have p83 : 0 ≤ (x7_2 : Int) := of_decide_eq_true s6q6; have q83 : (x7_2 : Int) < ((x5_3.length : Int) : Int) := of_decide_eq_true s6q6; obtain ⟨go83, co83, eo83, gb83, gl83, cl83, HG83⟩ := Kd.N_form HO_5.out (by first | exact Int.natCast_pos.1 (Int.lt_of_le_of_lt p83 q83) | omega); (first | cases eo83 | (injection eo83 with ea_ en_ ec_; (first | subst ea_ | (injection ea_ with ea_; subst ea_)); subst ec_; clear en_)); have GB83 := Aside0.mk gb83; have GG83 := Aside0.mk HG83; clear gb83 gl83 HG83; (first | simp only [add_plain] at hx200_0 | skip); (first | simp only [add_plain] at hx200_1 | skip); (first | simp only [add_plain] at hx200_2 | skip); (first | simp only [add_plain] at hx201_0 | skip); (first | simp only [add_plain] at hx201_1 | skip); (first | simp only [add_plain] at hx201_2 | skip); (first | simp only [add_plain] at hx204_0 | skip); (first | simp only [add_plain] at hx204_1 | skip); (first | simp only [add_plain] at hx204_2 | skip); (first | simp only [add_plain] at hx205_0 | skip); (first | simp only [add_plain] at hx205_1 | skip); (first | simp only [add_plain] at hx205_2 | skip); obtain ⟨ce83, hcl83, hM83, hcc83, hfr83⟩ := Kd.N_elem HO_5.out z85 (x7_2 : Int) p83 q83; obtain ⟨ua83_1, uc83_1, rfl, ul83_1, ge83_1⟩ := k85_openF hM83; have hx83_0 : w102.cell? ⟨go83, (x7_2 : Int).toNat * 3, none⟩ = some (.int .i64 ((rd_T85 x5_3 x7_2).f0)) := hcc83 0 _ rfl; have hx83_1 : w102.cell? ⟨go83, (x7_2 : Int).toNat * 3 + 1, none⟩ = some (.slice ua83_1 ((rd_T85 x5_3 x7_2).f1).length uc83_1) := hcc83 1 _ rfl; have hx83_2 : w102.cell? ⟨go83, (x7_2 : Int).toNat * 3 + 2, none⟩ = some (.bool ((rd_T85 x5_3 x7_2).f2)) := hcc83 2 _ rfl; have hf83_0 : w102.frozen? ⟨go83, (x7_2 : Int).toNat * 3, none⟩ = false := hfr83 0; have hf83_1 : w102.frozen? ⟨go83, (x7_2 : Int).toNat * 3 + 1, none⟩ = false := hfr83 1; have hf83_2 : w102.frozen? ⟨go83, (x7_2 : Int).toNat * 3 + 2, none⟩ = false := hfr83 2; clear hcl83 hcc83 hfr83 hM83; replace p83 := eq_true p83; replace q83 := eq_true q83; have n_ := Aside0.mk (Kd.N_mono (ok' := (fun k_ => (w.heap.size ≤ k_) ∧ some k_ ≠ (.slice Ao100 y216.length co100 : Value).ownBlock ∧ some k_ ≠ (.slice Ao103 y222.length co103 : Value).ownBlock ∧ k_ ≠ gb202 ∧ k_ ≠ gb203)) HO_5.out (fun k_ hk => ⟨hk.1.1, ⟨hk.1.2.1, ⟨hk.2, ⟨hk.1.2.2.1, hk.1.2.2.2⟩⟩⟩⟩)); clear HO_5; have HO_5 := n_; clear n_; have HX104 := Aside0.mk (show Kd.N k85 85 w102 w.heap.size (fun k_ => (w.heap.size ≤ k_) ∧ some k_ ≠ (.slice Ao100 y216.length co100 : Value).ownBlock ∧ k_ ≠ gb202 ∧ k_ ≠ gb203) (.slice (some ⟨go83, 0, none⟩) x5_3.length co25) x5_3 from s6q26); obtain ⟨ce104, hcl104, hM104, hcc104, hfr104⟩ := Kd.N_elem HX104.out z85 (x7_2 : Int) (of_decide_eq_true s6q6) s6q47; obtain ⟨ua104_1, uc104_1, rfl, ul104_1, ge104_1⟩ := k85_openF hM104; have HP104 := Kd.N_seg HX104.out (x7_2 : Int) (of_decide_eq_true s6q6) s6q47 (seg := [.int .i64 ji36, .slice Ao103 y222.length co103, .bool true]) (j := 0) hcl104 hcc104 (show 3 ≤ 3 from by decide) (x' := (⟨ji36, y222, true⟩ : S85)) (k85_mkF _ _ (⟨ji36, y222, true⟩ : S85) (Kd.R_reads' (Kd.R_mono (ok' := (fun k_ => ((fun k_ => (w.heap.size ≤ k_) ∧ some k_ ≠ (.slice Ao100 y216.length co100 : Value).ownBlock ∧ k_ ≠ gb202 ∧ k_ ≠ gb203)) k_ ∧ k_ ≠ go83)) (Kd.R_types (Kd.R_types (Kd.R_apart' (Kd.R_apart' (HO224.out) (Kd.N_typed HO218.out) s6q1) (Kd.N_typed HO_5.out) s6q1) BK202.out s6q1) BK203.out s6q1) (fun k_ hk => ⟨⟨hk.1.1.1.1, ⟨hk.1.1.1.2, ⟨hk.1.2, hk.2⟩⟩⟩, fun e_ => (hk.1.1.2) s6q3⟩))).2.1 (Kd.R_F (Kd.R_mono (ok' := (fun k_ => ((fun k_ => (w.heap.size ≤ k_) ∧ some k_ ≠ (.slice Ao100 y216.length co100 : Value).ownBlock ∧ k_ ≠ gb202 ∧ k_ ≠ gb203)) k_ ∧ k_ ≠ go83)) (Kd.R_types (Kd.R_types (Kd.R_apart' (Kd.R_apart' (HO224.out) (Kd.N_typed HO218.out) s6q1) (Kd.N_typed HO_5.out) s6q1) BK202.out s6q1) BK203.out s6q1) (fun k_ hk => ⟨⟨hk.1.1.1.1, ⟨hk.1.1.1.2, ⟨hk.1.2, hk.2⟩⟩⟩, fun e_ => (hk.1.1.2) s6q3⟩)))) (fun _ hk => hk); have hx104_0 := hcc104 0 _ rfl; (try simp only [show (k85).sz = 3 from rfl, Nat.mul_one, Nat.add_zero] at hx104_0); have hf104_0 := hfr104 0; (try simp only [show (k85).sz = 3 from rfl, Nat.mul_one, Nat.add_zero] at hf104_0); have hx104_1 := hcc104 1 _ rfl; (try simp only [show (k85).sz = 3 from rfl, Nat.mul_one, Nat.add_zero] at hx104_1); have hf104_1 := hfr104 1; (try simp only [show (k85).sz = 3 from rfl, Nat.mul_one, Nat.add_zero] at hf104_1); have hx104_2 := hcc104 2 _ rfl; (try simp only [show (k85).sz = 3 from rfl, Nat.mul_one, Nat.add_zero] at hx104_2); have hf104_2 := hfr104 2; (try simp only [show (k85).sz = 3 from rfl, Nat.mul_one, Nat.add_zero] at hf104_2); clear hcl104 hcc104 hfr104 hM104) | ((with_reducible refine gate_store (t := 85) (p := 107) rfl ?_); refine store_event (t := 85) (p := 107) (v := ?vo_w105) (w1 := (((w102.setCell ⟨go83, (x7_2 : Int).toNat * 3, none⟩ (.int .i64 ji36)).setCell ⟨go83, (x7_2 : Int).toNat * 3 + 1, none⟩ (.slice Ao103 y222.length co103)).setCell ⟨go83, (x7_2 : Int).toNat * 3 + 2, none⟩ (.bool true))) ?hg ?ho ?hn ?hr ?_; (case ho => rfl); (case hg => rfl); (case hn => rfl); (case hr => first | (go_simp; done) | (go_simp; rfl)); intro w105 hw; have hg : w102.grownBy w105 (some go83) := (by rw [hw]; exact HP104.2); have hp_ : Kd.N k85 85 w105 w.heap.size (fun k_ => (w.heap.size ≤ k_) ∧ some k_ ≠ (.slice Ao100 y216.length co100 : Value).ownBlock ∧ k_ ≠ gb202 ∧ k_ ≠ gb203) (.slice (some ⟨go83, 0, none⟩) x5_3.length co25) y225 := (by rw [hw, Ny225.out]; exact HP104.1); clear HP104; have n0_ := Aside0.mk (hp_); have n1_ := Aside0.mk (Kd.V_afterv (v := (.slice (some ⟨go83, 0, none⟩) x5_3.length co25)) (v1 := (.slice (some ⟨go83, 0, none⟩) x5_3.length co25)) (ok := (fun k_ => (w.heap.size ≤ k_) ∧ some k_ ≠ (.slice Ao100 y216.length co100 : Value).ownBlock ∧ some k_ ≠ (.slice Ao103 y222.length co103 : Value).ownBlock ∧ k_ ≠ gb202 ∧ k_ ≠ gb203)) s6q34 hg (.inl rfl)); have n2_ := Aside0.mk (Kd.V_afterv (v := (.slice (some ⟨go83, 0, none⟩) x5_3.length co25)) (v1 := (.slice (some ⟨go83, 0, none⟩) x5_3.length co25)) (ok := (fun k_ => (w.heap.size ≤ k_) ∧ some k_ ≠ (.slice Ao100 y216.length co100 : Value).ownBlock ∧ some k_ ≠ (.slice Ao103 y222.length co103 : Value).ownBlock ∧ k_ ≠ gb202 ∧ k_ ≠ gb203)) s6q36 hg (.inl rfl)); have n3_ := Aside0.mk (blk_grown (g := gb202) (o := .cells #[.int .i64 ((rd_T85 x5_3 x9_3).f0), .slice A200_1 ((rd_T85 x5_3 x9_3).f1).length c200_1, .bool ((rd_T85 x5_3 x9_3).f2)] 85 (0, 0)) s6q14 hg (Kd.N_away HO_5.out (fun _ hk => hk.2.2.2.1))); have n4_ := Aside0.mk (blk_grown (g := gb203) (o := .cells #[.int .i64 ((rd_T85 x5_3 (Go.bits .andNot .i64 x7_2 x9_3)).f0), .slice A201_1 ((rd_T85 x5_3 (Go.bits .andNot .i64 x7_2 x9_3)).f1).length c201_1, .bool ((rd_T85 x5_3 (Go.bits .andNot .i64 x7_2 x9_3)).f2)] 85 (0, 0)) s6q15 hg (Kd.N_away HO_5.out (fun _ hk => hk.2.2.2.2))); have n5_ := Aside0.mk (Kd.V_afterv (v := (.slice (some ⟨go83, 0, none⟩) x5_3.length co25)) (v1 := (.slice (some ⟨go83, 0, none⟩) x5_3.length co25)) (ok := (fun k_ => (w.heap.size ≤ k_) ∧ some k_ ≠ (.slice Ao100 y216.length co100 : Value).ownBlock ∧ some k_ ≠ (.slice Ao103 y222.length co103 : Value).ownBlock ∧ k_ ≠ gb202 ∧ k_ ≠ gb203)) s6q38 hg (.inl rfl)); have n6_ := Aside0.mk (Kd.N_afterv (v := (.slice (some ⟨go83, 0, none⟩) x5_3.length co25)) (v1 := (.slice (some ⟨go83, 0, none⟩) x5_3.length co25)) (ok := (fun k_ => (w.heap.size ≤ k_) ∧ some k_ ≠ (.slice Ao103 y222.length co103 : Value).ownBlock ∧ k_ ≠ gb202 ∧ k_ ≠ gb203)) (by (with_reducible repeat (first | apply Kd.N_alloc | apply Kd.N_drewN | apply Kd.N_drew)); exact Kd.N_mono HO218.out (fun _ hk => ⟨⟨hk.1.1, ⟨hk.2, ⟨hk.1.2.2.1, hk.1.2.2.2⟩⟩⟩, hk.1.2.1⟩)) hg (.inl rfl)); have n7_ := Aside0.mk ((by rw [hw]; exact below_set (below_set (below_set (HB.out) GB83.out) GB83.out) GB83.out : Below w.heap.size w w105)); clear HO_5; clear HL200_1; clear HL201_1; clear BK202; clear BK203; clear HL204_1; clear HO218; clear HB; clear HO224; have HO_5 := n0_; have HL200_1 := n1_; have HL201_1 := n2_; have BK202 := n3_; have BK203 := n4_; have HL204_1 := n5_; have HO218 := n6_; have HB := n7_; clear n0_ n1_ n2_ n3_ n4_ n5_ n6_ n7_; clear hg hw hp_))
  (try simp only [← hl5_3])
  first | go_roundg kj27 | (refine Handed.intro kj27 ?measure ?_; rotate_left; go_step; (repeat apply Exists.intro); simp only [add_plain]; refine ⟨?rel, rfl⟩)
  case measure => have := HK1.out; have := HK2.out; have := HK3.out; have := HJ27.out; omega
  case rel => exact ⟨(y225), (wrap64 (x9_3 + 1)), s6q5, H', ⟨by have := HK1.out; have := HK2.out; have := HK3.out; have := HJ27.out; omega⟩, ⟨by (try simp only [hl5_3]); (with_reducible repeat (first | apply Kd.N_alloc | apply Kd.N_drewN | apply Kd.N_drew)); exact Kd.N_mono HO_5.out (fun _ hk => hk.1)⟩, ⟨by repeat (first | (with_reducible first | exact HB.out | apply below_alloc | apply pw_below_drewN | apply below_drew1 | refine below_set ?_ GE202.out | refine below_set ?_ GE203.out) | exact HB.out)⟩⟩
 subst c40
 have H1 : (if (ji36) < ((rd_T85 x5_3 x7_2).f0) then ((slices_Concat_int_int.f kj27 (([(rd_T85 x5_3 x9_3).f1, (rd_T85 x5_3 (Go.bits .andNot .i64 x7_2 x9_3)).f1] : List (List Int)))).bind fun t209 => (if t209.length < 17592186044416 then (peristyleref10_best.l2 kj27 l0 l1 (x5_3.set (x7_2 : Int).toNat (⟨ji36, (t209 ++ [(-1)]), true⟩ : S85)) x7_2 t198 (wrap64 (x9_3 + 1))) else (none))) else (peristyleref10_best.l2 kj27 l0 l1 x5_3 x7_2 t198 (wrap64 (x9_3 + 1)))) = some r := by rw [if_pos rfl] at H; exact H
 clear H
 have H := H1
 clear H1
 by_cases c41 : (ji36) < ((rd_T85 x5_3 x7_2).f0)
 case neg =>
  rw [if_neg c41] at H
  have c41b0 : decide ((ji36) < ((rd_T85 x5_3 x7_2).f0)) = false := decide_eq_false c41
  clear c41
  have H' := Aside0.mk H
  clear H
  try go_wp2
  have n0_ := Aside0.mk (Kd.N_drew HO_5.out)
  have n1_ := Aside0.mk (below_drew1 HB.out)
  clear HO_5
  clear HB
  have HO_5 := n0_
  have HB := n1_
  clear n0_ n1_
  have p200 : 0 ≤ (x9_3 : Int) := of_decide_eq_true s6q6
  have q200 : x9_3 < (x5_3.length : Int) := of_decide_eq_true s6q6
  obtain ⟨ad200, A200_1, c200_1, e200, hx200_0, hx200_1, hx200_2, hl200_1, hi200_1⟩ := at_T85 (Kd.N_reads' HO_5.out).2.2 x9_3 p200 q200
  (try rw [← Nbq21.out] at hx200_2)
  (try rw [← Nbq39.out] at hx200_2)
  obtain rfl : ad197 = ad200 := (by injection e200)
  obtain ⟨ce200, hce200, hMe200, hcc200⟩ := Kd.N_get HO_5.out z85 x9_3 p200 s6q43
  obtain ⟨ua200_1, uc200_1, rfl, ul200_1, ge200_1⟩ := k85_openF hMe200
  have hv200_1 := hcc200 1 _ rfl
  rw [add_field _ _ 1 s6q0] at hv200_1
  replace hv200_1 := Option.some.inj (hv200_1.symm.trans hx200_1)
  injection hv200_1 with hva_ hvn_ hvc_
  rw [hva_] at ge200_1
  rw [hvc_] at ul200_1
  have HL200_1 := Aside0.mk (show Kd.V (Kd.int .i64) 3 _ w.heap.size _ _ ((rd_T85 x5_3 x9_3).f1) from Kd.V_mk ul200_1 ge200_1)
  clear hva_ hvn_ hvc_ ge200_1 ul200_1
  clear hcc200 hce200
  have HR200_1 := Aside0.mk hi200_1
  have HC200_1 := Aside0.mk hl200_1
  clear hi200_1 hl200_1
  replace p200 := eq_true p200
  replace q200 := eq_true q200
  have p201 : 0 ≤ ((Go.bits .andNot .i64 x7_2 x9_3) : Int) := of_decide_eq_true s6q6
  have q201 : (Go.bits .andNot .i64 x7_2 x9_3) < (x5_3.length : Int) := of_decide_eq_true s6q6
  obtain ⟨ad201, A201_1, c201_1, e201, hx201_0, hx201_1, hx201_2, hl201_1, hi201_1⟩ := at_T85 (Kd.N_reads' HO_5.out).2.2 (Go.bits .andNot .i64 x7_2 x9_3) p201 q201
  (try rw [← Nbq21.out] at hx201_2)
  (try rw [← Nbq39.out] at hx201_2)
  obtain rfl : ad197 = ad201 := (by injection e201)
  obtain ⟨ce201, hce201, hMe201, hcc201⟩ := Kd.N_get HO_5.out z85 (Go.bits .andNot .i64 x7_2 x9_3) p201 s6q44
  obtain ⟨ua201_1, uc201_1, rfl, ul201_1, ge201_1⟩ := k85_openF hMe201
  have hv201_1 := hcc201 1 _ rfl
  rw [add_field _ _ 1 s6q0] at hv201_1
  replace hv201_1 := Option.some.inj (hv201_1.symm.trans hx201_1)
  injection hv201_1 with hva_ hvn_ hvc_
  rw [hva_] at ge201_1
  rw [hvc_] at ul201_1
  have HL201_1 := Aside0.mk (show Kd.V (Kd.int .i64) 3 _ w.heap.size _ _ ((rd_T85 x5_3 (Go.bits .andNot .i64 x7_2 x9_3)).f1) from Kd.V_mk ul201_1 ge201_1)
  clear hva_ hvn_ hvc_ ge201_1 ul201_1
  clear hcc201 hce201
  have HR201_1 := Aside0.mk hi201_1
  have HC201_1 := Aside0.mk hl201_1
  clear hi201_1 hl201_1
  replace p201 := eq_true p201
  replace q201 := eq_true q201
  refine start_ (n := 14) (S := fun w' => w'.cell? (ad197.add ((x9_3).toNat * 3)) = some (.int .i64 ((rd_T85 x5_3 x9_3).f0)) ∧ w'.cell? ⟨(ad197.add ((x9_3).toNat * 3)).block, (ad197.add ((x9_3).toNat * 3)).off + 1, none⟩ = some (.slice A200_1 ((rd_T85 x5_3 x9_3).f1).length c200_1) ∧ w'.cell? ⟨(ad197.add ((x9_3).toNat * 3)).block, (ad197.add ((x9_3).toNat * 3)).off + 2, none⟩ = some (.bool ((rd_T85 x5_3 x9_3).f2)) ∧ w'.cell? (ad197.add (((Go.bits .andNot .i64 x7_2 x9_3)).toNat * 3)) = some (.int .i64 ((rd_T85 x5_3 (Go.bits .andNot .i64 x7_2 x9_3)).f0)) ∧ w'.cell? ⟨(ad197.add (((Go.bits .andNot .i64 x7_2 x9_3)).toNat * 3)).block, (ad197.add (((Go.bits .andNot .i64 x7_2 x9_3)).toNat * 3)).off + 1, none⟩ = some (.slice A201_1 ((rd_T85 x5_3 (Go.bits .andNot .i64 x7_2 x9_3)).f1).length c201_1) ∧ w'.cell? ⟨(ad197.add (((Go.bits .andNot .i64 x7_2 x9_3)).toNat * 3)).block, (ad197.add (((Go.bits .andNot .i64 x7_2 x9_3)).toNat * 3)).off + 2, none⟩ = some (.bool ((rd_T85 x5_3 (Go.bits .andNot .i64 x7_2 x9_3)).f2))) (ds := []) #[false, false, false, false, false, false, false, false, false, false, false, false, false, false] s6q2 rfl rfl ⟨hx200_0, hx200_1, hx200_2, hx201_0, hx201_1, hx201_2⟩ (fun hHeld => ?_); refine with_tabW peristyleref10_best.tab16 peristyleref10_best.bits16 (fun HT_ HW_ => ?_)
  generalize wc.drew = w67 at HO_5 HB HL200_1 HL201_1 HR200_1 HR201_1 hx200_0 hx200_1 hx200_2 hx201_0 hx201_1 hx201_2 hHeld ⊢
  refine pure_ (i := 0) (N := some 62) (v := ?_) (a' := ?_) #[true, false, false, false, false, false, false, false, false, false, false, false, false, false] rfl rfl (any_of HT_.out s6q2) (fun _ _ _ h => h) (Or.inl ⟨by rfl, ?_⟩) ?_ ?_
  rotate_left
  · intro w'
    go_simp
    with_reducible rfl
  rotate_left
  · simp only [Act.put, sqa, sqb, sqc, i64_w, i32_w]
    rfl
  refine pure_ (i := 1) (N := some 63) (v := ?_) (a' := ?_) #[true, true, false, false, false, false, false, false, false, false, false, false, false, false] rfl rfl (any_of HT_.out s6q2) (fun _ _ _ h => h) (Or.inl ⟨by rfl, ?_⟩) ?_ ?_
  rotate_left
  · intro w'
    go_simp
    with_reducible rfl
  rotate_left
  · simp only [Act.put, sqa, sqb, sqc, i64_w, i32_w]
    rfl
  refine pure_ (i := 2) (N := some 64) (v := ?_) (a' := ?_) #[true, true, true, false, false, false, false, false, false, false, false, false, false, false] rfl rfl (any_of HT_.out s6q2) (fun _ _ _ h => h) (Or.inl ⟨by rfl, ?_⟩) ?_ ?_
  rotate_left
  · intro w'
    go_simp
    with_reducible rfl
  rotate_left
  · simp only [Act.put, sqa, sqb, sqc, i64_w, i32_w]
    rfl
  refine pure_ (i := 4) (N := some 66) (v := ?_) (a' := ?_) #[true, true, true, false, true, false, false, false, false, false, false, false, false, false] rfl rfl (any_of HT_.out s6q2) (fun _ _ _ h => h) (Or.inl ⟨by rfl, ?_⟩) ?_ ?_
  rotate_left
  · intro w'
    go_simp
    with_reducible rfl
  rotate_left
  · simp only [Act.put, sqa, sqb, sqc, i64_w, i32_w]
    rfl
  refine pure_ (i := 5) (N := some 67) (v := ?_) (a' := ?_) #[true, true, true, false, true, true, false, false, false, false, false, false, false, false] rfl rfl (any_of HT_.out s6q2) (fun _ _ _ h => h) (Or.inl ⟨by rfl, ?_⟩) ?_ ?_
  rotate_left
  · intro w'
    go_simp
    with_reducible rfl
  rotate_left
  · simp only [Act.put, sqa, sqb, sqc, i64_w, i32_w]
    rfl
  refine pure_ (i := 6) (N := some 68) (v := ?_) (a' := ?_) #[true, true, true, false, true, true, true, false, false, false, false, false, false, false] rfl rfl (any_of HT_.out s6q2) (fun _ _ _ h => h) (Or.inl ⟨by rfl, ?_⟩) ?_ ?_
  rotate_left
  · intro w'
    go_simp
    with_reducible rfl
  rotate_left
  · simp only [Act.put, sqa, sqb, sqc, i64_w, i32_w]
    rfl
  refine pure_ (i := 7) (N := some 69) (v := ?_) (a' := ?_) #[true, true, true, false, true, true, true, true, false, false, false, false, false, false] rfl rfl (any_of HT_.out s6q2) (fun _ _ _ h => h) (Or.inl ⟨by rfl, ?_⟩) ?_ ?_
  rotate_left
  · intro w'
    go_simp
    with_reducible rfl
  rotate_left
  · simp only [Act.put, sqa, sqb, sqc, i64_w, i32_w]
    rfl
  refine pure_ (i := 8) (N := some 70) (v := ?_) (a' := ?_) #[true, true, true, false, true, true, true, true, true, false, false, false, false, false] rfl rfl (any_of HT_.out s6q2) (fun _ _ _ h => h) (Or.inl ⟨by rfl, ?_⟩) ?_ ?_
  rotate_left
  · intro w'
    go_simp
    with_reducible rfl
  rotate_left
  · simp only [Act.put, sqa, sqb, sqc, i64_w, i32_w]
    rfl
  refine take_ (i := 3) (N := some 65) (v := ?_) (a' := ?_) #[true, true, true, true, true, true, true, true, true, false, false, false, false, false] rfl rfl (take_ofW HT_.out HW_.out s6q2) (fun _ _ _ h => h) (Or.inl ⟨by rfl, ?_⟩) hHeld ?_ ?_
  rotate_left
  · rintro w' ⟨s0, s1, s2, s3, s4, s5⟩
    go_simp
    with_reducible rfl
  rotate_left
  · simp only [Act.put, sqa, sqb, sqc, i64_w, i32_w]
    rfl
  refine take_ (i := 9) (N := some 71) (v := ?_) (a' := ?_) #[true, true, true, true, true, true, true, true, true, true, false, false, false, false] rfl rfl (take_ofW HT_.out HW_.out s6q2) (fun _ _ _ h => h) (Or.inl ⟨by rfl, ?_⟩) hHeld ?_ ?_
  rotate_left
  · rintro w' ⟨s0, s1, s2, s3, s4, s5⟩
    go_simp
    with_reducible rfl
  rotate_left
  · simp only [Act.put, sqa, sqb, sqc, i64_w, i32_w]
    rfl
  refine join_ (σ := Nat × Nat) 2 #[true, true, true, true, true, true, true, true, true, true, true, true, false, false] (fun s_ => [(10, .pointer (some ⟨s_.1, 0, none⟩)), (11, .pointer (some ⟨s_.2, 0, none⟩))]) (fun s_ w' => (w'.cell? (ad197.add ((x9_3).toNat * 3)) = some (.int .i64 ((rd_T85 x5_3 x9_3).f0)) ∧ w'.cell? ⟨(ad197.add ((x9_3).toNat * 3)).block, (ad197.add ((x9_3).toNat * 3)).off + 1, none⟩ = some (.slice A200_1 ((rd_T85 x5_3 x9_3).f1).length c200_1) ∧ w'.cell? ⟨(ad197.add ((x9_3).toNat * 3)).block, (ad197.add ((x9_3).toNat * 3)).off + 2, none⟩ = some (.bool ((rd_T85 x5_3 x9_3).f2)) ∧ w'.cell? (ad197.add (((Go.bits .andNot .i64 x7_2 x9_3)).toNat * 3)) = some (.int .i64 ((rd_T85 x5_3 (Go.bits .andNot .i64 x7_2 x9_3)).f0)) ∧ w'.cell? ⟨(ad197.add (((Go.bits .andNot .i64 x7_2 x9_3)).toNat * 3)).block, (ad197.add (((Go.bits .andNot .i64 x7_2 x9_3)).toNat * 3)).off + 1, none⟩ = some (.slice A201_1 ((rd_T85 x5_3 (Go.bits .andNot .i64 x7_2 x9_3)).f1).length c201_1) ∧ w'.cell? ⟨(ad197.add (((Go.bits .andNot .i64 x7_2 x9_3)).toNat * 3)).block, (ad197.add (((Go.bits .andNot .i64 x7_2 x9_3)).toNat * 3)).off + 2, none⟩ = some (.bool ((rd_T85 x5_3 (Go.bits .andNot .i64 x7_2 x9_3)).f2))) ∧ (Kd.V (Kd.int .i64) 3 w' w.heap.size (fun k_ => (w.heap.size ≤ k_) ∧ some k_ ≠ (.slice (some ad197) x5_3.length co25 : Value).ownBlock ∧ k_ ≠ s_.1 ∧ k_ ≠ s_.2) (.slice A200_1 ((rd_T85 x5_3 x9_3).f1).length c200_1) ((rd_T85 x5_3 x9_3).f1)) ∧ (Kd.V (Kd.int .i64) 3 w' w.heap.size (fun k_ => (w.heap.size ≤ k_) ∧ some k_ ≠ (.slice (some ad197) x5_3.length co25 : Value).ownBlock ∧ k_ ≠ s_.1 ∧ k_ ≠ s_.2) (.slice A201_1 ((rd_T85 x5_3 (Go.bits .andNot .i64 x7_2 x9_3)).f1).length c201_1) ((rd_T85 x5_3 (Go.bits .andNot .i64 x7_2 x9_3)).f1)) ∧ (Kd.N k85 85 w' w.heap.size (fun k_ => (w.heap.size ≤ k_) ∧ k_ ≠ s_.1 ∧ k_ ≠ s_.2) (.slice (some ad197) x5_3.length co25) x5_3) ∧ (w'.heap[s_.1]? = some (.cells #[.int .i64 0, .slice none 0 0, .bool false] 85 (0, 0))) ∧ (w'.heap[s_.2]? = some (.cells #[.int .i64 0, .slice none 0 0, .bool false] 85 (0, 0))) ∧ (w.heap.size ≤ s_.1) ∧ (w.heap.size ≤ s_.1) ∧ (s_.2 ≠ s_.1) ∧ (s_.1 ≠ s_.2) ∧ (w.heap.size ≤ s_.2) ∧ (w.heap.size ≤ s_.2) ∧ (Below w.heap.size w w')) ?_ ?_
  rotate_left
  · intro hCont
    refine two_ (i := 10) (j := 11) (Ni := some 10) (Nj := some 11) #[true, true, true, true, true, true, true, true, true, true, true, false, false, false] #[true, true, true, true, true, true, true, true, true, true, false, true, false, false] rfl rfl rfl rfl (two_of HT_.out s6q2) s6q1 s6q1 (fun K hK => ?_) (fun K hK => ?_)
    · skip
      refine box_step ?hg (N := 10) ?hd (cs := #[.int .i64 0, .slice none 0 0, .bool false]) (t := 85) ?hr ?_; (case hd => rfl); (case hg => rfl); (case hr => first | (go_simp; done) | (go_simp; rfl))
      intro gb202 hg w68 hbox hb
      have HS0_ := pw_cell_below hb hHeld.1
      have HS1_ := pw_cell_below hb hHeld.2.1
      have HS2_ := pw_cell_below hb hHeld.2.2.1
      have HS3_ := pw_cell_below hb hHeld.2.2.2.1
      have HS4_ := pw_cell_below hb hHeld.2.2.2.2.1
      have HS5_ := pw_cell_below hb hHeld.2.2.2.2.2
      have n0_ := Aside0.mk (Kd.N_below (Kd.N_elderB s6q7 gb202 (Nat.le_of_eq hg.symm)) hb)
      have n1_ := Aside0.mk (Kd.V_below (Kd.V_elderB s6q10 gb202 (Nat.le_of_eq hg.symm)) hb)
      have n2_ := Aside0.mk (Kd.V_below (Kd.V_elderB s6q11 gb202 (Nat.le_of_eq hg.symm)) hb)
      have n3_ := Aside0.mk (Kd.C_below s6q28 hb)
      have n4_ := Aside0.mk (Kd.C_below s6q29 hb)
      have n5_ := Aside0.mk (below_step s6q16 hb)
      have n6_ := Aside0.mk (hbox)
      have n7_ := Aside0.mk ((s6q49 : w.heap.size ≤ gb202))
      have n8_ := Aside0.mk ((s6q49 : w.heap.size ≤ gb202))
      clear HO_5
      clear HL200_1
      clear HL201_1
      clear HR200_1
      clear HR201_1
      clear HB
      have HO_5 := n0_
      have HL200_1 := n1_
      have HL201_1 := n2_
      have HR200_1 := n3_
      have HR201_1 := n4_
      have HB := n5_
      have BK202 := n6_
      have GW202 := n7_
      have GE202 := n8_
      clear n0_ n1_ n2_ n3_ n4_ n5_ n6_ n7_ n8_
      clear hb hbox hg
      refine hK.out _ _ ⟨HS0_, HS1_, HS2_, HS3_, HS4_, HS5_⟩ (fun hHeld => ?_)
      clear hK K
      refine norm_ (a' := ?_) ?_ ?_
      rotate_left
      · show Act.put _ (some 10) _ = _
        simp only [Act.put, sqa, sqb, sqc, i64_w, i32_w]
        rfl
      refine one_ (i := 11) (N := some 11) #[true, true, true, true, true, true, true, true, true, true, true, true, false, false] rfl rfl (one_of HT_.out s6q2) s6q1 (fun K hK => ?_)
      refine box_step ?hg (N := 11) ?hd (cs := #[.int .i64 0, .slice none 0 0, .bool false]) (t := 85) ?hr ?_; (case hd => rfl); (case hg => rfl); (case hr => first | (go_simp; done) | (go_simp; rfl))
      intro gb203 hg w69 hbox hb
      have HS0_ := pw_cell_below hb hHeld.1
      have HS1_ := pw_cell_below hb hHeld.2.1
      have HS2_ := pw_cell_below hb hHeld.2.2.1
      have HS3_ := pw_cell_below hb hHeld.2.2.2.1
      have HS4_ := pw_cell_below hb hHeld.2.2.2.2.1
      have HS5_ := pw_cell_below hb hHeld.2.2.2.2.2
      have n0_ := Aside0.mk (Kd.N_below (Kd.N_elderB s6q7 gb203 (Nat.le_of_eq hg.symm)) hb)
      have n1_ := Aside0.mk (Kd.V_below (Kd.V_elderB s6q10 gb203 (Nat.le_of_eq hg.symm)) hb)
      have n2_ := Aside0.mk (Kd.V_below (Kd.V_elderB s6q11 gb203 (Nat.le_of_eq hg.symm)) hb)
      have n3_ := Aside0.mk (Kd.C_below s6q28 hb)
      have n4_ := Aside0.mk (Kd.C_below s6q29 hb)
      have n5_ := Aside0.mk (blk_below (g := gb202) (o := .cells #[.int .i64 0, .slice none 0 0, .bool false] 85 (0, 0)) s6q14 hb)
      have n6_ := Aside0.mk (below_step s6q20 hb)
      have n7_ := Aside0.mk (hbox)
      have n8_ := Aside0.mk ((s6q50 : w.heap.size ≤ gb203))
      have n9_ := Aside0.mk ((s6q50 : w.heap.size ≤ gb203))
      have n10_ := Aside0.mk ((s6q54 : gb202 ≠ gb203))
      have n11_ := Aside0.mk ((s6q52 : gb203 ≠ gb202))
      clear HO_5
      clear HL200_1
      clear HL201_1
      clear HR200_1
      clear HR201_1
      clear BK202
      clear HB
      have HO_5 := n0_
      have HL200_1 := n1_
      have HL201_1 := n2_
      have HR200_1 := n3_
      have HR201_1 := n4_
      have BK202 := n5_
      have HB := n6_
      have BK203 := n7_
      have GW203 := n8_
      have GE203 := n9_
      have NB202_203 := n10_
      have NB203_202 := n11_
      clear n0_ n1_ n2_ n3_ n4_ n5_ n6_ n7_ n8_ n9_ n10_ n11_
      clear hb hbox hg
      refine hK.out _ _ ⟨HS0_, HS1_, HS2_, HS3_, HS4_, HS5_⟩ (fun hHeld => ?_)
      clear hK K
      refine norm_ (a' := ?_) ?_ ?_
      rotate_left
      · show Act.put _ (some 11) _ = _
        simp only [Act.put, sqa, sqb, sqc, i64_w, i32_w]
        rfl
      exact norm_ s6q4 (hCont (gb202, gb203) _ ⟨hHeld, s6q22, s6q24, s6q18, s6q14, s6q15, GW202.out, GE202.out, NB203_202.out, NB202_203.out, GW203.out, GE203.out, s6q32⟩)
    skip
    refine box_step ?hg (N := 11) ?hd (cs := #[.int .i64 0, .slice none 0 0, .bool false]) (t := 85) ?hr ?_; (case hd => rfl); (case hg => rfl); (case hr => first | (go_simp; done) | (go_simp; rfl))
    intro gb203 hg w68 hbox hb
    have HS0_ := pw_cell_below hb hHeld.1
    have HS1_ := pw_cell_below hb hHeld.2.1
    have HS2_ := pw_cell_below hb hHeld.2.2.1
    have HS3_ := pw_cell_below hb hHeld.2.2.2.1
    have HS4_ := pw_cell_below hb hHeld.2.2.2.2.1
    have HS5_ := pw_cell_below hb hHeld.2.2.2.2.2
    have n0_ := Aside0.mk (Kd.N_below (Kd.N_elderB s6q7 gb203 (Nat.le_of_eq hg.symm)) hb)
    have n1_ := Aside0.mk (Kd.V_below (Kd.V_elderB s6q10 gb203 (Nat.le_of_eq hg.symm)) hb)
    have n2_ := Aside0.mk (Kd.V_below (Kd.V_elderB s6q11 gb203 (Nat.le_of_eq hg.symm)) hb)
    have n3_ := Aside0.mk (Kd.C_below s6q28 hb)
    have n4_ := Aside0.mk (Kd.C_below s6q29 hb)
    have n5_ := Aside0.mk (below_step s6q16 hb)
    have n6_ := Aside0.mk (hbox)
    have n7_ := Aside0.mk ((s6q49 : w.heap.size ≤ gb203))
    have n8_ := Aside0.mk ((s6q49 : w.heap.size ≤ gb203))
    clear HO_5
    clear HL200_1
    clear HL201_1
    clear HR200_1
    clear HR201_1
    clear HB
    have HO_5 := n0_
    have HL200_1 := n1_
    have HL201_1 := n2_
    have HR200_1 := n3_
    have HR201_1 := n4_
    have HB := n5_
    have BK203 := n6_
    have GW203 := n7_
    have GE203 := n8_
    clear n0_ n1_ n2_ n3_ n4_ n5_ n6_ n7_ n8_
    clear hb hbox hg
    refine hK.out _ _ ⟨HS0_, HS1_, HS2_, HS3_, HS4_, HS5_⟩ (fun hHeld => ?_)
    clear hK K
    refine norm_ (a' := ?_) ?_ ?_
    rotate_left
    · show Act.put _ (some 11) _ = _
      simp only [Act.put, sqa, sqb, sqc, i64_w, i32_w]
      rfl
    refine one_ (i := 10) (N := some 10) #[true, true, true, true, true, true, true, true, true, true, true, true, false, false] rfl rfl (one_of HT_.out s6q2) s6q1 (fun K hK => ?_)
    refine box_step ?hg (N := 10) ?hd (cs := #[.int .i64 0, .slice none 0 0, .bool false]) (t := 85) ?hr ?_; (case hd => rfl); (case hg => rfl); (case hr => first | (go_simp; done) | (go_simp; rfl))
    intro gb202 hg w69 hbox hb
    have HS0_ := pw_cell_below hb hHeld.1
    have HS1_ := pw_cell_below hb hHeld.2.1
    have HS2_ := pw_cell_below hb hHeld.2.2.1
    have HS3_ := pw_cell_below hb hHeld.2.2.2.1
    have HS4_ := pw_cell_below hb hHeld.2.2.2.2.1
    have HS5_ := pw_cell_below hb hHeld.2.2.2.2.2
    have n0_ := Aside0.mk (Kd.N_below (Kd.N_elderB s6q7 gb202 (Nat.le_of_eq hg.symm)) hb)
    have n1_ := Aside0.mk (Kd.V_below (Kd.V_elderB s6q10 gb202 (Nat.le_of_eq hg.symm)) hb)
    have n2_ := Aside0.mk (Kd.V_below (Kd.V_elderB s6q11 gb202 (Nat.le_of_eq hg.symm)) hb)
    have n3_ := Aside0.mk (Kd.C_below s6q28 hb)
    have n4_ := Aside0.mk (Kd.C_below s6q29 hb)
    have n5_ := Aside0.mk (blk_below (g := gb203) (o := .cells #[.int .i64 0, .slice none 0 0, .bool false] 85 (0, 0)) s6q15 hb)
    have n6_ := Aside0.mk (below_step s6q21 hb)
    have n7_ := Aside0.mk (hbox)
    have n8_ := Aside0.mk ((s6q51 : w.heap.size ≤ gb202))
    have n9_ := Aside0.mk ((s6q51 : w.heap.size ≤ gb202))
    have n10_ := Aside0.mk ((s6q55 : gb203 ≠ gb202))
    have n11_ := Aside0.mk ((s6q53 : gb202 ≠ gb203))
    clear HO_5
    clear HL200_1
    clear HL201_1
    clear HR200_1
    clear HR201_1
    clear BK203
    clear HB
    have HO_5 := n0_
    have HL200_1 := n1_
    have HL201_1 := n2_
    have HR200_1 := n3_
    have HR201_1 := n4_
    have BK203 := n5_
    have HB := n6_
    have BK202 := n7_
    have GW202 := n8_
    have GE202 := n9_
    have NB203_202 := n10_
    have NB202_203 := n11_
    clear n0_ n1_ n2_ n3_ n4_ n5_ n6_ n7_ n8_ n9_ n10_ n11_
    clear hb hbox hg
    refine hK.out _ _ ⟨HS0_, HS1_, HS2_, HS3_, HS4_, HS5_⟩ (fun hHeld => ?_)
    clear hK K
    refine norm_ (a' := ?_) ?_ ?_
    rotate_left
    · show Act.put _ (some 10) _ = _
      simp only [Act.put, sqa, sqb, sqc, i64_w, i32_w]
      rfl
    exact norm_ s6q4 (hCont (gb202, gb203) _ ⟨hHeld, s6q23, s6q25, s6q19, s6q14, s6q15, GW202.out, GE202.out, NB203_202.out, NB202_203.out, GW203.out, GE203.out, s6q33⟩)
  rintro ⟨gb202, gb203⟩ w70 ⟨hS_, h0_, h1_, h2_, h3_, h4_, h5_, h6_, h7_, h8_, h9_, h10_, h11_⟩
  have n0_ : Aside0 (Kd.V (Kd.int .i64) 3 w70 w.heap.size (fun k_ => (w.heap.size ≤ k_) ∧ some k_ ≠ (.slice (some ad197) x5_3.length co25 : Value).ownBlock ∧ k_ ≠ gb202 ∧ k_ ≠ gb203) (.slice A200_1 ((rd_T85 x5_3 x9_3).f1).length c200_1) ((rd_T85 x5_3 x9_3).f1)) := ⟨h0_⟩
  have n1_ : Aside0 (Kd.V (Kd.int .i64) 3 w70 w.heap.size (fun k_ => (w.heap.size ≤ k_) ∧ some k_ ≠ (.slice (some ad197) x5_3.length co25 : Value).ownBlock ∧ k_ ≠ gb202 ∧ k_ ≠ gb203) (.slice A201_1 ((rd_T85 x5_3 (Go.bits .andNot .i64 x7_2 x9_3)).f1).length c201_1) ((rd_T85 x5_3 (Go.bits .andNot .i64 x7_2 x9_3)).f1)) := ⟨h1_⟩
  have n2_ : Aside0 (Kd.N k85 85 w70 w.heap.size (fun k_ => (w.heap.size ≤ k_) ∧ k_ ≠ gb202 ∧ k_ ≠ gb203) (.slice (some ad197) x5_3.length co25) x5_3) := ⟨h2_⟩
  have n3_ : Aside0 (w70.heap[gb202]? = some (.cells #[.int .i64 0, .slice none 0 0, .bool false] 85 (0, 0))) := ⟨h3_⟩
  have n4_ : Aside0 (w70.heap[gb203]? = some (.cells #[.int .i64 0, .slice none 0 0, .bool false] 85 (0, 0))) := ⟨h4_⟩
  have n5_ : Aside0 (w.heap.size ≤ gb202) := ⟨h5_⟩
  have n6_ : Aside0 (w.heap.size ≤ gb202) := ⟨h6_⟩
  have n7_ : Aside0 (gb203 ≠ gb202) := ⟨h7_⟩
  have n8_ : Aside0 (gb202 ≠ gb203) := ⟨h8_⟩
  have n9_ : Aside0 (w.heap.size ≤ gb203) := ⟨h9_⟩
  have n10_ : Aside0 (w.heap.size ≤ gb203) := ⟨h10_⟩
  have n11_ : Aside0 (Below w.heap.size w w70) := ⟨h11_⟩
  clear HO_5
  clear HB
  clear h0_ h1_ h2_ h3_ h4_ h5_ h6_ h7_ h8_ h9_ h10_ h11_
  have HL200_1 := n0_
  have HL201_1 := n1_
  have HO_5 := n2_
  have BK202 := n3_
  have BK203 := n4_
  have GW202 := n5_
  have GE202 := n6_
  have NB203_202 := n7_
  have NB202_203 := n8_
  have GW203 := n9_
  have GE203 := n10_
  have HB := n11_
  clear n0_ n1_ n2_ n3_ n4_ n5_ n6_ n7_ n8_ n9_ n10_ n11_
  have hHeld : w70.cell? (ad197.add ((x9_3).toNat * 3)) = some (.int .i64 ((rd_T85 x5_3 x9_3).f0)) ∧ w70.cell? ⟨(ad197.add ((x9_3).toNat * 3)).block, (ad197.add ((x9_3).toNat * 3)).off + 1, none⟩ = some (.slice A200_1 ((rd_T85 x5_3 x9_3).f1).length c200_1) ∧ w70.cell? ⟨(ad197.add ((x9_3).toNat * 3)).block, (ad197.add ((x9_3).toNat * 3)).off + 2, none⟩ = some (.bool ((rd_T85 x5_3 x9_3).f2)) ∧ w70.cell? (ad197.add (((Go.bits .andNot .i64 x7_2 x9_3)).toNat * 3)) = some (.int .i64 ((rd_T85 x5_3 (Go.bits .andNot .i64 x7_2 x9_3)).f0)) ∧ w70.cell? ⟨(ad197.add (((Go.bits .andNot .i64 x7_2 x9_3)).toNat * 3)).block, (ad197.add (((Go.bits .andNot .i64 x7_2 x9_3)).toNat * 3)).off + 1, none⟩ = some (.slice A201_1 ((rd_T85 x5_3 (Go.bits .andNot .i64 x7_2 x9_3)).f1).length c201_1) ∧ w70.cell? ⟨(ad197.add (((Go.bits .andNot .i64 x7_2 x9_3)).toNat * 3)).block, (ad197.add (((Go.bits .andNot .i64 x7_2 x9_3)).toNat * 3)).off + 2, none⟩ = some (.bool ((rd_T85 x5_3 (Go.bits .andNot .i64 x7_2 x9_3)).f2)) := hS_
  refine norm_ (a' := ?_) ?_ ?_
  rotate_left
  · simp only [putAll, Act.put, sqa, sqb, sqc]
    rfl
  refine one_ (i := 12) (N := none) #[true, true, true, true, true, true, true, true, true, true, true, true, true, false] rfl rfl (one_of HT_.out s6q2) s6q1 (fun K hK => ?_)
  have hs71 : w70.cell? ⟨gb202, 0, none⟩ = some (.int .i64 0) := (blk_cell BK202.out 0).trans rfl
  have hfs71 := blk_frozen BK202.out 0
  have hns71_1 := NB203_202.out
  have hms71_1 := NB202_203.out
  have hs72 : w70.cell? ⟨gb202, 1, none⟩ = some (.slice none 0 0) := (blk_cell BK202.out 1).trans rfl
  have hfs72 := blk_frozen BK202.out 1
  have hns72_1 := NB203_202.out
  have hms72_1 := NB202_203.out
  have hs73 : w70.cell? ⟨gb202, 2, none⟩ = some (.bool false) := (blk_cell BK202.out 2).trans rfl
  have hfs73 := blk_frozen BK202.out 2
  have hns73_1 := NB203_202.out
  have hms73_1 := NB202_203.out
  refine skip_ (w1 := ?_) (by rfl) rfl ?_ ?_
  rotate_left
  · go_simp
    rfl
  refine hK.out _ _ ⟨((cell_far (p := ⟨gb202, _, none⟩) s6q40 _).trans (((cell_far (p := ⟨gb202, _, none⟩) s6q40 _).trans (((cell_far (p := ⟨gb202, _, none⟩) s6q40 _).trans (hHeld.1)))))), ((cell_far (p := ⟨gb202, _, none⟩) s6q40 _).trans (((cell_far (p := ⟨gb202, _, none⟩) s6q40 _).trans (((cell_far (p := ⟨gb202, _, none⟩) s6q40 _).trans (hHeld.2.1)))))), ((cell_far (p := ⟨gb202, _, none⟩) s6q40 _).trans (((cell_far (p := ⟨gb202, _, none⟩) s6q40 _).trans (((cell_far (p := ⟨gb202, _, none⟩) s6q40 _).trans (hHeld.2.2.1)))))), ((cell_far (p := ⟨gb202, _, none⟩) s6q40 _).trans (((cell_far (p := ⟨gb202, _, none⟩) s6q40 _).trans (((cell_far (p := ⟨gb202, _, none⟩) s6q40 _).trans (hHeld.2.2.2.1)))))), ((cell_far (p := ⟨gb202, _, none⟩) s6q40 _).trans (((cell_far (p := ⟨gb202, _, none⟩) s6q40 _).trans (((cell_far (p := ⟨gb202, _, none⟩) s6q40 _).trans (hHeld.2.2.2.2.1)))))), ((cell_far (p := ⟨gb202, _, none⟩) s6q40 _).trans (((cell_far (p := ⟨gb202, _, none⟩) s6q40 _).trans (((cell_far (p := ⟨gb202, _, none⟩) s6q40 _).trans (hHeld.2.2.2.2.2))))))⟩ (fun hHeld => ?_)
  clear hK K
  refine one_ (i := 13) (N := none) #[true, true, true, true, true, true, true, true, true, true, true, true, true, true] rfl rfl (one_of HT_.out s6q2) s6q1 (fun K hK => ?_)
  have hs74 : w70.cell? ⟨gb203, 0, none⟩ = some (.int .i64 0) := (blk_cell BK203.out 0).trans rfl
  have hfs74 := blk_frozen BK203.out 0
  have hns74_0 := NB202_203.out
  have hms74_0 := NB203_202.out
  have hs75 : w70.cell? ⟨gb203, 1, none⟩ = some (.slice none 0 0) := (blk_cell BK203.out 1).trans rfl
  have hfs75 := blk_frozen BK203.out 1
  have hns75_0 := NB202_203.out
  have hms75_0 := NB203_202.out
  have hs76 : w70.cell? ⟨gb203, 2, none⟩ = some (.bool false) := (blk_cell BK203.out 2).trans rfl
  have hfs76 := blk_frozen BK203.out 2
  have hns76_0 := NB202_203.out
  have hms76_0 := NB203_202.out
  refine skip_ (w1 := ?_) (by rfl) rfl ?_ ?_
  rotate_left
  · go_simp
    rfl
  refine hK.out _ _ ⟨((cell_far (p := ⟨gb203, _, none⟩) s6q41 _).trans (((cell_far (p := ⟨gb203, _, none⟩) s6q41 _).trans (((cell_far (p := ⟨gb203, _, none⟩) s6q41 _).trans (hHeld.1)))))), ((cell_far (p := ⟨gb203, _, none⟩) s6q41 _).trans (((cell_far (p := ⟨gb203, _, none⟩) s6q41 _).trans (((cell_far (p := ⟨gb203, _, none⟩) s6q41 _).trans (hHeld.2.1)))))), ((cell_far (p := ⟨gb203, _, none⟩) s6q41 _).trans (((cell_far (p := ⟨gb203, _, none⟩) s6q41 _).trans (((cell_far (p := ⟨gb203, _, none⟩) s6q41 _).trans (hHeld.2.2.1)))))), ((cell_far (p := ⟨gb203, _, none⟩) s6q41 _).trans (((cell_far (p := ⟨gb203, _, none⟩) s6q41 _).trans (((cell_far (p := ⟨gb203, _, none⟩) s6q41 _).trans (hHeld.2.2.2.1)))))), ((cell_far (p := ⟨gb203, _, none⟩) s6q41 _).trans (((cell_far (p := ⟨gb203, _, none⟩) s6q41 _).trans (((cell_far (p := ⟨gb203, _, none⟩) s6q41 _).trans (hHeld.2.2.2.2.1)))))), ((cell_far (p := ⟨gb203, _, none⟩) s6q41 _).trans (((cell_far (p := ⟨gb203, _, none⟩) s6q41 _).trans (((cell_far (p := ⟨gb203, _, none⟩) s6q41 _).trans (hHeld.2.2.2.2.2))))))⟩ (fun hHeld => ?_)
  clear hK K
  refine done_ (done_of HT_.out s6q2) ?_
  have n0_ : Aside0 (Kd.N k85 85 ((((((w70.setCell ⟨gb202, 0, none⟩ (.int .i64 ((rd_T85 x5_3 x9_3).f0))).setCell ⟨gb202, 1, none⟩ (.slice A200_1 ((rd_T85 x5_3 x9_3).f1).length c200_1)).setCell ⟨gb202, 2, none⟩ (.bool ((rd_T85 x5_3 x9_3).f2))).setCell ⟨gb203, 0, none⟩ (.int .i64 ((rd_T85 x5_3 (Go.bits .andNot .i64 x7_2 x9_3)).f0))).setCell ⟨gb203, 1, none⟩ (.slice A201_1 ((rd_T85 x5_3 (Go.bits .andNot .i64 x7_2 x9_3)).f1).length c201_1)).setCell ⟨gb203, 2, none⟩ (.bool ((rd_T85 x5_3 (Go.bits .andNot .i64 x7_2 x9_3)).f2))) w.heap.size (fun k_ => (w.heap.size ≤ k_) ∧ k_ ≠ gb202 ∧ k_ ≠ gb203) (.slice (some ad197) x5_3.length co25) x5_3) := ⟨by (with_reducible repeat (first | apply Kd.N_alloc | apply Kd.N_drewN | apply Kd.N_drew)); exact Kd.N_mono (Kd.N_far (p := ⟨gb203, 2, none⟩) (Kd.N_far (p := ⟨gb203, 1, none⟩) (Kd.N_far (p := ⟨gb203, 0, none⟩) (Kd.N_far (p := ⟨gb202, 2, none⟩) (Kd.N_far (p := ⟨gb202, 1, none⟩) (Kd.N_far (p := ⟨gb202, 0, none⟩) (Kd.N_mono (Kd.N_mono HO_5.out (fun k_ hk => (⟨hk, hk.2.1⟩ : _ ∧ k_ ≠ gb202))) (fun k_ hk => (⟨hk, hk.1.2.2⟩ : _ ∧ k_ ≠ gb203))) (fun _ hk => hk.1.2) (.int .i64 ((rd_T85 x5_3 x9_3).f0))) (fun _ hk => hk.1.2) (.slice A200_1 ((rd_T85 x5_3 x9_3).f1).length c200_1)) (fun _ hk => hk.1.2) (.bool ((rd_T85 x5_3 x9_3).f2))) (fun _ hk => hk.2) (.int .i64 ((rd_T85 x5_3 (Go.bits .andNot .i64 x7_2 x9_3)).f0))) (fun _ hk => hk.2) (.slice A201_1 ((rd_T85 x5_3 (Go.bits .andNot .i64 x7_2 x9_3)).f1).length c201_1)) (fun _ hk => hk.2) (.bool ((rd_T85 x5_3 (Go.bits .andNot .i64 x7_2 x9_3)).f2))) (fun _ hk => ⟨hk.1.1.1, ⟨hk.1.1.2.1, hk.1.1.2.2⟩⟩)⟩
  have n1_ : Aside0 (Kd.V (Kd.int .i64) 3 ((((((w70.setCell ⟨gb202, 0, none⟩ (.int .i64 ((rd_T85 x5_3 x9_3).f0))).setCell ⟨gb202, 1, none⟩ (.slice A200_1 ((rd_T85 x5_3 x9_3).f1).length c200_1)).setCell ⟨gb202, 2, none⟩ (.bool ((rd_T85 x5_3 x9_3).f2))).setCell ⟨gb203, 0, none⟩ (.int .i64 ((rd_T85 x5_3 (Go.bits .andNot .i64 x7_2 x9_3)).f0))).setCell ⟨gb203, 1, none⟩ (.slice A201_1 ((rd_T85 x5_3 (Go.bits .andNot .i64 x7_2 x9_3)).f1).length c201_1)).setCell ⟨gb203, 2, none⟩ (.bool ((rd_T85 x5_3 (Go.bits .andNot .i64 x7_2 x9_3)).f2))) w.heap.size (fun k_ => (w.heap.size ≤ k_) ∧ some k_ ≠ (.slice (some ad197) x5_3.length co25 : Value).ownBlock ∧ k_ ≠ gb202 ∧ k_ ≠ gb203) (.slice A200_1 ((rd_T85 x5_3 x9_3).f1).length c200_1) ((rd_T85 x5_3 x9_3).f1)) := ⟨by (with_reducible repeat (first | apply Kd.V_alloc | apply Kd.V_drewN | apply Kd.V_drew)); exact Kd.V_mono (Kd.V_far (p := ⟨gb203, 2, none⟩) (Kd.V_far (p := ⟨gb203, 1, none⟩) (Kd.V_far (p := ⟨gb203, 0, none⟩) (Kd.V_far (p := ⟨gb202, 2, none⟩) (Kd.V_far (p := ⟨gb202, 1, none⟩) (Kd.V_far (p := ⟨gb202, 0, none⟩) (Kd.V_mono (Kd.V_mono HL200_1.out (fun k_ hk => (⟨hk, hk.2.2.1⟩ : _ ∧ k_ ≠ gb202))) (fun k_ hk => (⟨hk, hk.1.2.2.2⟩ : _ ∧ k_ ≠ gb203))) (fun _ hk => hk.1.2) (.int .i64 ((rd_T85 x5_3 x9_3).f0))) (fun _ hk => hk.1.2) (.slice A200_1 ((rd_T85 x5_3 x9_3).f1).length c200_1)) (fun _ hk => hk.1.2) (.bool ((rd_T85 x5_3 x9_3).f2))) (fun _ hk => hk.2) (.int .i64 ((rd_T85 x5_3 (Go.bits .andNot .i64 x7_2 x9_3)).f0))) (fun _ hk => hk.2) (.slice A201_1 ((rd_T85 x5_3 (Go.bits .andNot .i64 x7_2 x9_3)).f1).length c201_1)) (fun _ hk => hk.2) (.bool ((rd_T85 x5_3 (Go.bits .andNot .i64 x7_2 x9_3)).f2))) (fun _ hk => ⟨hk.1.1.1, ⟨hk.1.1.2.1, ⟨hk.1.1.2.2.1, hk.1.1.2.2.2⟩⟩⟩)⟩
  have n2_ : Aside0 (Kd.V (Kd.int .i64) 3 ((((((w70.setCell ⟨gb202, 0, none⟩ (.int .i64 ((rd_T85 x5_3 x9_3).f0))).setCell ⟨gb202, 1, none⟩ (.slice A200_1 ((rd_T85 x5_3 x9_3).f1).length c200_1)).setCell ⟨gb202, 2, none⟩ (.bool ((rd_T85 x5_3 x9_3).f2))).setCell ⟨gb203, 0, none⟩ (.int .i64 ((rd_T85 x5_3 (Go.bits .andNot .i64 x7_2 x9_3)).f0))).setCell ⟨gb203, 1, none⟩ (.slice A201_1 ((rd_T85 x5_3 (Go.bits .andNot .i64 x7_2 x9_3)).f1).length c201_1)).setCell ⟨gb203, 2, none⟩ (.bool ((rd_T85 x5_3 (Go.bits .andNot .i64 x7_2 x9_3)).f2))) w.heap.size (fun k_ => (w.heap.size ≤ k_) ∧ some k_ ≠ (.slice (some ad197) x5_3.length co25 : Value).ownBlock ∧ k_ ≠ gb202 ∧ k_ ≠ gb203) (.slice A201_1 ((rd_T85 x5_3 (Go.bits .andNot .i64 x7_2 x9_3)).f1).length c201_1) ((rd_T85 x5_3 (Go.bits .andNot .i64 x7_2 x9_3)).f1)) := ⟨by (with_reducible repeat (first | apply Kd.V_alloc | apply Kd.V_drewN | apply Kd.V_drew)); exact Kd.V_mono (Kd.V_far (p := ⟨gb203, 2, none⟩) (Kd.V_far (p := ⟨gb203, 1, none⟩) (Kd.V_far (p := ⟨gb203, 0, none⟩) (Kd.V_far (p := ⟨gb202, 2, none⟩) (Kd.V_far (p := ⟨gb202, 1, none⟩) (Kd.V_far (p := ⟨gb202, 0, none⟩) (Kd.V_mono (Kd.V_mono HL201_1.out (fun k_ hk => (⟨hk, hk.2.2.1⟩ : _ ∧ k_ ≠ gb202))) (fun k_ hk => (⟨hk, hk.1.2.2.2⟩ : _ ∧ k_ ≠ gb203))) (fun _ hk => hk.1.2) (.int .i64 ((rd_T85 x5_3 x9_3).f0))) (fun _ hk => hk.1.2) (.slice A200_1 ((rd_T85 x5_3 x9_3).f1).length c200_1)) (fun _ hk => hk.1.2) (.bool ((rd_T85 x5_3 x9_3).f2))) (fun _ hk => hk.2) (.int .i64 ((rd_T85 x5_3 (Go.bits .andNot .i64 x7_2 x9_3)).f0))) (fun _ hk => hk.2) (.slice A201_1 ((rd_T85 x5_3 (Go.bits .andNot .i64 x7_2 x9_3)).f1).length c201_1)) (fun _ hk => hk.2) (.bool ((rd_T85 x5_3 (Go.bits .andNot .i64 x7_2 x9_3)).f2))) (fun _ hk => ⟨hk.1.1.1, ⟨hk.1.1.2.1, ⟨hk.1.1.2.2.1, hk.1.1.2.2.2⟩⟩⟩)⟩
  have n3_ : Aside0 (((((((w70.setCell ⟨gb202, 0, none⟩ (.int .i64 ((rd_T85 x5_3 x9_3).f0))).setCell ⟨gb202, 1, none⟩ (.slice A200_1 ((rd_T85 x5_3 x9_3).f1).length c200_1)).setCell ⟨gb202, 2, none⟩ (.bool ((rd_T85 x5_3 x9_3).f2))).setCell ⟨gb203, 0, none⟩ (.int .i64 ((rd_T85 x5_3 (Go.bits .andNot .i64 x7_2 x9_3)).f0))).setCell ⟨gb203, 1, none⟩ (.slice A201_1 ((rd_T85 x5_3 (Go.bits .andNot .i64 x7_2 x9_3)).f1).length c201_1)).setCell ⟨gb203, 2, none⟩ (.bool ((rd_T85 x5_3 (Go.bits .andNot .i64 x7_2 x9_3)).f2))).heap[gb202]? = some (.cells #[.int .i64 ((rd_T85 x5_3 x9_3).f0), .slice A200_1 ((rd_T85 x5_3 x9_3).f1).length c200_1, .bool ((rd_T85 x5_3 x9_3).f2)] 85 (0, 0))) := ⟨by (with_reducible repeat (first | refine blk_drewN ?_ _ | refine blk_drew ?_ | refine blk_alloc ?_ _)); refine blk_far ?_ NB202_203.out _; (with_reducible repeat (first | refine blk_drewN ?_ _ | refine blk_drew ?_ | refine blk_alloc ?_ _)); refine blk_far ?_ NB202_203.out _; (with_reducible repeat (first | refine blk_drewN ?_ _ | refine blk_drew ?_ | refine blk_alloc ?_ _)); refine blk_far ?_ NB202_203.out _; (with_reducible repeat (first | refine blk_drewN ?_ _ | refine blk_drew ?_ | refine blk_alloc ?_ _)); refine blk_put (cs := #[.int .i64 ((rd_T85 x5_3 x9_3).f0), .slice A200_1 ((rd_T85 x5_3 x9_3).f1).length c200_1, .bool false]) ?_ 2 _ rfl; (with_reducible repeat (first | refine blk_drewN ?_ _ | refine blk_drew ?_ | refine blk_alloc ?_ _)); refine blk_put (cs := #[.int .i64 ((rd_T85 x5_3 x9_3).f0), .slice none 0 0, .bool false]) ?_ 1 _ rfl; (with_reducible repeat (first | refine blk_drewN ?_ _ | refine blk_drew ?_ | refine blk_alloc ?_ _)); refine blk_put (cs := #[.int .i64 0, .slice none 0 0, .bool false]) ?_ 0 _ rfl; (with_reducible repeat (first | refine blk_drewN ?_ _ | refine blk_drew ?_ | refine blk_alloc ?_ _)); exact BK202.out⟩
  have n4_ : Aside0 (((((((w70.setCell ⟨gb202, 0, none⟩ (.int .i64 ((rd_T85 x5_3 x9_3).f0))).setCell ⟨gb202, 1, none⟩ (.slice A200_1 ((rd_T85 x5_3 x9_3).f1).length c200_1)).setCell ⟨gb202, 2, none⟩ (.bool ((rd_T85 x5_3 x9_3).f2))).setCell ⟨gb203, 0, none⟩ (.int .i64 ((rd_T85 x5_3 (Go.bits .andNot .i64 x7_2 x9_3)).f0))).setCell ⟨gb203, 1, none⟩ (.slice A201_1 ((rd_T85 x5_3 (Go.bits .andNot .i64 x7_2 x9_3)).f1).length c201_1)).setCell ⟨gb203, 2, none⟩ (.bool ((rd_T85 x5_3 (Go.bits .andNot .i64 x7_2 x9_3)).f2))).heap[gb203]? = some (.cells #[.int .i64 ((rd_T85 x5_3 (Go.bits .andNot .i64 x7_2 x9_3)).f0), .slice A201_1 ((rd_T85 x5_3 (Go.bits .andNot .i64 x7_2 x9_3)).f1).length c201_1, .bool ((rd_T85 x5_3 (Go.bits .andNot .i64 x7_2 x9_3)).f2)] 85 (0, 0))) := ⟨by (with_reducible repeat (first | refine blk_drewN ?_ _ | refine blk_drew ?_ | refine blk_alloc ?_ _)); refine blk_put (cs := #[.int .i64 ((rd_T85 x5_3 (Go.bits .andNot .i64 x7_2 x9_3)).f0), .slice A201_1 ((rd_T85 x5_3 (Go.bits .andNot .i64 x7_2 x9_3)).f1).length c201_1, .bool false]) ?_ 2 _ rfl; (with_reducible repeat (first | refine blk_drewN ?_ _ | refine blk_drew ?_ | refine blk_alloc ?_ _)); refine blk_put (cs := #[.int .i64 ((rd_T85 x5_3 (Go.bits .andNot .i64 x7_2 x9_3)).f0), .slice none 0 0, .bool false]) ?_ 1 _ rfl; (with_reducible repeat (first | refine blk_drewN ?_ _ | refine blk_drew ?_ | refine blk_alloc ?_ _)); refine blk_put (cs := #[.int .i64 0, .slice none 0 0, .bool false]) ?_ 0 _ rfl; (with_reducible repeat (first | refine blk_drewN ?_ _ | refine blk_drew ?_ | refine blk_alloc ?_ _)); refine blk_far ?_ NB203_202.out _; (with_reducible repeat (first | refine blk_drewN ?_ _ | refine blk_drew ?_ | refine blk_alloc ?_ _)); refine blk_far ?_ NB203_202.out _; (with_reducible repeat (first | refine blk_drewN ?_ _ | refine blk_drew ?_ | refine blk_alloc ?_ _)); refine blk_far ?_ NB203_202.out _; (with_reducible repeat (first | refine blk_drewN ?_ _ | refine blk_drew ?_ | refine blk_alloc ?_ _)); exact BK203.out⟩
  have n5_ : Aside0 (Below w.heap.size w ((((((w70.setCell ⟨gb202, 0, none⟩ (.int .i64 ((rd_T85 x5_3 x9_3).f0))).setCell ⟨gb202, 1, none⟩ (.slice A200_1 ((rd_T85 x5_3 x9_3).f1).length c200_1)).setCell ⟨gb202, 2, none⟩ (.bool ((rd_T85 x5_3 x9_3).f2))).setCell ⟨gb203, 0, none⟩ (.int .i64 ((rd_T85 x5_3 (Go.bits .andNot .i64 x7_2 x9_3)).f0))).setCell ⟨gb203, 1, none⟩ (.slice A201_1 ((rd_T85 x5_3 (Go.bits .andNot .i64 x7_2 x9_3)).f1).length c201_1)).setCell ⟨gb203, 2, none⟩ (.bool ((rd_T85 x5_3 (Go.bits .andNot .i64 x7_2 x9_3)).f2)))) := ⟨by repeat (first | (with_reducible first | exact HB.out | apply below_alloc | apply pw_below_drewN | apply below_drew1 | refine below_set ?_ GE202.out | refine below_set ?_ GE203.out) | exact HB.out)⟩
  (try clear HO_5)
  (try clear HL200_1)
  (try clear HL201_1)
  (try clear BK202)
  (try clear BK203)
  (try clear HB)
  generalize ((((((w70.setCell ⟨gb202, 0, none⟩ (.int .i64 ((rd_T85 x5_3 x9_3).f0))).setCell ⟨gb202, 1, none⟩ (.slice A200_1 ((rd_T85 x5_3 x9_3).f1).length c200_1)).setCell ⟨gb202, 2, none⟩ (.bool ((rd_T85 x5_3 x9_3).f2))).setCell ⟨gb203, 0, none⟩ (.int .i64 ((rd_T85 x5_3 (Go.bits .andNot .i64 x7_2 x9_3)).f0))).setCell ⟨gb203, 1, none⟩ (.slice A201_1 ((rd_T85 x5_3 (Go.bits .andNot .i64 x7_2 x9_3)).f1).length c201_1)).setCell ⟨gb203, 2, none⟩ (.bool ((rd_T85 x5_3 (Go.bits .andNot .i64 x7_2 x9_3)).f2))) = w77 at n0_ n1_ n2_ n3_ n4_ n5_ ⊢
  have HO_5 := n0_
  have HL200_1 := n1_
  have HL201_1 := n2_
  have BK202 := n3_
  have BK203 := n4_
  have HB := n5_
  clear n0_ n1_ n2_ n3_ n4_ n5_
  have hnb78 := NB202_203.out
  have hnc78 := NB203_202.out
  have hcz79_0 : w77.cell? ⟨gb202, 0, none⟩ = some (.int .i64 ((rd_T85 x5_3 x9_3).f0)) := (blk_cell BK202.out 0).trans rfl
  have hcz79_1 : w77.cell? ⟨gb202, 1, none⟩ = some (.slice A200_1 ((rd_T85 x5_3 x9_3).f1).length c200_1) := (blk_cell BK202.out 1).trans rfl
  have hcz79_2 : w77.cell? ⟨gb202, 2, none⟩ = some (.bool ((rd_T85 x5_3 x9_3).f2)) := (blk_cell BK202.out 2).trans rfl
  have hfz79_0 := blk_frozen BK202.out 0
  have hfz79_1 := blk_frozen BK202.out 1
  have hfz79_2 := blk_frozen BK202.out 2
  have hcz80_0 : w77.cell? ⟨gb203, 0, none⟩ = some (.int .i64 ((rd_T85 x5_3 (Go.bits .andNot .i64 x7_2 x9_3)).f0)) := (blk_cell BK203.out 0).trans rfl
  have hcz80_1 : w77.cell? ⟨gb203, 1, none⟩ = some (.slice A201_1 ((rd_T85 x5_3 (Go.bits .andNot .i64 x7_2 x9_3)).f1).length c201_1) := (blk_cell BK203.out 1).trans rfl
  have hcz80_2 : w77.cell? ⟨gb203, 2, none⟩ = some (.bool ((rd_T85 x5_3 (Go.bits .andNot .i64 x7_2 x9_3)).f2)) := (blk_cell BK203.out 2).trans rfl
  have hfz80_0 := blk_frozen BK203.out 0
  have hfz80_1 := blk_frozen BK203.out 1
  have hfz80_2 := blk_frozen BK203.out 2
  have p204 : 0 ≤ (x7_2 : Int) := of_decide_eq_true s6q6
  have q204 : x7_2 < (x5_3.length : Int) := of_decide_eq_true s6q6
  obtain ⟨ad204, A204_1, c204_1, e204, hx204_0, hx204_1, hx204_2, hl204_1, hi204_1⟩ := at_T85 (Kd.N_reads' HO_5.out).2.2 x7_2 p204 q204
  (try rw [← Nbq21.out] at hx204_2)
  (try rw [← Nbq39.out] at hx204_2)
  obtain rfl : ad197 = ad204 := (by injection e204)
  obtain ⟨ce204, hce204, hMe204, hcc204⟩ := Kd.N_get HO_5.out z85 x7_2 p204 s6q45
  obtain ⟨ua204_1, uc204_1, rfl, ul204_1, ge204_1⟩ := k85_openF hMe204
  have hv204_1 := hcc204 1 _ rfl
  rw [add_field _ _ 1 s6q0] at hv204_1
  replace hv204_1 := Option.some.inj (hv204_1.symm.trans hx204_1)
  injection hv204_1 with hva_ hvn_ hvc_
  rw [hva_] at ge204_1
  rw [hvc_] at ul204_1
  have HL204_1 := Aside0.mk (show Kd.V (Kd.int .i64) 3 _ w.heap.size _ _ ((rd_T85 x5_3 x7_2).f1) from Kd.V_mk ul204_1 ge204_1)
  clear hva_ hvn_ hvc_ ge204_1 ul204_1
  clear hcc204 hce204
  have HR204_1 := Aside0.mk hi204_1
  have HC204_1 := Aside0.mk hl204_1
  clear hi204_1 hl204_1
  replace p204 := eq_true p204
  replace q204 := eq_true q204
  have p205 : 0 ≤ (x7_2 : Int) := of_decide_eq_true s6q6
  have q205 : x7_2 < (x5_3.length : Int) := of_decide_eq_true s6q6
  obtain ⟨ad205, A205_1, c205_1, e205, hx205_0, hx205_1, hx205_2, hl205_1, hi205_1⟩ := at_T85 (Kd.N_reads' HO_5.out).2.2 x7_2 p205 q205
  (try rw [← Nbq21.out] at hx205_2)
  (try rw [← Nbq39.out] at hx205_2)
  obtain rfl : ad197 = ad205 := (by injection e205)
  obtain ⟨ce205, hce205, hMe205, hcc205⟩ := Kd.N_get HO_5.out z85 x7_2 p205 s6q46
  obtain ⟨ua205_1, uc205_1, rfl, ul205_1, ge205_1⟩ := k85_openF hMe205
  have hv205_1 := hcc205 1 _ rfl
  rw [add_field _ _ 1 s6q0] at hv205_1
  replace hv205_1 := Option.some.inj (hv205_1.symm.trans hx205_1)
  injection hv205_1 with hva_ hvn_ hvc_
  rw [hva_] at ge205_1
  rw [hvc_] at ul205_1
  have HL205_1 := Aside0.mk (show Kd.V (Kd.int .i64) 3 _ w.heap.size _ _ ((rd_T85 x5_3 x7_2).f1) from Kd.V_mk ul205_1 ge205_1)
  clear hva_ hvn_ hvc_ ge205_1 ul205_1
  clear hcc205 hce205
  have HR205_1 := Aside0.mk hi205_1
  have HC205_1 := Aside0.mk hl205_1
  clear hi205_1 hl205_1
  replace p205 := eq_true p205
  replace q205 := eq_true q205
  have ea_ := Option.some.inj (hx204_1.symm.trans hx205_1)
  injection ea_ with ea_ en_ ec_
  subst ea_
  subst ec_
  clear en_
  try go_wp2
  (try simp only [← hl5_3])
  first | go_roundg kj27 | (refine Handed.intro kj27 ?measure ?_; rotate_left; go_step; (repeat apply Exists.intro); simp only [add_plain]; refine ⟨?rel, rfl⟩)
  case measure => have := HK1.out; have := HK2.out; have := HK3.out; have := HJ27.out; omega
  case rel => exact ⟨(x5_3), (wrap64 (x9_3 + 1)), s6q5, H', ⟨by have := HK1.out; have := HK2.out; have := HK3.out; have := HJ27.out; omega⟩, ⟨by (try simp only [hl5_3]); (with_reducible repeat (first | apply Kd.N_alloc | apply Kd.N_drewN | apply Kd.N_drew)); exact Kd.N_mono HO_5.out (fun _ hk => hk.1)⟩, ⟨by repeat (first | (with_reducible first | exact HB.out | apply below_alloc | apply pw_below_drewN | apply below_drew1 | refine below_set ?_ GE202.out | refine below_set ?_ GE203.out) | exact HB.out)⟩⟩
 rw [if_pos c41] at H
 have c41b0 : decide ((ji36) < ((rd_T85 x5_3 x7_2).f0)) = true := decide_eq_true c41
 clear c41
 obtain ⟨y206, hy206⟩ : ∃ y_ : List (List Int), y_ = (([(rd_T85 x5_3 x9_3).f1, (rd_T85 x5_3 (Go.bits .andNot .i64 x7_2 x9_3)).f1] : List (List Int))) := ⟨_, rfl⟩
 replace H : ((slices_Concat_int_int.f kj27 y206).bind fun t209 => (if t209.length < 17592186044416 then (peristyleref10_best.l2 kj27 l0 l1 (x5_3.set (x7_2 : Int).toNat (⟨ji36, (t209 ++ [(-1)]), true⟩ : S85)) x7_2 t198 (wrap64 (x9_3 + 1))) else (none))) = some r := sqz hy206 H
 have Ny206 := Aside0.mk hy206
 clear hy206
 replace H := Option.bind_eq_some_iff.mp H
 obtain ⟨t209, A420, H⟩ := H
 replace H : (if t209.length < 17592186044416 then (peristyleref10_best.l2 kj27 l0 l1 (x5_3.set (x7_2 : Int).toNat (⟨ji36, (t209 ++ [(-1)]), true⟩ : S85)) x7_2 t198 (wrap64 (x9_3 + 1))) else (none)) = some r := H
 have A42 := Aside0.mk A420
 clear A420
 by_cases c43 : t209.length < 17592186044416
 case neg =>
  rw [if_neg c43] at H
  exact absurd H (by simp)
 rw [if_pos c43] at H
 have LMc43 := Aside0.mk c43
 clear c43
 obtain ⟨y212, hy212⟩ : ∃ y_ : List Int, y_ = (t209 ++ [(-1)]) := ⟨_, rfl⟩
 replace H : (peristyleref10_best.l2 kj27 l0 l1 (x5_3.set (x7_2 : Int).toNat (⟨ji36, y212, true⟩ : S85)) x7_2 t198 (wrap64 (x9_3 + 1))) = some r := sqz hy212 H
 have Ny212 := Aside0.mk hy212
 clear hy212
 obtain ⟨y215, hy215⟩ : ∃ y_ : List (S85), y_ = (x5_3.set (x7_2 : Int).toNat (⟨ji36, y212, true⟩ : S85)) := ⟨_, rfl⟩
 replace H : (peristyleref10_best.l2 kj27 l0 l1 y215 x7_2 t198 (wrap64 (x9_3 + 1))) = some r := sqz hy215 H
 have Ny215 := Aside0.mk hy215
 clear hy215
 have H' := Aside0.mk H
 clear H
 try go_wp2
 have n0_ := Aside0.mk (Kd.N_drew HO_5.out)
 have n1_ := Aside0.mk (below_drew1 HB.out)
 clear HO_5
 clear HB
 have HO_5 := n0_
 have HB := n1_
 clear n0_ n1_
 have p200 : 0 ≤ (x9_3 : Int) := of_decide_eq_true s6q6
 have q200 : x9_3 < (x5_3.length : Int) := of_decide_eq_true s6q6
 obtain ⟨ad200, A200_1, c200_1, e200, hx200_0, hx200_1, hx200_2, hl200_1, hi200_1⟩ := at_T85 (Kd.N_reads' HO_5.out).2.2 x9_3 p200 q200
 (try rw [← Nbq21.out] at hx200_2)
 (try rw [← Nbq39.out] at hx200_2)
 obtain rfl : ad197 = ad200 := (by injection e200)
 obtain ⟨ce200, hce200, hMe200, hcc200⟩ := Kd.N_get HO_5.out z85 x9_3 p200 s6q43
 obtain ⟨ua200_1, uc200_1, rfl, ul200_1, ge200_1⟩ := k85_openF hMe200
 have hv200_1 := hcc200 1 _ rfl
 rw [add_field _ _ 1 s6q0] at hv200_1
 replace hv200_1 := Option.some.inj (hv200_1.symm.trans hx200_1)
 injection hv200_1 with hva_ hvn_ hvc_
 rw [hva_] at ge200_1
 rw [hvc_] at ul200_1
 have HL200_1 := Aside0.mk (show Kd.V (Kd.int .i64) 3 _ w.heap.size _ _ ((rd_T85 x5_3 x9_3).f1) from Kd.V_mk ul200_1 ge200_1)
 clear hva_ hvn_ hvc_ ge200_1 ul200_1
 clear hcc200 hce200
 have HR200_1 := Aside0.mk hi200_1
 have HC200_1 := Aside0.mk hl200_1
 clear hi200_1 hl200_1
 replace p200 := eq_true p200
 replace q200 := eq_true q200
 have p201 : 0 ≤ ((Go.bits .andNot .i64 x7_2 x9_3) : Int) := of_decide_eq_true s6q6
 have q201 : (Go.bits .andNot .i64 x7_2 x9_3) < (x5_3.length : Int) := of_decide_eq_true s6q6
 obtain ⟨ad201, A201_1, c201_1, e201, hx201_0, hx201_1, hx201_2, hl201_1, hi201_1⟩ := at_T85 (Kd.N_reads' HO_5.out).2.2 (Go.bits .andNot .i64 x7_2 x9_3) p201 q201
 (try rw [← Nbq21.out] at hx201_2)
 (try rw [← Nbq39.out] at hx201_2)
 obtain rfl : ad197 = ad201 := (by injection e201)
 obtain ⟨ce201, hce201, hMe201, hcc201⟩ := Kd.N_get HO_5.out z85 (Go.bits .andNot .i64 x7_2 x9_3) p201 s6q44
 obtain ⟨ua201_1, uc201_1, rfl, ul201_1, ge201_1⟩ := k85_openF hMe201
 have hv201_1 := hcc201 1 _ rfl
 rw [add_field _ _ 1 s6q0] at hv201_1
 replace hv201_1 := Option.some.inj (hv201_1.symm.trans hx201_1)
 injection hv201_1 with hva_ hvn_ hvc_
 rw [hva_] at ge201_1
 rw [hvc_] at ul201_1
 have HL201_1 := Aside0.mk (show Kd.V (Kd.int .i64) 3 _ w.heap.size _ _ ((rd_T85 x5_3 (Go.bits .andNot .i64 x7_2 x9_3)).f1) from Kd.V_mk ul201_1 ge201_1)
 clear hva_ hvn_ hvc_ ge201_1 ul201_1
 clear hcc201 hce201
 have HR201_1 := Aside0.mk hi201_1
 have HC201_1 := Aside0.mk hl201_1
 clear hi201_1 hl201_1
 replace p201 := eq_true p201
 replace q201 := eq_true q201
 refine start_ (n := 14) (S := fun w' => w'.cell? (ad197.add ((x9_3).toNat * 3)) = some (.int .i64 ((rd_T85 x5_3 x9_3).f0)) ∧ w'.cell? ⟨(ad197.add ((x9_3).toNat * 3)).block, (ad197.add ((x9_3).toNat * 3)).off + 1, none⟩ = some (.slice A200_1 ((rd_T85 x5_3 x9_3).f1).length c200_1) ∧ w'.cell? ⟨(ad197.add ((x9_3).toNat * 3)).block, (ad197.add ((x9_3).toNat * 3)).off + 2, none⟩ = some (.bool ((rd_T85 x5_3 x9_3).f2)) ∧ w'.cell? (ad197.add (((Go.bits .andNot .i64 x7_2 x9_3)).toNat * 3)) = some (.int .i64 ((rd_T85 x5_3 (Go.bits .andNot .i64 x7_2 x9_3)).f0)) ∧ w'.cell? ⟨(ad197.add (((Go.bits .andNot .i64 x7_2 x9_3)).toNat * 3)).block, (ad197.add (((Go.bits .andNot .i64 x7_2 x9_3)).toNat * 3)).off + 1, none⟩ = some (.slice A201_1 ((rd_T85 x5_3 (Go.bits .andNot .i64 x7_2 x9_3)).f1).length c201_1) ∧ w'.cell? ⟨(ad197.add (((Go.bits .andNot .i64 x7_2 x9_3)).toNat * 3)).block, (ad197.add (((Go.bits .andNot .i64 x7_2 x9_3)).toNat * 3)).off + 2, none⟩ = some (.bool ((rd_T85 x5_3 (Go.bits .andNot .i64 x7_2 x9_3)).f2))) (ds := []) #[false, false, false, false, false, false, false, false, false, false, false, false, false, false] s6q2 rfl rfl ⟨hx200_0, hx200_1, hx200_2, hx201_0, hx201_1, hx201_2⟩ (fun hHeld => ?_); refine with_tabW peristyleref10_best.tab16 peristyleref10_best.bits16 (fun HT_ HW_ => ?_)
 generalize wc.drew = w45 at HO_5 HB HL200_1 HL201_1 HR200_1 HR201_1 hx200_0 hx200_1 hx200_2 hx201_0 hx201_1 hx201_2 hHeld ⊢
 refine pure_ (i := 0) (N := some 62) (v := ?_) (a' := ?_) #[true, false, false, false, false, false, false, false, false, false, false, false, false, false] rfl rfl (any_of HT_.out s6q2) (fun _ _ _ h => h) (Or.inl ⟨by rfl, ?_⟩) ?_ ?_
 rotate_left
 · intro w'
   go_simp
   with_reducible rfl
 rotate_left
 · simp only [Act.put, sqa, sqb, sqc, i64_w, i32_w]
   rfl
 refine pure_ (i := 1) (N := some 63) (v := ?_) (a' := ?_) #[true, true, false, false, false, false, false, false, false, false, false, false, false, false] rfl rfl (any_of HT_.out s6q2) (fun _ _ _ h => h) (Or.inl ⟨by rfl, ?_⟩) ?_ ?_
 rotate_left
 · intro w'
   go_simp
   with_reducible rfl
 rotate_left
 · simp only [Act.put, sqa, sqb, sqc, i64_w, i32_w]
   rfl
 refine pure_ (i := 2) (N := some 64) (v := ?_) (a' := ?_) #[true, true, true, false, false, false, false, false, false, false, false, false, false, false] rfl rfl (any_of HT_.out s6q2) (fun _ _ _ h => h) (Or.inl ⟨by rfl, ?_⟩) ?_ ?_
 rotate_left
 · intro w'
   go_simp
   with_reducible rfl
 rotate_left
 · simp only [Act.put, sqa, sqb, sqc, i64_w, i32_w]
   rfl
 refine pure_ (i := 4) (N := some 66) (v := ?_) (a' := ?_) #[true, true, true, false, true, false, false, false, false, false, false, false, false, false] rfl rfl (any_of HT_.out s6q2) (fun _ _ _ h => h) (Or.inl ⟨by rfl, ?_⟩) ?_ ?_
 rotate_left
 · intro w'
   go_simp
   with_reducible rfl
 rotate_left
 · simp only [Act.put, sqa, sqb, sqc, i64_w, i32_w]
   rfl
 refine pure_ (i := 5) (N := some 67) (v := ?_) (a' := ?_) #[true, true, true, false, true, true, false, false, false, false, false, false, false, false] rfl rfl (any_of HT_.out s6q2) (fun _ _ _ h => h) (Or.inl ⟨by rfl, ?_⟩) ?_ ?_
 rotate_left
 · intro w'
   go_simp
   with_reducible rfl
 rotate_left
 · simp only [Act.put, sqa, sqb, sqc, i64_w, i32_w]
   rfl
 refine pure_ (i := 6) (N := some 68) (v := ?_) (a' := ?_) #[true, true, true, false, true, true, true, false, false, false, false, false, false, false] rfl rfl (any_of HT_.out s6q2) (fun _ _ _ h => h) (Or.inl ⟨by rfl, ?_⟩) ?_ ?_
 rotate_left
 · intro w'
   go_simp
   with_reducible rfl
 rotate_left
 · simp only [Act.put, sqa, sqb, sqc, i64_w, i32_w]
   rfl
 refine pure_ (i := 7) (N := some 69) (v := ?_) (a' := ?_) #[true, true, true, false, true, true, true, true, false, false, false, false, false, false] rfl rfl (any_of HT_.out s6q2) (fun _ _ _ h => h) (Or.inl ⟨by rfl, ?_⟩) ?_ ?_
 rotate_left
 · intro w'
   go_simp
   with_reducible rfl
 rotate_left
 · simp only [Act.put, sqa, sqb, sqc, i64_w, i32_w]
   rfl
 refine pure_ (i := 8) (N := some 70) (v := ?_) (a' := ?_) #[true, true, true, false, true, true, true, true, true, false, false, false, false, false] rfl rfl (any_of HT_.out s6q2) (fun _ _ _ h => h) (Or.inl ⟨by rfl, ?_⟩) ?_ ?_
 rotate_left
 · intro w'
   go_simp
   with_reducible rfl
 rotate_left
 · simp only [Act.put, sqa, sqb, sqc, i64_w, i32_w]
   rfl
 refine take_ (i := 3) (N := some 65) (v := ?_) (a' := ?_) #[true, true, true, true, true, true, true, true, true, false, false, false, false, false] rfl rfl (take_ofW HT_.out HW_.out s6q2) (fun _ _ _ h => h) (Or.inl ⟨by rfl, ?_⟩) hHeld ?_ ?_
 rotate_left
 · rintro w' ⟨s0, s1, s2, s3, s4, s5⟩
   go_simp
   with_reducible rfl
 rotate_left
 · simp only [Act.put, sqa, sqb, sqc, i64_w, i32_w]
   rfl
 refine take_ (i := 9) (N := some 71) (v := ?_) (a' := ?_) #[true, true, true, true, true, true, true, true, true, true, false, false, false, false] rfl rfl (take_ofW HT_.out HW_.out s6q2) (fun _ _ _ h => h) (Or.inl ⟨by rfl, ?_⟩) hHeld ?_ ?_
 rotate_left
 · rintro w' ⟨s0, s1, s2, s3, s4, s5⟩
   go_simp
   with_reducible rfl
 rotate_left
 · simp only [Act.put, sqa, sqb, sqc, i64_w, i32_w]
   rfl
 refine join_ (σ := Nat × Nat) 2 #[true, true, true, true, true, true, true, true, true, true, true, true, false, false] (fun s_ => [(10, .pointer (some ⟨s_.1, 0, none⟩)), (11, .pointer (some ⟨s_.2, 0, none⟩))]) (fun s_ w' => (w'.cell? (ad197.add ((x9_3).toNat * 3)) = some (.int .i64 ((rd_T85 x5_3 x9_3).f0)) ∧ w'.cell? ⟨(ad197.add ((x9_3).toNat * 3)).block, (ad197.add ((x9_3).toNat * 3)).off + 1, none⟩ = some (.slice A200_1 ((rd_T85 x5_3 x9_3).f1).length c200_1) ∧ w'.cell? ⟨(ad197.add ((x9_3).toNat * 3)).block, (ad197.add ((x9_3).toNat * 3)).off + 2, none⟩ = some (.bool ((rd_T85 x5_3 x9_3).f2)) ∧ w'.cell? (ad197.add (((Go.bits .andNot .i64 x7_2 x9_3)).toNat * 3)) = some (.int .i64 ((rd_T85 x5_3 (Go.bits .andNot .i64 x7_2 x9_3)).f0)) ∧ w'.cell? ⟨(ad197.add (((Go.bits .andNot .i64 x7_2 x9_3)).toNat * 3)).block, (ad197.add (((Go.bits .andNot .i64 x7_2 x9_3)).toNat * 3)).off + 1, none⟩ = some (.slice A201_1 ((rd_T85 x5_3 (Go.bits .andNot .i64 x7_2 x9_3)).f1).length c201_1) ∧ w'.cell? ⟨(ad197.add (((Go.bits .andNot .i64 x7_2 x9_3)).toNat * 3)).block, (ad197.add (((Go.bits .andNot .i64 x7_2 x9_3)).toNat * 3)).off + 2, none⟩ = some (.bool ((rd_T85 x5_3 (Go.bits .andNot .i64 x7_2 x9_3)).f2))) ∧ (Kd.V (Kd.int .i64) 3 w' w.heap.size (fun k_ => (w.heap.size ≤ k_) ∧ some k_ ≠ (.slice (some ad197) x5_3.length co25 : Value).ownBlock ∧ k_ ≠ s_.1 ∧ k_ ≠ s_.2) (.slice A200_1 ((rd_T85 x5_3 x9_3).f1).length c200_1) ((rd_T85 x5_3 x9_3).f1)) ∧ (Kd.V (Kd.int .i64) 3 w' w.heap.size (fun k_ => (w.heap.size ≤ k_) ∧ some k_ ≠ (.slice (some ad197) x5_3.length co25 : Value).ownBlock ∧ k_ ≠ s_.1 ∧ k_ ≠ s_.2) (.slice A201_1 ((rd_T85 x5_3 (Go.bits .andNot .i64 x7_2 x9_3)).f1).length c201_1) ((rd_T85 x5_3 (Go.bits .andNot .i64 x7_2 x9_3)).f1)) ∧ (Kd.N k85 85 w' w.heap.size (fun k_ => (w.heap.size ≤ k_) ∧ k_ ≠ s_.1 ∧ k_ ≠ s_.2) (.slice (some ad197) x5_3.length co25) x5_3) ∧ (w'.heap[s_.1]? = some (.cells #[.int .i64 0, .slice none 0 0, .bool false] 85 (0, 0))) ∧ (w'.heap[s_.2]? = some (.cells #[.int .i64 0, .slice none 0 0, .bool false] 85 (0, 0))) ∧ (w.heap.size ≤ s_.1) ∧ (w.heap.size ≤ s_.1) ∧ (s_.2 ≠ s_.1) ∧ (s_.1 ≠ s_.2) ∧ (w.heap.size ≤ s_.2) ∧ (w.heap.size ≤ s_.2) ∧ (Below w.heap.size w w')) ?_ ?_
 rotate_left
 · intro hCont
   refine two_ (i := 10) (j := 11) (Ni := some 10) (Nj := some 11) #[true, true, true, true, true, true, true, true, true, true, true, false, false, false] #[true, true, true, true, true, true, true, true, true, true, false, true, false, false] rfl rfl rfl rfl (two_of HT_.out s6q2) s6q1 s6q1 (fun K hK => ?_) (fun K hK => ?_)
   · skip
     refine box_step ?hg (N := 10) ?hd (cs := #[.int .i64 0, .slice none 0 0, .bool false]) (t := 85) ?hr ?_; (case hd => rfl); (case hg => rfl); (case hr => first | (go_simp; done) | (go_simp; rfl))
     intro gb202 hg w46 hbox hb
     have HS0_ := pw_cell_below hb hHeld.1
     have HS1_ := pw_cell_below hb hHeld.2.1
     have HS2_ := pw_cell_below hb hHeld.2.2.1
     have HS3_ := pw_cell_below hb hHeld.2.2.2.1
     have HS4_ := pw_cell_below hb hHeld.2.2.2.2.1
     have HS5_ := pw_cell_below hb hHeld.2.2.2.2.2
     have n0_ := Aside0.mk (Kd.N_below (Kd.N_elderB s6q7 gb202 (Nat.le_of_eq hg.symm)) hb)
     have n1_ := Aside0.mk (Kd.V_below (Kd.V_elderB s6q10 gb202 (Nat.le_of_eq hg.symm)) hb)
     have n2_ := Aside0.mk (Kd.V_below (Kd.V_elderB s6q11 gb202 (Nat.le_of_eq hg.symm)) hb)
     have n3_ := Aside0.mk (Kd.C_below s6q28 hb)
     have n4_ := Aside0.mk (Kd.C_below s6q29 hb)
     have n5_ := Aside0.mk (below_step s6q16 hb)
     have n6_ := Aside0.mk (hbox)
     have n7_ := Aside0.mk ((s6q49 : w.heap.size ≤ gb202))
     have n8_ := Aside0.mk ((s6q49 : w.heap.size ≤ gb202))
     clear HO_5
     clear HL200_1
     clear HL201_1
     clear HR200_1
     clear HR201_1
     clear HB
     have HO_5 := n0_
     have HL200_1 := n1_
     have HL201_1 := n2_
     have HR200_1 := n3_
     have HR201_1 := n4_
     have HB := n5_
     have BK202 := n6_
     have GW202 := n7_
     have GE202 := n8_
     clear n0_ n1_ n2_ n3_ n4_ n5_ n6_ n7_ n8_
     clear hb hbox hg
     refine hK.out _ _ ⟨HS0_, HS1_, HS2_, HS3_, HS4_, HS5_⟩ (fun hHeld => ?_)
     clear hK K
     refine norm_ (a' := ?_) ?_ ?_
     rotate_left
     · show Act.put _ (some 10) _ = _
       simp only [Act.put, sqa, sqb, sqc, i64_w, i32_w]
       rfl
     refine one_ (i := 11) (N := some 11) #[true, true, true, true, true, true, true, true, true, true, true, true, false, false] rfl rfl (one_of HT_.out s6q2) s6q1 (fun K hK => ?_)
     refine box_step ?hg (N := 11) ?hd (cs := #[.int .i64 0, .slice none 0 0, .bool false]) (t := 85) ?hr ?_; (case hd => rfl); (case hg => rfl); (case hr => first | (go_simp; done) | (go_simp; rfl))
     intro gb203 hg w47 hbox hb
     have HS0_ := pw_cell_below hb hHeld.1
     have HS1_ := pw_cell_below hb hHeld.2.1
     have HS2_ := pw_cell_below hb hHeld.2.2.1
     have HS3_ := pw_cell_below hb hHeld.2.2.2.1
     have HS4_ := pw_cell_below hb hHeld.2.2.2.2.1
     have HS5_ := pw_cell_below hb hHeld.2.2.2.2.2
     have n0_ := Aside0.mk (Kd.N_below (Kd.N_elderB s6q7 gb203 (Nat.le_of_eq hg.symm)) hb)
     have n1_ := Aside0.mk (Kd.V_below (Kd.V_elderB s6q10 gb203 (Nat.le_of_eq hg.symm)) hb)
     have n2_ := Aside0.mk (Kd.V_below (Kd.V_elderB s6q11 gb203 (Nat.le_of_eq hg.symm)) hb)
     have n3_ := Aside0.mk (Kd.C_below s6q28 hb)
     have n4_ := Aside0.mk (Kd.C_below s6q29 hb)
     have n5_ := Aside0.mk (blk_below (g := gb202) (o := .cells #[.int .i64 0, .slice none 0 0, .bool false] 85 (0, 0)) s6q14 hb)
     have n6_ := Aside0.mk (below_step s6q20 hb)
     have n7_ := Aside0.mk (hbox)
     have n8_ := Aside0.mk ((s6q50 : w.heap.size ≤ gb203))
     have n9_ := Aside0.mk ((s6q50 : w.heap.size ≤ gb203))
     have n10_ := Aside0.mk ((s6q54 : gb202 ≠ gb203))
     have n11_ := Aside0.mk ((s6q52 : gb203 ≠ gb202))
     clear HO_5
     clear HL200_1
     clear HL201_1
     clear HR200_1
     clear HR201_1
     clear BK202
     clear HB
     have HO_5 := n0_
     have HL200_1 := n1_
     have HL201_1 := n2_
     have HR200_1 := n3_
     have HR201_1 := n4_
     have BK202 := n5_
     have HB := n6_
     have BK203 := n7_
     have GW203 := n8_
     have GE203 := n9_
     have NB202_203 := n10_
     have NB203_202 := n11_
     clear n0_ n1_ n2_ n3_ n4_ n5_ n6_ n7_ n8_ n9_ n10_ n11_
     clear hb hbox hg
     refine hK.out _ _ ⟨HS0_, HS1_, HS2_, HS3_, HS4_, HS5_⟩ (fun hHeld => ?_)
     clear hK K
     refine norm_ (a' := ?_) ?_ ?_
     rotate_left
     · show Act.put _ (some 11) _ = _
       simp only [Act.put, sqa, sqb, sqc, i64_w, i32_w]
       rfl
     exact norm_ s6q4 (hCont (gb202, gb203) _ ⟨hHeld, s6q22, s6q24, s6q18, s6q14, s6q15, GW202.out, GE202.out, NB203_202.out, NB202_203.out, GW203.out, GE203.out, s6q32⟩)
   skip
   refine box_step ?hg (N := 11) ?hd (cs := #[.int .i64 0, .slice none 0 0, .bool false]) (t := 85) ?hr ?_; (case hd => rfl); (case hg => rfl); (case hr => first | (go_simp; done) | (go_simp; rfl))
   intro gb203 hg w46 hbox hb
   have HS0_ := pw_cell_below hb hHeld.1
   have HS1_ := pw_cell_below hb hHeld.2.1
   have HS2_ := pw_cell_below hb hHeld.2.2.1
   have HS3_ := pw_cell_below hb hHeld.2.2.2.1
   have HS4_ := pw_cell_below hb hHeld.2.2.2.2.1
   have HS5_ := pw_cell_below hb hHeld.2.2.2.2.2
   have n0_ := Aside0.mk (Kd.N_below (Kd.N_elderB s6q7 gb203 (Nat.le_of_eq hg.symm)) hb)
   have n1_ := Aside0.mk (Kd.V_below (Kd.V_elderB s6q10 gb203 (Nat.le_of_eq hg.symm)) hb)
   have n2_ := Aside0.mk (Kd.V_below (Kd.V_elderB s6q11 gb203 (Nat.le_of_eq hg.symm)) hb)
   have n3_ := Aside0.mk (Kd.C_below s6q28 hb)
   have n4_ := Aside0.mk (Kd.C_below s6q29 hb)
   have n5_ := Aside0.mk (below_step s6q16 hb)
   have n6_ := Aside0.mk (hbox)
   have n7_ := Aside0.mk ((s6q49 : w.heap.size ≤ gb203))
   have n8_ := Aside0.mk ((s6q49 : w.heap.size ≤ gb203))
   clear HO_5
   clear HL200_1
   clear HL201_1
   clear HR200_1
   clear HR201_1
   clear HB
   have HO_5 := n0_
   have HL200_1 := n1_
   have HL201_1 := n2_
   have HR200_1 := n3_
   have HR201_1 := n4_
   have HB := n5_
   have BK203 := n6_
   have GW203 := n7_
   have GE203 := n8_
   clear n0_ n1_ n2_ n3_ n4_ n5_ n6_ n7_ n8_
   clear hb hbox hg
   refine hK.out _ _ ⟨HS0_, HS1_, HS2_, HS3_, HS4_, HS5_⟩ (fun hHeld => ?_)
   clear hK K
   refine norm_ (a' := ?_) ?_ ?_
   rotate_left
   · show Act.put _ (some 11) _ = _
     simp only [Act.put, sqa, sqb, sqc, i64_w, i32_w]
     rfl
   refine one_ (i := 10) (N := some 10) #[true, true, true, true, true, true, true, true, true, true, true, true, false, false] rfl rfl (one_of HT_.out s6q2) s6q1 (fun K hK => ?_)
   refine box_step ?hg (N := 10) ?hd (cs := #[.int .i64 0, .slice none 0 0, .bool false]) (t := 85) ?hr ?_; (case hd => rfl); (case hg => rfl); (case hr => first | (go_simp; done) | (go_simp; rfl))
   intro gb202 hg w47 hbox hb
   have HS0_ := pw_cell_below hb hHeld.1
   have HS1_ := pw_cell_below hb hHeld.2.1
   have HS2_ := pw_cell_below hb hHeld.2.2.1
   have HS3_ := pw_cell_below hb hHeld.2.2.2.1
   have HS4_ := pw_cell_below hb hHeld.2.2.2.2.1
   have HS5_ := pw_cell_below hb hHeld.2.2.2.2.2
   have n0_ := Aside0.mk (Kd.N_below (Kd.N_elderB s6q7 gb202 (Nat.le_of_eq hg.symm)) hb)
   have n1_ := Aside0.mk (Kd.V_below (Kd.V_elderB s6q10 gb202 (Nat.le_of_eq hg.symm)) hb)
   have n2_ := Aside0.mk (Kd.V_below (Kd.V_elderB s6q11 gb202 (Nat.le_of_eq hg.symm)) hb)
   have n3_ := Aside0.mk (Kd.C_below s6q28 hb)
   have n4_ := Aside0.mk (Kd.C_below s6q29 hb)
   have n5_ := Aside0.mk (blk_below (g := gb203) (o := .cells #[.int .i64 0, .slice none 0 0, .bool false] 85 (0, 0)) s6q15 hb)
   have n6_ := Aside0.mk (below_step s6q21 hb)
   have n7_ := Aside0.mk (hbox)
   have n8_ := Aside0.mk ((s6q51 : w.heap.size ≤ gb202))
   have n9_ := Aside0.mk ((s6q51 : w.heap.size ≤ gb202))
   have n10_ := Aside0.mk ((s6q55 : gb203 ≠ gb202))
   have n11_ := Aside0.mk ((s6q53 : gb202 ≠ gb203))
   clear HO_5
   clear HL200_1
   clear HL201_1
   clear HR200_1
   clear HR201_1
   clear BK203
   clear HB
   have HO_5 := n0_
   have HL200_1 := n1_
   have HL201_1 := n2_
   have HR200_1 := n3_
   have HR201_1 := n4_
   have BK203 := n5_
   have HB := n6_
   have BK202 := n7_
   have GW202 := n8_
   have GE202 := n9_
   have NB203_202 := n10_
   have NB202_203 := n11_
   clear n0_ n1_ n2_ n3_ n4_ n5_ n6_ n7_ n8_ n9_ n10_ n11_
   clear hb hbox hg
   refine hK.out _ _ ⟨HS0_, HS1_, HS2_, HS3_, HS4_, HS5_⟩ (fun hHeld => ?_)
   clear hK K
   refine norm_ (a' := ?_) ?_ ?_
   rotate_left
   · show Act.put _ (some 10) _ = _
     simp only [Act.put, sqa, sqb, sqc, i64_w, i32_w]
     rfl
   exact norm_ s6q4 (hCont (gb202, gb203) _ ⟨hHeld, s6q23, s6q25, s6q19, s6q14, s6q15, GW202.out, GE202.out, NB203_202.out, NB202_203.out, GW203.out, GE203.out, s6q33⟩)
 rintro ⟨gb202, gb203⟩ w48 ⟨hS_, h0_, h1_, h2_, h3_, h4_, h5_, h6_, h7_, h8_, h9_, h10_, h11_⟩
 have n0_ : Aside0 (Kd.V (Kd.int .i64) 3 w48 w.heap.size (fun k_ => (w.heap.size ≤ k_) ∧ some k_ ≠ (.slice (some ad197) x5_3.length co25 : Value).ownBlock ∧ k_ ≠ gb202 ∧ k_ ≠ gb203) (.slice A200_1 ((rd_T85 x5_3 x9_3).f1).length c200_1) ((rd_T85 x5_3 x9_3).f1)) := ⟨h0_⟩
 have n1_ : Aside0 (Kd.V (Kd.int .i64) 3 w48 w.heap.size (fun k_ => (w.heap.size ≤ k_) ∧ some k_ ≠ (.slice (some ad197) x5_3.length co25 : Value).ownBlock ∧ k_ ≠ gb202 ∧ k_ ≠ gb203) (.slice A201_1 ((rd_T85 x5_3 (Go.bits .andNot .i64 x7_2 x9_3)).f1).length c201_1) ((rd_T85 x5_3 (Go.bits .andNot .i64 x7_2 x9_3)).f1)) := ⟨h1_⟩
 have n2_ : Aside0 (Kd.N k85 85 w48 w.heap.size (fun k_ => (w.heap.size ≤ k_) ∧ k_ ≠ gb202 ∧ k_ ≠ gb203) (.slice (some ad197) x5_3.length co25) x5_3) := ⟨h2_⟩
 have n3_ : Aside0 (w48.heap[gb202]? = some (.cells #[.int .i64 0, .slice none 0 0, .bool false] 85 (0, 0))) := ⟨h3_⟩
 have n4_ : Aside0 (w48.heap[gb203]? = some (.cells #[.int .i64 0, .slice none 0 0, .bool false] 85 (0, 0))) := ⟨h4_⟩
 have n5_ : Aside0 (w.heap.size ≤ gb202) := ⟨h5_⟩
 have n6_ : Aside0 (w.heap.size ≤ gb202) := ⟨h6_⟩
 have n7_ : Aside0 (gb203 ≠ gb202) := ⟨h7_⟩
 have n8_ : Aside0 (gb202 ≠ gb203) := ⟨h8_⟩
 have n9_ : Aside0 (w.heap.size ≤ gb203) := ⟨h9_⟩
 have n10_ : Aside0 (w.heap.size ≤ gb203) := ⟨h10_⟩
 have n11_ : Aside0 (Below w.heap.size w w48) := ⟨h11_⟩
 clear HO_5
 clear HB
 clear h0_ h1_ h2_ h3_ h4_ h5_ h6_ h7_ h8_ h9_ h10_ h11_
 have HL200_1 := n0_
 have HL201_1 := n1_
 have HO_5 := n2_
 have BK202 := n3_
 have BK203 := n4_
 have GW202 := n5_
 have GE202 := n6_
 have NB203_202 := n7_
 have NB202_203 := n8_
 have GW203 := n9_
 have GE203 := n10_
 have HB := n11_
 clear n0_ n1_ n2_ n3_ n4_ n5_ n6_ n7_ n8_ n9_ n10_ n11_
 have hHeld : w48.cell? (ad197.add ((x9_3).toNat * 3)) = some (.int .i64 ((rd_T85 x5_3 x9_3).f0)) ∧ w48.cell? ⟨(ad197.add ((x9_3).toNat * 3)).block, (ad197.add ((x9_3).toNat * 3)).off + 1, none⟩ = some (.slice A200_1 ((rd_T85 x5_3 x9_3).f1).length c200_1) ∧ w48.cell? ⟨(ad197.add ((x9_3).toNat * 3)).block, (ad197.add ((x9_3).toNat * 3)).off + 2, none⟩ = some (.bool ((rd_T85 x5_3 x9_3).f2)) ∧ w48.cell? (ad197.add (((Go.bits .andNot .i64 x7_2 x9_3)).toNat * 3)) = some (.int .i64 ((rd_T85 x5_3 (Go.bits .andNot .i64 x7_2 x9_3)).f0)) ∧ w48.cell? ⟨(ad197.add (((Go.bits .andNot .i64 x7_2 x9_3)).toNat * 3)).block, (ad197.add (((Go.bits .andNot .i64 x7_2 x9_3)).toNat * 3)).off + 1, none⟩ = some (.slice A201_1 ((rd_T85 x5_3 (Go.bits .andNot .i64 x7_2 x9_3)).f1).length c201_1) ∧ w48.cell? ⟨(ad197.add (((Go.bits .andNot .i64 x7_2 x9_3)).toNat * 3)).block, (ad197.add (((Go.bits .andNot .i64 x7_2 x9_3)).toNat * 3)).off + 2, none⟩ = some (.bool ((rd_T85 x5_3 (Go.bits .andNot .i64 x7_2 x9_3)).f2)) := hS_
 refine norm_ (a' := ?_) ?_ ?_
 rotate_left
 · simp only [putAll, Act.put, sqa, sqb, sqc]
   rfl
 refine one_ (i := 12) (N := none) #[true, true, true, true, true, true, true, true, true, true, true, true, true, false] rfl rfl (one_of HT_.out s6q2) s6q1 (fun K hK => ?_)
 have hs49 : w48.cell? ⟨gb202, 0, none⟩ = some (.int .i64 0) := (blk_cell BK202.out 0).trans rfl
 have hfs49 := blk_frozen BK202.out 0
 have hns49_1 := NB203_202.out
 have hms49_1 := NB202_203.out
 have hs50 : w48.cell? ⟨gb202, 1, none⟩ = some (.slice none 0 0) := (blk_cell BK202.out 1).trans rfl
 have hfs50 := blk_frozen BK202.out 1
 have hns50_1 := NB203_202.out
 have hms50_1 := NB202_203.out
 have hs51 : w48.cell? ⟨gb202, 2, none⟩ = some (.bool false) := (blk_cell BK202.out 2).trans rfl
 have hfs51 := blk_frozen BK202.out 2
 have hns51_1 := NB203_202.out
 have hms51_1 := NB202_203.out
 refine skip_ (w1 := ?_) (by rfl) rfl ?_ ?_
 rotate_left
 · go_simp
   rfl
 refine hK.out _ _ ⟨((cell_far (p := ⟨gb202, _, none⟩) s6q40 _).trans (((cell_far (p := ⟨gb202, _, none⟩) s6q40 _).trans (((cell_far (p := ⟨gb202, _, none⟩) s6q40 _).trans (hHeld.1)))))), ((cell_far (p := ⟨gb202, _, none⟩) s6q40 _).trans (((cell_far (p := ⟨gb202, _, none⟩) s6q40 _).trans (((cell_far (p := ⟨gb202, _, none⟩) s6q40 _).trans (hHeld.2.1)))))), ((cell_far (p := ⟨gb202, _, none⟩) s6q40 _).trans (((cell_far (p := ⟨gb202, _, none⟩) s6q40 _).trans (((cell_far (p := ⟨gb202, _, none⟩) s6q40 _).trans (hHeld.2.2.1)))))), ((cell_far (p := ⟨gb202, _, none⟩) s6q40 _).trans (((cell_far (p := ⟨gb202, _, none⟩) s6q40 _).trans (((cell_far (p := ⟨gb202, _, none⟩) s6q40 _).trans (hHeld.2.2.2.1)))))), ((cell_far (p := ⟨gb202, _, none⟩) s6q40 _).trans (((cell_far (p := ⟨gb202, _, none⟩) s6q40 _).trans (((cell_far (p := ⟨gb202, _, none⟩) s6q40 _).trans (hHeld.2.2.2.2.1)))))), ((cell_far (p := ⟨gb202, _, none⟩) s6q40 _).trans (((cell_far (p := ⟨gb202, _, none⟩) s6q40 _).trans (((cell_far (p := ⟨gb202, _, none⟩) s6q40 _).trans (hHeld.2.2.2.2.2))))))⟩ (fun hHeld => ?_)
 clear hK K
 refine one_ (i := 13) (N := none) #[true, true, true, true, true, true, true, true, true, true, true, true, true, true] rfl rfl (one_of HT_.out s6q2) s6q1 (fun K hK => ?_)
 have hs52 : w48.cell? ⟨gb203, 0, none⟩ = some (.int .i64 0) := (blk_cell BK203.out 0).trans rfl
 have hfs52 := blk_frozen BK203.out 0
 have hns52_0 := NB202_203.out
 have hms52_0 := NB203_202.out
 have hs53 : w48.cell? ⟨gb203, 1, none⟩ = some (.slice none 0 0) := (blk_cell BK203.out 1).trans rfl
 have hfs53 := blk_frozen BK203.out 1
 have hns53_0 := NB202_203.out
 have hms53_0 := NB203_202.out
 have hs54 : w48.cell? ⟨gb203, 2, none⟩ = some (.bool false) := (blk_cell BK203.out 2).trans rfl
 have hfs54 := blk_frozen BK203.out 2
 have hns54_0 := NB202_203.out
 have hms54_0 := NB203_202.out
 refine skip_ (w1 := ?_) (by rfl) rfl ?_ ?_
 rotate_left
 · go_simp
   rfl
 refine hK.out _ _ ⟨((cell_far (p := ⟨gb203, _, none⟩) s6q41 _).trans (((cell_far (p := ⟨gb203, _, none⟩) s6q41 _).trans (((cell_far (p := ⟨gb203, _, none⟩) s6q41 _).trans (hHeld.1)))))), ((cell_far (p := ⟨gb203, _, none⟩) s6q41 _).trans (((cell_far (p := ⟨gb203, _, none⟩) s6q41 _).trans (((cell_far (p := ⟨gb203, _, none⟩) s6q41 _).trans (hHeld.2.1)))))), ((cell_far (p := ⟨gb203, _, none⟩) s6q41 _).trans (((cell_far (p := ⟨gb203, _, none⟩) s6q41 _).trans (((cell_far (p := ⟨gb203, _, none⟩) s6q41 _).trans (hHeld.2.2.1)))))), ((cell_far (p := ⟨gb203, _, none⟩) s6q41 _).trans (((cell_far (p := ⟨gb203, _, none⟩) s6q41 _).trans (((cell_far (p := ⟨gb203, _, none⟩) s6q41 _).trans (hHeld.2.2.2.1)))))), ((cell_far (p := ⟨gb203, _, none⟩) s6q41 _).trans (((cell_far (p := ⟨gb203, _, none⟩) s6q41 _).trans (((cell_far (p := ⟨gb203, _, none⟩) s6q41 _).trans (hHeld.2.2.2.2.1)))))), ((cell_far (p := ⟨gb203, _, none⟩) s6q41 _).trans (((cell_far (p := ⟨gb203, _, none⟩) s6q41 _).trans (((cell_far (p := ⟨gb203, _, none⟩) s6q41 _).trans (hHeld.2.2.2.2.2))))))⟩ (fun hHeld => ?_)
 clear hK K
 refine done_ (done_of HT_.out s6q2) ?_
 have n0_ : Aside0 (Kd.N k85 85 ((((((w48.setCell ⟨gb202, 0, none⟩ (.int .i64 ((rd_T85 x5_3 x9_3).f0))).setCell ⟨gb202, 1, none⟩ (.slice A200_1 ((rd_T85 x5_3 x9_3).f1).length c200_1)).setCell ⟨gb202, 2, none⟩ (.bool ((rd_T85 x5_3 x9_3).f2))).setCell ⟨gb203, 0, none⟩ (.int .i64 ((rd_T85 x5_3 (Go.bits .andNot .i64 x7_2 x9_3)).f0))).setCell ⟨gb203, 1, none⟩ (.slice A201_1 ((rd_T85 x5_3 (Go.bits .andNot .i64 x7_2 x9_3)).f1).length c201_1)).setCell ⟨gb203, 2, none⟩ (.bool ((rd_T85 x5_3 (Go.bits .andNot .i64 x7_2 x9_3)).f2))) w.heap.size (fun k_ => (w.heap.size ≤ k_) ∧ k_ ≠ gb202 ∧ k_ ≠ gb203) (.slice (some ad197) x5_3.length co25) x5_3) := ⟨by (with_reducible repeat (first | apply Kd.N_alloc | apply Kd.N_drewN | apply Kd.N_drew)); exact Kd.N_mono (Kd.N_far (p := ⟨gb203, 2, none⟩) (Kd.N_far (p := ⟨gb203, 1, none⟩) (Kd.N_far (p := ⟨gb203, 0, none⟩) (Kd.N_far (p := ⟨gb202, 2, none⟩) (Kd.N_far (p := ⟨gb202, 1, none⟩) (Kd.N_far (p := ⟨gb202, 0, none⟩) (Kd.N_mono (Kd.N_mono HO_5.out (fun k_ hk => (⟨hk, hk.2.1⟩ : _ ∧ k_ ≠ gb202))) (fun k_ hk => (⟨hk, hk.1.2.2⟩ : _ ∧ k_ ≠ gb203))) (fun _ hk => hk.1.2) (.int .i64 ((rd_T85 x5_3 x9_3).f0))) (fun _ hk => hk.1.2) (.slice A200_1 ((rd_T85 x5_3 x9_3).f1).length c200_1)) (fun _ hk => hk.1.2) (.bool ((rd_T85 x5_3 x9_3).f2))) (fun _ hk => hk.2) (.int .i64 ((rd_T85 x5_3 (Go.bits .andNot .i64 x7_2 x9_3)).f0))) (fun _ hk => hk.2) (.slice A201_1 ((rd_T85 x5_3 (Go.bits .andNot .i64 x7_2 x9_3)).f1).length c201_1)) (fun _ hk => hk.2) (.bool ((rd_T85 x5_3 (Go.bits .andNot .i64 x7_2 x9_3)).f2))) (fun _ hk => ⟨hk.1.1.1, ⟨hk.1.1.2.1, hk.1.1.2.2⟩⟩)⟩
 have n1_ : Aside0 (Kd.V (Kd.int .i64) 3 ((((((w48.setCell ⟨gb202, 0, none⟩ (.int .i64 ((rd_T85 x5_3 x9_3).f0))).setCell ⟨gb202, 1, none⟩ (.slice A200_1 ((rd_T85 x5_3 x9_3).f1).length c200_1)).setCell ⟨gb202, 2, none⟩ (.bool ((rd_T85 x5_3 x9_3).f2))).setCell ⟨gb203, 0, none⟩ (.int .i64 ((rd_T85 x5_3 (Go.bits .andNot .i64 x7_2 x9_3)).f0))).setCell ⟨gb203, 1, none⟩ (.slice A201_1 ((rd_T85 x5_3 (Go.bits .andNot .i64 x7_2 x9_3)).f1).length c201_1)).setCell ⟨gb203, 2, none⟩ (.bool ((rd_T85 x5_3 (Go.bits .andNot .i64 x7_2 x9_3)).f2))) w.heap.size (fun k_ => (w.heap.size ≤ k_) ∧ some k_ ≠ (.slice (some ad197) x5_3.length co25 : Value).ownBlock ∧ k_ ≠ gb202 ∧ k_ ≠ gb203) (.slice A200_1 ((rd_T85 x5_3 x9_3).f1).length c200_1) ((rd_T85 x5_3 x9_3).f1)) := ⟨by (with_reducible repeat (first | apply Kd.V_alloc | apply Kd.V_drewN | apply Kd.V_drew)); exact Kd.V_mono (Kd.V_far (p := ⟨gb203, 2, none⟩) (Kd.V_far (p := ⟨gb203, 1, none⟩) (Kd.V_far (p := ⟨gb203, 0, none⟩) (Kd.V_far (p := ⟨gb202, 2, none⟩) (Kd.V_far (p := ⟨gb202, 1, none⟩) (Kd.V_far (p := ⟨gb202, 0, none⟩) (Kd.V_mono (Kd.V_mono HL200_1.out (fun k_ hk => (⟨hk, hk.2.2.1⟩ : _ ∧ k_ ≠ gb202))) (fun k_ hk => (⟨hk, hk.1.2.2.2⟩ : _ ∧ k_ ≠ gb203))) (fun _ hk => hk.1.2) (.int .i64 ((rd_T85 x5_3 x9_3).f0))) (fun _ hk => hk.1.2) (.slice A200_1 ((rd_T85 x5_3 x9_3).f1).length c200_1)) (fun _ hk => hk.1.2) (.bool ((rd_T85 x5_3 x9_3).f2))) (fun _ hk => hk.2) (.int .i64 ((rd_T85 x5_3 (Go.bits .andNot .i64 x7_2 x9_3)).f0))) (fun _ hk => hk.2) (.slice A201_1 ((rd_T85 x5_3 (Go.bits .andNot .i64 x7_2 x9_3)).f1).length c201_1)) (fun _ hk => hk.2) (.bool ((rd_T85 x5_3 (Go.bits .andNot .i64 x7_2 x9_3)).f2))) (fun _ hk => ⟨hk.1.1.1, ⟨hk.1.1.2.1, ⟨hk.1.1.2.2.1, hk.1.1.2.2.2⟩⟩⟩)⟩
 have n2_ : Aside0 (Kd.V (Kd.int .i64) 3 ((((((w48.setCell ⟨gb202, 0, none⟩ (.int .i64 ((rd_T85 x5_3 x9_3).f0))).setCell ⟨gb202, 1, none⟩ (.slice A200_1 ((rd_T85 x5_3 x9_3).f1).length c200_1)).setCell ⟨gb202, 2, none⟩ (.bool ((rd_T85 x5_3 x9_3).f2))).setCell ⟨gb203, 0, none⟩ (.int .i64 ((rd_T85 x5_3 (Go.bits .andNot .i64 x7_2 x9_3)).f0))).setCell ⟨gb203, 1, none⟩ (.slice A201_1 ((rd_T85 x5_3 (Go.bits .andNot .i64 x7_2 x9_3)).f1).length c201_1)).setCell ⟨gb203, 2, none⟩ (.bool ((rd_T85 x5_3 (Go.bits .andNot .i64 x7_2 x9_3)).f2))) w.heap.size (fun k_ => (w.heap.size ≤ k_) ∧ some k_ ≠ (.slice (some ad197) x5_3.length co25 : Value).ownBlock ∧ k_ ≠ gb202 ∧ k_ ≠ gb203) (.slice A201_1 ((rd_T85 x5_3 (Go.bits .andNot .i64 x7_2 x9_3)).f1).length c201_1) ((rd_T85 x5_3 (Go.bits .andNot .i64 x7_2 x9_3)).f1)) := ⟨by (with_reducible repeat (first | apply Kd.V_alloc | apply Kd.V_drewN | apply Kd.V_drew)); exact Kd.V_mono (Kd.V_far (p := ⟨gb203, 2, none⟩) (Kd.V_far (p := ⟨gb203, 1, none⟩) (Kd.V_far (p := ⟨gb203, 0, none⟩) (Kd.V_far (p := ⟨gb202, 2, none⟩) (Kd.V_far (p := ⟨gb202, 1, none⟩) (Kd.V_far (p := ⟨gb202, 0, none⟩) (Kd.V_mono (Kd.V_mono HL201_1.out (fun k_ hk => (⟨hk, hk.2.2.1⟩ : _ ∧ k_ ≠ gb202))) (fun k_ hk => (⟨hk, hk.1.2.2.2⟩ : _ ∧ k_ ≠ gb203))) (fun _ hk => hk.1.2) (.int .i64 ((rd_T85 x5_3 x9_3).f0))) (fun _ hk => hk.1.2) (.slice A200_1 ((rd_T85 x5_3 x9_3).f1).length c200_1)) (fun _ hk => hk.1.2) (.bool ((rd_T85 x5_3 x9_3).f2))) (fun _ hk => hk.2) (.int .i64 ((rd_T85 x5_3 (Go.bits .andNot .i64 x7_2 x9_3)).f0))) (fun _ hk => hk.2) (.slice A201_1 ((rd_T85 x5_3 (Go.bits .andNot .i64 x7_2 x9_3)).f1).length c201_1)) (fun _ hk => hk.2) (.bool ((rd_T85 x5_3 (Go.bits .andNot .i64 x7_2 x9_3)).f2))) (fun _ hk => ⟨hk.1.1.1, ⟨hk.1.1.2.1, ⟨hk.1.1.2.2.1, hk.1.1.2.2.2⟩⟩⟩)⟩
 have n3_ : Aside0 (((((((w48.setCell ⟨gb202, 0, none⟩ (.int .i64 ((rd_T85 x5_3 x9_3).f0))).setCell ⟨gb202, 1, none⟩ (.slice A200_1 ((rd_T85 x5_3 x9_3).f1).length c200_1)).setCell ⟨gb202, 2, none⟩ (.bool ((rd_T85 x5_3 x9_3).f2))).setCell ⟨gb203, 0, none⟩ (.int .i64 ((rd_T85 x5_3 (Go.bits .andNot .i64 x7_2 x9_3)).f0))).setCell ⟨gb203, 1, none⟩ (.slice A201_1 ((rd_T85 x5_3 (Go.bits .andNot .i64 x7_2 x9_3)).f1).length c201_1)).setCell ⟨gb203, 2, none⟩ (.bool ((rd_T85 x5_3 (Go.bits .andNot .i64 x7_2 x9_3)).f2))).heap[gb202]? = some (.cells #[.int .i64 ((rd_T85 x5_3 x9_3).f0), .slice A200_1 ((rd_T85 x5_3 x9_3).f1).length c200_1, .bool ((rd_T85 x5_3 x9_3).f2)] 85 (0, 0))) := ⟨by (with_reducible repeat (first | refine blk_drewN ?_ _ | refine blk_drew ?_ | refine blk_alloc ?_ _)); refine blk_far ?_ NB202_203.out _; (with_reducible repeat (first | refine blk_drewN ?_ _ | refine blk_drew ?_ | refine blk_alloc ?_ _)); refine blk_far ?_ NB202_203.out _; (with_reducible repeat (first | refine blk_drewN ?_ _ | refine blk_drew ?_ | refine blk_alloc ?_ _)); refine blk_far ?_ NB202_203.out _; (with_reducible repeat (first | refine blk_drewN ?_ _ | refine blk_drew ?_ | refine blk_alloc ?_ _)); refine blk_put (cs := #[.int .i64 ((rd_T85 x5_3 x9_3).f0), .slice A200_1 ((rd_T85 x5_3 x9_3).f1).length c200_1, .bool false]) ?_ 2 _ rfl; (with_reducible repeat (first | refine blk_drewN ?_ _ | refine blk_drew ?_ | refine blk_alloc ?_ _)); refine blk_put (cs := #[.int .i64 ((rd_T85 x5_3 x9_3).f0), .slice none 0 0, .bool false]) ?_ 1 _ rfl; (with_reducible repeat (first | refine blk_drewN ?_ _ | refine blk_drew ?_ | refine blk_alloc ?_ _)); refine blk_put (cs := #[.int .i64 0, .slice none 0 0, .bool false]) ?_ 0 _ rfl; (with_reducible repeat (first | refine blk_drewN ?_ _ | refine blk_drew ?_ | refine blk_alloc ?_ _)); exact BK202.out⟩
 have n4_ : Aside0 (((((((w48.setCell ⟨gb202, 0, none⟩ (.int .i64 ((rd_T85 x5_3 x9_3).f0))).setCell ⟨gb202, 1, none⟩ (.slice A200_1 ((rd_T85 x5_3 x9_3).f1).length c200_1)).setCell ⟨gb202, 2, none⟩ (.bool ((rd_T85 x5_3 x9_3).f2))).setCell ⟨gb203, 0, none⟩ (.int .i64 ((rd_T85 x5_3 (Go.bits .andNot .i64 x7_2 x9_3)).f0))).setCell ⟨gb203, 1, none⟩ (.slice A201_1 ((rd_T85 x5_3 (Go.bits .andNot .i64 x7_2 x9_3)).f1).length c201_1)).setCell ⟨gb203, 2, none⟩ (.bool ((rd_T85 x5_3 (Go.bits .andNot .i64 x7_2 x9_3)).f2))).heap[gb203]? = some (.cells #[.int .i64 ((rd_T85 x5_3 (Go.bits .andNot .i64 x7_2 x9_3)).f0), .slice A201_1 ((rd_T85 x5_3 (Go.bits .andNot .i64 x7_2 x9_3)).f1).length c201_1, .bool ((rd_T85 x5_3 (Go.bits .andNot .i64 x7_2 x9_3)).f2)] 85 (0, 0))) := ⟨by (with_reducible repeat (first | refine blk_drewN ?_ _ | refine blk_drew ?_ | refine blk_alloc ?_ _)); refine blk_put (cs := #[.int .i64 ((rd_T85 x5_3 (Go.bits .andNot .i64 x7_2 x9_3)).f0), .slice A201_1 ((rd_T85 x5_3 (Go.bits .andNot .i64 x7_2 x9_3)).f1).length c201_1, .bool false]) ?_ 2 _ rfl; (with_reducible repeat (first | refine blk_drewN ?_ _ | refine blk_drew ?_ | refine blk_alloc ?_ _)); refine blk_put (cs := #[.int .i64 ((rd_T85 x5_3 (Go.bits .andNot .i64 x7_2 x9_3)).f0), .slice none 0 0, .bool false]) ?_ 1 _ rfl; (with_reducible repeat (first | refine blk_drewN ?_ _ | refine blk_drew ?_ | refine blk_alloc ?_ _)); refine blk_put (cs := #[.int .i64 0, .slice none 0 0, .bool false]) ?_ 0 _ rfl; (with_reducible repeat (first | refine blk_drewN ?_ _ | refine blk_drew ?_ | refine blk_alloc ?_ _)); refine blk_far ?_ NB203_202.out _; (with_reducible repeat (first | refine blk_drewN ?_ _ | refine blk_drew ?_ | refine blk_alloc ?_ _)); refine blk_far ?_ NB203_202.out _; (with_reducible repeat (first | refine blk_drewN ?_ _ | refine blk_drew ?_ | refine blk_alloc ?_ _)); refine blk_far ?_ NB203_202.out _; (with_reducible repeat (first | refine blk_drewN ?_ _ | refine blk_drew ?_ | refine blk_alloc ?_ _)); exact BK203.out⟩
 have n5_ : Aside0 (Below w.heap.size w ((((((w48.setCell ⟨gb202, 0, none⟩ (.int .i64 ((rd_T85 x5_3 x9_3).f0))).setCell ⟨gb202, 1, none⟩ (.slice A200_1 ((rd_T85 x5_3 x9_3).f1).length c200_1)).setCell ⟨gb202, 2, none⟩ (.bool ((rd_T85 x5_3 x9_3).f2))).setCell ⟨gb203, 0, none⟩ (.int .i64 ((rd_T85 x5_3 (Go.bits .andNot .i64 x7_2 x9_3)).f0))).setCell ⟨gb203, 1, none⟩ (.slice A201_1 ((rd_T85 x5_3 (Go.bits .andNot .i64 x7_2 x9_3)).f1).length c201_1)).setCell ⟨gb203, 2, none⟩ (.bool ((rd_T85 x5_3 (Go.bits .andNot .i64 x7_2 x9_3)).f2)))) := ⟨by repeat (first | (with_reducible first | exact HB.out | apply below_alloc | apply pw_below_drewN | apply below_drew1 | refine below_set ?_ GE202.out | refine below_set ?_ GE203.out) | exact HB.out)⟩
 (try clear HO_5)
 (try clear HL200_1)
 (try clear HL201_1)
 (try clear BK202)
 (try clear BK203)
 (try clear HB)
 generalize ((((((w48.setCell ⟨gb202, 0, none⟩ (.int .i64 ((rd_T85 x5_3 x9_3).f0))).setCell ⟨gb202, 1, none⟩ (.slice A200_1 ((rd_T85 x5_3 x9_3).f1).length c200_1)).setCell ⟨gb202, 2, none⟩ (.bool ((rd_T85 x5_3 x9_3).f2))).setCell ⟨gb203, 0, none⟩ (.int .i64 ((rd_T85 x5_3 (Go.bits .andNot .i64 x7_2 x9_3)).f0))).setCell ⟨gb203, 1, none⟩ (.slice A201_1 ((rd_T85 x5_3 (Go.bits .andNot .i64 x7_2 x9_3)).f1).length c201_1)).setCell ⟨gb203, 2, none⟩ (.bool ((rd_T85 x5_3 (Go.bits .andNot .i64 x7_2 x9_3)).f2))) = w55 at n0_ n1_ n2_ n3_ n4_ n5_ ⊢
 have HO_5 := n0_
 have HL200_1 := n1_
 have HL201_1 := n2_
 have BK202 := n3_
 have BK203 := n4_
 have HB := n5_
 clear n0_ n1_ n2_ n3_ n4_ n5_
 have hnb56 := NB202_203.out
 have hnc56 := NB203_202.out
 have hcz57_0 : w55.cell? ⟨gb202, 0, none⟩ = some (.int .i64 ((rd_T85 x5_3 x9_3).f0)) := (blk_cell BK202.out 0).trans rfl
 have hcz57_1 : w55.cell? ⟨gb202, 1, none⟩ = some (.slice A200_1 ((rd_T85 x5_3 x9_3).f1).length c200_1) := (blk_cell BK202.out 1).trans rfl
 have hcz57_2 : w55.cell? ⟨gb202, 2, none⟩ = some (.bool ((rd_T85 x5_3 x9_3).f2)) := (blk_cell BK202.out 2).trans rfl
 have hfz57_0 := blk_frozen BK202.out 0
 have hfz57_1 := blk_frozen BK202.out 1
 have hfz57_2 := blk_frozen BK202.out 2
 have hcz58_0 : w55.cell? ⟨gb203, 0, none⟩ = some (.int .i64 ((rd_T85 x5_3 (Go.bits .andNot .i64 x7_2 x9_3)).f0)) := (blk_cell BK203.out 0).trans rfl
 have hcz58_1 : w55.cell? ⟨gb203, 1, none⟩ = some (.slice A201_1 ((rd_T85 x5_3 (Go.bits .andNot .i64 x7_2 x9_3)).f1).length c201_1) := (blk_cell BK203.out 1).trans rfl
 have hcz58_2 : w55.cell? ⟨gb203, 2, none⟩ = some (.bool ((rd_T85 x5_3 (Go.bits .andNot .i64 x7_2 x9_3)).f2)) := (blk_cell BK203.out 2).trans rfl
 have hfz58_0 := blk_frozen BK203.out 0
 have hfz58_1 := blk_frozen BK203.out 1
 have hfz58_2 := blk_frozen BK203.out 2
 have p204 : 0 ≤ (x7_2 : Int) := of_decide_eq_true s6q6
 have q204 : x7_2 < (x5_3.length : Int) := of_decide_eq_true s6q6
 obtain ⟨ad204, A204_1, c204_1, e204, hx204_0, hx204_1, hx204_2, hl204_1, hi204_1⟩ := at_T85 (Kd.N_reads' HO_5.out).2.2 x7_2 p204 q204
 (try rw [← Nbq21.out] at hx204_2)
 (try rw [← Nbq39.out] at hx204_2)
 obtain rfl : ad197 = ad204 := (by injection e204)
 obtain ⟨ce204, hce204, hMe204, hcc204⟩ := Kd.N_get HO_5.out z85 x7_2 p204 s6q45
 obtain ⟨ua204_1, uc204_1, rfl, ul204_1, ge204_1⟩ := k85_openF hMe204
 have hv204_1 := hcc204 1 _ rfl
 rw [add_field _ _ 1 s6q0] at hv204_1
 replace hv204_1 := Option.some.inj (hv204_1.symm.trans hx204_1)
 injection hv204_1 with hva_ hvn_ hvc_
 rw [hva_] at ge204_1
 rw [hvc_] at ul204_1
 have HL204_1 := Aside0.mk (show Kd.V (Kd.int .i64) 3 _ w.heap.size _ _ ((rd_T85 x5_3 x7_2).f1) from Kd.V_mk ul204_1 ge204_1)
 clear hva_ hvn_ hvc_ ge204_1 ul204_1
 clear hcc204 hce204
 have HR204_1 := Aside0.mk hi204_1
 have HC204_1 := Aside0.mk hl204_1
 clear hi204_1 hl204_1
 replace p204 := eq_true p204
 replace q204 := eq_true q204
 have p205 : 0 ≤ (x7_2 : Int) := of_decide_eq_true s6q6
 have q205 : x7_2 < (x5_3.length : Int) := of_decide_eq_true s6q6
 obtain ⟨ad205, A205_1, c205_1, e205, hx205_0, hx205_1, hx205_2, hl205_1, hi205_1⟩ := at_T85 (Kd.N_reads' HO_5.out).2.2 x7_2 p205 q205
 (try rw [← Nbq21.out] at hx205_2)
 (try rw [← Nbq39.out] at hx205_2)
 obtain rfl : ad197 = ad205 := (by injection e205)
 obtain ⟨ce205, hce205, hMe205, hcc205⟩ := Kd.N_get HO_5.out z85 x7_2 p205 s6q46
 obtain ⟨ua205_1, uc205_1, rfl, ul205_1, ge205_1⟩ := k85_openF hMe205
 have hv205_1 := hcc205 1 _ rfl
 rw [add_field _ _ 1 s6q0] at hv205_1
 replace hv205_1 := Option.some.inj (hv205_1.symm.trans hx205_1)
 injection hv205_1 with hva_ hvn_ hvc_
 rw [hva_] at ge205_1
 rw [hvc_] at ul205_1
 have HL205_1 := Aside0.mk (show Kd.V (Kd.int .i64) 3 _ w.heap.size _ _ ((rd_T85 x5_3 x7_2).f1) from Kd.V_mk ul205_1 ge205_1)
 clear hva_ hvn_ hvc_ ge205_1 ul205_1
 clear hcc205 hce205
 have HR205_1 := Aside0.mk hi205_1
 have HC205_1 := Aside0.mk hl205_1
 clear hi205_1 hl205_1
 replace p205 := eq_true p205
 replace q205 := eq_true q205
 have ea_ := Option.some.inj (hx204_1.symm.trans hx205_1)
 injection ea_ with ea_ en_ ec_
 subst ea_
 subst ec_
 clear en_
 try go_wp2_with (first | ((with_reducible refine gate_dst (N := 102) rfl ?_); refine Kd.N_lit (Kd.slice 3 (Kd.int .i64)) _ 22 ?hg (N' := 102) ?hd (xs := ([(rd_T85 x5_3 x9_3).f1, (rd_T85 x5_3 (Go.bits .andNot .i64 x7_2 x9_3)).f1] : List (List Int))) (inner := [.slice A200_1 ((rd_T85 x5_3 x9_3).f1).length c200_1, .slice A201_1 ((rd_T85 x5_3 (Go.bits .andNot .i64 x7_2 x9_3)).f1).length c201_1]) (ok := (fun k_ => (w.heap.size ≤ k_) ∧ some k_ ≠ (.slice (some ad197) x5_3.length co25 : Value).ownBlock ∧ k_ ≠ gb202 ∧ k_ ≠ gb203)) (okp := (fun k_ => (w.heap.size ≤ k_) ∧ some k_ ≠ (.slice (some ad197) x5_3.length co25 : Value).ownBlock ∧ k_ ≠ gb202 ∧ k_ ≠ gb203)) ?hr ?hp (fun _ hk => hk) ((show ∀ k_, w55.heap.size ≤ k_ → (fun k_ => (w.heap.size ≤ k_) ∧ some k_ ≠ (.slice (some ad197) x5_3.length co25 : Value).ownBlock ∧ k_ ≠ gb202 ∧ k_ ≠ gb203) k_ from fun k_ hk => ⟨(Nat.le_trans (below_size s6q32) hk), Kd.fresh' (Kd.N_lt s6q7) k_ hk, Kd.freshB (g := gb202) (o := .cells #[.int .i64 ((rd_T85 x5_3 x9_3).f0), .slice A200_1 ((rd_T85 x5_3 x9_3).f1).length c200_1, .bool ((rd_T85 x5_3 x9_3).f2)] 85 (0, 0)) s6q14 k_ hk, Kd.freshB (g := gb203) (o := .cells #[.int .i64 ((rd_T85 x5_3 (Go.bits .andNot .i64 x7_2 x9_3)).f0), .slice A201_1 ((rd_T85 x5_3 (Go.bits .andNot .i64 x7_2 x9_3)).f1).length c201_1, .bool ((rd_T85 x5_3 (Go.bits .andNot .i64 x7_2 x9_3)).f2)] 85 (0, 0)) s6q15 k_ hk⟩) _ (Nat.le_refl _)) (Below.refl _ _) (Nat.le_refl _) (by simp) ?_; (case hd => rfl); (case hg => rfl); (case hr => first | (go_simp; done) | (go_simp; rfl)); (case hp => exact (Reps.one (show Kd.FK (Kd.slice 3 (Kd.int .i64)) _ _ ((rd_T85 x5_3 x9_3).f1) [.slice A200_1 ((rd_T85 x5_3 x9_3).f1).length c200_1] from (Kd.FK_slice_mk (Kd.V_reads' (Kd.V_mono (ok' := (fun k_ => (w.heap.size ≤ k_) ∧ some k_ ≠ (.slice (some ad197) x5_3.length co25 : Value).ownBlock ∧ k_ ≠ gb202 ∧ k_ ≠ gb203)) (HL200_1.out) (fun k_ hk => ⟨hk.1, ⟨hk.2.1, ⟨hk.2.2.1, hk.2.2.2⟩⟩⟩))).2.1 (Kd.V_F (Kd.V_mono (ok' := (fun k_ => (w.heap.size ≤ k_) ∧ some k_ ≠ (.slice (some ad197) x5_3.length co25 : Value).ownBlock ∧ k_ ≠ gb202 ∧ k_ ≠ gb203)) (HL200_1.out) (fun k_ hk => ⟨hk.1, ⟨hk.2.1, ⟨hk.2.2.1, hk.2.2.2⟩⟩⟩))))) (Reps.one (show Kd.FK (Kd.slice 3 (Kd.int .i64)) _ _ ((rd_T85 x5_3 (Go.bits .andNot .i64 x7_2 x9_3)).f1) [.slice A201_1 ((rd_T85 x5_3 (Go.bits .andNot .i64 x7_2 x9_3)).f1).length c201_1] from (Kd.FK_slice_mk (Kd.V_reads' (Kd.V_mono (ok' := (fun k_ => (w.heap.size ≤ k_) ∧ some k_ ≠ (.slice (some ad197) x5_3.length co25 : Value).ownBlock ∧ k_ ≠ gb202 ∧ k_ ≠ gb203)) (HL201_1.out) (fun k_ hk => ⟨hk.1, ⟨hk.2.1, ⟨hk.2.2.1, hk.2.2.2⟩⟩⟩))).2.1 (Kd.V_F (Kd.V_mono (ok' := (fun k_ => (w.heap.size ≤ k_) ∧ some k_ ≠ (.slice (some ad197) x5_3.length co25 : Value).ownBlock ∧ k_ ≠ gb202 ∧ k_ ≠ gb203)) (HL201_1.out) (fun k_ hk => ⟨hk.1, ⟨hk.2.1, ⟨hk.2.2.1, hk.2.2.2⟩⟩⟩))))) (Reps.none _ _)))); intro v207 w59 ho60 hb hg_ hnew_; clear hg_ hnew_; (first | rw [← Ny206.out] at ho60 | (simp only [Int.reduceToNat] at ho60; rw [← Ny206.out] at ho60)); have n0_ := Aside0.mk (Kd.N_elder' s6q7 (Kd.N_base ho60) hb); have n1_ := Aside0.mk (Kd.V_elder' s6q10 (Kd.N_base ho60) hb); have n2_ := Aside0.mk (Kd.V_elder' s6q11 (Kd.N_base ho60) hb); have n3_ := Aside0.mk (Kd.V_elder' s6q12 (Kd.N_base ho60) hb); have n4_ := Aside0.mk (Kd.V_elder' s6q13 (Kd.N_base ho60) hb); have n5_ := Aside0.mk (Kd.N_lower ho60 (below_size s6q32)); have n6_ := Aside0.mk (blk_below (g := gb202) (o := .cells #[.int .i64 ((rd_T85 x5_3 x9_3).f0), .slice A200_1 ((rd_T85 x5_3 x9_3).f1).length c200_1, .bool ((rd_T85 x5_3 x9_3).f2)] 85 (0, 0)) s6q14 hb); have n7_ := Aside0.mk (blk_below (g := gb203) (o := .cells #[.int .i64 ((rd_T85 x5_3 (Go.bits .andNot .i64 x7_2 x9_3)).f0), .slice A201_1 ((rd_T85 x5_3 (Go.bits .andNot .i64 x7_2 x9_3)).f1).length c201_1, .bool ((rd_T85 x5_3 (Go.bits .andNot .i64 x7_2 x9_3)).f2)] 85 (0, 0)) s6q15 hb); have n8_ := Aside0.mk (Kd.C_below s6q30 hb); have n9_ := Aside0.mk (Kd.C_below s6q31 hb); have n10_ := Aside0.mk (below_step s6q32 hb); clear HO_5; clear HL200_1; clear HL201_1; clear HL204_1; clear HL205_1; clear BK202; clear BK203; clear HR204_1; clear HR205_1; clear HB; have HO_5 := n0_; have HL200_1 := n1_; have HL201_1 := n2_; have HL204_1 := n3_; have HL205_1 := n4_; have HO208 := n5_; have BK202 := n6_; have BK203 := n7_; have HR204_1 := n8_; have HR205_1 := n9_; have HB := n10_; clear n0_ n1_ n2_ n3_ n4_ n5_ n6_ n7_ n8_ n9_ n10_; clear hb ho60; obtain ⟨Ao61, co61, eo61⟩ := Kd.N_slice HO208.out; subst eo61) | ((with_reducible refine gate_callee (f := 51) rfl ?_); refine goesL_ (some 103) rfl rfl Tryd.func51 s6q2 rfl #[.slice Ao61 y206.length co61] rfl s6q17 ?_; (with_reducible refine (slices_Concat_int_int.calls kj27 _ _ y206 t209 _ ?side1 ?side2 A42.out).mono ?_); (case side1 => repeat (first | exact (Kd.N_reads' HO208.out).2.2 | (with_reducible refine Kd.C_alloc ?_ _) | (with_reducible refine Kd.C_drewN ?_ _) | (with_reducible refine Kd.C_drew ?_))); (case side2 => exact (Kd.N_reads' HO208.out).2.1); rintro e w62 ⟨v210, rfl, ho0, hb⟩; refine ⟨_, rfl, ?_⟩; have n0_ := Aside0.mk (Kd.N_elder' s6q7 (Kd.R_base ho0) hb); have n1_ := Aside0.mk (Kd.V_elder' s6q10 (Kd.R_base ho0) hb); have n2_ := Aside0.mk (Kd.V_elder' s6q11 (Kd.R_base ho0) hb); have n3_ := Aside0.mk (Kd.V_elder' s6q12 (Kd.R_base ho0) hb); have n4_ := Aside0.mk (Kd.V_elder' s6q13 (Kd.R_base ho0) hb); have n5_ := Aside0.mk (Kd.N_elder' s6q8 (Kd.R_base ho0) hb); have n6_ := Aside0.mk (Kd.R_lower (Kd.R_newM (M := fun k_ => (w.heap.size ≤ k_)) ho0 (below_size s6q32) (fun k_ h_ => h_)) (below_size s6q32)); have n7_ := Aside0.mk (blk_below (g := gb202) (o := .cells #[.int .i64 ((rd_T85 x5_3 x9_3).f0), .slice A200_1 ((rd_T85 x5_3 x9_3).f1).length c200_1, .bool ((rd_T85 x5_3 x9_3).f2)] 85 (0, 0)) s6q14 hb); have n8_ := Aside0.mk (blk_below (g := gb203) (o := .cells #[.int .i64 ((rd_T85 x5_3 (Go.bits .andNot .i64 x7_2 x9_3)).f0), .slice A201_1 ((rd_T85 x5_3 (Go.bits .andNot .i64 x7_2 x9_3)).f1).length c201_1, .bool ((rd_T85 x5_3 (Go.bits .andNot .i64 x7_2 x9_3)).f2)] 85 (0, 0)) s6q15 hb); have n9_ := Aside0.mk (Kd.C_below s6q30 hb); have n10_ := Aside0.mk (Kd.C_below s6q31 hb); have n11_ := Aside0.mk (below_step s6q32 hb); clear HO_5; clear HL200_1; clear HL201_1; clear HL204_1; clear HL205_1; clear HO208; clear BK202; clear BK203; clear HR204_1; clear HR205_1; clear HB; have HO_5 := n0_; have HL200_1 := n1_; have HL201_1 := n2_; have HL204_1 := n3_; have HL205_1 := n4_; have HO208 := n5_; have HO211 := n6_; have BK202 := n7_; have BK203 := n8_; have HR204_1 := n9_; have HR205_1 := n10_; have HB := n11_; clear n0_ n1_ n2_ n3_ n4_ n5_ n6_ n7_ n8_ n9_ n10_ n11_; (try clear hb); (try clear hb2); (try clear hk); (try clear hi); (try clear ho0)) | ((with_reducible refine gate_builtin (b := .append) (xs := #[.tmp 103, .tmp 104]) rfl ?_); at_builtin; refine Kd.R_append (Kd.int .i64) (w0 := w) w.heap.size rfl (.tmp 103) (.tmp 104) 22 3 (.int .i64 0) 8 rfl Tryd.underlying22 info3 rfl s6q1 s6q0 v210 t209 (-1) [.int .i64 (-1)] (fun k_ => (w.heap.size ≤ k_)) (fun _ => False) rfl rfl ?aP (fun _ hk => hk.elim) ?aF ?aO ?aB ?aS ?aL ?_; (case aP => exact rfl); (case aB => exact s6q32); (case aF => exact (fun k_ hk => (Nat.le_trans (below_size s6q32) hk))); (case aO => exact (by (with_reducible repeat (first | apply Kd.R_alloc | apply Kd.R_drewN | apply Kd.R_drew)); exact Kd.R_mono HO211.out (fun _ hk => hk.1))); (case aS => exact (below_size s6q32)); (case aL => have := LMc43.out; omega); intro v213 w63 ho hb hg hat; rw [← Ny212.out] at ho; have n0_ := Aside0.mk (Kd.N_afterv (ok := (fun k_ => (w.heap.size ≤ k_) ∧ some k_ ≠ (.slice Ao61 y206.length co61 : Value).ownBlock ∧ k_ ≠ gb202 ∧ k_ ≠ gb203)) s6q27 hg hat); have n1_ := Aside0.mk (Kd.V_afterv (ok := (fun k_ => (w.heap.size ≤ k_) ∧ some k_ ≠ (.slice (some ad197) x5_3.length co25 : Value).ownBlock ∧ some k_ ≠ (.slice Ao61 y206.length co61 : Value).ownBlock ∧ k_ ≠ gb202 ∧ k_ ≠ gb203)) s6q35 hg hat); have n2_ := Aside0.mk (Kd.V_afterv (ok := (fun k_ => (w.heap.size ≤ k_) ∧ some k_ ≠ (.slice (some ad197) x5_3.length co25 : Value).ownBlock ∧ some k_ ≠ (.slice Ao61 y206.length co61 : Value).ownBlock ∧ k_ ≠ gb202 ∧ k_ ≠ gb203)) s6q37 hg hat); have n3_ := Aside0.mk (blk_grown (g := gb202) (o := .cells #[.int .i64 ((rd_T85 x5_3 x9_3).f0), .slice A200_1 ((rd_T85 x5_3 x9_3).f1).length c200_1, .bool ((rd_T85 x5_3 x9_3).f2)] 85 (0, 0)) s6q14 hg (Kd.R_ne HO211.out BK202.out s6q1)); have n4_ := Aside0.mk (blk_grown (g := gb203) (o := .cells #[.int .i64 ((rd_T85 x5_3 (Go.bits .andNot .i64 x7_2 x9_3)).f0), .slice A201_1 ((rd_T85 x5_3 (Go.bits .andNot .i64 x7_2 x9_3)).f1).length c201_1, .bool ((rd_T85 x5_3 (Go.bits .andNot .i64 x7_2 x9_3)).f2)] 85 (0, 0)) s6q15 hg (Kd.R_ne HO211.out BK203.out s6q1)); have n5_ := Aside0.mk (Kd.V_afterv (ok := (fun k_ => (w.heap.size ≤ k_) ∧ some k_ ≠ (.slice (some ad197) x5_3.length co25 : Value).ownBlock ∧ some k_ ≠ (.slice Ao61 y206.length co61 : Value).ownBlock ∧ k_ ≠ gb202 ∧ k_ ≠ gb203)) s6q39 hg hat); have n6_ := Aside0.mk (Kd.V_afterv (ok := (fun k_ => (w.heap.size ≤ k_) ∧ some k_ ≠ (.slice (some ad197) x5_3.length co25 : Value).ownBlock ∧ some k_ ≠ (.slice Ao61 y206.length co61 : Value).ownBlock ∧ k_ ≠ gb202 ∧ k_ ≠ gb203)) (by (with_reducible repeat (first | apply Kd.V_alloc | apply Kd.V_drewN | apply Kd.V_drew)); exact Kd.V_mono HL205_1.out (fun _ hk => ⟨⟨hk.1.1.1.1, ⟨hk.1.1.2, ⟨hk.1.2, ⟨hk.1.1.1.2.1, hk.1.1.1.2.2⟩⟩⟩⟩, hk.2⟩)) hg hat); have n7_ := Aside0.mk (Kd.N_afterv (ok := (fun k_ => (w.heap.size ≤ k_) ∧ some k_ ≠ (.slice (some ad197) x5_3.length co25 : Value).ownBlock ∧ k_ ≠ gb202 ∧ k_ ≠ gb203)) s6q8 hg hat); have n8_ := Aside0.mk (hb); have n9_ := Aside0.mk (ho); clear HO_5; clear HL200_1; clear HL201_1; clear BK202; clear BK203; clear HL204_1; clear HL205_1; clear HO208; clear HB; clear HO211; have HO_5 := n0_; have HL200_1 := n1_; have HL201_1 := n2_; have BK202 := n3_; have BK203 := n4_; have HL204_1 := n5_; have HL205_1 := n6_; have HO208 := n7_; have HB := n8_; have HO214 := n9_; clear n0_ n1_ n2_ n3_ n4_ n5_ n6_ n7_ n8_ n9_; clear ho hb hg hat; obtain ⟨Ao64, co64, eo64⟩ := Kd.R_slice HO214.out; subst eo64; have p44 : 0 ≤ (x7_2 : Int) := of_decide_eq_true s6q6; have q44 : (x7_2 : Int) < ((x5_3.length : Int) : Int) := of_decide_eq_true s6q6; obtain ⟨go44, co44, eo44, gb44, gl44, cl44, HG44⟩ := Kd.N_form HO_5.out (by first | exact Int.natCast_pos.1 (Int.lt_of_le_of_lt p44 q44) | omega); (first | cases eo44 | (injection eo44 with ea_ en_ ec_; (first | subst ea_ | (injection ea_ with ea_; subst ea_)); subst ec_; clear en_)); have GB44 := Aside0.mk gb44; have GG44 := Aside0.mk HG44; clear gb44 gl44 HG44; (first | simp only [add_plain] at hx197_0 | skip); (first | simp only [add_plain] at hx197_1 | skip); (first | simp only [add_plain] at hx197_2 | skip); (first | simp only [add_plain] at hx200_0 | skip); (first | simp only [add_plain] at hx200_1 | skip); (first | simp only [add_plain] at hx200_2 | skip); (first | simp only [add_plain] at hx201_0 | skip); (first | simp only [add_plain] at hx201_1 | skip); (first | simp only [add_plain] at hx201_2 | skip); (first | simp only [add_plain] at hx204_0 | skip); (first | simp only [add_plain] at hx204_1 | skip); (first | simp only [add_plain] at hx204_2 | skip); (first | simp only [add_plain] at hx205_0 | skip); (first | simp only [add_plain] at hx205_1 | skip); (first | simp only [add_plain] at hx205_2 | skip); obtain ⟨ce44, hcl44, hM44, hcc44, hfr44⟩ := Kd.N_elem HO_5.out z85 (x7_2 : Int) p44 q44; obtain ⟨ua44_1, uc44_1, rfl, ul44_1, ge44_1⟩ := k85_openF hM44; have hx44_0 : w63.cell? ⟨go44, (x7_2 : Int).toNat * 3, none⟩ = some (.int .i64 ((rd_T85 x5_3 x7_2).f0)) := hcc44 0 _ rfl; have hx44_1 : w63.cell? ⟨go44, (x7_2 : Int).toNat * 3 + 1, none⟩ = some (.slice ua44_1 ((rd_T85 x5_3 x7_2).f1).length uc44_1) := hcc44 1 _ rfl; have hx44_2 : w63.cell? ⟨go44, (x7_2 : Int).toNat * 3 + 2, none⟩ = some (.bool ((rd_T85 x5_3 x7_2).f2)) := hcc44 2 _ rfl; have hf44_0 : w63.frozen? ⟨go44, (x7_2 : Int).toNat * 3, none⟩ = false := hfr44 0; have hf44_1 : w63.frozen? ⟨go44, (x7_2 : Int).toNat * 3 + 1, none⟩ = false := hfr44 1; have hf44_2 : w63.frozen? ⟨go44, (x7_2 : Int).toNat * 3 + 2, none⟩ = false := hfr44 2; clear hcl44 hcc44 hfr44 hM44; replace p44 := eq_true p44; replace q44 := eq_true q44; have n_ := Aside0.mk (Kd.N_mono (ok' := (fun k_ => (w.heap.size ≤ k_) ∧ some k_ ≠ (.slice Ao61 y206.length co61 : Value).ownBlock ∧ some k_ ≠ (.slice Ao64 y212.length co64 : Value).ownBlock ∧ k_ ≠ gb202 ∧ k_ ≠ gb203)) HO_5.out (fun k_ hk => ⟨hk.1.1, ⟨hk.1.2.1, ⟨hk.2, ⟨hk.1.2.2.1, hk.1.2.2.2⟩⟩⟩⟩)); clear HO_5; have HO_5 := n_; clear n_; have HX65 := Aside0.mk (show Kd.N k85 85 w63 w.heap.size (fun k_ => (w.heap.size ≤ k_) ∧ some k_ ≠ (.slice Ao61 y206.length co61 : Value).ownBlock ∧ k_ ≠ gb202 ∧ k_ ≠ gb203) (.slice (some ⟨go44, 0, none⟩) x5_3.length co25) x5_3 from s6q26); obtain ⟨ce65, hcl65, hM65, hcc65, hfr65⟩ := Kd.N_elem HX65.out z85 (x7_2 : Int) (of_decide_eq_true s6q6) s6q47; obtain ⟨ua65_1, uc65_1, rfl, ul65_1, ge65_1⟩ := k85_openF hM65; have HP65 := Kd.N_seg HX65.out (x7_2 : Int) (of_decide_eq_true s6q6) s6q47 (seg := [.int .i64 ji36, .slice Ao64 y212.length co64, .bool true]) (j := 0) hcl65 hcc65 (show 3 ≤ 3 from by decide) (x' := (⟨ji36, y212, true⟩ : S85)) (k85_mkF _ _ (⟨ji36, y212, true⟩ : S85) (Kd.R_reads' (Kd.R_mono (ok' := (fun k_ => ((fun k_ => (w.heap.size ≤ k_) ∧ some k_ ≠ (.slice Ao61 y206.length co61 : Value).ownBlock ∧ k_ ≠ gb202 ∧ k_ ≠ gb203)) k_ ∧ k_ ≠ go44)) (Kd.R_types (Kd.R_types (Kd.R_apart' (Kd.R_apart' (HO214.out) (Kd.N_typed HO208.out) s6q1) (Kd.N_typed HO_5.out) s6q1) BK202.out s6q1) BK203.out s6q1) (fun k_ hk => ⟨⟨hk.1.1.1.1, ⟨hk.1.1.1.2, ⟨hk.1.2, hk.2⟩⟩⟩, fun e_ => (hk.1.1.2) s6q3⟩))).2.1 (Kd.R_F (Kd.R_mono (ok' := (fun k_ => ((fun k_ => (w.heap.size ≤ k_) ∧ some k_ ≠ (.slice Ao61 y206.length co61 : Value).ownBlock ∧ k_ ≠ gb202 ∧ k_ ≠ gb203)) k_ ∧ k_ ≠ go44)) (Kd.R_types (Kd.R_types (Kd.R_apart' (Kd.R_apart' (HO214.out) (Kd.N_typed HO208.out) s6q1) (Kd.N_typed HO_5.out) s6q1) BK202.out s6q1) BK203.out s6q1) (fun k_ hk => ⟨⟨hk.1.1.1.1, ⟨hk.1.1.1.2, ⟨hk.1.2, hk.2⟩⟩⟩, fun e_ => (hk.1.1.2) s6q3⟩)))) (fun _ hk => hk); have hx65_0 := hcc65 0 _ rfl; (try simp only [show (k85).sz = 3 from rfl, Nat.mul_one, Nat.add_zero] at hx65_0); have hf65_0 := hfr65 0; (try simp only [show (k85).sz = 3 from rfl, Nat.mul_one, Nat.add_zero] at hf65_0); have hx65_1 := hcc65 1 _ rfl; (try simp only [show (k85).sz = 3 from rfl, Nat.mul_one, Nat.add_zero] at hx65_1); have hf65_1 := hfr65 1; (try simp only [show (k85).sz = 3 from rfl, Nat.mul_one, Nat.add_zero] at hf65_1); have hx65_2 := hcc65 2 _ rfl; (try simp only [show (k85).sz = 3 from rfl, Nat.mul_one, Nat.add_zero] at hx65_2); have hf65_2 := hfr65 2; (try simp only [show (k85).sz = 3 from rfl, Nat.mul_one, Nat.add_zero] at hf65_2); clear hcl65 hcc65 hfr65 hM65) | ((with_reducible refine gate_store (t := 85) (p := 107) rfl ?_); refine store_event (t := 85) (p := 107) (v := ?vo_w66) (w1 := (((w63.setCell ⟨go44, (x7_2 : Int).toNat * 3, none⟩ (.int .i64 ji36)).setCell ⟨go44, (x7_2 : Int).toNat * 3 + 1, none⟩ (.slice Ao64 y212.length co64)).setCell ⟨go44, (x7_2 : Int).toNat * 3 + 2, none⟩ (.bool true))) ?hg ?ho ?hn ?hr ?_; (case ho => rfl); (case hg => rfl); (case hn => rfl); (case hr => first | (go_simp; done) | (go_simp; rfl)); intro w66 hw; have hg : w63.grownBy w66 (some go44) := (by rw [hw]; exact HP65.2); have hp_ : Kd.N k85 85 w66 w.heap.size (fun k_ => (w.heap.size ≤ k_) ∧ some k_ ≠ (.slice Ao61 y206.length co61 : Value).ownBlock ∧ k_ ≠ gb202 ∧ k_ ≠ gb203) (.slice (some ⟨go44, 0, none⟩) x5_3.length co25) y215 := (by rw [hw, Ny215.out]; exact HP65.1); clear HP65; have n0_ := Aside0.mk (hp_); have n1_ := Aside0.mk (Kd.V_afterv (v := (.slice (some ⟨go44, 0, none⟩) x5_3.length co25)) (v1 := (.slice (some ⟨go44, 0, none⟩) x5_3.length co25)) (ok := (fun k_ => (w.heap.size ≤ k_) ∧ some k_ ≠ (.slice Ao61 y206.length co61 : Value).ownBlock ∧ some k_ ≠ (.slice Ao64 y212.length co64 : Value).ownBlock ∧ k_ ≠ gb202 ∧ k_ ≠ gb203)) s6q34 hg (.inl rfl)); have n2_ := Aside0.mk (Kd.V_afterv (v := (.slice (some ⟨go44, 0, none⟩) x5_3.length co25)) (v1 := (.slice (some ⟨go44, 0, none⟩) x5_3.length co25)) (ok := (fun k_ => (w.heap.size ≤ k_) ∧ some k_ ≠ (.slice Ao61 y206.length co61 : Value).ownBlock ∧ some k_ ≠ (.slice Ao64 y212.length co64 : Value).ownBlock ∧ k_ ≠ gb202 ∧ k_ ≠ gb203)) s6q36 hg (.inl rfl)); have n3_ := Aside0.mk (blk_grown (g := gb202) (o := .cells #[.int .i64 ((rd_T85 x5_3 x9_3).f0), .slice A200_1 ((rd_T85 x5_3 x9_3).f1).length c200_1, .bool ((rd_T85 x5_3 x9_3).f2)] 85 (0, 0)) s6q14 hg (Kd.N_away HO_5.out (fun _ hk => hk.2.2.2.1))); have n4_ := Aside0.mk (blk_grown (g := gb203) (o := .cells #[.int .i64 ((rd_T85 x5_3 (Go.bits .andNot .i64 x7_2 x9_3)).f0), .slice A201_1 ((rd_T85 x5_3 (Go.bits .andNot .i64 x7_2 x9_3)).f1).length c201_1, .bool ((rd_T85 x5_3 (Go.bits .andNot .i64 x7_2 x9_3)).f2)] 85 (0, 0)) s6q15 hg (Kd.N_away HO_5.out (fun _ hk => hk.2.2.2.2))); have n5_ := Aside0.mk (Kd.V_afterv (v := (.slice (some ⟨go44, 0, none⟩) x5_3.length co25)) (v1 := (.slice (some ⟨go44, 0, none⟩) x5_3.length co25)) (ok := (fun k_ => (w.heap.size ≤ k_) ∧ some k_ ≠ (.slice Ao61 y206.length co61 : Value).ownBlock ∧ some k_ ≠ (.slice Ao64 y212.length co64 : Value).ownBlock ∧ k_ ≠ gb202 ∧ k_ ≠ gb203)) s6q38 hg (.inl rfl)); have n6_ := Aside0.mk (Kd.V_afterv (v := (.slice (some ⟨go44, 0, none⟩) x5_3.length co25)) (v1 := (.slice (some ⟨go44, 0, none⟩) x5_3.length co25)) (ok := (fun k_ => (w.heap.size ≤ k_) ∧ some k_ ≠ (.slice Ao61 y206.length co61 : Value).ownBlock ∧ some k_ ≠ (.slice Ao64 y212.length co64 : Value).ownBlock ∧ k_ ≠ gb202 ∧ k_ ≠ gb203)) (by (with_reducible repeat (first | apply Kd.V_alloc | apply Kd.V_drewN | apply Kd.V_drew)); exact Kd.V_mono HL205_1.out (fun _ hk => ⟨⟨hk.1.1, ⟨hk.1.2.2.1, ⟨hk.2, ⟨hk.1.2.2.2.1, hk.1.2.2.2.2⟩⟩⟩⟩, hk.1.2.1⟩)) hg (.inl rfl)); have n7_ := Aside0.mk (Kd.N_afterv (v := (.slice (some ⟨go44, 0, none⟩) x5_3.length co25)) (v1 := (.slice (some ⟨go44, 0, none⟩) x5_3.length co25)) (ok := (fun k_ => (w.heap.size ≤ k_) ∧ some k_ ≠ (.slice Ao64 y212.length co64 : Value).ownBlock ∧ k_ ≠ gb202 ∧ k_ ≠ gb203)) (by (with_reducible repeat (first | apply Kd.N_alloc | apply Kd.N_drewN | apply Kd.N_drew)); exact Kd.N_mono HO208.out (fun _ hk => ⟨⟨hk.1.1, ⟨hk.2, ⟨hk.1.2.2.1, hk.1.2.2.2⟩⟩⟩, hk.1.2.1⟩)) hg (.inl rfl)); have n8_ := Aside0.mk ((by rw [hw]; exact below_set (below_set (below_set (HB.out) GB44.out) GB44.out) GB44.out : Below w.heap.size w w66)); clear HO_5; clear HL200_1; clear HL201_1; clear BK202; clear BK203; clear HL204_1; clear HL205_1; clear HO208; clear HB; clear HO214; have HO_5 := n0_; have HL200_1 := n1_; have HL201_1 := n2_; have BK202 := n3_; have BK203 := n4_; have HL204_1 := n5_; have HL205_1 := n6_; have HO208 := n7_; have HB := n8_; clear n0_ n1_ n2_ n3_ n4_ n5_ n6_ n7_ n8_; clear hg hw hp_))
 (try simp only [← hl5_3])
 first | go_roundg kj27 | (refine Handed.intro kj27 ?measure ?_; rotate_left; go_step; (repeat apply Exists.intro); simp only [add_plain]; refine ⟨?rel, rfl⟩)
 case measure => have := HK1.out; have := HK2.out; have := HK3.out; have := HJ27.out; omega
 case rel => exact ⟨(y215), (wrap64 (x9_3 + 1)), s6q5, H', ⟨by have := HK1.out; have := HK2.out; have := HK3.out; have := HJ27.out; omega⟩, ⟨by (try simp only [hl5_3]); (with_reducible repeat (first | apply Kd.N_alloc | apply Kd.N_drewN | apply Kd.N_drew)); exact Kd.N_mono HO_5.out (fun _ hk => hk.1)⟩, ⟨by repeat (first | (with_reducible first | exact HB.out | apply below_alloc | apply pw_below_drewN | apply below_drew1 | refine below_set ?_ GE202.out | refine below_set ?_ GE203.out) | exact HB.out)⟩⟩
end Go.Proofs.YtgcijejmmhjibaaDoor.G
