-- Printed by a program of this session (a patched print).
import Derived.Test.YtgcijejmmhjibaaDoorJx0
import Derived.Test.YtgcijejmmhjibaaDoorJx8
import Derived.Test.YtgcijejmmhjibaaDoorJx9
namespace Go.Proofs.YtgcijejmmhjibaaDoor.J
open Go.RowKit Go.Proofs.YtgcijejmmhjibaaDoorW.PrintWords Go.Proofs.YtgcijejmmhjibaaDoorW.PrintLast Go.Proofs.YtgcijejmmhjibaaDoorW.PrintMore
attribute [local go_sem] max2_int min2_int max_two min_two max_three min_three max_four min_four   -- for this text's walks alone
set_option linter.unusedVariables false
set_option linter.unusedSimpArgs false

theorem s10z1 {p : Prop} (h : p := by repeat (first | (with_reducible first | exact HB.out | apply below_alloc | apply pw_below_drewN | apply below_drew1 | refine below_set ?_ GE237.out | refine below_set ?_ GE238.out | refine below_set ?_ GE242.out) | exact HB.out)) : p := h
theorem s10qm0 {p : Prop} (h : p := by repeat' first | (with_reducible exact ih0 _ _ _ _ _ _ _ _ _ _ _ _) | (with_reducible exact ih1 _ _ _ _ _ _ _ _ _ _ _ _) | (with_reducible exact ih2 _ _ _ _ _ _ _ _) | (with_reducible exact ih3 _ _ _ _ _ _ _ _ _ _ _ _ _ _ _ _ _ _ _) | (with_reducible exact cost_CheckStats.mono _ _ _ _ _ _) | (with_reducible exact cost_equal.mono _ _ _ _ _ _ _ _) | (with_reducible exact cost_inBuckets.mono _ _ _ _ _) | (with_reducible exact cost_often.mono _ _ _ _ _) | (with_reducible exact LeO.refl _) | (with_reducible exact LeO.none _) | (with_reducible refine LeO.ite ?_ ?_) | (with_reducible refine LeO.bind ?_ (fun _ => ?_)) | exact ih0 _ _ _ _ _ _ _ _ _ _ _ _ | exact ih1 _ _ _ _ _ _ _ _ _ _ _ _ | exact ih2 _ _ _ _ _ _ _ _ | exact ih3 _ _ _ _ _ _ _ _ _ _ _ _ _ _ _ _ _ _ _ | exact cost_CheckStats.mono _ _ _ _ _ _ | exact cost_equal.mono _ _ _ _ _ _ _ _ | exact cost_inBuckets.mono _ _ _ _ _ | exact cost_often.mono _ _ _ _ _ | exact LeO.none _ | refine LeO.ite ?_ ?_ | refine LeO.bind ?_ (fun _ => ?_)) : p := h
theorem s10q8 {p : Prop} (h : p := by repeat (first | (with_reducible first | exact HB.out | apply below_alloc | apply pw_below_drewN | apply below_drew1 | refine below_set ?_ GE237.out) | exact HB.out)) : p := h
theorem s10q9 {p : Prop} (h : p := by repeat (first | (with_reducible first | exact HB.out | apply below_alloc | apply pw_below_drewN | apply below_drew1 | refine below_set ?_ GE237.out | refine below_set ?_ GE238.out) | exact HB.out)) : p := h
theorem s10q10 {p : Prop} (h : p := by repeat (first | (with_reducible first | exact HB.out | apply below_alloc | apply pw_below_drewN | apply below_drew1 | refine below_set ?_ GE237.out | refine below_set ?_ GE238.out | refine below_set ?_ GE245.out) | exact HB.out)) : p := h
theorem s10q11 {p : Prop} (h : p := by repeat (first | (with_reducible first | exact HB.out | apply below_alloc | apply pw_below_drewN | apply below_drew1 | refine below_set ?_ GE237.out | refine below_set ?_ GE238.out | refine below_set ?_ GE250.out) | exact HB.out)) : p := h
theorem s10q12 {p : Prop} (h : p := by repeat (first | (with_reducible first | exact HB.out | apply below_alloc | apply pw_below_drewN | apply below_drew1 | refine below_set ?_ GE237.out | refine below_set ?_ GE238.out | refine below_set ?_ GE250.out | refine below_set ?_ GE252.out) | exact HB.out)) : p := h
theorem s10q13 {p : Prop} (h : p := by (with_reducible repeat (first | refine blk_drewN ?_ _ | refine blk_drew ?_ | refine blk_alloc ?_ _)); refine blk_far ?_ NB237_245.out _; (with_reducible repeat (first | refine blk_drewN ?_ _ | refine blk_drew ?_ | refine blk_alloc ?_ _)); refine blk_far ?_ NB237_245.out _; (with_reducible repeat (first | refine blk_drewN ?_ _ | refine blk_drew ?_ | refine blk_alloc ?_ _)); refine blk_far ?_ NB237_245.out _; (with_reducible repeat (first | refine blk_drewN ?_ _ | refine blk_drew ?_ | refine blk_alloc ?_ _)); refine blk_far ?_ NB237_245.out _; (with_reducible repeat (first | refine blk_drewN ?_ _ | refine blk_drew ?_ | refine blk_alloc ?_ _)); exact BK237.out) : p := h
theorem s10q14 {p : Prop} (h : p := by (with_reducible repeat (first | refine blk_drewN ?_ _ | refine blk_drew ?_ | refine blk_alloc ?_ _)); refine blk_far ?_ NB238_245.out _; (with_reducible repeat (first | refine blk_drewN ?_ _ | refine blk_drew ?_ | refine blk_alloc ?_ _)); refine blk_far ?_ NB238_245.out _; (with_reducible repeat (first | refine blk_drewN ?_ _ | refine blk_drew ?_ | refine blk_alloc ?_ _)); refine blk_far ?_ NB238_245.out _; (with_reducible repeat (first | refine blk_drewN ?_ _ | refine blk_drew ?_ | refine blk_alloc ?_ _)); refine blk_far ?_ NB238_245.out _; (with_reducible repeat (first | refine blk_drewN ?_ _ | refine blk_drew ?_ | refine blk_alloc ?_ _)); exact BK238.out) : p := h
theorem s10q15 {p : Prop} (h : p := by (with_reducible repeat (first | refine blk_drewN ?_ _ | refine blk_drew ?_ | refine blk_alloc ?_ _)); refine blk_put (cs := #[.int .i64 ((rd_T100 l2_2 x53_2).f0.f0), .int .i64 ((rd_T100 l2_2 x53_2).f0.f1), .string ((rd_T100 l2_2 x53_2).f0.f2), .int .i64 0]) ?_ 3 _ rfl; (with_reducible repeat (first | refine blk_drewN ?_ _ | refine blk_drew ?_ | refine blk_alloc ?_ _)); refine blk_put (cs := #[.int .i64 ((rd_T100 l2_2 x53_2).f0.f0), .int .i64 ((rd_T100 l2_2 x53_2).f0.f1), .string (⟨#[]⟩ : ByteArray), .int .i64 0]) ?_ 2 _ rfl; (with_reducible repeat (first | refine blk_drewN ?_ _ | refine blk_drew ?_ | refine blk_alloc ?_ _)); refine blk_put (cs := #[.int .i64 ((rd_T100 l2_2 x53_2).f0.f0), .int .i64 0, .string (⟨#[]⟩ : ByteArray), .int .i64 0]) ?_ 1 _ rfl; (with_reducible repeat (first | refine blk_drewN ?_ _ | refine blk_drew ?_ | refine blk_alloc ?_ _)); refine blk_put (cs := #[.int .i64 0, .int .i64 0, .string (⟨#[]⟩ : ByteArray), .int .i64 0]) ?_ 0 _ rfl; (with_reducible repeat (first | refine blk_drewN ?_ _ | refine blk_drew ?_ | refine blk_alloc ?_ _)); exact BK245.out) : p := h
theorem s10q16 {p : Prop} (h : p := by (with_reducible repeat (first | refine blk_drewN ?_ _ | refine blk_drew ?_ | refine blk_alloc ?_ _)); refine blk_far ?_ NB237_252.out _; (with_reducible repeat (first | refine blk_drewN ?_ _ | refine blk_drew ?_ | refine blk_alloc ?_ _)); refine blk_far ?_ NB237_252.out _; (with_reducible repeat (first | refine blk_drewN ?_ _ | refine blk_drew ?_ | refine blk_alloc ?_ _)); refine blk_far ?_ NB237_252.out _; (with_reducible repeat (first | refine blk_drewN ?_ _ | refine blk_drew ?_ | refine blk_alloc ?_ _)); refine blk_far ?_ NB237_252.out _; (with_reducible repeat (first | refine blk_drewN ?_ _ | refine blk_drew ?_ | refine blk_alloc ?_ _)); refine blk_far ?_ NB237_252.out _; (with_reducible repeat (first | refine blk_drewN ?_ _ | refine blk_drew ?_ | refine blk_alloc ?_ _)); refine blk_far ?_ NB237_252.out _; (with_reducible repeat (first | refine blk_drewN ?_ _ | refine blk_drew ?_ | refine blk_alloc ?_ _)); refine blk_far ?_ NB237_252.out _; (with_reducible repeat (first | refine blk_drewN ?_ _ | refine blk_drew ?_ | refine blk_alloc ?_ _)); refine blk_far ?_ NB237_252.out _; (with_reducible repeat (first | refine blk_drewN ?_ _ | refine blk_drew ?_ | refine blk_alloc ?_ _)); exact BK237.out) : p := h
theorem s10q17 {p : Prop} (h : p := by (with_reducible repeat (first | refine blk_drewN ?_ _ | refine blk_drew ?_ | refine blk_alloc ?_ _)); refine blk_far ?_ NB238_252.out _; (with_reducible repeat (first | refine blk_drewN ?_ _ | refine blk_drew ?_ | refine blk_alloc ?_ _)); refine blk_far ?_ NB238_252.out _; (with_reducible repeat (first | refine blk_drewN ?_ _ | refine blk_drew ?_ | refine blk_alloc ?_ _)); refine blk_far ?_ NB238_252.out _; (with_reducible repeat (first | refine blk_drewN ?_ _ | refine blk_drew ?_ | refine blk_alloc ?_ _)); refine blk_far ?_ NB238_252.out _; (with_reducible repeat (first | refine blk_drewN ?_ _ | refine blk_drew ?_ | refine blk_alloc ?_ _)); refine blk_far ?_ NB238_252.out _; (with_reducible repeat (first | refine blk_drewN ?_ _ | refine blk_drew ?_ | refine blk_alloc ?_ _)); refine blk_far ?_ NB238_252.out _; (with_reducible repeat (first | refine blk_drewN ?_ _ | refine blk_drew ?_ | refine blk_alloc ?_ _)); refine blk_far ?_ NB238_252.out _; (with_reducible repeat (first | refine blk_drewN ?_ _ | refine blk_drew ?_ | refine blk_alloc ?_ _)); refine blk_far ?_ NB238_252.out _; (with_reducible repeat (first | refine blk_drewN ?_ _ | refine blk_drew ?_ | refine blk_alloc ?_ _)); exact BK238.out) : p := h
theorem s10q18 {p : Prop} (h : p := by (with_reducible repeat (first | refine blk_drewN ?_ _ | refine blk_drew ?_ | refine blk_alloc ?_ _)); refine blk_far ?_ NB250_252.out _; (with_reducible repeat (first | refine blk_drewN ?_ _ | refine blk_drew ?_ | refine blk_alloc ?_ _)); refine blk_far ?_ NB250_252.out _; (with_reducible repeat (first | refine blk_drewN ?_ _ | refine blk_drew ?_ | refine blk_alloc ?_ _)); refine blk_far ?_ NB250_252.out _; (with_reducible repeat (first | refine blk_drewN ?_ _ | refine blk_drew ?_ | refine blk_alloc ?_ _)); refine blk_far ?_ NB250_252.out _; (with_reducible repeat (first | refine blk_drewN ?_ _ | refine blk_drew ?_ | refine blk_alloc ?_ _)); refine blk_far ?_ NB250_252.out _; (with_reducible repeat (first | refine blk_drewN ?_ _ | refine blk_drew ?_ | refine blk_alloc ?_ _)); refine blk_far ?_ NB250_252.out _; (with_reducible repeat (first | refine blk_drewN ?_ _ | refine blk_drew ?_ | refine blk_alloc ?_ _)); refine blk_far ?_ NB250_252.out _; (with_reducible repeat (first | refine blk_drewN ?_ _ | refine blk_drew ?_ | refine blk_alloc ?_ _)); refine blk_far ?_ NB250_252.out _; (with_reducible repeat (first | refine blk_drewN ?_ _ | refine blk_drew ?_ | refine blk_alloc ?_ _)); exact BK250.out) : p := h
theorem s10q19 {p : Prop} (h : p := by (with_reducible repeat (first | refine blk_drewN ?_ _ | refine blk_drew ?_ | refine blk_alloc ?_ _)); refine blk_put (cs := #[.int .i64 ((rd_T105 l2_3 x88_4).f0.f0), .int .i64 ((rd_T105 l2_3 x88_4).f0.f1), .string ((rd_T105 l2_3 x88_4).f0.f2), .int .i64 ((rd_T105 l2_3 x88_4).f1.f0), .int .i64 ((rd_T105 l2_3 x88_4).f1.f1), .string ((rd_T105 l2_3 x88_4).f1.f2), .int .i64 ((rd_T105 l2_3 x88_4).f2), .int .i64 0]) ?_ 7 _ rfl; (with_reducible repeat (first | refine blk_drewN ?_ _ | refine blk_drew ?_ | refine blk_alloc ?_ _)); refine blk_put (cs := #[.int .i64 ((rd_T105 l2_3 x88_4).f0.f0), .int .i64 ((rd_T105 l2_3 x88_4).f0.f1), .string ((rd_T105 l2_3 x88_4).f0.f2), .int .i64 ((rd_T105 l2_3 x88_4).f1.f0), .int .i64 ((rd_T105 l2_3 x88_4).f1.f1), .string ((rd_T105 l2_3 x88_4).f1.f2), .int .i64 0, .int .i64 0]) ?_ 6 _ rfl; (with_reducible repeat (first | refine blk_drewN ?_ _ | refine blk_drew ?_ | refine blk_alloc ?_ _)); refine blk_put (cs := #[.int .i64 ((rd_T105 l2_3 x88_4).f0.f0), .int .i64 ((rd_T105 l2_3 x88_4).f0.f1), .string ((rd_T105 l2_3 x88_4).f0.f2), .int .i64 ((rd_T105 l2_3 x88_4).f1.f0), .int .i64 ((rd_T105 l2_3 x88_4).f1.f1), .string (⟨#[]⟩ : ByteArray), .int .i64 0, .int .i64 0]) ?_ 5 _ rfl; (with_reducible repeat (first | refine blk_drewN ?_ _ | refine blk_drew ?_ | refine blk_alloc ?_ _)); refine blk_put (cs := #[.int .i64 ((rd_T105 l2_3 x88_4).f0.f0), .int .i64 ((rd_T105 l2_3 x88_4).f0.f1), .string ((rd_T105 l2_3 x88_4).f0.f2), .int .i64 ((rd_T105 l2_3 x88_4).f1.f0), .int .i64 0, .string (⟨#[]⟩ : ByteArray), .int .i64 0, .int .i64 0]) ?_ 4 _ rfl; (with_reducible repeat (first | refine blk_drewN ?_ _ | refine blk_drew ?_ | refine blk_alloc ?_ _)); refine blk_put (cs := #[.int .i64 ((rd_T105 l2_3 x88_4).f0.f0), .int .i64 ((rd_T105 l2_3 x88_4).f0.f1), .string ((rd_T105 l2_3 x88_4).f0.f2), .int .i64 0, .int .i64 0, .string (⟨#[]⟩ : ByteArray), .int .i64 0, .int .i64 0]) ?_ 3 _ rfl; (with_reducible repeat (first | refine blk_drewN ?_ _ | refine blk_drew ?_ | refine blk_alloc ?_ _)); refine blk_put (cs := #[.int .i64 ((rd_T105 l2_3 x88_4).f0.f0), .int .i64 ((rd_T105 l2_3 x88_4).f0.f1), .string (⟨#[]⟩ : ByteArray), .int .i64 0, .int .i64 0, .string (⟨#[]⟩ : ByteArray), .int .i64 0, .int .i64 0]) ?_ 2 _ rfl; (with_reducible repeat (first | refine blk_drewN ?_ _ | refine blk_drew ?_ | refine blk_alloc ?_ _)); refine blk_put (cs := #[.int .i64 ((rd_T105 l2_3 x88_4).f0.f0), .int .i64 0, .string (⟨#[]⟩ : ByteArray), .int .i64 0, .int .i64 0, .string (⟨#[]⟩ : ByteArray), .int .i64 0, .int .i64 0]) ?_ 1 _ rfl; (with_reducible repeat (first | refine blk_drewN ?_ _ | refine blk_drew ?_ | refine blk_alloc ?_ _)); refine blk_put (cs := #[.int .i64 0, .int .i64 0, .string (⟨#[]⟩ : ByteArray), .int .i64 0, .int .i64 0, .string (⟨#[]⟩ : ByteArray), .int .i64 0, .int .i64 0]) ?_ 0 _ rfl; (with_reducible repeat (first | refine blk_drewN ?_ _ | refine blk_drew ?_ | refine blk_alloc ?_ _)); exact BK252.out) : p := h
theorem s10q20 {p : Prop} (h : p := by rw [hg]; exact (below_size q1_)) : p := h
theorem s10q21 {p : Prop} (h : p := by rw [hg]; exact (below_size s10q8)) : p := h
theorem s10q22 {p : Prop} (h : p := by rw [hg]; exact (below_size s10q9)) : p := h
theorem s10q23 {p : Prop} (h : p := by rw [hg]; exact (below_size s10q11)) : p := h
theorem s10q24 {p : Prop} (h : p := by rw [hg]; exact Nat.ne_of_gt (blk_lt (g := gb237) (o := .cells #[.int .i64 a1_0, .int .i64 a1_1, .slice A1_2 l1_2.length c1_2, .slice A1_3 l1_3.length c1_3] 44 (0, 0)) (blkR BK237.out))) : p := h
theorem s10q25 {p : Prop} (h : p := by rw [hg]; exact Nat.ne_of_lt (blk_lt (g := gb237) (o := .cells #[.int .i64 a1_0, .int .i64 a1_1, .slice A1_2 l1_2.length c1_2, .slice A1_3 l1_3.length c1_3] 44 (0, 0)) (blkR BK237.out))) : p := h
theorem s10q26 {p : Prop} (h : p := by rw [hg]; exact Nat.ne_of_gt (blk_lt (g := gb237) (o := .cells #[.int .i64 a1_0, .int .i64 a1_1, .slice A1_2 l1_2.length c1_2, .slice (some ad249) l1_3.length c1_3] 44 (0, 0)) (blkR BK237.out))) : p := h
theorem s10q27 {p : Prop} (h : p := by rw [hg]; exact Nat.ne_of_gt (blk_lt (g := gb238) (o := .cells #[.int .i64 a2_0, .int .i64 a2_1, .slice (some ad244) l2_2.length c2_2, .slice A2_3 l2_3.length c2_3] 44 (0, 0)) (blkR BK238.out))) : p := h
theorem s10q28 {p : Prop} (h : p := by rw [hg]; exact Nat.ne_of_gt (blk_lt (g := gb238) (o := .cells #[.int .i64 a2_0, .int .i64 a2_1, .slice A2_2 l2_2.length c2_2, .slice (some ad251) l2_3.length c2_3] 44 (0, 0)) (blkR BK238.out))) : p := h
theorem s10q29 {p : Prop} (h : p := by rw [hg]; exact Nat.ne_of_lt (blk_lt (g := gb237) (o := .cells #[.int .i64 a1_0, .int .i64 a1_1, .slice A1_2 l1_2.length c1_2, .slice (some ad249) l1_3.length c1_3] 44 (0, 0)) (blkR BK237.out))) : p := h
theorem s10q30 {p : Prop} (h : p := by rw [hg]; exact Nat.ne_of_lt (blk_lt (g := gb238) (o := .cells #[.int .i64 a2_0, .int .i64 a2_1, .slice (some ad244) l2_2.length c2_2, .slice A2_3 l2_3.length c2_3] 44 (0, 0)) (blkR BK238.out))) : p := h
theorem s10q31 {p : Prop} (h : p := by rw [hg]; exact Nat.ne_of_lt (blk_lt (g := gb238) (o := .cells #[.int .i64 a2_0, .int .i64 a2_1, .slice A2_2 l2_2.length c2_2, .slice (some ad251) l2_3.length c2_3] 44 (0, 0)) (blkR BK238.out))) : p := h
theorem s10q32 {p : Prop} (h : p := by rw [hg]; exact Nat.ne_of_gt (blk_lt (g := gb250) (o := .cells #[.int .i64 ((rd_T105 l1_3 x81_3).f0.f0), .int .i64 ((rd_T105 l1_3 x81_3).f0.f1), .string ((rd_T105 l1_3 x81_3).f0.f2), .int .i64 ((rd_T105 l1_3 x81_3).f1.f0), .int .i64 ((rd_T105 l1_3 x81_3).f1.f1), .string ((rd_T105 l1_3 x81_3).f1.f2), .int .i64 ((rd_T105 l1_3 x81_3).f2), .int .i64 ((rd_T105 l1_3 x81_3).f3)] 105 (0, 0)) (blkR BK250.out))) : p := h
theorem s10q33 {p : Prop} (h : p := by rw [hg]; exact Nat.ne_of_lt (blk_lt (g := gb250) (o := .cells #[.int .i64 ((rd_T105 l1_3 x81_3).f0.f0), .int .i64 ((rd_T105 l1_3 x81_3).f0.f1), .string ((rd_T105 l1_3 x81_3).f0.f2), .int .i64 ((rd_T105 l1_3 x81_3).f1.f0), .int .i64 ((rd_T105 l1_3 x81_3).f1.f1), .string ((rd_T105 l1_3 x81_3).f1.f2), .int .i64 ((rd_T105 l1_3 x81_3).f2), .int .i64 ((rd_T105 l1_3 x81_3).f3)] 105 (0, 0)) (blkR BK250.out))) : p := h
/-! ### cost_JoinRows: function 28 -/
mutual
def cost_JoinRows.l0 : Nat → Int → List (S100) → Int → Int → Int → Int → List (S100) → List (S105) → Int → Int → List (S100) → List (S105) → Option (Int × Int)
  | 0, _, _, _, _, _, _, _, _, _, _, _, _ => none
  | k + 1, x10, x34, x35, x36, x238000, x238001, x238002, x238003, x239000, x239001, x239002, x239003 => if x36 < x35 then (if 0 ≤ x36 then (if x36 < (x34.length : Int) then ((cost_equal.f k x239000 x239001 x239002 x239003 ((rd_T100 x34 x36).f0.f0) ((rd_T100 x34 x36).f0.f1) ((rd_T100 x34 x36).f0.f2)).bind fun t243 => (cost_JoinRows.l0 k (wrap64 (x10 + (wrap64 (t243 * ((rd_T100 x34 x36).f1))))) x34 x35 (wrap64 (x36 + 1)) x238000 x238001 x238002 x238003 x239000 x239001 x239002 x239003)) else (none)) else (none)) else (cost_JoinRows.l1 k x10 x239002 (x239002.length : Int) 0 x238000 x238001 x238002 x238003 x239000 x239001 x239002 x239003)
def cost_JoinRows.l1 : Nat → Int → List (S100) → Int → Int → Int → Int → List (S100) → List (S105) → Int → Int → List (S100) → List (S105) → Option (Int × Int)
  | 0, _, _, _, _, _, _, _, _, _, _, _, _ => none
  | k + 1, x10, x51, x52, x53, x238000, x238001, x238002, x238003, x239000, x239001, x239002, x239003 => if x53 < x52 then (if 0 ≤ x53 then (if x53 < (x51.length : Int) then ((cost_often.f k x238002 ((rd_T100 x51 x53).f0.f0) ((rd_T100 x51 x53).f0.f1) ((rd_T100 x51 x53).f0.f2)).bind fun bt246 => (if bt246.2 = true then (cost_JoinRows.l1 k x10 x51 x52 (wrap64 (x53 + 1)) x238000 x238001 x238002 x238003 x239000 x239001 x239002 x239003) else ((cost_inBuckets.f k x238003 ((rd_T100 x51 x53).f0.f0) ((rd_T100 x51 x53).f0.f1) ((rd_T100 x51 x53).f0.f2)).bind fun t248 => (cost_JoinRows.l1 k (wrap64 (x10 + (wrap64 (t248 * ((rd_T100 x51 x53).f1))))) x51 x52 (wrap64 (x53 + 1)) x238000 x238001 x238002 x238003 x239000 x239001 x239002 x239003)))) else (none)) else (none)) else (cost_JoinRows.l2 k x10 x238003 (x238003.length : Int) 0 x239000 x239001 x239002 x239003)
def cost_JoinRows.l2 : Nat → Int → List (S105) → Int → Int → Int → Int → List (S100) → List (S105) → Option (Int × Int)
  | 0, _, _, _, _, _, _, _, _ => none
  | k + 1, x10, x79, x80, x81, x239000, x239001, x239002, x239003 => if x81 < x80 then (if 0 ≤ x81 then (if x81 < (x79.length : Int) then (cost_JoinRows.l3 k x10 x79 x80 x81 x239003 (x239003.length : Int) 0 x239000 x239001 x239002 x239003 ((rd_T105 x79 x81).f0.f0) ((rd_T105 x79 x81).f0.f1) ((rd_T105 x79 x81).f0.f2) ((rd_T105 x79 x81).f1.f0) ((rd_T105 x79 x81).f1.f1) ((rd_T105 x79 x81).f1.f2) ((rd_T105 x79 x81).f2) ((rd_T105 x79 x81).f3)) else (none)) else (none)) else (some (mn x10 1000000000000000, 0))
def cost_JoinRows.l3 : Nat → Int → List (S105) → Int → Int → List (S105) → Int → Int → Int → Int → List (S100) → List (S105) → Int → Int → ByteArray → Int → Int → ByteArray → Int → Int → Option (Int × Int)
  | 0, _, _, _, _, _, _, _, _, _, _, _, _, _, _, _, _, _, _, _ => none
  | k + 1, x10, x79, x80, x81, x86, x87, x88, x239000, x239001, x239002, x239003, x251000, x251001, x251002, x251003, x251004, x251005, x251006, x251007 => if x88 < x87 then (if 0 ≤ x88 then (if x88 < (x86.length : Int) then ((cost_meet.f x251000 x251001 x251002 x251003 x251004 x251005 x251006 x251007 ((rd_T105 x86 x88).f0.f0) ((rd_T105 x86 x88).f0.f1) ((rd_T105 x86 x88).f0.f2) ((rd_T105 x86 x88).f1.f0) ((rd_T105 x86 x88).f1.f1) ((rd_T105 x86 x88).f1.f2) ((rd_T105 x86 x88).f2) ((rd_T105 x86 x88).f3)).bind fun t253 => (if t253 = true then (if (mx x251007 ((rd_T105 x86 x88).f3)) = 0 then (none) else (cost_JoinRows.l3 k (wrap64 (x10 + (wrap64 (Int.tdiv (wrap64 (x251006 * ((rd_T105 x86 x88).f2))) (mx x251007 ((rd_T105 x86 x88).f3)))))) x79 x80 x81 x86 x87 (wrap64 (x88 + 1)) x239000 x239001 x239002 x239003 x251000 x251001 x251002 x251003 x251004 x251005 x251006 x251007)) else (cost_JoinRows.l3 k x10 x79 x80 x81 x86 x87 (wrap64 (x88 + 1)) x239000 x239001 x239002 x239003 x251000 x251001 x251002 x251003 x251004 x251005 x251006 x251007))) else (none)) else (none)) else (cost_JoinRows.l2 k x10 x79 x80 (wrap64 (x81 + 1)) x239000 x239001 x239002 x239003)
end
def cost_JoinRows.f (k : Nat) (a0 : Int) (a1_0 : Int) (a1_1 : Int) (l1_2 : List (S100)) (l1_3 : List (S105)) (a2_0 : Int) (a2_1 : Int) (l2_2 : List (S100)) (l2_3 : List (S105)) : Option (Int × Int) := (cost_CheckStats.f k a0 a1_0 a1_1 l1_2 l1_3).bind fun t239 => (if t239 = 0 then ((cost_CheckStats.f k a0 a2_0 a2_1 l2_2 l2_3).bind fun t240 => (if t240 = 0 then (cost_JoinRows.l0 k 0 l1_2 (l1_2.length : Int) 0 a1_0 a1_1 l1_2 l1_3 a2_0 a2_1 l2_2 l2_3) else (some (0, t240)))) else (some (0, t239)))
theorem cost_JoinRows.mono_l : ∀ k, (∀ y0 y1 y2 y3 y4 y5 y6 y7 y8 y9 y10 y11, LeO (cost_JoinRows.l0 k y0 y1 y2 y3 y4 y5 y6 y7 y8 y9 y10 y11) (cost_JoinRows.l0 (k + 1) y0 y1 y2 y3 y4 y5 y6 y7 y8 y9 y10 y11)) ∧ (∀ y0 y1 y2 y3 y4 y5 y6 y7 y8 y9 y10 y11, LeO (cost_JoinRows.l1 k y0 y1 y2 y3 y4 y5 y6 y7 y8 y9 y10 y11) (cost_JoinRows.l1 (k + 1) y0 y1 y2 y3 y4 y5 y6 y7 y8 y9 y10 y11)) ∧ (∀ y0 y1 y2 y3 y4 y5 y6 y7, LeO (cost_JoinRows.l2 k y0 y1 y2 y3 y4 y5 y6 y7) (cost_JoinRows.l2 (k + 1) y0 y1 y2 y3 y4 y5 y6 y7)) ∧ (∀ y0 y1 y2 y3 y4 y5 y6 y7 y8 y9 y10 y11 y12 y13 y14 y15 y16 y17 y18, LeO (cost_JoinRows.l3 k y0 y1 y2 y3 y4 y5 y6 y7 y8 y9 y10 y11 y12 y13 y14 y15 y16 y17 y18) (cost_JoinRows.l3 (k + 1) y0 y1 y2 y3 y4 y5 y6 y7 y8 y9 y10 y11 y12 y13 y14 y15 y16 y17 y18))
  | 0 => ⟨fun _ _ _ _ _ _ _ _ _ _ _ _ r h => by simp [cost_JoinRows.l0] at h, fun _ _ _ _ _ _ _ _ _ _ _ _ r h => by simp [cost_JoinRows.l1] at h, fun _ _ _ _ _ _ _ _ r h => by simp [cost_JoinRows.l2] at h, fun _ _ _ _ _ _ _ _ _ _ _ _ _ _ _ _ _ _ _ r h => by simp [cost_JoinRows.l3] at h⟩
  | k + 1 => by
    obtain ⟨ih0, ih1, ih2, ih3⟩ := cost_JoinRows.mono_l k
    refine ⟨?_, ?_, ?_, ?_⟩
    · intro y0 y1 y2 y3 y4 y5 y6 y7 y8 y9 y10 y11
      unfold cost_JoinRows.l0
      exact s10qm0
    · intro y0 y1 y2 y3 y4 y5 y6 y7 y8 y9 y10 y11
      unfold cost_JoinRows.l1
      exact s10qm0
    · intro y0 y1 y2 y3 y4 y5 y6 y7
      unfold cost_JoinRows.l2
      exact s10qm0
    · intro y0 y1 y2 y3 y4 y5 y6 y7 y8 y9 y10 y11 y12 y13 y14 y15 y16 y17 y18
      unfold cost_JoinRows.l3
      exact s10qm0
theorem cost_JoinRows.mono : ∀ a0 a1 a2 a3 a4 a5 a6 a7 a8 k, LeO (cost_JoinRows.f k a0 a1 a2 a3 a4 a5 a6 a7 a8) (cost_JoinRows.f (k + 1) a0 a1 a2 a3 a4 a5 a6 a7 a8) := by
 intro a0 a1 a2 a3 a4 a5 a6 a7 a8 k
 obtain ⟨ih0, ih1, ih2, ih3⟩ := cost_JoinRows.mono_l k
 unfold cost_JoinRows.f
 repeat' first
  | (with_reducible exact ih0 _ _ _ _ _ _ _ _ _ _ _ _)
  | (with_reducible exact ih1 _ _ _ _ _ _ _ _ _ _ _ _)
  | (with_reducible exact ih2 _ _ _ _ _ _ _ _)
  | (with_reducible exact ih3 _ _ _ _ _ _ _ _ _ _ _ _ _ _ _ _ _ _ _)
  | (with_reducible exact cost_CheckStats.mono _ _ _ _ _ _)
  | (with_reducible exact cost_equal.mono _ _ _ _ _ _ _ _)
  | (with_reducible exact cost_inBuckets.mono _ _ _ _ _)
  | (with_reducible exact cost_often.mono _ _ _ _ _)
  | (with_reducible exact LeO.refl _)
  | (with_reducible exact LeO.none _)
  | (with_reducible refine LeO.ite ?_ ?_)
  | (with_reducible refine LeO.bind ?_ (fun _ => ?_))
  | exact ih0 _ _ _ _ _ _ _ _ _ _ _ _
  | exact ih1 _ _ _ _ _ _ _ _ _ _ _ _
  | exact ih2 _ _ _ _ _ _ _ _
  | exact ih3 _ _ _ _ _ _ _ _ _ _ _ _ _ _ _ _ _ _ _
  | exact cost_CheckStats.mono _ _ _ _ _ _
  | exact cost_equal.mono _ _ _ _ _ _ _ _
  | exact cost_inBuckets.mono _ _ _ _ _
  | exact cost_often.mono _ _ _ _ _
  | exact LeO.none _
  | refine LeO.ite ?_ ?_
  | refine LeO.bind ?_ (fun _ => ?_)
def cost_JoinRows.T11 : Bool × List (List Nat × List Nat) := (true, [([], []), ([], []), ([], []), ([2], [2]), ([1, 3], [1, 3]), ([], []), ([5], [5]), ([4, 6], [4, 6]), ([0, 7], [0, 7]), ([8, 4, 0, 1, 2, 3, 4, 5, 6, 7, 8], [0, 8])])
def cost_JoinRows.B11 : List Nat := [0, 0, 0, 4, 14, 0, 32, 126, 255, 511]
theorem cost_JoinRows.tab11 : rtab .any (opsOf Tryd.f28 11) = cost_JoinRows.T11 := by kernel_rfl
theorem cost_JoinRows.bits11 : waitsOk cost_JoinRows.T11.2 cost_JoinRows.B11 = true := by kernel_rfl
def cost_JoinRows.T18 : Bool × List (List Nat × List Nat) := (true, [([], []), ([], []), ([1], [1]), ([], []), ([3], [3]), ([2, 4], [2, 4]), ([], []), ([6], [6]), ([5, 7], [5, 7]), ([0, 8], [0, 8]), ([9, 5, 0, 1, 2, 3, 4, 5, 6, 7, 8, 9], [0, 9])])
def cost_JoinRows.B18 : List Nat := [0, 0, 2, 0, 8, 30, 0, 64, 254, 511, 1023]
theorem cost_JoinRows.tab18 : rtab .any (opsOf Tryd.f28 18) = cost_JoinRows.T18 := by kernel_rfl
theorem cost_JoinRows.bits18 : waitsOk cost_JoinRows.T18.2 cost_JoinRows.B18 = true := by kernel_rfl
set_option maxHeartbeats 8000000 in
set_option maxRecDepth 100000 in
theorem cost_JoinRows.calls (k : Nat) (a0 : Int) (a1_0 : Int) (a1_1 : Int) (A1_2 : Option Addr) (c1_2 : Nat) (l1_2 : List (S100)) (A1_3 : Option Addr) (c1_3 : Nat) (l1_3 : List (S105)) (a2_0 : Int) (a2_1 : Int) (A2_2 : Option Addr) (c2_2 : Nat) (l2_2 : List (S100)) (A2_3 : Option Addr) (c2_3 : Nat) (l2_3 : List (S105)) (r1 : Int) (r2 : Int) (w : World) (hr1_2 : Kd.C k100 w A1_2 l1_2.length l1_2) (hc1_2 : l1_2.length ≤ c1_2) (hr1_3 : Kd.C k105 w A1_3 l1_3.length l1_3) (hc1_3 : l1_3.length ≤ c1_3) (hr2_2 : Kd.C k100 w A2_2 l2_2.length l2_2) (hc2_2 : l2_2.length ≤ c2_2) (hr2_3 : Kd.C k105 w A2_3 l2_3.length l2_3) (hc2_3 : l2_3.length ≤ c2_3) (h : cost_JoinRows.f k a0 a1_0 a1_1 l1_2 l1_3 a2_0 a2_1 l2_2 l2_3 = some (r1, r2)) :
    Calls Tryd.prog 28 #[.int .i64 a0, .agg #[.int .i64 a1_0, .int .i64 a1_1, .slice A1_2 l1_2.length c1_2, .slice A1_3 l1_3.length c1_3], .agg #[.int .i64 a2_0, .int .i64 a2_1, .slice A2_2 l2_2.length c2_2, .slice A2_3 l2_3.length c2_3]] w fun e w' => e = .returned (.tuple #[.int .i64 r1, .int .i64 r2]) ∧ Below w.heap.size w w' := by
 have hu44 := Tryd.underlying44
 have hu100 := Tryd.underlying100
 have hu48 := Tryd.underlying48
 have hu105 := Tryd.underlying105
 have HR1_2 := aM hr1_2
 have HC1_2 := aM hc1_2
 clear hr1_2 hc1_2
 have HR1_3 := aM hr1_3
 have HC1_3 := aM hc1_3
 clear hr1_3 hc1_3
 have HR2_2 := aM hr2_2
 have HC2_2 := aM hc2_2
 clear hr2_2 hc2_2
 have HR2_3 := aM hr2_3
 have HC2_3 := aM hc2_3
 clear hr2_3 hc2_3
 have HB := aM (Below.refl w.heap.size w)
 have H : ((cost_CheckStats.f k a0 a1_0 a1_1 l1_2 l1_3).bind fun t239 => (if t239 = 0 then ((cost_CheckStats.f k a0 a2_0 a2_1 l2_2 l2_3).bind fun t240 => (if t240 = 0 then (cost_JoinRows.l0 k 0 l1_2 (l1_2.length : Int) 0 a1_0 a1_1 l1_2 l1_3 a2_0 a2_1 l2_2 l2_3) else (some (0, t240)))) else (some (0, t239)))) = some (r1, r2) := h
 clear h
 replace H := Option.bind_eq_some_iff.mp H
 obtain ⟨t239, A40, H⟩ := H
 replace H : (if t239 = 0 then ((cost_CheckStats.f k a0 a2_0 a2_1 l2_2 l2_3).bind fun t240 => (if t240 = 0 then (cost_JoinRows.l0 k 0 l1_2 (l1_2.length : Int) 0 a1_0 a1_1 l1_2 l1_3 a2_0 a2_1 l2_2 l2_3) else (some (0, t240)))) else (some (0, t239))) = some (r1, r2) := H
 have A4 := aM A40
 clear A40
 by_cases c5 : t239 = 0
 case neg =>
  rw [if_neg c5] at H
  have c5b0 : (t239 == 0) = false := beq_eq_false_iff_ne.mpr c5
  have c5b1 : (t239 != 0) = true := bne_iff_ne.mpr c5
  simp only [Option.some.injEq, Prod.mk.injEq] at H
  obtain ⟨rfl, rfl⟩ := H
  go_enter Tryd.func28, Tryd.ntmps28
  go_wp2_with (first | ((with_reducible refine gate_dst (N := 4) rfl ?_); refine box_event ?hg (N := 4) ?hd (cs := #[.int .i64 a1_0, .int .i64 a1_1, .slice A1_2 l1_2.length c1_2, .slice A1_3 l1_3.length c1_3]) (t := 44) ?hr ?_; (case hd => rfl); (case hg => rfl); (case hr => first | (go_simp; done) | (go_simp; rfl)); intro gb237 hg w97 hbox hb; have BK237 := aM hbox; have GW237 := aM (s10q20 : w.heap.size ≤ gb237); have GE237 := GW237; replace HB := aM (below_step q1_ hb); clear hb hbox hg) | ((with_reducible refine gate_dst (N := 5) rfl ?_); refine box_event ?hg (N := 5) ?hd (cs := #[.int .i64 a2_0, .int .i64 a2_1, .slice A2_2 l2_2.length c2_2, .slice A2_3 l2_3.length c2_3]) (t := 44) ?hr ?_; (case hd => rfl); (case hg => rfl); (case hr => first | (go_simp; done) | (go_simp; rfl)); intro gb238 hg w98 hbox hb; have BK238 := aM hbox; have GW238 := aM (s10q21 : w.heap.size ≤ gb238); have GE238 := GW238; have NB237_238 := aM (s10q25 : gb237 ≠ gb238); have NB238_237 := aM (s10q24 : gb238 ≠ gb237); replace BK237 := aM (bbR BK237.out hb); replace HB := aM (below_step s10q8 hb); clear hb hbox hg; have hnb99 := NB237_238.out; have hnc99 := NB238_237.out; obtain ⟨hcz100_0, hcz100_1, hcz100_2, hcz100_3, hfz100_0, hfz100_1, hfz100_2, hfz100_3⟩ := cells4 BK237.out) | ((with_reducible refine gate_callee (f := 35) rfl ?_); refine goesL_ (some 23) rfl rfl Tryd.func35 q5_ rfl #[.int .i64 a0, .agg #[.int .i64 a1_0, .int .i64 a1_1, .slice A1_2 l1_2.length c1_2, .slice A1_3 l1_3.length c1_3]] rfl q2_ ?_; (with_reducible refine (cost_CheckStats.calls k a0 a1_0 a1_1 _ _ l1_2 _ _ l1_3 t239 _ ?side1 ?side2 ?side3 ?side4 A4.out).mono ?_); (case side1 => repeat (first | exact (Kd.C_below HR1_2.out HB.out) | (with_reducible refine Kd.C_alloc ?_ _) | (with_reducible refine Kd.C_drewN ?_ _) | (with_reducible refine Kd.C_drew ?_))); (case side2 => exact HC1_2.out); (case side3 => repeat (first | exact (Kd.C_below HR1_3.out HB.out) | (with_reducible refine Kd.C_alloc ?_ _) | (with_reducible refine Kd.C_drewN ?_ _) | (with_reducible refine Kd.C_drew ?_))); (case side4 => exact HC1_3.out); rintro e w101 ⟨rfl, hb⟩; refine ⟨_, rfl, ?_⟩; replace BK237 := aM (bbR BK237.out hb); replace BK238 := aM (bbR BK238.out hb); replace HB := aM (below_step s10q9 hb); (try clear hb); (try clear hb2); (try clear hk); (try clear hi)))
  go_ret2
  exact ⟨eqR, s10q9⟩
 rw [if_pos c5] at H
 have c5b0 : (t239 == 0) = true := beq_iff_eq.mpr c5
 have c5b1 : (t239 != 0) = false := bne_eq_false_iff_eq.mpr c5
 clear c5
 replace H := Option.bind_eq_some_iff.mp H
 obtain ⟨t240, A60, H⟩ := H
 replace H : (if t240 = 0 then (cost_JoinRows.l0 k 0 l1_2 (l1_2.length : Int) 0 a1_0 a1_1 l1_2 l1_3 a2_0 a2_1 l2_2 l2_3) else (some (0, t240))) = some (r1, r2) := H
 have A6 := aM A60
 clear A60
 by_cases c7 : t240 = 0
 case neg =>
  rw [if_neg c7] at H
  have c7b0 : (t240 == 0) = false := beq_eq_false_iff_ne.mpr c7
  have c7b1 : (t240 != 0) = true := bne_iff_ne.mpr c7
  simp only [Option.some.injEq, Prod.mk.injEq] at H
  obtain ⟨rfl, rfl⟩ := H
  go_enter Tryd.func28, Tryd.ntmps28
  go_wp2_with (first | ((with_reducible refine gate_dst (N := 4) rfl ?_); refine box_event ?hg (N := 4) ?hd (cs := #[.int .i64 a1_0, .int .i64 a1_1, .slice A1_2 l1_2.length c1_2, .slice A1_3 l1_3.length c1_3]) (t := 44) ?hr ?_; (case hd => rfl); (case hg => rfl); (case hr => first | (go_simp; done) | (go_simp; rfl)); intro gb237 hg w90 hbox hb; have BK237 := aM hbox; have GW237 := aM (s10q20 : w.heap.size ≤ gb237); have GE237 := GW237; replace HB := aM (below_step q1_ hb); clear hb hbox hg) | ((with_reducible refine gate_dst (N := 5) rfl ?_); refine box_event ?hg (N := 5) ?hd (cs := #[.int .i64 a2_0, .int .i64 a2_1, .slice A2_2 l2_2.length c2_2, .slice A2_3 l2_3.length c2_3]) (t := 44) ?hr ?_; (case hd => rfl); (case hg => rfl); (case hr => first | (go_simp; done) | (go_simp; rfl)); intro gb238 hg w91 hbox hb; have BK238 := aM hbox; have GW238 := aM (s10q21 : w.heap.size ≤ gb238); have GE238 := GW238; have NB237_238 := aM (s10q25 : gb237 ≠ gb238); have NB238_237 := aM (s10q24 : gb238 ≠ gb237); replace BK237 := aM (bbR BK237.out hb); replace HB := aM (below_step s10q8 hb); clear hb hbox hg; have hnb92 := NB237_238.out; have hnc92 := NB238_237.out; obtain ⟨hcz93_0, hcz93_1, hcz93_2, hcz93_3, hfz93_0, hfz93_1, hfz93_2, hfz93_3⟩ := cells4 BK237.out) | ((with_reducible refine gate_callee (f := 35) rfl ?_); refine goesL_ (some 23) rfl rfl Tryd.func35 q5_ rfl #[.int .i64 a0, .agg #[.int .i64 a1_0, .int .i64 a1_1, .slice A1_2 l1_2.length c1_2, .slice A1_3 l1_3.length c1_3]] rfl q2_ ?_; (with_reducible refine (cost_CheckStats.calls k a0 a1_0 a1_1 _ _ l1_2 _ _ l1_3 t239 _ ?side1 ?side2 ?side3 ?side4 A4.out).mono ?_); (case side1 => repeat (first | exact (Kd.C_below HR1_2.out HB.out) | (with_reducible refine Kd.C_alloc ?_ _) | (with_reducible refine Kd.C_drewN ?_ _) | (with_reducible refine Kd.C_drew ?_))); (case side2 => exact HC1_2.out); (case side3 => repeat (first | exact (Kd.C_below HR1_3.out HB.out) | (with_reducible refine Kd.C_alloc ?_ _) | (with_reducible refine Kd.C_drewN ?_ _) | (with_reducible refine Kd.C_drew ?_))); (case side4 => exact HC1_3.out); rintro e w94 ⟨rfl, hb⟩; refine ⟨_, rfl, ?_⟩; replace BK237 := aM (bbR BK237.out hb); replace BK238 := aM (bbR BK238.out hb); replace HB := aM (below_step s10q9 hb); (try clear hb); (try clear hb2); (try clear hk); (try clear hi); obtain ⟨hcz95_0, hcz95_1, hcz95_2, hcz95_3, hfz95_0, hfz95_1, hfz95_2, hfz95_3⟩ := cells4 BK238.out) | ((with_reducible refine gate_callee (f := 35) rfl ?_); refine goesL_ (some 29) rfl rfl Tryd.func35 q5_ rfl #[.int .i64 a0, .agg #[.int .i64 a2_0, .int .i64 a2_1, .slice A2_2 l2_2.length c2_2, .slice A2_3 l2_3.length c2_3]] rfl q2_ ?_; (with_reducible refine (cost_CheckStats.calls k a0 a2_0 a2_1 _ _ l2_2 _ _ l2_3 t240 _ ?side1 ?side2 ?side3 ?side4 A6.out).mono ?_); (case side1 => repeat (first | exact (Kd.C_below HR2_2.out HB.out) | (with_reducible refine Kd.C_alloc ?_ _) | (with_reducible refine Kd.C_drewN ?_ _) | (with_reducible refine Kd.C_drew ?_))); (case side2 => exact HC2_2.out); (case side3 => repeat (first | exact (Kd.C_below HR2_3.out HB.out) | (with_reducible refine Kd.C_alloc ?_ _) | (with_reducible refine Kd.C_drewN ?_ _) | (with_reducible refine Kd.C_drew ?_))); (case side4 => exact HC2_3.out); rintro e w96 ⟨rfl, hb⟩; refine ⟨_, rfl, ?_⟩; replace BK237 := aM (bbR BK237.out hb); replace BK238 := aM (bbR BK238.out hb); replace HB := aM (below_step s10q9 hb); (try clear hb); (try clear hb2); (try clear hk); (try clear hi)))
  go_ret2
  exact ⟨eqR, s10q9⟩
 rw [if_pos c7] at H
 have c7b0 : (t240 == 0) = true := beq_iff_eq.mpr c7
 have c7b1 : (t240 != 0) = false := bne_eq_false_iff_eq.mpr c7
 clear c7
 have H' := aM H
 clear H
 go_enter Tryd.func28, Tryd.ntmps28
 go_wp2_with (first | ((with_reducible refine gate_dst (N := 4) rfl ?_); refine box_event ?hg (N := 4) ?hd (cs := #[.int .i64 a1_0, .int .i64 a1_1, .slice A1_2 l1_2.length c1_2, .slice A1_3 l1_3.length c1_3]) (t := 44) ?hr ?_; (case hd => rfl); (case hg => rfl); (case hr => first | (go_simp; done) | (go_simp; rfl)); intro gb237 hg w8 hbox hb; have BK237 := aM hbox; have GW237 := aM (s10q20 : w.heap.size ≤ gb237); have GE237 := GW237; replace HB := aM (below_step q1_ hb); clear hb hbox hg) | ((with_reducible refine gate_dst (N := 5) rfl ?_); refine box_event ?hg (N := 5) ?hd (cs := #[.int .i64 a2_0, .int .i64 a2_1, .slice A2_2 l2_2.length c2_2, .slice A2_3 l2_3.length c2_3]) (t := 44) ?hr ?_; (case hd => rfl); (case hg => rfl); (case hr => first | (go_simp; done) | (go_simp; rfl)); intro gb238 hg w9 hbox hb; have BK238 := aM hbox; have GW238 := aM (s10q21 : w.heap.size ≤ gb238); have GE238 := GW238; have NB237_238 := aM (s10q25 : gb237 ≠ gb238); have NB238_237 := aM (s10q24 : gb238 ≠ gb237); replace BK237 := aM (bbR BK237.out hb); replace HB := aM (below_step s10q8 hb); clear hb hbox hg; have hnb10 := NB237_238.out; have hnc10 := NB238_237.out; obtain ⟨hcz11_0, hcz11_1, hcz11_2, hcz11_3, hfz11_0, hfz11_1, hfz11_2, hfz11_3⟩ := cells4 BK237.out) | ((with_reducible refine gate_callee (f := 35) rfl ?_); refine goesL_ (some 23) rfl rfl Tryd.func35 q5_ rfl #[.int .i64 a0, .agg #[.int .i64 a1_0, .int .i64 a1_1, .slice A1_2 l1_2.length c1_2, .slice A1_3 l1_3.length c1_3]] rfl q2_ ?_; (with_reducible refine (cost_CheckStats.calls k a0 a1_0 a1_1 _ _ l1_2 _ _ l1_3 t239 _ ?side1 ?side2 ?side3 ?side4 A4.out).mono ?_); (case side1 => repeat (first | exact (Kd.C_below HR1_2.out HB.out) | (with_reducible refine Kd.C_alloc ?_ _) | (with_reducible refine Kd.C_drewN ?_ _) | (with_reducible refine Kd.C_drew ?_))); (case side2 => exact HC1_2.out); (case side3 => repeat (first | exact (Kd.C_below HR1_3.out HB.out) | (with_reducible refine Kd.C_alloc ?_ _) | (with_reducible refine Kd.C_drewN ?_ _) | (with_reducible refine Kd.C_drew ?_))); (case side4 => exact HC1_3.out); rintro e w12 ⟨rfl, hb⟩; refine ⟨_, rfl, ?_⟩; replace BK237 := aM (bbR BK237.out hb); replace BK238 := aM (bbR BK238.out hb); replace HB := aM (below_step s10q9 hb); (try clear hb); (try clear hb2); (try clear hk); (try clear hi); obtain ⟨hcz13_0, hcz13_1, hcz13_2, hcz13_3, hfz13_0, hfz13_1, hfz13_2, hfz13_3⟩ := cells4 BK238.out) | ((with_reducible refine gate_callee (f := 35) rfl ?_); refine goesL_ (some 29) rfl rfl Tryd.func35 q5_ rfl #[.int .i64 a0, .agg #[.int .i64 a2_0, .int .i64 a2_1, .slice A2_2 l2_2.length c2_2, .slice A2_3 l2_3.length c2_3]] rfl q2_ ?_; (with_reducible refine (cost_CheckStats.calls k a0 a2_0 a2_1 _ _ l2_2 _ _ l2_3 t240 _ ?side1 ?side2 ?side3 ?side4 A6.out).mono ?_); (case side1 => repeat (first | exact (Kd.C_below HR2_2.out HB.out) | (with_reducible refine Kd.C_alloc ?_ _) | (with_reducible refine Kd.C_drewN ?_ _) | (with_reducible refine Kd.C_drew ?_))); (case side2 => exact HC2_2.out); (case side3 => repeat (first | exact (Kd.C_below HR2_3.out HB.out) | (with_reducible refine Kd.C_alloc ?_ _) | (with_reducible refine Kd.C_drewN ?_ _) | (with_reducible refine Kd.C_drew ?_))); (case side4 => exact HC2_3.out); rintro e w14 ⟨rfl, hb⟩; refine ⟨_, rfl, ?_⟩; replace BK237 := aM (bbR BK237.out hb); replace BK238 := aM (bbR BK238.out hb); replace HB := aM (below_step s10q9 hb); (try clear hb); (try clear hb2); (try clear hk); (try clear hi); obtain ⟨hcz15_0, hcz15_1, hcz15_2, hcz15_3, hfz15_0, hfz15_1, hfz15_2, hfz15_3⟩ := cells4 BK237.out))
 go_loopg [10, 36] k (fun kq v10 v36 w' => ∃ (x10_1 : Int) (x36_1 : Int), v10 = .int .i64 x10_1 ∧ v36 = .int .i64 x36_1 ∧ Aside0 (cost_JoinRows.l0 kq x10_1 l1_2 (l1_2.length : Int) x36_1 a1_0 a1_1 l1_2 l1_3 a2_0 a2_1 l2_2 l2_3 = some (r1, r2)) ∧ Aside0 (kq ≤ k) ∧ Aside0 (w'.heap[gb237]? = some (.cells #[.int .i64 a1_0, .int .i64 a1_1, (.slice A1_2 l1_2.length c1_2), (.slice A1_3 l1_3.length c1_3)] 44 (0, 0))) ∧ Aside0 (w'.heap[gb238]? = some (.cells #[.int .i64 a2_0, .int .i64 a2_1, (.slice A2_2 l2_2.length c2_2), (.slice A2_3 l2_3.length c2_3)] 44 (0, 0))) ∧ Aside0 (Below w.heap.size w w'))
 case atStart => exact ⟨(0), (0), q4_, q4_, H', ⟨Nat.le_refl _⟩, ⟨blkR BK237.out⟩, ⟨blkR BK238.out⟩, ⟨s10q9⟩⟩
 clear H'
 try clear c1
 try clear c2
 try clear p2
 try clear c3
 try clear c5
 try clear c5b0
 try clear c5b1
 try clear c7
 try clear c7b0
 try clear c7b1
 try clear c10
 try clear hcz11_0 hcz11_1 hcz11_2 hcz11_3
 try clear hcz13_0 hcz13_1 hcz13_2 hcz13_3
 try clear hcz15_0 hcz15_1 hcz15_2 hcz15_3
 try clear hfz11_0 hfz11_1 hfz11_2 hfz11_3
 try clear hfz13_0 hfz13_1 hfz13_2 hfz13_3
 try clear hfz15_0 hfz15_1 hfz15_2 hfz15_3
 obtain ⟨x10_1, x36_1, rfl, rfl, HA, HK1, BK237, BK238, HB⟩ := hrel
 cases gk with
 | zero => exact absurd HA.out (by simp [cost_JoinRows.l0])
 | succ k1 => ?_
 have H := HA.out
 clear HA
 simp only [cost_JoinRows.l0] at H
 by_cases c16 : x36_1 < (l1_2.length : Int)
 · rw [if_pos c16] at H
   have c16b0 : decide (x36_1 < (l1_2.length : Int)) = true := decide_eq_true c16
   clear c16
   by_cases c17 : 0 ≤ x36_1
   case neg =>
    rw [if_neg c17] at H
    exact absurd H (by simp)
   rw [if_pos c17] at H
   have c17b0 : decide (0 ≤ x36_1) = true := decide_eq_true c17
   clear c17
   by_cases c18 : x36_1 < (l1_2.length : Int)
   case neg =>
    rw [if_neg c18] at H
    exact absurd H (by simp)
   rw [if_pos c18] at H
   have c18b0 : decide (x36_1 < (l1_2.length : Int)) = true := decide_eq_true c18
   clear c18
   replace H := Option.bind_eq_some_iff.mp H
   obtain ⟨t243, A190, H⟩ := H
   replace H : (cost_JoinRows.l0 k1 (wrap64 (x10_1 + (wrap64 (t243 * ((rd_T100 l1_2 x36_1).f1))))) l1_2 (l1_2.length : Int) (wrap64 (x36_1 + 1)) a1_0 a1_1 l1_2 l1_3 a2_0 a2_1 l2_2 l2_3) = some (r1, r2) := H
   have A19 := aM A190
   clear A190
   have H' := aM H
   clear H
   have p241 : 0 ≤ (x36_1 : Int) := of_decide_eq_true q3_
   have q241 : x36_1 < (l1_2.length : Int) := of_decide_eq_true q3_
   obtain ⟨ad241, e241, hx241_0, hx241_1, hx241_2, hx241_3⟩ := at_T100 HR1_2.out x36_1 p241 q241
   cases e241
   replace hx241_0 := up_ HB.out hx241_0
   replace hx241_1 := up_ HB.out hx241_1
   replace hx241_2 := up_ HB.out hx241_2
   replace hx241_3 := up_ HB.out hx241_3
   replace p241 := eq_true p241
   replace q241 := eq_true q241
   try go_wp2_with (first | ((with_reducible refine gate_dst (N := 12) rfl ?_); refine box_event ?hg (N := 12) ?hd (cs := #[.int .i64 0, .int .i64 0, .string (⟨#[]⟩ : ByteArray), .int .i64 0]) (t := 100) ?hr ?_; (case hd => rfl); (case hg => rfl); (case hr => first | (go_simp; done) | (go_simp; rfl)); intro gb242 hg w20 hbox hb; have BK242 := aM hbox; have GW242 := aM (s10q22 : w.heap.size ≤ gb242); have GE242 := GW242; have NB237_242 := aM ((by rw [hg]; exact Nat.ne_of_lt (blk_lt (g := gb237) (o := .cells #[.int .i64 a1_0, .int .i64 a1_1, .slice (some ad241) l1_2.length c1_2, .slice A1_3 l1_3.length c1_3] 44 (0, 0)) (blkR BK237.out)) : gb237 ≠ gb242)); have NB242_237 := aM ((by rw [hg]; exact Nat.ne_of_gt (blk_lt (g := gb237) (o := .cells #[.int .i64 a1_0, .int .i64 a1_1, .slice (some ad241) l1_2.length c1_2, .slice A1_3 l1_3.length c1_3] 44 (0, 0)) (blkR BK237.out)) : gb242 ≠ gb237)); have NB238_242 := aM ((by rw [hg]; exact Nat.ne_of_lt (blk_lt (g := gb238) (o := .cells #[.int .i64 a2_0, .int .i64 a2_1, .slice A2_2 l2_2.length c2_2, .slice A2_3 l2_3.length c2_3] 44 (0, 0)) (blkR BK238.out)) : gb238 ≠ gb242)); have NB242_238 := aM ((by rw [hg]; exact Nat.ne_of_gt (blk_lt (g := gb238) (o := .cells #[.int .i64 a2_0, .int .i64 a2_1, .slice A2_2 l2_2.length c2_2, .slice A2_3 l2_3.length c2_3] 44 (0, 0)) (blkR BK238.out)) : gb242 ≠ gb238)); replace BK237 := aM (bbR BK237.out hb); replace BK238 := aM (bbR BK238.out hb); replace HB := aM (below_step s10q9 hb); clear hb hbox hg; have hnb21 := NB242_237.out; have hnc21 := NB237_242.out; have hnb22 := NB242_238.out; have hnc22 := NB238_242.out; obtain ⟨hcz23_0, hcz23_1, hcz23_2, hcz23_3, hfz23_0, hfz23_1, hfz23_2, hfz23_3⟩ := cells4 BK242.out))
   have n0_ : Aside0 (((((w20.setCell ⟨gb242, 0, none⟩ (.int .i64 ((rd_T100 l1_2 x36_1).f0.f0))).setCell ⟨gb242, 1, none⟩ (.int .i64 ((rd_T100 l1_2 x36_1).f0.f1))).setCell ⟨gb242, 2, none⟩ (.string ((rd_T100 l1_2 x36_1).f0.f2))).setCell ⟨gb242, 3, none⟩ (.int .i64 ((rd_T100 l1_2 x36_1).f1))).heap[gb237]? = some (.cells #[.int .i64 a1_0, .int .i64 a1_1, .slice (some ad241) l1_2.length c1_2, .slice A1_3 l1_3.length c1_3] 44 (0, 0))) := ⟨by (with_reducible repeat (first | refine blk_drewN ?_ _ | refine blk_drew ?_ | refine blk_alloc ?_ _)); refine blk_far ?_ NB237_242.out _; (with_reducible repeat (first | refine blk_drewN ?_ _ | refine blk_drew ?_ | refine blk_alloc ?_ _)); refine blk_far ?_ NB237_242.out _; (with_reducible repeat (first | refine blk_drewN ?_ _ | refine blk_drew ?_ | refine blk_alloc ?_ _)); refine blk_far ?_ NB237_242.out _; (with_reducible repeat (first | refine blk_drewN ?_ _ | refine blk_drew ?_ | refine blk_alloc ?_ _)); refine blk_far ?_ NB237_242.out _; (with_reducible repeat (first | refine blk_drewN ?_ _ | refine blk_drew ?_ | refine blk_alloc ?_ _)); exact BK237.out⟩
   have n1_ : Aside0 (((((w20.setCell ⟨gb242, 0, none⟩ (.int .i64 ((rd_T100 l1_2 x36_1).f0.f0))).setCell ⟨gb242, 1, none⟩ (.int .i64 ((rd_T100 l1_2 x36_1).f0.f1))).setCell ⟨gb242, 2, none⟩ (.string ((rd_T100 l1_2 x36_1).f0.f2))).setCell ⟨gb242, 3, none⟩ (.int .i64 ((rd_T100 l1_2 x36_1).f1))).heap[gb238]? = some (.cells #[.int .i64 a2_0, .int .i64 a2_1, .slice A2_2 l2_2.length c2_2, .slice A2_3 l2_3.length c2_3] 44 (0, 0))) := ⟨by (with_reducible repeat (first | refine blk_drewN ?_ _ | refine blk_drew ?_ | refine blk_alloc ?_ _)); refine blk_far ?_ NB238_242.out _; (with_reducible repeat (first | refine blk_drewN ?_ _ | refine blk_drew ?_ | refine blk_alloc ?_ _)); refine blk_far ?_ NB238_242.out _; (with_reducible repeat (first | refine blk_drewN ?_ _ | refine blk_drew ?_ | refine blk_alloc ?_ _)); refine blk_far ?_ NB238_242.out _; (with_reducible repeat (first | refine blk_drewN ?_ _ | refine blk_drew ?_ | refine blk_alloc ?_ _)); refine blk_far ?_ NB238_242.out _; (with_reducible repeat (first | refine blk_drewN ?_ _ | refine blk_drew ?_ | refine blk_alloc ?_ _)); exact BK238.out⟩
   have n2_ : Aside0 (((((w20.setCell ⟨gb242, 0, none⟩ (.int .i64 ((rd_T100 l1_2 x36_1).f0.f0))).setCell ⟨gb242, 1, none⟩ (.int .i64 ((rd_T100 l1_2 x36_1).f0.f1))).setCell ⟨gb242, 2, none⟩ (.string ((rd_T100 l1_2 x36_1).f0.f2))).setCell ⟨gb242, 3, none⟩ (.int .i64 ((rd_T100 l1_2 x36_1).f1))).heap[gb242]? = some (.cells #[.int .i64 ((rd_T100 l1_2 x36_1).f0.f0), .int .i64 ((rd_T100 l1_2 x36_1).f0.f1), .string ((rd_T100 l1_2 x36_1).f0.f2), .int .i64 ((rd_T100 l1_2 x36_1).f1)] 100 (0, 0))) := ⟨by (with_reducible repeat (first | refine blk_drewN ?_ _ | refine blk_drew ?_ | refine blk_alloc ?_ _)); refine blk_put (cs := #[.int .i64 ((rd_T100 l1_2 x36_1).f0.f0), .int .i64 ((rd_T100 l1_2 x36_1).f0.f1), .string ((rd_T100 l1_2 x36_1).f0.f2), .int .i64 0]) ?_ 3 _ rfl; (with_reducible repeat (first | refine blk_drewN ?_ _ | refine blk_drew ?_ | refine blk_alloc ?_ _)); refine blk_put (cs := #[.int .i64 ((rd_T100 l1_2 x36_1).f0.f0), .int .i64 ((rd_T100 l1_2 x36_1).f0.f1), .string (⟨#[]⟩ : ByteArray), .int .i64 0]) ?_ 2 _ rfl; (with_reducible repeat (first | refine blk_drewN ?_ _ | refine blk_drew ?_ | refine blk_alloc ?_ _)); refine blk_put (cs := #[.int .i64 ((rd_T100 l1_2 x36_1).f0.f0), .int .i64 0, .string (⟨#[]⟩ : ByteArray), .int .i64 0]) ?_ 1 _ rfl; (with_reducible repeat (first | refine blk_drewN ?_ _ | refine blk_drew ?_ | refine blk_alloc ?_ _)); refine blk_put (cs := #[.int .i64 0, .int .i64 0, .string (⟨#[]⟩ : ByteArray), .int .i64 0]) ?_ 0 _ rfl; (with_reducible repeat (first | refine blk_drewN ?_ _ | refine blk_drew ?_ | refine blk_alloc ?_ _)); exact BK242.out⟩
   have n3_ : Aside0 (Below w.heap.size w ((((w20.setCell ⟨gb242, 0, none⟩ (.int .i64 ((rd_T100 l1_2 x36_1).f0.f0))).setCell ⟨gb242, 1, none⟩ (.int .i64 ((rd_T100 l1_2 x36_1).f0.f1))).setCell ⟨gb242, 2, none⟩ (.string ((rd_T100 l1_2 x36_1).f0.f2))).setCell ⟨gb242, 3, none⟩ (.int .i64 ((rd_T100 l1_2 x36_1).f1)))) := ⟨s10z1⟩
   (try clear BK237)
   (try clear BK238)
   (try clear BK242)
   (try clear HB)
   generalize ((((w20.setCell ⟨gb242, 0, none⟩ (.int .i64 ((rd_T100 l1_2 x36_1).f0.f0))).setCell ⟨gb242, 1, none⟩ (.int .i64 ((rd_T100 l1_2 x36_1).f0.f1))).setCell ⟨gb242, 2, none⟩ (.string ((rd_T100 l1_2 x36_1).f0.f2))).setCell ⟨gb242, 3, none⟩ (.int .i64 ((rd_T100 l1_2 x36_1).f1))) = w24 at n0_ n1_ n2_ n3_ ⊢
   have BK237 := n0_
   have BK238 := n1_
   have BK242 := n2_
   have HB := n3_
   clear n0_ n1_ n2_ n3_
   have n0_ := aM (blk_drew BK237.out)
   have n1_ := aM (blk_drew BK238.out)
   have n2_ := aM (blk_drew BK242.out)
   have n3_ := aM (below_drew1 HB.out)
   clear BK237
   clear BK238
   clear BK242
   clear HB
   have BK237 := n0_
   have BK238 := n1_
   have BK242 := n2_
   have HB := n3_
   clear n0_ n1_ n2_ n3_
   refine start_ (n := 10) (S := fun w' => w'.cell? ⟨gb238, 0, none⟩ = some (.int .i64 a2_0) ∧ w'.cell? ⟨gb238, 1, none⟩ = some (.int .i64 a2_1) ∧ w'.cell? ⟨gb238, 2, none⟩ = some (.slice A2_2 l2_2.length c2_2) ∧ w'.cell? ⟨gb238, 3, none⟩ = some (.slice A2_3 l2_3.length c2_3) ∧ w'.cell? ⟨gb242, 0, none⟩ = some (.int .i64 ((rd_T100 l1_2 x36_1).f0.f0)) ∧ w'.cell? ⟨gb242, 1, none⟩ = some (.int .i64 ((rd_T100 l1_2 x36_1).f0.f1)) ∧ w'.cell? ⟨gb242, 2, none⟩ = some (.string ((rd_T100 l1_2 x36_1).f0.f2)) ∧ w'.cell? ⟨gb242, 3, none⟩ = some (.int .i64 ((rd_T100 l1_2 x36_1).f1))) (ds := []) #[fF, fF, fF, fF, fF, fF, fF, fF, fF, fF] q5_ rfl rfl ⟨(blk_cell BK238.out 0).trans rfl, (blk_cell BK238.out 1).trans rfl, (blk_cell BK238.out 2).trans rfl, (blk_cell BK238.out 3).trans rfl, (blk_cell BK242.out 0).trans rfl, (blk_cell BK242.out 1).trans rfl, (blk_cell BK242.out 2).trans rfl, (blk_cell BK242.out 3).trans rfl⟩ (fun hHeld => ?_); refine with_tabW cost_JoinRows.tab11 cost_JoinRows.bits11 (fun HT_ HW_ => ?_)
   generalize w24.drew = w25 at BK237 BK238 BK242 HB hHeld ⊢
   refine pure_ (i := 0) (N := some 40) (v := ?_) (a' := ?_) #[tT, fF, fF, fF, fF, fF, fF, fF, fF, fF] rfl rfl (any_of HT_.out q5_) (fun _ _ _ h => h) (Or.inl ⟨by rfl, ?_⟩) ?_ ?_
   rotate_left
   · intro w'
     go_simp
     with_reducible rfl
   rotate_left
   · simp only [Act.put, sqa, sqb, sqc, i64_w, i32_w]
     rfl
   refine pure_ (i := 2) (N := some 42) (v := ?_) (a' := ?_) #[tT, fF, tT, fF, fF, fF, fF, fF, fF, fF] rfl rfl (any_of HT_.out q5_) (fun _ _ _ h => h) (Or.inl ⟨by rfl, ?_⟩) ?_ ?_
   rotate_left
   · intro w'
     go_simp
     with_reducible rfl
   rotate_left
   · simp only [Act.put, sqa, sqb, sqc, i64_w, i32_w]
     rfl
   refine pure_ (i := 5) (N := some 45) (v := ?_) (a' := ?_) #[tT, fF, tT, fF, fF, tT, fF, fF, fF, fF] rfl rfl (any_of HT_.out q5_) (fun _ _ _ h => h) (Or.inl ⟨by rfl, ?_⟩) ?_ ?_
   rotate_left
   · intro w'
     go_simp
     with_reducible rfl
   rotate_left
   · simp only [Act.put, sqa, sqb, sqc, i64_w, i32_w]
     rfl
   refine take_ (i := 1) (N := some 41) (v := ?_) (a' := ?_) #[tT, tT, tT, fF, fF, tT, fF, fF, fF, fF] rfl rfl (take_ofW HT_.out HW_.out q5_) (fun _ _ _ h => h) (Or.inl ⟨by rfl, ?_⟩) hHeld ?_ ?_
   rotate_left
   · rintro w' ⟨s0, s1, s2, s3, s4, s5, s6, s7⟩
     go_simp
     with_reducible rfl
   rotate_left
   · simp only [Act.put, sqa, sqb, sqc, i64_w, i32_w]
     rfl
   refine take_ (i := 3) (N := some 43) (v := ?_) (a' := ?_) #[tT, tT, tT, tT, fF, tT, fF, fF, fF, fF] rfl rfl (take_ofW HT_.out HW_.out q5_) (fun _ _ _ h => h) (Or.inl ⟨by rfl, ?_⟩) hHeld ?_ ?_
   rotate_left
   · rintro w' ⟨s0, s1, s2, s3, s4, s5, s6, s7⟩
     go_simp
     with_reducible rfl
   rotate_left
   · simp only [Act.put, sqa, sqb, sqc, i64_w, i32_w]
     rfl
   refine take_ (i := 6) (N := some 46) (v := ?_) (a' := ?_) #[tT, tT, tT, tT, fF, tT, tT, fF, fF, fF] rfl rfl (take_ofW HT_.out HW_.out q5_) (fun _ _ _ h => h) (Or.inl ⟨by rfl, ?_⟩) hHeld ?_ ?_
   rotate_left
   · rintro w' ⟨s0, s1, s2, s3, s4, s5, s6, s7⟩
     go_simp
     with_reducible rfl
   rotate_left
   · simp only [Act.put, sqa, sqb, sqc, i64_w, i32_w]
     rfl
   refine one_ (i := 4) (N := some 44) #[tT, tT, tT, tT, tT, tT, tT, fF, fF, fF] rfl rfl (one_of HT_.out q5_) (by decide) (fun K hK => ?_)
   refine goes_ Tryd.func57 q5_ rfl #[.agg #[.int .i64 a2_0, .int .i64 a2_1, .slice A2_2 l2_2.length c2_2, .slice A2_3 l2_3.length c2_3], .agg #[.int .i64 ((rd_T100 l1_2 x36_1).f0.f0), .int .i64 ((rd_T100 l1_2 x36_1).f0.f1), .string ((rd_T100 l1_2 x36_1).f0.f2)]] (by rfl) rfl rfl q2_ ?_
   with_reducible refine (cost_equal.calls k1 a2_0 a2_1 _ _ l2_2 _ _ l2_3 ((rd_T100 l1_2 x36_1).f0.f0) ((rd_T100 l1_2 x36_1).f0.f1) ((rd_T100 l1_2 x36_1).f0.f2) t243 _ ?side1 ?side2 ?side3 ?side4 A19.out).mono ?_
   (case side1 => repeat (first | exact (Kd.C_below HR2_2.out HB.out) | (with_reducible refine Kd.C_alloc ?_ _) | (with_reducible refine Kd.C_drewN ?_ _) | (with_reducible refine Kd.C_drew ?_)))
   (case side2 => exact HC2_2.out)
   (case side3 => repeat (first | exact (Kd.C_below HR2_3.out HB.out) | (with_reducible refine Kd.C_alloc ?_ _) | (with_reducible refine Kd.C_drewN ?_ _) | (with_reducible refine Kd.C_drew ?_)))
   (case side4 => exact HC2_3.out)
   rintro e w26 ⟨rfl, hb⟩
   refine ⟨_, rfl, ?_⟩
   have n0_ := aM (bbR BK237.out hb)
   have n1_ := aM (bbR BK238.out hb)
   have n2_ := aM (bbR BK242.out hb)
   have n3_ := aM (below_step (by repeat (first | (with_reducible first | exact HB.out | apply below_alloc | apply pw_below_drewN | apply below_drew1 | refine below_set ?_ GE237.out | refine below_set ?_ GE238.out | refine below_set ?_ GE242.out) | exact HB.out)) hb)
   clear BK237
   clear BK238
   clear BK242
   clear HB
   have BK237 := n0_
   have BK238 := n1_
   have BK242 := n2_
   have HB := n3_
   clear n0_ n1_ n2_ n3_
   (try clear hb)
   (try clear hb2)
   (try clear hk)
   (try clear hi)
   refine hK.out _ _ ⟨(blk_cell BK238.out 0).trans rfl, (blk_cell BK238.out 1).trans rfl, (blk_cell BK238.out 2).trans rfl, (blk_cell BK238.out 3).trans rfl, (blk_cell BK242.out 0).trans rfl, (blk_cell BK242.out 1).trans rfl, (blk_cell BK242.out 2).trans rfl, (blk_cell BK242.out 3).trans rfl⟩ (fun hHeld => ?_)
   clear hK K
   refine norm_ (a' := ?_) ?_ ?_
   rotate_left
   · show Act.put _ (some 44) _ = _
     simp only [Act.put, sqa, sqb, sqc, i64_w, i32_w]
     rfl
   refine pure_ (i := 7) (N := some 47) (v := ?_) (a' := ?_) #[tT, tT, tT, tT, tT, tT, tT, tT, fF, fF] rfl rfl (any_of HT_.out q5_) (fun _ _ _ h => h) (Or.inl ⟨by rfl, ?_⟩) ?_ ?_
   rotate_left
   · intro w'
     go_simp
     with_reducible rfl
   rotate_left
   · simp only [Act.put, sqa, sqb, sqc, i64_w, i32_w]
     rfl
   refine pure_ (i := 8) (N := some 48) (v := ?_) (a' := ?_) #[tT, tT, tT, tT, tT, tT, tT, tT, tT, fF] rfl rfl (any_of HT_.out q5_) (fun _ _ _ h => h) (Or.inl ⟨by rfl, ?_⟩) ?_ ?_
   rotate_left
   · intro w'
     go_simp
     with_reducible rfl
   rotate_left
   · simp only [Act.put, sqa, sqb, sqc, i64_w, i32_w]
     rfl
   refine pure_ (i := 9) (N := some 10) (v := ?_) (a' := ?_) #[tT, tT, tT, tT, tT, tT, tT, tT, tT, tT] rfl rfl (any_of HT_.out q5_) (fun _ _ _ h => h) (Or.inl ⟨by rfl, ?_⟩) ?_ ?_
   rotate_left
   · intro w'
     go_simp
     with_reducible rfl
   rotate_left
   · simp only [Act.put, sqa, sqb, sqc, i64_w, i32_w]
     rfl
   refine done_ (done_of HT_.out q5_) ?_
   try go_wp2
   first | go_roundg k1 | (refine Handed.intro k1 ?measure ?_; rotate_left; go_step; (repeat apply Exists.intro); simp only [add_plain]; refine ⟨?rel, rfl⟩)
   case measure => have := HK1.out; omega
   case rel => exact ⟨(wrap64 (x10_1 + (wrap64 (t243 * ((rd_T100 l1_2 x36_1).f1))))), (wrap64 (x36_1 + 1)), q4_, q4_, H', ⟨by have := HK1.out; omega⟩, ⟨blkR BK237.out⟩, ⟨blkR BK238.out⟩, ⟨s10z1⟩⟩
 rw [if_neg c16] at H
 have c16b0 : decide (x36_1 < (l1_2.length : Int)) = false := decide_eq_false c16
 clear c16
 have H' := aM H
 clear H
 have hnb27 := NB238_237.out
 have hnc27 := NB237_238.out
 obtain ⟨hcz28_0, hcz28_1, hcz28_2, hcz28_3, hfz28_0, hfz28_1, hfz28_2, hfz28_3⟩ := cells4 BK238.out
 go_wp2
 go_loopg [10, 53] k1 (fun kq v10 v53 w' => ∃ (x10_2 : Int) (x53_2 : Int), v10 = .int .i64 x10_2 ∧ v53 = .int .i64 x53_2 ∧ Aside0 (cost_JoinRows.l1 kq x10_2 l2_2 (l2_2.length : Int) x53_2 a1_0 a1_1 l1_2 l1_3 a2_0 a2_1 l2_2 l2_3 = some (r1, r2)) ∧ Aside0 (kq ≤ k1) ∧ Aside0 (w'.heap[gb237]? = some (.cells #[.int .i64 a1_0, .int .i64 a1_1, (.slice A1_2 l1_2.length c1_2), (.slice A1_3 l1_3.length c1_3)] 44 (0, 0))) ∧ Aside0 (w'.heap[gb238]? = some (.cells #[.int .i64 a2_0, .int .i64 a2_1, (.slice A2_2 l2_2.length c2_2), (.slice A2_3 l2_3.length c2_3)] 44 (0, 0))) ∧ Aside0 (Below w.heap.size w w'))
 case atStart => exact ⟨(x10_1), (0), q4_, q4_, H', ⟨Nat.le_refl _⟩, ⟨blkR BK237.out⟩, ⟨blkR BK238.out⟩, ⟨s10q9⟩⟩
 clear H'
 try clear c1
 try clear c2
 try clear p2
 try clear q2
 try clear hx2
 try clear c3
 try clear c5
 try clear c5b0
 try clear c5b1
 try clear p6
 try clear c7
 try clear c7b0
 try clear c7b1
 try clear c10
 try clear c16
 try clear c16b0
 try clear c17
 try clear c17b0
 try clear c18
 try clear c18b0
 try clear c21
 try clear c22
 try clear p24
 try clear q24
 try clear hx24
 try clear c27
 try clear c28
 try clear hcz11_0 hcz11_1 hcz11_2 hcz11_3
 try clear hcz13_0 hcz13_1 hcz13_2 hcz13_3
 try clear hcz15_0 hcz15_1 hcz15_2 hcz15_3
 try clear hcz23_0 hcz23_1 hcz23_2 hcz23_3
 try clear hcz28_0 hcz28_1 hcz28_2 hcz28_3
 try clear hfz11_0 hfz11_1 hfz11_2 hfz11_3
 try clear hfz13_0 hfz13_1 hfz13_2 hfz13_3
 try clear hfz15_0 hfz15_1 hfz15_2 hfz15_3
 try clear hfz23_0 hfz23_1 hfz23_2 hfz23_3
 try clear hfz28_0 hfz28_1 hfz28_2 hfz28_3
 try clear hx241_0
 try clear hx241_1
 try clear hx241_2
 try clear hx241_3
 try clear p2
 try clear p241
 try clear q241
 obtain ⟨x10_2, x53_2, rfl, rfl, HA, HK2, BK237, BK238, HB⟩ := hrel
 cases gk with
 | zero => exact absurd HA.out (by simp [cost_JoinRows.l1])
 | succ k2 => ?_
 have H := HA.out
 clear HA
 simp only [cost_JoinRows.l1] at H
 by_cases c29 : x53_2 < (l2_2.length : Int)
 · rw [if_pos c29] at H
   have c29b0 : decide (x53_2 < (l2_2.length : Int)) = true := decide_eq_true c29
   clear c29
   by_cases c30 : 0 ≤ x53_2
   case neg =>
    rw [if_neg c30] at H
    exact absurd H (by simp)
   rw [if_pos c30] at H
   have c30b0 : decide (0 ≤ x53_2) = true := decide_eq_true c30
   clear c30
   by_cases c31 : x53_2 < (l2_2.length : Int)
   case neg =>
    rw [if_neg c31] at H
    exact absurd H (by simp)
   rw [if_pos c31] at H
   have c31b0 : decide (x53_2 < (l2_2.length : Int)) = true := decide_eq_true c31
   clear c31
   replace H := Option.bind_eq_some_iff.mp H
   obtain ⟨⟨t246, t247⟩, A320, H⟩ := H
   replace H : (if t247 = true then (cost_JoinRows.l1 k2 x10_2 l2_2 (l2_2.length : Int) (wrap64 (x53_2 + 1)) a1_0 a1_1 l1_2 l1_3 a2_0 a2_1 l2_2 l2_3) else ((cost_inBuckets.f k2 l1_3 ((rd_T100 l2_2 x53_2).f0.f0) ((rd_T100 l2_2 x53_2).f0.f1) ((rd_T100 l2_2 x53_2).f0.f2)).bind fun t248 => (cost_JoinRows.l1 k2 (wrap64 (x10_2 + (wrap64 (t248 * ((rd_T100 l2_2 x53_2).f1))))) l2_2 (l2_2.length : Int) (wrap64 (x53_2 + 1)) a1_0 a1_1 l1_2 l1_3 a2_0 a2_1 l2_2 l2_3))) = some (r1, r2) := H
   have A32 := aM A320
   clear A320
   by_cases c33 : t247 = true
   · subst c33
     have H1 : (cost_JoinRows.l1 k2 x10_2 l2_2 (l2_2.length : Int) (wrap64 (x53_2 + 1)) a1_0 a1_1 l1_2 l1_3 a2_0 a2_1 l2_2 l2_3) = some (r1, r2) := by rw [if_pos rfl] at H; exact H
     clear H
     have H := H1
     clear H1
     have H' := aM H
     clear H
     have p244 : 0 ≤ (x53_2 : Int) := of_decide_eq_true q3_
     have q244 : x53_2 < (l2_2.length : Int) := of_decide_eq_true q3_
     obtain ⟨ad244, e244, hx244_0, hx244_1, hx244_2, hx244_3⟩ := at_T100 HR2_2.out x53_2 p244 q244
     cases e244
     replace hx244_0 := up_ HB.out hx244_0
     replace hx244_1 := up_ HB.out hx244_1
     replace hx244_2 := up_ HB.out hx244_2
     replace hx244_3 := up_ HB.out hx244_3
     replace p244 := eq_true p244
     replace q244 := eq_true q244
     go_wp2_with (first | ((with_reducible refine gate_dst (N := 14) rfl ?_); refine box_event ?hg (N := 14) ?hd (cs := #[.int .i64 0, .int .i64 0, .string (⟨#[]⟩ : ByteArray), .int .i64 0]) (t := 100) ?hr ?_; (case hd => rfl); (case hg => rfl); (case hr => first | (go_simp; done) | (go_simp; rfl)); intro gb245 hg w34 hbox hb; have BK245 := aM hbox; have GW245 := aM (s10q22 : w.heap.size ≤ gb245); have GE245 := GW245; have NB237_245 := aM (s10q25 : gb237 ≠ gb245); have NB245_237 := aM (s10q24 : gb245 ≠ gb237); have NB238_245 := aM (s10q30 : gb238 ≠ gb245); have NB245_238 := aM (s10q27 : gb245 ≠ gb238); replace BK237 := aM (bbR BK237.out hb); replace BK238 := aM (bbR BK238.out hb); replace HB := aM (below_step s10q9 hb); clear hb hbox hg; have hnb35 := NB245_237.out; have hnc35 := NB237_245.out; have hnb36 := NB245_238.out; have hnc36 := NB238_245.out; obtain ⟨hcz37_0, hcz37_1, hcz37_2, hcz37_3, hfz37_0, hfz37_1, hfz37_2, hfz37_3⟩ := cells4 BK245.out; have hnb38 := NB237_238.out; have hnc38 := NB238_237.out; obtain ⟨hcz39_0, hcz39_1, hcz39_2, hcz39_3, hfz39_0, hfz39_1, hfz39_2, hfz39_3⟩ := cells4 BK237.out) | ((with_reducible refine gate_callee (f := 58) rfl ?_); refine goesL_ (some 62) rfl rfl Tryd.func58 q5_ rfl #[.slice A1_2 l1_2.length c1_2, .agg #[.int .i64 ((rd_T100 l2_2 x53_2).f0.f0), .int .i64 ((rd_T100 l2_2 x53_2).f0.f1), .string ((rd_T100 l2_2 x53_2).f0.f2)]] rfl q2_ ?_; (with_reducible refine (cost_often.calls k2 _ _ l1_2 ((rd_T100 l2_2 x53_2).f0.f0) ((rd_T100 l2_2 x53_2).f0.f1) ((rd_T100 l2_2 x53_2).f0.f2) t246 true _ ?side1 ?side2 A32.out).mono ?_); (case side1 => exact Kd.C_below HR1_2.out s10q10); (case side2 => exact HC1_2.out); rintro e w40 ⟨rfl, hb⟩; refine ⟨_, rfl, ?_⟩; replace BK237 := aM (blk_below (g := gb237) (o := .cells #[.int .i64 a1_0, .int .i64 a1_1, .slice A1_2 l1_2.length c1_2, .slice A1_3 l1_3.length c1_3] 44 (0, 0)) s10q13 hb); replace BK238 := aM (blk_below (g := gb238) (o := .cells #[.int .i64 a2_0, .int .i64 a2_1, .slice (some ad244) l2_2.length c2_2, .slice A2_3 l2_3.length c2_3] 44 (0, 0)) s10q14 hb); replace BK245 := aM (blk_below (g := gb245) (o := .cells #[.int .i64 ((rd_T100 l2_2 x53_2).f0.f0), .int .i64 ((rd_T100 l2_2 x53_2).f0.f1), .string ((rd_T100 l2_2 x53_2).f0.f2), .int .i64 ((rd_T100 l2_2 x53_2).f1)] 100 (0, 0)) s10q15 hb); replace HB := aM (below_step s10q10 hb); (try clear hb); (try clear hb2); (try clear hk); (try clear hi)))
     first | go_roundg k2 | (refine Handed.intro k2 ?measure ?_; rotate_left; go_step; (repeat apply Exists.intro); simp only [add_plain]; refine ⟨?rel, rfl⟩)
     case measure => have := HK1.out; have := HK2.out; omega
     case rel => exact ⟨(x10_2), (wrap64 (x53_2 + 1)), q4_, q4_, H', ⟨by have := HK1.out; have := HK2.out; omega⟩, ⟨blkR BK237.out⟩, ⟨blkR BK238.out⟩, ⟨s10q10⟩⟩
   replace c33 := Bool.eq_false_iff.mpr c33
   subst c33
   have H1 : ((cost_inBuckets.f k2 l1_3 ((rd_T100 l2_2 x53_2).f0.f0) ((rd_T100 l2_2 x53_2).f0.f1) ((rd_T100 l2_2 x53_2).f0.f2)).bind fun t248 => (cost_JoinRows.l1 k2 (wrap64 (x10_2 + (wrap64 (t248 * ((rd_T100 l2_2 x53_2).f1))))) l2_2 (l2_2.length : Int) (wrap64 (x53_2 + 1)) a1_0 a1_1 l1_2 l1_3 a2_0 a2_1 l2_2 l2_3)) = some (r1, r2) := q6_
   clear H
   have H := H1
   clear H1
   replace H := Option.bind_eq_some_iff.mp H
   obtain ⟨t248, A410, H⟩ := H
   replace H : (cost_JoinRows.l1 k2 (wrap64 (x10_2 + (wrap64 (t248 * ((rd_T100 l2_2 x53_2).f1))))) l2_2 (l2_2.length : Int) (wrap64 (x53_2 + 1)) a1_0 a1_1 l1_2 l1_3 a2_0 a2_1 l2_2 l2_3) = some (r1, r2) := H
   have A41 := aM A410
   clear A410
   have H' := aM H
   clear H
   have p244 : 0 ≤ (x53_2 : Int) := of_decide_eq_true q3_
   have q244 : x53_2 < (l2_2.length : Int) := of_decide_eq_true q3_
   obtain ⟨ad244, e244, hx244_0, hx244_1, hx244_2, hx244_3⟩ := at_T100 HR2_2.out x53_2 p244 q244
   cases e244
   replace hx244_0 := up_ HB.out hx244_0
   replace hx244_1 := up_ HB.out hx244_1
   replace hx244_2 := up_ HB.out hx244_2
   replace hx244_3 := up_ HB.out hx244_3
   replace p244 := eq_true p244
   replace q244 := eq_true q244
   try go_wp2_with (first | ((with_reducible refine gate_dst (N := 14) rfl ?_); refine box_event ?hg (N := 14) ?hd (cs := #[.int .i64 0, .int .i64 0, .string (⟨#[]⟩ : ByteArray), .int .i64 0]) (t := 100) ?hr ?_; (case hd => rfl); (case hg => rfl); (case hr => first | (go_simp; done) | (go_simp; rfl)); intro gb245 hg w42 hbox hb; have BK245 := aM hbox; have GW245 := aM (s10q22 : w.heap.size ≤ gb245); have GE245 := GW245; have NB237_245 := aM (s10q25 : gb237 ≠ gb245); have NB245_237 := aM (s10q24 : gb245 ≠ gb237); have NB238_245 := aM (s10q30 : gb238 ≠ gb245); have NB245_238 := aM (s10q27 : gb245 ≠ gb238); replace BK237 := aM (bbR BK237.out hb); replace BK238 := aM (bbR BK238.out hb); replace HB := aM (below_step s10q9 hb); clear hb hbox hg; have hnb43 := NB245_237.out; have hnc43 := NB237_245.out; have hnb44 := NB245_238.out; have hnc44 := NB238_245.out; obtain ⟨hcz45_0, hcz45_1, hcz45_2, hcz45_3, hfz45_0, hfz45_1, hfz45_2, hfz45_3⟩ := cells4 BK245.out; have hnb46 := NB237_238.out; have hnc46 := NB238_237.out; obtain ⟨hcz47_0, hcz47_1, hcz47_2, hcz47_3, hfz47_0, hfz47_1, hfz47_2, hfz47_3⟩ := cells4 BK237.out) | ((with_reducible refine gate_callee (f := 58) rfl ?_); refine goesL_ (some 62) rfl rfl Tryd.func58 q5_ rfl #[.slice A1_2 l1_2.length c1_2, .agg #[.int .i64 ((rd_T100 l2_2 x53_2).f0.f0), .int .i64 ((rd_T100 l2_2 x53_2).f0.f1), .string ((rd_T100 l2_2 x53_2).f0.f2)]] rfl q2_ ?_; (with_reducible refine (cost_often.calls k2 _ _ l1_2 ((rd_T100 l2_2 x53_2).f0.f0) ((rd_T100 l2_2 x53_2).f0.f1) ((rd_T100 l2_2 x53_2).f0.f2) t246 false _ ?side1 ?side2 A32.out).mono ?_); (case side1 => exact Kd.C_below HR1_2.out s10q10); (case side2 => exact HC1_2.out); rintro e w48 ⟨rfl, hb⟩; refine ⟨_, rfl, ?_⟩; replace BK237 := aM (blk_below (g := gb237) (o := .cells #[.int .i64 a1_0, .int .i64 a1_1, .slice A1_2 l1_2.length c1_2, .slice A1_3 l1_3.length c1_3] 44 (0, 0)) s10q13 hb); replace BK238 := aM (blk_below (g := gb238) (o := .cells #[.int .i64 a2_0, .int .i64 a2_1, .slice (some ad244) l2_2.length c2_2, .slice A2_3 l2_3.length c2_3] 44 (0, 0)) s10q14 hb); replace BK245 := aM (blk_below (g := gb245) (o := .cells #[.int .i64 ((rd_T100 l2_2 x53_2).f0.f0), .int .i64 ((rd_T100 l2_2 x53_2).f0.f1), .string ((rd_T100 l2_2 x53_2).f0.f2), .int .i64 ((rd_T100 l2_2 x53_2).f1)] 100 (0, 0)) s10q15 hb); replace HB := aM (below_step s10q10 hb); (try clear hb); (try clear hb2); (try clear hk); (try clear hi)))
   have n0_ := aM (blk_drew BK237.out)
   have n1_ := aM (blk_drew BK238.out)
   have n2_ := aM (blk_drew BK245.out)
   have n3_ := aM (below_drew1 HB.out)
   clear BK237
   clear BK238
   clear BK245
   clear HB
   have BK237 := n0_
   have BK238 := n1_
   have BK245 := n2_
   have HB := n3_
   clear n0_ n1_ n2_ n3_
   refine start_ (n := 11) (S := fun w' => w'.cell? ⟨gb237, 0, none⟩ = some (.int .i64 a1_0) ∧ w'.cell? ⟨gb237, 1, none⟩ = some (.int .i64 a1_1) ∧ w'.cell? ⟨gb237, 2, none⟩ = some (.slice A1_2 l1_2.length c1_2) ∧ w'.cell? ⟨gb237, 3, none⟩ = some (.slice A1_3 l1_3.length c1_3) ∧ w'.cell? ⟨gb245, 0, none⟩ = some (.int .i64 ((rd_T100 l2_2 x53_2).f0.f0)) ∧ w'.cell? ⟨gb245, 1, none⟩ = some (.int .i64 ((rd_T100 l2_2 x53_2).f0.f1)) ∧ w'.cell? ⟨gb245, 2, none⟩ = some (.string ((rd_T100 l2_2 x53_2).f0.f2)) ∧ w'.cell? ⟨gb245, 3, none⟩ = some (.int .i64 ((rd_T100 l2_2 x53_2).f1))) (ds := []) #[fF, fF, fF, fF, fF, fF, fF, fF, fF, fF, fF] q5_ rfl rfl ⟨(blk_cell BK237.out 0).trans rfl, (blk_cell BK237.out 1).trans rfl, (blk_cell BK237.out 2).trans rfl, (blk_cell BK237.out 3).trans rfl, (blk_cell BK245.out 0).trans rfl, (blk_cell BK245.out 1).trans rfl, (blk_cell BK245.out 2).trans rfl, (blk_cell BK245.out 3).trans rfl⟩ (fun hHeld => ?_); refine with_tabW cost_JoinRows.tab18 cost_JoinRows.bits18 (fun HT_ HW_ => ?_)
   generalize w48.drew = w49 at BK237 BK238 BK245 HB hHeld ⊢
   refine pure_ (i := 0) (N := some 67) (v := ?_) (a' := ?_) #[tT, fF, fF, fF, fF, fF, fF, fF, fF, fF, fF] rfl rfl (any_of HT_.out q5_) (fun _ _ _ h => h) (Or.inl ⟨by rfl, ?_⟩) ?_ ?_
   rotate_left
   · intro w'
     go_simp
     with_reducible rfl
   rotate_left
   · simp only [Act.put, sqa, sqb, sqc, i64_w, i32_w]
     rfl
   refine pure_ (i := 1) (N := some 68) (v := ?_) (a' := ?_) #[tT, tT, fF, fF, fF, fF, fF, fF, fF, fF, fF] rfl rfl (any_of HT_.out q5_) (fun _ _ _ h => h) (Or.inl ⟨by rfl, ?_⟩) ?_ ?_
   rotate_left
   · intro w'
     go_simp
     with_reducible rfl
   rotate_left
   · simp only [Act.put, sqa, sqb, sqc, i64_w, i32_w]
     rfl
   refine pure_ (i := 3) (N := some 70) (v := ?_) (a' := ?_) #[tT, tT, fF, tT, fF, fF, fF, fF, fF, fF, fF] rfl rfl (any_of HT_.out q5_) (fun _ _ _ h => h) (Or.inl ⟨by rfl, ?_⟩) ?_ ?_
   rotate_left
   · intro w'
     go_simp
     with_reducible rfl
   rotate_left
   · simp only [Act.put, sqa, sqb, sqc, i64_w, i32_w]
     rfl
   refine pure_ (i := 6) (N := some 73) (v := ?_) (a' := ?_) #[tT, tT, fF, tT, fF, fF, tT, fF, fF, fF, fF] rfl rfl (any_of HT_.out q5_) (fun _ _ _ h => h) (Or.inl ⟨by rfl, ?_⟩) ?_ ?_
   rotate_left
   · intro w'
     go_simp
     with_reducible rfl
   rotate_left
   · simp only [Act.put, sqa, sqb, sqc, i64_w, i32_w]
     rfl
   refine take_ (i := 2) (N := some 69) (v := ?_) (a' := ?_) #[tT, tT, tT, tT, fF, fF, tT, fF, fF, fF, fF] rfl rfl (take_ofW HT_.out HW_.out q5_) (fun _ _ _ h => h) (Or.inl ⟨by rfl, ?_⟩) hHeld ?_ ?_
   rotate_left
   · rintro w' ⟨s0, s1, s2, s3, s4, s5, s6, s7⟩
     go_simp
     with_reducible rfl
   rotate_left
   · simp only [Act.put, sqa, sqb, sqc, i64_w, i32_w]
     rfl
   refine take_ (i := 4) (N := some 71) (v := ?_) (a' := ?_) #[tT, tT, tT, tT, tT, fF, tT, fF, fF, fF, fF] rfl rfl (take_ofW HT_.out HW_.out q5_) (fun _ _ _ h => h) (Or.inl ⟨by rfl, ?_⟩) hHeld ?_ ?_
   rotate_left
   · rintro w' ⟨s0, s1, s2, s3, s4, s5, s6, s7⟩
     go_simp
     with_reducible rfl
   rotate_left
   · simp only [Act.put, sqa, sqb, sqc, i64_w, i32_w]
     rfl
   refine take_ (i := 7) (N := some 74) (v := ?_) (a' := ?_) #[tT, tT, tT, tT, tT, fF, tT, tT, fF, fF, fF] rfl rfl (take_ofW HT_.out HW_.out q5_) (fun _ _ _ h => h) (Or.inl ⟨by rfl, ?_⟩) hHeld ?_ ?_
   rotate_left
   · rintro w' ⟨s0, s1, s2, s3, s4, s5, s6, s7⟩
     go_simp
     with_reducible rfl
   rotate_left
   · simp only [Act.put, sqa, sqb, sqc, i64_w, i32_w]
     rfl
   refine one_ (i := 5) (N := some 72) #[tT, tT, tT, tT, tT, tT, tT, tT, fF, fF, fF] rfl rfl (one_of HT_.out q5_) (by decide) (fun K hK => ?_)
   refine goes_ Tryd.func59 q5_ rfl #[.slice A1_3 l1_3.length c1_3, .agg #[.int .i64 ((rd_T100 l2_2 x53_2).f0.f0), .int .i64 ((rd_T100 l2_2 x53_2).f0.f1), .string ((rd_T100 l2_2 x53_2).f0.f2)]] (by rfl) rfl rfl q2_ ?_
   with_reducible refine (cost_inBuckets.calls k2 _ _ l1_3 ((rd_T100 l2_2 x53_2).f0.f0) ((rd_T100 l2_2 x53_2).f0.f1) ((rd_T100 l2_2 x53_2).f0.f2) t248 _ ?side1 ?side2 A41.out).mono ?_
   (case side1 => repeat (first | exact (Kd.C_below HR1_3.out HB.out) | (with_reducible refine Kd.C_alloc ?_ _) | (with_reducible refine Kd.C_drewN ?_ _) | (with_reducible refine Kd.C_drew ?_)))
   (case side2 => exact HC1_3.out)
   rintro e w50 ⟨rfl, hb⟩
   refine ⟨_, rfl, ?_⟩
   have n0_ := aM (bbR BK237.out hb)
   have n1_ := aM (bbR BK238.out hb)
   have n2_ := aM (bbR BK245.out hb)
   have n3_ := aM (below_step s10q10 hb)
   clear BK237
   clear BK238
   clear BK245
   clear HB
   have BK237 := n0_
   have BK238 := n1_
   have BK245 := n2_
   have HB := n3_
   clear n0_ n1_ n2_ n3_
   (try clear hb)
   (try clear hb2)
   (try clear hk)
   (try clear hi)
   refine hK.out _ _ ⟨(blk_cell BK237.out 0).trans rfl, (blk_cell BK237.out 1).trans rfl, (blk_cell BK237.out 2).trans rfl, (blk_cell BK237.out 3).trans rfl, (blk_cell BK245.out 0).trans rfl, (blk_cell BK245.out 1).trans rfl, (blk_cell BK245.out 2).trans rfl, (blk_cell BK245.out 3).trans rfl⟩ (fun hHeld => ?_)
   clear hK K
   refine norm_ (a' := ?_) ?_ ?_
   rotate_left
   · show Act.put _ (some 72) _ = _
     simp only [Act.put, sqa, sqb, sqc, i64_w, i32_w]
     rfl
   refine pure_ (i := 8) (N := some 75) (v := ?_) (a' := ?_) #[tT, tT, tT, tT, tT, tT, tT, tT, tT, fF, fF] rfl rfl (any_of HT_.out q5_) (fun _ _ _ h => h) (Or.inl ⟨by rfl, ?_⟩) ?_ ?_
   rotate_left
   · intro w'
     go_simp
     with_reducible rfl
   rotate_left
   · simp only [Act.put, sqa, sqb, sqc, i64_w, i32_w]
     rfl
   refine pure_ (i := 9) (N := some 76) (v := ?_) (a' := ?_) #[tT, tT, tT, tT, tT, tT, tT, tT, tT, tT, fF] rfl rfl (any_of HT_.out q5_) (fun _ _ _ h => h) (Or.inl ⟨by rfl, ?_⟩) ?_ ?_
   rotate_left
   · intro w'
     go_simp
     with_reducible rfl
   rotate_left
   · simp only [Act.put, sqa, sqb, sqc, i64_w, i32_w]
     rfl
   refine pure_ (i := 10) (N := some 10) (v := ?_) (a' := ?_) #[tT, tT, tT, tT, tT, tT, tT, tT, tT, tT, tT] rfl rfl (any_of HT_.out q5_) (fun _ _ _ h => h) (Or.inl ⟨by rfl, ?_⟩) ?_ ?_
   rotate_left
   · intro w'
     go_simp
     with_reducible rfl
   rotate_left
   · simp only [Act.put, sqa, sqb, sqc, i64_w, i32_w]
     rfl
   refine done_ (done_of HT_.out q5_) ?_
   try go_wp2
   first | go_roundg k2 | (refine Handed.intro k2 ?measure ?_; rotate_left; go_step; (repeat apply Exists.intro); simp only [add_plain]; refine ⟨?rel, rfl⟩)
   case measure => have := HK1.out; have := HK2.out; omega
   case rel => exact ⟨(wrap64 (x10_2 + (wrap64 (t248 * ((rd_T100 l2_2 x53_2).f1))))), (wrap64 (x53_2 + 1)), q4_, q4_, H', ⟨by have := HK1.out; have := HK2.out; omega⟩, ⟨blkR BK237.out⟩, ⟨blkR BK238.out⟩, ⟨s10q10⟩⟩
 rw [if_neg c29] at H
 have c29b0 : decide (x53_2 < (l2_2.length : Int)) = false := decide_eq_false c29
 clear c29
 have H' := aM H
 clear H
 have hnb51 := NB237_238.out
 have hnc51 := NB238_237.out
 obtain ⟨hcz52_0, hcz52_1, hcz52_2, hcz52_3, hfz52_0, hfz52_1, hfz52_2, hfz52_3⟩ := cells4 BK237.out
 go_wp2
 go_loopg [10, 81] k2 (fun kq v10 v81 w' => ∃ (x10_3 : Int) (x81_3 : Int), v10 = .int .i64 x10_3 ∧ v81 = .int .i64 x81_3 ∧ Aside0 (cost_JoinRows.l2 kq x10_3 l1_3 (l1_3.length : Int) x81_3 a2_0 a2_1 l2_2 l2_3 = some (r1, r2)) ∧ Aside0 (kq ≤ k2) ∧ Aside0 (w'.heap[gb237]? = some (.cells #[.int .i64 a1_0, .int .i64 a1_1, (.slice A1_2 l1_2.length c1_2), (.slice A1_3 l1_3.length c1_3)] 44 (0, 0))) ∧ Aside0 (w'.heap[gb238]? = some (.cells #[.int .i64 a2_0, .int .i64 a2_1, (.slice A2_2 l2_2.length c2_2), (.slice A2_3 l2_3.length c2_3)] 44 (0, 0))) ∧ Aside0 (Below w.heap.size w w'))
 case atStart => exact ⟨(x10_2), (0), q4_, q4_, H', ⟨Nat.le_refl _⟩, ⟨blkR BK237.out⟩, ⟨blkR BK238.out⟩, ⟨s10q9⟩⟩
 clear H'
 try clear c1
 try clear c2
 try clear p2
 try clear q2
 try clear hx2
 try clear c3
 try clear c4
 try clear c5
 try clear c5b0
 try clear c5b1
 try clear p6
 try clear c7
 try clear c7b0
 try clear c7b1
 try clear c10
 try clear c16
 try clear c16b0
 try clear c17
 try clear c17b0
 try clear c18
 try clear c18b0
 try clear c21
 try clear c22
 try clear p24
 try clear q24
 try clear hx24
 try clear c27
 try clear c28
 try clear c29
 try clear c29b0
 try clear c30
 try clear c30b0
 try clear c31
 try clear c31b0
 try clear c33
 try clear c35
 try clear c36
 try clear c38
 try clear c43
 try clear c44
 try clear c46
 try clear c51
 try clear hcz11_0 hcz11_1 hcz11_2 hcz11_3
 try clear hcz13_0 hcz13_1 hcz13_2 hcz13_3
 try clear hcz15_0 hcz15_1 hcz15_2 hcz15_3
 try clear hcz23_0 hcz23_1 hcz23_2 hcz23_3
 try clear hcz28_0 hcz28_1 hcz28_2 hcz28_3
 try clear hcz37_0 hcz37_1 hcz37_2 hcz37_3
 try clear hcz39_0 hcz39_1 hcz39_2 hcz39_3
 try clear hcz45_0 hcz45_1 hcz45_2 hcz45_3
 try clear hcz47_0 hcz47_1 hcz47_2 hcz47_3
 try clear hcz52_0 hcz52_1 hcz52_2 hcz52_3
 try clear hfz11_0 hfz11_1 hfz11_2 hfz11_3
 try clear hfz13_0 hfz13_1 hfz13_2 hfz13_3
 try clear hfz15_0 hfz15_1 hfz15_2 hfz15_3
 try clear hfz23_0 hfz23_1 hfz23_2 hfz23_3
 try clear hfz28_0 hfz28_1 hfz28_2 hfz28_3
 try clear hfz37_0 hfz37_1 hfz37_2 hfz37_3
 try clear hfz39_0 hfz39_1 hfz39_2 hfz39_3
 try clear hfz45_0 hfz45_1 hfz45_2 hfz45_3
 try clear hfz47_0 hfz47_1 hfz47_2 hfz47_3
 try clear hfz52_0 hfz52_1 hfz52_2 hfz52_3
 try clear hx241_0
 try clear hx241_1
 try clear hx241_2
 try clear hx241_3
 try clear hx244_0
 try clear hx244_1
 try clear hx244_2
 try clear hx244_3
 try clear p2
 try clear p24
 try clear p241
 try clear p244
 try clear p6
 try clear q2
 try clear q24
 try clear q241
 try clear q244
 obtain ⟨x10_3, x81_3, rfl, rfl, HA, HK3, BK237, BK238, HB⟩ := hrel
 cases gk with
 | zero => exact absurd HA.out (by simp [cost_JoinRows.l2])
 | succ k3 => ?_
 have H := HA.out
 clear HA
 simp only [cost_JoinRows.l2] at H
 by_cases c53 : x81_3 < (l1_3.length : Int)
 case neg =>
  rw [if_neg c53] at H
  have c53b0 : decide (x81_3 < (l1_3.length : Int)) = false := decide_eq_false c53
  clear c53
  obtain ⟨ji89, hji89⟩ : ∃ j_ : Int, (mn x10_3 1000000000000000) = j_ := ⟨_, rfl⟩
  replace H : (some (ji89, 0)) = some (r1, r2) := by first | (rw [hji89] at H; exact H) | (simp only [hji89] at H ⊢; exact H)
  have hji89_ : (if 1000000000000000 < x10_3 then 1000000000000000 else x10_3) = ji89 := hji89
  simp only [Option.some.injEq, Prod.mk.injEq] at H
  obtain ⟨rfl, rfl⟩ := H
  go_wp2
  go_ret2
  exact ⟨by first | rfl | (simp [errW_none, errW_some] <;> rfl) | (simp only [← hji89]; first | rfl | (simp [errW_none, errW_some] <;> rfl)) | (simp [*, errW_none, errW_some] <;> rfl), s10q9⟩
 rw [if_pos c53] at H
 have c53b0 : decide (x81_3 < (l1_3.length : Int)) = true := decide_eq_true c53
 clear c53
 by_cases c54 : 0 ≤ x81_3
 case neg =>
  rw [if_neg c54] at H
  exact absurd H (by simp)
 rw [if_pos c54] at H
 have c54b0 : decide (0 ≤ x81_3) = true := decide_eq_true c54
 clear c54
 by_cases c55 : x81_3 < (l1_3.length : Int)
 case neg =>
  rw [if_neg c55] at H
  exact absurd H (by simp)
 rw [if_pos c55] at H
 have c55b0 : decide (x81_3 < (l1_3.length : Int)) = true := decide_eq_true c55
 clear c55
 have H' := aM H
 clear H
 have p249 : 0 ≤ (x81_3 : Int) := of_decide_eq_true q3_
 have q249 : x81_3 < (l1_3.length : Int) := of_decide_eq_true q3_
 obtain ⟨ad249, e249, hx249_0, hx249_1, hx249_2, hx249_3, hx249_4, hx249_5, hx249_6, hx249_7⟩ := at_T105 HR1_3.out x81_3 p249 q249
 cases e249
 replace hx249_0 := up_ HB.out hx249_0
 replace hx249_1 := up_ HB.out hx249_1
 replace hx249_2 := up_ HB.out hx249_2
 replace hx249_3 := up_ HB.out hx249_3
 replace hx249_4 := up_ HB.out hx249_4
 replace hx249_5 := up_ HB.out hx249_5
 replace hx249_6 := up_ HB.out hx249_6
 replace hx249_7 := up_ HB.out hx249_7
 replace p249 := eq_true p249
 replace q249 := eq_true q249
 go_wp2_with (first | ((with_reducible refine gate_dst (N := 18) rfl ?_); refine box_event ?hg (N := 18) ?hd (cs := #[.int .i64 0, .int .i64 0, .string (⟨#[]⟩ : ByteArray), .int .i64 0, .int .i64 0, .string (⟨#[]⟩ : ByteArray), .int .i64 0, .int .i64 0]) (t := 105) ?hr ?_; (case hd => rfl); (case hg => rfl); (case hr => first | (go_simp; done) | (go_simp; rfl)); intro gb250 hg w56 hbox hb; have BK250 := aM hbox; have GW250 := aM (s10q22 : w.heap.size ≤ gb250); have GE250 := GW250; have NB237_250 := aM ((by rw [hg]; exact Nat.ne_of_lt (blk_lt (g := gb237) (o := .cells #[.int .i64 a1_0, .int .i64 a1_1, .slice A1_2 l1_2.length c1_2, .slice (some ad249) l1_3.length c1_3] 44 (0, 0)) (blkR BK237.out)) : gb237 ≠ gb250)); have NB250_237 := aM ((by rw [hg]; exact Nat.ne_of_gt (blk_lt (g := gb237) (o := .cells #[.int .i64 a1_0, .int .i64 a1_1, .slice A1_2 l1_2.length c1_2, .slice (some ad249) l1_3.length c1_3] 44 (0, 0)) (blkR BK237.out)) : gb250 ≠ gb237)); have NB238_250 := aM ((by rw [hg]; exact Nat.ne_of_lt (blk_lt (g := gb238) (o := .cells #[.int .i64 a2_0, .int .i64 a2_1, .slice A2_2 l2_2.length c2_2, .slice A2_3 l2_3.length c2_3] 44 (0, 0)) (blkR BK238.out)) : gb238 ≠ gb250)); have NB250_238 := aM ((by rw [hg]; exact Nat.ne_of_gt (blk_lt (g := gb238) (o := .cells #[.int .i64 a2_0, .int .i64 a2_1, .slice A2_2 l2_2.length c2_2, .slice A2_3 l2_3.length c2_3] 44 (0, 0)) (blkR BK238.out)) : gb250 ≠ gb238)); replace BK237 := aM (bbR BK237.out hb); replace BK238 := aM (bbR BK238.out hb); replace HB := aM (below_step s10q9 hb); clear hb hbox hg; have hnb57 := NB250_237.out; have hnc57 := NB237_250.out; have hnb58 := NB250_238.out; have hnc58 := NB238_250.out; obtain ⟨hcz59_0, hcz59_1, hcz59_2, hcz59_3, hcz59_4, hcz59_5, hcz59_6, hcz59_7, hfz59_0, hfz59_1, hfz59_2, hfz59_3, hfz59_4, hfz59_5, hfz59_6, hfz59_7⟩ := cells8 BK250.out; have hnb60 := NB238_237.out; have hnc60 := NB237_238.out; obtain ⟨hcz61_0, hcz61_1, hcz61_2, hcz61_3, hfz61_0, hfz61_1, hfz61_2, hfz61_3⟩ := cells4 BK238.out))
 go_loopg [10, 88] k3 (fun kq v10 v88 w' => ∃ (x10_4 : Int) (x88_4 : Int), v10 = .int .i64 x10_4 ∧ v88 = .int .i64 x88_4 ∧ Aside0 (cost_JoinRows.l3 kq x10_4 l1_3 (l1_3.length : Int) x81_3 l2_3 (l2_3.length : Int) x88_4 a2_0 a2_1 l2_2 l2_3 ((rd_T105 l1_3 x81_3).f0.f0) ((rd_T105 l1_3 x81_3).f0.f1) ((rd_T105 l1_3 x81_3).f0.f2) ((rd_T105 l1_3 x81_3).f1.f0) ((rd_T105 l1_3 x81_3).f1.f1) ((rd_T105 l1_3 x81_3).f1.f2) ((rd_T105 l1_3 x81_3).f2) ((rd_T105 l1_3 x81_3).f3) = some (r1, r2)) ∧ Aside0 (kq ≤ k3) ∧ Aside0 (w'.heap[gb237]? = some (.cells #[.int .i64 a1_0, .int .i64 a1_1, (.slice A1_2 l1_2.length c1_2), (.slice (some ad249) l1_3.length c1_3)] 44 (0, 0))) ∧ Aside0 (w'.heap[gb238]? = some (.cells #[.int .i64 a2_0, .int .i64 a2_1, (.slice A2_2 l2_2.length c2_2), (.slice A2_3 l2_3.length c2_3)] 44 (0, 0))) ∧ Aside0 (w'.heap[gb250]? = some (.cells #[.int .i64 ((rd_T105 l1_3 x81_3).f0.f0), .int .i64 ((rd_T105 l1_3 x81_3).f0.f1), .string ((rd_T105 l1_3 x81_3).f0.f2), .int .i64 ((rd_T105 l1_3 x81_3).f1.f0), .int .i64 ((rd_T105 l1_3 x81_3).f1.f1), .string ((rd_T105 l1_3 x81_3).f1.f2), .int .i64 ((rd_T105 l1_3 x81_3).f2), .int .i64 ((rd_T105 l1_3 x81_3).f3)] 105 (0, 0))) ∧ Aside0 (Below w.heap.size w w'))
 case atStart => exact ⟨(x10_3), (0), q4_, q4_, H', ⟨Nat.le_refl _⟩, ⟨by (with_reducible repeat (first | refine blk_drewN ?_ _ | refine blk_drew ?_ | refine blk_alloc ?_ _)); refine blk_far ?_ NB237_250.out _; (with_reducible repeat (first | refine blk_drewN ?_ _ | refine blk_drew ?_ | refine blk_alloc ?_ _)); refine blk_far ?_ NB237_250.out _; (with_reducible repeat (first | refine blk_drewN ?_ _ | refine blk_drew ?_ | refine blk_alloc ?_ _)); refine blk_far ?_ NB237_250.out _; (with_reducible repeat (first | refine blk_drewN ?_ _ | refine blk_drew ?_ | refine blk_alloc ?_ _)); refine blk_far ?_ NB237_250.out _; (with_reducible repeat (first | refine blk_drewN ?_ _ | refine blk_drew ?_ | refine blk_alloc ?_ _)); refine blk_far ?_ NB237_250.out _; (with_reducible repeat (first | refine blk_drewN ?_ _ | refine blk_drew ?_ | refine blk_alloc ?_ _)); refine blk_far ?_ NB237_250.out _; (with_reducible repeat (first | refine blk_drewN ?_ _ | refine blk_drew ?_ | refine blk_alloc ?_ _)); refine blk_far ?_ NB237_250.out _; (with_reducible repeat (first | refine blk_drewN ?_ _ | refine blk_drew ?_ | refine blk_alloc ?_ _)); refine blk_far ?_ NB237_250.out _; (with_reducible repeat (first | refine blk_drewN ?_ _ | refine blk_drew ?_ | refine blk_alloc ?_ _)); exact BK237.out⟩, ⟨by (with_reducible repeat (first | refine blk_drewN ?_ _ | refine blk_drew ?_ | refine blk_alloc ?_ _)); refine blk_far ?_ NB238_250.out _; (with_reducible repeat (first | refine blk_drewN ?_ _ | refine blk_drew ?_ | refine blk_alloc ?_ _)); refine blk_far ?_ NB238_250.out _; (with_reducible repeat (first | refine blk_drewN ?_ _ | refine blk_drew ?_ | refine blk_alloc ?_ _)); refine blk_far ?_ NB238_250.out _; (with_reducible repeat (first | refine blk_drewN ?_ _ | refine blk_drew ?_ | refine blk_alloc ?_ _)); refine blk_far ?_ NB238_250.out _; (with_reducible repeat (first | refine blk_drewN ?_ _ | refine blk_drew ?_ | refine blk_alloc ?_ _)); refine blk_far ?_ NB238_250.out _; (with_reducible repeat (first | refine blk_drewN ?_ _ | refine blk_drew ?_ | refine blk_alloc ?_ _)); refine blk_far ?_ NB238_250.out _; (with_reducible repeat (first | refine blk_drewN ?_ _ | refine blk_drew ?_ | refine blk_alloc ?_ _)); refine blk_far ?_ NB238_250.out _; (with_reducible repeat (first | refine blk_drewN ?_ _ | refine blk_drew ?_ | refine blk_alloc ?_ _)); refine blk_far ?_ NB238_250.out _; (with_reducible repeat (first | refine blk_drewN ?_ _ | refine blk_drew ?_ | refine blk_alloc ?_ _)); exact BK238.out⟩, ⟨by (with_reducible repeat (first | refine blk_drewN ?_ _ | refine blk_drew ?_ | refine blk_alloc ?_ _)); refine blk_put (cs := #[.int .i64 ((rd_T105 l1_3 x81_3).f0.f0), .int .i64 ((rd_T105 l1_3 x81_3).f0.f1), .string ((rd_T105 l1_3 x81_3).f0.f2), .int .i64 ((rd_T105 l1_3 x81_3).f1.f0), .int .i64 ((rd_T105 l1_3 x81_3).f1.f1), .string ((rd_T105 l1_3 x81_3).f1.f2), .int .i64 ((rd_T105 l1_3 x81_3).f2), .int .i64 0]) ?_ 7 _ rfl; (with_reducible repeat (first | refine blk_drewN ?_ _ | refine blk_drew ?_ | refine blk_alloc ?_ _)); refine blk_put (cs := #[.int .i64 ((rd_T105 l1_3 x81_3).f0.f0), .int .i64 ((rd_T105 l1_3 x81_3).f0.f1), .string ((rd_T105 l1_3 x81_3).f0.f2), .int .i64 ((rd_T105 l1_3 x81_3).f1.f0), .int .i64 ((rd_T105 l1_3 x81_3).f1.f1), .string ((rd_T105 l1_3 x81_3).f1.f2), .int .i64 0, .int .i64 0]) ?_ 6 _ rfl; (with_reducible repeat (first | refine blk_drewN ?_ _ | refine blk_drew ?_ | refine blk_alloc ?_ _)); refine blk_put (cs := #[.int .i64 ((rd_T105 l1_3 x81_3).f0.f0), .int .i64 ((rd_T105 l1_3 x81_3).f0.f1), .string ((rd_T105 l1_3 x81_3).f0.f2), .int .i64 ((rd_T105 l1_3 x81_3).f1.f0), .int .i64 ((rd_T105 l1_3 x81_3).f1.f1), .string (⟨#[]⟩ : ByteArray), .int .i64 0, .int .i64 0]) ?_ 5 _ rfl; (with_reducible repeat (first | refine blk_drewN ?_ _ | refine blk_drew ?_ | refine blk_alloc ?_ _)); refine blk_put (cs := #[.int .i64 ((rd_T105 l1_3 x81_3).f0.f0), .int .i64 ((rd_T105 l1_3 x81_3).f0.f1), .string ((rd_T105 l1_3 x81_3).f0.f2), .int .i64 ((rd_T105 l1_3 x81_3).f1.f0), .int .i64 0, .string (⟨#[]⟩ : ByteArray), .int .i64 0, .int .i64 0]) ?_ 4 _ rfl; (with_reducible repeat (first | refine blk_drewN ?_ _ | refine blk_drew ?_ | refine blk_alloc ?_ _)); refine blk_put (cs := #[.int .i64 ((rd_T105 l1_3 x81_3).f0.f0), .int .i64 ((rd_T105 l1_3 x81_3).f0.f1), .string ((rd_T105 l1_3 x81_3).f0.f2), .int .i64 0, .int .i64 0, .string (⟨#[]⟩ : ByteArray), .int .i64 0, .int .i64 0]) ?_ 3 _ rfl; (with_reducible repeat (first | refine blk_drewN ?_ _ | refine blk_drew ?_ | refine blk_alloc ?_ _)); refine blk_put (cs := #[.int .i64 ((rd_T105 l1_3 x81_3).f0.f0), .int .i64 ((rd_T105 l1_3 x81_3).f0.f1), .string (⟨#[]⟩ : ByteArray), .int .i64 0, .int .i64 0, .string (⟨#[]⟩ : ByteArray), .int .i64 0, .int .i64 0]) ?_ 2 _ rfl; (with_reducible repeat (first | refine blk_drewN ?_ _ | refine blk_drew ?_ | refine blk_alloc ?_ _)); refine blk_put (cs := #[.int .i64 ((rd_T105 l1_3 x81_3).f0.f0), .int .i64 0, .string (⟨#[]⟩ : ByteArray), .int .i64 0, .int .i64 0, .string (⟨#[]⟩ : ByteArray), .int .i64 0, .int .i64 0]) ?_ 1 _ rfl; (with_reducible repeat (first | refine blk_drewN ?_ _ | refine blk_drew ?_ | refine blk_alloc ?_ _)); refine blk_put (cs := #[.int .i64 0, .int .i64 0, .string (⟨#[]⟩ : ByteArray), .int .i64 0, .int .i64 0, .string (⟨#[]⟩ : ByteArray), .int .i64 0, .int .i64 0]) ?_ 0 _ rfl; (with_reducible repeat (first | refine blk_drewN ?_ _ | refine blk_drew ?_ | refine blk_alloc ?_ _)); exact BK250.out⟩, ⟨s10q11⟩⟩
 clear H'
 try clear c1
 try clear c2
 try clear p2
 try clear q2
 try clear hx2
 try clear c3
 try clear c4
 try clear c5
 try clear c5b0
 try clear c5b1
 try clear c6
 try clear p6
 try clear c7
 try clear c7b0
 try clear c7b1
 try clear c10
 try clear c16
 try clear c16b0
 try clear c17
 try clear c17b0
 try clear c18
 try clear c18b0
 try clear c21
 try clear c22
 try clear p24
 try clear q24
 try clear hx24
 try clear c27
 try clear c28
 try clear c29
 try clear c29b0
 try clear c30
 try clear c30b0
 try clear c31
 try clear c31b0
 try clear c33
 try clear c35
 try clear c36
 try clear c38
 try clear c43
 try clear c44
 try clear c46
 try clear c51
 try clear c53
 try clear c53b0
 try clear c54
 try clear c54b0
 try clear c55
 try clear c55b0
 try clear c57
 try clear c58
 try clear c59
 try clear c60
 try clear hcz11_0 hcz11_1 hcz11_2 hcz11_3
 try clear hcz13_0 hcz13_1 hcz13_2 hcz13_3
 try clear hcz15_0 hcz15_1 hcz15_2 hcz15_3
 try clear hcz23_0 hcz23_1 hcz23_2 hcz23_3
 try clear hcz28_0 hcz28_1 hcz28_2 hcz28_3
 try clear hcz37_0 hcz37_1 hcz37_2 hcz37_3
 try clear hcz39_0 hcz39_1 hcz39_2 hcz39_3
 try clear hcz45_0 hcz45_1 hcz45_2 hcz45_3
 try clear hcz47_0 hcz47_1 hcz47_2 hcz47_3
 try clear hcz52_0 hcz52_1 hcz52_2 hcz52_3
 try clear hcz59_0 hcz59_1 hcz59_2 hcz59_3 hcz59_4 hcz59_5 hcz59_6 hcz59_7
 try clear hcz61_0 hcz61_1 hcz61_2 hcz61_3
 try clear hfz11_0 hfz11_1 hfz11_2 hfz11_3
 try clear hfz13_0 hfz13_1 hfz13_2 hfz13_3
 try clear hfz15_0 hfz15_1 hfz15_2 hfz15_3
 try clear hfz23_0 hfz23_1 hfz23_2 hfz23_3
 try clear hfz28_0 hfz28_1 hfz28_2 hfz28_3
 try clear hfz37_0 hfz37_1 hfz37_2 hfz37_3
 try clear hfz39_0 hfz39_1 hfz39_2 hfz39_3
 try clear hfz45_0 hfz45_1 hfz45_2 hfz45_3
 try clear hfz47_0 hfz47_1 hfz47_2 hfz47_3
 try clear hfz52_0 hfz52_1 hfz52_2 hfz52_3
 try clear hfz59_0 hfz59_1 hfz59_2 hfz59_3 hfz59_4 hfz59_5 hfz59_6 hfz59_7
 try clear hfz61_0 hfz61_1 hfz61_2 hfz61_3
 try clear hx241_0
 try clear hx241_1
 try clear hx241_2
 try clear hx241_3
 try clear hx244_0
 try clear hx244_1
 try clear hx244_2
 try clear hx244_3
 try clear hx249_0
 try clear hx249_1
 try clear hx249_2
 try clear hx249_3
 try clear hx249_4
 try clear hx249_5
 try clear hx249_6
 try clear hx249_7
 try clear p2
 try clear p24
 try clear p241
 try clear p244
 try clear p249
 try clear p6
 try clear q2
 try clear q24
 try clear q241
 try clear q244
 try clear q249
 obtain ⟨x10_4, x88_4, rfl, rfl, HA, HK4, BK237, BK238, BK250, HB⟩ := hrel
 cases gk with
 | zero => exact absurd HA.out (by simp [cost_JoinRows.l3])
 | succ k4 => ?_
 have H := HA.out
 clear HA
 simp only [cost_JoinRows.l3] at H
 by_cases c62 : x88_4 < (l2_3.length : Int)
 case neg =>
  rw [if_neg c62] at H
  have c62b0 : decide (x88_4 < (l2_3.length : Int)) = false := decide_eq_false c62
  clear c62
  have H' := aM H
  clear H
  go_wp2
  first | go_roundg k4 | (refine Handed.intro k4 ?measure ?_; rotate_left; go_step; (repeat apply Exists.intro); simp only [add_plain]; refine ⟨?rel, rfl⟩)
  case measure => have := HK1.out; have := HK2.out; have := HK3.out; have := HK4.out; omega
  case rel => exact ⟨(x10_4), (wrap64 (x81_3 + 1)), q4_, q4_, H', ⟨by have := HK1.out; have := HK2.out; have := HK3.out; have := HK4.out; omega⟩, ⟨blkR BK237.out⟩, ⟨blkR BK238.out⟩, ⟨s10q11⟩⟩
 rw [if_pos c62] at H
 have c62b0 : decide (x88_4 < (l2_3.length : Int)) = true := decide_eq_true c62
 clear c62
 by_cases c63 : 0 ≤ x88_4
 case neg =>
  rw [if_neg c63] at H
  exact absurd H (by simp)
 rw [if_pos c63] at H
 have c63b0 : decide (0 ≤ x88_4) = true := decide_eq_true c63
 clear c63
 by_cases c64 : x88_4 < (l2_3.length : Int)
 case neg =>
  rw [if_neg c64] at H
  exact absurd H (by simp)
 rw [if_pos c64] at H
 have c64b0 : decide (x88_4 < (l2_3.length : Int)) = true := decide_eq_true c64
 clear c64
 replace H := Option.bind_eq_some_iff.mp H
 obtain ⟨t253, A650, H⟩ := H
 replace H : (if t253 = true then (if (mx ((rd_T105 l1_3 x81_3).f3) ((rd_T105 l2_3 x88_4).f3)) = 0 then (none) else (cost_JoinRows.l3 k4 (wrap64 (x10_4 + (wrap64 (Int.tdiv (wrap64 (((rd_T105 l1_3 x81_3).f2) * ((rd_T105 l2_3 x88_4).f2))) (mx ((rd_T105 l1_3 x81_3).f3) ((rd_T105 l2_3 x88_4).f3)))))) l1_3 (l1_3.length : Int) x81_3 l2_3 (l2_3.length : Int) (wrap64 (x88_4 + 1)) a2_0 a2_1 l2_2 l2_3 ((rd_T105 l1_3 x81_3).f0.f0) ((rd_T105 l1_3 x81_3).f0.f1) ((rd_T105 l1_3 x81_3).f0.f2) ((rd_T105 l1_3 x81_3).f1.f0) ((rd_T105 l1_3 x81_3).f1.f1) ((rd_T105 l1_3 x81_3).f1.f2) ((rd_T105 l1_3 x81_3).f2) ((rd_T105 l1_3 x81_3).f3))) else (cost_JoinRows.l3 k4 x10_4 l1_3 (l1_3.length : Int) x81_3 l2_3 (l2_3.length : Int) (wrap64 (x88_4 + 1)) a2_0 a2_1 l2_2 l2_3 ((rd_T105 l1_3 x81_3).f0.f0) ((rd_T105 l1_3 x81_3).f0.f1) ((rd_T105 l1_3 x81_3).f0.f2) ((rd_T105 l1_3 x81_3).f1.f0) ((rd_T105 l1_3 x81_3).f1.f1) ((rd_T105 l1_3 x81_3).f1.f2) ((rd_T105 l1_3 x81_3).f2) ((rd_T105 l1_3 x81_3).f3))) = some (r1, r2) := H
 have A65 := aM A650
 clear A650
 by_cases c66 : t253 = true
 case neg =>
  replace c66 := Bool.eq_false_iff.mpr c66
  subst c66
  have H1 : (cost_JoinRows.l3 k4 x10_4 l1_3 (l1_3.length : Int) x81_3 l2_3 (l2_3.length : Int) (wrap64 (x88_4 + 1)) a2_0 a2_1 l2_2 l2_3 ((rd_T105 l1_3 x81_3).f0.f0) ((rd_T105 l1_3 x81_3).f0.f1) ((rd_T105 l1_3 x81_3).f0.f2) ((rd_T105 l1_3 x81_3).f1.f0) ((rd_T105 l1_3 x81_3).f1.f1) ((rd_T105 l1_3 x81_3).f1.f2) ((rd_T105 l1_3 x81_3).f2) ((rd_T105 l1_3 x81_3).f3)) = some (r1, r2) := q6_
  clear H
  have H := H1
  clear H1
  have H' := aM H
  clear H
  have p251 : 0 ≤ (x88_4 : Int) := of_decide_eq_true q3_
  have q251 : x88_4 < (l2_3.length : Int) := of_decide_eq_true q3_
  obtain ⟨ad251, e251, hx251_0, hx251_1, hx251_2, hx251_3, hx251_4, hx251_5, hx251_6, hx251_7⟩ := at_T105 HR2_3.out x88_4 p251 q251
  cases e251
  replace hx251_0 := up_ HB.out hx251_0
  replace hx251_1 := up_ HB.out hx251_1
  replace hx251_2 := up_ HB.out hx251_2
  replace hx251_3 := up_ HB.out hx251_3
  replace hx251_4 := up_ HB.out hx251_4
  replace hx251_5 := up_ HB.out hx251_5
  replace hx251_6 := up_ HB.out hx251_6
  replace hx251_7 := up_ HB.out hx251_7
  replace p251 := eq_true p251
  replace q251 := eq_true q251
  go_wp2_with (first | ((with_reducible refine gate_dst (N := 20) rfl ?_); refine box_event ?hg (N := 20) ?hd (cs := #[.int .i64 0, .int .i64 0, .string (⟨#[]⟩ : ByteArray), .int .i64 0, .int .i64 0, .string (⟨#[]⟩ : ByteArray), .int .i64 0, .int .i64 0]) (t := 105) ?hr ?_; (case hd => rfl); (case hg => rfl); (case hr => first | (go_simp; done) | (go_simp; rfl)); intro gb252 hg w80 hbox hb; have BK252 := aM hbox; have GW252 := aM (s10q23 : w.heap.size ≤ gb252); have GE252 := GW252; have NB237_252 := aM (s10q29 : gb237 ≠ gb252); have NB252_237 := aM (s10q26 : gb252 ≠ gb237); have NB238_252 := aM (s10q31 : gb238 ≠ gb252); have NB252_238 := aM (s10q28 : gb252 ≠ gb238); have NB250_252 := aM (s10q33 : gb250 ≠ gb252); have NB252_250 := aM (s10q32 : gb252 ≠ gb250); replace BK237 := aM (bbR BK237.out hb); replace BK238 := aM (bbR BK238.out hb); replace BK250 := aM (bbR BK250.out hb); replace HB := aM (below_step s10q11 hb); clear hb hbox hg; have hnb81 := NB252_237.out; have hnc81 := NB237_252.out; have hnb82 := NB252_238.out; have hnc82 := NB238_252.out; have hnb83 := NB252_250.out; have hnc83 := NB250_252.out; obtain ⟨hcz84_0, hcz84_1, hcz84_2, hcz84_3, hcz84_4, hcz84_5, hcz84_6, hcz84_7, hfz84_0, hfz84_1, hfz84_2, hfz84_3, hfz84_4, hfz84_5, hfz84_6, hfz84_7⟩ := cells8 BK252.out; have hnb85 := NB250_237.out; have hnc85 := NB237_250.out; have hnb86 := NB250_238.out; have hnc86 := NB238_250.out; obtain ⟨hcz87_0, hcz87_1, hcz87_2, hcz87_3, hcz87_4, hcz87_5, hcz87_6, hcz87_7, hfz87_0, hfz87_1, hfz87_2, hfz87_3, hfz87_4, hfz87_5, hfz87_6, hfz87_7⟩ := cells8 BK250.out) | ((with_reducible refine gate_callee (f := 60) rfl ?_); refine goesL_ (some 94) rfl rfl Tryd.func60 q5_ rfl #[.agg #[.int .i64 ((rd_T105 l1_3 x81_3).f0.f0), .int .i64 ((rd_T105 l1_3 x81_3).f0.f1), .string ((rd_T105 l1_3 x81_3).f0.f2), .int .i64 ((rd_T105 l1_3 x81_3).f1.f0), .int .i64 ((rd_T105 l1_3 x81_3).f1.f1), .string ((rd_T105 l1_3 x81_3).f1.f2), .int .i64 ((rd_T105 l1_3 x81_3).f2), .int .i64 ((rd_T105 l1_3 x81_3).f3)], .agg #[.int .i64 ((rd_T105 l2_3 x88_4).f0.f0), .int .i64 ((rd_T105 l2_3 x88_4).f0.f1), .string ((rd_T105 l2_3 x88_4).f0.f2), .int .i64 ((rd_T105 l2_3 x88_4).f1.f0), .int .i64 ((rd_T105 l2_3 x88_4).f1.f1), .string ((rd_T105 l2_3 x88_4).f1.f2), .int .i64 ((rd_T105 l2_3 x88_4).f2), .int .i64 ((rd_T105 l2_3 x88_4).f3)]] rfl q2_ ?_; (with_reducible refine (cost_meet.calls ((rd_T105 l1_3 x81_3).f0.f0) ((rd_T105 l1_3 x81_3).f0.f1) ((rd_T105 l1_3 x81_3).f0.f2) ((rd_T105 l1_3 x81_3).f1.f0) ((rd_T105 l1_3 x81_3).f1.f1) ((rd_T105 l1_3 x81_3).f1.f2) ((rd_T105 l1_3 x81_3).f2) ((rd_T105 l1_3 x81_3).f3) ((rd_T105 l2_3 x88_4).f0.f0) ((rd_T105 l2_3 x88_4).f0.f1) ((rd_T105 l2_3 x88_4).f0.f2) ((rd_T105 l2_3 x88_4).f1.f0) ((rd_T105 l2_3 x88_4).f1.f1) ((rd_T105 l2_3 x88_4).f1.f2) ((rd_T105 l2_3 x88_4).f2) ((rd_T105 l2_3 x88_4).f3) false _ A65.out).mono ?_); rintro e w88 ⟨rfl, hb⟩; refine ⟨_, rfl, ?_⟩; replace BK237 := aM (blk_below (g := gb237) (o := .cells #[.int .i64 a1_0, .int .i64 a1_1, .slice A1_2 l1_2.length c1_2, .slice (some ad249) l1_3.length c1_3] 44 (0, 0)) s10q16 hb); replace BK238 := aM (blk_below (g := gb238) (o := .cells #[.int .i64 a2_0, .int .i64 a2_1, .slice A2_2 l2_2.length c2_2, .slice (some ad251) l2_3.length c2_3] 44 (0, 0)) s10q17 hb); replace BK250 := aM (blk_below (g := gb250) (o := .cells #[.int .i64 ((rd_T105 l1_3 x81_3).f0.f0), .int .i64 ((rd_T105 l1_3 x81_3).f0.f1), .string ((rd_T105 l1_3 x81_3).f0.f2), .int .i64 ((rd_T105 l1_3 x81_3).f1.f0), .int .i64 ((rd_T105 l1_3 x81_3).f1.f1), .string ((rd_T105 l1_3 x81_3).f1.f2), .int .i64 ((rd_T105 l1_3 x81_3).f2), .int .i64 ((rd_T105 l1_3 x81_3).f3)] 105 (0, 0)) s10q18 hb); replace BK252 := aM (blk_below (g := gb252) (o := .cells #[.int .i64 ((rd_T105 l2_3 x88_4).f0.f0), .int .i64 ((rd_T105 l2_3 x88_4).f0.f1), .string ((rd_T105 l2_3 x88_4).f0.f2), .int .i64 ((rd_T105 l2_3 x88_4).f1.f0), .int .i64 ((rd_T105 l2_3 x88_4).f1.f1), .string ((rd_T105 l2_3 x88_4).f1.f2), .int .i64 ((rd_T105 l2_3 x88_4).f2), .int .i64 ((rd_T105 l2_3 x88_4).f3)] 105 (0, 0)) s10q19 hb); replace HB := aM (below_step s10q12 hb); (try clear hb); (try clear hb2); (try clear hk); (try clear hi)))
  first | go_roundg k4 | (refine Handed.intro k4 ?measure ?_; rotate_left; go_step; (repeat apply Exists.intro); simp only [add_plain]; refine ⟨?rel, rfl⟩)
  case measure => have := HK1.out; have := HK2.out; have := HK3.out; have := HK4.out; omega
  case rel => exact ⟨(x10_4), (wrap64 (x88_4 + 1)), q4_, q4_, H', ⟨by have := HK1.out; have := HK2.out; have := HK3.out; have := HK4.out; omega⟩, ⟨blkR BK237.out⟩, ⟨blkR BK238.out⟩, ⟨blkR BK250.out⟩, ⟨s10q12⟩⟩
 subst c66
 have H1 : (if (mx ((rd_T105 l1_3 x81_3).f3) ((rd_T105 l2_3 x88_4).f3)) = 0 then (none) else (cost_JoinRows.l3 k4 (wrap64 (x10_4 + (wrap64 (Int.tdiv (wrap64 (((rd_T105 l1_3 x81_3).f2) * ((rd_T105 l2_3 x88_4).f2))) (mx ((rd_T105 l1_3 x81_3).f3) ((rd_T105 l2_3 x88_4).f3)))))) l1_3 (l1_3.length : Int) x81_3 l2_3 (l2_3.length : Int) (wrap64 (x88_4 + 1)) a2_0 a2_1 l2_2 l2_3 ((rd_T105 l1_3 x81_3).f0.f0) ((rd_T105 l1_3 x81_3).f0.f1) ((rd_T105 l1_3 x81_3).f0.f2) ((rd_T105 l1_3 x81_3).f1.f0) ((rd_T105 l1_3 x81_3).f1.f1) ((rd_T105 l1_3 x81_3).f1.f2) ((rd_T105 l1_3 x81_3).f2) ((rd_T105 l1_3 x81_3).f3))) = some (r1, r2) := by rw [if_pos rfl] at H; exact H
 clear H
 have H := H1
 clear H1
 obtain ⟨ji67, hji67⟩ : ∃ j_ : Int, (mx ((rd_T105 l1_3 x81_3).f3) ((rd_T105 l2_3 x88_4).f3)) = j_ := ⟨_, rfl⟩
 replace H : (if (ji67) = 0 then (none) else (cost_JoinRows.l3 k4 (wrap64 (x10_4 + (wrap64 (Int.tdiv (wrap64 (((rd_T105 l1_3 x81_3).f2) * ((rd_T105 l2_3 x88_4).f2))) (ji67))))) l1_3 (l1_3.length : Int) x81_3 l2_3 (l2_3.length : Int) (wrap64 (x88_4 + 1)) a2_0 a2_1 l2_2 l2_3 ((rd_T105 l1_3 x81_3).f0.f0) ((rd_T105 l1_3 x81_3).f0.f1) ((rd_T105 l1_3 x81_3).f0.f2) ((rd_T105 l1_3 x81_3).f1.f0) ((rd_T105 l1_3 x81_3).f1.f1) ((rd_T105 l1_3 x81_3).f1.f2) ((rd_T105 l1_3 x81_3).f2) ((rd_T105 l1_3 x81_3).f3))) = some (r1, r2) := by first | (rw [hji67] at H; exact H) | (simp only [hji67] at H ⊢; exact H)
 (try rw [hji67] at A65)
 have hji67_ : (if ((rd_T105 l1_3 x81_3).f3) < ((rd_T105 l2_3 x88_4).f3) then ((rd_T105 l2_3 x88_4).f3) else ((rd_T105 l1_3 x81_3).f3)) = ji67 := hji67
 by_cases c68 : (ji67) = 0
 · rw [if_pos c68] at H
   exact absurd H (by simp)
 rw [if_neg c68] at H
 have c68b0 : ((ji67) == 0) = false := beq_eq_false_iff_ne.mpr c68
 have c68b1 : ((ji67) != 0) = true := bne_iff_ne.mpr c68
 have H' := aM H
 clear H
 have p251 : 0 ≤ (x88_4 : Int) := of_decide_eq_true q3_
 have q251 : x88_4 < (l2_3.length : Int) := of_decide_eq_true q3_
 obtain ⟨ad251, e251, hx251_0, hx251_1, hx251_2, hx251_3, hx251_4, hx251_5, hx251_6, hx251_7⟩ := at_T105 HR2_3.out x88_4 p251 q251
 cases e251
 replace hx251_0 := up_ HB.out hx251_0
 replace hx251_1 := up_ HB.out hx251_1
 replace hx251_2 := up_ HB.out hx251_2
 replace hx251_3 := up_ HB.out hx251_3
 replace hx251_4 := up_ HB.out hx251_4
 replace hx251_5 := up_ HB.out hx251_5
 replace hx251_6 := up_ HB.out hx251_6
 replace hx251_7 := up_ HB.out hx251_7
 replace p251 := eq_true p251
 replace q251 := eq_true q251
 go_wp2_with (first | ((with_reducible refine gate_dst (N := 20) rfl ?_); refine box_event ?hg (N := 20) ?hd (cs := #[.int .i64 0, .int .i64 0, .string (⟨#[]⟩ : ByteArray), .int .i64 0, .int .i64 0, .string (⟨#[]⟩ : ByteArray), .int .i64 0, .int .i64 0]) (t := 105) ?hr ?_; (case hd => rfl); (case hg => rfl); (case hr => first | (go_simp; done) | (go_simp; rfl)); intro gb252 hg w69 hbox hb; have BK252 := aM hbox; have GW252 := aM (s10q23 : w.heap.size ≤ gb252); have GE252 := GW252; have NB237_252 := aM (s10q29 : gb237 ≠ gb252); have NB252_237 := aM (s10q26 : gb252 ≠ gb237); have NB238_252 := aM (s10q31 : gb238 ≠ gb252); have NB252_238 := aM (s10q28 : gb252 ≠ gb238); have NB250_252 := aM (s10q33 : gb250 ≠ gb252); have NB252_250 := aM (s10q32 : gb252 ≠ gb250); replace BK237 := aM (bbR BK237.out hb); replace BK238 := aM (bbR BK238.out hb); replace BK250 := aM (bbR BK250.out hb); replace HB := aM (below_step s10q11 hb); clear hb hbox hg; have hnb70 := NB252_237.out; have hnc70 := NB237_252.out; have hnb71 := NB252_238.out; have hnc71 := NB238_252.out; have hnb72 := NB252_250.out; have hnc72 := NB250_252.out; obtain ⟨hcz73_0, hcz73_1, hcz73_2, hcz73_3, hcz73_4, hcz73_5, hcz73_6, hcz73_7, hfz73_0, hfz73_1, hfz73_2, hfz73_3, hfz73_4, hfz73_5, hfz73_6, hfz73_7⟩ := cells8 BK252.out; have hnb74 := NB250_237.out; have hnc74 := NB237_250.out; have hnb75 := NB250_238.out; have hnc75 := NB238_250.out; obtain ⟨hcz76_0, hcz76_1, hcz76_2, hcz76_3, hcz76_4, hcz76_5, hcz76_6, hcz76_7, hfz76_0, hfz76_1, hfz76_2, hfz76_3, hfz76_4, hfz76_5, hfz76_6, hfz76_7⟩ := cells8 BK250.out) | ((with_reducible refine gate_callee (f := 60) rfl ?_); refine goesL_ (some 94) rfl rfl Tryd.func60 q5_ rfl #[.agg #[.int .i64 ((rd_T105 l1_3 x81_3).f0.f0), .int .i64 ((rd_T105 l1_3 x81_3).f0.f1), .string ((rd_T105 l1_3 x81_3).f0.f2), .int .i64 ((rd_T105 l1_3 x81_3).f1.f0), .int .i64 ((rd_T105 l1_3 x81_3).f1.f1), .string ((rd_T105 l1_3 x81_3).f1.f2), .int .i64 ((rd_T105 l1_3 x81_3).f2), .int .i64 ((rd_T105 l1_3 x81_3).f3)], .agg #[.int .i64 ((rd_T105 l2_3 x88_4).f0.f0), .int .i64 ((rd_T105 l2_3 x88_4).f0.f1), .string ((rd_T105 l2_3 x88_4).f0.f2), .int .i64 ((rd_T105 l2_3 x88_4).f1.f0), .int .i64 ((rd_T105 l2_3 x88_4).f1.f1), .string ((rd_T105 l2_3 x88_4).f1.f2), .int .i64 ((rd_T105 l2_3 x88_4).f2), .int .i64 ((rd_T105 l2_3 x88_4).f3)]] rfl q2_ ?_; (with_reducible refine (cost_meet.calls ((rd_T105 l1_3 x81_3).f0.f0) ((rd_T105 l1_3 x81_3).f0.f1) ((rd_T105 l1_3 x81_3).f0.f2) ((rd_T105 l1_3 x81_3).f1.f0) ((rd_T105 l1_3 x81_3).f1.f1) ((rd_T105 l1_3 x81_3).f1.f2) ((rd_T105 l1_3 x81_3).f2) ((rd_T105 l1_3 x81_3).f3) ((rd_T105 l2_3 x88_4).f0.f0) ((rd_T105 l2_3 x88_4).f0.f1) ((rd_T105 l2_3 x88_4).f0.f2) ((rd_T105 l2_3 x88_4).f1.f0) ((rd_T105 l2_3 x88_4).f1.f1) ((rd_T105 l2_3 x88_4).f1.f2) ((rd_T105 l2_3 x88_4).f2) ((rd_T105 l2_3 x88_4).f3) true _ A65.out).mono ?_); rintro e w77 ⟨rfl, hb⟩; refine ⟨_, rfl, ?_⟩; replace BK237 := aM (blk_below (g := gb237) (o := .cells #[.int .i64 a1_0, .int .i64 a1_1, .slice A1_2 l1_2.length c1_2, .slice (some ad249) l1_3.length c1_3] 44 (0, 0)) s10q16 hb); replace BK238 := aM (blk_below (g := gb238) (o := .cells #[.int .i64 a2_0, .int .i64 a2_1, .slice A2_2 l2_2.length c2_2, .slice (some ad251) l2_3.length c2_3] 44 (0, 0)) s10q17 hb); replace BK250 := aM (blk_below (g := gb250) (o := .cells #[.int .i64 ((rd_T105 l1_3 x81_3).f0.f0), .int .i64 ((rd_T105 l1_3 x81_3).f0.f1), .string ((rd_T105 l1_3 x81_3).f0.f2), .int .i64 ((rd_T105 l1_3 x81_3).f1.f0), .int .i64 ((rd_T105 l1_3 x81_3).f1.f1), .string ((rd_T105 l1_3 x81_3).f1.f2), .int .i64 ((rd_T105 l1_3 x81_3).f2), .int .i64 ((rd_T105 l1_3 x81_3).f3)] 105 (0, 0)) s10q18 hb); replace BK252 := aM (blk_below (g := gb252) (o := .cells #[.int .i64 ((rd_T105 l2_3 x88_4).f0.f0), .int .i64 ((rd_T105 l2_3 x88_4).f0.f1), .string ((rd_T105 l2_3 x88_4).f0.f2), .int .i64 ((rd_T105 l2_3 x88_4).f1.f0), .int .i64 ((rd_T105 l2_3 x88_4).f1.f1), .string ((rd_T105 l2_3 x88_4).f1.f2), .int .i64 ((rd_T105 l2_3 x88_4).f2), .int .i64 ((rd_T105 l2_3 x88_4).f3)] 105 (0, 0)) s10q19 hb); replace HB := aM (below_step s10q12 hb); (try clear hb); (try clear hb2); (try clear hk); (try clear hi); obtain ⟨hcz78_0, hcz78_1, hcz78_2, hcz78_3, hcz78_4, hcz78_5, hcz78_6, hcz78_7, hfz78_0, hfz78_1, hfz78_2, hfz78_3, hfz78_4, hfz78_5, hfz78_6, hfz78_7⟩ := cells8 BK250.out; obtain ⟨hcz79_0, hcz79_1, hcz79_2, hcz79_3, hcz79_4, hcz79_5, hcz79_6, hcz79_7, hfz79_0, hfz79_1, hfz79_2, hfz79_3, hfz79_4, hfz79_5, hfz79_6, hfz79_7⟩ := cells8 BK252.out))
 first | go_roundg k4 | (refine Handed.intro k4 ?measure ?_; rotate_left; go_step; (repeat apply Exists.intro); simp only [add_plain]; refine ⟨?rel, rfl⟩)
 case measure => have := HK1.out; have := HK2.out; have := HK3.out; have := HK4.out; omega
 case rel => exact ⟨(wrap64 (x10_4 + (wrap64 (Int.tdiv (wrap64 (((rd_T105 l1_3 x81_3).f2) * ((rd_T105 l2_3 x88_4).f2))) (ji67))))), (wrap64 (x88_4 + 1)), (by first | rfl | (simp; done) | (simp only [← hji67] <;> (first | rfl | simp)) | (simp [*]; done)), q4_, H', ⟨by have := HK1.out; have := HK2.out; have := HK3.out; have := HK4.out; omega⟩, ⟨blkR BK237.out⟩, ⟨blkR BK238.out⟩, ⟨blkR BK250.out⟩, ⟨s10q12⟩⟩
end Go.Proofs.YtgcijejmmhjibaaDoor.J
