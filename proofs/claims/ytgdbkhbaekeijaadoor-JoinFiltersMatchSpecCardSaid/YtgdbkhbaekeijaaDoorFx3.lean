-- Printed by a program of this session (a patched print).
import Derived.Test.YtgdbkhbaekeijaaDoorFx0
import Derived.Test.YtgdbkhbaekeijaaDoorFx1
import Derived.Test.YtgdbkhbaekeijaaDoorFx2
namespace Go.Proofs.YtgdbkhbaekeijaaDoor.F
open Go.RowKit Go.Proofs.YtgdbkhbaekeijaaDoorW.PrintWords Go.Proofs.YtgdbkhbaekeijaaDoorW.PrintLast Go.Proofs.YtgdbkhbaekeijaaDoorW.PrintMore
attribute [local go_sem] max2_int min2_int max_two min_two max_three min_three max_four min_four   -- for this text's walks alone
set_option linter.unusedVariables false
set_option linter.unusedSimpArgs false

theorem s3q0 {p : Prop} (h : p := by kernel_rfl) : p := h
theorem s3q1 {p : Prop} (h : p := by first | rfl | (simp; done) | (simp [*]; done)) : p := h
theorem s3q2 {p : Prop} (h : p := by first | (with_reducible assumption) | assumption) : p := h
theorem s3q3 {p : Prop} (h : p := by (with_reducible repeat (first | refine blk_drewN ?_ _ | refine blk_drew ?_ | refine blk_alloc ?_ _)); exact BK117.out) : p := h
theorem s3q4 {p : Prop} (h : p := by (with_reducible repeat (first | refine blk_drewN ?_ _ | refine blk_drew ?_ | refine blk_alloc ?_ _)); exact BK119.out) : p := h
theorem s3q5 {p : Prop} (h : p := by (with_reducible repeat (first | refine blk_drewN ?_ _ | refine blk_drew ?_ | refine blk_alloc ?_ _)); exact BK123.out) : p := h
theorem s3q6 {p : Prop} (h : p := by repeat (first | (with_reducible first | exact HB.out | apply below_alloc | apply pw_below_drewN | apply below_drew1) | exact HB.out)) : p := h
theorem s3q7 {p : Prop} (h : p := by (try simp only [List.map_toArray, List.map_cons, List.map_nil]); first | done | rfl | (simp only [List.length_drop, List.length_take]; rfl)) : p := h
theorem s3q8 {p : Prop} (h : p := by repeat (first | (with_reducible first | exact HB.out | apply below_alloc | apply pw_below_drewN | apply below_drew1 | refine below_set ?_ GE117.out) | exact HB.out)) : p := h
theorem s3q9 {p : Prop} (h : p := by repeat (first | (with_reducible first | exact HB.out | apply below_alloc | apply pw_below_drewN | apply below_drew1 | refine below_set ?_ GE123.out) | exact HB.out)) : p := h
theorem s3q10 {p : Prop} (h : p := by repeat (first | (with_reducible first | exact HB.out | apply below_alloc | apply pw_below_drewN | apply below_drew1 | refine below_set ?_ GE117.out | refine below_set ?_ GE119.out) | exact HB.out)) : p := h
theorem s3q11 {p : Prop} (h : p := by repeat (first | (with_reducible first | exact HB.out | apply below_alloc | apply pw_below_drewN | apply below_drew1 | refine below_set ?_ GE123.out | refine below_set ?_ GE126.out) | exact HB.out)) : p := h
theorem s3q12 {p : Prop} (h : p := by (with_reducible repeat (first | refine blk_drewN ?_ _ | refine blk_drew ?_ | refine blk_alloc ?_ _)); refine blk_far ?_ NB123_126.out _; (with_reducible repeat (first | refine blk_drewN ?_ _ | refine blk_drew ?_ | refine blk_alloc ?_ _)); exact BK123.out) : p := h
theorem s3q13 {p : Prop} (h : p := by (with_reducible repeat (first | refine blk_drewN ?_ _ | refine blk_drew ?_ | refine blk_alloc ?_ _)); refine blk_put (cs := #[.slice none 0 0]) ?_ 0 _ rfl; (with_reducible repeat (first | refine blk_drewN ?_ _ | refine blk_drew ?_ | refine blk_alloc ?_ _)); exact BK126.out) : p := h
theorem s3q14 {p : Prop} (h : p := by (with_reducible repeat (first | refine blk_drewN ?_ _ | refine blk_drew ?_ | refine blk_alloc ?_ _)); refine blk_far ?_ NB117_119.out _; (with_reducible repeat (first | refine blk_drewN ?_ _ | refine blk_drew ?_ | refine blk_alloc ?_ _)); refine blk_far ?_ NB117_119.out _; (with_reducible repeat (first | refine blk_drewN ?_ _ | refine blk_drew ?_ | refine blk_alloc ?_ _)); refine blk_far ?_ NB117_119.out _; (with_reducible repeat (first | refine blk_drewN ?_ _ | refine blk_drew ?_ | refine blk_alloc ?_ _)); exact BK117.out) : p := h
theorem s3q15 {p : Prop} (h : p := by (with_reducible repeat (first | refine blk_drewN ?_ _ | refine blk_drew ?_ | refine blk_alloc ?_ _)); refine blk_put (cs := #[.int .i64 ((rd_T54 l1_0 x17_1).f0), .int .i64 ((rd_T54 l1_0 x17_1).f1), .string (⟨#[]⟩ : ByteArray)]) ?_ 2 _ rfl; (with_reducible repeat (first | refine blk_drewN ?_ _ | refine blk_drew ?_ | refine blk_alloc ?_ _)); refine blk_put (cs := #[.int .i64 ((rd_T54 l1_0 x17_1).f0), .int .i64 0, .string (⟨#[]⟩ : ByteArray)]) ?_ 1 _ rfl; (with_reducible repeat (first | refine blk_drewN ?_ _ | refine blk_drew ?_ | refine blk_alloc ?_ _)); refine blk_put (cs := #[.int .i64 0, .int .i64 0, .string (⟨#[]⟩ : ByteArray)]) ?_ 0 _ rfl; (with_reducible repeat (first | refine blk_drewN ?_ _ | refine blk_drew ?_ | refine blk_alloc ?_ _)); exact BK119.out) : p := h
theorem s3q16 {p : Prop} (h : p := by rw [hg]; exact (below_size s3q6)) : p := h
theorem s3q17 {p : Prop} (h : p := by rw [hg]; exact (below_size s3q8)) : p := h
theorem s3q18 {p : Prop} (h : p := by rw [hg]; exact (below_size s3q9)) : p := h
theorem s3q19 {p : Prop} (h : p := by rw [hg]; exact Nat.ne_of_gt (blk_lt (g := gb117) (o := .cells #[.slice (some ad118) l1_0.length c1_0] 43 (0, 0)) s3q3)) : p := h
theorem s3q20 {p : Prop} (h : p := by rw [hg]; exact Nat.ne_of_lt (blk_lt (g := gb117) (o := .cells #[.slice (some ad118) l1_0.length c1_0] 43 (0, 0)) s3q3)) : p := h
theorem s3q21 {p : Prop} (h : p := by rw [hg]; exact Nat.ne_of_gt (blk_lt (g := gb123) (o := .cells #[.slice A0_0 l0_0.length c0_0, .slice (some ad125) l0_1.length c0_1] 25 (0, 0)) s3q5)) : p := h
theorem s3q22 {p : Prop} (h : p := by rw [hg]; exact Nat.ne_of_lt (blk_lt (g := gb123) (o := .cells #[.slice A0_0 l0_0.length c0_0, .slice (some ad125) l0_1.length c0_1] 25 (0, 0)) s3q5)) : p := h
/-! ### value_CheckRow: function 31 -/
def value_CheckRow.l0 : Nat → List (S69) → List (S54) → Int → Int → Option (Int)
  | 0, _, _, _, _ => none
  | k + 1, x0, x15, x16, x17 => if x17 < x16 then (if 0 ≤ x17 then (if x17 < (x15.length : Int) then ((value_CheckValue.f k ((rd_T54 x15 x17).f0) ((rd_T54 x15 x17).f1) ((rd_T54 x15 x17).f2)).bind fun t120 => (if t120 = 0 then ((kit_IsNull.f ((rd_T54 x15 x17).f0) ((rd_T54 x15 x17).f1) ((rd_T54 x15 x17).f2)).bind fun t121 => (if t121 = true then (value_CheckRow.l0 k x0 x15 x16 (wrap64 (x17 + 1))) else (if x17 < (x0.length : Int) then (if ((rd_T54 x15 x17).f0) = ((rd_T69 x0 x17).f1) then (value_CheckRow.l0 k x0 x15 x16 (wrap64 (x17 + 1))) else (some 10)) else (none)))) else (some t120))) else (none)) else (none)) else (some 0)
def value_CheckRow.f (k : Nat) (l0 : List (S69)) (l1_0 : List (S54)) : Option (Int) := if (l1_0.length : Int) = (l0.length : Int) then (value_CheckRow.l0 k l0 l1_0 (l1_0.length : Int) 0) else (some 3)
theorem value_CheckRow.mono_l : ∀ k, (∀ y0 y1 y2 y3, LeO (value_CheckRow.l0 k y0 y1 y2 y3) (value_CheckRow.l0 (k + 1) y0 y1 y2 y3))
  | 0 => fun _ _ _ _ r h => by simp [value_CheckRow.l0] at h
  | k + 1 => by
    have ih0 := value_CheckRow.mono_l k
    · intro y0 y1 y2 y3
      unfold value_CheckRow.l0
      repeat' first | (with_reducible exact ih0 _ _ _ _) | (with_reducible exact value_CheckValue.mono _ _ _ _) | (with_reducible exact LeO.refl _) | (with_reducible exact LeO.none _) | (with_reducible refine LeO.ite ?_ ?_) | (with_reducible refine LeO.bind ?_ (fun _ => ?_)) | exact ih0 _ _ _ _ | exact value_CheckValue.mono _ _ _ _ | exact LeO.none _ | refine LeO.ite ?_ ?_ | refine LeO.bind ?_ (fun _ => ?_)
theorem value_CheckRow.mono : ∀ a0 a1 k, LeO (value_CheckRow.f k a0 a1) (value_CheckRow.f (k + 1) a0 a1) := by
 intro a0 a1 k
 have ih0 := value_CheckRow.mono_l k
 unfold value_CheckRow.f
 repeat' first
  | (with_reducible exact ih0 _ _ _ _)
  | (with_reducible exact value_CheckValue.mono _ _ _ _)
  | (with_reducible exact LeO.refl _)
  | (with_reducible exact LeO.none _)
  | (with_reducible refine LeO.ite ?_ ?_)
  | (with_reducible refine LeO.bind ?_ (fun _ => ?_))
  | exact ih0 _ _ _ _
  | exact value_CheckValue.mono _ _ _ _
  | exact LeO.none _
  | refine LeO.ite ?_ ?_
  | refine LeO.bind ?_ (fun _ => ?_)
def value_CheckRow.T9 : Bool × List (List Nat × List Nat) := (true, [([], []), ([0], [0]), ([1], [1]), ([2, 1], [2]), ([3], [3]), ([4, 3], [3, 4]), ([3], [3]), ([3], [3]), ([6, 7, 3], [3, 6, 7]), ([8, 3], [3, 8]), ([9, 3], [3, 9]), ([5, 10, 3], [3, 5, 10]), ([3, 11], [3, 11])])
def value_CheckRow.B9 : List Nat := [0, 1, 3, 7, 15, 31, 15, 15, 207, 463, 975, 2047, 4095]
theorem value_CheckRow.tab9 : rtab .any (opsOf Tryd.f31 9) = value_CheckRow.T9 := by kernel_rfl
theorem value_CheckRow.bits9 : waitsOk value_CheckRow.T9.2 value_CheckRow.B9 = true := by kernel_rfl
set_option maxHeartbeats 8000000 in
set_option maxRecDepth 100000 in
theorem value_CheckRow.calls (k : Nat) (A0 : Option Addr) (c0 : Nat) (l0 : List (S69)) (A1_0 : Option Addr) (c1_0 : Nat) (l1_0 : List (S54)) (r : Int) (w : World) (hr0 : Kd.C k69 w A0 l0.length l0) (hc0 : l0.length ≤ c0) (hr1_0 : Kd.C k54 w A1_0 l1_0.length l1_0) (hc1_0 : l1_0.length ≤ c1_0) (h : value_CheckRow.f k l0 l1_0 = some r) :
    Calls Tryd.prog 31 #[.slice A0 l0.length c0, .agg #[.slice A1_0 l1_0.length c1_0]] w fun e w' => e = .returned (.int .i64 r) ∧ Below w.heap.size w w' := by
 have hu43 := Tryd.underlying43
 have hu54 := Tryd.underlying54
 have HR0 := Aside0.mk hr0
 have HC0 := Aside0.mk hc0
 clear hr0 hc0
 have HR1_0 := Aside0.mk hr1_0
 have HC1_0 := Aside0.mk hc1_0
 clear hr1_0 hc1_0
 have HB := Aside0.mk (Below.refl w.heap.size w)
 have H : (if (l1_0.length : Int) = (l0.length : Int) then (value_CheckRow.l0 k l0 l1_0 (l1_0.length : Int) 0) else (some 3)) = some r := h
 clear h
 by_cases c3 : (l1_0.length : Int) = (l0.length : Int)
 case neg =>
  rw [if_neg c3] at H
  have c3b0 : ((l1_0.length : Int) == (l0.length : Int)) = false := beq_eq_false_iff_ne.mpr c3
  have c3b1 : ((l1_0.length : Int) != (l0.length : Int)) = true := bne_iff_ne.mpr c3
  have c3b2 : (l1_0.length == l0.length) = false := by first | simpa using c3 | (simp at c3 ⊢; omega)
  obtain rfl := Option.some.inj H
  go_enter Tryd.func31, Tryd.ntmps31
  go_wp2_with (first | ((with_reducible refine gate_dst (N := 3) rfl ?_); refine box_event ?hg (N := 3) ?hd (cs := #[.slice A1_0 l1_0.length c1_0]) (t := 43) ?hr ?_; (case hd => rfl); (case hg => rfl); (case hr => first | (go_simp; done) | (go_simp; rfl)); intro gb117 hg w37 hbox hb; have n0_ := Aside0.mk (below_step s3q6 hb); have n1_ := Aside0.mk (hbox); have n2_ := Aside0.mk ((s3q16 : w.heap.size ≤ gb117)); have n3_ := Aside0.mk ((s3q16 : w.heap.size ≤ gb117)); clear HB; have HB := n0_; have BK117 := n1_; have GW117 := n2_; have GE117 := n3_; clear n0_ n1_ n2_ n3_; clear hb hbox hg; have hcz38_0 : w37.cell? ⟨gb117, 0, none⟩ = some (.slice A1_0 l1_0.length c1_0) := (blk_cell BK117.out 0).trans rfl; have hfz38_0 := blk_frozen BK117.out 0))
  go_ret
  exact ⟨by first | rfl | (simp [errW_none, errW_some] <;> rfl) | (simp [*, errW_none, errW_some] <;> rfl), by repeat (first | (with_reducible first | exact HB.out | apply below_alloc | apply pw_below_drewN | apply below_drew1 | refine below_set ?_ GE117.out) | exact HB.out)⟩
 rw [if_pos c3] at H
 have c3b0 : ((l1_0.length : Int) == (l0.length : Int)) = true := beq_iff_eq.mpr c3
 have c3b1 : ((l1_0.length : Int) != (l0.length : Int)) = false := bne_eq_false_iff_eq.mpr c3
 have c3b2 : (l1_0.length == l0.length) = true := by first | simpa using c3 | (simp at c3 ⊢; omega)
 clear c3
 have H' := Aside0.mk H
 clear H
 go_enter Tryd.func31, Tryd.ntmps31
 go_wp2_with (first | ((with_reducible refine gate_dst (N := 3) rfl ?_); refine box_event ?hg (N := 3) ?hd (cs := #[.slice A1_0 l1_0.length c1_0]) (t := 43) ?hr ?_; (case hd => rfl); (case hg => rfl); (case hr => first | (go_simp; done) | (go_simp; rfl)); intro gb117 hg w4 hbox hb; have n0_ := Aside0.mk (below_step s3q6 hb); have n1_ := Aside0.mk (hbox); have n2_ := Aside0.mk ((s3q16 : w.heap.size ≤ gb117)); have n3_ := Aside0.mk ((s3q16 : w.heap.size ≤ gb117)); clear HB; have HB := n0_; have BK117 := n1_; have GW117 := n2_; have GE117 := n3_; clear n0_ n1_ n2_ n3_; clear hb hbox hg; have hcz5_0 : w4.cell? ⟨gb117, 0, none⟩ = some (.slice A1_0 l1_0.length c1_0) := (blk_cell BK117.out 0).trans rfl; have hfz5_0 := blk_frozen BK117.out 0))
 go_loopg [17] k (fun kq v17 w' => ∃ (x17_1 : Int), v17 = .int .i64 x17_1 ∧ Aside0 (value_CheckRow.l0 kq l0 l1_0 (l1_0.length : Int) x17_1 = some r) ∧ Aside0 (kq ≤ k) ∧ Aside0 (w'.heap[gb117]? = some (.cells #[(.slice A1_0 l1_0.length c1_0)] 43 (0, 0))) ∧ Aside0 (Below w.heap.size w w'))
 case atStart => exact ⟨(0), s3q1, H', ⟨Nat.le_refl _⟩, ⟨by (with_reducible repeat (first | refine blk_drewN ?_ _ | refine blk_drew ?_ | refine blk_alloc ?_ _)); exact BK117.out⟩, ⟨by repeat (first | (with_reducible first | exact HB.out | apply below_alloc | apply pw_below_drewN | apply below_drew1 | refine below_set ?_ GE117.out) | exact HB.out)⟩⟩
 clear H'
 try clear c1
 try clear p2
 try clear c3
 try clear c3b0
 try clear c3b1
 try clear c3b2
 try clear hcz5_0
 try clear hfz5_0
 obtain ⟨x17_1, rfl, HA, HK1, BK117, HB⟩ := hrel
 cases gk with
 | zero => exact absurd HA.out (by simp [value_CheckRow.l0])
 | succ k1 => ?_
 have H := HA.out
 clear HA
 simp only [value_CheckRow.l0] at H
 by_cases c6 : x17_1 < (l1_0.length : Int)
 case neg =>
  rw [if_neg c6] at H
  have c6b0 : decide (x17_1 < (l1_0.length : Int)) = false := decide_eq_false c6
  clear c6
  obtain rfl := Option.some.inj H
  go_wp2
  go_ret
  exact ⟨by first | rfl | (simp [errW_none, errW_some] <;> rfl) | (simp [*, errW_none, errW_some] <;> rfl), by repeat (first | (with_reducible first | exact HB.out | apply below_alloc | apply pw_below_drewN | apply below_drew1 | refine below_set ?_ GE117.out) | exact HB.out)⟩
 rw [if_pos c6] at H
 have c6b0 : decide (x17_1 < (l1_0.length : Int)) = true := decide_eq_true c6
 clear c6
 by_cases c7 : 0 ≤ x17_1
 case neg =>
  rw [if_neg c7] at H
  exact absurd H (by simp)
 rw [if_pos c7] at H
 have c7b0 : decide (0 ≤ x17_1) = true := decide_eq_true c7
 clear c7
 by_cases c8 : x17_1 < (l1_0.length : Int)
 case neg =>
  rw [if_neg c8] at H
  exact absurd H (by simp)
 rw [if_pos c8] at H
 have c8b0 : decide (x17_1 < (l1_0.length : Int)) = true := decide_eq_true c8
 clear c8
 replace H := Option.bind_eq_some_iff.mp H
 obtain ⟨t120, A90, H⟩ := H
 replace H : (if t120 = 0 then ((kit_IsNull.f ((rd_T54 l1_0 x17_1).f0) ((rd_T54 l1_0 x17_1).f1) ((rd_T54 l1_0 x17_1).f2)).bind fun t121 => (if t121 = true then (value_CheckRow.l0 k1 l0 l1_0 (l1_0.length : Int) (wrap64 (x17_1 + 1))) else (if x17_1 < (l0.length : Int) then (if ((rd_T54 l1_0 x17_1).f0) = ((rd_T69 l0 x17_1).f1) then (value_CheckRow.l0 k1 l0 l1_0 (l1_0.length : Int) (wrap64 (x17_1 + 1))) else (some 10)) else (none)))) else (some t120)) = some r := H
 have A9 := Aside0.mk A90
 clear A90
 by_cases c10 : t120 = 0
 case neg =>
  rw [if_neg c10] at H
  have c10b0 : (t120 == 0) = false := beq_eq_false_iff_ne.mpr c10
  have c10b1 : (t120 != 0) = true := bne_iff_ne.mpr c10
  obtain rfl := Option.some.inj H
  have p118 : 0 ≤ (x17_1 : Int) := of_decide_eq_true s3q2
  have q118 : x17_1 < (l1_0.length : Int) := of_decide_eq_true s3q2
  obtain ⟨ad118, e118, hx118_0, hx118_1, hx118_2⟩ := at_T54 HR1_0.out x17_1 p118 q118
  cases e118
  replace hx118_0 := (HB.out.cell (World.block_lt_of_cell? w _ hx118_0)).trans hx118_0
  replace hx118_1 := (HB.out.cell (World.block_lt_of_cell? w _ hx118_1)).trans hx118_1
  replace hx118_2 := (HB.out.cell (World.block_lt_of_cell? w _ hx118_2)).trans hx118_2
  replace p118 := eq_true p118
  replace q118 := eq_true q118
  go_wp2_with (first | ((with_reducible refine gate_dst (N := 6) rfl ?_); refine box_event ?hg (N := 6) ?hd (cs := #[.int .i64 0, .int .i64 0, .string (⟨#[]⟩ : ByteArray)]) (t := 54) ?hr ?_; (case hd => rfl); (case hg => rfl); (case hr => first | (go_simp; done) | (go_simp; rfl)); intro gb119 hg w33 hbox hb; have n0_ := Aside0.mk (blk_below (g := gb117) (o := .cells #[.slice (some ad118) l1_0.length c1_0] 43 (0, 0)) s3q3 hb); have n1_ := Aside0.mk (below_step s3q8 hb); have n2_ := Aside0.mk (hbox); have n3_ := Aside0.mk ((s3q17 : w.heap.size ≤ gb119)); have n4_ := Aside0.mk ((s3q17 : w.heap.size ≤ gb119)); have n5_ := Aside0.mk ((s3q20 : gb117 ≠ gb119)); have n6_ := Aside0.mk ((s3q19 : gb119 ≠ gb117)); clear BK117; clear HB; have BK117 := n0_; have HB := n1_; have BK119 := n2_; have GW119 := n3_; have GE119 := n4_; have NB117_119 := n5_; have NB119_117 := n6_; clear n0_ n1_ n2_ n3_ n4_ n5_ n6_; clear hb hbox hg; have hnb34 := NB119_117.out; have hnc34 := NB117_119.out; have hcz35_0 : w33.cell? ⟨gb119, 0, none⟩ = some (.int .i64 0) := (blk_cell BK119.out 0).trans rfl; have hcz35_1 : w33.cell? ⟨gb119, 1, none⟩ = some (.int .i64 0) := (blk_cell BK119.out 1).trans rfl; have hcz35_2 : w33.cell? ⟨gb119, 2, none⟩ = some (.string (⟨#[]⟩ : ByteArray)) := (blk_cell BK119.out 2).trans rfl; have hfz35_0 := blk_frozen BK119.out 0; have hfz35_1 := blk_frozen BK119.out 1; have hfz35_2 := blk_frozen BK119.out 2) | ((with_reducible refine gate_callee (f := 29) rfl ?_); refine goesL_ (some 23) rfl rfl Tryd.func29 s3q0 rfl #[.agg #[.int .i64 ((rd_T54 l1_0 x17_1).f0), .int .i64 ((rd_T54 l1_0 x17_1).f1), .string ((rd_T54 l1_0 x17_1).f2)]] rfl s3q7 ?_; (with_reducible refine (value_CheckValue.calls k1 ((rd_T54 l1_0 x17_1).f0) ((rd_T54 l1_0 x17_1).f1) ((rd_T54 l1_0 x17_1).f2) t120 _ A9.out).mono ?_); rintro e w36 ⟨rfl, hb⟩; refine ⟨_, rfl, ?_⟩; have n0_ := Aside0.mk (blk_below (g := gb117) (o := .cells #[.slice (some ad118) l1_0.length c1_0] 43 (0, 0)) s3q14 hb); have n1_ := Aside0.mk (blk_below (g := gb119) (o := .cells #[.int .i64 ((rd_T54 l1_0 x17_1).f0), .int .i64 ((rd_T54 l1_0 x17_1).f1), .string ((rd_T54 l1_0 x17_1).f2)] 54 (0, 0)) s3q15 hb); have n2_ := Aside0.mk (below_step s3q10 hb); clear BK117; clear BK119; clear HB; have BK117 := n0_; have BK119 := n1_; have HB := n2_; clear n0_ n1_ n2_; (try clear hb); (try clear hb2); (try clear hk); (try clear hi)))
  go_ret
  exact ⟨by first | rfl | (simp [errW_none, errW_some] <;> rfl) | (simp [*, errW_none, errW_some] <;> rfl), by repeat (first | (with_reducible first | exact HB.out | apply below_alloc | apply pw_below_drewN | apply below_drew1 | refine below_set ?_ GE117.out | refine below_set ?_ GE119.out) | exact HB.out)⟩
 rw [if_pos c10] at H
 have c10b0 : (t120 == 0) = true := beq_iff_eq.mpr c10
 have c10b1 : (t120 != 0) = false := bne_eq_false_iff_eq.mpr c10
 clear c10
 replace H := Option.bind_eq_some_iff.mp H
 obtain ⟨t121, A110, H⟩ := H
 replace H : (if t121 = true then (value_CheckRow.l0 k1 l0 l1_0 (l1_0.length : Int) (wrap64 (x17_1 + 1))) else (if x17_1 < (l0.length : Int) then (if ((rd_T54 l1_0 x17_1).f0) = ((rd_T69 l0 x17_1).f1) then (value_CheckRow.l0 k1 l0 l1_0 (l1_0.length : Int) (wrap64 (x17_1 + 1))) else (some 10)) else (none))) = some r := H
 have A11 := Aside0.mk A110
 clear A110
 by_cases c12 : t121 = true
 · subst c12
   have H1 : (value_CheckRow.l0 k1 l0 l1_0 (l1_0.length : Int) (wrap64 (x17_1 + 1))) = some r := by rw [if_pos rfl] at H; exact H
   clear H
   have H := H1
   clear H1
   have H' := Aside0.mk H
   clear H
   have p118 : 0 ≤ (x17_1 : Int) := of_decide_eq_true s3q2
   have q118 : x17_1 < (l1_0.length : Int) := of_decide_eq_true s3q2
   obtain ⟨ad118, e118, hx118_0, hx118_1, hx118_2⟩ := at_T54 HR1_0.out x17_1 p118 q118
   cases e118
   replace hx118_0 := (HB.out.cell (World.block_lt_of_cell? w _ hx118_0)).trans hx118_0
   replace hx118_1 := (HB.out.cell (World.block_lt_of_cell? w _ hx118_1)).trans hx118_1
   replace hx118_2 := (HB.out.cell (World.block_lt_of_cell? w _ hx118_2)).trans hx118_2
   replace p118 := eq_true p118
   replace q118 := eq_true q118
   try go_wp2_with (first | ((with_reducible refine gate_dst (N := 6) rfl ?_); refine box_event ?hg (N := 6) ?hd (cs := #[.int .i64 0, .int .i64 0, .string (⟨#[]⟩ : ByteArray)]) (t := 54) ?hr ?_; (case hd => rfl); (case hg => rfl); (case hr => first | (go_simp; done) | (go_simp; rfl)); intro gb119 hg w13 hbox hb; have n0_ := Aside0.mk (blk_below (g := gb117) (o := .cells #[.slice (some ad118) l1_0.length c1_0] 43 (0, 0)) s3q3 hb); have n1_ := Aside0.mk (below_step s3q8 hb); have n2_ := Aside0.mk (hbox); have n3_ := Aside0.mk ((s3q17 : w.heap.size ≤ gb119)); have n4_ := Aside0.mk ((s3q17 : w.heap.size ≤ gb119)); have n5_ := Aside0.mk ((s3q20 : gb117 ≠ gb119)); have n6_ := Aside0.mk ((s3q19 : gb119 ≠ gb117)); clear BK117; clear HB; have BK117 := n0_; have HB := n1_; have BK119 := n2_; have GW119 := n3_; have GE119 := n4_; have NB117_119 := n5_; have NB119_117 := n6_; clear n0_ n1_ n2_ n3_ n4_ n5_ n6_; clear hb hbox hg; have hnb14 := NB119_117.out; have hnc14 := NB117_119.out; have hcz15_0 : w13.cell? ⟨gb119, 0, none⟩ = some (.int .i64 0) := (blk_cell BK119.out 0).trans rfl; have hcz15_1 : w13.cell? ⟨gb119, 1, none⟩ = some (.int .i64 0) := (blk_cell BK119.out 1).trans rfl; have hcz15_2 : w13.cell? ⟨gb119, 2, none⟩ = some (.string (⟨#[]⟩ : ByteArray)) := (blk_cell BK119.out 2).trans rfl; have hfz15_0 := blk_frozen BK119.out 0; have hfz15_1 := blk_frozen BK119.out 1; have hfz15_2 := blk_frozen BK119.out 2) | ((with_reducible refine gate_callee (f := 29) rfl ?_); refine goesL_ (some 23) rfl rfl Tryd.func29 s3q0 rfl #[.agg #[.int .i64 ((rd_T54 l1_0 x17_1).f0), .int .i64 ((rd_T54 l1_0 x17_1).f1), .string ((rd_T54 l1_0 x17_1).f2)]] rfl s3q7 ?_; (with_reducible refine (value_CheckValue.calls k1 ((rd_T54 l1_0 x17_1).f0) ((rd_T54 l1_0 x17_1).f1) ((rd_T54 l1_0 x17_1).f2) t120 _ A9.out).mono ?_); rintro e w16 ⟨rfl, hb⟩; refine ⟨_, rfl, ?_⟩; have n0_ := Aside0.mk (blk_below (g := gb117) (o := .cells #[.slice (some ad118) l1_0.length c1_0] 43 (0, 0)) s3q14 hb); have n1_ := Aside0.mk (blk_below (g := gb119) (o := .cells #[.int .i64 ((rd_T54 l1_0 x17_1).f0), .int .i64 ((rd_T54 l1_0 x17_1).f1), .string ((rd_T54 l1_0 x17_1).f2)] 54 (0, 0)) s3q15 hb); have n2_ := Aside0.mk (below_step s3q10 hb); clear BK117; clear BK119; clear HB; have BK117 := n0_; have BK119 := n1_; have HB := n2_; clear n0_ n1_ n2_; (try clear hb); (try clear hb2); (try clear hk); (try clear hi)))
   have n0_ := Aside0.mk (blk_drew BK117.out)
   have n1_ := Aside0.mk (blk_drew BK119.out)
   have n2_ := Aside0.mk (below_drew1 HB.out)
   clear BK117
   clear BK119
   clear HB
   have BK117 := n0_
   have BK119 := n1_
   have HB := n2_
   clear n0_ n1_ n2_
   refine start_ (n := 13) (S := fun w' => w'.cell? ⟨gb119, 0, none⟩ = some (.int .i64 ((rd_T54 l1_0 x17_1).f0)) ∧ w'.cell? ⟨gb119, 1, none⟩ = some (.int .i64 ((rd_T54 l1_0 x17_1).f1)) ∧ w'.cell? ⟨gb119, 2, none⟩ = some (.string ((rd_T54 l1_0 x17_1).f2))) (ds := []) #[false, false, false, false, false, false, false, false, false, false, false, false, false] s3q0 rfl rfl ⟨(blk_cell BK119.out 0).trans rfl, (blk_cell BK119.out 1).trans rfl, (blk_cell BK119.out 2).trans rfl⟩ (fun hHeld => ?_); refine with_tabW value_CheckRow.tab9 value_CheckRow.bits9 (fun HT_ HW_ => ?_)
   generalize w16.drew = w17 at BK117 BK119 HB hHeld ⊢
   refine take_ (i := 0) (N := some 27) (v := ?_) (a' := ?_) #[true, false, false, false, false, false, false, false, false, false, false, false, false] rfl rfl (take_ofW HT_.out HW_.out s3q0) (fun _ _ _ h => h) (Or.inl ⟨by rfl, ?_⟩) hHeld ?_ ?_
   rotate_left
   · rintro w' ⟨s0, s1, s2⟩
     go_simp
     with_reducible rfl
   rotate_left
   · simp only [Act.put, sqa, sqb, sqc, i64_w, i32_w]
     rfl
   refine one_ (i := 1) (N := some 28) #[true, true, false, false, false, false, false, false, false, false, false, false, false] rfl rfl (one_of HT_.out s3q0) (by decide) (fun K hK => ?_)
   refine goes_ Tryd.func25 s3q0 rfl #[.agg #[.int .i64 ((rd_T54 l1_0 x17_1).f0), .int .i64 ((rd_T54 l1_0 x17_1).f1), .string ((rd_T54 l1_0 x17_1).f2)]] (by rfl) rfl rfl s3q7 ?_
   with_reducible refine (kit_IsNull.calls ((rd_T54 l1_0 x17_1).f0) ((rd_T54 l1_0 x17_1).f1) ((rd_T54 l1_0 x17_1).f2) true _ A11.out).mono ?_
   rintro e w18 ⟨rfl, hb⟩
   refine ⟨_, rfl, ?_⟩
   have n0_ := Aside0.mk (blk_below (g := gb117) (o := .cells #[.slice (some ad118) l1_0.length c1_0] 43 (0, 0)) s3q3 hb)
   have n1_ := Aside0.mk (blk_below (g := gb119) (o := .cells #[.int .i64 ((rd_T54 l1_0 x17_1).f0), .int .i64 ((rd_T54 l1_0 x17_1).f1), .string ((rd_T54 l1_0 x17_1).f2)] 54 (0, 0)) s3q4 hb)
   have n2_ := Aside0.mk (below_step s3q10 hb)
   clear BK117
   clear BK119
   clear HB
   have BK117 := n0_
   have BK119 := n1_
   have HB := n2_
   clear n0_ n1_ n2_
   (try clear hb)
   (try clear hb2)
   (try clear hk)
   (try clear hi)
   refine hK.out _ _ ⟨(blk_cell BK119.out 0).trans rfl, (blk_cell BK119.out 1).trans rfl, (blk_cell BK119.out 2).trans rfl⟩ (fun hHeld => ?_)
   clear hK K
   refine norm_ (a' := ?_) ?_ ?_
   rotate_left
   · show Act.put _ (some 28) _ = _
     simp only [Act.put, sqa, sqb, sqc, i64_w, i32_w]
     rfl
   refine pure_ (i := 2) (N := some 29) (v := ?_) (a' := ?_) #[true, true, true, false, false, false, false, false, false, false, false, false, false] rfl rfl (any_of HT_.out s3q0) (fun _ _ _ h => h) (Or.inl ⟨by rfl, ?_⟩) ?_ ?_
   rotate_left
   · intro w'
     go_simp
     with_reducible rfl
   rotate_left
   · simp only [Act.put, sqa, sqb, sqc, i64_w, i32_w]
     rfl
   refine pure_ (i := 3) (N := some 30) (v := ?_) (a' := ?_) #[true, true, true, true, false, false, false, false, false, false, false, false, false] rfl rfl (any_of HT_.out s3q0) (fun _ _ _ h => h) (Or.inl ⟨by rfl, ?_⟩) ?_ ?_
   rotate_left
   · intro w'
     go_simp
     with_reducible rfl
   rotate_left
   · simp only [Act.put, sqa, sqb, sqc, i64_w, i32_w]
     rfl
   refine pure_ (i := 4) (N := some 31) (v := undef) (a' := ?_) #[true, true, true, true, true, false, false, false, false, false, false, false, false] rfl rfl (any_of HT_.out s3q0) (fun _ _ _ h => h) (Or.inr ⟨by rfl, rfl⟩) ?_ ?_
   rotate_left
   · simp only [Act.put, sqa, sqb, sqc, i64_w, i32_w]
     rfl
   refine pure_ (i := 5) (N := some 32) (v := undef) (a' := ?_) #[true, true, true, true, true, true, false, false, false, false, false, false, false] rfl rfl (any_of HT_.out s3q0) (fun _ _ _ h => h) (Or.inr ⟨by rfl, rfl⟩) ?_ ?_
   rotate_left
   · simp only [Act.put, sqa, sqb, sqc, i64_w, i32_w]
     rfl
   refine pure_ (i := 6) (N := some 33) (v := undef) (a' := ?_) #[true, true, true, true, true, true, true, false, false, false, false, false, false] rfl rfl (any_of HT_.out s3q0) (fun _ _ _ h => h) (Or.inr ⟨by rfl, rfl⟩) ?_ ?_
   rotate_left
   · simp only [Act.put, sqa, sqb, sqc, i64_w, i32_w]
     rfl
   refine pure_ (i := 7) (N := some 34) (v := undef) (a' := ?_) #[true, true, true, true, true, true, true, true, false, false, false, false, false] rfl rfl (any_of HT_.out s3q0) (fun _ _ _ h => h) (Or.inr ⟨by rfl, rfl⟩) ?_ ?_
   rotate_left
   · simp only [Act.put, sqa, sqb, sqc, i64_w, i32_w]
     rfl
   refine pure_ (i := 8) (N := some 35) (v := undef) (a' := ?_) #[true, true, true, true, true, true, true, true, true, false, false, false, false] rfl rfl (any_of HT_.out s3q0) (fun _ _ _ h => h) (Or.inr ⟨by rfl, rfl⟩) ?_ ?_
   rotate_left
   · simp only [Act.put, sqa, sqb, sqc, i64_w, i32_w]
     rfl
   refine pure_ (i := 9) (N := some 36) (v := undef) (a' := ?_) #[true, true, true, true, true, true, true, true, true, true, false, false, false] rfl rfl (any_of HT_.out s3q0) (fun _ _ _ h => h) (Or.inr ⟨by rfl, rfl⟩) ?_ ?_
   rotate_left
   · simp only [Act.put, sqa, sqb, sqc, i64_w, i32_w]
     rfl
   refine pure_ (i := 10) (N := some 37) (v := undef) (a' := ?_) #[true, true, true, true, true, true, true, true, true, true, true, false, false] rfl rfl (any_of HT_.out s3q0) (fun _ _ _ h => h) (Or.inr ⟨by rfl, rfl⟩) ?_ ?_
   rotate_left
   · simp only [Act.put, sqa, sqb, sqc, i64_w, i32_w]
     rfl
   refine pure_ (i := 11) (N := some 38) (v := undef) (a' := ?_) #[true, true, true, true, true, true, true, true, true, true, true, true, false] rfl rfl (any_of HT_.out s3q0) (fun _ _ _ h => h) (Or.inr ⟨by rfl, rfl⟩) ?_ ?_
   rotate_left
   · simp only [Act.put, sqa, sqb, sqc, i64_w, i32_w]
     rfl
   refine pure_ (i := 12) (N := some 39) (v := ?_) (a' := ?_) #[true, true, true, true, true, true, true, true, true, true, true, true, true] rfl rfl (any_of HT_.out s3q0) (fun _ _ _ h => h) (Or.inl ⟨by rfl, ?_⟩) ?_ ?_
   rotate_left
   · intro w'
     go_simp
     with_reducible rfl
   rotate_left
   · simp only [Act.put, sqa, sqb, sqc, i64_w, i32_w]
     rfl
   refine done_ (done_of HT_.out s3q0) ?_
   try go_wp2
   first | go_roundg k1 | (refine Handed.intro k1 ?measure ?_; rotate_left; go_step; (repeat apply Exists.intro); simp only [add_plain]; refine ⟨?rel, rfl⟩)
   case measure => have := HK1.out; omega
   case rel => exact ⟨(wrap64 (x17_1 + 1)), s3q1, H', ⟨by have := HK1.out; omega⟩, ⟨by (with_reducible repeat (first | refine blk_drewN ?_ _ | refine blk_drew ?_ | refine blk_alloc ?_ _)); exact BK117.out⟩, ⟨by repeat (first | (with_reducible first | exact HB.out | apply below_alloc | apply pw_below_drewN | apply below_drew1 | refine below_set ?_ GE117.out | refine below_set ?_ GE119.out) | exact HB.out)⟩⟩
 replace c12 := Bool.eq_false_iff.mpr c12
 subst c12
 have H1 : (if x17_1 < (l0.length : Int) then (if ((rd_T54 l1_0 x17_1).f0) = ((rd_T69 l0 x17_1).f1) then (value_CheckRow.l0 k1 l0 l1_0 (l1_0.length : Int) (wrap64 (x17_1 + 1))) else (some 10)) else (none)) = some r := by rw [if_neg (show ¬ (false = true) by decide)] at H; exact H
 clear H
 have H := H1
 clear H1
 by_cases c19 : x17_1 < (l0.length : Int)
 case neg =>
  rw [if_neg c19] at H
  exact absurd H (by simp)
 rw [if_pos c19] at H
 have c19b0 : decide (x17_1 < (l0.length : Int)) = true := decide_eq_true c19
 clear c19
 by_cases c20 : ((rd_T54 l1_0 x17_1).f0) = ((rd_T69 l0 x17_1).f1)
 case neg =>
  rw [if_neg c20] at H
  have c20b0 : (((rd_T54 l1_0 x17_1).f0) == ((rd_T69 l0 x17_1).f1)) = false := beq_eq_false_iff_ne.mpr c20
  have c20b1 : (((rd_T54 l1_0 x17_1).f0) != ((rd_T69 l0 x17_1).f1)) = true := bne_iff_ne.mpr c20
  obtain rfl := Option.some.inj H
  have p118 : 0 ≤ (x17_1 : Int) := of_decide_eq_true s3q2
  have q118 : x17_1 < (l1_0.length : Int) := of_decide_eq_true s3q2
  obtain ⟨ad118, e118, hx118_0, hx118_1, hx118_2⟩ := at_T54 HR1_0.out x17_1 p118 q118
  cases e118
  replace hx118_0 := (HB.out.cell (World.block_lt_of_cell? w _ hx118_0)).trans hx118_0
  replace hx118_1 := (HB.out.cell (World.block_lt_of_cell? w _ hx118_1)).trans hx118_1
  replace hx118_2 := (HB.out.cell (World.block_lt_of_cell? w _ hx118_2)).trans hx118_2
  replace p118 := eq_true p118
  replace q118 := eq_true q118
  try go_wp2_with (first | ((with_reducible refine gate_dst (N := 6) rfl ?_); refine box_event ?hg (N := 6) ?hd (cs := #[.int .i64 0, .int .i64 0, .string (⟨#[]⟩ : ByteArray)]) (t := 54) ?hr ?_; (case hd => rfl); (case hg => rfl); (case hr => first | (go_simp; done) | (go_simp; rfl)); intro gb119 hg w27 hbox hb; have n0_ := Aside0.mk (blk_below (g := gb117) (o := .cells #[.slice (some ad118) l1_0.length c1_0] 43 (0, 0)) s3q3 hb); have n1_ := Aside0.mk (below_step s3q8 hb); have n2_ := Aside0.mk (hbox); have n3_ := Aside0.mk ((s3q17 : w.heap.size ≤ gb119)); have n4_ := Aside0.mk ((s3q17 : w.heap.size ≤ gb119)); have n5_ := Aside0.mk ((s3q20 : gb117 ≠ gb119)); have n6_ := Aside0.mk ((s3q19 : gb119 ≠ gb117)); clear BK117; clear HB; have BK117 := n0_; have HB := n1_; have BK119 := n2_; have GW119 := n3_; have GE119 := n4_; have NB117_119 := n5_; have NB119_117 := n6_; clear n0_ n1_ n2_ n3_ n4_ n5_ n6_; clear hb hbox hg; have hnb28 := NB119_117.out; have hnc28 := NB117_119.out; have hcz29_0 : w27.cell? ⟨gb119, 0, none⟩ = some (.int .i64 0) := (blk_cell BK119.out 0).trans rfl; have hcz29_1 : w27.cell? ⟨gb119, 1, none⟩ = some (.int .i64 0) := (blk_cell BK119.out 1).trans rfl; have hcz29_2 : w27.cell? ⟨gb119, 2, none⟩ = some (.string (⟨#[]⟩ : ByteArray)) := (blk_cell BK119.out 2).trans rfl; have hfz29_0 := blk_frozen BK119.out 0; have hfz29_1 := blk_frozen BK119.out 1; have hfz29_2 := blk_frozen BK119.out 2) | ((with_reducible refine gate_callee (f := 29) rfl ?_); refine goesL_ (some 23) rfl rfl Tryd.func29 s3q0 rfl #[.agg #[.int .i64 ((rd_T54 l1_0 x17_1).f0), .int .i64 ((rd_T54 l1_0 x17_1).f1), .string ((rd_T54 l1_0 x17_1).f2)]] rfl s3q7 ?_; (with_reducible refine (value_CheckValue.calls k1 ((rd_T54 l1_0 x17_1).f0) ((rd_T54 l1_0 x17_1).f1) ((rd_T54 l1_0 x17_1).f2) t120 _ A9.out).mono ?_); rintro e w30 ⟨rfl, hb⟩; refine ⟨_, rfl, ?_⟩; have n0_ := Aside0.mk (blk_below (g := gb117) (o := .cells #[.slice (some ad118) l1_0.length c1_0] 43 (0, 0)) s3q14 hb); have n1_ := Aside0.mk (blk_below (g := gb119) (o := .cells #[.int .i64 ((rd_T54 l1_0 x17_1).f0), .int .i64 ((rd_T54 l1_0 x17_1).f1), .string ((rd_T54 l1_0 x17_1).f2)] 54 (0, 0)) s3q15 hb); have n2_ := Aside0.mk (below_step s3q10 hb); clear BK117; clear BK119; clear HB; have BK117 := n0_; have BK119 := n1_; have HB := n2_; clear n0_ n1_ n2_; (try clear hb); (try clear hb2); (try clear hk); (try clear hi)))
  have n0_ := Aside0.mk (blk_drew BK117.out)
  have n1_ := Aside0.mk (blk_drew BK119.out)
  have n2_ := Aside0.mk (below_drew1 HB.out)
  clear BK117
  clear BK119
  clear HB
  have BK117 := n0_
  have BK119 := n1_
  have HB := n2_
  clear n0_ n1_ n2_
  have p122 : 0 ≤ (x17_1 : Int) := of_decide_eq_true s3q2
  have q122 : x17_1 < (l0.length : Int) := of_decide_eq_true s3q2
  obtain ⟨ad122, e122, hx122_0, hx122_1⟩ := at_T69 HR0.out x17_1 p122 q122
  have hw122_1 := hx122_1
  have hw122_0 := hx122_0
  cases e122
  replace hx122_0 := (HB.out.cell (World.block_lt_of_cell? w _ hx122_0)).trans hx122_0
  replace hx122_1 := (HB.out.cell (World.block_lt_of_cell? w _ hx122_1)).trans hx122_1
  replace p122 := eq_true p122
  replace q122 := eq_true q122
  refine start_ (n := 13) (S := fun w' => w'.cell? ⟨gb119, 0, none⟩ = some (.int .i64 ((rd_T54 l1_0 x17_1).f0)) ∧ w'.cell? ⟨gb119, 1, none⟩ = some (.int .i64 ((rd_T54 l1_0 x17_1).f1)) ∧ w'.cell? ⟨gb119, 2, none⟩ = some (.string ((rd_T54 l1_0 x17_1).f2)) ∧ w'.cell? (ad122.add ((x17_1).toNat * 2)) = some (.string ((rd_T69 l0 x17_1).f0)) ∧ w'.cell? ⟨(ad122.add ((x17_1).toNat * 2)).block, (ad122.add ((x17_1).toNat * 2)).off + 1, none⟩ = some (.int .i64 ((rd_T69 l0 x17_1).f1))) (ds := []) #[false, false, false, false, false, false, false, false, false, false, false, false, false] s3q0 rfl rfl ⟨(blk_cell BK119.out 0).trans rfl, (blk_cell BK119.out 1).trans rfl, (blk_cell BK119.out 2).trans rfl, ((HB.out.cell (World.block_lt_of_cell? w _ hw122_0)).trans hw122_0), ((HB.out.cell (World.block_lt_of_cell? w _ hw122_1)).trans hw122_1)⟩ (fun hHeld => ?_); refine with_tabW value_CheckRow.tab9 value_CheckRow.bits9 (fun HT_ HW_ => ?_)
  generalize w30.drew = w31 at BK117 BK119 HB hx122_0 hx122_1 hHeld ⊢
  refine take_ (i := 0) (N := some 27) (v := ?_) (a' := ?_) #[true, false, false, false, false, false, false, false, false, false, false, false, false] rfl rfl (take_ofW HT_.out HW_.out s3q0) (fun _ _ _ h => h) (Or.inl ⟨by rfl, ?_⟩) hHeld ?_ ?_
  rotate_left
  · rintro w' ⟨s0, s1, s2, s3, s4⟩
    go_simp
    with_reducible rfl
  rotate_left
  · simp only [Act.put, sqa, sqb, sqc, i64_w, i32_w]
    rfl
  refine one_ (i := 1) (N := some 28) #[true, true, false, false, false, false, false, false, false, false, false, false, false] rfl rfl (one_of HT_.out s3q0) (by decide) (fun K hK => ?_)
  refine goes_ Tryd.func25 s3q0 rfl #[.agg #[.int .i64 ((rd_T54 l1_0 x17_1).f0), .int .i64 ((rd_T54 l1_0 x17_1).f1), .string ((rd_T54 l1_0 x17_1).f2)]] (by rfl) rfl rfl s3q7 ?_
  with_reducible refine (kit_IsNull.calls ((rd_T54 l1_0 x17_1).f0) ((rd_T54 l1_0 x17_1).f1) ((rd_T54 l1_0 x17_1).f2) false _ A11.out).mono ?_
  rintro e w32 ⟨rfl, hb⟩
  refine ⟨_, rfl, ?_⟩
  have n0_ := Aside0.mk (blk_below (g := gb117) (o := .cells #[.slice (some ad118) l1_0.length c1_0] 43 (0, 0)) s3q3 hb)
  have n1_ := Aside0.mk (blk_below (g := gb119) (o := .cells #[.int .i64 ((rd_T54 l1_0 x17_1).f0), .int .i64 ((rd_T54 l1_0 x17_1).f1), .string ((rd_T54 l1_0 x17_1).f2)] 54 (0, 0)) s3q4 hb)
  have n2_ := Aside0.mk (below_step s3q10 hb)
  clear BK117
  clear BK119
  clear HB
  have BK117 := n0_
  have BK119 := n1_
  have HB := n2_
  clear n0_ n1_ n2_
  (try clear hb)
  (try clear hb2)
  (try clear hk)
  (try clear hi)
  refine hK.out _ _ ⟨(blk_cell BK119.out 0).trans rfl, (blk_cell BK119.out 1).trans rfl, (blk_cell BK119.out 2).trans rfl, ((HB.out.cell (World.block_lt_of_cell? w _ hw122_0)).trans hw122_0), ((HB.out.cell (World.block_lt_of_cell? w _ hw122_1)).trans hw122_1)⟩ (fun hHeld => ?_)
  clear hK K
  refine norm_ (a' := ?_) ?_ ?_
  rotate_left
  · show Act.put _ (some 28) _ = _
    simp only [Act.put, sqa, sqb, sqc, i64_w, i32_w]
    rfl
  refine pure_ (i := 2) (N := some 29) (v := ?_) (a' := ?_) #[true, true, true, false, false, false, false, false, false, false, false, false, false] rfl rfl (any_of HT_.out s3q0) (fun _ _ _ h => h) (Or.inl ⟨by rfl, ?_⟩) ?_ ?_
  rotate_left
  · intro w'
    go_simp
    with_reducible rfl
  rotate_left
  · simp only [Act.put, sqa, sqb, sqc, i64_w, i32_w]
    rfl
  refine pure_ (i := 3) (N := some 30) (v := ?_) (a' := ?_) #[true, true, true, true, false, false, false, false, false, false, false, false, false] rfl rfl (any_of HT_.out s3q0) (fun _ _ _ h => h) (Or.inl ⟨by rfl, ?_⟩) ?_ ?_
  rotate_left
  · intro w'
    go_simp
    with_reducible rfl
  rotate_left
  · simp only [Act.put, sqa, sqb, sqc, i64_w, i32_w]
    rfl
  refine pure_ (i := 4) (N := some 31) (v := ?_) (a' := ?_) #[true, true, true, true, true, false, false, false, false, false, false, false, false] rfl rfl (any_of HT_.out s3q0) (fun _ _ _ h => h) (Or.inl ⟨by rfl, ?_⟩) ?_ ?_
  rotate_left
  · intro w'
    go_simp
    with_reducible rfl
  rotate_left
  · simp only [Act.put, sqa, sqb, sqc, i64_w, i32_w]
    rfl
  refine pure_ (i := 6) (N := some 33) (v := ?_) (a' := ?_) #[true, true, true, true, true, false, true, false, false, false, false, false, false] rfl rfl (any_of HT_.out s3q0) (fun _ _ _ h => h) (Or.inl ⟨by rfl, ?_⟩) ?_ ?_
  rotate_left
  · intro w'
    go_simp
    with_reducible rfl
  rotate_left
  · simp only [Act.put, sqa, sqb, sqc, i64_w, i32_w]
    rfl
  refine pure_ (i := 7) (N := some 34) (v := ?_) (a' := ?_) #[true, true, true, true, true, false, true, true, false, false, false, false, false] rfl rfl (any_of HT_.out s3q0) (fun _ _ _ h => h) (Or.inl ⟨by rfl, ?_⟩) ?_ ?_
  rotate_left
  · intro w'
    go_simp
    with_reducible rfl
  rotate_left
  · simp only [Act.put, sqa, sqb, sqc, i64_w, i32_w]
    rfl
  refine pure_ (i := 8) (N := some 35) (v := ?_) (a' := ?_) #[true, true, true, true, true, false, true, true, true, false, false, false, false] rfl rfl (any_of HT_.out s3q0) (fun _ _ _ h => h) (Or.inl ⟨by rfl, ?_⟩) ?_ ?_
  rotate_left
  · intro w'
    go_simp
    with_reducible rfl
  rotate_left
  · simp only [Act.put, sqa, sqb, sqc, i64_w, i32_w]
    rfl
  refine pure_ (i := 9) (N := some 36) (v := ?_) (a' := ?_) #[true, true, true, true, true, false, true, true, true, true, false, false, false] rfl rfl (any_of HT_.out s3q0) (fun _ _ _ h => h) (Or.inl ⟨by rfl, ?_⟩) ?_ ?_
  rotate_left
  · intro w'
    go_simp
    with_reducible rfl
  rotate_left
  · simp only [Act.put, sqa, sqb, sqc, i64_w, i32_w]
    rfl
  refine take_ (i := 5) (N := some 32) (v := ?_) (a' := ?_) #[true, true, true, true, true, true, true, true, true, true, false, false, false] rfl rfl (take_ofW HT_.out HW_.out s3q0) (fun _ _ _ h => h) (Or.inl ⟨by rfl, ?_⟩) hHeld ?_ ?_
  rotate_left
  · rintro w' ⟨s0, s1, s2, s3, s4⟩
    go_simp
    with_reducible rfl
  rotate_left
  · simp only [Act.put, sqa, sqb, sqc, i64_w, i32_w]
    rfl
  refine take_ (i := 10) (N := some 37) (v := ?_) (a' := ?_) #[true, true, true, true, true, true, true, true, true, true, true, false, false] rfl rfl (take_ofW HT_.out HW_.out s3q0) (fun _ _ _ h => h) (Or.inl ⟨by rfl, ?_⟩) hHeld ?_ ?_
  rotate_left
  · rintro w' ⟨s0, s1, s2, s3, s4⟩
    go_simp
    with_reducible rfl
  rotate_left
  · simp only [Act.put, sqa, sqb, sqc, i64_w, i32_w]
    rfl
  refine pure_ (i := 11) (N := some 38) (v := ?_) (a' := ?_) #[true, true, true, true, true, true, true, true, true, true, true, true, false] rfl rfl (any_of HT_.out s3q0) (fun _ _ _ h => h) (Or.inl ⟨by rfl, ?_⟩) ?_ ?_
  rotate_left
  · intro w'
    go_simp
    with_reducible rfl
  rotate_left
  · simp only [Act.put, sqa, sqb, sqc, i64_w, i32_w]
    rfl
  refine pure_ (i := 12) (N := some 39) (v := ?_) (a' := ?_) #[true, true, true, true, true, true, true, true, true, true, true, true, true] rfl rfl (any_of HT_.out s3q0) (fun _ _ _ h => h) (Or.inl ⟨by rfl, ?_⟩) ?_ ?_
  rotate_left
  · intro w'
    go_simp
    with_reducible rfl
  rotate_left
  · simp only [Act.put, sqa, sqb, sqc, i64_w, i32_w]
    rfl
  refine done_ (done_of HT_.out s3q0) ?_
  try go_wp2
  go_ret
  exact ⟨by first | rfl | (simp [errW_none, errW_some] <;> rfl) | (simp [*, errW_none, errW_some] <;> rfl), by repeat (first | (with_reducible first | exact HB.out | apply below_alloc | apply pw_below_drewN | apply below_drew1 | refine below_set ?_ GE117.out | refine below_set ?_ GE119.out) | exact HB.out)⟩
 rw [if_pos c20] at H
 have c20b0 : (((rd_T54 l1_0 x17_1).f0) == ((rd_T69 l0 x17_1).f1)) = true := beq_iff_eq.mpr c20
 have c20b1 : (((rd_T54 l1_0 x17_1).f0) != ((rd_T69 l0 x17_1).f1)) = false := bne_eq_false_iff_eq.mpr c20
 clear c20
 have H' := Aside0.mk H
 clear H
 have p118 : 0 ≤ (x17_1 : Int) := of_decide_eq_true s3q2
 have q118 : x17_1 < (l1_0.length : Int) := of_decide_eq_true s3q2
 obtain ⟨ad118, e118, hx118_0, hx118_1, hx118_2⟩ := at_T54 HR1_0.out x17_1 p118 q118
 cases e118
 replace hx118_0 := (HB.out.cell (World.block_lt_of_cell? w _ hx118_0)).trans hx118_0
 replace hx118_1 := (HB.out.cell (World.block_lt_of_cell? w _ hx118_1)).trans hx118_1
 replace hx118_2 := (HB.out.cell (World.block_lt_of_cell? w _ hx118_2)).trans hx118_2
 replace p118 := eq_true p118
 replace q118 := eq_true q118
 try go_wp2_with (first | ((with_reducible refine gate_dst (N := 6) rfl ?_); refine box_event ?hg (N := 6) ?hd (cs := #[.int .i64 0, .int .i64 0, .string (⟨#[]⟩ : ByteArray)]) (t := 54) ?hr ?_; (case hd => rfl); (case hg => rfl); (case hr => first | (go_simp; done) | (go_simp; rfl)); intro gb119 hg w21 hbox hb; have n0_ := Aside0.mk (blk_below (g := gb117) (o := .cells #[.slice (some ad118) l1_0.length c1_0] 43 (0, 0)) s3q3 hb); have n1_ := Aside0.mk (below_step s3q8 hb); have n2_ := Aside0.mk (hbox); have n3_ := Aside0.mk ((s3q17 : w.heap.size ≤ gb119)); have n4_ := Aside0.mk ((s3q17 : w.heap.size ≤ gb119)); have n5_ := Aside0.mk ((s3q20 : gb117 ≠ gb119)); have n6_ := Aside0.mk ((s3q19 : gb119 ≠ gb117)); clear BK117; clear HB; have BK117 := n0_; have HB := n1_; have BK119 := n2_; have GW119 := n3_; have GE119 := n4_; have NB117_119 := n5_; have NB119_117 := n6_; clear n0_ n1_ n2_ n3_ n4_ n5_ n6_; clear hb hbox hg; have hnb22 := NB119_117.out; have hnc22 := NB117_119.out; have hcz23_0 : w21.cell? ⟨gb119, 0, none⟩ = some (.int .i64 0) := (blk_cell BK119.out 0).trans rfl; have hcz23_1 : w21.cell? ⟨gb119, 1, none⟩ = some (.int .i64 0) := (blk_cell BK119.out 1).trans rfl; have hcz23_2 : w21.cell? ⟨gb119, 2, none⟩ = some (.string (⟨#[]⟩ : ByteArray)) := (blk_cell BK119.out 2).trans rfl; have hfz23_0 := blk_frozen BK119.out 0; have hfz23_1 := blk_frozen BK119.out 1; have hfz23_2 := blk_frozen BK119.out 2) | ((with_reducible refine gate_callee (f := 29) rfl ?_); refine goesL_ (some 23) rfl rfl Tryd.func29 s3q0 rfl #[.agg #[.int .i64 ((rd_T54 l1_0 x17_1).f0), .int .i64 ((rd_T54 l1_0 x17_1).f1), .string ((rd_T54 l1_0 x17_1).f2)]] rfl s3q7 ?_; (with_reducible refine (value_CheckValue.calls k1 ((rd_T54 l1_0 x17_1).f0) ((rd_T54 l1_0 x17_1).f1) ((rd_T54 l1_0 x17_1).f2) t120 _ A9.out).mono ?_); rintro e w24 ⟨rfl, hb⟩; refine ⟨_, rfl, ?_⟩; have n0_ := Aside0.mk (blk_below (g := gb117) (o := .cells #[.slice (some ad118) l1_0.length c1_0] 43 (0, 0)) s3q14 hb); have n1_ := Aside0.mk (blk_below (g := gb119) (o := .cells #[.int .i64 ((rd_T54 l1_0 x17_1).f0), .int .i64 ((rd_T54 l1_0 x17_1).f1), .string ((rd_T54 l1_0 x17_1).f2)] 54 (0, 0)) s3q15 hb); have n2_ := Aside0.mk (below_step s3q10 hb); clear BK117; clear BK119; clear HB; have BK117 := n0_; have BK119 := n1_; have HB := n2_; clear n0_ n1_ n2_; (try clear hb); (try clear hb2); (try clear hk); (try clear hi)))
 have n0_ := Aside0.mk (blk_drew BK117.out)
 have n1_ := Aside0.mk (blk_drew BK119.out)
 have n2_ := Aside0.mk (below_drew1 HB.out)
 clear BK117
 clear BK119
 clear HB
 have BK117 := n0_
 have BK119 := n1_
 have HB := n2_
 clear n0_ n1_ n2_
 have p122 : 0 ≤ (x17_1 : Int) := of_decide_eq_true s3q2
 have q122 : x17_1 < (l0.length : Int) := of_decide_eq_true s3q2
 obtain ⟨ad122, e122, hx122_0, hx122_1⟩ := at_T69 HR0.out x17_1 p122 q122
 have hw122_1 := hx122_1
 have hw122_0 := hx122_0
 cases e122
 replace hx122_0 := (HB.out.cell (World.block_lt_of_cell? w _ hx122_0)).trans hx122_0
 replace hx122_1 := (HB.out.cell (World.block_lt_of_cell? w _ hx122_1)).trans hx122_1
 replace p122 := eq_true p122
 replace q122 := eq_true q122
 refine start_ (n := 13) (S := fun w' => w'.cell? ⟨gb119, 0, none⟩ = some (.int .i64 ((rd_T54 l1_0 x17_1).f0)) ∧ w'.cell? ⟨gb119, 1, none⟩ = some (.int .i64 ((rd_T54 l1_0 x17_1).f1)) ∧ w'.cell? ⟨gb119, 2, none⟩ = some (.string ((rd_T54 l1_0 x17_1).f2)) ∧ w'.cell? (ad122.add ((x17_1).toNat * 2)) = some (.string ((rd_T69 l0 x17_1).f0)) ∧ w'.cell? ⟨(ad122.add ((x17_1).toNat * 2)).block, (ad122.add ((x17_1).toNat * 2)).off + 1, none⟩ = some (.int .i64 ((rd_T69 l0 x17_1).f1))) (ds := []) #[false, false, false, false, false, false, false, false, false, false, false, false, false] s3q0 rfl rfl ⟨(blk_cell BK119.out 0).trans rfl, (blk_cell BK119.out 1).trans rfl, (blk_cell BK119.out 2).trans rfl, ((HB.out.cell (World.block_lt_of_cell? w _ hw122_0)).trans hw122_0), ((HB.out.cell (World.block_lt_of_cell? w _ hw122_1)).trans hw122_1)⟩ (fun hHeld => ?_); refine with_tabW value_CheckRow.tab9 value_CheckRow.bits9 (fun HT_ HW_ => ?_)
 generalize w24.drew = w25 at BK117 BK119 HB hx122_0 hx122_1 hHeld ⊢
 refine take_ (i := 0) (N := some 27) (v := ?_) (a' := ?_) #[true, false, false, false, false, false, false, false, false, false, false, false, false] rfl rfl (take_ofW HT_.out HW_.out s3q0) (fun _ _ _ h => h) (Or.inl ⟨by rfl, ?_⟩) hHeld ?_ ?_
 rotate_left
 · rintro w' ⟨s0, s1, s2, s3, s4⟩
   go_simp
   with_reducible rfl
 rotate_left
 · simp only [Act.put, sqa, sqb, sqc, i64_w, i32_w]
   rfl
 refine one_ (i := 1) (N := some 28) #[true, true, false, false, false, false, false, false, false, false, false, false, false] rfl rfl (one_of HT_.out s3q0) (by decide) (fun K hK => ?_)
 refine goes_ Tryd.func25 s3q0 rfl #[.agg #[.int .i64 ((rd_T54 l1_0 x17_1).f0), .int .i64 ((rd_T54 l1_0 x17_1).f1), .string ((rd_T54 l1_0 x17_1).f2)]] (by rfl) rfl rfl s3q7 ?_
 with_reducible refine (kit_IsNull.calls ((rd_T54 l1_0 x17_1).f0) ((rd_T54 l1_0 x17_1).f1) ((rd_T54 l1_0 x17_1).f2) false _ A11.out).mono ?_
 rintro e w26 ⟨rfl, hb⟩
 refine ⟨_, rfl, ?_⟩
 have n0_ := Aside0.mk (blk_below (g := gb117) (o := .cells #[.slice (some ad118) l1_0.length c1_0] 43 (0, 0)) s3q3 hb)
 have n1_ := Aside0.mk (blk_below (g := gb119) (o := .cells #[.int .i64 ((rd_T54 l1_0 x17_1).f0), .int .i64 ((rd_T54 l1_0 x17_1).f1), .string ((rd_T54 l1_0 x17_1).f2)] 54 (0, 0)) s3q4 hb)
 have n2_ := Aside0.mk (below_step s3q10 hb)
 clear BK117
 clear BK119
 clear HB
 have BK117 := n0_
 have BK119 := n1_
 have HB := n2_
 clear n0_ n1_ n2_
 (try clear hb)
 (try clear hb2)
 (try clear hk)
 (try clear hi)
 refine hK.out _ _ ⟨(blk_cell BK119.out 0).trans rfl, (blk_cell BK119.out 1).trans rfl, (blk_cell BK119.out 2).trans rfl, ((HB.out.cell (World.block_lt_of_cell? w _ hw122_0)).trans hw122_0), ((HB.out.cell (World.block_lt_of_cell? w _ hw122_1)).trans hw122_1)⟩ (fun hHeld => ?_)
 clear hK K
 refine norm_ (a' := ?_) ?_ ?_
 rotate_left
 · show Act.put _ (some 28) _ = _
   simp only [Act.put, sqa, sqb, sqc, i64_w, i32_w]
   rfl
 refine pure_ (i := 2) (N := some 29) (v := ?_) (a' := ?_) #[true, true, true, false, false, false, false, false, false, false, false, false, false] rfl rfl (any_of HT_.out s3q0) (fun _ _ _ h => h) (Or.inl ⟨by rfl, ?_⟩) ?_ ?_
 rotate_left
 · intro w'
   go_simp
   with_reducible rfl
 rotate_left
 · simp only [Act.put, sqa, sqb, sqc, i64_w, i32_w]
   rfl
 refine pure_ (i := 3) (N := some 30) (v := ?_) (a' := ?_) #[true, true, true, true, false, false, false, false, false, false, false, false, false] rfl rfl (any_of HT_.out s3q0) (fun _ _ _ h => h) (Or.inl ⟨by rfl, ?_⟩) ?_ ?_
 rotate_left
 · intro w'
   go_simp
   with_reducible rfl
 rotate_left
 · simp only [Act.put, sqa, sqb, sqc, i64_w, i32_w]
   rfl
 refine pure_ (i := 4) (N := some 31) (v := ?_) (a' := ?_) #[true, true, true, true, true, false, false, false, false, false, false, false, false] rfl rfl (any_of HT_.out s3q0) (fun _ _ _ h => h) (Or.inl ⟨by rfl, ?_⟩) ?_ ?_
 rotate_left
 · intro w'
   go_simp
   with_reducible rfl
 rotate_left
 · simp only [Act.put, sqa, sqb, sqc, i64_w, i32_w]
   rfl
 refine pure_ (i := 6) (N := some 33) (v := ?_) (a' := ?_) #[true, true, true, true, true, false, true, false, false, false, false, false, false] rfl rfl (any_of HT_.out s3q0) (fun _ _ _ h => h) (Or.inl ⟨by rfl, ?_⟩) ?_ ?_
 rotate_left
 · intro w'
   go_simp
   with_reducible rfl
 rotate_left
 · simp only [Act.put, sqa, sqb, sqc, i64_w, i32_w]
   rfl
 refine pure_ (i := 7) (N := some 34) (v := ?_) (a' := ?_) #[true, true, true, true, true, false, true, true, false, false, false, false, false] rfl rfl (any_of HT_.out s3q0) (fun _ _ _ h => h) (Or.inl ⟨by rfl, ?_⟩) ?_ ?_
 rotate_left
 · intro w'
   go_simp
   with_reducible rfl
 rotate_left
 · simp only [Act.put, sqa, sqb, sqc, i64_w, i32_w]
   rfl
 refine pure_ (i := 8) (N := some 35) (v := ?_) (a' := ?_) #[true, true, true, true, true, false, true, true, true, false, false, false, false] rfl rfl (any_of HT_.out s3q0) (fun _ _ _ h => h) (Or.inl ⟨by rfl, ?_⟩) ?_ ?_
 rotate_left
 · intro w'
   go_simp
   with_reducible rfl
 rotate_left
 · simp only [Act.put, sqa, sqb, sqc, i64_w, i32_w]
   rfl
 refine pure_ (i := 9) (N := some 36) (v := ?_) (a' := ?_) #[true, true, true, true, true, false, true, true, true, true, false, false, false] rfl rfl (any_of HT_.out s3q0) (fun _ _ _ h => h) (Or.inl ⟨by rfl, ?_⟩) ?_ ?_
 rotate_left
 · intro w'
   go_simp
   with_reducible rfl
 rotate_left
 · simp only [Act.put, sqa, sqb, sqc, i64_w, i32_w]
   rfl
 refine take_ (i := 5) (N := some 32) (v := ?_) (a' := ?_) #[true, true, true, true, true, true, true, true, true, true, false, false, false] rfl rfl (take_ofW HT_.out HW_.out s3q0) (fun _ _ _ h => h) (Or.inl ⟨by rfl, ?_⟩) hHeld ?_ ?_
 rotate_left
 · rintro w' ⟨s0, s1, s2, s3, s4⟩
   go_simp
   with_reducible rfl
 rotate_left
 · simp only [Act.put, sqa, sqb, sqc, i64_w, i32_w]
   rfl
 refine take_ (i := 10) (N := some 37) (v := ?_) (a' := ?_) #[true, true, true, true, true, true, true, true, true, true, true, false, false] rfl rfl (take_ofW HT_.out HW_.out s3q0) (fun _ _ _ h => h) (Or.inl ⟨by rfl, ?_⟩) hHeld ?_ ?_
 rotate_left
 · rintro w' ⟨s0, s1, s2, s3, s4⟩
   go_simp
   with_reducible rfl
 rotate_left
 · simp only [Act.put, sqa, sqb, sqc, i64_w, i32_w]
   rfl
 refine pure_ (i := 11) (N := some 38) (v := ?_) (a' := ?_) #[true, true, true, true, true, true, true, true, true, true, true, true, false] rfl rfl (any_of HT_.out s3q0) (fun _ _ _ h => h) (Or.inl ⟨by rfl, ?_⟩) ?_ ?_
 rotate_left
 · intro w'
   go_simp
   with_reducible rfl
 rotate_left
 · simp only [Act.put, sqa, sqb, sqc, i64_w, i32_w]
   rfl
 refine pure_ (i := 12) (N := some 39) (v := ?_) (a' := ?_) #[true, true, true, true, true, true, true, true, true, true, true, true, true] rfl rfl (any_of HT_.out s3q0) (fun _ _ _ h => h) (Or.inl ⟨by rfl, ?_⟩) ?_ ?_
 rotate_left
 · intro w'
   go_simp
   with_reducible rfl
 rotate_left
 · simp only [Act.put, sqa, sqb, sqc, i64_w, i32_w]
   rfl
 refine done_ (done_of HT_.out s3q0) ?_
 try go_wp2
 first | go_roundg k1 | (refine Handed.intro k1 ?measure ?_; rotate_left; go_step; (repeat apply Exists.intro); simp only [add_plain]; refine ⟨?rel, rfl⟩)
 case measure => have := HK1.out; omega
 case rel => exact ⟨(wrap64 (x17_1 + 1)), s3q1, H', ⟨by have := HK1.out; omega⟩, ⟨by (with_reducible repeat (first | refine blk_drewN ?_ _ | refine blk_drew ?_ | refine blk_alloc ?_ _)); exact BK117.out⟩, ⟨by repeat (first | (with_reducible first | exact HB.out | apply below_alloc | apply pw_below_drewN | apply below_drew1 | refine below_set ?_ GE117.out | refine below_set ?_ GE119.out) | exact HB.out)⟩⟩
/-! ### value_CheckTable: function 23 -/
def value_CheckTable.l0 : Nat → List (S43) → Int → Int → List (S69) → List (S43) → Option (Int)
  | 0, _, _, _, _, _ => none
  | k + 1, x18, x19, x20, x124000, x124001 => if x20 < x19 then (if 0 ≤ x20 then (if x20 < (x18.length : Int) then ((value_CheckRow.f k x124000 ((rd_T43 x18 x20).f0)).bind fun t127 => (if t127 = 0 then (value_CheckTable.l0 k x18 x19 (wrap64 (x20 + 1)) x124000 x124001) else (some t127))) else (none)) else (none)) else (some 0)
def value_CheckTable.f (k : Nat) (l0_0 : List (S69)) (l0_1 : List (S43)) : Option (Int) := (value_CheckColumns.f k l0_0).bind fun t124 => (if t124 = 0 then (if (l0_1.length : Int) > 2000 then (some 2) else (value_CheckTable.l0 k l0_1 (l0_1.length : Int) 0 l0_0 l0_1)) else (some t124))
theorem value_CheckTable.mono_l : ∀ k, (∀ y0 y1 y2 y3 y4, LeO (value_CheckTable.l0 k y0 y1 y2 y3 y4) (value_CheckTable.l0 (k + 1) y0 y1 y2 y3 y4))
  | 0 => fun _ _ _ _ _ r h => by simp [value_CheckTable.l0] at h
  | k + 1 => by
    have ih0 := value_CheckTable.mono_l k
    · intro y0 y1 y2 y3 y4
      unfold value_CheckTable.l0
      repeat' first | (with_reducible exact ih0 _ _ _ _ _) | (with_reducible exact value_CheckColumns.mono _ _) | (with_reducible exact value_CheckRow.mono _ _ _) | (with_reducible exact LeO.refl _) | (with_reducible exact LeO.none _) | (with_reducible refine LeO.ite ?_ ?_) | (with_reducible refine LeO.bind ?_ (fun _ => ?_)) | exact ih0 _ _ _ _ _ | exact value_CheckColumns.mono _ _ | exact value_CheckRow.mono _ _ _ | exact LeO.none _ | refine LeO.ite ?_ ?_ | refine LeO.bind ?_ (fun _ => ?_)
theorem value_CheckTable.mono : ∀ a0 a1 k, LeO (value_CheckTable.f k a0 a1) (value_CheckTable.f (k + 1) a0 a1) := by
 intro a0 a1 k
 have ih0 := value_CheckTable.mono_l k
 unfold value_CheckTable.f
 repeat' first
  | (with_reducible exact ih0 _ _ _ _ _)
  | (with_reducible exact value_CheckColumns.mono _ _)
  | (with_reducible exact value_CheckRow.mono _ _ _)
  | (with_reducible exact LeO.refl _)
  | (with_reducible exact LeO.none _)
  | (with_reducible refine LeO.ite ?_ ?_)
  | (with_reducible refine LeO.bind ?_ (fun _ => ?_))
  | exact ih0 _ _ _ _ _
  | exact value_CheckColumns.mono _ _
  | exact value_CheckRow.mono _ _ _
  | exact LeO.none _
  | refine LeO.ite ?_ ?_
  | refine LeO.bind ?_ (fun _ => ?_)
set_option maxHeartbeats 8000000 in
set_option maxRecDepth 100000 in
theorem value_CheckTable.calls (k : Nat) (A0_0 : Option Addr) (c0_0 : Nat) (l0_0 : List (S69)) (A0_1 : Option Addr) (c0_1 : Nat) (l0_1 : List (S43)) (r : Int) (w : World) (hr0_0 : Kd.C k69 w A0_0 l0_0.length l0_0) (hc0_0 : l0_0.length ≤ c0_0) (hr0_1 : Kd.C k43 w A0_1 l0_1.length l0_1) (hc0_1 : l0_1.length ≤ c0_1) (h : value_CheckTable.f k l0_0 l0_1 = some r) :
    Calls Tryd.prog 23 #[.agg #[.slice A0_0 l0_0.length c0_0, .slice A0_1 l0_1.length c0_1]] w fun e w' => e = .returned (.int .i64 r) ∧ Below w.heap.size w w' := by
 have hu25 := Tryd.underlying25
 have hu43 := Tryd.underlying43
 have HR0_0 := Aside0.mk hr0_0
 have HC0_0 := Aside0.mk hc0_0
 clear hr0_0 hc0_0
 have HR0_1 := Aside0.mk hr0_1
 have HC0_1 := Aside0.mk hc0_1
 clear hr0_1 hc0_1
 have HB := Aside0.mk (Below.refl w.heap.size w)
 have H : ((value_CheckColumns.f k l0_0).bind fun t124 => (if t124 = 0 then (if (l0_1.length : Int) > 2000 then (some 2) else (value_CheckTable.l0 k l0_1 (l0_1.length : Int) 0 l0_0 l0_1)) else (some t124))) = some r := h
 clear h
 replace H := Option.bind_eq_some_iff.mp H
 obtain ⟨t124, A20, H⟩ := H
 replace H : (if t124 = 0 then (if (l0_1.length : Int) > 2000 then (some 2) else (value_CheckTable.l0 k l0_1 (l0_1.length : Int) 0 l0_0 l0_1)) else (some t124)) = some r := H
 have A2 := Aside0.mk A20
 clear A20
 by_cases c3 : t124 = 0
 case neg =>
  rw [if_neg c3] at H
  have c3b0 : (t124 == 0) = false := beq_eq_false_iff_ne.mpr c3
  have c3b1 : (t124 != 0) = true := bne_iff_ne.mpr c3
  obtain rfl := Option.some.inj H
  go_enter Tryd.func23, Tryd.ntmps23
  go_wp2_with (first | ((with_reducible refine gate_dst (N := 1) rfl ?_); refine box_event ?hg (N := 1) ?hd (cs := #[.slice A0_0 l0_0.length c0_0, .slice A0_1 l0_1.length c0_1]) (t := 25) ?hr ?_; (case hd => rfl); (case hg => rfl); (case hr => first | (go_simp; done) | (go_simp; rfl)); intro gb123 hg w28 hbox hb; have n0_ := Aside0.mk (below_step s3q6 hb); have n1_ := Aside0.mk (hbox); have n2_ := Aside0.mk ((s3q16 : w.heap.size ≤ gb123)); have n3_ := Aside0.mk ((s3q16 : w.heap.size ≤ gb123)); clear HB; have HB := n0_; have BK123 := n1_; have GW123 := n2_; have GE123 := n3_; clear n0_ n1_ n2_ n3_; clear hb hbox hg; have hcz29_0 : w28.cell? ⟨gb123, 0, none⟩ = some (.slice A0_0 l0_0.length c0_0) := (blk_cell BK123.out 0).trans rfl; have hcz29_1 : w28.cell? ⟨gb123, 1, none⟩ = some (.slice A0_1 l0_1.length c0_1) := (blk_cell BK123.out 1).trans rfl; have hfz29_0 := blk_frozen BK123.out 0; have hfz29_1 := blk_frozen BK123.out 1) | ((with_reducible refine gate_callee (f := 30) rfl ?_); refine goesL_ (some 9) rfl rfl Tryd.func30 s3q0 rfl #[.slice A0_0 l0_0.length c0_0] rfl s3q7 ?_; (with_reducible refine (value_CheckColumns.calls k _ _ l0_0 t124 _ ?side1 ?side2 A2.out).mono ?_); (case side1 => repeat (first | exact (Kd.C_below HR0_0.out HB.out) | (with_reducible refine Kd.C_alloc ?_ _) | (with_reducible refine Kd.C_drewN ?_ _) | (with_reducible refine Kd.C_drew ?_))); (case side2 => exact HC0_0.out); rintro e w30 ⟨rfl, hb⟩; refine ⟨_, rfl, ?_⟩; have n0_ := Aside0.mk (blk_below (g := gb123) (o := .cells #[.slice A0_0 l0_0.length c0_0, .slice A0_1 l0_1.length c0_1] 25 (0, 0)) s3q5 hb); have n1_ := Aside0.mk (below_step s3q9 hb); clear BK123; clear HB; have BK123 := n0_; have HB := n1_; clear n0_ n1_; (try clear hb); (try clear hb2); (try clear hk); (try clear hi)))
  go_ret
  exact ⟨by first | rfl | (simp [errW_none, errW_some] <;> rfl) | (simp [*, errW_none, errW_some] <;> rfl), by repeat (first | (with_reducible first | exact HB.out | apply below_alloc | apply pw_below_drewN | apply below_drew1 | refine below_set ?_ GE123.out) | exact HB.out)⟩
 rw [if_pos c3] at H
 have c3b0 : (t124 == 0) = true := beq_iff_eq.mpr c3
 have c3b1 : (t124 != 0) = false := bne_eq_false_iff_eq.mpr c3
 clear c3
 by_cases c4 : (l0_1.length : Int) > 2000
 · rw [if_pos c4] at H
   have c4b0 : decide (2000 < (l0_1.length : Int)) = true := decide_eq_true c4
   have c4b1 : decide (2000 < l0_1.length) = true := decide_eq_true (by omega)
   clear c4
   obtain rfl := Option.some.inj H
   go_enter Tryd.func23, Tryd.ntmps23
   go_wp2_with (first | ((with_reducible refine gate_dst (N := 1) rfl ?_); refine box_event ?hg (N := 1) ?hd (cs := #[.slice A0_0 l0_0.length c0_0, .slice A0_1 l0_1.length c0_1]) (t := 25) ?hr ?_; (case hd => rfl); (case hg => rfl); (case hr => first | (go_simp; done) | (go_simp; rfl)); intro gb123 hg w5 hbox hb; have n0_ := Aside0.mk (below_step s3q6 hb); have n1_ := Aside0.mk (hbox); have n2_ := Aside0.mk ((s3q16 : w.heap.size ≤ gb123)); have n3_ := Aside0.mk ((s3q16 : w.heap.size ≤ gb123)); clear HB; have HB := n0_; have BK123 := n1_; have GW123 := n2_; have GE123 := n3_; clear n0_ n1_ n2_ n3_; clear hb hbox hg; have hcz6_0 : w5.cell? ⟨gb123, 0, none⟩ = some (.slice A0_0 l0_0.length c0_0) := (blk_cell BK123.out 0).trans rfl; have hcz6_1 : w5.cell? ⟨gb123, 1, none⟩ = some (.slice A0_1 l0_1.length c0_1) := (blk_cell BK123.out 1).trans rfl; have hfz6_0 := blk_frozen BK123.out 0; have hfz6_1 := blk_frozen BK123.out 1) | ((with_reducible refine gate_callee (f := 30) rfl ?_); refine goesL_ (some 9) rfl rfl Tryd.func30 s3q0 rfl #[.slice A0_0 l0_0.length c0_0] rfl s3q7 ?_; (with_reducible refine (value_CheckColumns.calls k _ _ l0_0 t124 _ ?side1 ?side2 A2.out).mono ?_); (case side1 => repeat (first | exact (Kd.C_below HR0_0.out HB.out) | (with_reducible refine Kd.C_alloc ?_ _) | (with_reducible refine Kd.C_drewN ?_ _) | (with_reducible refine Kd.C_drew ?_))); (case side2 => exact HC0_0.out); rintro e w7 ⟨rfl, hb⟩; refine ⟨_, rfl, ?_⟩; have n0_ := Aside0.mk (blk_below (g := gb123) (o := .cells #[.slice A0_0 l0_0.length c0_0, .slice A0_1 l0_1.length c0_1] 25 (0, 0)) s3q5 hb); have n1_ := Aside0.mk (below_step s3q9 hb); clear BK123; clear HB; have BK123 := n0_; have HB := n1_; clear n0_ n1_; (try clear hb); (try clear hb2); (try clear hk); (try clear hi); have hcz8_0 : w7.cell? ⟨gb123, 0, none⟩ = some (.slice A0_0 l0_0.length c0_0) := (blk_cell BK123.out 0).trans rfl; have hcz8_1 : w7.cell? ⟨gb123, 1, none⟩ = some (.slice A0_1 l0_1.length c0_1) := (blk_cell BK123.out 1).trans rfl; have hfz8_0 := blk_frozen BK123.out 0; have hfz8_1 := blk_frozen BK123.out 1))
   go_ret
   exact ⟨by first | rfl | (simp [errW_none, errW_some] <;> rfl) | (simp [*, errW_none, errW_some] <;> rfl), by repeat (first | (with_reducible first | exact HB.out | apply below_alloc | apply pw_below_drewN | apply below_drew1 | refine below_set ?_ GE123.out) | exact HB.out)⟩
 rw [if_neg c4] at H
 have c4b0 : decide (2000 < (l0_1.length : Int)) = false := decide_eq_false c4
 have c4b1 : decide (2000 < l0_1.length) = false := decide_eq_false (by omega)
 clear c4
 have H' := Aside0.mk H
 clear H
 go_enter Tryd.func23, Tryd.ntmps23
 go_wp2_with (first | ((with_reducible refine gate_dst (N := 1) rfl ?_); refine box_event ?hg (N := 1) ?hd (cs := #[.slice A0_0 l0_0.length c0_0, .slice A0_1 l0_1.length c0_1]) (t := 25) ?hr ?_; (case hd => rfl); (case hg => rfl); (case hr => first | (go_simp; done) | (go_simp; rfl)); intro gb123 hg w9 hbox hb; have n0_ := Aside0.mk (below_step s3q6 hb); have n1_ := Aside0.mk (hbox); have n2_ := Aside0.mk ((s3q16 : w.heap.size ≤ gb123)); have n3_ := Aside0.mk ((s3q16 : w.heap.size ≤ gb123)); clear HB; have HB := n0_; have BK123 := n1_; have GW123 := n2_; have GE123 := n3_; clear n0_ n1_ n2_ n3_; clear hb hbox hg; have hcz10_0 : w9.cell? ⟨gb123, 0, none⟩ = some (.slice A0_0 l0_0.length c0_0) := (blk_cell BK123.out 0).trans rfl; have hcz10_1 : w9.cell? ⟨gb123, 1, none⟩ = some (.slice A0_1 l0_1.length c0_1) := (blk_cell BK123.out 1).trans rfl; have hfz10_0 := blk_frozen BK123.out 0; have hfz10_1 := blk_frozen BK123.out 1) | ((with_reducible refine gate_callee (f := 30) rfl ?_); refine goesL_ (some 9) rfl rfl Tryd.func30 s3q0 rfl #[.slice A0_0 l0_0.length c0_0] rfl s3q7 ?_; (with_reducible refine (value_CheckColumns.calls k _ _ l0_0 t124 _ ?side1 ?side2 A2.out).mono ?_); (case side1 => repeat (first | exact (Kd.C_below HR0_0.out HB.out) | (with_reducible refine Kd.C_alloc ?_ _) | (with_reducible refine Kd.C_drewN ?_ _) | (with_reducible refine Kd.C_drew ?_))); (case side2 => exact HC0_0.out); rintro e w11 ⟨rfl, hb⟩; refine ⟨_, rfl, ?_⟩; have n0_ := Aside0.mk (blk_below (g := gb123) (o := .cells #[.slice A0_0 l0_0.length c0_0, .slice A0_1 l0_1.length c0_1] 25 (0, 0)) s3q5 hb); have n1_ := Aside0.mk (below_step s3q9 hb); clear BK123; clear HB; have BK123 := n0_; have HB := n1_; clear n0_ n1_; (try clear hb); (try clear hb2); (try clear hk); (try clear hi); have hcz12_0 : w11.cell? ⟨gb123, 0, none⟩ = some (.slice A0_0 l0_0.length c0_0) := (blk_cell BK123.out 0).trans rfl; have hcz12_1 : w11.cell? ⟨gb123, 1, none⟩ = some (.slice A0_1 l0_1.length c0_1) := (blk_cell BK123.out 1).trans rfl; have hfz12_0 := blk_frozen BK123.out 0; have hfz12_1 := blk_frozen BK123.out 1))
 go_loopg [20] k (fun kq v20 w' => ∃ (x20_1 : Int), v20 = .int .i64 x20_1 ∧ Aside0 (value_CheckTable.l0 kq l0_1 (l0_1.length : Int) x20_1 l0_0 l0_1 = some r) ∧ Aside0 (kq ≤ k) ∧ Aside0 (w'.heap[gb123]? = some (.cells #[(.slice A0_0 l0_0.length c0_0), (.slice A0_1 l0_1.length c0_1)] 25 (0, 0))) ∧ Aside0 (Below w.heap.size w w'))
 case atStart => exact ⟨(0), s3q1, H', ⟨Nat.le_refl _⟩, ⟨by (with_reducible repeat (first | refine blk_drewN ?_ _ | refine blk_drew ?_ | refine blk_alloc ?_ _)); exact BK123.out⟩, ⟨by repeat (first | (with_reducible first | exact HB.out | apply below_alloc | apply pw_below_drewN | apply below_drew1 | refine below_set ?_ GE123.out) | exact HB.out)⟩⟩
 clear H'
 try clear c2
 try clear p2
 try clear c3
 try clear c3b0
 try clear c3b1
 try clear c4
 try clear c4b0
 try clear c4b1
 try clear hcz10_0
 try clear hcz10_1
 try clear hcz12_0
 try clear hcz12_1
 try clear hcz6_0
 try clear hcz6_1
 try clear hcz8_0
 try clear hcz8_1
 try clear hfz10_0
 try clear hfz10_1
 try clear hfz12_0
 try clear hfz12_1
 try clear hfz6_0
 try clear hfz6_1
 try clear hfz8_0
 try clear hfz8_1
 obtain ⟨x20_1, rfl, HA, HK1, BK123, HB⟩ := hrel
 cases gk with
 | zero => exact absurd HA.out (by simp [value_CheckTable.l0])
 | succ k1 => ?_
 have H := HA.out
 clear HA
 simp only [value_CheckTable.l0] at H
 by_cases c13 : x20_1 < (l0_1.length : Int)
 case neg =>
  rw [if_neg c13] at H
  have c13b0 : decide (x20_1 < (l0_1.length : Int)) = false := decide_eq_false c13
  clear c13
  obtain rfl := Option.some.inj H
  go_wp2
  go_ret
  exact ⟨by first | rfl | (simp [errW_none, errW_some] <;> rfl) | (simp [*, errW_none, errW_some] <;> rfl), by repeat (first | (with_reducible first | exact HB.out | apply below_alloc | apply pw_below_drewN | apply below_drew1 | refine below_set ?_ GE123.out) | exact HB.out)⟩
 rw [if_pos c13] at H
 have c13b0 : decide (x20_1 < (l0_1.length : Int)) = true := decide_eq_true c13
 clear c13
 by_cases c14 : 0 ≤ x20_1
 case neg =>
  rw [if_neg c14] at H
  exact absurd H (by simp)
 rw [if_pos c14] at H
 have c14b0 : decide (0 ≤ x20_1) = true := decide_eq_true c14
 clear c14
 by_cases c15 : x20_1 < (l0_1.length : Int)
 case neg =>
  rw [if_neg c15] at H
  exact absurd H (by simp)
 rw [if_pos c15] at H
 have c15b0 : decide (x20_1 < (l0_1.length : Int)) = true := decide_eq_true c15
 clear c15
 replace H := Option.bind_eq_some_iff.mp H
 obtain ⟨t127, A160, H⟩ := H
 replace H : (if t127 = 0 then (value_CheckTable.l0 k1 l0_1 (l0_1.length : Int) (wrap64 (x20_1 + 1)) l0_0 l0_1) else (some t127)) = some r := H
 have A16 := Aside0.mk A160
 clear A160
 by_cases c17 : t127 = 0
 case neg =>
  rw [if_neg c17] at H
  have c17b0 : (t127 == 0) = false := beq_eq_false_iff_ne.mpr c17
  have c17b1 : (t127 != 0) = true := bne_iff_ne.mpr c17
  obtain rfl := Option.some.inj H
  have p125 : 0 ≤ (x20_1 : Int) := of_decide_eq_true s3q2
  have q125 : x20_1 < (l0_1.length : Int) := of_decide_eq_true s3q2
  obtain ⟨ad125, A125_0, c125_0, e125, hx125_0, hl125_0, hi125_0⟩ := at_T43 HR0_1.out x20_1 p125 q125
  cases e125
  replace hx125_0 := (HB.out.cell (World.block_lt_of_cell? w _ hx125_0)).trans hx125_0
  have HR125_0 := Aside0.mk hi125_0
  have HC125_0 := Aside0.mk hl125_0
  clear hi125_0 hl125_0
  replace p125 := eq_true p125
  replace q125 := eq_true q125
  go_wp2_with (first | ((with_reducible refine gate_dst (N := 5) rfl ?_); refine box_event ?hg (N := 5) ?hd (cs := #[.slice none 0 0]) (t := 43) ?hr ?_; (case hd => rfl); (case hg => rfl); (case hr => first | (go_simp; done) | (go_simp; rfl)); intro gb126 hg w23 hbox hb; have n0_ := Aside0.mk (blk_below (g := gb123) (o := .cells #[.slice A0_0 l0_0.length c0_0, .slice (some ad125) l0_1.length c0_1] 25 (0, 0)) s3q5 hb); have n1_ := Aside0.mk (below_step s3q9 hb); have n2_ := Aside0.mk (hbox); have n3_ := Aside0.mk ((s3q18 : w.heap.size ≤ gb126)); have n4_ := Aside0.mk ((s3q18 : w.heap.size ≤ gb126)); have n5_ := Aside0.mk ((s3q22 : gb123 ≠ gb126)); have n6_ := Aside0.mk ((s3q21 : gb126 ≠ gb123)); clear BK123; clear HB; have BK123 := n0_; have HB := n1_; have BK126 := n2_; have GW126 := n3_; have GE126 := n4_; have NB123_126 := n5_; have NB126_123 := n6_; clear n0_ n1_ n2_ n3_ n4_ n5_ n6_; clear hb hbox hg; have hnb24 := NB126_123.out; have hnc24 := NB123_126.out; have hcz25_0 : w23.cell? ⟨gb126, 0, none⟩ = some (.slice none 0 0) := (blk_cell BK126.out 0).trans rfl; have hfz25_0 := blk_frozen BK126.out 0; have hcz26_0 : w23.cell? ⟨gb123, 0, none⟩ = some (.slice A0_0 l0_0.length c0_0) := (blk_cell BK123.out 0).trans rfl; have hcz26_1 : w23.cell? ⟨gb123, 1, none⟩ = some (.slice (some ad125) l0_1.length c0_1) := (blk_cell BK123.out 1).trans rfl; have hfz26_0 := blk_frozen BK123.out 0; have hfz26_1 := blk_frozen BK123.out 1) | ((with_reducible refine gate_callee (f := 31) rfl ?_); refine goesL_ (some 27) rfl rfl Tryd.func31 s3q0 rfl #[.slice A0_0 l0_0.length c0_0, .agg #[.slice A125_0 ((rd_T43 l0_1 x20_1).f0).length c125_0]] rfl s3q7 ?_; (with_reducible refine (value_CheckRow.calls k1 _ _ l0_0 _ _ ((rd_T43 l0_1 x20_1).f0) t127 _ ?side1 ?side2 ?side3 ?side4 A16.out).mono ?_); (case side1 => exact Kd.C_below HR0_0.out s3q11); (case side2 => exact HC0_0.out); (case side3 => exact Kd.C_below HR125_0.out s3q11); (case side4 => exact HC125_0.out); rintro e w27 ⟨rfl, hb⟩; refine ⟨_, rfl, ?_⟩; have n0_ := Aside0.mk (blk_below (g := gb123) (o := .cells #[.slice A0_0 l0_0.length c0_0, .slice (some ad125) l0_1.length c0_1] 25 (0, 0)) s3q12 hb); have n1_ := Aside0.mk (blk_below (g := gb126) (o := .cells #[.slice A125_0 ((rd_T43 l0_1 x20_1).f0).length c125_0] 43 (0, 0)) s3q13 hb); have n2_ := Aside0.mk (below_step s3q11 hb); clear BK123; clear BK126; clear HB; have BK123 := n0_; have BK126 := n1_; have HB := n2_; clear n0_ n1_ n2_; (try clear hb); (try clear hb2); (try clear hk); (try clear hi)))
  go_ret
  exact ⟨by first | rfl | (simp [errW_none, errW_some] <;> rfl) | (simp [*, errW_none, errW_some] <;> rfl), by repeat (first | (with_reducible first | exact HB.out | apply below_alloc | apply pw_below_drewN | apply below_drew1 | refine below_set ?_ GE123.out | refine below_set ?_ GE126.out) | exact HB.out)⟩
 rw [if_pos c17] at H
 have c17b0 : (t127 == 0) = true := beq_iff_eq.mpr c17
 have c17b1 : (t127 != 0) = false := bne_eq_false_iff_eq.mpr c17
 clear c17
 have H' := Aside0.mk H
 clear H
 have p125 : 0 ≤ (x20_1 : Int) := of_decide_eq_true s3q2
 have q125 : x20_1 < (l0_1.length : Int) := of_decide_eq_true s3q2
 obtain ⟨ad125, A125_0, c125_0, e125, hx125_0, hl125_0, hi125_0⟩ := at_T43 HR0_1.out x20_1 p125 q125
 cases e125
 replace hx125_0 := (HB.out.cell (World.block_lt_of_cell? w _ hx125_0)).trans hx125_0
 have HR125_0 := Aside0.mk hi125_0
 have HC125_0 := Aside0.mk hl125_0
 clear hi125_0 hl125_0
 replace p125 := eq_true p125
 replace q125 := eq_true q125
 go_wp2_with (first | ((with_reducible refine gate_dst (N := 5) rfl ?_); refine box_event ?hg (N := 5) ?hd (cs := #[.slice none 0 0]) (t := 43) ?hr ?_; (case hd => rfl); (case hg => rfl); (case hr => first | (go_simp; done) | (go_simp; rfl)); intro gb126 hg w18 hbox hb; have n0_ := Aside0.mk (blk_below (g := gb123) (o := .cells #[.slice A0_0 l0_0.length c0_0, .slice (some ad125) l0_1.length c0_1] 25 (0, 0)) s3q5 hb); have n1_ := Aside0.mk (below_step s3q9 hb); have n2_ := Aside0.mk (hbox); have n3_ := Aside0.mk ((s3q18 : w.heap.size ≤ gb126)); have n4_ := Aside0.mk ((s3q18 : w.heap.size ≤ gb126)); have n5_ := Aside0.mk ((s3q22 : gb123 ≠ gb126)); have n6_ := Aside0.mk ((s3q21 : gb126 ≠ gb123)); clear BK123; clear HB; have BK123 := n0_; have HB := n1_; have BK126 := n2_; have GW126 := n3_; have GE126 := n4_; have NB123_126 := n5_; have NB126_123 := n6_; clear n0_ n1_ n2_ n3_ n4_ n5_ n6_; clear hb hbox hg; have hnb19 := NB126_123.out; have hnc19 := NB123_126.out; have hcz20_0 : w18.cell? ⟨gb126, 0, none⟩ = some (.slice none 0 0) := (blk_cell BK126.out 0).trans rfl; have hfz20_0 := blk_frozen BK126.out 0; have hcz21_0 : w18.cell? ⟨gb123, 0, none⟩ = some (.slice A0_0 l0_0.length c0_0) := (blk_cell BK123.out 0).trans rfl; have hcz21_1 : w18.cell? ⟨gb123, 1, none⟩ = some (.slice (some ad125) l0_1.length c0_1) := (blk_cell BK123.out 1).trans rfl; have hfz21_0 := blk_frozen BK123.out 0; have hfz21_1 := blk_frozen BK123.out 1) | ((with_reducible refine gate_callee (f := 31) rfl ?_); refine goesL_ (some 27) rfl rfl Tryd.func31 s3q0 rfl #[.slice A0_0 l0_0.length c0_0, .agg #[.slice A125_0 ((rd_T43 l0_1 x20_1).f0).length c125_0]] rfl s3q7 ?_; (with_reducible refine (value_CheckRow.calls k1 _ _ l0_0 _ _ ((rd_T43 l0_1 x20_1).f0) t127 _ ?side1 ?side2 ?side3 ?side4 A16.out).mono ?_); (case side1 => exact Kd.C_below HR0_0.out s3q11); (case side2 => exact HC0_0.out); (case side3 => exact Kd.C_below HR125_0.out s3q11); (case side4 => exact HC125_0.out); rintro e w22 ⟨rfl, hb⟩; refine ⟨_, rfl, ?_⟩; have n0_ := Aside0.mk (blk_below (g := gb123) (o := .cells #[.slice A0_0 l0_0.length c0_0, .slice (some ad125) l0_1.length c0_1] 25 (0, 0)) s3q12 hb); have n1_ := Aside0.mk (blk_below (g := gb126) (o := .cells #[.slice A125_0 ((rd_T43 l0_1 x20_1).f0).length c125_0] 43 (0, 0)) s3q13 hb); have n2_ := Aside0.mk (below_step s3q11 hb); clear BK123; clear BK126; clear HB; have BK123 := n0_; have BK126 := n1_; have HB := n2_; clear n0_ n1_ n2_; (try clear hb); (try clear hb2); (try clear hk); (try clear hi)))
 first | go_roundg k1 | (refine Handed.intro k1 ?measure ?_; rotate_left; go_step; (repeat apply Exists.intro); simp only [add_plain]; refine ⟨?rel, rfl⟩)
 case measure => have := HK1.out; omega
 case rel => exact ⟨(wrap64 (x20_1 + 1)), s3q1, H', ⟨by have := HK1.out; omega⟩, ⟨by (with_reducible repeat (first | refine blk_drewN ?_ _ | refine blk_drew ?_ | refine blk_alloc ?_ _)); exact BK123.out⟩, ⟨by repeat (first | (with_reducible first | exact HB.out | apply below_alloc | apply pw_below_drewN | apply below_drew1 | refine below_set ?_ GE123.out | refine below_set ?_ GE126.out) | exact HB.out)⟩⟩
end Go.Proofs.YtgdbkhbaekeijaaDoor.F
