-- Printed by a program of this session (a patched print).
import Derived.Test.YtgcijejmmhjibaaDoorJx0
import Derived.Test.YtgcijejmmhjibaaDoorJx5
import Derived.Test.YtgcijejmmhjibaaDoorJx8
namespace Go.Proofs.YtgcijejmmhjibaaDoor.J
open Go.RowKit Go.Proofs.YtgcijejmmhjibaaDoorW.PrintWords Go.Proofs.YtgcijejmmhjibaaDoorW.PrintLast Go.Proofs.YtgcijejmmhjibaaDoorW.PrintMore
attribute [local go_sem] max2_int min2_int max_two min_two max_three min_three max_four min_four   -- for this text's walks alone
set_option linter.unusedVariables false
set_option linter.unusedSimpArgs false

-- NOT PRINTED: function 120 (api_Bucket)

theorem s9q10 {p : Prop} (h : p := by repeat (first | (with_reducible first | exact HB.out | apply below_alloc | apply pw_below_drewN | apply below_drew1 | refine below_set ?_ GE224.out) | exact HB.out)) : p := h
theorem s9q11 {p : Prop} (h : p := by repeat (first | (with_reducible first | exact HB.out | apply below_alloc | apply pw_below_drewN | apply below_drew1 | refine below_set ?_ GE228.out) | exact HB.out)) : p := h
theorem s9q12 {p : Prop} (h : p := by repeat (first | (with_reducible first | exact HB.out | apply below_alloc | apply pw_below_drewN | apply below_drew1 | refine below_set ?_ GE233.out) | exact HB.out)) : p := h
theorem s9q13 {p : Prop} (h : p := by repeat (first | (with_reducible first | exact HB.out | apply below_alloc | apply pw_below_drewN | apply below_drew1 | refine below_set ?_ GE228.out | refine below_set ?_ GE229.out) | exact HB.out)) : p := h
theorem s9q14 {p : Prop} (h : p := by repeat (first | (with_reducible first | exact HB.out | apply below_alloc | apply pw_below_drewN | apply below_drew1 | refine below_set ?_ GE233.out | refine below_set ?_ GE234.out) | exact HB.out)) : p := h
theorem s9q15 {p : Prop} (h : p := by rw [hg]; exact (below_size q1_)) : p := h
theorem s9q16 {p : Prop} (h : p := by rw [hg]; exact (below_size q1_)) : p := h
theorem s9q17 {p : Prop} (h : p := by rw [hg]; exact (below_size s9q11)) : p := h
theorem s9q18 {p : Prop} (h : p := by rw [hg]; exact (below_size s9q12)) : p := h
theorem s9q19 {p : Prop} (h : p := by rw [hg]; exact Nat.ne_of_gt (blk_lt (g := gb228) (o := .cells #[.int .i64 a0_0, .int .i64 a0_1, .slice A0_2 l0_2.length c0_2, .slice A0_3 l0_3.length c0_3] 44 (0, 0)) (blkR BK228.out))) : p := h
theorem s9q20 {p : Prop} (h : p := by rw [hg]; exact Nat.ne_of_lt (blk_lt (g := gb228) (o := .cells #[.int .i64 a0_0, .int .i64 a0_1, .slice A0_2 l0_2.length c0_2, .slice A0_3 l0_3.length c0_3] 44 (0, 0)) (blkR BK228.out))) : p := h
theorem s9q21 {p : Prop} (h : p := by rw [hg]; exact Nat.ne_of_gt (blk_lt (g := gb233) (o := .cells #[.int .i64 a0_0, .int .i64 a0_1, .string a0_2, .int .i64 a0_3, .int .i64 a0_4, .string a0_5, .int .i64 a0_6, .int .i64 a0_7] 105 (0, 0)) (blkR BK233.out))) : p := h
theorem s9q22 {p : Prop} (h : p := by rw [hg]; exact Nat.ne_of_lt (blk_lt (g := gb233) (o := .cells #[.int .i64 a0_0, .int .i64 a0_1, .string a0_2, .int .i64 a0_3, .int .i64 a0_4, .string a0_5, .int .i64 a0_6, .int .i64 a0_7] 105 (0, 0)) (blkR BK233.out))) : p := h
/-! ### cost_bucketOf: function 96 (by hand) -/
def cost_bucketOf_1.f (a0_0 : Int) (a0_1 : Int) (a0_2 : ByteArray) (a0_3 : Int) (a0_4 : Int) (a0_5 : ByteArray) (a1_0 : Int) (a1_1 : Int) (a1_2 : ByteArray) : Option (Bool) := (kit_Compare.f a0_0 a0_1 a0_2 a1_0 a1_1 a1_2).bind fun t1 => (if t1 ≤ 0 then ((kit_Compare.f a1_0 a1_1 a1_2 a0_3 a0_4 a0_5).bind fun t2 => (some (decide (t2 ≤ 0)))) else (some false))
def cost_bucketOf.l0 : Nat → List (S105) → Int → Int → Int → Int → ByteArray → Option (Int)
  | 0, _, _, _, _, _, _ => none
  | k + 1, x7, x8, x9, v0, v1, v2 => if x9 < x8 then (if 0 ≤ x9 then (if x9 < (x7.length : Int) then ((cost_bucketOf_1.f ((rd_T105 x7 x9).f0.f0) ((rd_T105 x7 x9).f0.f1) ((rd_T105 x7 x9).f0.f2) ((rd_T105 x7 x9).f1.f0) ((rd_T105 x7 x9).f1.f1) ((rd_T105 x7 x9).f1.f2) v0 v1 v2).bind fun t3 => (if t3 = true then (some x9) else (cost_bucketOf.l0 k x7 x8 (wrap64 (x9 + 1)) v0 v1 v2))) else (none)) else (none)) else (some (-1))
def cost_bucketOf.f (k : Nat) (l0 : List (S105)) (a1_0 : Int) (a1_1 : Int) (a1_2 : ByteArray) : Option (Int) := cost_bucketOf.l0 k l0 (l0.length : Int) 0 a1_0 a1_1 a1_2
theorem cost_bucketOf.mono_l : ∀ k, (∀ y0 y1 y2 y3 y4 y5, LeO (cost_bucketOf.l0 k y0 y1 y2 y3 y4 y5) (cost_bucketOf.l0 (k + 1) y0 y1 y2 y3 y4 y5))
  | 0 => fun _ _ _ _ _ _ r h => by simp [cost_bucketOf.l0] at h
  | k + 1 => by
    have ih0 := cost_bucketOf.mono_l k
    intro y0 y1 y2 y3 y4 y5
    unfold cost_bucketOf.l0
    repeat' first
      | (with_reducible exact ih0 _ _ _ _ _ _)
      | (with_reducible exact LeO.refl _)
      | (with_reducible exact LeO.none _)
      | (with_reducible refine LeO.ite ?_ ?_)
      | (with_reducible refine LeO.bind ?_ (fun _ => ?_))
theorem cost_bucketOf.mono : ∀ a0 a1 a2 a3 k, LeO (cost_bucketOf.f k a0 a1 a2 a3) (cost_bucketOf.f (k + 1) a0 a1 a2 a3) := by
 intro a0 a1 a2 a3 k
 exact cost_bucketOf.mono_l k _ _ _ _ _ _
set_option maxHeartbeats 8000000 in
set_option maxRecDepth 100000 in
theorem cost_bucketOf_1.calls (a0_0 : Int) (a0_1 : Int) (a0_2 : ByteArray) (a0_3 : Int) (a0_4 : Int) (a0_5 : ByteArray) (a0_6 : Int) (a0_7 : Int) (a1_0 : Int) (a1_1 : Int) (a1_2 : ByteArray) (r : Bool) (B : Nat) (w : World) (hbx : w.heap[B]? = some (.cells #[.int .i64 a1_0, .int .i64 a1_1, .string a1_2] 48 (0, 0))) (h : cost_bucketOf_1.f a0_0 a0_1 a0_2 a0_3 a0_4 a0_5 a1_0 a1_1 a1_2 = some r) :
    Calls Tryd.prog 121 #[.agg #[.int .i64 a0_0, .int .i64 a0_1, .string a0_2, .int .i64 a0_3, .int .i64 a0_4, .string a0_5, .int .i64 a0_6, .int .i64 a0_7], .pointer (some ⟨B, 0, none⟩)] w fun e w' => e = .returned (.bool r) ∧ Below w.heap.size w w' := by
 have hu105 := Tryd.underlying105
 have hu48 := Tryd.underlying48
 have HB := aM (Below.refl w.heap.size w)
 have BV := aM hbx
 clear hbx
 have H : ((kit_Compare.f a0_0 a0_1 a0_2 a1_0 a1_1 a1_2).bind fun t1 => (if t1 ≤ 0 then ((kit_Compare.f a1_0 a1_1 a1_2 a0_3 a0_4 a0_5).bind fun t2 => (some (decide (t2 ≤ 0)))) else (some false))) = some r := h
 clear h
 obtain ⟨t1, A30, H⟩ := Option.bind_eq_some_iff.mp H
 replace H : (if t1 ≤ 0 then ((kit_Compare.f a1_0 a1_1 a1_2 a0_3 a0_4 a0_5).bind fun t2 => (some (decide (t2 ≤ 0)))) else (some false)) = some r := H
 have A3 := aM A30
 clear A30
 by_cases c4 : t1 ≤ 0
 case neg =>
  rw [if_neg c4] at H
  have c4b0 : decide (t1 ≤ 0) = false := decide_eq_false c4
  clear c4
  obtain rfl := Option.some.inj H
  go_enter Tryd.func121, Tryd.ntmps121
  go_wp2_with (first | ((with_reducible refine gate_dst (N := 2) rfl ?_); refine box_event ?hg (N := 2) ?hd (cs := #[.int .i64 a0_0, .int .i64 a0_1, .string a0_2, .int .i64 a0_3, .int .i64 a0_4, .string a0_5, .int .i64 a0_6, .int .i64 a0_7]) (t := 105) ?hr ?_; (case hd => rfl); (case hg => rfl); (case hr => first | (go_simp; done) | (go_simp; rfl)); intro gb hg w6 hbox hb; have k0_ := aM (bbR BV.out hb); have n1_ := aM (below_step q1_ hb); have n2_ := aM hbox; have n3_ := aM (s9q15 : w.heap.size ≤ gb); clear BV; have BV := k0_; clear k0_; clear HB; have HB := n1_; have BK := n2_; have GE := n3_; clear n1_ n2_ n3_; clear hb hbox hg; have hca_0 : w6.cell? ⟨gb, 0, none⟩ = some (.int .i64 a0_0) := (blk_cell BK.out 0).trans rfl; have hfa_0 := blk_frozen BK.out 0; have hca_1 : w6.cell? ⟨gb, 1, none⟩ = some (.int .i64 a0_1) := (blk_cell BK.out 1).trans rfl; have hfa_1 := blk_frozen BK.out 1; have hca_2 : w6.cell? ⟨gb, 2, none⟩ = some (.string a0_2) := (blk_cell BK.out 2).trans rfl; have hfa_2 := blk_frozen BK.out 2; have hca_3 : w6.cell? ⟨gb, 3, none⟩ = some (.int .i64 a0_3) := (blk_cell BK.out 3).trans rfl; have hfa_3 := blk_frozen BK.out 3; have hca_4 : w6.cell? ⟨gb, 4, none⟩ = some (.int .i64 a0_4) := (blk_cell BK.out 4).trans rfl; have hfa_4 := blk_frozen BK.out 4; have hca_5 : w6.cell? ⟨gb, 5, none⟩ = some (.string a0_5) := (blk_cell BK.out 5).trans rfl; have hfa_5 := blk_frozen BK.out 5; have hca_6 : w6.cell? ⟨gb, 6, none⟩ = some (.int .i64 a0_6) := (blk_cell BK.out 6).trans rfl; have hfa_6 := blk_frozen BK.out 6; have hca_7 : w6.cell? ⟨gb, 7, none⟩ = some (.int .i64 a0_7) := (blk_cell BK.out 7).trans rfl; have hfa_7 := blk_frozen BK.out 7; have hcb_0 : w6.cell? ⟨B, 0, none⟩ = some (.int .i64 a1_0) := (blk_cell BV.out 0).trans rfl; have hfb_0 := blk_frozen BV.out 0; have hcb_1 : w6.cell? ⟨B, 1, none⟩ = some (.int .i64 a1_1) := (blk_cell BV.out 1).trans rfl; have hfb_1 := blk_frozen BV.out 1; have hcb_2 : w6.cell? ⟨B, 2, none⟩ = some (.string a1_2) := (blk_cell BV.out 2).trans rfl; have hfb_2 := blk_frozen BV.out 2) | (go_at_call 97; (with_reducible refine (kit_Compare.calls a0_0 a0_1 a0_2 a1_0 a1_1 a1_2 t1 _ A3.out).mono ?_); rintro e w14 ⟨rfl, hb⟩; have k0_ := aM (bbR BV.out hb); have k1_ := aM (bbR BK.out hb); have n1_ := aM (below_step q1_ hb); clear BV; have BV := k0_; clear k0_; clear BK; have BK := k1_; clear k1_; clear HB; have HB := n1_; clear n1_; (try clear hb)))
  go_ret
  exact ⟨by first | rfl | (simp [*]; done), q1_⟩
 rw [if_pos c4] at H
 have c4b0 : decide (t1 ≤ 0) = true := decide_eq_true c4
 clear c4
 obtain ⟨t2, A50, H⟩ := Option.bind_eq_some_iff.mp H
 replace H : (some (decide (t2 ≤ 0))) = some r := H
 have A5 := aM A50
 clear A50
 obtain rfl := Option.some.inj H
 go_enter Tryd.func121, Tryd.ntmps121
 go_wp2_with (first | ((with_reducible refine gate_dst (N := 2) rfl ?_); refine box_event ?hg (N := 2) ?hd (cs := #[.int .i64 a0_0, .int .i64 a0_1, .string a0_2, .int .i64 a0_3, .int .i64 a0_4, .string a0_5, .int .i64 a0_6, .int .i64 a0_7]) (t := 105) ?hr ?_; (case hd => rfl); (case hg => rfl); (case hr => first | (go_simp; done) | (go_simp; rfl)); intro gb hg w6 hbox hb; have k0_ := aM (bbR BV.out hb); have n1_ := aM (below_step q1_ hb); have n2_ := aM hbox; have n3_ := aM (s9q15 : w.heap.size ≤ gb); clear BV; have BV := k0_; clear k0_; clear HB; have HB := n1_; have BK := n2_; have GE := n3_; clear n1_ n2_ n3_; clear hb hbox hg; have hca_0 : w6.cell? ⟨gb, 0, none⟩ = some (.int .i64 a0_0) := (blk_cell BK.out 0).trans rfl; have hfa_0 := blk_frozen BK.out 0; have hca_1 : w6.cell? ⟨gb, 1, none⟩ = some (.int .i64 a0_1) := (blk_cell BK.out 1).trans rfl; have hfa_1 := blk_frozen BK.out 1; have hca_2 : w6.cell? ⟨gb, 2, none⟩ = some (.string a0_2) := (blk_cell BK.out 2).trans rfl; have hfa_2 := blk_frozen BK.out 2; have hca_3 : w6.cell? ⟨gb, 3, none⟩ = some (.int .i64 a0_3) := (blk_cell BK.out 3).trans rfl; have hfa_3 := blk_frozen BK.out 3; have hca_4 : w6.cell? ⟨gb, 4, none⟩ = some (.int .i64 a0_4) := (blk_cell BK.out 4).trans rfl; have hfa_4 := blk_frozen BK.out 4; have hca_5 : w6.cell? ⟨gb, 5, none⟩ = some (.string a0_5) := (blk_cell BK.out 5).trans rfl; have hfa_5 := blk_frozen BK.out 5; have hca_6 : w6.cell? ⟨gb, 6, none⟩ = some (.int .i64 a0_6) := (blk_cell BK.out 6).trans rfl; have hfa_6 := blk_frozen BK.out 6; have hca_7 : w6.cell? ⟨gb, 7, none⟩ = some (.int .i64 a0_7) := (blk_cell BK.out 7).trans rfl; have hfa_7 := blk_frozen BK.out 7; have hcb_0 : w6.cell? ⟨B, 0, none⟩ = some (.int .i64 a1_0) := (blk_cell BV.out 0).trans rfl; have hfb_0 := blk_frozen BV.out 0; have hcb_1 : w6.cell? ⟨B, 1, none⟩ = some (.int .i64 a1_1) := (blk_cell BV.out 1).trans rfl; have hfb_1 := blk_frozen BV.out 1; have hcb_2 : w6.cell? ⟨B, 2, none⟩ = some (.string a1_2) := (blk_cell BV.out 2).trans rfl; have hfb_2 := blk_frozen BV.out 2) | ((with_reducible refine gate_callee (f := 97) rfl ?_); refine goesL_ (some 7) rfl rfl Tryd.func97 (by kernel_rfl) rfl #[.agg #[.int .i64 a0_0, .int .i64 a0_1, .string a0_2], .agg #[.int .i64 a1_0, .int .i64 a1_1, .string a1_2]] rfl q2_ ?_; (with_reducible refine (kit_Compare.calls a0_0 a0_1 a0_2 a1_0 a1_1 a1_2 t1 _ A3.out).mono ?_); rintro e w11 ⟨rfl, hb⟩; refine ⟨_, rfl, ?_⟩; have k0_ := aM (bbR BV.out hb); have k1_ := aM (bbR BK.out hb); have n1_ := aM (below_step q1_ hb); clear BV; have BV := k0_; clear k0_; clear BK; have BK := k1_; clear k1_; clear HB; have HB := n1_; clear n1_; (try clear hb); have hcc_0 : w11.cell? ⟨gb, 0, none⟩ = some (.int .i64 a0_0) := (blk_cell BK.out 0).trans rfl; have hfc_0 := blk_frozen BK.out 0; have hcc_1 : w11.cell? ⟨gb, 1, none⟩ = some (.int .i64 a0_1) := (blk_cell BK.out 1).trans rfl; have hfc_1 := blk_frozen BK.out 1; have hcc_2 : w11.cell? ⟨gb, 2, none⟩ = some (.string a0_2) := (blk_cell BK.out 2).trans rfl; have hfc_2 := blk_frozen BK.out 2; have hcc_3 : w11.cell? ⟨gb, 3, none⟩ = some (.int .i64 a0_3) := (blk_cell BK.out 3).trans rfl; have hfc_3 := blk_frozen BK.out 3; have hcc_4 : w11.cell? ⟨gb, 4, none⟩ = some (.int .i64 a0_4) := (blk_cell BK.out 4).trans rfl; have hfc_4 := blk_frozen BK.out 4; have hcc_5 : w11.cell? ⟨gb, 5, none⟩ = some (.string a0_5) := (blk_cell BK.out 5).trans rfl; have hfc_5 := blk_frozen BK.out 5; have hcc_6 : w11.cell? ⟨gb, 6, none⟩ = some (.int .i64 a0_6) := (blk_cell BK.out 6).trans rfl; have hfc_6 := blk_frozen BK.out 6; have hcc_7 : w11.cell? ⟨gb, 7, none⟩ = some (.int .i64 a0_7) := (blk_cell BK.out 7).trans rfl; have hfc_7 := blk_frozen BK.out 7; have hcd_0 : w11.cell? ⟨B, 0, none⟩ = some (.int .i64 a1_0) := (blk_cell BV.out 0).trans rfl; have hfd_0 := blk_frozen BV.out 0; have hcd_1 : w11.cell? ⟨B, 1, none⟩ = some (.int .i64 a1_1) := (blk_cell BV.out 1).trans rfl; have hfd_1 := blk_frozen BV.out 1; have hcd_2 : w11.cell? ⟨B, 2, none⟩ = some (.string a1_2) := (blk_cell BV.out 2).trans rfl; have hfd_2 := blk_frozen BV.out 2) | (go_at_call 97; (with_reducible refine (kit_Compare.calls a1_0 a1_1 a1_2 a0_3 a0_4 a0_5 t2 _ A5.out).mono ?_); rintro e w14 ⟨rfl, hb⟩; have k0_ := aM (bbR BV.out hb); have k1_ := aM (bbR BK.out hb); have n1_ := aM (below_step q1_ hb); clear BV; have BV := k0_; clear k0_; clear BK; have BK := k1_; clear k1_; clear HB; have HB := n1_; clear n1_; (try clear hb)))
 go_ret
 exact ⟨by first | rfl | (simp [*]; done), q1_⟩
set_option maxHeartbeats 8000000 in
set_option maxRecDepth 100000 in
theorem cost_bucketOf.idx (k : Nat) (A0 : Option Addr) (c0 : Nat) (l0 : List (S105)) (a1_0 : Int) (a1_1 : Int) (a1_2 : ByteArray) (r : Int) (B : Nat) (w : World) (hr0 : Kd.C k105 w A0 l0.length l0) (hc0 : l0.length ≤ c0) (hbx : w.heap[B]? = some (.cells #[.int .i64 a1_0, .int .i64 a1_1, .string a1_2] 48 (0, 0))) (h : cost_bucketOf.l0 k l0 (l0.length : Int) 0 a1_0 a1_1 a1_2 = some r) :
    Calls Tryd.prog 120 #[.slice A0 l0.length c0, .func (.func 121) #[] #[.pointer (some ⟨B, 0, none⟩)]] w fun e w' => e = .returned (.int .i64 r) ∧ Below w.heap.size w w' := by
 have hu105 := Tryd.underlying105
 have hu48 := Tryd.underlying48
 have HR0 := aM hr0
 have HC0 := aM hc0
 clear hr0 hc0
 have HB := aM (Below.refl w.heap.size w)
 have BV := aM hbx
 clear hbx
 have H' := aM h
 clear h
 go_enter Tryd.func120, Tryd.ntmps120
 go_wp2
 go_loopg [5, 8] k (fun kq v5 v8 w' => ∃ (x8_1 : Int), v8 = .int .i64 x8_1 ∧ Aside0 (cost_bucketOf.l0 kq l0 (l0.length : Int) x8_1 a1_0 a1_1 a1_2 = some r) ∧ Aside0 (kq ≤ k) ∧ Aside0 (w'.heap[B]? = some (.cells #[.int .i64 a1_0, .int .i64 a1_1, .string a1_2] 48 (0, 0))) ∧ Aside0 (Below w.heap.size w w'))
 case atStart => exact ⟨(0), (by first | rfl | (simp; done) | (simp [*]; done)), H', ⟨Nat.le_refl _⟩, ⟨blkR BV.out⟩, ⟨q1_⟩⟩
 clear H'
 obtain ⟨x8_1, rfl, HA, HK1, BV, HB⟩ := hrel
 cases gk with
 | zero => exact absurd HA.out (by simp [cost_bucketOf.l0])
 | succ k1 => ?_
 have H := HA.out
 clear HA
 simp only [cost_bucketOf.l0] at H
 by_cases c4 : x8_1 < (l0.length : Int)
 case neg =>
  rw [if_neg c4] at H
  have c4b0 : decide (x8_1 < (l0.length : Int)) = false := decide_eq_false c4
  clear c4
  obtain rfl := Option.some.inj H
  go_wp2
  go_ret
  exact ⟨by first | rfl | (simp [*]; done), q1_⟩
 rw [if_pos c4] at H
 have c4b0 : decide (x8_1 < (l0.length : Int)) = true := decide_eq_true c4
 clear c4
 by_cases c5 : 0 ≤ x8_1
 case neg =>
  rw [if_neg c5] at H
  exact absurd H (by simp)
 rw [if_pos c5] at H
 have c5b0 : decide (0 ≤ x8_1) = true := decide_eq_true c5
 clear c5
 by_cases c6 : x8_1 < (l0.length : Int)
 case neg =>
  rw [if_neg c6] at H
  exact absurd H (by simp)
 rw [if_pos c6] at H
 obtain ⟨t3, A70, H⟩ := Option.bind_eq_some_iff.mp H
 replace H : (if t3 = true then (some x8_1) else (cost_bucketOf.l0 k1 l0 (l0.length : Int) (wrap64 (x8_1 + 1)) a1_0 a1_1 a1_2)) = some r := H
 have A7 := aM A70
 clear A70
 have p276 : 0 ≤ (x8_1 : Int) := of_decide_eq_true c5b0
 have q276 : x8_1 < (l0.length : Int) := c6
 clear c6
 obtain ⟨ad276, e276, hx276_0, hx276_1, hx276_2, hx276_3, hx276_4, hx276_5, hx276_6, hx276_7⟩ := at_T105 HR0.out x8_1 p276 q276
 cases e276
 replace hx276_0 := up_ HB.out hx276_0
 replace hx276_1 := up_ HB.out hx276_1
 replace hx276_2 := up_ HB.out hx276_2
 replace hx276_3 := up_ HB.out hx276_3
 replace hx276_4 := up_ HB.out hx276_4
 replace hx276_5 := up_ HB.out hx276_5
 replace hx276_6 := up_ HB.out hx276_6
 replace hx276_7 := up_ HB.out hx276_7
 replace p276 := eq_true p276
 replace q276 := eq_true q276
 by_cases c8 : t3 = true
 · subst c8
   replace H : (some x8_1) = some r := by rw [if_pos rfl] at H; exact H
   obtain rfl := Option.some.inj H
   go_wp2_with (first | (go_at_call 121; (with_reducible refine (cost_bucketOf_1.calls ((rd_T105 l0 x8_1).f0.f0) ((rd_T105 l0 x8_1).f0.f1) ((rd_T105 l0 x8_1).f0.f2) ((rd_T105 l0 x8_1).f1.f0) ((rd_T105 l0 x8_1).f1.f1) ((rd_T105 l0 x8_1).f1.f2) ((rd_T105 l0 x8_1).f2) ((rd_T105 l0 x8_1).f3) a1_0 a1_1 a1_2 true B _ ?side1 A7.out).mono ?_); (case side1 => (with_reducible repeat (first | refine blk_drewN ?_ _ | refine blk_drew ?_ | refine blk_alloc ?_ _)); exact BV.out); rintro e w11 ⟨rfl, hb⟩; have k0_ := aM (bbR BV.out hb); have n1_ := aM (below_step q1_ hb); clear BV; have BV := k0_; clear k0_; clear HB; have HB := n1_; clear n1_; (try clear hb)))
   go_ret
   exact ⟨by first | rfl | (simp [*]; done), q1_⟩
 replace c8 := Bool.eq_false_iff.mpr c8
 subst c8
 replace H : (cost_bucketOf.l0 k1 l0 (l0.length : Int) (wrap64 (x8_1 + 1)) a1_0 a1_1 a1_2) = some r := q6_
 have H' := aM H
 clear H
 go_wp2_with (first | (go_at_call 121; (with_reducible refine (cost_bucketOf_1.calls ((rd_T105 l0 x8_1).f0.f0) ((rd_T105 l0 x8_1).f0.f1) ((rd_T105 l0 x8_1).f0.f2) ((rd_T105 l0 x8_1).f1.f0) ((rd_T105 l0 x8_1).f1.f1) ((rd_T105 l0 x8_1).f1.f2) ((rd_T105 l0 x8_1).f2) ((rd_T105 l0 x8_1).f3) a1_0 a1_1 a1_2 false B _ ?side1 A7.out).mono ?_); (case side1 => (with_reducible repeat (first | refine blk_drewN ?_ _ | refine blk_drew ?_ | refine blk_alloc ?_ _)); exact BV.out); rintro e w11 ⟨rfl, hb⟩; have k0_ := aM (bbR BV.out hb); have n1_ := aM (below_step q1_ hb); clear BV; have BV := k0_; clear k0_; clear HB; have HB := n1_; clear n1_; (try clear hb)))
 first | go_roundg k1 | (refine Handed.intro k1 ?measure ?_; rotate_left; go_step; (repeat apply Exists.intro); simp only [add_plain]; refine ⟨?rel, rfl⟩)
 case measure => have := HK1.out; omega
 case rel => exact ⟨(wrap64 (x8_1 + 1)), (by first | rfl | (simp; done) | (simp [*]; done)), H', ⟨by have := HK1.out; omega⟩, ⟨blkR BV.out⟩, ⟨q1_⟩⟩
set_option maxHeartbeats 8000000 in
set_option maxRecDepth 100000 in
theorem cost_bucketOf.calls (k : Nat) (A0 : Option Addr) (c0 : Nat) (l0 : List (S105)) (a1_0 : Int) (a1_1 : Int) (a1_2 : ByteArray) (r : Int) (w : World) (hr0 : Kd.C k105 w A0 l0.length l0) (hc0 : l0.length ≤ c0) (h : cost_bucketOf.f k l0 a1_0 a1_1 a1_2 = some r) :
    Calls Tryd.prog 96 #[.slice A0 l0.length c0, .agg #[.int .i64 a1_0, .int .i64 a1_1, .string a1_2]] w fun e w' => e = .returned (.int .i64 r) ∧ Below w.heap.size w w' := by
 have hu105 := Tryd.underlying105
 have hu48 := Tryd.underlying48
 have HR0 := aM hr0
 have HC0 := aM hc0
 clear hr0 hc0
 have HB := aM (Below.refl w.heap.size w)
 have H' := aM (show cost_bucketOf.l0 k l0 (l0.length : Int) 0 a1_0 a1_1 a1_2 = some r from h)
 clear h
 go_enter Tryd.func96, Tryd.ntmps96
 go_wp2_with (first | ((with_reducible refine gate_dst (N := 3) rfl ?_); refine box_event ?hg (N := 3) ?hd (cs := #[.int .i64 a1_0, .int .i64 a1_1, .string a1_2]) (t := 48) ?hr ?_; (case hd => rfl); (case hg => rfl); (case hr => first | (go_simp; done) | (go_simp; rfl)); intro gb hg w5 hbox hb; have n1_ := aM (below_step q1_ hb); have n2_ := aM hbox; have n3_ := aM (s9q15 : w.heap.size ≤ gb); clear HB; have HB := n1_; have BK := n2_; have GE := n3_; clear n1_ n2_ n3_; clear hb hbox hg; have hca_0 : w5.cell? ⟨gb, 0, none⟩ = some (.int .i64 a1_0) := (blk_cell BK.out 0).trans rfl; have hfa_0 := blk_frozen BK.out 0; have hca_1 : w5.cell? ⟨gb, 1, none⟩ = some (.int .i64 a1_1) := (blk_cell BK.out 1).trans rfl; have hfa_1 := blk_frozen BK.out 1; have hca_2 : w5.cell? ⟨gb, 2, none⟩ = some (.string a1_2) := (blk_cell BK.out 2).trans rfl; have hfa_2 := blk_frozen BK.out 2) | (go_at_call 120; (with_reducible refine (cost_bucketOf.idx k _ _ l0 a1_0 a1_1 a1_2 r gb _ ?side1 ?side2 ?side3 H'.out).mono ?_); (case side1 => repeat (first | exact (Kd.C_below HR0.out HB.out) | (with_reducible refine Kd.C_alloc ?_ _) | (with_reducible refine Kd.C_drewN ?_ _) | (with_reducible refine Kd.C_drew ?_))); (case side2 => exact HC0.out); (case side3 => (with_reducible repeat (first | refine blk_drewN ?_ _ | refine blk_drew ?_ | refine blk_alloc ?_ _)); exact BK.out); rintro e w7 ⟨rfl, hb⟩; have k0_ := aM (bbR BK.out hb); have n1_ := aM (below_step q1_ hb); clear BK; have BK := k0_; clear k0_; clear HB; have HB := n1_; clear n1_; (try clear hb)))
 go_ret
 exact ⟨by first | rfl | (simp [*]; done), q1_⟩
/-! ### cost_inBuckets: function 59 -/
def cost_inBuckets.f (k : Nat) (l0 : List (S105)) (a1_0 : Int) (a1_1 : Int) (a1_2 : ByteArray) : Option (Int) := (cost_bucketOf.f k l0 a1_0 a1_1 a1_2).bind fun t225 => (if t225 < 0 then (some 0) else (if 0 ≤ t225 then (if t225 < (l0.length : Int) then (if ((rd_T105 l0 t225).f3) = 0 then (none) else (some (mx 1 (wrap64 (Int.tdiv ((rd_T105 l0 t225).f2) ((rd_T105 l0 t225).f3)))))) else (none)) else (none)))
theorem cost_inBuckets.mono : ∀ a0 a1 a2 a3 k, LeO (cost_inBuckets.f k a0 a1 a2 a3) (cost_inBuckets.f (k + 1) a0 a1 a2 a3) := by
 intro a0 a1 a2 a3 k
 unfold cost_inBuckets.f
 repeat' first
  | (with_reducible exact cost_bucketOf.mono _ _ _ _ _)
  | (with_reducible exact LeO.refl _)
  | (with_reducible exact LeO.none _)
  | (with_reducible refine LeO.ite ?_ ?_)
  | (with_reducible refine LeO.bind ?_ (fun _ => ?_))
  | exact cost_bucketOf.mono _ _ _ _ _
  | exact LeO.none _
  | refine LeO.ite ?_ ?_
  | refine LeO.bind ?_ (fun _ => ?_)
set_option maxHeartbeats 8000000 in
set_option maxRecDepth 100000 in
theorem cost_inBuckets.calls (k : Nat) (A0 : Option Addr) (c0 : Nat) (l0 : List (S105)) (a1_0 : Int) (a1_1 : Int) (a1_2 : ByteArray) (r : Int) (w : World) (hr0 : Kd.C k105 w A0 l0.length l0) (hc0 : l0.length ≤ c0) (h : cost_inBuckets.f k l0 a1_0 a1_1 a1_2 = some r) :
    Calls Tryd.prog 59 #[.slice A0 l0.length c0, .agg #[.int .i64 a1_0, .int .i64 a1_1, .string a1_2]] w fun e w' => e = .returned (.int .i64 r) ∧ Below w.heap.size w w' := by
 have hu48 := Tryd.underlying48
 have HR0 := aM hr0
 have HC0 := aM hc0
 clear hr0 hc0
 have HB := aM (Below.refl w.heap.size w)
 have H : ((cost_bucketOf.f k l0 a1_0 a1_1 a1_2).bind fun t225 => (if t225 < 0 then (some 0) else (if 0 ≤ t225 then (if t225 < (l0.length : Int) then (if ((rd_T105 l0 t225).f3) = 0 then (none) else (some (mx 1 (wrap64 (Int.tdiv ((rd_T105 l0 t225).f2) ((rd_T105 l0 t225).f3)))))) else (none)) else (none)))) = some r := h
 clear h
 replace H := Option.bind_eq_some_iff.mp H
 obtain ⟨t225, A30, H⟩ := H
 replace H : (if t225 < 0 then (some 0) else (if 0 ≤ t225 then (if t225 < (l0.length : Int) then (if ((rd_T105 l0 t225).f3) = 0 then (none) else (some (mx 1 (wrap64 (Int.tdiv ((rd_T105 l0 t225).f2) ((rd_T105 l0 t225).f3)))))) else (none)) else (none))) = some r := H
 have A3 := aM A30
 clear A30
 by_cases c4 : t225 < 0
 · rw [if_pos c4] at H
   have c4b0 : decide (t225 < 0) = true := decide_eq_true c4
   clear c4
   obtain rfl := Option.some.inj H
   go_enter Tryd.func59, Tryd.ntmps59
   go_wp2_with (first | ((with_reducible refine gate_dst (N := 3) rfl ?_); refine box_event ?hg (N := 3) ?hd (cs := #[.int .i64 a1_0, .int .i64 a1_1, .string a1_2]) (t := 48) ?hr ?_; (case hd => rfl); (case hg => rfl); (case hr => first | (go_simp; done) | (go_simp; rfl)); intro gb224 hg w5 hbox hb; have BK224 := aM hbox; have GW224 := aM (s9q16 : w.heap.size ≤ gb224); have GE224 := GW224; replace HB := aM (below_step q1_ hb); clear hb hbox hg; obtain ⟨hcz6_0, hcz6_1, hcz6_2, hfz6_0, hfz6_1, hfz6_2⟩ := cells3 BK224.out) | (go_at_call 96; (with_reducible refine (cost_bucketOf.calls k _ _ l0 a1_0 a1_1 a1_2 t225 _ ?side1 ?side2 A3.out).mono ?_); (case side1 => repeat (first | exact (Kd.C_below HR0.out HB.out) | (with_reducible refine Kd.C_alloc ?_ _) | (with_reducible refine Kd.C_drewN ?_ _) | (with_reducible refine Kd.C_drew ?_))); (case side2 => exact HC0.out); rintro e w7 ⟨rfl, hb⟩; replace BK224 := aM (bbR BK224.out hb); replace HB := aM (below_step s9q10 hb); (try clear hb); (try clear hb2); (try clear hk); (try clear hi)))
   repeat (go_quiet (first | ((with_reducible refine gate_dst (N := 3) rfl ?_); refine box_event ?hg (N := 3) ?hd (cs := #[.int .i64 a1_0, .int .i64 a1_1, .string a1_2]) (t := 48) ?hr ?_; (case hd => rfl); (case hg => rfl); (case hr => first | (go_simp; done) | (go_simp; rfl)); intro gb224 hg w5 hbox hb; have BK224 := aM hbox; have GW224 := aM (s9q16 : w.heap.size ≤ gb224); have GE224 := GW224; replace HB := aM (below_step q1_ hb); clear hb hbox hg; obtain ⟨hcz6_0, hcz6_1, hcz6_2, hfz6_0, hfz6_1, hfz6_2⟩ := cells3 BK224.out) | (go_at_call 96; (with_reducible refine (cost_bucketOf.calls k _ _ l0 a1_0 a1_1 a1_2 t225 _ ?side1 ?side2 A3.out).mono ?_); (case side1 => repeat (first | exact (Kd.C_below HR0.out HB.out) | (with_reducible refine Kd.C_alloc ?_ _) | (with_reducible refine Kd.C_drewN ?_ _) | (with_reducible refine Kd.C_drew ?_))); (case side2 => exact HC0.out); rintro e w7 ⟨rfl, hb⟩; replace BK224 := aM (bbR BK224.out hb); replace HB := aM (below_step s9q10 hb); (try clear hb); (try clear hb2); (try clear hk); (try clear hi))); try go_wp2_with (first | ((with_reducible refine gate_dst (N := 3) rfl ?_); refine box_event ?hg (N := 3) ?hd (cs := #[.int .i64 a1_0, .int .i64 a1_1, .string a1_2]) (t := 48) ?hr ?_; (case hd => rfl); (case hg => rfl); (case hr => first | (go_simp; done) | (go_simp; rfl)); intro gb224 hg w5 hbox hb; have BK224 := aM hbox; have GW224 := aM (s9q16 : w.heap.size ≤ gb224); have GE224 := GW224; replace HB := aM (below_step q1_ hb); clear hb hbox hg; obtain ⟨hcz6_0, hcz6_1, hcz6_2, hfz6_0, hfz6_1, hfz6_2⟩ := cells3 BK224.out) | (go_at_call 96; (with_reducible refine (cost_bucketOf.calls k _ _ l0 a1_0 a1_1 a1_2 t225 _ ?side1 ?side2 A3.out).mono ?_); (case side1 => repeat (first | exact (Kd.C_below HR0.out HB.out) | (with_reducible refine Kd.C_alloc ?_ _) | (with_reducible refine Kd.C_drewN ?_ _) | (with_reducible refine Kd.C_drew ?_))); (case side2 => exact HC0.out); rintro e w7 ⟨rfl, hb⟩; replace BK224 := aM (bbR BK224.out hb); replace HB := aM (below_step s9q10 hb); (try clear hb); (try clear hb2); (try clear hk); (try clear hi))))
   go_ret
   exact ⟨eqR, s9q10⟩
 rw [if_neg c4] at H
 have c4b0 : decide (t225 < 0) = false := decide_eq_false c4
 clear c4
 by_cases c8 : 0 ≤ t225
 case neg =>
  rw [if_neg c8] at H
  exact absurd H (by simp)
 rw [if_pos c8] at H
 have c8b0 : decide (0 ≤ t225) = true := decide_eq_true c8
 clear c8
 by_cases c9 : t225 < (l0.length : Int)
 case neg =>
  rw [if_neg c9] at H
  exact absurd H (by simp)
 rw [if_pos c9] at H
 have c9b0 : decide (t225 < (l0.length : Int)) = true := decide_eq_true c9
 clear c9
 by_cases c10 : ((rd_T105 l0 t225).f3) = 0
 · rw [if_pos c10] at H
   exact absurd H (by simp)
 rw [if_neg c10] at H
 have c10b0 : (((rd_T105 l0 t225).f3) == 0) = false := beq_eq_false_iff_ne.mpr c10
 have c10b1 : (((rd_T105 l0 t225).f3) != 0) = true := bne_iff_ne.mpr c10
 obtain ⟨ji11, hji11⟩ : ∃ j_ : Int, (mx 1 (wrap64 (Int.tdiv ((rd_T105 l0 t225).f2) ((rd_T105 l0 t225).f3)))) = j_ := ⟨_, rfl⟩
 replace H : (some ji11) = some r := by first | (rw [hji11] at H; exact H) | (simp only [hji11] at H ⊢; exact H)
 (try rw [hji11] at A3)
 (try (have hji11l : 1 ≤ ji11 := by (rw [← hji11]; unfold mx; (repeat' split) <;> omega)))
 (try (have hji11m : 0 ≤ ji11 := by omega))
 have hji11_ : (if 1 < (wrap64 (Int.tdiv ((rd_T105 l0 t225).f2) ((rd_T105 l0 t225).f3))) then (wrap64 (Int.tdiv ((rd_T105 l0 t225).f2) ((rd_T105 l0 t225).f3))) else 1) = ji11 := hji11
 obtain rfl := Option.some.inj H
 go_enter Tryd.func59, Tryd.ntmps59
 go_wp2_with (first | ((with_reducible refine gate_dst (N := 3) rfl ?_); refine box_event ?hg (N := 3) ?hd (cs := #[.int .i64 a1_0, .int .i64 a1_1, .string a1_2]) (t := 48) ?hr ?_; (case hd => rfl); (case hg => rfl); (case hr => first | (go_simp; done) | (go_simp; rfl)); intro gb224 hg w12 hbox hb; have BK224 := aM hbox; have GW224 := aM (s9q16 : w.heap.size ≤ gb224); have GE224 := GW224; replace HB := aM (below_step q1_ hb); clear hb hbox hg; obtain ⟨hcz13_0, hcz13_1, hcz13_2, hfz13_0, hfz13_1, hfz13_2⟩ := cells3 BK224.out) | (go_at_call 96; (with_reducible refine (cost_bucketOf.calls k _ _ l0 a1_0 a1_1 a1_2 t225 _ ?side1 ?side2 A3.out).mono ?_); (case side1 => repeat (first | exact (Kd.C_below HR0.out HB.out) | (with_reducible refine Kd.C_alloc ?_ _) | (with_reducible refine Kd.C_drewN ?_ _) | (with_reducible refine Kd.C_drew ?_))); (case side2 => exact HC0.out); rintro e w14 ⟨rfl, hb⟩; replace BK224 := aM (bbR BK224.out hb); replace HB := aM (below_step s9q10 hb); (try clear hb); (try clear hb2); (try clear hk); (try clear hi); have p226 : 0 ≤ (t225 : Int) := of_decide_eq_true q3_; have q226 : t225 < (l0.length : Int) := of_decide_eq_true q3_; obtain ⟨ad226, e226, hx226_0, hx226_1, hx226_2, hx226_3, hx226_4, hx226_5, hx226_6, hx226_7⟩ := at_T105 HR0.out t225 p226 q226; cases e226; replace hx226_0 := up_ HB.out hx226_0; replace hx226_1 := up_ HB.out hx226_1; replace hx226_2 := up_ HB.out hx226_2; replace hx226_3 := up_ HB.out hx226_3; replace hx226_4 := up_ HB.out hx226_4; replace hx226_5 := up_ HB.out hx226_5; replace hx226_6 := up_ HB.out hx226_6; replace hx226_7 := up_ HB.out hx226_7; replace p226 := eq_true p226; replace q226 := eq_true q226; have p227 : 0 ≤ (t225 : Int) := of_decide_eq_true q3_; have q227 : t225 < (l0.length : Int) := of_decide_eq_true q3_; obtain ⟨ad227, e227, hx227_0, hx227_1, hx227_2, hx227_3, hx227_4, hx227_5, hx227_6, hx227_7⟩ := at_T105 HR0.out t225 p227 q227; obtain rfl : ad226 = ad227 := (by injection e227); replace hx227_0 := up_ HB.out hx227_0; replace hx227_1 := up_ HB.out hx227_1; replace hx227_2 := up_ HB.out hx227_2; replace hx227_3 := up_ HB.out hx227_3; replace hx227_4 := up_ HB.out hx227_4; replace hx227_5 := up_ HB.out hx227_5; replace hx227_6 := up_ HB.out hx227_6; replace hx227_7 := up_ HB.out hx227_7; replace p227 := eq_true p227; replace q227 := eq_true q227))
 repeat (go_quiet (first | ((with_reducible refine gate_dst (N := 3) rfl ?_); refine box_event ?hg (N := 3) ?hd (cs := #[.int .i64 a1_0, .int .i64 a1_1, .string a1_2]) (t := 48) ?hr ?_; (case hd => rfl); (case hg => rfl); (case hr => first | (go_simp; done) | (go_simp; rfl)); intro gb224 hg w12 hbox hb; have BK224 := aM hbox; have GW224 := aM (s9q16 : w.heap.size ≤ gb224); have GE224 := GW224; replace HB := aM (below_step q1_ hb); clear hb hbox hg; obtain ⟨hcz13_0, hcz13_1, hcz13_2, hfz13_0, hfz13_1, hfz13_2⟩ := cells3 BK224.out) | (go_at_call 96; (with_reducible refine (cost_bucketOf.calls k _ _ l0 a1_0 a1_1 a1_2 t225 _ ?side1 ?side2 A3.out).mono ?_); (case side1 => repeat (first | exact (Kd.C_below HR0.out HB.out) | (with_reducible refine Kd.C_alloc ?_ _) | (with_reducible refine Kd.C_drewN ?_ _) | (with_reducible refine Kd.C_drew ?_))); (case side2 => exact HC0.out); rintro e w14 ⟨rfl, hb⟩; replace BK224 := aM (bbR BK224.out hb); replace HB := aM (below_step s9q10 hb); (try clear hb); (try clear hb2); (try clear hk); (try clear hi); have p226 : 0 ≤ (t225 : Int) := of_decide_eq_true q3_; have q226 : t225 < (l0.length : Int) := of_decide_eq_true q3_; obtain ⟨ad226, e226, hx226_0, hx226_1, hx226_2, hx226_3, hx226_4, hx226_5, hx226_6, hx226_7⟩ := at_T105 HR0.out t225 p226 q226; cases e226; replace hx226_0 := up_ HB.out hx226_0; replace hx226_1 := up_ HB.out hx226_1; replace hx226_2 := up_ HB.out hx226_2; replace hx226_3 := up_ HB.out hx226_3; replace hx226_4 := up_ HB.out hx226_4; replace hx226_5 := up_ HB.out hx226_5; replace hx226_6 := up_ HB.out hx226_6; replace hx226_7 := up_ HB.out hx226_7; replace p226 := eq_true p226; replace q226 := eq_true q226; have p227 : 0 ≤ (t225 : Int) := of_decide_eq_true q3_; have q227 : t225 < (l0.length : Int) := of_decide_eq_true q3_; obtain ⟨ad227, e227, hx227_0, hx227_1, hx227_2, hx227_3, hx227_4, hx227_5, hx227_6, hx227_7⟩ := at_T105 HR0.out t225 p227 q227; obtain rfl : ad226 = ad227 := (by injection e227); replace hx227_0 := up_ HB.out hx227_0; replace hx227_1 := up_ HB.out hx227_1; replace hx227_2 := up_ HB.out hx227_2; replace hx227_3 := up_ HB.out hx227_3; replace hx227_4 := up_ HB.out hx227_4; replace hx227_5 := up_ HB.out hx227_5; replace hx227_6 := up_ HB.out hx227_6; replace hx227_7 := up_ HB.out hx227_7; replace p227 := eq_true p227; replace q227 := eq_true q227)); try go_wp2_with (first | ((with_reducible refine gate_dst (N := 3) rfl ?_); refine box_event ?hg (N := 3) ?hd (cs := #[.int .i64 a1_0, .int .i64 a1_1, .string a1_2]) (t := 48) ?hr ?_; (case hd => rfl); (case hg => rfl); (case hr => first | (go_simp; done) | (go_simp; rfl)); intro gb224 hg w12 hbox hb; have BK224 := aM hbox; have GW224 := aM (s9q16 : w.heap.size ≤ gb224); have GE224 := GW224; replace HB := aM (below_step q1_ hb); clear hb hbox hg; obtain ⟨hcz13_0, hcz13_1, hcz13_2, hfz13_0, hfz13_1, hfz13_2⟩ := cells3 BK224.out) | (go_at_call 96; (with_reducible refine (cost_bucketOf.calls k _ _ l0 a1_0 a1_1 a1_2 t225 _ ?side1 ?side2 A3.out).mono ?_); (case side1 => repeat (first | exact (Kd.C_below HR0.out HB.out) | (with_reducible refine Kd.C_alloc ?_ _) | (with_reducible refine Kd.C_drewN ?_ _) | (with_reducible refine Kd.C_drew ?_))); (case side2 => exact HC0.out); rintro e w14 ⟨rfl, hb⟩; replace BK224 := aM (bbR BK224.out hb); replace HB := aM (below_step s9q10 hb); (try clear hb); (try clear hb2); (try clear hk); (try clear hi); have p226 : 0 ≤ (t225 : Int) := of_decide_eq_true q3_; have q226 : t225 < (l0.length : Int) := of_decide_eq_true q3_; obtain ⟨ad226, e226, hx226_0, hx226_1, hx226_2, hx226_3, hx226_4, hx226_5, hx226_6, hx226_7⟩ := at_T105 HR0.out t225 p226 q226; cases e226; replace hx226_0 := up_ HB.out hx226_0; replace hx226_1 := up_ HB.out hx226_1; replace hx226_2 := up_ HB.out hx226_2; replace hx226_3 := up_ HB.out hx226_3; replace hx226_4 := up_ HB.out hx226_4; replace hx226_5 := up_ HB.out hx226_5; replace hx226_6 := up_ HB.out hx226_6; replace hx226_7 := up_ HB.out hx226_7; replace p226 := eq_true p226; replace q226 := eq_true q226; have p227 : 0 ≤ (t225 : Int) := of_decide_eq_true q3_; have q227 : t225 < (l0.length : Int) := of_decide_eq_true q3_; obtain ⟨ad227, e227, hx227_0, hx227_1, hx227_2, hx227_3, hx227_4, hx227_5, hx227_6, hx227_7⟩ := at_T105 HR0.out t225 p227 q227; obtain rfl : ad226 = ad227 := (by injection e227); replace hx227_0 := up_ HB.out hx227_0; replace hx227_1 := up_ HB.out hx227_1; replace hx227_2 := up_ HB.out hx227_2; replace hx227_3 := up_ HB.out hx227_3; replace hx227_4 := up_ HB.out hx227_4; replace hx227_5 := up_ HB.out hx227_5; replace hx227_6 := up_ HB.out hx227_6; replace hx227_7 := up_ HB.out hx227_7; replace p227 := eq_true p227; replace q227 := eq_true q227)))
 go_ret
 exact ⟨by first | rfl | (simp [errW_none, errW_some] <;> rfl) | (simp only [← hji11]; first | rfl | (simp [errW_none, errW_some] <;> rfl)) | (simp [*, errW_none, errW_some] <;> rfl), s9q10⟩
/-! ### cost_equal: function 57 -/
def cost_equal.f (k : Nat) (a0_0 : Int) (a0_1 : Int) (l0_2 : List (S100)) (l0_3 : List (S105)) (a1_0 : Int) (a1_1 : Int) (a1_2 : ByteArray) : Option (Int) := (cost_often.f k l0_2 a1_0 a1_1 a1_2).bind fun bt230 => (if bt230.2 = true then (some bt230.1) else ((cost_inBuckets.f k l0_3 a1_0 a1_1 a1_2).bind fun t232 => (some t232)))
theorem cost_equal.mono : ∀ a0 a1 a2 a3 a4 a5 a6 k, LeO (cost_equal.f k a0 a1 a2 a3 a4 a5 a6) (cost_equal.f (k + 1) a0 a1 a2 a3 a4 a5 a6) := by
 intro a0 a1 a2 a3 a4 a5 a6 k
 unfold cost_equal.f
 repeat' first
  | (with_reducible exact cost_inBuckets.mono _ _ _ _ _)
  | (with_reducible exact cost_often.mono _ _ _ _ _)
  | (with_reducible exact LeO.refl _)
  | (with_reducible exact LeO.none _)
  | (with_reducible refine LeO.ite ?_ ?_)
  | (with_reducible refine LeO.bind ?_ (fun _ => ?_))
  | exact cost_inBuckets.mono _ _ _ _ _
  | exact cost_often.mono _ _ _ _ _
  | exact LeO.none _
  | refine LeO.ite ?_ ?_
  | refine LeO.bind ?_ (fun _ => ?_)
set_option maxHeartbeats 8000000 in
set_option maxRecDepth 100000 in
theorem cost_equal.calls (k : Nat) (a0_0 : Int) (a0_1 : Int) (A0_2 : Option Addr) (c0_2 : Nat) (l0_2 : List (S100)) (A0_3 : Option Addr) (c0_3 : Nat) (l0_3 : List (S105)) (a1_0 : Int) (a1_1 : Int) (a1_2 : ByteArray) (r : Int) (w : World) (hr0_2 : Kd.C k100 w A0_2 l0_2.length l0_2) (hc0_2 : l0_2.length ≤ c0_2) (hr0_3 : Kd.C k105 w A0_3 l0_3.length l0_3) (hc0_3 : l0_3.length ≤ c0_3) (h : cost_equal.f k a0_0 a0_1 l0_2 l0_3 a1_0 a1_1 a1_2 = some r) :
    Calls Tryd.prog 57 #[.agg #[.int .i64 a0_0, .int .i64 a0_1, .slice A0_2 l0_2.length c0_2, .slice A0_3 l0_3.length c0_3], .agg #[.int .i64 a1_0, .int .i64 a1_1, .string a1_2]] w fun e w' => e = .returned (.int .i64 r) ∧ Below w.heap.size w w' := by
 have hu44 := Tryd.underlying44
 have hu48 := Tryd.underlying48
 have HR0_2 := aM hr0_2
 have HC0_2 := aM hc0_2
 clear hr0_2 hc0_2
 have HR0_3 := aM hr0_3
 have HC0_3 := aM hc0_3
 clear hr0_3 hc0_3
 have HB := aM (Below.refl w.heap.size w)
 have H : ((cost_often.f k l0_2 a1_0 a1_1 a1_2).bind fun bt230 => (if bt230.2 = true then (some bt230.1) else ((cost_inBuckets.f k l0_3 a1_0 a1_1 a1_2).bind fun t232 => (some t232)))) = some r := h
 clear h
 replace H := Option.bind_eq_some_iff.mp H
 obtain ⟨⟨t230, t231⟩, A30, H⟩ := H
 replace H : (if t231 = true then (some t230) else ((cost_inBuckets.f k l0_3 a1_0 a1_1 a1_2).bind fun t232 => (some t232))) = some r := H
 have A3 := aM A30
 clear A30
 by_cases c4 : t231 = true
 · subst c4
   have H1 : (some t230) = some r := by rw [if_pos rfl] at H; exact H
   clear H
   have H := H1
   clear H1
   obtain rfl := Option.some.inj H
   go_enter Tryd.func57, Tryd.ntmps57
   go_wp2_with (first | ((with_reducible refine gate_dst (N := 2) rfl ?_); refine box_event ?hg (N := 2) ?hd (cs := #[.int .i64 a0_0, .int .i64 a0_1, .slice A0_2 l0_2.length c0_2, .slice A0_3 l0_3.length c0_3]) (t := 44) ?hr ?_; (case hd => rfl); (case hg => rfl); (case hr => first | (go_simp; done) | (go_simp; rfl)); intro gb228 hg w5 hbox hb; have BK228 := aM hbox; have GW228 := aM (s9q16 : w.heap.size ≤ gb228); have GE228 := GW228; replace HB := aM (below_step q1_ hb); clear hb hbox hg) | ((with_reducible refine gate_dst (N := 3) rfl ?_); refine box_event ?hg (N := 3) ?hd (cs := #[.int .i64 a1_0, .int .i64 a1_1, .string a1_2]) (t := 48) ?hr ?_; (case hd => rfl); (case hg => rfl); (case hr => first | (go_simp; done) | (go_simp; rfl)); intro gb229 hg w6 hbox hb; have BK229 := aM hbox; have GW229 := aM (s9q17 : w.heap.size ≤ gb229); have GE229 := GW229; have NB228_229 := aM (s9q20 : gb228 ≠ gb229); have NB229_228 := aM (s9q19 : gb229 ≠ gb228); replace BK228 := aM (bbR BK228.out hb); replace HB := aM (below_step s9q11 hb); clear hb hbox hg; have hnb7 := NB228_229.out; have hnc7 := NB229_228.out; obtain ⟨hcz8_0, hcz8_1, hcz8_2, hcz8_3, hfz8_0, hfz8_1, hfz8_2, hfz8_3⟩ := cells4 BK228.out; obtain ⟨hcz9_0, hcz9_1, hcz9_2, hfz9_0, hfz9_1, hfz9_2⟩ := cells3 BK229.out) | ((with_reducible refine gate_callee (f := 58) rfl ?_); refine goesL_ (some 11) rfl rfl Tryd.func58 (by kernel_rfl) rfl #[.slice A0_2 l0_2.length c0_2, .agg #[.int .i64 a1_0, .int .i64 a1_1, .string a1_2]] rfl q2_ ?_; (with_reducible refine (cost_often.calls k _ _ l0_2 a1_0 a1_1 a1_2 t230 true _ ?side1 ?side2 A3.out).mono ?_); (case side1 => repeat (first | exact (Kd.C_below HR0_2.out HB.out) | (with_reducible refine Kd.C_alloc ?_ _) | (with_reducible refine Kd.C_drewN ?_ _) | (with_reducible refine Kd.C_drew ?_))); (case side2 => exact HC0_2.out); rintro e w10 ⟨rfl, hb⟩; refine ⟨_, rfl, ?_⟩; replace BK228 := aM (bbR BK228.out hb); replace BK229 := aM (bbR BK229.out hb); replace HB := aM (below_step s9q13 hb); (try clear hb); (try clear hb2); (try clear hk); (try clear hi)))
   go_ret
   exact ⟨eqR, s9q13⟩
 replace c4 := Bool.eq_false_iff.mpr c4
 subst c4
 have H1 : ((cost_inBuckets.f k l0_3 a1_0 a1_1 a1_2).bind fun t232 => (some t232)) = some r := q6_
 clear H
 have H := H1
 clear H1
 replace H := Option.bind_eq_some_iff.mp H
 obtain ⟨t232, A110, H⟩ := H
 replace H : (some t232) = some r := H
 have A11 := aM A110
 clear A110
 obtain rfl := Option.some.inj H
 go_enter Tryd.func57, Tryd.ntmps57
 go_wp2_with (first | ((with_reducible refine gate_dst (N := 2) rfl ?_); refine box_event ?hg (N := 2) ?hd (cs := #[.int .i64 a0_0, .int .i64 a0_1, .slice A0_2 l0_2.length c0_2, .slice A0_3 l0_3.length c0_3]) (t := 44) ?hr ?_; (case hd => rfl); (case hg => rfl); (case hr => first | (go_simp; done) | (go_simp; rfl)); intro gb228 hg w12 hbox hb; have BK228 := aM hbox; have GW228 := aM (s9q16 : w.heap.size ≤ gb228); have GE228 := GW228; replace HB := aM (below_step q1_ hb); clear hb hbox hg) | ((with_reducible refine gate_dst (N := 3) rfl ?_); refine box_event ?hg (N := 3) ?hd (cs := #[.int .i64 a1_0, .int .i64 a1_1, .string a1_2]) (t := 48) ?hr ?_; (case hd => rfl); (case hg => rfl); (case hr => first | (go_simp; done) | (go_simp; rfl)); intro gb229 hg w13 hbox hb; have BK229 := aM hbox; have GW229 := aM (s9q17 : w.heap.size ≤ gb229); have GE229 := GW229; have NB228_229 := aM (s9q20 : gb228 ≠ gb229); have NB229_228 := aM (s9q19 : gb229 ≠ gb228); replace BK228 := aM (bbR BK228.out hb); replace HB := aM (below_step s9q11 hb); clear hb hbox hg; have hnb14 := NB228_229.out; have hnc14 := NB229_228.out; obtain ⟨hcz15_0, hcz15_1, hcz15_2, hcz15_3, hfz15_0, hfz15_1, hfz15_2, hfz15_3⟩ := cells4 BK228.out; obtain ⟨hcz16_0, hcz16_1, hcz16_2, hfz16_0, hfz16_1, hfz16_2⟩ := cells3 BK229.out) | ((with_reducible refine gate_callee (f := 58) rfl ?_); refine goesL_ (some 11) rfl rfl Tryd.func58 (by kernel_rfl) rfl #[.slice A0_2 l0_2.length c0_2, .agg #[.int .i64 a1_0, .int .i64 a1_1, .string a1_2]] rfl q2_ ?_; (with_reducible refine (cost_often.calls k _ _ l0_2 a1_0 a1_1 a1_2 t230 false _ ?side1 ?side2 A3.out).mono ?_); (case side1 => repeat (first | exact (Kd.C_below HR0_2.out HB.out) | (with_reducible refine Kd.C_alloc ?_ _) | (with_reducible refine Kd.C_drewN ?_ _) | (with_reducible refine Kd.C_drew ?_))); (case side2 => exact HC0_2.out); rintro e w17 ⟨rfl, hb⟩; refine ⟨_, rfl, ?_⟩; replace BK228 := aM (bbR BK228.out hb); replace BK229 := aM (bbR BK229.out hb); replace HB := aM (below_step s9q13 hb); (try clear hb); (try clear hb2); (try clear hk); (try clear hi); obtain ⟨hcz18_0, hcz18_1, hcz18_2, hcz18_3, hfz18_0, hfz18_1, hfz18_2, hfz18_3⟩ := cells4 BK228.out; obtain ⟨hcz19_0, hcz19_1, hcz19_2, hfz19_0, hfz19_1, hfz19_2⟩ := cells3 BK229.out) | ((with_reducible refine gate_callee (f := 59) rfl ?_); refine goesL_ (some 19) rfl rfl Tryd.func59 (by kernel_rfl) rfl #[.slice A0_3 l0_3.length c0_3, .agg #[.int .i64 a1_0, .int .i64 a1_1, .string a1_2]] rfl q2_ ?_; (with_reducible refine (cost_inBuckets.calls k _ _ l0_3 a1_0 a1_1 a1_2 t232 _ ?side1 ?side2 A11.out).mono ?_); (case side1 => repeat (first | exact (Kd.C_below HR0_3.out HB.out) | (with_reducible refine Kd.C_alloc ?_ _) | (with_reducible refine Kd.C_drewN ?_ _) | (with_reducible refine Kd.C_drew ?_))); (case side2 => exact HC0_3.out); rintro e w20 ⟨rfl, hb⟩; refine ⟨_, rfl, ?_⟩; replace BK228 := aM (bbR BK228.out hb); replace BK229 := aM (bbR BK229.out hb); replace HB := aM (below_step s9q13 hb); (try clear hb); (try clear hb2); (try clear hk); (try clear hi)))
 go_ret
 exact ⟨eqR, s9q13⟩
/-! ### cost_meet: function 60 -/
def cost_meet.f (a0_0 : Int) (a0_1 : Int) (a0_2 : ByteArray) (a0_3 : Int) (a0_4 : Int) (a0_5 : ByteArray) (a0_6 : Int) (a0_7 : Int) (a1_0 : Int) (a1_1 : Int) (a1_2 : ByteArray) (a1_3 : Int) (a1_4 : Int) (a1_5 : ByteArray) (a1_6 : Int) (a1_7 : Int) : Option (Bool) := (kit_Compare.f a0_0 a0_1 a0_2 a1_3 a1_4 a1_5).bind fun t235 => (if t235 ≤ 0 then ((kit_Compare.f a1_0 a1_1 a1_2 a0_3 a0_4 a0_5).bind fun t236 => (some (decide (t236 ≤ 0)))) else (some false))
set_option maxHeartbeats 8000000 in
set_option maxRecDepth 100000 in
theorem cost_meet.calls (a0_0 : Int) (a0_1 : Int) (a0_2 : ByteArray) (a0_3 : Int) (a0_4 : Int) (a0_5 : ByteArray) (a0_6 : Int) (a0_7 : Int) (a1_0 : Int) (a1_1 : Int) (a1_2 : ByteArray) (a1_3 : Int) (a1_4 : Int) (a1_5 : ByteArray) (a1_6 : Int) (a1_7 : Int) (r : Bool) (w : World) (h : cost_meet.f a0_0 a0_1 a0_2 a0_3 a0_4 a0_5 a0_6 a0_7 a1_0 a1_1 a1_2 a1_3 a1_4 a1_5 a1_6 a1_7 = some r) :
    Calls Tryd.prog 60 #[.agg #[.int .i64 a0_0, .int .i64 a0_1, .string a0_2, .int .i64 a0_3, .int .i64 a0_4, .string a0_5, .int .i64 a0_6, .int .i64 a0_7], .agg #[.int .i64 a1_0, .int .i64 a1_1, .string a1_2, .int .i64 a1_3, .int .i64 a1_4, .string a1_5, .int .i64 a1_6, .int .i64 a1_7]] w fun e w' => e = .returned (.bool r) ∧ Below w.heap.size w w' := by
 have hu105 := Tryd.underlying105
 have hu48 := Tryd.underlying48
 have HB := aM (Below.refl w.heap.size w)
 have H : ((kit_Compare.f a0_0 a0_1 a0_2 a1_3 a1_4 a1_5).bind fun t235 => (if t235 ≤ 0 then ((kit_Compare.f a1_0 a1_1 a1_2 a0_3 a0_4 a0_5).bind fun t236 => (some (decide (t236 ≤ 0)))) else (some false))) = some r := h
 clear h
 replace H := Option.bind_eq_some_iff.mp H
 obtain ⟨t235, A30, H⟩ := H
 replace H : (if t235 ≤ 0 then ((kit_Compare.f a1_0 a1_1 a1_2 a0_3 a0_4 a0_5).bind fun t236 => (some (decide (t236 ≤ 0)))) else (some false)) = some r := H
 have A3 := aM A30
 clear A30
 by_cases c4 : t235 ≤ 0
 case neg =>
  rw [if_neg c4] at H
  have c4b0 : decide (t235 ≤ 0) = false := decide_eq_false c4
  clear c4
  obtain rfl := Option.some.inj H
  go_enter Tryd.func60, Tryd.ntmps60
  go_wp2_with (first | ((with_reducible refine gate_dst (N := 2) rfl ?_); refine box_event ?hg (N := 2) ?hd (cs := #[.int .i64 a0_0, .int .i64 a0_1, .string a0_2, .int .i64 a0_3, .int .i64 a0_4, .string a0_5, .int .i64 a0_6, .int .i64 a0_7]) (t := 105) ?hr ?_; (case hd => rfl); (case hg => rfl); (case hr => first | (go_simp; done) | (go_simp; rfl)); intro gb233 hg w15 hbox hb; have BK233 := aM hbox; have GW233 := aM (s9q16 : w.heap.size ≤ gb233); have GE233 := GW233; replace HB := aM (below_step q1_ hb); clear hb hbox hg) | ((with_reducible refine gate_dst (N := 3) rfl ?_); refine box_event ?hg (N := 3) ?hd (cs := #[.int .i64 a1_0, .int .i64 a1_1, .string a1_2, .int .i64 a1_3, .int .i64 a1_4, .string a1_5, .int .i64 a1_6, .int .i64 a1_7]) (t := 105) ?hr ?_; (case hd => rfl); (case hg => rfl); (case hr => first | (go_simp; done) | (go_simp; rfl)); intro gb234 hg w16 hbox hb; have BK234 := aM hbox; have GW234 := aM (s9q18 : w.heap.size ≤ gb234); have GE234 := GW234; have NB233_234 := aM (s9q22 : gb233 ≠ gb234); have NB234_233 := aM (s9q21 : gb234 ≠ gb233); replace BK233 := aM (bbR BK233.out hb); replace HB := aM (below_step s9q12 hb); clear hb hbox hg; have hnb17 := NB233_234.out; have hnc17 := NB234_233.out; obtain ⟨hcz18_0, hcz18_1, hcz18_2, hcz18_3, hcz18_4, hcz18_5, hcz18_6, hcz18_7, hfz18_0, hfz18_1, hfz18_2, hfz18_3, hfz18_4, hfz18_5, hfz18_6, hfz18_7⟩ := cells8 BK233.out; obtain ⟨hcz19_0, hcz19_1, hcz19_2, hcz19_3, hcz19_4, hcz19_5, hcz19_6, hcz19_7, hfz19_0, hfz19_1, hfz19_2, hfz19_3, hfz19_4, hfz19_5, hfz19_6, hfz19_7⟩ := cells8 BK234.out) | ((with_reducible refine gate_callee (f := 97) rfl ?_); refine goesL_ (some 9) rfl rfl Tryd.func97 (by kernel_rfl) rfl #[.agg #[.int .i64 a0_0, .int .i64 a0_1, .string a0_2], .agg #[.int .i64 a1_3, .int .i64 a1_4, .string a1_5]] rfl q2_ ?_; (with_reducible refine (kit_Compare.calls a0_0 a0_1 a0_2 a1_3 a1_4 a1_5 t235 _ A3.out).mono ?_); rintro e w20 ⟨rfl, hb⟩; refine ⟨_, rfl, ?_⟩; replace BK233 := aM (bbR BK233.out hb); replace BK234 := aM (bbR BK234.out hb); replace HB := aM (below_step s9q14 hb); (try clear hb); (try clear hb2); (try clear hk); (try clear hi)))
  go_ret
  exact ⟨eqR, s9q14⟩
 rw [if_pos c4] at H
 have c4b0 : decide (t235 ≤ 0) = true := decide_eq_true c4
 clear c4
 replace H := Option.bind_eq_some_iff.mp H
 obtain ⟨t236, A50, H⟩ := H
 replace H : (some (decide (t236 ≤ 0))) = some r := H
 have A5 := aM A50
 clear A50
 obtain rfl := Option.some.inj H
 go_enter Tryd.func60, Tryd.ntmps60
 go_wp2_with (first | ((with_reducible refine gate_dst (N := 2) rfl ?_); refine box_event ?hg (N := 2) ?hd (cs := #[.int .i64 a0_0, .int .i64 a0_1, .string a0_2, .int .i64 a0_3, .int .i64 a0_4, .string a0_5, .int .i64 a0_6, .int .i64 a0_7]) (t := 105) ?hr ?_; (case hd => rfl); (case hg => rfl); (case hr => first | (go_simp; done) | (go_simp; rfl)); intro gb233 hg w6 hbox hb; have BK233 := aM hbox; have GW233 := aM (s9q16 : w.heap.size ≤ gb233); have GE233 := GW233; replace HB := aM (below_step q1_ hb); clear hb hbox hg) | ((with_reducible refine gate_dst (N := 3) rfl ?_); refine box_event ?hg (N := 3) ?hd (cs := #[.int .i64 a1_0, .int .i64 a1_1, .string a1_2, .int .i64 a1_3, .int .i64 a1_4, .string a1_5, .int .i64 a1_6, .int .i64 a1_7]) (t := 105) ?hr ?_; (case hd => rfl); (case hg => rfl); (case hr => first | (go_simp; done) | (go_simp; rfl)); intro gb234 hg w7 hbox hb; have BK234 := aM hbox; have GW234 := aM (s9q18 : w.heap.size ≤ gb234); have GE234 := GW234; have NB233_234 := aM (s9q22 : gb233 ≠ gb234); have NB234_233 := aM (s9q21 : gb234 ≠ gb233); replace BK233 := aM (bbR BK233.out hb); replace HB := aM (below_step s9q12 hb); clear hb hbox hg; have hnb8 := NB233_234.out; have hnc8 := NB234_233.out; obtain ⟨hcz9_0, hcz9_1, hcz9_2, hcz9_3, hcz9_4, hcz9_5, hcz9_6, hcz9_7, hfz9_0, hfz9_1, hfz9_2, hfz9_3, hfz9_4, hfz9_5, hfz9_6, hfz9_7⟩ := cells8 BK233.out; obtain ⟨hcz10_0, hcz10_1, hcz10_2, hcz10_3, hcz10_4, hcz10_5, hcz10_6, hcz10_7, hfz10_0, hfz10_1, hfz10_2, hfz10_3, hfz10_4, hfz10_5, hfz10_6, hfz10_7⟩ := cells8 BK234.out) | ((with_reducible refine gate_callee (f := 97) rfl ?_); refine goesL_ (some 9) rfl rfl Tryd.func97 (by kernel_rfl) rfl #[.agg #[.int .i64 a0_0, .int .i64 a0_1, .string a0_2], .agg #[.int .i64 a1_3, .int .i64 a1_4, .string a1_5]] rfl q2_ ?_; (with_reducible refine (kit_Compare.calls a0_0 a0_1 a0_2 a1_3 a1_4 a1_5 t235 _ A3.out).mono ?_); rintro e w11 ⟨rfl, hb⟩; refine ⟨_, rfl, ?_⟩; replace BK233 := aM (bbR BK233.out hb); replace BK234 := aM (bbR BK234.out hb); replace HB := aM (below_step s9q14 hb); (try clear hb); (try clear hb2); (try clear hk); (try clear hi); obtain ⟨hcz12_0, hcz12_1, hcz12_2, hcz12_3, hcz12_4, hcz12_5, hcz12_6, hcz12_7, hfz12_0, hfz12_1, hfz12_2, hfz12_3, hfz12_4, hfz12_5, hfz12_6, hfz12_7⟩ := cells8 BK234.out; obtain ⟨hcz13_0, hcz13_1, hcz13_2, hcz13_3, hcz13_4, hcz13_5, hcz13_6, hcz13_7, hfz13_0, hfz13_1, hfz13_2, hfz13_3, hfz13_4, hfz13_5, hfz13_6, hfz13_7⟩ := cells8 BK233.out) | (go_at_call 97; (with_reducible refine (kit_Compare.calls a1_0 a1_1 a1_2 a0_3 a0_4 a0_5 t236 _ A5.out).mono ?_); rintro e w14 ⟨rfl, hb⟩; replace BK233 := aM (bbR BK233.out hb); replace BK234 := aM (bbR BK234.out hb); replace HB := aM (below_step s9q14 hb); (try clear hb); (try clear hb2); (try clear hk); (try clear hi)))
 go_ret
 exact ⟨eqR, s9q14⟩
end Go.Proofs.YtgcijejmmhjibaaDoor.J
