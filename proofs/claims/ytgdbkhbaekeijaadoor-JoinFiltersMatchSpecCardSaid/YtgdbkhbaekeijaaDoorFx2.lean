-- Printed by a program of this session (a patched print).
import Derived.Test.YtgdbkhbaekeijaaDoorFx0
import Derived.Test.YtgdbkhbaekeijaaDoorFx1
namespace Go.Proofs.YtgdbkhbaekeijaaDoor.F
open Go.RowKit Go.Proofs.YtgdbkhbaekeijaaDoorW.PrintWords Go.Proofs.YtgdbkhbaekeijaaDoorW.PrintLast Go.Proofs.YtgdbkhbaekeijaaDoorW.PrintMore
attribute [local go_sem] max2_int min2_int max_two min_two max_three min_three max_four min_four   -- for this text's walks alone
set_option linter.unusedVariables false
set_option linter.unusedSimpArgs false

theorem s2qm0 {p : Prop} (h : p := by repeat' first | (with_reducible exact ih0 _ _ _ _ _) | (with_reducible exact ih1 _ _ _ _ _) | (with_reducible exact LeO.refl _) | (with_reducible exact LeO.none _) | (with_reducible refine LeO.ite ?_ ?_) | (with_reducible refine LeO.bind ?_ (fun _ => ?_)) | exact ih0 _ _ _ _ _ | exact ih1 _ _ _ _ _ | exact LeO.none _ | refine LeO.ite ?_ ?_ | refine LeO.bind ?_ (fun _ => ?_)) : p := h
theorem s2q0 {p : Prop} (h : p := by first | rfl | (simp; done) | (simp [*]; done)) : p := h
theorem s2q1 {p : Prop} (h : p := by first | (with_reducible assumption) | assumption) : p := h
theorem s2q2 {p : Prop} (h : p := by repeat (first | (with_reducible first | exact HB.out | apply below_alloc | apply pw_below_drewN | apply below_drew1) | exact HB.out)) : p := h
theorem s2q3 {p : Prop} (h : p := by (try simp only [List.map_toArray, List.map_cons, List.map_nil]); first | done | rfl | (simp only [List.length_drop, List.length_take]; rfl)) : p := h
theorem s2q4 {p : Prop} (h : p := by rw [hg]; exact (below_size s2q2)) : p := h
theorem s2q5 {p : Prop} (h : p := by rw [if_neg (show ¬ (false = true) by decide)] at H; exact H) : p := h
/-! ### value_CheckValue: function 29 -/
mutual
def value_CheckValue.j0 : Nat → Int → Bool → Int → Int → ByteArray → Option (Int)
  | 0, _, _, _, _, _ => none
  | k + 1, x5, x16, x114000, x114001, x114002 => if x16 = true then (if x114002.toList = ([] : List UInt8) then (if x114000 = 1 then ((kit_Range.f x114001 0 1).bind fun t114 => (some t114)) else ((kit_Range.f x114001 (-1000000000000000) 1000000000000000).bind fun t115 => (some t115))) else (some 3)) else (if x5 = 3 then (if x114001 = 0 then (if (x114002.size : Int) > 200 then (some 2) else (value_CheckValue.l0 k (x114002.size : Int) 0 x114000 x114001 x114002)) else (some 3)) else (some 4))
def value_CheckValue.l0 : Nat → Int → Int → Int → Int → ByteArray → Option (Int)
  | 0, _, _, _, _, _ => none
  | k + 1, x42, x43, x114000, x114001, x114002 => if x43 < x42 then (if 0 ≤ x43 then (if x43 < (x114002.size : Int) then ((kit_In.f (wrap64 (bt x114002 x43)) 32 126).bind fun t116 => (if t116 = true then (value_CheckValue.l0 k x42 (wrap64 (x43 + 1)) x114000 x114001 x114002) else (some 3))) else (none)) else (none)) else (some 0)
end
def value_CheckValue.f (k : Nat) (a0_0 : Int) (a0_1 : Int) (a0_2 : ByteArray) : Option (Int) := if a0_0 = 0 then (if a0_1 = 0 then (if a0_2.toList = ([] : List UInt8) then (some 0) else (some 3)) else (some 3)) else (if a0_0 = 1 then (value_CheckValue.j0 k a0_0 (a0_0 == 1) a0_0 a0_1 a0_2) else (value_CheckValue.j0 k a0_0 (a0_0 == 2) a0_0 a0_1 a0_2))
theorem value_CheckValue.mono_l : ∀ k, (∀ y0 y1 y2 y3 y4, LeO (value_CheckValue.j0 k y0 y1 y2 y3 y4) (value_CheckValue.j0 (k + 1) y0 y1 y2 y3 y4)) ∧ (∀ y0 y1 y2 y3 y4, LeO (value_CheckValue.l0 k y0 y1 y2 y3 y4) (value_CheckValue.l0 (k + 1) y0 y1 y2 y3 y4))
  | 0 => ⟨fun _ _ _ _ _ r h => by simp [value_CheckValue.j0] at h, fun _ _ _ _ _ r h => by simp [value_CheckValue.l0] at h⟩
  | k + 1 => by
    obtain ⟨ih0, ih1⟩ := value_CheckValue.mono_l k
    refine ⟨?_, ?_⟩
    · intro y0 y1 y2 y3 y4
      unfold value_CheckValue.j0
      exact s2qm0
    · intro y0 y1 y2 y3 y4
      unfold value_CheckValue.l0
      exact s2qm0
theorem value_CheckValue.mono : ∀ a0 a1 a2 k, LeO (value_CheckValue.f k a0 a1 a2) (value_CheckValue.f (k + 1) a0 a1 a2) := by
 intro a0 a1 a2 k
 obtain ⟨ih0, ih1⟩ := value_CheckValue.mono_l k
 unfold value_CheckValue.f
 repeat' first
  | (with_reducible exact ih0 _ _ _ _ _)
  | (with_reducible exact ih1 _ _ _ _ _)
  | (with_reducible exact LeO.refl _)
  | (with_reducible exact LeO.none _)
  | (with_reducible refine LeO.ite ?_ ?_)
  | (with_reducible refine LeO.bind ?_ (fun _ => ?_))
  | exact ih0 _ _ _ _ _
  | exact ih1 _ _ _ _ _
  | exact LeO.none _
  | refine LeO.ite ?_ ?_
  | refine LeO.bind ?_ (fun _ => ?_)
set_option maxHeartbeats 8000000 in
set_option maxRecDepth 100000 in
theorem value_CheckValue.calls (k : Nat) (a0_0 : Int) (a0_1 : Int) (a0_2 : ByteArray) (r : Int) (w : World) (h : value_CheckValue.f k a0_0 a0_1 a0_2 = some r) :
    Calls Tryd.prog 29 #[.agg #[.int .i64 a0_0, .int .i64 a0_1, .string a0_2]] w fun e w' => e = .returned (.int .i64 r) ∧ Below w.heap.size w w' := by
 have hu54 := Tryd.underlying54
 have HB := Aside0.mk (Below.refl w.heap.size w)
 have H : (if a0_0 = 0 then (if a0_1 = 0 then (if a0_2.toList = ([] : List UInt8) then (some 0) else (some 3)) else (some 3)) else (if a0_0 = 1 then (value_CheckValue.j0 k a0_0 (a0_0 == 1) a0_0 a0_1 a0_2) else (value_CheckValue.j0 k a0_0 (a0_0 == 2) a0_0 a0_1 a0_2))) = some r := h
 clear h
 by_cases c2 : a0_0 = 0
 · rw [if_pos c2] at H
   have c2b0 : (a0_0 == 0) = true := beq_iff_eq.mpr c2
   have c2b1 : (a0_0 != 0) = false := bne_eq_false_iff_eq.mpr c2
   clear c2
   by_cases c3 : a0_1 = 0
   case neg =>
    rw [if_neg c3] at H
    have c3b0 : (a0_1 == 0) = false := beq_eq_false_iff_ne.mpr c3
    have c3b1 : (a0_1 != 0) = true := bne_iff_ne.mpr c3
    obtain rfl := Option.some.inj H
    go_enter Tryd.func29, Tryd.ntmps29
    go_wp2_with (first | ((with_reducible refine gate_dst (N := 1) rfl ?_); refine box_event ?hg (N := 1) ?hd (cs := #[.int .i64 a0_0, .int .i64 a0_1, .string a0_2]) (t := 54) ?hr ?_; (case hd => rfl); (case hg => rfl); (case hr => first | (go_simp; done) | (go_simp; rfl)); intro gb113 hg w9 hbox hb; have n0_ := Aside0.mk (below_step s2q2 hb); have n1_ := Aside0.mk (hbox); have n2_ := Aside0.mk ((s2q4 : w.heap.size ≤ gb113)); have n3_ := Aside0.mk ((s2q4 : w.heap.size ≤ gb113)); clear HB; have HB := n0_; have BK113 := n1_; have GW113 := n2_; have GE113 := n3_; clear n0_ n1_ n2_ n3_; clear hb hbox hg; have hcz10_0 : w9.cell? ⟨gb113, 0, none⟩ = some (.int .i64 a0_0) := (blk_cell BK113.out 0).trans rfl; have hcz10_1 : w9.cell? ⟨gb113, 1, none⟩ = some (.int .i64 a0_1) := (blk_cell BK113.out 1).trans rfl; have hcz10_2 : w9.cell? ⟨gb113, 2, none⟩ = some (.string a0_2) := (blk_cell BK113.out 2).trans rfl; have hfz10_0 := blk_frozen BK113.out 0; have hfz10_1 := blk_frozen BK113.out 1; have hfz10_2 := blk_frozen BK113.out 2))
    go_ret
    exact ⟨by first | rfl | (simp [errW_none, errW_some] <;> rfl) | (simp [*, errW_none, errW_some] <;> rfl), by repeat (first | (with_reducible first | exact HB.out | apply below_alloc | apply pw_below_drewN | apply below_drew1 | refine below_set ?_ GE113.out) | exact HB.out)⟩
   rw [if_pos c3] at H
   have c3b0 : (a0_1 == 0) = true := beq_iff_eq.mpr c3
   have c3b1 : (a0_1 != 0) = false := bne_eq_false_iff_eq.mpr c3
   clear c3
   by_cases c4 : a0_2.toList = ([] : List UInt8)
   case neg =>
    rw [if_neg c4] at H
    have c4b0 : (a0_2.toList == ([] : List UInt8)) = false := beq_eq_false_iff_ne.mpr c4
    have c4b1 : (a0_2.toList != ([] : List UInt8)) = true := bne_iff_ne.mpr c4
    obtain rfl := Option.some.inj H
    go_enter Tryd.func29, Tryd.ntmps29
    go_wp2_with (first | ((with_reducible refine gate_dst (N := 1) rfl ?_); refine box_event ?hg (N := 1) ?hd (cs := #[.int .i64 a0_0, .int .i64 a0_1, .string a0_2]) (t := 54) ?hr ?_; (case hd => rfl); (case hg => rfl); (case hr => first | (go_simp; done) | (go_simp; rfl)); intro gb113 hg w7 hbox hb; have n0_ := Aside0.mk (below_step s2q2 hb); have n1_ := Aside0.mk (hbox); have n2_ := Aside0.mk ((s2q4 : w.heap.size ≤ gb113)); have n3_ := Aside0.mk ((s2q4 : w.heap.size ≤ gb113)); clear HB; have HB := n0_; have BK113 := n1_; have GW113 := n2_; have GE113 := n3_; clear n0_ n1_ n2_ n3_; clear hb hbox hg; have hcz8_0 : w7.cell? ⟨gb113, 0, none⟩ = some (.int .i64 a0_0) := (blk_cell BK113.out 0).trans rfl; have hcz8_1 : w7.cell? ⟨gb113, 1, none⟩ = some (.int .i64 a0_1) := (blk_cell BK113.out 1).trans rfl; have hcz8_2 : w7.cell? ⟨gb113, 2, none⟩ = some (.string a0_2) := (blk_cell BK113.out 2).trans rfl; have hfz8_0 := blk_frozen BK113.out 0; have hfz8_1 := blk_frozen BK113.out 1; have hfz8_2 := blk_frozen BK113.out 2))
    go_ret
    exact ⟨by first | rfl | (simp [errW_none, errW_some] <;> rfl) | (simp [*, errW_none, errW_some] <;> rfl), by repeat (first | (with_reducible first | exact HB.out | apply below_alloc | apply pw_below_drewN | apply below_drew1 | refine below_set ?_ GE113.out) | exact HB.out)⟩
   rw [if_pos c4] at H
   have c4b0 : (a0_2.toList == ([] : List UInt8)) = true := beq_iff_eq.mpr c4
   have c4b1 : (a0_2.toList != ([] : List UInt8)) = false := bne_eq_false_iff_eq.mpr c4
   clear c4
   obtain rfl := Option.some.inj H
   go_enter Tryd.func29, Tryd.ntmps29
   go_wp2_with (first | ((with_reducible refine gate_dst (N := 1) rfl ?_); refine box_event ?hg (N := 1) ?hd (cs := #[.int .i64 a0_0, .int .i64 a0_1, .string a0_2]) (t := 54) ?hr ?_; (case hd => rfl); (case hg => rfl); (case hr => first | (go_simp; done) | (go_simp; rfl)); intro gb113 hg w5 hbox hb; have n0_ := Aside0.mk (below_step s2q2 hb); have n1_ := Aside0.mk (hbox); have n2_ := Aside0.mk ((s2q4 : w.heap.size ≤ gb113)); have n3_ := Aside0.mk ((s2q4 : w.heap.size ≤ gb113)); clear HB; have HB := n0_; have BK113 := n1_; have GW113 := n2_; have GE113 := n3_; clear n0_ n1_ n2_ n3_; clear hb hbox hg; have hcz6_0 : w5.cell? ⟨gb113, 0, none⟩ = some (.int .i64 a0_0) := (blk_cell BK113.out 0).trans rfl; have hcz6_1 : w5.cell? ⟨gb113, 1, none⟩ = some (.int .i64 a0_1) := (blk_cell BK113.out 1).trans rfl; have hcz6_2 : w5.cell? ⟨gb113, 2, none⟩ = some (.string a0_2) := (blk_cell BK113.out 2).trans rfl; have hfz6_0 := blk_frozen BK113.out 0; have hfz6_1 := blk_frozen BK113.out 1; have hfz6_2 := blk_frozen BK113.out 2))
   go_ret
   exact ⟨by first | rfl | (simp [errW_none, errW_some] <;> rfl) | (simp [*, errW_none, errW_some] <;> rfl), by repeat (first | (with_reducible first | exact HB.out | apply below_alloc | apply pw_below_drewN | apply below_drew1 | refine below_set ?_ GE113.out) | exact HB.out)⟩
 rw [if_neg c2] at H
 have c2b0 : (a0_0 == 0) = false := beq_eq_false_iff_ne.mpr c2
 have c2b1 : (a0_0 != 0) = true := bne_iff_ne.mpr c2
 have HC11 := Aside0.mk H
 clear H
 go_enter Tryd.func29, Tryd.ntmps29
 go_upto_if 16 with (first | ((with_reducible refine gate_dst (N := 1) rfl ?_); refine box_event ?hg (N := 1) ?hd (cs := #[.int .i64 a0_0, .int .i64 a0_1, .string a0_2]) (t := 54) ?hr ?_; (case hd => rfl); (case hg => rfl); (case hr => first | (go_simp; done) | (go_simp; rfl)); intro gb113 hg w12 hbox hb; have n0_ := Aside0.mk (below_step s2q2 hb); have n1_ := Aside0.mk (hbox); have n2_ := Aside0.mk ((s2q4 : w.heap.size ≤ gb113)); have n3_ := Aside0.mk ((s2q4 : w.heap.size ≤ gb113)); clear HB; have HB := n0_; have BK113 := n1_; have GW113 := n2_; have GE113 := n3_; clear n0_ n1_ n2_ n3_; clear hb hbox hg; have hcz13_0 : w12.cell? ⟨gb113, 0, none⟩ = some (.int .i64 a0_0) := (blk_cell BK113.out 0).trans rfl; have hcz13_1 : w12.cell? ⟨gb113, 1, none⟩ = some (.int .i64 a0_1) := (blk_cell BK113.out 1).trans rfl; have hcz13_2 : w12.cell? ⟨gb113, 2, none⟩ = some (.string a0_2) := (blk_cell BK113.out 2).trans rfl; have hfz13_0 := blk_frozen BK113.out 0; have hfz13_1 := blk_frozen BK113.out 1; have hfz13_2 := blk_frozen BK113.out 2))
 (try simp only [Act.put, sqa, sqb, sqc])
 go_cut [16] (fun v16 wc => ∃ (kq : Nat) (x16_10 : Bool), v16 = .bool x16_10 ∧ Aside0 (value_CheckValue.j0 kq a0_0 x16_10 a0_0 a0_1 a0_2 = some r) ∧ Aside0 (kq ≤ k) ∧ Aside0 (wc.heap[gb113]? = some (.cells #[.int .i64 a0_0, .int .i64 a0_1, .string a0_2] 54 (0, 0))) ∧ Aside0 (Below w.heap.size w wc))
 case first =>
  have H := HC11.out
  clear HC11
  by_cases c14 : a0_0 = 1
  case neg =>
   rw [if_neg c14] at H
   have c14b0 : (a0_0 == 1) = false := beq_eq_false_iff_ne.mpr c14
   have c14b1 : (a0_0 != 1) = true := bne_iff_ne.mpr c14
   (first | rw [c14b0] | (simp only [i64_w, i32_w]; rw [c14b0]) | skip)
   have H' := Aside0.mk H
   clear H
   go_wp2
   go_meet
   case rel => exact ⟨_, ((a0_0 == 2)), s2q0, H', ⟨by first | omega | exact Nat.le_refl _⟩, ⟨by (with_reducible repeat (first | refine blk_drewN ?_ _ | refine blk_drew ?_ | refine blk_alloc ?_ _)); exact BK113.out⟩, ⟨by repeat (first | (with_reducible first | exact HB.out | apply below_alloc | apply pw_below_drewN | apply below_drew1 | refine below_set ?_ GE113.out) | exact HB.out)⟩⟩
  rw [if_pos c14] at H
  have c14b0 : (a0_0 == 1) = true := beq_iff_eq.mpr c14
  have c14b1 : (a0_0 != 1) = false := bne_eq_false_iff_eq.mpr c14
  clear c14
  (first | rw [c14b0] | (simp only [i64_w, i32_w]; rw [c14b0]) | skip)
  have H' := Aside0.mk H
  clear H
  go_wp2
  go_meet
  case rel => exact ⟨_, ((a0_0 == 1)), s2q0, H', ⟨by first | omega | exact Nat.le_refl _⟩, ⟨by (with_reducible repeat (first | refine blk_drewN ?_ _ | refine blk_drew ?_ | refine blk_alloc ?_ _)); exact BK113.out⟩, ⟨by repeat (first | (with_reducible first | exact HB.out | apply below_alloc | apply pw_below_drewN | apply below_drew1 | refine below_set ?_ GE113.out) | exact HB.out)⟩⟩
 clear HC11
 try clear c1
 try clear c2
 try clear c2b0
 try clear c2b1
 try clear p2
 try clear c3
 try clear c3b0
 try clear c3b1
 try clear c4
 try clear c4b0
 try clear c4b1
 try clear c14
 try clear c14b0
 try clear c14b1
 try clear hcz10_0
 try clear hcz10_1
 try clear hcz10_2
 try clear hcz13_0
 try clear hcz13_1
 try clear hcz13_2
 try clear hcz6_0
 try clear hcz6_1
 try clear hcz6_2
 try clear hcz8_0
 try clear hcz8_1
 try clear hcz8_2
 try clear hfz10_0
 try clear hfz10_1
 try clear hfz10_2
 try clear hfz13_0
 try clear hfz13_1
 try clear hfz13_2
 try clear hfz6_0
 try clear hfz6_1
 try clear hfz6_2
 try clear hfz8_0
 try clear hfz8_1
 try clear hfz8_2
 obtain ⟨kq, x16_10, rfl, HA, HJ10, BK113, HB⟩ := hcut
 cases kq with
 | zero => exact absurd HA.out (by simp [value_CheckValue.j0])
 | succ kj10 => ?_
 have H := HA.out
 clear HA
 simp only [value_CheckValue.j0] at H
 by_cases c15 : x16_10 = true
 · subst c15
   have H1 : (if a0_2.toList = ([] : List UInt8) then (if a0_0 = 1 then ((kit_Range.f a0_1 0 1).bind fun t114 => (some t114)) else ((kit_Range.f a0_1 (-1000000000000000) 1000000000000000).bind fun t115 => (some t115))) else (some 3)) = some r := by rw [if_pos rfl] at H; exact H
   clear H
   have H := H1
   clear H1
   by_cases c16 : a0_2.toList = ([] : List UInt8)
   case neg =>
    rw [if_neg c16] at H
    have c16b0 : (a0_2.toList == ([] : List UInt8)) = false := beq_eq_false_iff_ne.mpr c16
    have c16b1 : (a0_2.toList != ([] : List UInt8)) = true := bne_iff_ne.mpr c16
    obtain rfl := Option.some.inj H
    have hcz22_0 : wc.cell? ⟨gb113, 0, none⟩ = some (.int .i64 a0_0) := (blk_cell BK113.out 0).trans rfl
    have hcz22_1 : wc.cell? ⟨gb113, 1, none⟩ = some (.int .i64 a0_1) := (blk_cell BK113.out 1).trans rfl
    have hcz22_2 : wc.cell? ⟨gb113, 2, none⟩ = some (.string a0_2) := (blk_cell BK113.out 2).trans rfl
    have hfz22_0 := blk_frozen BK113.out 0
    have hfz22_1 := blk_frozen BK113.out 1
    have hfz22_2 := blk_frozen BK113.out 2
    go_wp2
    go_ret
    exact ⟨by first | rfl | (simp [errW_none, errW_some] <;> rfl) | (simp [*, errW_none, errW_some] <;> rfl), by repeat (first | (with_reducible first | exact HB.out | apply below_alloc | apply pw_below_drewN | apply below_drew1 | refine below_set ?_ GE113.out) | exact HB.out)⟩
   rw [if_pos c16] at H
   have c16b0 : (a0_2.toList == ([] : List UInt8)) = true := beq_iff_eq.mpr c16
   have c16b1 : (a0_2.toList != ([] : List UInt8)) = false := bne_eq_false_iff_eq.mpr c16
   clear c16
   by_cases c17 : a0_0 = 1
   · rw [if_pos c17] at H
     have c17b0 : (a0_0 == 1) = true := beq_iff_eq.mpr c17
     have c17b1 : (a0_0 != 1) = false := bne_eq_false_iff_eq.mpr c17
     clear c17
     replace H := Option.bind_eq_some_iff.mp H
     obtain ⟨t114, A180, H⟩ := H
     replace H : (some t114) = some r := H
     have A18 := Aside0.mk A180
     clear A180
     obtain rfl := Option.some.inj H
     have hcz19_0 : wc.cell? ⟨gb113, 0, none⟩ = some (.int .i64 a0_0) := (blk_cell BK113.out 0).trans rfl
     have hcz19_1 : wc.cell? ⟨gb113, 1, none⟩ = some (.int .i64 a0_1) := (blk_cell BK113.out 1).trans rfl
     have hcz19_2 : wc.cell? ⟨gb113, 2, none⟩ = some (.string a0_2) := (blk_cell BK113.out 2).trans rfl
     have hfz19_0 := blk_frozen BK113.out 0
     have hfz19_1 := blk_frozen BK113.out 1
     have hfz19_2 := blk_frozen BK113.out 2
     go_wp2_with (first | ((with_reducible refine gate_callee (f := 38) rfl ?_); refine goesL_ (some 27) rfl rfl Tryd.func38 (by kernel_rfl) rfl #[.int .i64 a0_1, .int .i64 0, .int .i64 1] rfl s2q3 ?_; (with_reducible refine (kit_Range.calls a0_1 0 1 t114 _ A18.out).mono ?_); rintro e w' ⟨rfl, ⟨nd, rfl⟩⟩; refine ⟨_, rfl, ?_⟩))
     go_ret
     exact ⟨by first | rfl | (simp [errW_none, errW_some] <;> rfl) | (simp [*, errW_none, errW_some] <;> rfl), by repeat (first | (with_reducible first | exact HB.out | apply below_alloc | apply pw_below_drewN | apply below_drew1 | refine below_set ?_ GE113.out) | exact HB.out)⟩
   rw [if_neg c17] at H
   have c17b0 : (a0_0 == 1) = false := beq_eq_false_iff_ne.mpr c17
   have c17b1 : (a0_0 != 1) = true := bne_iff_ne.mpr c17
   replace H := Option.bind_eq_some_iff.mp H
   obtain ⟨t115, A200, H⟩ := H
   replace H : (some t115) = some r := H
   have A20 := Aside0.mk A200
   clear A200
   obtain rfl := Option.some.inj H
   have hcz21_0 : wc.cell? ⟨gb113, 0, none⟩ = some (.int .i64 a0_0) := (blk_cell BK113.out 0).trans rfl
   have hcz21_1 : wc.cell? ⟨gb113, 1, none⟩ = some (.int .i64 a0_1) := (blk_cell BK113.out 1).trans rfl
   have hcz21_2 : wc.cell? ⟨gb113, 2, none⟩ = some (.string a0_2) := (blk_cell BK113.out 2).trans rfl
   have hfz21_0 := blk_frozen BK113.out 0
   have hfz21_1 := blk_frozen BK113.out 1
   have hfz21_2 := blk_frozen BK113.out 2
   go_wp2_with (first | ((with_reducible refine gate_callee (f := 38) rfl ?_); refine goesL_ (some 30) rfl rfl Tryd.func38 (by kernel_rfl) rfl #[.int .i64 a0_1, .int .i64 (-1000000000000000), .int .i64 1000000000000000] rfl s2q3 ?_; (with_reducible refine (kit_Range.calls a0_1 (-1000000000000000) 1000000000000000 t115 _ A20.out).mono ?_); rintro e w' ⟨rfl, ⟨nd, rfl⟩⟩; refine ⟨_, rfl, ?_⟩))
   go_ret
   exact ⟨by first | rfl | (simp [errW_none, errW_some] <;> rfl) | (simp [*, errW_none, errW_some] <;> rfl), by repeat (first | (with_reducible first | exact HB.out | apply below_alloc | apply pw_below_drewN | apply below_drew1 | refine below_set ?_ GE113.out) | exact HB.out)⟩
 replace c15 := Bool.eq_false_iff.mpr c15
 subst c15
 have H1 : (if a0_0 = 3 then (if a0_1 = 0 then (if (a0_2.size : Int) > 200 then (some 2) else (value_CheckValue.l0 kj10 (a0_2.size : Int) 0 a0_0 a0_1 a0_2)) else (some 3)) else (some 4)) = some r := s2q5
 clear H
 have H := H1
 clear H1
 by_cases c23 : a0_0 = 3
 case neg =>
  rw [if_neg c23] at H
  have c23b0 : (a0_0 == 3) = false := beq_eq_false_iff_ne.mpr c23
  have c23b1 : (a0_0 != 3) = true := bne_iff_ne.mpr c23
  obtain rfl := Option.some.inj H
  go_wp2
  go_ret
  exact ⟨by first | rfl | (simp [errW_none, errW_some] <;> rfl) | (simp [*, errW_none, errW_some] <;> rfl), by repeat (first | (with_reducible first | exact HB.out | apply below_alloc | apply pw_below_drewN | apply below_drew1 | refine below_set ?_ GE113.out) | exact HB.out)⟩
 rw [if_pos c23] at H
 have c23b0 : (a0_0 == 3) = true := beq_iff_eq.mpr c23
 have c23b1 : (a0_0 != 3) = false := bne_eq_false_iff_eq.mpr c23
 clear c23
 by_cases c24 : a0_1 = 0
 case neg =>
  rw [if_neg c24] at H
  have c24b0 : (a0_1 == 0) = false := beq_eq_false_iff_ne.mpr c24
  have c24b1 : (a0_1 != 0) = true := bne_iff_ne.mpr c24
  obtain rfl := Option.some.inj H
  have hcz36_0 : wc.cell? ⟨gb113, 0, none⟩ = some (.int .i64 a0_0) := (blk_cell BK113.out 0).trans rfl
  have hcz36_1 : wc.cell? ⟨gb113, 1, none⟩ = some (.int .i64 a0_1) := (blk_cell BK113.out 1).trans rfl
  have hcz36_2 : wc.cell? ⟨gb113, 2, none⟩ = some (.string a0_2) := (blk_cell BK113.out 2).trans rfl
  have hfz36_0 := blk_frozen BK113.out 0
  have hfz36_1 := blk_frozen BK113.out 1
  have hfz36_2 := blk_frozen BK113.out 2
  go_wp2
  go_ret
  exact ⟨by first | rfl | (simp [errW_none, errW_some] <;> rfl) | (simp [*, errW_none, errW_some] <;> rfl), by repeat (first | (with_reducible first | exact HB.out | apply below_alloc | apply pw_below_drewN | apply below_drew1 | refine below_set ?_ GE113.out) | exact HB.out)⟩
 rw [if_pos c24] at H
 have c24b0 : (a0_1 == 0) = true := beq_iff_eq.mpr c24
 have c24b1 : (a0_1 != 0) = false := bne_eq_false_iff_eq.mpr c24
 clear c24
 by_cases c25 : (a0_2.size : Int) > 200
 · rw [if_pos c25] at H
   have c25b0 : decide (200 < (a0_2.size : Int)) = true := decide_eq_true c25
   have c25b1 : decide (200 < a0_2.size) = true := decide_eq_true (by omega)
   clear c25
   obtain rfl := Option.some.inj H
   have hcz26_0 : wc.cell? ⟨gb113, 0, none⟩ = some (.int .i64 a0_0) := (blk_cell BK113.out 0).trans rfl
   have hcz26_1 : wc.cell? ⟨gb113, 1, none⟩ = some (.int .i64 a0_1) := (blk_cell BK113.out 1).trans rfl
   have hcz26_2 : wc.cell? ⟨gb113, 2, none⟩ = some (.string a0_2) := (blk_cell BK113.out 2).trans rfl
   have hfz26_0 := blk_frozen BK113.out 0
   have hfz26_1 := blk_frozen BK113.out 1
   have hfz26_2 := blk_frozen BK113.out 2
   go_wp2
   go_ret
   exact ⟨by first | rfl | (simp [errW_none, errW_some] <;> rfl) | (simp [*, errW_none, errW_some] <;> rfl), by repeat (first | (with_reducible first | exact HB.out | apply below_alloc | apply pw_below_drewN | apply below_drew1 | refine below_set ?_ GE113.out) | exact HB.out)⟩
 rw [if_neg c25] at H
 have c25b0 : decide (200 < (a0_2.size : Int)) = false := decide_eq_false c25
 have c25b1 : decide (200 < a0_2.size) = false := decide_eq_false (by omega)
 clear c25
 have H' := Aside0.mk H
 clear H
 have hcz27_0 : wc.cell? ⟨gb113, 0, none⟩ = some (.int .i64 a0_0) := (blk_cell BK113.out 0).trans rfl
 have hcz27_1 : wc.cell? ⟨gb113, 1, none⟩ = some (.int .i64 a0_1) := (blk_cell BK113.out 1).trans rfl
 have hcz27_2 : wc.cell? ⟨gb113, 2, none⟩ = some (.string a0_2) := (blk_cell BK113.out 2).trans rfl
 have hfz27_0 := blk_frozen BK113.out 0
 have hfz27_1 := blk_frozen BK113.out 1
 have hfz27_2 := blk_frozen BK113.out 2
 go_wp2
 go_loopg [43] kj10 (fun kq v43 w' => ∃ (x43_2 : Int), v43 = .int .i64 x43_2 ∧ Aside0 (value_CheckValue.l0 kq (a0_2.size : Int) x43_2 a0_0 a0_1 a0_2 = some r) ∧ Aside0 (kq ≤ kj10) ∧ Aside0 (w'.heap[gb113]? = some (.cells #[.int .i64 a0_0, .int .i64 a0_1, .string a0_2] 54 (0, 0))) ∧ Aside0 (Below w.heap.size w w'))
 case atStart => exact ⟨(0), s2q0, H', ⟨Nat.le_refl _⟩, ⟨by (with_reducible repeat (first | refine blk_drewN ?_ _ | refine blk_drew ?_ | refine blk_alloc ?_ _)); exact BK113.out⟩, ⟨by repeat (first | (with_reducible first | exact HB.out | apply below_alloc | apply pw_below_drewN | apply below_drew1 | refine below_set ?_ GE113.out) | exact HB.out)⟩⟩
 clear H'
 try clear c1
 try clear c2
 try clear c2b0
 try clear c2b1
 try clear p2
 try clear c3
 try clear c3b0
 try clear c3b1
 try clear c4
 try clear c4b0
 try clear c4b1
 try clear c14
 try clear c14b0
 try clear c14b1
 try clear c15
 try clear c16
 try clear c16b0
 try clear c16b1
 try clear c17
 try clear c17b0
 try clear c17b1
 try clear c23
 try clear c23b0
 try clear c23b1
 try clear c24
 try clear c24b0
 try clear c24b1
 try clear c25
 try clear c25b0
 try clear c25b1
 try clear hcz10_0
 try clear hcz10_1
 try clear hcz10_2
 try clear hcz13_0
 try clear hcz13_1
 try clear hcz13_2
 try clear hcz19_0
 try clear hcz19_1
 try clear hcz19_2
 try clear hcz21_0
 try clear hcz21_1
 try clear hcz21_2
 try clear hcz22_0
 try clear hcz22_1
 try clear hcz22_2
 try clear hcz26_0
 try clear hcz26_1
 try clear hcz26_2
 try clear hcz27_0
 try clear hcz27_1
 try clear hcz27_2
 try clear hcz6_0
 try clear hcz6_1
 try clear hcz6_2
 try clear hcz8_0
 try clear hcz8_1
 try clear hcz8_2
 try clear hfz10_0
 try clear hfz10_1
 try clear hfz10_2
 try clear hfz13_0
 try clear hfz13_1
 try clear hfz13_2
 try clear hfz19_0
 try clear hfz19_1
 try clear hfz19_2
 try clear hfz21_0
 try clear hfz21_1
 try clear hfz21_2
 try clear hfz22_0
 try clear hfz22_1
 try clear hfz22_2
 try clear hfz26_0
 try clear hfz26_1
 try clear hfz26_2
 try clear hfz27_0
 try clear hfz27_1
 try clear hfz27_2
 try clear hfz6_0
 try clear hfz6_1
 try clear hfz6_2
 try clear hfz8_0
 try clear hfz8_1
 try clear hfz8_2
 try clear p2
 obtain ⟨x43_2, rfl, HA, HK2, BK113, HB⟩ := hrel
 cases gk with
 | zero => exact absurd HA.out (by simp [value_CheckValue.l0])
 | succ k2 => ?_
 have H := HA.out
 clear HA
 simp only [value_CheckValue.l0] at H
 by_cases c28 : x43_2 < (a0_2.size : Int)
 case neg =>
  rw [if_neg c28] at H
  have c28b0 : decide (x43_2 < (a0_2.size : Int)) = false := decide_eq_false c28
  clear c28
  obtain rfl := Option.some.inj H
  go_wp2
  go_ret
  exact ⟨by first | rfl | (simp [errW_none, errW_some] <;> rfl) | (simp [*, errW_none, errW_some] <;> rfl), by repeat (first | (with_reducible first | exact HB.out | apply below_alloc | apply pw_below_drewN | apply below_drew1 | refine below_set ?_ GE113.out) | exact HB.out)⟩
 rw [if_pos c28] at H
 have c28b0 : decide (x43_2 < (a0_2.size : Int)) = true := decide_eq_true c28
 clear c28
 by_cases c29 : 0 ≤ x43_2
 case neg =>
  rw [if_neg c29] at H
  exact absurd H (by simp)
 rw [if_pos c29] at H
 have c29b0 : decide (0 ≤ x43_2) = true := decide_eq_true c29
 clear c29
 by_cases c30 : x43_2 < (a0_2.size : Int)
 case neg =>
  rw [if_neg c30] at H
  exact absurd H (by simp)
 rw [if_pos c30] at H
 have c30b0 : decide (x43_2 < (a0_2.size : Int)) = true := decide_eq_true c30
 clear c30
 replace H := Option.bind_eq_some_iff.mp H
 obtain ⟨t116, A320, H⟩ := H
 replace H : (if t116 = true then (value_CheckValue.l0 k2 (a0_2.size : Int) (wrap64 (x43_2 + 1)) a0_0 a0_1 a0_2) else (some 3)) = some r := H
 have A32 := Aside0.mk A320
 clear A320
 by_cases c33 : t116 = true
 case neg =>
  replace c33 := Bool.eq_false_iff.mpr c33
  subst c33
  have H1 : (some 3) = some r := s2q5
  clear H
  have H := H1
  clear H1
  obtain rfl := Option.some.inj H
  have hcz35_0 : wr.cell? ⟨gb113, 0, none⟩ = some (.int .i64 a0_0) := (blk_cell BK113.out 0).trans rfl
  have hcz35_1 : wr.cell? ⟨gb113, 1, none⟩ = some (.int .i64 a0_1) := (blk_cell BK113.out 1).trans rfl
  have hcz35_2 : wr.cell? ⟨gb113, 2, none⟩ = some (.string a0_2) := (blk_cell BK113.out 2).trans rfl
  have hfz35_0 := blk_frozen BK113.out 0
  have hfz35_1 := blk_frozen BK113.out 1
  have hfz35_2 := blk_frozen BK113.out 2
  have p31 : 0 ≤ (x43_2 : Int) := of_decide_eq_true s2q1
  have q31 : x43_2 < (a0_2.size : Int) := of_decide_eq_true s2q1
  have hx31 := bt_at a0_2 x43_2
  replace p31 := eq_true p31
  replace q31 := eq_true q31
  go_wp2_with (first | ((with_reducible refine gate_callee (f := 12) rfl ?_); refine goesL_ (some 51) rfl rfl Tryd.func12 (by kernel_rfl) rfl #[.int .i64 (wrap64 (bt a0_2 x43_2)), .int .i64 32, .int .i64 126] rfl s2q3 ?_; (with_reducible refine (kit_In.calls (wrap64 (bt a0_2 x43_2)) 32 126 false _ A32.out).mono ?_); rintro e w' ⟨rfl, ⟨nd, rfl⟩⟩; refine ⟨_, rfl, ?_⟩))
  go_ret
  exact ⟨by first | rfl | (simp [errW_none, errW_some] <;> rfl) | (simp [*, errW_none, errW_some] <;> rfl), by repeat (first | (with_reducible first | exact HB.out | apply below_alloc | apply pw_below_drewN | apply below_drew1 | refine below_set ?_ GE113.out) | exact HB.out)⟩
 subst c33
 have H1 : (value_CheckValue.l0 k2 (a0_2.size : Int) (wrap64 (x43_2 + 1)) a0_0 a0_1 a0_2) = some r := by rw [if_pos rfl] at H; exact H
 clear H
 have H := H1
 clear H1
 have H' := Aside0.mk H
 clear H
 have hcz34_0 : wr.cell? ⟨gb113, 0, none⟩ = some (.int .i64 a0_0) := (blk_cell BK113.out 0).trans rfl
 have hcz34_1 : wr.cell? ⟨gb113, 1, none⟩ = some (.int .i64 a0_1) := (blk_cell BK113.out 1).trans rfl
 have hcz34_2 : wr.cell? ⟨gb113, 2, none⟩ = some (.string a0_2) := (blk_cell BK113.out 2).trans rfl
 have hfz34_0 := blk_frozen BK113.out 0
 have hfz34_1 := blk_frozen BK113.out 1
 have hfz34_2 := blk_frozen BK113.out 2
 have p31 : 0 ≤ (x43_2 : Int) := of_decide_eq_true s2q1
 have q31 : x43_2 < (a0_2.size : Int) := of_decide_eq_true s2q1
 have hx31 := bt_at a0_2 x43_2
 replace p31 := eq_true p31
 replace q31 := eq_true q31
 go_wp2_with (first | ((with_reducible refine gate_callee (f := 12) rfl ?_); refine goesL_ (some 51) rfl rfl Tryd.func12 (by kernel_rfl) rfl #[.int .i64 (wrap64 (bt a0_2 x43_2)), .int .i64 32, .int .i64 126] rfl s2q3 ?_; (with_reducible refine (kit_In.calls (wrap64 (bt a0_2 x43_2)) 32 126 true _ A32.out).mono ?_); rintro e w' ⟨rfl, ⟨nd, rfl⟩⟩; refine ⟨_, rfl, ?_⟩))
 first | go_roundg k2 | (refine Handed.intro k2 ?measure ?_; rotate_left; go_step; (repeat apply Exists.intro); simp only [add_plain]; refine ⟨?rel, rfl⟩)
 case measure => have := HJ10.out; have := HK2.out; omega
 case rel => exact ⟨(wrap64 (x43_2 + 1)), s2q0, H', ⟨by have := HJ10.out; have := HK2.out; omega⟩, ⟨by (with_reducible repeat (first | refine blk_drewN ?_ _ | refine blk_drew ?_ | refine blk_alloc ?_ _)); exact BK113.out⟩, ⟨by repeat (first | (with_reducible first | exact HB.out | apply below_alloc | apply pw_below_drewN | apply below_drew1 | refine below_set ?_ GE113.out) | exact HB.out)⟩⟩
end Go.Proofs.YtgdbkhbaekeijaaDoor.F
