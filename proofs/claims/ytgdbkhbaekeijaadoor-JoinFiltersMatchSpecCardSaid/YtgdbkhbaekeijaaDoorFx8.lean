-- Printed by a program of this session (a patched print).
import Derived.Test.YtgdbkhbaekeijaaDoorFx0
import Derived.Test.YtgdbkhbaekeijaaDoorFx7
namespace Go.Proofs.YtgdbkhbaekeijaaDoor.F
open Go.RowKit Go.Proofs.YtgdbkhbaekeijaaDoorW.PrintWords Go.Proofs.YtgdbkhbaekeijaaDoorW.PrintLast Go.Proofs.YtgdbkhbaekeijaaDoorW.PrintMore
attribute [local go_sem] max2_int min2_int max_two min_two max_three min_three max_four min_four   -- for this text's walks alone
set_option linter.unusedVariables false
set_option linter.unusedSimpArgs false

theorem s8qm0 {p : Prop} (h : p := by repeat' first | (with_reducible exact ih0 _ _ _ _) | (with_reducible exact ih1 _ _ _ _) | (with_reducible exact ih2 _ _ _ _) | (with_reducible exact LeO.refl _) | (with_reducible exact LeO.none _) | (with_reducible refine LeO.ite ?_ ?_) | (with_reducible refine LeO.bind ?_ (fun _ => ?_)) | exact ih0 _ _ _ _ | exact ih1 _ _ _ _ | exact ih2 _ _ _ _ | exact LeO.none _ | refine LeO.ite ?_ ?_ | refine LeO.bind ?_ (fun _ => ?_)) : p := h
theorem s8q0 {p : Prop} (h : p := by first | rfl | (simp; done) | (simp [*]; done)) : p := h
theorem s8q1 {p : Prop} (h : p := by first | (with_reducible assumption) | assumption) : p := h
theorem s8q2 {p : Prop} (h : p := by first | rfl | (simp; done) | (simp [*]; done) | (simp [bne_nil_]; done)) : p := h
theorem s8q3 {p : Prop} (h : p := by repeat (first | (with_reducible first | exact HB.out | apply below_alloc | apply pw_below_drewN | apply below_drew1) | exact HB.out)) : p := h
theorem s8q4 {p : Prop} (h : p := by (try simp only [List.map_toArray, List.map_cons, List.map_nil]); first | done | rfl | (simp only [List.length_drop, List.length_take]; rfl)) : p := h
theorem s8q5 {p : Prop} (h : p := by rw [hg]; exact (below_size s8q3)) : p := h
theorem s8q6 {p : Prop} (h : p := by rw [if_neg (show ¬ (false = true) by decide)] at H; exact H) : p := h
theorem s8q7 {p : Prop} (h : p := by rw [if_pos rfl] at H; exact H) : p := h
/-! ### peristyleref1_CheckValue: function 36 -/
mutual
def peristyleref1_CheckValue.j0 : Nat → Bool → Int → Int → ByteArray → Option (Int)
  | 0, _, _, _, _ => none
  | k + 1, x30, x185000, x185001, x185002 => if x30 = true then (some 3) else (if x185000 = 1 then ((peristyleref1_within.f x185001 0 1).bind fun t186 => (if t186 = true then (if x185000 = 2 then ((peristyleref1_within.f x185001 (-1000000000000000) 1000000000000000).bind fun t187 => (peristyleref1_CheckValue.j1 k (!t187) x185000 x185001 x185002)) else (peristyleref1_CheckValue.j1 k false x185000 x185001 x185002)) else (peristyleref1_CheckValue.j1 k true x185000 x185001 x185002))) else (if x185000 = 2 then ((peristyleref1_within.f x185001 (-1000000000000000) 1000000000000000).bind fun t188 => (peristyleref1_CheckValue.j1 k (!t188) x185000 x185001 x185002)) else (peristyleref1_CheckValue.j1 k false x185000 x185001 x185002)))
def peristyleref1_CheckValue.j1 : Nat → Bool → Int → Int → ByteArray → Option (Int)
  | 0, _, _, _, _ => none
  | k + 1, x50, x185000, x185001, x185002 => if x50 = true then (some 1) else (if (x185002.size : Int) > 200 then (some 2) else (peristyleref1_CheckValue.l0 k 0 x185000 x185001 x185002))
def peristyleref1_CheckValue.l0 : Nat → Int → Int → Int → ByteArray → Option (Int)
  | 0, _, _, _, _ => none
  | k + 1, x3, x185000, x185001, x185002 => if x3 < (x185002.size : Int) then (if 0 ≤ x3 then (if (bt x185002 x3) < 32 then (some 3) else (if (bt x185002 x3) > 126 then (some 3) else (peristyleref1_CheckValue.l0 k (wrap64 (x3 + 1)) x185000 x185001 x185002))) else (none)) else (some 0)
end
def peristyleref1_CheckValue.f (k : Nat) (a0_0 : Int) (a0_1 : Int) (a0_2 : ByteArray) : Option (Int) := (peristyleref1_within.f a0_0 0 3).bind fun t185 => (if t185 = true then (if a0_0 = 1 then (if a0_0 = 3 then (peristyleref1_CheckValue.j0 k false a0_0 a0_1 a0_2) else (peristyleref1_CheckValue.j0 k (a0_2.toList != ([] : List UInt8)) a0_0 a0_1 a0_2)) else (if a0_0 = 2 then (if a0_0 = 3 then (peristyleref1_CheckValue.j0 k false a0_0 a0_1 a0_2) else (peristyleref1_CheckValue.j0 k (a0_2.toList != ([] : List UInt8)) a0_0 a0_1 a0_2)) else (if a0_1 = 0 then (if a0_0 = 3 then (peristyleref1_CheckValue.j0 k false a0_0 a0_1 a0_2) else (peristyleref1_CheckValue.j0 k (a0_2.toList != ([] : List UInt8)) a0_0 a0_1 a0_2)) else (peristyleref1_CheckValue.j0 k true a0_0 a0_1 a0_2)))) else (some 4))
theorem peristyleref1_CheckValue.mono_l : ∀ k, (∀ y0 y1 y2 y3, LeO (peristyleref1_CheckValue.j0 k y0 y1 y2 y3) (peristyleref1_CheckValue.j0 (k + 1) y0 y1 y2 y3)) ∧ (∀ y0 y1 y2 y3, LeO (peristyleref1_CheckValue.j1 k y0 y1 y2 y3) (peristyleref1_CheckValue.j1 (k + 1) y0 y1 y2 y3)) ∧ (∀ y0 y1 y2 y3, LeO (peristyleref1_CheckValue.l0 k y0 y1 y2 y3) (peristyleref1_CheckValue.l0 (k + 1) y0 y1 y2 y3))
  | 0 => ⟨fun _ _ _ _ r h => by simp [peristyleref1_CheckValue.j0] at h, fun _ _ _ _ r h => by simp [peristyleref1_CheckValue.j1] at h, fun _ _ _ _ r h => by simp [peristyleref1_CheckValue.l0] at h⟩
  | k + 1 => by
    obtain ⟨ih0, ih1, ih2⟩ := peristyleref1_CheckValue.mono_l k
    refine ⟨?_, ?_, ?_⟩
    · intro y0 y1 y2 y3
      unfold peristyleref1_CheckValue.j0
      exact s8qm0
    · intro y0 y1 y2 y3
      unfold peristyleref1_CheckValue.j1
      exact s8qm0
    · intro y0 y1 y2 y3
      unfold peristyleref1_CheckValue.l0
      exact s8qm0
theorem peristyleref1_CheckValue.mono : ∀ a0 a1 a2 k, LeO (peristyleref1_CheckValue.f k a0 a1 a2) (peristyleref1_CheckValue.f (k + 1) a0 a1 a2) := by
 intro a0 a1 a2 k
 obtain ⟨ih0, ih1, ih2⟩ := peristyleref1_CheckValue.mono_l k
 unfold peristyleref1_CheckValue.f
 repeat' first
  | (with_reducible exact ih0 _ _ _ _)
  | (with_reducible exact ih1 _ _ _ _)
  | (with_reducible exact ih2 _ _ _ _)
  | (with_reducible exact LeO.refl _)
  | (with_reducible exact LeO.none _)
  | (with_reducible refine LeO.ite ?_ ?_)
  | (with_reducible refine LeO.bind ?_ (fun _ => ?_))
  | exact ih0 _ _ _ _
  | exact ih1 _ _ _ _
  | exact ih2 _ _ _ _
  | exact LeO.none _
  | refine LeO.ite ?_ ?_
  | refine LeO.bind ?_ (fun _ => ?_)
set_option maxHeartbeats 8000000 in
set_option maxRecDepth 100000 in
theorem peristyleref1_CheckValue.calls (k : Nat) (a0_0 : Int) (a0_1 : Int) (a0_2 : ByteArray) (r : Int) (w : World) (h : peristyleref1_CheckValue.f k a0_0 a0_1 a0_2 = some r) :
    Calls Tryd.prog 36 #[.agg #[.int .i64 a0_0, .int .i64 a0_1, .string a0_2]] w fun e w' => e = .returned (.int .i64 r) ∧ Below w.heap.size w w' := by
 have hu54 := Tryd.underlying54
 have HB := Aside0.mk (Below.refl w.heap.size w)
 have H : ((peristyleref1_within.f a0_0 0 3).bind fun t185 => (if t185 = true then (if a0_0 = 1 then (if a0_0 = 3 then (peristyleref1_CheckValue.j0 k false a0_0 a0_1 a0_2) else (peristyleref1_CheckValue.j0 k (a0_2.toList != ([] : List UInt8)) a0_0 a0_1 a0_2)) else (if a0_0 = 2 then (if a0_0 = 3 then (peristyleref1_CheckValue.j0 k false a0_0 a0_1 a0_2) else (peristyleref1_CheckValue.j0 k (a0_2.toList != ([] : List UInt8)) a0_0 a0_1 a0_2)) else (if a0_1 = 0 then (if a0_0 = 3 then (peristyleref1_CheckValue.j0 k false a0_0 a0_1 a0_2) else (peristyleref1_CheckValue.j0 k (a0_2.toList != ([] : List UInt8)) a0_0 a0_1 a0_2)) else (peristyleref1_CheckValue.j0 k true a0_0 a0_1 a0_2)))) else (some 4))) = some r := h
 clear h
 replace H := Option.bind_eq_some_iff.mp H
 obtain ⟨t185, A20, H⟩ := H
 replace H : (if t185 = true then (if a0_0 = 1 then (if a0_0 = 3 then (peristyleref1_CheckValue.j0 k false a0_0 a0_1 a0_2) else (peristyleref1_CheckValue.j0 k (a0_2.toList != ([] : List UInt8)) a0_0 a0_1 a0_2)) else (if a0_0 = 2 then (if a0_0 = 3 then (peristyleref1_CheckValue.j0 k false a0_0 a0_1 a0_2) else (peristyleref1_CheckValue.j0 k (a0_2.toList != ([] : List UInt8)) a0_0 a0_1 a0_2)) else (if a0_1 = 0 then (if a0_0 = 3 then (peristyleref1_CheckValue.j0 k false a0_0 a0_1 a0_2) else (peristyleref1_CheckValue.j0 k (a0_2.toList != ([] : List UInt8)) a0_0 a0_1 a0_2)) else (peristyleref1_CheckValue.j0 k true a0_0 a0_1 a0_2)))) else (some 4)) = some r := H
 have A2 := Aside0.mk A20
 clear A20
 by_cases c3 : t185 = true
 case neg =>
  replace c3 := Bool.eq_false_iff.mpr c3
  subst c3
  have H1 : (some 4) = some r := s8q6
  clear H
  have H := H1
  clear H1
  obtain rfl := Option.some.inj H
  go_enter Tryd.func36, Tryd.ntmps36
  go_wp2_with (first | ((with_reducible refine gate_dst (N := 1) rfl ?_); refine box_event ?hg (N := 1) ?hd (cs := #[.int .i64 a0_0, .int .i64 a0_1, .string a0_2]) (t := 54) ?hr ?_; (case hd => rfl); (case hg => rfl); (case hr => first | (go_simp; done) | (go_simp; rfl)); intro gb184 hg w48 hbox hb; have n0_ := Aside0.mk (below_step s8q3 hb); have n1_ := Aside0.mk (hbox); have n2_ := Aside0.mk ((s8q5 : w.heap.size ≤ gb184)); have n3_ := Aside0.mk ((s8q5 : w.heap.size ≤ gb184)); clear HB; have HB := n0_; have BK184 := n1_; have GW184 := n2_; have GE184 := n3_; clear n0_ n1_ n2_ n3_; clear hb hbox hg; have hcz49_0 : w48.cell? ⟨gb184, 0, none⟩ = some (.int .i64 a0_0) := (blk_cell BK184.out 0).trans rfl; have hcz49_1 : w48.cell? ⟨gb184, 1, none⟩ = some (.int .i64 a0_1) := (blk_cell BK184.out 1).trans rfl; have hcz49_2 : w48.cell? ⟨gb184, 2, none⟩ = some (.string a0_2) := (blk_cell BK184.out 2).trans rfl; have hfz49_0 := blk_frozen BK184.out 0; have hfz49_1 := blk_frozen BK184.out 1; have hfz49_2 := blk_frozen BK184.out 2) | ((with_reducible refine gate_callee (f := 42) rfl ?_); refine goesL_ (some 6) rfl rfl Tryd.func42 (by kernel_rfl) rfl #[.int .i64 a0_0, .int .i64 0, .int .i64 3] rfl s8q4 ?_; (with_reducible refine (peristyleref1_within.calls a0_0 0 3 false _ A2.out).mono ?_); rintro e w' ⟨rfl, ⟨nd, rfl⟩⟩; refine ⟨_, rfl, ?_⟩))
  go_ret
  exact ⟨by first | rfl | (simp [errW_none, errW_some] <;> rfl) | (simp [*, errW_none, errW_some] <;> rfl), by repeat (first | (with_reducible first | exact HB.out | apply below_alloc | apply pw_below_drewN | apply below_drew1 | refine below_set ?_ GE184.out) | exact HB.out)⟩
 subst c3
 have H1 : (if a0_0 = 1 then (if a0_0 = 3 then (peristyleref1_CheckValue.j0 k false a0_0 a0_1 a0_2) else (peristyleref1_CheckValue.j0 k (a0_2.toList != ([] : List UInt8)) a0_0 a0_1 a0_2)) else (if a0_0 = 2 then (if a0_0 = 3 then (peristyleref1_CheckValue.j0 k false a0_0 a0_1 a0_2) else (peristyleref1_CheckValue.j0 k (a0_2.toList != ([] : List UInt8)) a0_0 a0_1 a0_2)) else (if a0_1 = 0 then (if a0_0 = 3 then (peristyleref1_CheckValue.j0 k false a0_0 a0_1 a0_2) else (peristyleref1_CheckValue.j0 k (a0_2.toList != ([] : List UInt8)) a0_0 a0_1 a0_2)) else (peristyleref1_CheckValue.j0 k true a0_0 a0_1 a0_2)))) = some r := s8q7
 clear H
 have H := H1
 clear H1
 have HC4 := Aside0.mk H
 clear H
 go_enter Tryd.func36, Tryd.ntmps36
 go_upto_region 3 with (first | ((with_reducible refine gate_dst (N := 1) rfl ?_); refine box_event ?hg (N := 1) ?hd (cs := #[.int .i64 a0_0, .int .i64 a0_1, .string a0_2]) (t := 54) ?hr ?_; (case hd => rfl); (case hg => rfl); (case hr => first | (go_simp; done) | (go_simp; rfl)); intro gb184 hg w5 hbox hb; have n0_ := Aside0.mk (below_step s8q3 hb); have n1_ := Aside0.mk (hbox); have n2_ := Aside0.mk ((s8q5 : w.heap.size ≤ gb184)); have n3_ := Aside0.mk ((s8q5 : w.heap.size ≤ gb184)); clear HB; have HB := n0_; have BK184 := n1_; have GW184 := n2_; have GE184 := n3_; clear n0_ n1_ n2_ n3_; clear hb hbox hg; have hcz6_0 : w5.cell? ⟨gb184, 0, none⟩ = some (.int .i64 a0_0) := (blk_cell BK184.out 0).trans rfl; have hcz6_1 : w5.cell? ⟨gb184, 1, none⟩ = some (.int .i64 a0_1) := (blk_cell BK184.out 1).trans rfl; have hcz6_2 : w5.cell? ⟨gb184, 2, none⟩ = some (.string a0_2) := (blk_cell BK184.out 2).trans rfl; have hfz6_0 := blk_frozen BK184.out 0; have hfz6_1 := blk_frozen BK184.out 1; have hfz6_2 := blk_frozen BK184.out 2) | ((with_reducible refine gate_callee (f := 42) rfl ?_); refine goesL_ (some 6) rfl rfl Tryd.func42 (by kernel_rfl) rfl #[.int .i64 a0_0, .int .i64 0, .int .i64 3] rfl s8q4 ?_; (with_reducible refine (peristyleref1_within.calls a0_0 0 3 true _ A2.out).mono ?_); rintro e w' ⟨rfl, ⟨nd, rfl⟩⟩; refine ⟨_, rfl, ?_⟩))
 (try simp only [Act.put, sqa, sqb, sqc])
 go_cut [30] (fun v30 wc => ∃ (kq : Nat) (x30_3 : Bool), v30 = .bool x30_3 ∧ Aside0 (peristyleref1_CheckValue.j0 kq x30_3 a0_0 a0_1 a0_2 = some r) ∧ Aside0 (kq ≤ k) ∧ Aside0 (wc.heap[gb184]? = some (.cells #[.int .i64 a0_0, .int .i64 a0_1, .string a0_2] 54 (0, 0))) ∧ Aside0 (Below w.heap.size w wc))
 case first =>
  have H := HC4.out
  clear HC4
  by_cases c7 : a0_0 = 1
  · rw [if_pos c7] at H
    have c7b0 : (a0_0 == 1) = true := beq_iff_eq.mpr c7
    have c7b1 : (a0_0 != 1) = false := bne_eq_false_iff_eq.mpr c7
    clear c7
    (first | rw [c7b0] | (simp only [i64_w, i32_w]; rw [c7b0]) | skip)
    by_cases c8 : a0_0 = 3
    · rw [if_pos c8] at H
      have c8b0 : (a0_0 == 3) = true := beq_iff_eq.mpr c8
      have c8b1 : (a0_0 != 3) = false := bne_eq_false_iff_eq.mpr c8
      clear c8
      have H' := Aside0.mk H
      clear H
      have hcz9_0 : w5.cell? ⟨gb184, 0, none⟩ = some (.int .i64 a0_0) := (blk_cell BK184.out 0).trans rfl
      have hcz9_1 : w5.cell? ⟨gb184, 1, none⟩ = some (.int .i64 a0_1) := (blk_cell BK184.out 1).trans rfl
      have hcz9_2 : w5.cell? ⟨gb184, 2, none⟩ = some (.string a0_2) := (blk_cell BK184.out 2).trans rfl
      have hfz9_0 := blk_frozen BK184.out 0
      have hfz9_1 := blk_frozen BK184.out 1
      have hfz9_2 := blk_frozen BK184.out 2
      go_wp2
      go_meet
      case rel => exact ⟨_, (false), s8q0, H', ⟨by first | omega | exact Nat.le_refl _⟩, ⟨by (with_reducible repeat (first | refine blk_drewN ?_ _ | refine blk_drew ?_ | refine blk_alloc ?_ _)); exact BK184.out⟩, ⟨by repeat (first | (with_reducible first | exact HB.out | apply below_alloc | apply pw_below_drewN | apply below_drew1 | refine below_set ?_ GE184.out) | exact HB.out)⟩⟩
    rw [if_neg c8] at H
    have c8b0 : (a0_0 == 3) = false := beq_eq_false_iff_ne.mpr c8
    have c8b1 : (a0_0 != 3) = true := bne_iff_ne.mpr c8
    have H' := Aside0.mk H
    clear H
    have hcz10_0 : w5.cell? ⟨gb184, 0, none⟩ = some (.int .i64 a0_0) := (blk_cell BK184.out 0).trans rfl
    have hcz10_1 : w5.cell? ⟨gb184, 1, none⟩ = some (.int .i64 a0_1) := (blk_cell BK184.out 1).trans rfl
    have hcz10_2 : w5.cell? ⟨gb184, 2, none⟩ = some (.string a0_2) := (blk_cell BK184.out 2).trans rfl
    have hfz10_0 := blk_frozen BK184.out 0
    have hfz10_1 := blk_frozen BK184.out 1
    have hfz10_2 := blk_frozen BK184.out 2
    go_wp2
    go_meet
    case rel => exact ⟨_, ((a0_2.toList != ([] : List UInt8))), s8q2, H', ⟨by first | omega | exact Nat.le_refl _⟩, ⟨by (with_reducible repeat (first | refine blk_drewN ?_ _ | refine blk_drew ?_ | refine blk_alloc ?_ _)); exact BK184.out⟩, ⟨by repeat (first | (with_reducible first | exact HB.out | apply below_alloc | apply pw_below_drewN | apply below_drew1 | refine below_set ?_ GE184.out) | exact HB.out)⟩⟩
  rw [if_neg c7] at H
  have c7b0 : (a0_0 == 1) = false := beq_eq_false_iff_ne.mpr c7
  have c7b1 : (a0_0 != 1) = true := bne_iff_ne.mpr c7
  (first | rw [c7b0] | (simp only [i64_w, i32_w]; rw [c7b0]) | skip)
  by_cases c11 : a0_0 = 2
  · rw [if_pos c11] at H
    have c11b0 : (a0_0 == 2) = true := beq_iff_eq.mpr c11
    have c11b1 : (a0_0 != 2) = false := bne_eq_false_iff_eq.mpr c11
    clear c11
    by_cases c12 : a0_0 = 3
    · rw [if_pos c12] at H
      have c12b0 : (a0_0 == 3) = true := beq_iff_eq.mpr c12
      have c12b1 : (a0_0 != 3) = false := bne_eq_false_iff_eq.mpr c12
      clear c12
      have H' := Aside0.mk H
      clear H
      have hcz13_0 : w5.cell? ⟨gb184, 0, none⟩ = some (.int .i64 a0_0) := (blk_cell BK184.out 0).trans rfl
      have hcz13_1 : w5.cell? ⟨gb184, 1, none⟩ = some (.int .i64 a0_1) := (blk_cell BK184.out 1).trans rfl
      have hcz13_2 : w5.cell? ⟨gb184, 2, none⟩ = some (.string a0_2) := (blk_cell BK184.out 2).trans rfl
      have hfz13_0 := blk_frozen BK184.out 0
      have hfz13_1 := blk_frozen BK184.out 1
      have hfz13_2 := blk_frozen BK184.out 2
      go_wp2
      go_meet
      case rel => exact ⟨_, (false), s8q0, H', ⟨by first | omega | exact Nat.le_refl _⟩, ⟨by (with_reducible repeat (first | refine blk_drewN ?_ _ | refine blk_drew ?_ | refine blk_alloc ?_ _)); exact BK184.out⟩, ⟨by repeat (first | (with_reducible first | exact HB.out | apply below_alloc | apply pw_below_drewN | apply below_drew1 | refine below_set ?_ GE184.out) | exact HB.out)⟩⟩
    rw [if_neg c12] at H
    have c12b0 : (a0_0 == 3) = false := beq_eq_false_iff_ne.mpr c12
    have c12b1 : (a0_0 != 3) = true := bne_iff_ne.mpr c12
    have H' := Aside0.mk H
    clear H
    have hcz14_0 : w5.cell? ⟨gb184, 0, none⟩ = some (.int .i64 a0_0) := (blk_cell BK184.out 0).trans rfl
    have hcz14_1 : w5.cell? ⟨gb184, 1, none⟩ = some (.int .i64 a0_1) := (blk_cell BK184.out 1).trans rfl
    have hcz14_2 : w5.cell? ⟨gb184, 2, none⟩ = some (.string a0_2) := (blk_cell BK184.out 2).trans rfl
    have hfz14_0 := blk_frozen BK184.out 0
    have hfz14_1 := blk_frozen BK184.out 1
    have hfz14_2 := blk_frozen BK184.out 2
    go_wp2
    go_meet
    case rel => exact ⟨_, ((a0_2.toList != ([] : List UInt8))), s8q2, H', ⟨by first | omega | exact Nat.le_refl _⟩, ⟨by (with_reducible repeat (first | refine blk_drewN ?_ _ | refine blk_drew ?_ | refine blk_alloc ?_ _)); exact BK184.out⟩, ⟨by repeat (first | (with_reducible first | exact HB.out | apply below_alloc | apply pw_below_drewN | apply below_drew1 | refine below_set ?_ GE184.out) | exact HB.out)⟩⟩
  rw [if_neg c11] at H
  have c11b0 : (a0_0 == 2) = false := beq_eq_false_iff_ne.mpr c11
  have c11b1 : (a0_0 != 2) = true := bne_iff_ne.mpr c11
  by_cases c15 : a0_1 = 0
  case neg =>
   rw [if_neg c15] at H
   have c15b0 : (a0_1 == 0) = false := beq_eq_false_iff_ne.mpr c15
   have c15b1 : (a0_1 != 0) = true := bne_iff_ne.mpr c15
   have H' := Aside0.mk H
   clear H
   have hcz19_0 : w5.cell? ⟨gb184, 0, none⟩ = some (.int .i64 a0_0) := (blk_cell BK184.out 0).trans rfl
   have hcz19_1 : w5.cell? ⟨gb184, 1, none⟩ = some (.int .i64 a0_1) := (blk_cell BK184.out 1).trans rfl
   have hcz19_2 : w5.cell? ⟨gb184, 2, none⟩ = some (.string a0_2) := (blk_cell BK184.out 2).trans rfl
   have hfz19_0 := blk_frozen BK184.out 0
   have hfz19_1 := blk_frozen BK184.out 1
   have hfz19_2 := blk_frozen BK184.out 2
   go_wp2
   go_meet
   case rel => exact ⟨_, (true), s8q0, H', ⟨by first | omega | exact Nat.le_refl _⟩, ⟨by (with_reducible repeat (first | refine blk_drewN ?_ _ | refine blk_drew ?_ | refine blk_alloc ?_ _)); exact BK184.out⟩, ⟨by repeat (first | (with_reducible first | exact HB.out | apply below_alloc | apply pw_below_drewN | apply below_drew1 | refine below_set ?_ GE184.out) | exact HB.out)⟩⟩
  rw [if_pos c15] at H
  have c15b0 : (a0_1 == 0) = true := beq_iff_eq.mpr c15
  have c15b1 : (a0_1 != 0) = false := bne_eq_false_iff_eq.mpr c15
  clear c15
  by_cases c16 : a0_0 = 3
  · rw [if_pos c16] at H
    have c16b0 : (a0_0 == 3) = true := beq_iff_eq.mpr c16
    have c16b1 : (a0_0 != 3) = false := bne_eq_false_iff_eq.mpr c16
    clear c16
    have H' := Aside0.mk H
    clear H
    have hcz17_0 : w5.cell? ⟨gb184, 0, none⟩ = some (.int .i64 a0_0) := (blk_cell BK184.out 0).trans rfl
    have hcz17_1 : w5.cell? ⟨gb184, 1, none⟩ = some (.int .i64 a0_1) := (blk_cell BK184.out 1).trans rfl
    have hcz17_2 : w5.cell? ⟨gb184, 2, none⟩ = some (.string a0_2) := (blk_cell BK184.out 2).trans rfl
    have hfz17_0 := blk_frozen BK184.out 0
    have hfz17_1 := blk_frozen BK184.out 1
    have hfz17_2 := blk_frozen BK184.out 2
    go_wp2
    go_meet
    case rel => exact ⟨_, (false), s8q0, H', ⟨by first | omega | exact Nat.le_refl _⟩, ⟨by (with_reducible repeat (first | refine blk_drewN ?_ _ | refine blk_drew ?_ | refine blk_alloc ?_ _)); exact BK184.out⟩, ⟨by repeat (first | (with_reducible first | exact HB.out | apply below_alloc | apply pw_below_drewN | apply below_drew1 | refine below_set ?_ GE184.out) | exact HB.out)⟩⟩
  rw [if_neg c16] at H
  have c16b0 : (a0_0 == 3) = false := beq_eq_false_iff_ne.mpr c16
  have c16b1 : (a0_0 != 3) = true := bne_iff_ne.mpr c16
  have H' := Aside0.mk H
  clear H
  have hcz18_0 : w5.cell? ⟨gb184, 0, none⟩ = some (.int .i64 a0_0) := (blk_cell BK184.out 0).trans rfl
  have hcz18_1 : w5.cell? ⟨gb184, 1, none⟩ = some (.int .i64 a0_1) := (blk_cell BK184.out 1).trans rfl
  have hcz18_2 : w5.cell? ⟨gb184, 2, none⟩ = some (.string a0_2) := (blk_cell BK184.out 2).trans rfl
  have hfz18_0 := blk_frozen BK184.out 0
  have hfz18_1 := blk_frozen BK184.out 1
  have hfz18_2 := blk_frozen BK184.out 2
  go_wp2
  go_meet
  case rel => exact ⟨_, ((a0_2.toList != ([] : List UInt8))), s8q2, H', ⟨by first | omega | exact Nat.le_refl _⟩, ⟨by (with_reducible repeat (first | refine blk_drewN ?_ _ | refine blk_drew ?_ | refine blk_alloc ?_ _)); exact BK184.out⟩, ⟨by repeat (first | (with_reducible first | exact HB.out | apply below_alloc | apply pw_below_drewN | apply below_drew1 | refine below_set ?_ GE184.out) | exact HB.out)⟩⟩
 clear HC4
 try clear c1
 try clear p2
 try clear c3
 try clear c4
 try clear c7
 try clear c7b0
 try clear c7b1
 try clear c8
 try clear c8b0
 try clear c8b1
 try clear c11
 try clear c11b0
 try clear c11b1
 try clear c12
 try clear c12b0
 try clear c12b1
 try clear c15
 try clear c15b0
 try clear c15b1
 try clear c16
 try clear c16b0
 try clear c16b1
 try clear hcz10_0
 try clear hcz10_1
 try clear hcz10_2
 try clear hcz13_0
 try clear hcz13_1
 try clear hcz13_2
 try clear hcz14_0
 try clear hcz14_1
 try clear hcz14_2
 try clear hcz17_0
 try clear hcz17_1
 try clear hcz17_2
 try clear hcz18_0
 try clear hcz18_1
 try clear hcz18_2
 try clear hcz19_0
 try clear hcz19_1
 try clear hcz19_2
 try clear hcz6_0
 try clear hcz6_1
 try clear hcz6_2
 try clear hcz9_0
 try clear hcz9_1
 try clear hcz9_2
 try clear hfz10_0
 try clear hfz10_1
 try clear hfz10_2
 try clear hfz13_0
 try clear hfz13_1
 try clear hfz13_2
 try clear hfz14_0
 try clear hfz14_1
 try clear hfz14_2
 try clear hfz17_0
 try clear hfz17_1
 try clear hfz17_2
 try clear hfz18_0
 try clear hfz18_1
 try clear hfz18_2
 try clear hfz19_0
 try clear hfz19_1
 try clear hfz19_2
 try clear hfz6_0
 try clear hfz6_1
 try clear hfz6_2
 try clear hfz9_0
 try clear hfz9_1
 try clear hfz9_2
 obtain ⟨kq, x30_3, rfl, HA, HJ3, BK184, HB⟩ := hcut
 cases kq with
 | zero => exact absurd HA.out (by simp [peristyleref1_CheckValue.j0])
 | succ kj3 => ?_
 have H := HA.out
 clear HA
 simp only [peristyleref1_CheckValue.j0] at H
 by_cases c20 : x30_3 = true
 · subst c20
   have H1 : (some 3) = some r := s8q7
   clear H
   have H := H1
   clear H1
   obtain rfl := Option.some.inj H
   go_wp2
   go_ret
   exact ⟨by first | rfl | (simp [errW_none, errW_some] <;> rfl) | (simp [*, errW_none, errW_some] <;> rfl), by repeat (first | (with_reducible first | exact HB.out | apply below_alloc | apply pw_below_drewN | apply below_drew1 | refine below_set ?_ GE184.out) | exact HB.out)⟩
 replace c20 := Bool.eq_false_iff.mpr c20
 subst c20
 have H1 : (if a0_0 = 1 then ((peristyleref1_within.f a0_1 0 1).bind fun t186 => (if t186 = true then (if a0_0 = 2 then ((peristyleref1_within.f a0_1 (-1000000000000000) 1000000000000000).bind fun t187 => (peristyleref1_CheckValue.j1 kj3 (!t187) a0_0 a0_1 a0_2)) else (peristyleref1_CheckValue.j1 kj3 false a0_0 a0_1 a0_2)) else (peristyleref1_CheckValue.j1 kj3 true a0_0 a0_1 a0_2))) else (if a0_0 = 2 then ((peristyleref1_within.f a0_1 (-1000000000000000) 1000000000000000).bind fun t188 => (peristyleref1_CheckValue.j1 kj3 (!t188) a0_0 a0_1 a0_2)) else (peristyleref1_CheckValue.j1 kj3 false a0_0 a0_1 a0_2))) = some r := s8q6
 clear H
 have H := H1
 clear H1
 have HC21 := Aside0.mk H
 clear H
 go_upto_region 5 with (fail)
 go_cut [50] (fun v50 wc => ∃ (kq : Nat) (x50_20 : Bool), v50 = .bool x50_20 ∧ Aside0 (peristyleref1_CheckValue.j1 kq x50_20 a0_0 a0_1 a0_2 = some r) ∧ Aside0 (kq ≤ kj3) ∧ Aside0 (wc.heap[gb184]? = some (.cells #[.int .i64 a0_0, .int .i64 a0_1, .string a0_2] 54 (0, 0))) ∧ Aside0 (Below w.heap.size w wc))
 case first =>
  have H := HC21.out
  clear HC21
  by_cases c22 : a0_0 = 1
  case neg =>
   rw [if_neg c22] at H
   have c22b0 : (a0_0 == 1) = false := beq_eq_false_iff_ne.mpr c22
   have c22b1 : (a0_0 != 1) = true := bne_iff_ne.mpr c22
   (first | rw [c22b0] | (simp only [i64_w, i32_w]; rw [c22b0]) | skip)
   by_cases c30 : a0_0 = 2
   case neg =>
    rw [if_neg c30] at H
    have c30b0 : (a0_0 == 2) = false := beq_eq_false_iff_ne.mpr c30
    have c30b1 : (a0_0 != 2) = true := bne_iff_ne.mpr c30
    have H' := Aside0.mk H
    clear H
    have hcz33_0 : wc.cell? ⟨gb184, 0, none⟩ = some (.int .i64 a0_0) := (blk_cell BK184.out 0).trans rfl
    have hcz33_1 : wc.cell? ⟨gb184, 1, none⟩ = some (.int .i64 a0_1) := (blk_cell BK184.out 1).trans rfl
    have hcz33_2 : wc.cell? ⟨gb184, 2, none⟩ = some (.string a0_2) := (blk_cell BK184.out 2).trans rfl
    have hfz33_0 := blk_frozen BK184.out 0
    have hfz33_1 := blk_frozen BK184.out 1
    have hfz33_2 := blk_frozen BK184.out 2
    go_wp2
    go_meet
    case rel => exact ⟨_, (false), s8q0, H', ⟨by have := HJ3.out; first | omega | exact Nat.le_refl _⟩, ⟨by (with_reducible repeat (first | refine blk_drewN ?_ _ | refine blk_drew ?_ | refine blk_alloc ?_ _)); exact BK184.out⟩, ⟨by repeat (first | (with_reducible first | exact HB.out | apply below_alloc | apply pw_below_drewN | apply below_drew1 | refine below_set ?_ GE184.out) | exact HB.out)⟩⟩
   rw [if_pos c30] at H
   have c30b0 : (a0_0 == 2) = true := beq_iff_eq.mpr c30
   have c30b1 : (a0_0 != 2) = false := bne_eq_false_iff_eq.mpr c30
   clear c30
   replace H := Option.bind_eq_some_iff.mp H
   obtain ⟨t188, A310, H⟩ := H
   replace H : (peristyleref1_CheckValue.j1 kj3 (!t188) a0_0 a0_1 a0_2) = some r := H
   have A31 := Aside0.mk A310
   clear A310
   have H' := Aside0.mk H
   clear H
   have hcz32_0 : wc.cell? ⟨gb184, 0, none⟩ = some (.int .i64 a0_0) := (blk_cell BK184.out 0).trans rfl
   have hcz32_1 : wc.cell? ⟨gb184, 1, none⟩ = some (.int .i64 a0_1) := (blk_cell BK184.out 1).trans rfl
   have hcz32_2 : wc.cell? ⟨gb184, 2, none⟩ = some (.string a0_2) := (blk_cell BK184.out 2).trans rfl
   have hfz32_0 := blk_frozen BK184.out 0
   have hfz32_1 := blk_frozen BK184.out 1
   have hfz32_2 := blk_frozen BK184.out 2
   go_wp2_with (first | (go_at_call 42; (with_reducible refine (peristyleref1_within.calls a0_1 (-1000000000000000) 1000000000000000 t188 _ A31.out).mono ?_); rintro e w' ⟨rfl, ⟨nd, rfl⟩⟩))
   go_meet
   case rel => exact ⟨_, (!t188), s8q0, H', ⟨by have := HJ3.out; first | omega | exact Nat.le_refl _⟩, ⟨by (with_reducible repeat (first | refine blk_drewN ?_ _ | refine blk_drew ?_ | refine blk_alloc ?_ _)); exact BK184.out⟩, ⟨by repeat (first | (with_reducible first | exact HB.out | apply below_alloc | apply pw_below_drewN | apply below_drew1 | refine below_set ?_ GE184.out) | exact HB.out)⟩⟩
  rw [if_pos c22] at H
  have c22b0 : (a0_0 == 1) = true := beq_iff_eq.mpr c22
  have c22b1 : (a0_0 != 1) = false := bne_eq_false_iff_eq.mpr c22
  clear c22
  (first | rw [c22b0] | (simp only [i64_w, i32_w]; rw [c22b0]) | skip)
  replace H := Option.bind_eq_some_iff.mp H
  obtain ⟨t186, A230, H⟩ := H
  replace H : (if t186 = true then (if a0_0 = 2 then ((peristyleref1_within.f a0_1 (-1000000000000000) 1000000000000000).bind fun t187 => (peristyleref1_CheckValue.j1 kj3 (!t187) a0_0 a0_1 a0_2)) else (peristyleref1_CheckValue.j1 kj3 false a0_0 a0_1 a0_2)) else (peristyleref1_CheckValue.j1 kj3 true a0_0 a0_1 a0_2)) = some r := H
  have A23 := Aside0.mk A230
  clear A230
  by_cases c24 : t186 = true
  case neg =>
   replace c24 := Bool.eq_false_iff.mpr c24
   subst c24
   have H1 : (peristyleref1_CheckValue.j1 kj3 true a0_0 a0_1 a0_2) = some r := s8q6
   clear H
   have H := H1
   clear H1
   have H' := Aside0.mk H
   clear H
   have hcz29_0 : wc.cell? ⟨gb184, 0, none⟩ = some (.int .i64 a0_0) := (blk_cell BK184.out 0).trans rfl
   have hcz29_1 : wc.cell? ⟨gb184, 1, none⟩ = some (.int .i64 a0_1) := (blk_cell BK184.out 1).trans rfl
   have hcz29_2 : wc.cell? ⟨gb184, 2, none⟩ = some (.string a0_2) := (blk_cell BK184.out 2).trans rfl
   have hfz29_0 := blk_frozen BK184.out 0
   have hfz29_1 := blk_frozen BK184.out 1
   have hfz29_2 := blk_frozen BK184.out 2
   go_wp2_with (first | (go_at_call 42; (with_reducible refine (peristyleref1_within.calls a0_1 0 1 false _ A23.out).mono ?_); rintro e w' ⟨rfl, ⟨nd, rfl⟩⟩))
   go_meet
   case rel => exact ⟨_, (true), s8q0, H', ⟨by have := HJ3.out; first | omega | exact Nat.le_refl _⟩, ⟨by (with_reducible repeat (first | refine blk_drewN ?_ _ | refine blk_drew ?_ | refine blk_alloc ?_ _)); exact BK184.out⟩, ⟨by repeat (first | (with_reducible first | exact HB.out | apply below_alloc | apply pw_below_drewN | apply below_drew1 | refine below_set ?_ GE184.out) | exact HB.out)⟩⟩
  subst c24
  have H1 : (if a0_0 = 2 then ((peristyleref1_within.f a0_1 (-1000000000000000) 1000000000000000).bind fun t187 => (peristyleref1_CheckValue.j1 kj3 (!t187) a0_0 a0_1 a0_2)) else (peristyleref1_CheckValue.j1 kj3 false a0_0 a0_1 a0_2)) = some r := s8q7
  clear H
  have H := H1
  clear H1
  by_cases c25 : a0_0 = 2
  case neg =>
   rw [if_neg c25] at H
   have c25b0 : (a0_0 == 2) = false := beq_eq_false_iff_ne.mpr c25
   have c25b1 : (a0_0 != 2) = true := bne_iff_ne.mpr c25
   have H' := Aside0.mk H
   clear H
   have hcz28_0 : wc.cell? ⟨gb184, 0, none⟩ = some (.int .i64 a0_0) := (blk_cell BK184.out 0).trans rfl
   have hcz28_1 : wc.cell? ⟨gb184, 1, none⟩ = some (.int .i64 a0_1) := (blk_cell BK184.out 1).trans rfl
   have hcz28_2 : wc.cell? ⟨gb184, 2, none⟩ = some (.string a0_2) := (blk_cell BK184.out 2).trans rfl
   have hfz28_0 := blk_frozen BK184.out 0
   have hfz28_1 := blk_frozen BK184.out 1
   have hfz28_2 := blk_frozen BK184.out 2
   go_wp2_with (first | (go_at_call 42; (with_reducible refine (peristyleref1_within.calls a0_1 0 1 true _ A23.out).mono ?_); rintro e w' ⟨rfl, ⟨nd, rfl⟩⟩))
   go_meet
   case rel => exact ⟨_, (false), s8q0, H', ⟨by have := HJ3.out; first | omega | exact Nat.le_refl _⟩, ⟨by (with_reducible repeat (first | refine blk_drewN ?_ _ | refine blk_drew ?_ | refine blk_alloc ?_ _)); exact BK184.out⟩, ⟨by repeat (first | (with_reducible first | exact HB.out | apply below_alloc | apply pw_below_drewN | apply below_drew1 | refine below_set ?_ GE184.out) | exact HB.out)⟩⟩
  rw [if_pos c25] at H
  have c25b0 : (a0_0 == 2) = true := beq_iff_eq.mpr c25
  have c25b1 : (a0_0 != 2) = false := bne_eq_false_iff_eq.mpr c25
  clear c25
  replace H := Option.bind_eq_some_iff.mp H
  obtain ⟨t187, A260, H⟩ := H
  replace H : (peristyleref1_CheckValue.j1 kj3 (!t187) a0_0 a0_1 a0_2) = some r := H
  have A26 := Aside0.mk A260
  clear A260
  have H' := Aside0.mk H
  clear H
  have hcz27_0 : wc.cell? ⟨gb184, 0, none⟩ = some (.int .i64 a0_0) := (blk_cell BK184.out 0).trans rfl
  have hcz27_1 : wc.cell? ⟨gb184, 1, none⟩ = some (.int .i64 a0_1) := (blk_cell BK184.out 1).trans rfl
  have hcz27_2 : wc.cell? ⟨gb184, 2, none⟩ = some (.string a0_2) := (blk_cell BK184.out 2).trans rfl
  have hfz27_0 := blk_frozen BK184.out 0
  have hfz27_1 := blk_frozen BK184.out 1
  have hfz27_2 := blk_frozen BK184.out 2
  go_wp2_with (first | (go_at_call 42; (with_reducible refine (peristyleref1_within.calls a0_1 0 1 true _ A23.out).mono ?_); rintro e w' ⟨rfl, ⟨nd, rfl⟩⟩) | (go_at_call 42; (with_reducible refine (peristyleref1_within.calls a0_1 (-1000000000000000) 1000000000000000 t187 _ A26.out).mono ?_); rintro e w' ⟨rfl, ⟨nd, rfl⟩⟩))
  go_meet
  case rel => exact ⟨_, (!t187), s8q0, H', ⟨by have := HJ3.out; first | omega | exact Nat.le_refl _⟩, ⟨by (with_reducible repeat (first | refine blk_drewN ?_ _ | refine blk_drew ?_ | refine blk_alloc ?_ _)); exact BK184.out⟩, ⟨by repeat (first | (with_reducible first | exact HB.out | apply below_alloc | apply pw_below_drewN | apply below_drew1 | refine below_set ?_ GE184.out) | exact HB.out)⟩⟩
 clear HC21
 try clear c1
 try clear c2
 try clear p2
 try clear c3
 try clear c4
 try clear c7
 try clear c7b0
 try clear c7b1
 try clear c8
 try clear c8b0
 try clear c8b1
 try clear c11
 try clear c11b0
 try clear c11b1
 try clear c12
 try clear c12b0
 try clear c12b1
 try clear c15
 try clear c15b0
 try clear c15b1
 try clear c16
 try clear c16b0
 try clear c16b1
 try clear c20
 try clear c22
 try clear c22b0
 try clear c22b1
 try clear c24
 try clear c25
 try clear c25b0
 try clear c25b1
 try clear c30
 try clear c30b0
 try clear c30b1
 try clear hcz10_0
 try clear hcz10_1
 try clear hcz10_2
 try clear hcz13_0
 try clear hcz13_1
 try clear hcz13_2
 try clear hcz14_0
 try clear hcz14_1
 try clear hcz14_2
 try clear hcz17_0
 try clear hcz17_1
 try clear hcz17_2
 try clear hcz18_0
 try clear hcz18_1
 try clear hcz18_2
 try clear hcz19_0
 try clear hcz19_1
 try clear hcz19_2
 try clear hcz27_0
 try clear hcz27_1
 try clear hcz27_2
 try clear hcz28_0
 try clear hcz28_1
 try clear hcz28_2
 try clear hcz29_0
 try clear hcz29_1
 try clear hcz29_2
 try clear hcz32_0
 try clear hcz32_1
 try clear hcz32_2
 try clear hcz33_0
 try clear hcz33_1
 try clear hcz33_2
 try clear hcz6_0
 try clear hcz6_1
 try clear hcz6_2
 try clear hcz9_0
 try clear hcz9_1
 try clear hcz9_2
 try clear hfz10_0
 try clear hfz10_1
 try clear hfz10_2
 try clear hfz13_0
 try clear hfz13_1
 try clear hfz13_2
 try clear hfz14_0
 try clear hfz14_1
 try clear hfz14_2
 try clear hfz17_0
 try clear hfz17_1
 try clear hfz17_2
 try clear hfz18_0
 try clear hfz18_1
 try clear hfz18_2
 try clear hfz19_0
 try clear hfz19_1
 try clear hfz19_2
 try clear hfz27_0
 try clear hfz27_1
 try clear hfz27_2
 try clear hfz28_0
 try clear hfz28_1
 try clear hfz28_2
 try clear hfz29_0
 try clear hfz29_1
 try clear hfz29_2
 try clear hfz32_0
 try clear hfz32_1
 try clear hfz32_2
 try clear hfz33_0
 try clear hfz33_1
 try clear hfz33_2
 try clear hfz6_0
 try clear hfz6_1
 try clear hfz6_2
 try clear hfz9_0
 try clear hfz9_1
 try clear hfz9_2
 try clear p2
 obtain ⟨kq, x50_20, rfl, HA, HJ20, BK184, HB⟩ := hcut
 cases kq with
 | zero => exact absurd HA.out (by simp [peristyleref1_CheckValue.j1])
 | succ kj20 => ?_
 have H := HA.out
 clear HA
 simp only [peristyleref1_CheckValue.j1] at H
 by_cases c34 : x50_20 = true
 · subst c34
   have H1 : (some 1) = some r := s8q7
   clear H
   have H := H1
   clear H1
   obtain rfl := Option.some.inj H
   go_wp2
   go_ret
   exact ⟨by first | rfl | (simp [errW_none, errW_some] <;> rfl) | (simp [*, errW_none, errW_some] <;> rfl), by repeat (first | (with_reducible first | exact HB.out | apply below_alloc | apply pw_below_drewN | apply below_drew1 | refine below_set ?_ GE184.out) | exact HB.out)⟩
 replace c34 := Bool.eq_false_iff.mpr c34
 subst c34
 have H1 : (if (a0_2.size : Int) > 200 then (some 2) else (peristyleref1_CheckValue.l0 kj20 0 a0_0 a0_1 a0_2)) = some r := s8q6
 clear H
 have H := H1
 clear H1
 by_cases c35 : (a0_2.size : Int) > 200
 · rw [if_pos c35] at H
   have c35b0 : decide (200 < (a0_2.size : Int)) = true := decide_eq_true c35
   have c35b1 : decide (200 < a0_2.size) = true := decide_eq_true (by omega)
   clear c35
   obtain rfl := Option.some.inj H
   have hcz36_0 : wc.cell? ⟨gb184, 0, none⟩ = some (.int .i64 a0_0) := (blk_cell BK184.out 0).trans rfl
   have hcz36_1 : wc.cell? ⟨gb184, 1, none⟩ = some (.int .i64 a0_1) := (blk_cell BK184.out 1).trans rfl
   have hcz36_2 : wc.cell? ⟨gb184, 2, none⟩ = some (.string a0_2) := (blk_cell BK184.out 2).trans rfl
   have hfz36_0 := blk_frozen BK184.out 0
   have hfz36_1 := blk_frozen BK184.out 1
   have hfz36_2 := blk_frozen BK184.out 2
   go_wp2
   go_ret
   exact ⟨by first | rfl | (simp [errW_none, errW_some] <;> rfl) | (simp [*, errW_none, errW_some] <;> rfl), by repeat (first | (with_reducible first | exact HB.out | apply below_alloc | apply pw_below_drewN | apply below_drew1 | refine below_set ?_ GE184.out) | exact HB.out)⟩
 rw [if_neg c35] at H
 have c35b0 : decide (200 < (a0_2.size : Int)) = false := decide_eq_false c35
 have c35b1 : decide (200 < a0_2.size) = false := decide_eq_false (by omega)
 clear c35
 have H' := Aside0.mk H
 clear H
 have hcz37_0 : wc.cell? ⟨gb184, 0, none⟩ = some (.int .i64 a0_0) := (blk_cell BK184.out 0).trans rfl
 have hcz37_1 : wc.cell? ⟨gb184, 1, none⟩ = some (.int .i64 a0_1) := (blk_cell BK184.out 1).trans rfl
 have hcz37_2 : wc.cell? ⟨gb184, 2, none⟩ = some (.string a0_2) := (blk_cell BK184.out 2).trans rfl
 have hfz37_0 := blk_frozen BK184.out 0
 have hfz37_1 := blk_frozen BK184.out 1
 have hfz37_2 := blk_frozen BK184.out 2
 go_wp2
 go_loopg [3] kj20 (fun kq v3 w' => ∃ (x3_3 : Int), v3 = .int .i64 x3_3 ∧ Aside0 (peristyleref1_CheckValue.l0 kq x3_3 a0_0 a0_1 a0_2 = some r) ∧ Aside0 (kq ≤ kj20) ∧ Aside0 (w'.heap[gb184]? = some (.cells #[.int .i64 a0_0, .int .i64 a0_1, .string a0_2] 54 (0, 0))) ∧ Aside0 (Below w.heap.size w w'))
 case atStart => exact ⟨(0), s8q0, H', ⟨Nat.le_refl _⟩, ⟨by (with_reducible repeat (first | refine blk_drewN ?_ _ | refine blk_drew ?_ | refine blk_alloc ?_ _)); exact BK184.out⟩, ⟨by repeat (first | (with_reducible first | exact HB.out | apply below_alloc | apply pw_below_drewN | apply below_drew1 | refine below_set ?_ GE184.out) | exact HB.out)⟩⟩
 clear H'
 try clear c1
 try clear c2
 try clear p2
 try clear c3
 try clear c4
 try clear c7
 try clear c7b0
 try clear c7b1
 try clear c8
 try clear c8b0
 try clear c8b1
 try clear c11
 try clear c11b0
 try clear c11b1
 try clear c12
 try clear c12b0
 try clear c12b1
 try clear c15
 try clear c15b0
 try clear c15b1
 try clear c16
 try clear c16b0
 try clear c16b1
 try clear c20
 try clear c22
 try clear c22b0
 try clear c22b1
 try clear c24
 try clear c25
 try clear c25b0
 try clear c25b1
 try clear c30
 try clear c30b0
 try clear c30b1
 try clear c34
 try clear c35
 try clear c35b0
 try clear c35b1
 try clear c36
 try clear hcz10_0
 try clear hcz10_1
 try clear hcz10_2
 try clear hcz13_0
 try clear hcz13_1
 try clear hcz13_2
 try clear hcz14_0
 try clear hcz14_1
 try clear hcz14_2
 try clear hcz17_0
 try clear hcz17_1
 try clear hcz17_2
 try clear hcz18_0
 try clear hcz18_1
 try clear hcz18_2
 try clear hcz19_0
 try clear hcz19_1
 try clear hcz19_2
 try clear hcz27_0
 try clear hcz27_1
 try clear hcz27_2
 try clear hcz28_0
 try clear hcz28_1
 try clear hcz28_2
 try clear hcz29_0
 try clear hcz29_1
 try clear hcz29_2
 try clear hcz32_0
 try clear hcz32_1
 try clear hcz32_2
 try clear hcz33_0
 try clear hcz33_1
 try clear hcz33_2
 try clear hcz36_0
 try clear hcz36_1
 try clear hcz36_2
 try clear hcz37_0
 try clear hcz37_1
 try clear hcz37_2
 try clear hcz6_0
 try clear hcz6_1
 try clear hcz6_2
 try clear hcz9_0
 try clear hcz9_1
 try clear hcz9_2
 try clear hfz10_0
 try clear hfz10_1
 try clear hfz10_2
 try clear hfz13_0
 try clear hfz13_1
 try clear hfz13_2
 try clear hfz14_0
 try clear hfz14_1
 try clear hfz14_2
 try clear hfz17_0
 try clear hfz17_1
 try clear hfz17_2
 try clear hfz18_0
 try clear hfz18_1
 try clear hfz18_2
 try clear hfz19_0
 try clear hfz19_1
 try clear hfz19_2
 try clear hfz27_0
 try clear hfz27_1
 try clear hfz27_2
 try clear hfz28_0
 try clear hfz28_1
 try clear hfz28_2
 try clear hfz29_0
 try clear hfz29_1
 try clear hfz29_2
 try clear hfz32_0
 try clear hfz32_1
 try clear hfz32_2
 try clear hfz33_0
 try clear hfz33_1
 try clear hfz33_2
 try clear hfz36_0
 try clear hfz36_1
 try clear hfz36_2
 try clear hfz37_0
 try clear hfz37_1
 try clear hfz37_2
 try clear hfz6_0
 try clear hfz6_1
 try clear hfz6_2
 try clear hfz9_0
 try clear hfz9_1
 try clear hfz9_2
 try clear p2
 obtain ⟨x3_3, rfl, HA, HK3, BK184, HB⟩ := hrel
 cases gk with
 | zero => exact absurd HA.out (by simp [peristyleref1_CheckValue.l0])
 | succ k3 => ?_
 have H := HA.out
 clear HA
 simp only [peristyleref1_CheckValue.l0] at H
 by_cases c38 : x3_3 < (a0_2.size : Int)
 case neg =>
  rw [if_neg c38] at H
  have c38b0 : decide (x3_3 < (a0_2.size : Int)) = false := decide_eq_false c38
  clear c38
  obtain rfl := Option.some.inj H
  have hcz47_0 : wr.cell? ⟨gb184, 0, none⟩ = some (.int .i64 a0_0) := (blk_cell BK184.out 0).trans rfl
  have hcz47_1 : wr.cell? ⟨gb184, 1, none⟩ = some (.int .i64 a0_1) := (blk_cell BK184.out 1).trans rfl
  have hcz47_2 : wr.cell? ⟨gb184, 2, none⟩ = some (.string a0_2) := (blk_cell BK184.out 2).trans rfl
  have hfz47_0 := blk_frozen BK184.out 0
  have hfz47_1 := blk_frozen BK184.out 1
  have hfz47_2 := blk_frozen BK184.out 2
  go_wp2
  go_ret
  exact ⟨by first | rfl | (simp [errW_none, errW_some] <;> rfl) | (simp [*, errW_none, errW_some] <;> rfl), by repeat (first | (with_reducible first | exact HB.out | apply below_alloc | apply pw_below_drewN | apply below_drew1 | refine below_set ?_ GE184.out) | exact HB.out)⟩
 rw [if_pos c38] at H
 have c38b0 : decide (x3_3 < (a0_2.size : Int)) = true := decide_eq_true c38
 clear c38
 by_cases c39 : 0 ≤ x3_3
 case neg =>
  rw [if_neg c39] at H
  exact absurd H (by simp)
 rw [if_pos c39] at H
 have c39b0 : decide (0 ≤ x3_3) = true := decide_eq_true c39
 clear c39
 by_cases c41 : (bt a0_2 x3_3) < 32
 · rw [if_pos c41] at H
   have c41b0 : decide ((bt a0_2 x3_3) < 32) = true := decide_eq_true c41
   clear c41
   obtain rfl := Option.some.inj H
   have hcz42_0 : wr.cell? ⟨gb184, 0, none⟩ = some (.int .i64 a0_0) := (blk_cell BK184.out 0).trans rfl
   have hcz42_1 : wr.cell? ⟨gb184, 1, none⟩ = some (.int .i64 a0_1) := (blk_cell BK184.out 1).trans rfl
   have hcz42_2 : wr.cell? ⟨gb184, 2, none⟩ = some (.string a0_2) := (blk_cell BK184.out 2).trans rfl
   have hfz42_0 := blk_frozen BK184.out 0
   have hfz42_1 := blk_frozen BK184.out 1
   have hfz42_2 := blk_frozen BK184.out 2
   have p40 : 0 ≤ (x3_3 : Int) := of_decide_eq_true s8q1
   have q40 : x3_3 < (a0_2.size : Int) := of_decide_eq_true s8q1
   have hx40 := bt_at a0_2 x3_3
   replace p40 := eq_true p40
   replace q40 := eq_true q40
   go_wp2
   go_ret
   exact ⟨by first | rfl | (simp [errW_none, errW_some] <;> rfl) | (simp [*, errW_none, errW_some] <;> rfl), by repeat (first | (with_reducible first | exact HB.out | apply below_alloc | apply pw_below_drewN | apply below_drew1 | refine below_set ?_ GE184.out) | exact HB.out)⟩
 rw [if_neg c41] at H
 have c41b0 : decide ((bt a0_2 x3_3) < 32) = false := decide_eq_false c41
 clear c41
 by_cases c44 : (bt a0_2 x3_3) > 126
 · rw [if_pos c44] at H
   have c44b0 : decide (126 < (bt a0_2 x3_3)) = true := decide_eq_true c44
   clear c44
   obtain rfl := Option.some.inj H
   have hcz45_0 : wr.cell? ⟨gb184, 0, none⟩ = some (.int .i64 a0_0) := (blk_cell BK184.out 0).trans rfl
   have hcz45_1 : wr.cell? ⟨gb184, 1, none⟩ = some (.int .i64 a0_1) := (blk_cell BK184.out 1).trans rfl
   have hcz45_2 : wr.cell? ⟨gb184, 2, none⟩ = some (.string a0_2) := (blk_cell BK184.out 2).trans rfl
   have hfz45_0 := blk_frozen BK184.out 0
   have hfz45_1 := blk_frozen BK184.out 1
   have hfz45_2 := blk_frozen BK184.out 2
   have p40 : 0 ≤ (x3_3 : Int) := of_decide_eq_true s8q1
   have q40 : x3_3 < (a0_2.size : Int) := of_decide_eq_true s8q1
   have hx40 := bt_at a0_2 x3_3
   replace p40 := eq_true p40
   replace q40 := eq_true q40
   have p43 : 0 ≤ (x3_3 : Int) := of_decide_eq_true s8q1
   have q43 : x3_3 < (a0_2.size : Int) := of_decide_eq_true s8q1
   have hx43 := bt_at a0_2 x3_3
   replace p43 := eq_true p43
   replace q43 := eq_true q43
   go_wp2
   go_ret
   exact ⟨by first | rfl | (simp [errW_none, errW_some] <;> rfl) | (simp [*, errW_none, errW_some] <;> rfl), by repeat (first | (with_reducible first | exact HB.out | apply below_alloc | apply pw_below_drewN | apply below_drew1 | refine below_set ?_ GE184.out) | exact HB.out)⟩
 rw [if_neg c44] at H
 have c44b0 : decide (126 < (bt a0_2 x3_3)) = false := decide_eq_false c44
 clear c44
 have H' := Aside0.mk H
 clear H
 have hcz46_0 : wr.cell? ⟨gb184, 0, none⟩ = some (.int .i64 a0_0) := (blk_cell BK184.out 0).trans rfl
 have hcz46_1 : wr.cell? ⟨gb184, 1, none⟩ = some (.int .i64 a0_1) := (blk_cell BK184.out 1).trans rfl
 have hcz46_2 : wr.cell? ⟨gb184, 2, none⟩ = some (.string a0_2) := (blk_cell BK184.out 2).trans rfl
 have hfz46_0 := blk_frozen BK184.out 0
 have hfz46_1 := blk_frozen BK184.out 1
 have hfz46_2 := blk_frozen BK184.out 2
 have p40 : 0 ≤ (x3_3 : Int) := of_decide_eq_true s8q1
 have q40 : x3_3 < (a0_2.size : Int) := of_decide_eq_true s8q1
 have hx40 := bt_at a0_2 x3_3
 replace p40 := eq_true p40
 replace q40 := eq_true q40
 have p43 : 0 ≤ (x3_3 : Int) := of_decide_eq_true s8q1
 have q43 : x3_3 < (a0_2.size : Int) := of_decide_eq_true s8q1
 have hx43 := bt_at a0_2 x3_3
 replace p43 := eq_true p43
 replace q43 := eq_true q43
 go_wp2
 first | go_roundg k3 | (refine Handed.intro k3 ?measure ?_; rotate_left; go_step; (repeat apply Exists.intro); simp only [add_plain]; refine ⟨?rel, rfl⟩)
 case measure => have := HJ3.out; have := HJ20.out; have := HK3.out; omega
 case rel => exact ⟨(wrap64 (x3_3 + 1)), s8q0, H', ⟨by have := HJ3.out; have := HJ20.out; have := HK3.out; omega⟩, ⟨by (with_reducible repeat (first | refine blk_drewN ?_ _ | refine blk_drew ?_ | refine blk_alloc ?_ _)); exact BK184.out⟩, ⟨by repeat (first | (with_reducible first | exact HB.out | apply below_alloc | apply pw_below_drewN | apply below_drew1 | refine below_set ?_ GE184.out) | exact HB.out)⟩⟩
end Go.Proofs.YtgdbkhbaekeijaaDoor.F
