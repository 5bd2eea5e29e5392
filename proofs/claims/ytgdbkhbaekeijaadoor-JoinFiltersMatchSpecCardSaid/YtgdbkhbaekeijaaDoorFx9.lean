-- Printed by a program of this session (a patched print).
import Derived.Test.YtgdbkhbaekeijaaDoorFx0
import Derived.Test.YtgdbkhbaekeijaaDoorFx4
import Derived.Test.YtgdbkhbaekeijaaDoorFx6
import Derived.Test.YtgdbkhbaekeijaaDoorFx7
import Derived.Test.YtgdbkhbaekeijaaDoorFx8
namespace Go.Proofs.YtgdbkhbaekeijaaDoor.F
open Go.RowKit Go.Proofs.YtgdbkhbaekeijaaDoorW.PrintWords Go.Proofs.YtgdbkhbaekeijaaDoorW.PrintLast Go.Proofs.YtgdbkhbaekeijaaDoorW.PrintMore
attribute [local go_sem] max2_int min2_int max_two min_two max_three min_three max_four min_four   -- for this text's walks alone
set_option linter.unusedVariables false
set_option linter.unusedSimpArgs false

theorem s9q0 {p : Prop} (h : p := by kernel_rfl) : p := h
theorem s9q1 {p : Prop} (h : p := by injection e192) : p := h
theorem s9q2 {p : Prop} (h : p := by injection e193) : p := h
theorem s9q3 {p : Prop} (h : p := by first | rfl | (simp; done) | (simp [*]; done)) : p := h
theorem s9q4 {p : Prop} (h : p := by first | (with_reducible assumption) | assumption) : p := h
theorem s9q5 {p : Prop} (h : p := by (with_reducible repeat (first | refine blk_drewN ?_ _ | refine blk_drew ?_ | refine blk_alloc ?_ _)); exact BK189.out) : p := h
theorem s9q6 {p : Prop} (h : p := by (with_reducible repeat (first | refine blk_drewN ?_ _ | refine blk_drew ?_ | refine blk_alloc ?_ _)); exact BK195.out) : p := h
theorem s9q7 {p : Prop} (h : p := by (with_reducible repeat (first | refine blk_drewN ?_ _ | refine blk_drew ?_ | refine blk_alloc ?_ _)); exact BK199.out) : p := h
theorem s9q8 {p : Prop} (h : p := by repeat (first | (with_reducible first | exact HB.out | apply below_alloc | apply pw_below_drewN | apply below_drew1) | exact HB.out)) : p := h
theorem s9q9 {p : Prop} (h : p := by (try simp only [List.map_toArray, List.map_cons, List.map_nil]); first | done | rfl | (simp only [List.length_drop, List.length_take]; rfl)) : p := h
theorem s9q10 {p : Prop} (h : p := by repeat (first | (with_reducible first | exact HB.out | apply below_alloc | apply pw_below_drewN | apply below_drew1 | refine below_set ?_ GE189.out) | exact HB.out)) : p := h
theorem s9q11 {p : Prop} (h : p := by repeat (first | (with_reducible first | exact HB.out | apply below_alloc | apply pw_below_drewN | apply below_drew1 | refine below_set ?_ GE195.out) | exact HB.out)) : p := h
theorem s9q12 {p : Prop} (h : p := by repeat (first | (with_reducible first | exact HB.out | apply below_alloc | apply pw_below_drewN | apply below_drew1 | refine below_set ?_ GE199.out) | exact HB.out)) : p := h
theorem s9q13 {p : Prop} (h : p := by rw [List.length_take]; have h_ : (x21_1 : Int) ≤ (l1.length : Int) := of_decide_eq_true s9q4; omega) : p := h
theorem s9q14 {p : Prop} (h : p := by rw [hg]; exact (below_size s9q8)) : p := h
theorem s9q15 {p : Prop} (h : p := by (try simp only [List.map_toArray, List.map_cons, List.map_nil]); first | done | (rw [show (l1.take (x21_1 : Int).toNat).length = x21_1.toNat from s9q13] <;> rfl) | rfl | (simp only [List.length_drop, List.length_take]; rfl)) : p := h
theorem s9q16 {p : Prop} (h : p := by rw [if_neg (show ¬ (false = true) by decide)] at H; exact H) : p := h
/-! ### peristyleref1_CheckRow: function 35 -/
def peristyleref1_CheckRow.l0 : Nat → List (S69) → Int → List (S54) → Option (Int)
  | 0, _, _, _ => none
  | k + 1, x0, x5, x190000 => if x5 < (x0.length : Int) then (if 0 ≤ x5 then (if x5 < (x190000.length : Int) then ((peristyleref1_CheckValue.f k ((rd_T54 x190000 x5).f0) ((rd_T54 x190000 x5).f1) ((rd_T54 x190000 x5).f2)).bind fun t191 => (if t191 = 0 then (if ((rd_T54 x190000 x5).f0) = 0 then (peristyleref1_CheckRow.l0 k x0 (wrap64 (x5 + 1)) x190000) else (if ((rd_T54 x190000 x5).f0) = ((rd_T69 x0 x5).f1) then (peristyleref1_CheckRow.l0 k x0 (wrap64 (x5 + 1)) x190000) else (some 10))) else (some t191))) else (none)) else (none)) else (some 0)
def peristyleref1_CheckRow.f (k : Nat) (l0 : List (S69)) (l1_0 : List (S54)) : Option (Int) := if (l1_0.length : Int) = (l0.length : Int) then (peristyleref1_CheckRow.l0 k l0 0 l1_0) else (some 3)
theorem peristyleref1_CheckRow.mono_l : ∀ k, (∀ y0 y1 y2, LeO (peristyleref1_CheckRow.l0 k y0 y1 y2) (peristyleref1_CheckRow.l0 (k + 1) y0 y1 y2))
  | 0 => fun _ _ _ r h => by simp [peristyleref1_CheckRow.l0] at h
  | k + 1 => by
    have ih0 := peristyleref1_CheckRow.mono_l k
    · intro y0 y1 y2
      unfold peristyleref1_CheckRow.l0
      repeat' first | (with_reducible exact ih0 _ _ _) | (with_reducible exact peristyleref1_CheckValue.mono _ _ _ _) | (with_reducible exact LeO.refl _) | (with_reducible exact LeO.none _) | (with_reducible refine LeO.ite ?_ ?_) | (with_reducible refine LeO.bind ?_ (fun _ => ?_)) | exact ih0 _ _ _ | exact peristyleref1_CheckValue.mono _ _ _ _ | exact LeO.none _ | refine LeO.ite ?_ ?_ | refine LeO.bind ?_ (fun _ => ?_)
theorem peristyleref1_CheckRow.mono : ∀ a0 a1 k, LeO (peristyleref1_CheckRow.f k a0 a1) (peristyleref1_CheckRow.f (k + 1) a0 a1) := by
 intro a0 a1 k
 have ih0 := peristyleref1_CheckRow.mono_l k
 unfold peristyleref1_CheckRow.f
 repeat' first
  | (with_reducible exact ih0 _ _ _)
  | (with_reducible exact peristyleref1_CheckValue.mono _ _ _ _)
  | (with_reducible exact LeO.refl _)
  | (with_reducible exact LeO.none _)
  | (with_reducible refine LeO.ite ?_ ?_)
  | (with_reducible refine LeO.bind ?_ (fun _ => ?_))
  | exact ih0 _ _ _
  | exact peristyleref1_CheckValue.mono _ _ _ _
  | exact LeO.none _
  | refine LeO.ite ?_ ?_
  | refine LeO.bind ?_ (fun _ => ?_)
set_option maxHeartbeats 8000000 in
set_option maxRecDepth 100000 in
theorem peristyleref1_CheckRow.calls (k : Nat) (A0 : Option Addr) (c0 : Nat) (l0 : List (S69)) (A1_0 : Option Addr) (c1_0 : Nat) (l1_0 : List (S54)) (r : Int) (w : World) (hr0 : Kd.C k69 w A0 l0.length l0) (hc0 : l0.length ≤ c0) (hr1_0 : Kd.C k54 w A1_0 l1_0.length l1_0) (hc1_0 : l1_0.length ≤ c1_0) (h : peristyleref1_CheckRow.f k l0 l1_0 = some r) :
    Calls Tryd.prog 35 #[.slice A0 l0.length c0, .agg #[.slice A1_0 l1_0.length c1_0]] w fun e w' => e = .returned (.int .i64 r) ∧ Below w.heap.size w w' := by
 have hu43 := Tryd.underlying43
 have hu54 := Tryd.underlying54
 have HR0 := Aside0.mk hr0
 have HC0 := Aside0.mk hc0
 clear hr0 hc0
 have HR1_0 := Aside0.mk hr1_0
 have HC1_0 := Aside0.mk hc1_0
 clear hr1_0 hc1_0
 have HB := Aside0.mk (Below.refl w.heap.size w)
 have H : (if (l1_0.length : Int) = (l0.length : Int) then (peristyleref1_CheckRow.l0 k l0 0 l1_0) else (some 3)) = some r := h
 clear h
 by_cases c3 : (l1_0.length : Int) = (l0.length : Int)
 case neg =>
  rw [if_neg c3] at H
  have c3b0 : ((l1_0.length : Int) == (l0.length : Int)) = false := beq_eq_false_iff_ne.mpr c3
  have c3b1 : ((l1_0.length : Int) != (l0.length : Int)) = true := bne_iff_ne.mpr c3
  have c3b2 : (l1_0.length == l0.length) = false := by first | simpa using c3 | (simp at c3 ⊢; omega)
  obtain rfl := Option.some.inj H
  go_enter Tryd.func35, Tryd.ntmps35
  go_wp2_with (first | ((with_reducible refine gate_dst (N := 3) rfl ?_); refine box_event ?hg (N := 3) ?hd (cs := #[.slice A1_0 l1_0.length c1_0]) (t := 43) ?hr ?_; (case hd => rfl); (case hg => rfl); (case hr => first | (go_simp; done) | (go_simp; rfl)); intro gb189 hg w24 hbox hb; have n0_ := Aside0.mk (below_step s9q8 hb); have n1_ := Aside0.mk (hbox); have n2_ := Aside0.mk ((s9q14 : w.heap.size ≤ gb189)); have n3_ := Aside0.mk ((s9q14 : w.heap.size ≤ gb189)); clear HB; have HB := n0_; have BK189 := n1_; have GW189 := n2_; have GE189 := n3_; clear n0_ n1_ n2_ n3_; clear hb hbox hg; have hcz25_0 : w24.cell? ⟨gb189, 0, none⟩ = some (.slice A1_0 l1_0.length c1_0) := (blk_cell BK189.out 0).trans rfl; have hfz25_0 := blk_frozen BK189.out 0))
  repeat (go_quiet (first | ((with_reducible refine gate_dst (N := 3) rfl ?_); refine box_event ?hg (N := 3) ?hd (cs := #[.slice A1_0 l1_0.length c1_0]) (t := 43) ?hr ?_; (case hd => rfl); (case hg => rfl); (case hr => first | (go_simp; done) | (go_simp; rfl)); intro gb189 hg w24 hbox hb; have n0_ := Aside0.mk (below_step s9q8 hb); have n1_ := Aside0.mk (hbox); have n2_ := Aside0.mk ((s9q14 : w.heap.size ≤ gb189)); have n3_ := Aside0.mk ((s9q14 : w.heap.size ≤ gb189)); clear HB; have HB := n0_; have BK189 := n1_; have GW189 := n2_; have GE189 := n3_; clear n0_ n1_ n2_ n3_; clear hb hbox hg; have hcz25_0 : w24.cell? ⟨gb189, 0, none⟩ = some (.slice A1_0 l1_0.length c1_0) := (blk_cell BK189.out 0).trans rfl; have hfz25_0 := blk_frozen BK189.out 0)); try go_wp2_with (first | ((with_reducible refine gate_dst (N := 3) rfl ?_); refine box_event ?hg (N := 3) ?hd (cs := #[.slice A1_0 l1_0.length c1_0]) (t := 43) ?hr ?_; (case hd => rfl); (case hg => rfl); (case hr => first | (go_simp; done) | (go_simp; rfl)); intro gb189 hg w24 hbox hb; have n0_ := Aside0.mk (below_step s9q8 hb); have n1_ := Aside0.mk (hbox); have n2_ := Aside0.mk ((s9q14 : w.heap.size ≤ gb189)); have n3_ := Aside0.mk ((s9q14 : w.heap.size ≤ gb189)); clear HB; have HB := n0_; have BK189 := n1_; have GW189 := n2_; have GE189 := n3_; clear n0_ n1_ n2_ n3_; clear hb hbox hg; have hcz25_0 : w24.cell? ⟨gb189, 0, none⟩ = some (.slice A1_0 l1_0.length c1_0) := (blk_cell BK189.out 0).trans rfl; have hfz25_0 := blk_frozen BK189.out 0)))
  go_ret
  exact ⟨by first | rfl | (simp [errW_none, errW_some] <;> rfl) | (simp [*, errW_none, errW_some] <;> rfl), by repeat (first | (with_reducible first | exact HB.out | apply below_alloc | apply pw_below_drewN | apply below_drew1 | refine below_set ?_ GE189.out) | exact HB.out)⟩
 rw [if_pos c3] at H
 have c3b0 : ((l1_0.length : Int) == (l0.length : Int)) = true := beq_iff_eq.mpr c3
 have c3b1 : ((l1_0.length : Int) != (l0.length : Int)) = false := bne_eq_false_iff_eq.mpr c3
 have c3b2 : (l1_0.length == l0.length) = true := by first | simpa using c3 | (simp at c3 ⊢; omega)
 clear c3
 have H' := Aside0.mk H
 clear H
 go_enter Tryd.func35, Tryd.ntmps35
 go_wp2_with (first | ((with_reducible refine gate_dst (N := 3) rfl ?_); refine box_event ?hg (N := 3) ?hd (cs := #[.slice A1_0 l1_0.length c1_0]) (t := 43) ?hr ?_; (case hd => rfl); (case hg => rfl); (case hr => first | (go_simp; done) | (go_simp; rfl)); intro gb189 hg w4 hbox hb; have n0_ := Aside0.mk (below_step s9q8 hb); have n1_ := Aside0.mk (hbox); have n2_ := Aside0.mk ((s9q14 : w.heap.size ≤ gb189)); have n3_ := Aside0.mk ((s9q14 : w.heap.size ≤ gb189)); clear HB; have HB := n0_; have BK189 := n1_; have GW189 := n2_; have GE189 := n3_; clear n0_ n1_ n2_ n3_; clear hb hbox hg; have hcz5_0 : w4.cell? ⟨gb189, 0, none⟩ = some (.slice A1_0 l1_0.length c1_0) := (blk_cell BK189.out 0).trans rfl; have hfz5_0 := blk_frozen BK189.out 0))
 go_loopg [5] k (fun kq v5 w' => ∃ (x5_1 : Int), v5 = .int .i64 x5_1 ∧ Aside0 (peristyleref1_CheckRow.l0 kq l0 x5_1 l1_0 = some r) ∧ Aside0 (kq ≤ k) ∧ Aside0 (w'.heap[gb189]? = some (.cells #[(.slice A1_0 l1_0.length c1_0)] 43 (0, 0))) ∧ Aside0 (Below w.heap.size w w'))
 case atStart => exact ⟨(0), s9q3, H', ⟨Nat.le_refl _⟩, ⟨by (with_reducible repeat (first | refine blk_drewN ?_ _ | refine blk_drew ?_ | refine blk_alloc ?_ _)); exact BK189.out⟩, ⟨by repeat (first | (with_reducible first | exact HB.out | apply below_alloc | apply pw_below_drewN | apply below_drew1 | refine below_set ?_ GE189.out) | exact HB.out)⟩⟩
 clear H'
 try clear c1
 try clear p2
 try clear c3
 try clear c3b0
 try clear c3b1
 try clear c3b2
 try clear hcz5_0
 try clear hfz5_0
 obtain ⟨x5_1, rfl, HA, HK1, BK189, HB⟩ := hrel
 cases gk with
 | zero => exact absurd HA.out (by simp [peristyleref1_CheckRow.l0])
 | succ k1 => ?_
 have H := HA.out
 clear HA
 simp only [peristyleref1_CheckRow.l0] at H
 by_cases c6 : x5_1 < (l0.length : Int)
 case neg =>
  rw [if_neg c6] at H
  have c6b0 : decide (x5_1 < (l0.length : Int)) = false := decide_eq_false c6
  clear c6
  obtain rfl := Option.some.inj H
  go_wp2
  repeat (go_quiet (fail); try go_wp2)
  go_ret
  exact ⟨by first | rfl | (simp [errW_none, errW_some] <;> rfl) | (simp [*, errW_none, errW_some] <;> rfl), by repeat (first | (with_reducible first | exact HB.out | apply below_alloc | apply pw_below_drewN | apply below_drew1 | refine below_set ?_ GE189.out) | exact HB.out)⟩
 rw [if_pos c6] at H
 have c6b0 : decide (x5_1 < (l0.length : Int)) = true := decide_eq_true c6
 clear c6
 by_cases c7 : 0 ≤ x5_1
 case neg =>
  rw [if_neg c7] at H
  exact absurd H (by simp)
 rw [if_pos c7] at H
 have c7b0 : decide (0 ≤ x5_1) = true := decide_eq_true c7
 clear c7
 by_cases c8 : x5_1 < (l1_0.length : Int)
 case neg =>
  rw [if_neg c8] at H
  exact absurd H (by simp)
 rw [if_pos c8] at H
 have c8b0 : decide (x5_1 < (l1_0.length : Int)) = true := decide_eq_true c8
 clear c8
 replace H := Option.bind_eq_some_iff.mp H
 obtain ⟨t191, A90, H⟩ := H
 replace H : (if t191 = 0 then (if ((rd_T54 l1_0 x5_1).f0) = 0 then (peristyleref1_CheckRow.l0 k1 l0 (wrap64 (x5_1 + 1)) l1_0) else (if ((rd_T54 l1_0 x5_1).f0) = ((rd_T69 l0 x5_1).f1) then (peristyleref1_CheckRow.l0 k1 l0 (wrap64 (x5_1 + 1)) l1_0) else (some 10))) else (some t191)) = some r := H
 have A9 := Aside0.mk A90
 clear A90
 by_cases c10 : t191 = 0
 case neg =>
  rw [if_neg c10] at H
  have c10b0 : (t191 == 0) = false := beq_eq_false_iff_ne.mpr c10
  have c10b1 : (t191 != 0) = true := bne_iff_ne.mpr c10
  obtain rfl := Option.some.inj H
  have hcz22_0 : wr.cell? ⟨gb189, 0, none⟩ = some (.slice A1_0 l1_0.length c1_0) := (blk_cell BK189.out 0).trans rfl
  have hfz22_0 := blk_frozen BK189.out 0
  have p190 : 0 ≤ (x5_1 : Int) := of_decide_eq_true s9q4
  have q190 : x5_1 < (l1_0.length : Int) := of_decide_eq_true s9q4
  obtain ⟨ad190, e190, hx190_0, hx190_1, hx190_2⟩ := at_T54 HR1_0.out x5_1 p190 q190
  cases e190
  replace hx190_0 := (HB.out.cell (World.block_lt_of_cell? w _ hx190_0)).trans hx190_0
  replace hx190_1 := (HB.out.cell (World.block_lt_of_cell? w _ hx190_1)).trans hx190_1
  replace hx190_2 := (HB.out.cell (World.block_lt_of_cell? w _ hx190_2)).trans hx190_2
  replace p190 := eq_true p190
  replace q190 := eq_true q190
  go_wp2_with (first | (go_at_call 36; (with_reducible refine (peristyleref1_CheckValue.calls k1 ((rd_T54 l1_0 x5_1).f0) ((rd_T54 l1_0 x5_1).f1) ((rd_T54 l1_0 x5_1).f2) t191 _ A9.out).mono ?_); rintro e w23 ⟨rfl, hb⟩; have n0_ := Aside0.mk (blk_below (g := gb189) (o := .cells #[.slice (some ad190) l1_0.length c1_0] 43 (0, 0)) s9q5 hb); have n1_ := Aside0.mk (below_step s9q10 hb); clear BK189; clear HB; have BK189 := n0_; have HB := n1_; clear n0_ n1_; (try clear hb); (try clear hb2); (try clear hk); (try clear hi)))
  repeat (go_quiet (first | (go_at_call 36; (with_reducible refine (peristyleref1_CheckValue.calls k1 ((rd_T54 l1_0 x5_1).f0) ((rd_T54 l1_0 x5_1).f1) ((rd_T54 l1_0 x5_1).f2) t191 _ A9.out).mono ?_); rintro e w23 ⟨rfl, hb⟩; have n0_ := Aside0.mk (blk_below (g := gb189) (o := .cells #[.slice (some ad190) l1_0.length c1_0] 43 (0, 0)) s9q5 hb); have n1_ := Aside0.mk (below_step s9q10 hb); clear BK189; clear HB; have BK189 := n0_; have HB := n1_; clear n0_ n1_; (try clear hb); (try clear hb2); (try clear hk); (try clear hi))); try go_wp2_with (first | (go_at_call 36; (with_reducible refine (peristyleref1_CheckValue.calls k1 ((rd_T54 l1_0 x5_1).f0) ((rd_T54 l1_0 x5_1).f1) ((rd_T54 l1_0 x5_1).f2) t191 _ A9.out).mono ?_); rintro e w23 ⟨rfl, hb⟩; have n0_ := Aside0.mk (blk_below (g := gb189) (o := .cells #[.slice (some ad190) l1_0.length c1_0] 43 (0, 0)) s9q5 hb); have n1_ := Aside0.mk (below_step s9q10 hb); clear BK189; clear HB; have BK189 := n0_; have HB := n1_; clear n0_ n1_; (try clear hb); (try clear hb2); (try clear hk); (try clear hi))))
  go_ret
  exact ⟨by first | rfl | (simp [errW_none, errW_some] <;> rfl) | (simp [*, errW_none, errW_some] <;> rfl), by repeat (first | (with_reducible first | exact HB.out | apply below_alloc | apply pw_below_drewN | apply below_drew1 | refine below_set ?_ GE189.out) | exact HB.out)⟩
 rw [if_pos c10] at H
 have c10b0 : (t191 == 0) = true := beq_iff_eq.mpr c10
 have c10b1 : (t191 != 0) = false := bne_eq_false_iff_eq.mpr c10
 clear c10
 by_cases c11 : ((rd_T54 l1_0 x5_1).f0) = 0
 · rw [if_pos c11] at H
   have c11b0 : (((rd_T54 l1_0 x5_1).f0) == 0) = true := beq_iff_eq.mpr c11
   have c11b1 : (((rd_T54 l1_0 x5_1).f0) != 0) = false := bne_eq_false_iff_eq.mpr c11
   clear c11
   have H' := Aside0.mk H
   clear H
   have hcz12_0 : wr.cell? ⟨gb189, 0, none⟩ = some (.slice A1_0 l1_0.length c1_0) := (blk_cell BK189.out 0).trans rfl
   have hfz12_0 := blk_frozen BK189.out 0
   have p190 : 0 ≤ (x5_1 : Int) := of_decide_eq_true s9q4
   have q190 : x5_1 < (l1_0.length : Int) := of_decide_eq_true s9q4
   obtain ⟨ad190, e190, hx190_0, hx190_1, hx190_2⟩ := at_T54 HR1_0.out x5_1 p190 q190
   cases e190
   replace hx190_0 := (HB.out.cell (World.block_lt_of_cell? w _ hx190_0)).trans hx190_0
   replace hx190_1 := (HB.out.cell (World.block_lt_of_cell? w _ hx190_1)).trans hx190_1
   replace hx190_2 := (HB.out.cell (World.block_lt_of_cell? w _ hx190_2)).trans hx190_2
   replace p190 := eq_true p190
   replace q190 := eq_true q190
   go_wp2_with (first | (go_at_call 36; (with_reducible refine (peristyleref1_CheckValue.calls k1 ((rd_T54 l1_0 x5_1).f0) ((rd_T54 l1_0 x5_1).f1) ((rd_T54 l1_0 x5_1).f2) t191 _ A9.out).mono ?_); rintro e w13 ⟨rfl, hb⟩; have n0_ := Aside0.mk (blk_below (g := gb189) (o := .cells #[.slice (some ad190) l1_0.length c1_0] 43 (0, 0)) s9q5 hb); have n1_ := Aside0.mk (below_step s9q10 hb); clear BK189; clear HB; have BK189 := n0_; have HB := n1_; clear n0_ n1_; (try clear hb); (try clear hb2); (try clear hk); (try clear hi); have hcz14_0 : w13.cell? ⟨gb189, 0, none⟩ = some (.slice (some ad190) l1_0.length c1_0) := (blk_cell BK189.out 0).trans rfl; have hfz14_0 := blk_frozen BK189.out 0; have p192 : 0 ≤ (x5_1 : Int) := of_decide_eq_true s9q4; have q192 : x5_1 < (l1_0.length : Int) := of_decide_eq_true s9q4; obtain ⟨ad192, e192, hx192_0, hx192_1, hx192_2⟩ := at_T54 HR1_0.out x5_1 p192 q192; obtain rfl : ad190 = ad192 := s9q1; replace hx192_0 := (HB.out.cell (World.block_lt_of_cell? w _ hx192_0)).trans hx192_0; replace hx192_1 := (HB.out.cell (World.block_lt_of_cell? w _ hx192_1)).trans hx192_1; replace hx192_2 := (HB.out.cell (World.block_lt_of_cell? w _ hx192_2)).trans hx192_2; replace p192 := eq_true p192; replace q192 := eq_true q192))
   repeat (go_quiet (first | (go_at_call 36; (with_reducible refine (peristyleref1_CheckValue.calls k1 ((rd_T54 l1_0 x5_1).f0) ((rd_T54 l1_0 x5_1).f1) ((rd_T54 l1_0 x5_1).f2) t191 _ A9.out).mono ?_); rintro e w13 ⟨rfl, hb⟩; have n0_ := Aside0.mk (blk_below (g := gb189) (o := .cells #[.slice (some ad190) l1_0.length c1_0] 43 (0, 0)) s9q5 hb); have n1_ := Aside0.mk (below_step s9q10 hb); clear BK189; clear HB; have BK189 := n0_; have HB := n1_; clear n0_ n1_; (try clear hb); (try clear hb2); (try clear hk); (try clear hi); have hcz14_0 : w13.cell? ⟨gb189, 0, none⟩ = some (.slice (some ad190) l1_0.length c1_0) := (blk_cell BK189.out 0).trans rfl; have hfz14_0 := blk_frozen BK189.out 0; have p192 : 0 ≤ (x5_1 : Int) := of_decide_eq_true s9q4; have q192 : x5_1 < (l1_0.length : Int) := of_decide_eq_true s9q4; obtain ⟨ad192, e192, hx192_0, hx192_1, hx192_2⟩ := at_T54 HR1_0.out x5_1 p192 q192; obtain rfl : ad190 = ad192 := s9q1; replace hx192_0 := (HB.out.cell (World.block_lt_of_cell? w _ hx192_0)).trans hx192_0; replace hx192_1 := (HB.out.cell (World.block_lt_of_cell? w _ hx192_1)).trans hx192_1; replace hx192_2 := (HB.out.cell (World.block_lt_of_cell? w _ hx192_2)).trans hx192_2; replace p192 := eq_true p192; replace q192 := eq_true q192)); try go_wp2_with (first | (go_at_call 36; (with_reducible refine (peristyleref1_CheckValue.calls k1 ((rd_T54 l1_0 x5_1).f0) ((rd_T54 l1_0 x5_1).f1) ((rd_T54 l1_0 x5_1).f2) t191 _ A9.out).mono ?_); rintro e w13 ⟨rfl, hb⟩; have n0_ := Aside0.mk (blk_below (g := gb189) (o := .cells #[.slice (some ad190) l1_0.length c1_0] 43 (0, 0)) s9q5 hb); have n1_ := Aside0.mk (below_step s9q10 hb); clear BK189; clear HB; have BK189 := n0_; have HB := n1_; clear n0_ n1_; (try clear hb); (try clear hb2); (try clear hk); (try clear hi); have hcz14_0 : w13.cell? ⟨gb189, 0, none⟩ = some (.slice (some ad190) l1_0.length c1_0) := (blk_cell BK189.out 0).trans rfl; have hfz14_0 := blk_frozen BK189.out 0; have p192 : 0 ≤ (x5_1 : Int) := of_decide_eq_true s9q4; have q192 : x5_1 < (l1_0.length : Int) := of_decide_eq_true s9q4; obtain ⟨ad192, e192, hx192_0, hx192_1, hx192_2⟩ := at_T54 HR1_0.out x5_1 p192 q192; obtain rfl : ad190 = ad192 := s9q1; replace hx192_0 := (HB.out.cell (World.block_lt_of_cell? w _ hx192_0)).trans hx192_0; replace hx192_1 := (HB.out.cell (World.block_lt_of_cell? w _ hx192_1)).trans hx192_1; replace hx192_2 := (HB.out.cell (World.block_lt_of_cell? w _ hx192_2)).trans hx192_2; replace p192 := eq_true p192; replace q192 := eq_true q192)))
   first | go_roundg k1 | (refine Handed.intro k1 ?measure ?_; rotate_left; go_step; (repeat apply Exists.intro); simp only [add_plain]; refine ⟨?rel, rfl⟩)
   case measure => have := HK1.out; omega
   case rel => exact ⟨(wrap64 (x5_1 + 1)), s9q3, H', ⟨by have := HK1.out; omega⟩, ⟨by (with_reducible repeat (first | refine blk_drewN ?_ _ | refine blk_drew ?_ | refine blk_alloc ?_ _)); exact BK189.out⟩, ⟨by repeat (first | (with_reducible first | exact HB.out | apply below_alloc | apply pw_below_drewN | apply below_drew1 | refine below_set ?_ GE189.out) | exact HB.out)⟩⟩
 rw [if_neg c11] at H
 have c11b0 : (((rd_T54 l1_0 x5_1).f0) == 0) = false := beq_eq_false_iff_ne.mpr c11
 have c11b1 : (((rd_T54 l1_0 x5_1).f0) != 0) = true := bne_iff_ne.mpr c11
 by_cases c15 : ((rd_T54 l1_0 x5_1).f0) = ((rd_T69 l0 x5_1).f1)
 case neg =>
  rw [if_neg c15] at H
  have c15b0 : (((rd_T54 l1_0 x5_1).f0) == ((rd_T69 l0 x5_1).f1)) = false := beq_eq_false_iff_ne.mpr c15
  have c15b1 : (((rd_T54 l1_0 x5_1).f0) != ((rd_T69 l0 x5_1).f1)) = true := bne_iff_ne.mpr c15
  obtain rfl := Option.some.inj H
  have hcz19_0 : wr.cell? ⟨gb189, 0, none⟩ = some (.slice A1_0 l1_0.length c1_0) := (blk_cell BK189.out 0).trans rfl
  have hfz19_0 := blk_frozen BK189.out 0
  have p190 : 0 ≤ (x5_1 : Int) := of_decide_eq_true s9q4
  have q190 : x5_1 < (l1_0.length : Int) := of_decide_eq_true s9q4
  obtain ⟨ad190, e190, hx190_0, hx190_1, hx190_2⟩ := at_T54 HR1_0.out x5_1 p190 q190
  cases e190
  replace hx190_0 := (HB.out.cell (World.block_lt_of_cell? w _ hx190_0)).trans hx190_0
  replace hx190_1 := (HB.out.cell (World.block_lt_of_cell? w _ hx190_1)).trans hx190_1
  replace hx190_2 := (HB.out.cell (World.block_lt_of_cell? w _ hx190_2)).trans hx190_2
  replace p190 := eq_true p190
  replace q190 := eq_true q190
  go_wp2_with (first | (go_at_call 36; (with_reducible refine (peristyleref1_CheckValue.calls k1 ((rd_T54 l1_0 x5_1).f0) ((rd_T54 l1_0 x5_1).f1) ((rd_T54 l1_0 x5_1).f2) t191 _ A9.out).mono ?_); rintro e w20 ⟨rfl, hb⟩; have n0_ := Aside0.mk (blk_below (g := gb189) (o := .cells #[.slice (some ad190) l1_0.length c1_0] 43 (0, 0)) s9q5 hb); have n1_ := Aside0.mk (below_step s9q10 hb); clear BK189; clear HB; have BK189 := n0_; have HB := n1_; clear n0_ n1_; (try clear hb); (try clear hb2); (try clear hk); (try clear hi); have hcz21_0 : w20.cell? ⟨gb189, 0, none⟩ = some (.slice (some ad190) l1_0.length c1_0) := (blk_cell BK189.out 0).trans rfl; have hfz21_0 := blk_frozen BK189.out 0; have p192 : 0 ≤ (x5_1 : Int) := of_decide_eq_true s9q4; have q192 : x5_1 < (l1_0.length : Int) := of_decide_eq_true s9q4; obtain ⟨ad192, e192, hx192_0, hx192_1, hx192_2⟩ := at_T54 HR1_0.out x5_1 p192 q192; obtain rfl : ad190 = ad192 := s9q1; replace hx192_0 := (HB.out.cell (World.block_lt_of_cell? w _ hx192_0)).trans hx192_0; replace hx192_1 := (HB.out.cell (World.block_lt_of_cell? w _ hx192_1)).trans hx192_1; replace hx192_2 := (HB.out.cell (World.block_lt_of_cell? w _ hx192_2)).trans hx192_2; replace p192 := eq_true p192; replace q192 := eq_true q192; have p193 : 0 ≤ (x5_1 : Int) := of_decide_eq_true s9q4; have q193 : x5_1 < (l1_0.length : Int) := of_decide_eq_true s9q4; obtain ⟨ad193, e193, hx193_0, hx193_1, hx193_2⟩ := at_T54 HR1_0.out x5_1 p193 q193; obtain rfl : ad190 = ad193 := s9q2; replace hx193_0 := (HB.out.cell (World.block_lt_of_cell? w _ hx193_0)).trans hx193_0; replace hx193_1 := (HB.out.cell (World.block_lt_of_cell? w _ hx193_1)).trans hx193_1; replace hx193_2 := (HB.out.cell (World.block_lt_of_cell? w _ hx193_2)).trans hx193_2; replace p193 := eq_true p193; replace q193 := eq_true q193; have p194 : 0 ≤ (x5_1 : Int) := of_decide_eq_true s9q4; have q194 : x5_1 < (l0.length : Int) := of_decide_eq_true s9q4; obtain ⟨ad194, e194, hx194_0, hx194_1⟩ := at_T69 HR0.out x5_1 p194 q194; cases e194; replace hx194_0 := (HB.out.cell (World.block_lt_of_cell? w _ hx194_0)).trans hx194_0; replace hx194_1 := (HB.out.cell (World.block_lt_of_cell? w _ hx194_1)).trans hx194_1; replace p194 := eq_true p194; replace q194 := eq_true q194))
  repeat (go_quiet (first | (go_at_call 36; (with_reducible refine (peristyleref1_CheckValue.calls k1 ((rd_T54 l1_0 x5_1).f0) ((rd_T54 l1_0 x5_1).f1) ((rd_T54 l1_0 x5_1).f2) t191 _ A9.out).mono ?_); rintro e w20 ⟨rfl, hb⟩; have n0_ := Aside0.mk (blk_below (g := gb189) (o := .cells #[.slice (some ad190) l1_0.length c1_0] 43 (0, 0)) s9q5 hb); have n1_ := Aside0.mk (below_step s9q10 hb); clear BK189; clear HB; have BK189 := n0_; have HB := n1_; clear n0_ n1_; (try clear hb); (try clear hb2); (try clear hk); (try clear hi); have hcz21_0 : w20.cell? ⟨gb189, 0, none⟩ = some (.slice (some ad190) l1_0.length c1_0) := (blk_cell BK189.out 0).trans rfl; have hfz21_0 := blk_frozen BK189.out 0; have p192 : 0 ≤ (x5_1 : Int) := of_decide_eq_true s9q4; have q192 : x5_1 < (l1_0.length : Int) := of_decide_eq_true s9q4; obtain ⟨ad192, e192, hx192_0, hx192_1, hx192_2⟩ := at_T54 HR1_0.out x5_1 p192 q192; obtain rfl : ad190 = ad192 := s9q1; replace hx192_0 := (HB.out.cell (World.block_lt_of_cell? w _ hx192_0)).trans hx192_0; replace hx192_1 := (HB.out.cell (World.block_lt_of_cell? w _ hx192_1)).trans hx192_1; replace hx192_2 := (HB.out.cell (World.block_lt_of_cell? w _ hx192_2)).trans hx192_2; replace p192 := eq_true p192; replace q192 := eq_true q192; have p193 : 0 ≤ (x5_1 : Int) := of_decide_eq_true s9q4; have q193 : x5_1 < (l1_0.length : Int) := of_decide_eq_true s9q4; obtain ⟨ad193, e193, hx193_0, hx193_1, hx193_2⟩ := at_T54 HR1_0.out x5_1 p193 q193; obtain rfl : ad190 = ad193 := s9q2; replace hx193_0 := (HB.out.cell (World.block_lt_of_cell? w _ hx193_0)).trans hx193_0; replace hx193_1 := (HB.out.cell (World.block_lt_of_cell? w _ hx193_1)).trans hx193_1; replace hx193_2 := (HB.out.cell (World.block_lt_of_cell? w _ hx193_2)).trans hx193_2; replace p193 := eq_true p193; replace q193 := eq_true q193; have p194 : 0 ≤ (x5_1 : Int) := of_decide_eq_true s9q4; have q194 : x5_1 < (l0.length : Int) := of_decide_eq_true s9q4; obtain ⟨ad194, e194, hx194_0, hx194_1⟩ := at_T69 HR0.out x5_1 p194 q194; cases e194; replace hx194_0 := (HB.out.cell (World.block_lt_of_cell? w _ hx194_0)).trans hx194_0; replace hx194_1 := (HB.out.cell (World.block_lt_of_cell? w _ hx194_1)).trans hx194_1; replace p194 := eq_true p194; replace q194 := eq_true q194)); try go_wp2_with (first | (go_at_call 36; (with_reducible refine (peristyleref1_CheckValue.calls k1 ((rd_T54 l1_0 x5_1).f0) ((rd_T54 l1_0 x5_1).f1) ((rd_T54 l1_0 x5_1).f2) t191 _ A9.out).mono ?_); rintro e w20 ⟨rfl, hb⟩; have n0_ := Aside0.mk (blk_below (g := gb189) (o := .cells #[.slice (some ad190) l1_0.length c1_0] 43 (0, 0)) s9q5 hb); have n1_ := Aside0.mk (below_step s9q10 hb); clear BK189; clear HB; have BK189 := n0_; have HB := n1_; clear n0_ n1_; (try clear hb); (try clear hb2); (try clear hk); (try clear hi); have hcz21_0 : w20.cell? ⟨gb189, 0, none⟩ = some (.slice (some ad190) l1_0.length c1_0) := (blk_cell BK189.out 0).trans rfl; have hfz21_0 := blk_frozen BK189.out 0; have p192 : 0 ≤ (x5_1 : Int) := of_decide_eq_true s9q4; have q192 : x5_1 < (l1_0.length : Int) := of_decide_eq_true s9q4; obtain ⟨ad192, e192, hx192_0, hx192_1, hx192_2⟩ := at_T54 HR1_0.out x5_1 p192 q192; obtain rfl : ad190 = ad192 := s9q1; replace hx192_0 := (HB.out.cell (World.block_lt_of_cell? w _ hx192_0)).trans hx192_0; replace hx192_1 := (HB.out.cell (World.block_lt_of_cell? w _ hx192_1)).trans hx192_1; replace hx192_2 := (HB.out.cell (World.block_lt_of_cell? w _ hx192_2)).trans hx192_2; replace p192 := eq_true p192; replace q192 := eq_true q192; have p193 : 0 ≤ (x5_1 : Int) := of_decide_eq_true s9q4; have q193 : x5_1 < (l1_0.length : Int) := of_decide_eq_true s9q4; obtain ⟨ad193, e193, hx193_0, hx193_1, hx193_2⟩ := at_T54 HR1_0.out x5_1 p193 q193; obtain rfl : ad190 = ad193 := s9q2; replace hx193_0 := (HB.out.cell (World.block_lt_of_cell? w _ hx193_0)).trans hx193_0; replace hx193_1 := (HB.out.cell (World.block_lt_of_cell? w _ hx193_1)).trans hx193_1; replace hx193_2 := (HB.out.cell (World.block_lt_of_cell? w _ hx193_2)).trans hx193_2; replace p193 := eq_true p193; replace q193 := eq_true q193; have p194 : 0 ≤ (x5_1 : Int) := of_decide_eq_true s9q4; have q194 : x5_1 < (l0.length : Int) := of_decide_eq_true s9q4; obtain ⟨ad194, e194, hx194_0, hx194_1⟩ := at_T69 HR0.out x5_1 p194 q194; cases e194; replace hx194_0 := (HB.out.cell (World.block_lt_of_cell? w _ hx194_0)).trans hx194_0; replace hx194_1 := (HB.out.cell (World.block_lt_of_cell? w _ hx194_1)).trans hx194_1; replace p194 := eq_true p194; replace q194 := eq_true q194)))
  go_ret
  exact ⟨by first | rfl | (simp [errW_none, errW_some] <;> rfl) | (simp [*, errW_none, errW_some] <;> rfl), by repeat (first | (with_reducible first | exact HB.out | apply below_alloc | apply pw_below_drewN | apply below_drew1 | refine below_set ?_ GE189.out) | exact HB.out)⟩
 rw [if_pos c15] at H
 have c15b0 : (((rd_T54 l1_0 x5_1).f0) == ((rd_T69 l0 x5_1).f1)) = true := beq_iff_eq.mpr c15
 have c15b1 : (((rd_T54 l1_0 x5_1).f0) != ((rd_T69 l0 x5_1).f1)) = false := bne_eq_false_iff_eq.mpr c15
 clear c15
 have H' := Aside0.mk H
 clear H
 have hcz16_0 : wr.cell? ⟨gb189, 0, none⟩ = some (.slice A1_0 l1_0.length c1_0) := (blk_cell BK189.out 0).trans rfl
 have hfz16_0 := blk_frozen BK189.out 0
 have p190 : 0 ≤ (x5_1 : Int) := of_decide_eq_true s9q4
 have q190 : x5_1 < (l1_0.length : Int) := of_decide_eq_true s9q4
 obtain ⟨ad190, e190, hx190_0, hx190_1, hx190_2⟩ := at_T54 HR1_0.out x5_1 p190 q190
 cases e190
 replace hx190_0 := (HB.out.cell (World.block_lt_of_cell? w _ hx190_0)).trans hx190_0
 replace hx190_1 := (HB.out.cell (World.block_lt_of_cell? w _ hx190_1)).trans hx190_1
 replace hx190_2 := (HB.out.cell (World.block_lt_of_cell? w _ hx190_2)).trans hx190_2
 replace p190 := eq_true p190
 replace q190 := eq_true q190
 go_wp2_with (first | (go_at_call 36; (with_reducible refine (peristyleref1_CheckValue.calls k1 ((rd_T54 l1_0 x5_1).f0) ((rd_T54 l1_0 x5_1).f1) ((rd_T54 l1_0 x5_1).f2) t191 _ A9.out).mono ?_); rintro e w17 ⟨rfl, hb⟩; have n0_ := Aside0.mk (blk_below (g := gb189) (o := .cells #[.slice (some ad190) l1_0.length c1_0] 43 (0, 0)) s9q5 hb); have n1_ := Aside0.mk (below_step s9q10 hb); clear BK189; clear HB; have BK189 := n0_; have HB := n1_; clear n0_ n1_; (try clear hb); (try clear hb2); (try clear hk); (try clear hi); have hcz18_0 : w17.cell? ⟨gb189, 0, none⟩ = some (.slice (some ad190) l1_0.length c1_0) := (blk_cell BK189.out 0).trans rfl; have hfz18_0 := blk_frozen BK189.out 0; have p192 : 0 ≤ (x5_1 : Int) := of_decide_eq_true s9q4; have q192 : x5_1 < (l1_0.length : Int) := of_decide_eq_true s9q4; obtain ⟨ad192, e192, hx192_0, hx192_1, hx192_2⟩ := at_T54 HR1_0.out x5_1 p192 q192; obtain rfl : ad190 = ad192 := s9q1; replace hx192_0 := (HB.out.cell (World.block_lt_of_cell? w _ hx192_0)).trans hx192_0; replace hx192_1 := (HB.out.cell (World.block_lt_of_cell? w _ hx192_1)).trans hx192_1; replace hx192_2 := (HB.out.cell (World.block_lt_of_cell? w _ hx192_2)).trans hx192_2; replace p192 := eq_true p192; replace q192 := eq_true q192; have p193 : 0 ≤ (x5_1 : Int) := of_decide_eq_true s9q4; have q193 : x5_1 < (l1_0.length : Int) := of_decide_eq_true s9q4; obtain ⟨ad193, e193, hx193_0, hx193_1, hx193_2⟩ := at_T54 HR1_0.out x5_1 p193 q193; obtain rfl : ad190 = ad193 := s9q2; replace hx193_0 := (HB.out.cell (World.block_lt_of_cell? w _ hx193_0)).trans hx193_0; replace hx193_1 := (HB.out.cell (World.block_lt_of_cell? w _ hx193_1)).trans hx193_1; replace hx193_2 := (HB.out.cell (World.block_lt_of_cell? w _ hx193_2)).trans hx193_2; replace p193 := eq_true p193; replace q193 := eq_true q193; have p194 : 0 ≤ (x5_1 : Int) := of_decide_eq_true s9q4; have q194 : x5_1 < (l0.length : Int) := of_decide_eq_true s9q4; obtain ⟨ad194, e194, hx194_0, hx194_1⟩ := at_T69 HR0.out x5_1 p194 q194; cases e194; replace hx194_0 := (HB.out.cell (World.block_lt_of_cell? w _ hx194_0)).trans hx194_0; replace hx194_1 := (HB.out.cell (World.block_lt_of_cell? w _ hx194_1)).trans hx194_1; replace p194 := eq_true p194; replace q194 := eq_true q194))
 repeat (go_quiet (first | (go_at_call 36; (with_reducible refine (peristyleref1_CheckValue.calls k1 ((rd_T54 l1_0 x5_1).f0) ((rd_T54 l1_0 x5_1).f1) ((rd_T54 l1_0 x5_1).f2) t191 _ A9.out).mono ?_); rintro e w17 ⟨rfl, hb⟩; have n0_ := Aside0.mk (blk_below (g := gb189) (o := .cells #[.slice (some ad190) l1_0.length c1_0] 43 (0, 0)) s9q5 hb); have n1_ := Aside0.mk (below_step s9q10 hb); clear BK189; clear HB; have BK189 := n0_; have HB := n1_; clear n0_ n1_; (try clear hb); (try clear hb2); (try clear hk); (try clear hi); have hcz18_0 : w17.cell? ⟨gb189, 0, none⟩ = some (.slice (some ad190) l1_0.length c1_0) := (blk_cell BK189.out 0).trans rfl; have hfz18_0 := blk_frozen BK189.out 0; have p192 : 0 ≤ (x5_1 : Int) := of_decide_eq_true s9q4; have q192 : x5_1 < (l1_0.length : Int) := of_decide_eq_true s9q4; obtain ⟨ad192, e192, hx192_0, hx192_1, hx192_2⟩ := at_T54 HR1_0.out x5_1 p192 q192; obtain rfl : ad190 = ad192 := s9q1; replace hx192_0 := (HB.out.cell (World.block_lt_of_cell? w _ hx192_0)).trans hx192_0; replace hx192_1 := (HB.out.cell (World.block_lt_of_cell? w _ hx192_1)).trans hx192_1; replace hx192_2 := (HB.out.cell (World.block_lt_of_cell? w _ hx192_2)).trans hx192_2; replace p192 := eq_true p192; replace q192 := eq_true q192; have p193 : 0 ≤ (x5_1 : Int) := of_decide_eq_true s9q4; have q193 : x5_1 < (l1_0.length : Int) := of_decide_eq_true s9q4; obtain ⟨ad193, e193, hx193_0, hx193_1, hx193_2⟩ := at_T54 HR1_0.out x5_1 p193 q193; obtain rfl : ad190 = ad193 := s9q2; replace hx193_0 := (HB.out.cell (World.block_lt_of_cell? w _ hx193_0)).trans hx193_0; replace hx193_1 := (HB.out.cell (World.block_lt_of_cell? w _ hx193_1)).trans hx193_1; replace hx193_2 := (HB.out.cell (World.block_lt_of_cell? w _ hx193_2)).trans hx193_2; replace p193 := eq_true p193; replace q193 := eq_true q193; have p194 : 0 ≤ (x5_1 : Int) := of_decide_eq_true s9q4; have q194 : x5_1 < (l0.length : Int) := of_decide_eq_true s9q4; obtain ⟨ad194, e194, hx194_0, hx194_1⟩ := at_T69 HR0.out x5_1 p194 q194; cases e194; replace hx194_0 := (HB.out.cell (World.block_lt_of_cell? w _ hx194_0)).trans hx194_0; replace hx194_1 := (HB.out.cell (World.block_lt_of_cell? w _ hx194_1)).trans hx194_1; replace p194 := eq_true p194; replace q194 := eq_true q194)); try go_wp2_with (first | (go_at_call 36; (with_reducible refine (peristyleref1_CheckValue.calls k1 ((rd_T54 l1_0 x5_1).f0) ((rd_T54 l1_0 x5_1).f1) ((rd_T54 l1_0 x5_1).f2) t191 _ A9.out).mono ?_); rintro e w17 ⟨rfl, hb⟩; have n0_ := Aside0.mk (blk_below (g := gb189) (o := .cells #[.slice (some ad190) l1_0.length c1_0] 43 (0, 0)) s9q5 hb); have n1_ := Aside0.mk (below_step s9q10 hb); clear BK189; clear HB; have BK189 := n0_; have HB := n1_; clear n0_ n1_; (try clear hb); (try clear hb2); (try clear hk); (try clear hi); have hcz18_0 : w17.cell? ⟨gb189, 0, none⟩ = some (.slice (some ad190) l1_0.length c1_0) := (blk_cell BK189.out 0).trans rfl; have hfz18_0 := blk_frozen BK189.out 0; have p192 : 0 ≤ (x5_1 : Int) := of_decide_eq_true s9q4; have q192 : x5_1 < (l1_0.length : Int) := of_decide_eq_true s9q4; obtain ⟨ad192, e192, hx192_0, hx192_1, hx192_2⟩ := at_T54 HR1_0.out x5_1 p192 q192; obtain rfl : ad190 = ad192 := s9q1; replace hx192_0 := (HB.out.cell (World.block_lt_of_cell? w _ hx192_0)).trans hx192_0; replace hx192_1 := (HB.out.cell (World.block_lt_of_cell? w _ hx192_1)).trans hx192_1; replace hx192_2 := (HB.out.cell (World.block_lt_of_cell? w _ hx192_2)).trans hx192_2; replace p192 := eq_true p192; replace q192 := eq_true q192; have p193 : 0 ≤ (x5_1 : Int) := of_decide_eq_true s9q4; have q193 : x5_1 < (l1_0.length : Int) := of_decide_eq_true s9q4; obtain ⟨ad193, e193, hx193_0, hx193_1, hx193_2⟩ := at_T54 HR1_0.out x5_1 p193 q193; obtain rfl : ad190 = ad193 := s9q2; replace hx193_0 := (HB.out.cell (World.block_lt_of_cell? w _ hx193_0)).trans hx193_0; replace hx193_1 := (HB.out.cell (World.block_lt_of_cell? w _ hx193_1)).trans hx193_1; replace hx193_2 := (HB.out.cell (World.block_lt_of_cell? w _ hx193_2)).trans hx193_2; replace p193 := eq_true p193; replace q193 := eq_true q193; have p194 : 0 ≤ (x5_1 : Int) := of_decide_eq_true s9q4; have q194 : x5_1 < (l0.length : Int) := of_decide_eq_true s9q4; obtain ⟨ad194, e194, hx194_0, hx194_1⟩ := at_T69 HR0.out x5_1 p194 q194; cases e194; replace hx194_0 := (HB.out.cell (World.block_lt_of_cell? w _ hx194_0)).trans hx194_0; replace hx194_1 := (HB.out.cell (World.block_lt_of_cell? w _ hx194_1)).trans hx194_1; replace p194 := eq_true p194; replace q194 := eq_true q194)))
 first | go_roundg k1 | (refine Handed.intro k1 ?measure ?_; rotate_left; go_step; (repeat apply Exists.intro); simp only [add_plain]; refine ⟨?rel, rfl⟩)
 case measure => have := HK1.out; omega
 case rel => exact ⟨(wrap64 (x5_1 + 1)), s9q3, H', ⟨by have := HK1.out; omega⟩, ⟨by (with_reducible repeat (first | refine blk_drewN ?_ _ | refine blk_drew ?_ | refine blk_alloc ?_ _)); exact BK189.out⟩, ⟨by repeat (first | (with_reducible first | exact HB.out | apply below_alloc | apply pw_below_drewN | apply below_drew1 | refine below_set ?_ GE189.out) | exact HB.out)⟩⟩
/-! ### peristyleref1_CheckTable: function 27 -/
def peristyleref1_CheckTable.l0 : Nat → Int → List (S69) → List (S43) → Option (Int)
  | 0, _, _, _ => none
  | k + 1, x4, x196000, x196001 => if x4 < (x196001.length : Int) then (if 0 ≤ x4 then ((peristyleref1_CheckRow.f k x196000 ((rd_T43 x196001 x4).f0)).bind fun t198 => (if t198 = 0 then (peristyleref1_CheckTable.l0 k (wrap64 (x4 + 1)) x196000 x196001) else (some t198))) else (none)) else (some 0)
def peristyleref1_CheckTable.f (k : Nat) (l0_0 : List (S69)) (l0_1 : List (S43)) : Option (Int) := (peristyleref1_CheckColumns.f k l0_0).bind fun t196 => (if t196 = 0 then (if (l0_1.length : Int) > 2000 then (some 2) else (peristyleref1_CheckTable.l0 k 0 l0_0 l0_1)) else (some t196))
theorem peristyleref1_CheckTable.mono_l : ∀ k, (∀ y0 y1 y2, LeO (peristyleref1_CheckTable.l0 k y0 y1 y2) (peristyleref1_CheckTable.l0 (k + 1) y0 y1 y2))
  | 0 => fun _ _ _ r h => by simp [peristyleref1_CheckTable.l0] at h
  | k + 1 => by
    have ih0 := peristyleref1_CheckTable.mono_l k
    · intro y0 y1 y2
      unfold peristyleref1_CheckTable.l0
      repeat' first | (with_reducible exact ih0 _ _ _) | (with_reducible exact peristyleref1_CheckColumns.mono _ _) | (with_reducible exact peristyleref1_CheckRow.mono _ _ _) | (with_reducible exact LeO.refl _) | (with_reducible exact LeO.none _) | (with_reducible refine LeO.ite ?_ ?_) | (with_reducible refine LeO.bind ?_ (fun _ => ?_)) | exact ih0 _ _ _ | exact peristyleref1_CheckColumns.mono _ _ | exact peristyleref1_CheckRow.mono _ _ _ | exact LeO.none _ | refine LeO.ite ?_ ?_ | refine LeO.bind ?_ (fun _ => ?_)
theorem peristyleref1_CheckTable.mono : ∀ a0 a1 k, LeO (peristyleref1_CheckTable.f k a0 a1) (peristyleref1_CheckTable.f (k + 1) a0 a1) := by
 intro a0 a1 k
 have ih0 := peristyleref1_CheckTable.mono_l k
 unfold peristyleref1_CheckTable.f
 repeat' first
  | (with_reducible exact ih0 _ _ _)
  | (with_reducible exact peristyleref1_CheckColumns.mono _ _)
  | (with_reducible exact peristyleref1_CheckRow.mono _ _ _)
  | (with_reducible exact LeO.refl _)
  | (with_reducible exact LeO.none _)
  | (with_reducible refine LeO.ite ?_ ?_)
  | (with_reducible refine LeO.bind ?_ (fun _ => ?_))
  | exact ih0 _ _ _
  | exact peristyleref1_CheckColumns.mono _ _
  | exact peristyleref1_CheckRow.mono _ _ _
  | exact LeO.none _
  | refine LeO.ite ?_ ?_
  | refine LeO.bind ?_ (fun _ => ?_)
def peristyleref1_CheckTable.T9 : Bool × List (List Nat × List Nat) := (true, [([], []), ([0], [0]), ([], []), ([2], [2]), ([], []), ([3, 4], [3, 4]), ([5], [5]), ([1, 6], [1, 6]), ([7, 7, 0, 1, 2, 3, 4, 5, 6, 7], [7])])
def peristyleref1_CheckTable.B9 : List Nat := [0, 1, 0, 4, 0, 28, 60, 127, 255]
theorem peristyleref1_CheckTable.tab9 : rtab .any (opsOf Tryd.f27 9) = peristyleref1_CheckTable.T9 := by kernel_rfl
theorem peristyleref1_CheckTable.bits9 : waitsOk peristyleref1_CheckTable.T9.2 peristyleref1_CheckTable.B9 = true := by kernel_rfl
set_option maxHeartbeats 8000000 in
set_option maxRecDepth 100000 in
theorem peristyleref1_CheckTable.calls (k : Nat) (A0_0 : Option Addr) (c0_0 : Nat) (l0_0 : List (S69)) (A0_1 : Option Addr) (c0_1 : Nat) (l0_1 : List (S43)) (r : Int) (w : World) (hr0_0 : Kd.C k69 w A0_0 l0_0.length l0_0) (hc0_0 : l0_0.length ≤ c0_0) (hr0_1 : Kd.C k43 w A0_1 l0_1.length l0_1) (hc0_1 : l0_1.length ≤ c0_1) (h : peristyleref1_CheckTable.f k l0_0 l0_1 = some r) :
    Calls Tryd.prog 27 #[.agg #[.slice A0_0 l0_0.length c0_0, .slice A0_1 l0_1.length c0_1]] w fun e w' => e = .returned (.int .i64 r) ∧ Below w.heap.size w w' := by
 have hu25 := Tryd.underlying25
 have hu43 := Tryd.underlying43
 have HR0_0 := Aside0.mk hr0_0
 have HC0_0 := Aside0.mk hc0_0
 clear hr0_0 hc0_0
 have HR0_1 := Aside0.mk hr0_1
 have HC0_1 := Aside0.mk hc0_1
 clear hr0_1 hc0_1
 have HB := Aside0.mk (Below.refl w.heap.size w)
 have H : ((peristyleref1_CheckColumns.f k l0_0).bind fun t196 => (if t196 = 0 then (if (l0_1.length : Int) > 2000 then (some 2) else (peristyleref1_CheckTable.l0 k 0 l0_0 l0_1)) else (some t196))) = some r := h
 clear h
 replace H := Option.bind_eq_some_iff.mp H
 obtain ⟨t196, A20, H⟩ := H
 replace H : (if t196 = 0 then (if (l0_1.length : Int) > 2000 then (some 2) else (peristyleref1_CheckTable.l0 k 0 l0_0 l0_1)) else (some t196)) = some r := H
 have A2 := Aside0.mk A20
 clear A20
 by_cases c3 : t196 = 0
 case neg =>
  rw [if_neg c3] at H
  have c3b0 : (t196 == 0) = false := beq_eq_false_iff_ne.mpr c3
  have c3b1 : (t196 != 0) = true := bne_iff_ne.mpr c3
  obtain rfl := Option.some.inj H
  go_enter Tryd.func27, Tryd.ntmps27
  go_wp2_with (first | ((with_reducible refine gate_dst (N := 1) rfl ?_); refine box_event ?hg (N := 1) ?hd (cs := #[.slice A0_0 l0_0.length c0_0, .slice A0_1 l0_1.length c0_1]) (t := 25) ?hr ?_; (case hd => rfl); (case hg => rfl); (case hr => first | (go_simp; done) | (go_simp; rfl)); intro gb195 hg w20 hbox hb; have n0_ := Aside0.mk (below_step s9q8 hb); have n1_ := Aside0.mk (hbox); have n2_ := Aside0.mk ((s9q14 : w.heap.size ≤ gb195)); have n3_ := Aside0.mk ((s9q14 : w.heap.size ≤ gb195)); clear HB; have HB := n0_; have BK195 := n1_; have GW195 := n2_; have GE195 := n3_; clear n0_ n1_ n2_ n3_; clear hb hbox hg; have hcz21_0 : w20.cell? ⟨gb195, 0, none⟩ = some (.slice A0_0 l0_0.length c0_0) := (blk_cell BK195.out 0).trans rfl; have hcz21_1 : w20.cell? ⟨gb195, 1, none⟩ = some (.slice A0_1 l0_1.length c0_1) := (blk_cell BK195.out 1).trans rfl; have hfz21_0 := blk_frozen BK195.out 0; have hfz21_1 := blk_frozen BK195.out 1) | ((with_reducible refine gate_callee (f := 34) rfl ?_); refine goesL_ (some 8) rfl rfl Tryd.func34 s9q0 rfl #[.slice A0_0 l0_0.length c0_0] rfl s9q9 ?_; (with_reducible refine (peristyleref1_CheckColumns.calls k _ _ l0_0 t196 _ ?side1 ?side2 A2.out).mono ?_); (case side1 => repeat (first | exact (Kd.C_below HR0_0.out HB.out) | (with_reducible refine Kd.C_alloc ?_ _) | (with_reducible refine Kd.C_drewN ?_ _) | (with_reducible refine Kd.C_drew ?_))); (case side2 => exact HC0_0.out); rintro e w' ⟨rfl, ⟨nd, rfl⟩⟩; refine ⟨_, rfl, ?_⟩))
  go_ret
  exact ⟨by first | rfl | (simp [errW_none, errW_some] <;> rfl) | (simp [*, errW_none, errW_some] <;> rfl), by repeat (first | (with_reducible first | exact HB.out | apply below_alloc | apply pw_below_drewN | apply below_drew1 | refine below_set ?_ GE195.out) | exact HB.out)⟩
 rw [if_pos c3] at H
 have c3b0 : (t196 == 0) = true := beq_iff_eq.mpr c3
 have c3b1 : (t196 != 0) = false := bne_eq_false_iff_eq.mpr c3
 clear c3
 by_cases c4 : (l0_1.length : Int) > 2000
 · rw [if_pos c4] at H
   have c4b0 : decide (2000 < (l0_1.length : Int)) = true := decide_eq_true c4
   have c4b1 : decide (2000 < l0_1.length) = true := decide_eq_true (by omega)
   clear c4
   obtain rfl := Option.some.inj H
   go_enter Tryd.func27, Tryd.ntmps27
   go_wp2_with (first | ((with_reducible refine gate_dst (N := 1) rfl ?_); refine box_event ?hg (N := 1) ?hd (cs := #[.slice A0_0 l0_0.length c0_0, .slice A0_1 l0_1.length c0_1]) (t := 25) ?hr ?_; (case hd => rfl); (case hg => rfl); (case hr => first | (go_simp; done) | (go_simp; rfl)); intro gb195 hg w5 hbox hb; have n0_ := Aside0.mk (below_step s9q8 hb); have n1_ := Aside0.mk (hbox); have n2_ := Aside0.mk ((s9q14 : w.heap.size ≤ gb195)); have n3_ := Aside0.mk ((s9q14 : w.heap.size ≤ gb195)); clear HB; have HB := n0_; have BK195 := n1_; have GW195 := n2_; have GE195 := n3_; clear n0_ n1_ n2_ n3_; clear hb hbox hg; have hcz6_0 : w5.cell? ⟨gb195, 0, none⟩ = some (.slice A0_0 l0_0.length c0_0) := (blk_cell BK195.out 0).trans rfl; have hcz6_1 : w5.cell? ⟨gb195, 1, none⟩ = some (.slice A0_1 l0_1.length c0_1) := (blk_cell BK195.out 1).trans rfl; have hfz6_0 := blk_frozen BK195.out 0; have hfz6_1 := blk_frozen BK195.out 1) | ((with_reducible refine gate_callee (f := 34) rfl ?_); refine goesL_ (some 8) rfl rfl Tryd.func34 s9q0 rfl #[.slice A0_0 l0_0.length c0_0] rfl s9q9 ?_; (with_reducible refine (peristyleref1_CheckColumns.calls k _ _ l0_0 t196 _ ?side1 ?side2 A2.out).mono ?_); (case side1 => repeat (first | exact (Kd.C_below HR0_0.out HB.out) | (with_reducible refine Kd.C_alloc ?_ _) | (with_reducible refine Kd.C_drewN ?_ _) | (with_reducible refine Kd.C_drew ?_))); (case side2 => exact HC0_0.out); rintro e w' ⟨rfl, ⟨nd, rfl⟩⟩; refine ⟨_, rfl, ?_⟩))
   go_ret
   exact ⟨by first | rfl | (simp [errW_none, errW_some] <;> rfl) | (simp [*, errW_none, errW_some] <;> rfl), by repeat (first | (with_reducible first | exact HB.out | apply below_alloc | apply pw_below_drewN | apply below_drew1 | refine below_set ?_ GE195.out) | exact HB.out)⟩
 rw [if_neg c4] at H
 have c4b0 : decide (2000 < (l0_1.length : Int)) = false := decide_eq_false c4
 have c4b1 : decide (2000 < l0_1.length) = false := decide_eq_false (by omega)
 clear c4
 have H' := Aside0.mk H
 clear H
 go_enter Tryd.func27, Tryd.ntmps27
 go_wp2_with (first | ((with_reducible refine gate_dst (N := 1) rfl ?_); refine box_event ?hg (N := 1) ?hd (cs := #[.slice A0_0 l0_0.length c0_0, .slice A0_1 l0_1.length c0_1]) (t := 25) ?hr ?_; (case hd => rfl); (case hg => rfl); (case hr => first | (go_simp; done) | (go_simp; rfl)); intro gb195 hg w7 hbox hb; have n0_ := Aside0.mk (below_step s9q8 hb); have n1_ := Aside0.mk (hbox); have n2_ := Aside0.mk ((s9q14 : w.heap.size ≤ gb195)); have n3_ := Aside0.mk ((s9q14 : w.heap.size ≤ gb195)); clear HB; have HB := n0_; have BK195 := n1_; have GW195 := n2_; have GE195 := n3_; clear n0_ n1_ n2_ n3_; clear hb hbox hg; have hcz8_0 : w7.cell? ⟨gb195, 0, none⟩ = some (.slice A0_0 l0_0.length c0_0) := (blk_cell BK195.out 0).trans rfl; have hcz8_1 : w7.cell? ⟨gb195, 1, none⟩ = some (.slice A0_1 l0_1.length c0_1) := (blk_cell BK195.out 1).trans rfl; have hfz8_0 := blk_frozen BK195.out 0; have hfz8_1 := blk_frozen BK195.out 1) | ((with_reducible refine gate_callee (f := 34) rfl ?_); refine goesL_ (some 8) rfl rfl Tryd.func34 s9q0 rfl #[.slice A0_0 l0_0.length c0_0] rfl s9q9 ?_; (with_reducible refine (peristyleref1_CheckColumns.calls k _ _ l0_0 t196 _ ?side1 ?side2 A2.out).mono ?_); (case side1 => repeat (first | exact (Kd.C_below HR0_0.out HB.out) | (with_reducible refine Kd.C_alloc ?_ _) | (with_reducible refine Kd.C_drewN ?_ _) | (with_reducible refine Kd.C_drew ?_))); (case side2 => exact HC0_0.out); rintro e w' ⟨rfl, ⟨nd, rfl⟩⟩; refine ⟨_, rfl, ?_⟩))
 go_loopg [4] k (fun kq v4 w' => ∃ (x4_1 : Int), v4 = .int .i64 x4_1 ∧ Aside0 (peristyleref1_CheckTable.l0 kq x4_1 l0_0 l0_1 = some r) ∧ Aside0 (kq ≤ k) ∧ Aside0 (w'.heap[gb195]? = some (.cells #[(.slice A0_0 l0_0.length c0_0), (.slice A0_1 l0_1.length c0_1)] 25 (0, 0))) ∧ Aside0 (Below w.heap.size w w'))
 case atStart => exact ⟨(0), s9q3, H', ⟨Nat.le_refl _⟩, ⟨by (with_reducible repeat (first | refine blk_drewN ?_ _ | refine blk_drew ?_ | refine blk_alloc ?_ _)); exact BK195.out⟩, ⟨by repeat (first | (with_reducible first | exact HB.out | apply below_alloc | apply pw_below_drewN | apply below_drew1 | refine below_set ?_ GE195.out) | exact HB.out)⟩⟩
 clear H'
 try clear c2
 try clear p2
 try clear c3
 try clear c3b0
 try clear c3b1
 try clear c4
 try clear c4b0
 try clear c4b1
 try clear hcz6_0
 try clear hcz6_1
 try clear hcz8_0
 try clear hcz8_1
 try clear hfz6_0
 try clear hfz6_1
 try clear hfz8_0
 try clear hfz8_1
 obtain ⟨x4_1, rfl, HA, HK1, BK195, HB⟩ := hrel
 cases gk with
 | zero => exact absurd HA.out (by simp [peristyleref1_CheckTable.l0])
 | succ k1 => ?_
 have H := HA.out
 clear HA
 simp only [peristyleref1_CheckTable.l0] at H
 by_cases c9 : x4_1 < (l0_1.length : Int)
 case neg =>
  rw [if_neg c9] at H
  have c9b0 : decide (x4_1 < (l0_1.length : Int)) = false := decide_eq_false c9
  clear c9
  obtain rfl := Option.some.inj H
  have hcz19_0 : wr.cell? ⟨gb195, 0, none⟩ = some (.slice A0_0 l0_0.length c0_0) := (blk_cell BK195.out 0).trans rfl
  have hcz19_1 : wr.cell? ⟨gb195, 1, none⟩ = some (.slice A0_1 l0_1.length c0_1) := (blk_cell BK195.out 1).trans rfl
  have hfz19_0 := blk_frozen BK195.out 0
  have hfz19_1 := blk_frozen BK195.out 1
  go_wp2
  go_ret
  exact ⟨by first | rfl | (simp [errW_none, errW_some] <;> rfl) | (simp [*, errW_none, errW_some] <;> rfl), by repeat (first | (with_reducible first | exact HB.out | apply below_alloc | apply pw_below_drewN | apply below_drew1 | refine below_set ?_ GE195.out) | exact HB.out)⟩
 rw [if_pos c9] at H
 have c9b0 : decide (x4_1 < (l0_1.length : Int)) = true := decide_eq_true c9
 clear c9
 by_cases c10 : 0 ≤ x4_1
 case neg =>
  rw [if_neg c10] at H
  exact absurd H (by simp)
 rw [if_pos c10] at H
 have c10b0 : decide (0 ≤ x4_1) = true := decide_eq_true c10
 clear c10
 replace H := Option.bind_eq_some_iff.mp H
 obtain ⟨t198, A110, H⟩ := H
 replace H : (if t198 = 0 then (peristyleref1_CheckTable.l0 k1 (wrap64 (x4_1 + 1)) l0_0 l0_1) else (some t198)) = some r := H
 have A11 := Aside0.mk A110
 clear A110
 by_cases c12 : t198 = 0
 case neg =>
  rw [if_neg c12] at H
  have c12b0 : (t198 == 0) = false := beq_eq_false_iff_ne.mpr c12
  have c12b1 : (t198 != 0) = true := bne_iff_ne.mpr c12
  obtain rfl := Option.some.inj H
  have hcz16_0 : wr.cell? ⟨gb195, 0, none⟩ = some (.slice A0_0 l0_0.length c0_0) := (blk_cell BK195.out 0).trans rfl
  have hcz16_1 : wr.cell? ⟨gb195, 1, none⟩ = some (.slice A0_1 l0_1.length c0_1) := (blk_cell BK195.out 1).trans rfl
  have hfz16_0 := blk_frozen BK195.out 0
  have hfz16_1 := blk_frozen BK195.out 1
  try go_wp2
  have n0_ := Aside0.mk (blk_drew BK195.out)
  have n1_ := Aside0.mk (below_drew1 HB.out)
  clear BK195
  clear HB
  have BK195 := n0_
  have HB := n1_
  clear n0_ n1_
  have p197 : 0 ≤ (x4_1 : Int) := of_decide_eq_true s9q4
  have q197 : x4_1 < (l0_1.length : Int) := of_decide_eq_true s9q4
  obtain ⟨ad197, A197_0, c197_0, e197, hx197_0, hl197_0, hi197_0⟩ := at_T43 HR0_1.out x4_1 p197 q197
  have hw197_0 := hx197_0
  cases e197
  replace hx197_0 := (HB.out.cell (World.block_lt_of_cell? w _ hx197_0)).trans hx197_0
  have HR197_0 := Aside0.mk hi197_0
  have HC197_0 := Aside0.mk hl197_0
  clear hi197_0 hl197_0
  replace p197 := eq_true p197
  replace q197 := eq_true q197
  refine start_ (n := 9) (S := fun w' => w'.cell? ⟨gb195, 0, none⟩ = some (.slice A0_0 l0_0.length c0_0) ∧ w'.cell? ⟨gb195, 1, none⟩ = some (.slice (some ad197) l0_1.length c0_1) ∧ w'.cell? (ad197.add (x4_1).toNat) = some (.slice A197_0 ((rd_T43 l0_1 x4_1).f0).length c197_0)) (ds := []) #[false, false, false, false, false, false, false, false, false] s9q0 rfl rfl ⟨(blk_cell BK195.out 0).trans rfl, (blk_cell BK195.out 1).trans rfl, ((HB.out.cell (World.block_lt_of_cell? w _ hw197_0)).trans hw197_0)⟩ (fun hHeld => ?_); refine with_tabW peristyleref1_CheckTable.tab9 peristyleref1_CheckTable.bits9 (fun HT_ HW_ => ?_)
  generalize wr.drew = w17 at BK195 HB HR197_0 hx197_0 hHeld ⊢
  refine pure_ (i := 0) (N := some 23) (v := ?_) (a' := ?_) #[true, false, false, false, false, false, false, false, false] rfl rfl (any_of HT_.out s9q0) (fun _ _ _ h => h) (Or.inl ⟨by rfl, ?_⟩) ?_ ?_
  rotate_left
  · intro w'
    go_simp
    with_reducible rfl
  rotate_left
  · simp only [Act.put, sqa, sqb, sqc, i64_w, i32_w]
    rfl
  refine pure_ (i := 2) (N := some 25) (v := ?_) (a' := ?_) #[true, false, true, false, false, false, false, false, false] rfl rfl (any_of HT_.out s9q0) (fun _ _ _ h => h) (Or.inl ⟨by rfl, ?_⟩) ?_ ?_
  rotate_left
  · intro w'
    go_simp
    with_reducible rfl
  rotate_left
  · simp only [Act.put, sqa, sqb, sqc, i64_w, i32_w]
    rfl
  refine pure_ (i := 4) (N := some 27) (v := ?_) (a' := ?_) #[true, false, true, false, true, false, false, false, false] rfl rfl (any_of HT_.out s9q0) (fun _ _ _ h => h) (Or.inl ⟨by rfl, ?_⟩) ?_ ?_
  rotate_left
  · intro w'
    go_simp
    with_reducible rfl
  rotate_left
  · simp only [Act.put, sqa, sqb, sqc, i64_w, i32_w]
    rfl
  refine take_ (i := 1) (N := some 24) (v := ?_) (a' := ?_) #[true, true, true, false, true, false, false, false, false] rfl rfl (take_ofW HT_.out HW_.out s9q0) (fun _ _ _ h => h) (Or.inl ⟨by rfl, ?_⟩) hHeld ?_ ?_
  rotate_left
  · rintro w' ⟨s0, s1, s2⟩
    go_simp
    with_reducible rfl
  rotate_left
  · simp only [Act.put, sqa, sqb, sqc, i64_w, i32_w]
    rfl
  refine take_ (i := 3) (N := some 26) (v := ?_) (a' := ?_) #[true, true, true, true, true, false, false, false, false] rfl rfl (take_ofW HT_.out HW_.out s9q0) (fun _ _ _ h => h) (Or.inl ⟨by rfl, ?_⟩) hHeld ?_ ?_
  rotate_left
  · rintro w' ⟨s0, s1, s2⟩
    go_simp
    with_reducible rfl
  rotate_left
  · simp only [Act.put, sqa, sqb, sqc, i64_w, i32_w]
    rfl
  refine pure_ (i := 5) (N := some 28) (v := ?_) (a' := ?_) #[true, true, true, true, true, true, false, false, false] rfl rfl (any_of HT_.out s9q0) (fun _ _ _ h => h) (Or.inl ⟨by rfl, ?_⟩) ?_ ?_
  rotate_left
  · intro w'
    go_simp
    with_reducible rfl
  rotate_left
  · simp only [Act.put, sqa, sqb, sqc, i64_w, i32_w]
    rfl
  refine take_ (i := 6) (N := some 29) (v := ?_) (a' := ?_) #[true, true, true, true, true, true, true, false, false] rfl rfl (take_ofW HT_.out HW_.out s9q0) (fun _ _ _ h => h) (Or.inl ⟨by rfl, ?_⟩) hHeld ?_ ?_
  rotate_left
  · rintro w' ⟨s0, s1, s2⟩
    go_simp
    with_reducible rfl
  rotate_left
  · simp only [Act.put, sqa, sqb, sqc, i64_w, i32_w]
    rfl
  refine one_ (i := 7) (N := some 30) #[true, true, true, true, true, true, true, true, false] rfl rfl (one_of HT_.out s9q0) (by decide) (fun K hK => ?_)
  refine goes_ Tryd.func35 s9q0 rfl #[.slice A0_0 l0_0.length c0_0, .agg #[.slice A197_0 ((rd_T43 l0_1 x4_1).f0).length c197_0]] (by rfl) rfl rfl s9q9 ?_
  with_reducible refine (peristyleref1_CheckRow.calls k1 _ _ l0_0 _ _ ((rd_T43 l0_1 x4_1).f0) t198 _ ?side1 ?side2 ?side3 ?side4 A11.out).mono ?_
  (case side1 => repeat (first | exact (Kd.C_below HR0_0.out HB.out) | (with_reducible refine Kd.C_alloc ?_ _) | (with_reducible refine Kd.C_drewN ?_ _) | (with_reducible refine Kd.C_drew ?_)))
  (case side2 => exact HC0_0.out)
  (case side3 => repeat (first | exact (Kd.C_below HR197_0.out HB.out) | (with_reducible refine Kd.C_alloc ?_ _) | (with_reducible refine Kd.C_drewN ?_ _) | (with_reducible refine Kd.C_drew ?_)))
  (case side4 => exact HC197_0.out)
  rintro e w18 ⟨rfl, hb⟩
  refine ⟨_, rfl, ?_⟩
  have n0_ := Aside0.mk (blk_below (g := gb195) (o := .cells #[.slice A0_0 l0_0.length c0_0, .slice (some ad197) l0_1.length c0_1] 25 (0, 0)) s9q6 hb)
  have n1_ := Aside0.mk (below_step s9q11 hb)
  clear BK195
  clear HB
  have BK195 := n0_
  have HB := n1_
  clear n0_ n1_
  (try clear hb)
  (try clear hb2)
  (try clear hk)
  (try clear hi)
  refine hK.out _ _ ⟨(blk_cell BK195.out 0).trans rfl, (blk_cell BK195.out 1).trans rfl, ((HB.out.cell (World.block_lt_of_cell? w _ hw197_0)).trans hw197_0)⟩ (fun hHeld => ?_)
  clear hK K
  refine norm_ (a' := ?_) ?_ ?_
  rotate_left
  · show Act.put _ (some 30) _ = _
    simp only [Act.put, sqa, sqb, sqc, i64_w, i32_w]
    rfl
  refine pure_ (i := 8) (N := some 5) (v := ?_) (a' := ?_) #[true, true, true, true, true, true, true, true, true] rfl rfl (any_of HT_.out s9q0) (fun _ _ _ h => h) (Or.inl ⟨by rfl, ?_⟩) ?_ ?_
  rotate_left
  · intro w'
    go_simp
    with_reducible rfl
  rotate_left
  · simp only [Act.put, sqa, sqb, sqc, i64_w, i32_w]
    rfl
  refine done_ (done_of HT_.out s9q0) ?_
  try go_wp2
  go_ret
  exact ⟨by first | rfl | (simp [errW_none, errW_some] <;> rfl) | (simp [*, errW_none, errW_some] <;> rfl), by repeat (first | (with_reducible first | exact HB.out | apply below_alloc | apply pw_below_drewN | apply below_drew1 | refine below_set ?_ GE195.out) | exact HB.out)⟩
 rw [if_pos c12] at H
 have c12b0 : (t198 == 0) = true := beq_iff_eq.mpr c12
 have c12b1 : (t198 != 0) = false := bne_eq_false_iff_eq.mpr c12
 clear c12
 have H' := Aside0.mk H
 clear H
 have hcz13_0 : wr.cell? ⟨gb195, 0, none⟩ = some (.slice A0_0 l0_0.length c0_0) := (blk_cell BK195.out 0).trans rfl
 have hcz13_1 : wr.cell? ⟨gb195, 1, none⟩ = some (.slice A0_1 l0_1.length c0_1) := (blk_cell BK195.out 1).trans rfl
 have hfz13_0 := blk_frozen BK195.out 0
 have hfz13_1 := blk_frozen BK195.out 1
 try go_wp2
 have n0_ := Aside0.mk (blk_drew BK195.out)
 have n1_ := Aside0.mk (below_drew1 HB.out)
 clear BK195
 clear HB
 have BK195 := n0_
 have HB := n1_
 clear n0_ n1_
 have p197 : 0 ≤ (x4_1 : Int) := of_decide_eq_true s9q4
 have q197 : x4_1 < (l0_1.length : Int) := of_decide_eq_true s9q4
 obtain ⟨ad197, A197_0, c197_0, e197, hx197_0, hl197_0, hi197_0⟩ := at_T43 HR0_1.out x4_1 p197 q197
 have hw197_0 := hx197_0
 cases e197
 replace hx197_0 := (HB.out.cell (World.block_lt_of_cell? w _ hx197_0)).trans hx197_0
 have HR197_0 := Aside0.mk hi197_0
 have HC197_0 := Aside0.mk hl197_0
 clear hi197_0 hl197_0
 replace p197 := eq_true p197
 replace q197 := eq_true q197
 refine start_ (n := 9) (S := fun w' => w'.cell? ⟨gb195, 0, none⟩ = some (.slice A0_0 l0_0.length c0_0) ∧ w'.cell? ⟨gb195, 1, none⟩ = some (.slice (some ad197) l0_1.length c0_1) ∧ w'.cell? (ad197.add (x4_1).toNat) = some (.slice A197_0 ((rd_T43 l0_1 x4_1).f0).length c197_0)) (ds := []) #[false, false, false, false, false, false, false, false, false] s9q0 rfl rfl ⟨(blk_cell BK195.out 0).trans rfl, (blk_cell BK195.out 1).trans rfl, ((HB.out.cell (World.block_lt_of_cell? w _ hw197_0)).trans hw197_0)⟩ (fun hHeld => ?_); refine with_tabW peristyleref1_CheckTable.tab9 peristyleref1_CheckTable.bits9 (fun HT_ HW_ => ?_)
 generalize wr.drew = w14 at BK195 HB HR197_0 hx197_0 hHeld ⊢
 refine pure_ (i := 0) (N := some 23) (v := ?_) (a' := ?_) #[true, false, false, false, false, false, false, false, false] rfl rfl (any_of HT_.out s9q0) (fun _ _ _ h => h) (Or.inl ⟨by rfl, ?_⟩) ?_ ?_
 rotate_left
 · intro w'
   go_simp
   with_reducible rfl
 rotate_left
 · simp only [Act.put, sqa, sqb, sqc, i64_w, i32_w]
   rfl
 refine pure_ (i := 2) (N := some 25) (v := ?_) (a' := ?_) #[true, false, true, false, false, false, false, false, false] rfl rfl (any_of HT_.out s9q0) (fun _ _ _ h => h) (Or.inl ⟨by rfl, ?_⟩) ?_ ?_
 rotate_left
 · intro w'
   go_simp
   with_reducible rfl
 rotate_left
 · simp only [Act.put, sqa, sqb, sqc, i64_w, i32_w]
   rfl
 refine pure_ (i := 4) (N := some 27) (v := ?_) (a' := ?_) #[true, false, true, false, true, false, false, false, false] rfl rfl (any_of HT_.out s9q0) (fun _ _ _ h => h) (Or.inl ⟨by rfl, ?_⟩) ?_ ?_
 rotate_left
 · intro w'
   go_simp
   with_reducible rfl
 rotate_left
 · simp only [Act.put, sqa, sqb, sqc, i64_w, i32_w]
   rfl
 refine take_ (i := 1) (N := some 24) (v := ?_) (a' := ?_) #[true, true, true, false, true, false, false, false, false] rfl rfl (take_ofW HT_.out HW_.out s9q0) (fun _ _ _ h => h) (Or.inl ⟨by rfl, ?_⟩) hHeld ?_ ?_
 rotate_left
 · rintro w' ⟨s0, s1, s2⟩
   go_simp
   with_reducible rfl
 rotate_left
 · simp only [Act.put, sqa, sqb, sqc, i64_w, i32_w]
   rfl
 refine take_ (i := 3) (N := some 26) (v := ?_) (a' := ?_) #[true, true, true, true, true, false, false, false, false] rfl rfl (take_ofW HT_.out HW_.out s9q0) (fun _ _ _ h => h) (Or.inl ⟨by rfl, ?_⟩) hHeld ?_ ?_
 rotate_left
 · rintro w' ⟨s0, s1, s2⟩
   go_simp
   with_reducible rfl
 rotate_left
 · simp only [Act.put, sqa, sqb, sqc, i64_w, i32_w]
   rfl
 refine pure_ (i := 5) (N := some 28) (v := ?_) (a' := ?_) #[true, true, true, true, true, true, false, false, false] rfl rfl (any_of HT_.out s9q0) (fun _ _ _ h => h) (Or.inl ⟨by rfl, ?_⟩) ?_ ?_
 rotate_left
 · intro w'
   go_simp
   with_reducible rfl
 rotate_left
 · simp only [Act.put, sqa, sqb, sqc, i64_w, i32_w]
   rfl
 refine take_ (i := 6) (N := some 29) (v := ?_) (a' := ?_) #[true, true, true, true, true, true, true, false, false] rfl rfl (take_ofW HT_.out HW_.out s9q0) (fun _ _ _ h => h) (Or.inl ⟨by rfl, ?_⟩) hHeld ?_ ?_
 rotate_left
 · rintro w' ⟨s0, s1, s2⟩
   go_simp
   with_reducible rfl
 rotate_left
 · simp only [Act.put, sqa, sqb, sqc, i64_w, i32_w]
   rfl
 refine one_ (i := 7) (N := some 30) #[true, true, true, true, true, true, true, true, false] rfl rfl (one_of HT_.out s9q0) (by decide) (fun K hK => ?_)
 refine goes_ Tryd.func35 s9q0 rfl #[.slice A0_0 l0_0.length c0_0, .agg #[.slice A197_0 ((rd_T43 l0_1 x4_1).f0).length c197_0]] (by rfl) rfl rfl s9q9 ?_
 with_reducible refine (peristyleref1_CheckRow.calls k1 _ _ l0_0 _ _ ((rd_T43 l0_1 x4_1).f0) t198 _ ?side1 ?side2 ?side3 ?side4 A11.out).mono ?_
 (case side1 => repeat (first | exact (Kd.C_below HR0_0.out HB.out) | (with_reducible refine Kd.C_alloc ?_ _) | (with_reducible refine Kd.C_drewN ?_ _) | (with_reducible refine Kd.C_drew ?_)))
 (case side2 => exact HC0_0.out)
 (case side3 => repeat (first | exact (Kd.C_below HR197_0.out HB.out) | (with_reducible refine Kd.C_alloc ?_ _) | (with_reducible refine Kd.C_drewN ?_ _) | (with_reducible refine Kd.C_drew ?_)))
 (case side4 => exact HC197_0.out)
 rintro e w15 ⟨rfl, hb⟩
 refine ⟨_, rfl, ?_⟩
 have n0_ := Aside0.mk (blk_below (g := gb195) (o := .cells #[.slice A0_0 l0_0.length c0_0, .slice (some ad197) l0_1.length c0_1] 25 (0, 0)) s9q6 hb)
 have n1_ := Aside0.mk (below_step s9q11 hb)
 clear BK195
 clear HB
 have BK195 := n0_
 have HB := n1_
 clear n0_ n1_
 (try clear hb)
 (try clear hb2)
 (try clear hk)
 (try clear hi)
 refine hK.out _ _ ⟨(blk_cell BK195.out 0).trans rfl, (blk_cell BK195.out 1).trans rfl, ((HB.out.cell (World.block_lt_of_cell? w _ hw197_0)).trans hw197_0)⟩ (fun hHeld => ?_)
 clear hK K
 refine norm_ (a' := ?_) ?_ ?_
 rotate_left
 · show Act.put _ (some 30) _ = _
   simp only [Act.put, sqa, sqb, sqc, i64_w, i32_w]
   rfl
 refine pure_ (i := 8) (N := some 5) (v := ?_) (a' := ?_) #[true, true, true, true, true, true, true, true, true] rfl rfl (any_of HT_.out s9q0) (fun _ _ _ h => h) (Or.inl ⟨by rfl, ?_⟩) ?_ ?_
 rotate_left
 · intro w'
   go_simp
   with_reducible rfl
 rotate_left
 · simp only [Act.put, sqa, sqb, sqc, i64_w, i32_w]
   rfl
 refine done_ (done_of HT_.out s9q0) ?_
 try go_wp2
 first | go_roundg k1 | (refine Handed.intro k1 ?measure ?_; rotate_left; go_step; (repeat apply Exists.intro); simp only [add_plain]; refine ⟨?rel, rfl⟩)
 case measure => have := HK1.out; omega
 case rel => exact ⟨(wrap64 (x4_1 + 1)), s9q3, H', ⟨by have := HK1.out; omega⟩, ⟨by (with_reducible repeat (first | refine blk_drewN ?_ _ | refine blk_drew ?_ | refine blk_alloc ?_ _)); exact BK195.out⟩, ⟨by repeat (first | (with_reducible first | exact HB.out | apply below_alloc | apply pw_below_drewN | apply below_drew1 | refine below_set ?_ GE195.out) | exact HB.out)⟩⟩
/-! ### peristyleref8_checkColumns: function 15 -/
def peristyleref8_checkColumns.l0 : Nat → List Int → List Int → Int → Int → List (S69) → List (S43) → Option (Int)
  | 0, _, _, _, _, _, _ => none
  | k + 1, x1, x19, x20, x21, x200000, x200001 => if x21 < x20 then (if 0 ≤ x21 then (if x21 < (x19.length : Int) then ((peristyleref8_within.f (rd x19 x21) 0 (wrap64 ((x200000.length : Int) - 1))).bind fun t202 => (if t202 = true then (if x21 ≤ (x1.length : Int) then ((slices_Contains_int_int.f k (x1.take (x21 : Int).toNat) (rd x19 x21)).bind fun t204 => (if t204 = true then (some 7) else (peristyleref8_checkColumns.l0 k x1 x19 x20 (wrap64 (x21 + 1)) x200000 x200001))) else (none)) else (some 1))) else (none)) else (none)) else (some 0)
def peristyleref8_checkColumns.f (k : Nat) (l0_0 : List (S69)) (l0_1 : List (S43)) (l1 : List Int) : Option (Int) := (peristyleref1_CheckTable.f k l0_0 l0_1).bind fun t200 => (if t200 = 0 then (if (l1.length : Int) = 0 then (some 6) else (if (l1.length : Int) > 10 then (some 2) else (peristyleref8_checkColumns.l0 k l1 l1 (l1.length : Int) 0 l0_0 l0_1))) else (some t200))
theorem peristyleref8_checkColumns.mono_l : ∀ k, (∀ y0 y1 y2 y3 y4 y5, LeO (peristyleref8_checkColumns.l0 k y0 y1 y2 y3 y4 y5) (peristyleref8_checkColumns.l0 (k + 1) y0 y1 y2 y3 y4 y5))
  | 0 => fun _ _ _ _ _ _ r h => by simp [peristyleref8_checkColumns.l0] at h
  | k + 1 => by
    have ih0 := peristyleref8_checkColumns.mono_l k
    · intro y0 y1 y2 y3 y4 y5
      unfold peristyleref8_checkColumns.l0
      repeat' first | (with_reducible exact ih0 _ _ _ _ _ _) | (with_reducible exact peristyleref1_CheckTable.mono _ _ _) | (with_reducible exact slices_Contains_int_int.mono _ _ _) | (with_reducible exact LeO.refl _) | (with_reducible exact LeO.none _) | (with_reducible refine LeO.ite ?_ ?_) | (with_reducible refine LeO.bind ?_ (fun _ => ?_)) | exact ih0 _ _ _ _ _ _ | exact peristyleref1_CheckTable.mono _ _ _ | exact slices_Contains_int_int.mono _ _ _ | exact LeO.none _ | refine LeO.ite ?_ ?_ | refine LeO.bind ?_ (fun _ => ?_)
theorem peristyleref8_checkColumns.mono : ∀ a0 a1 a2 k, LeO (peristyleref8_checkColumns.f k a0 a1 a2) (peristyleref8_checkColumns.f (k + 1) a0 a1 a2) := by
 intro a0 a1 a2 k
 have ih0 := peristyleref8_checkColumns.mono_l k
 unfold peristyleref8_checkColumns.f
 repeat' first
  | (with_reducible exact ih0 _ _ _ _ _ _)
  | (with_reducible exact peristyleref1_CheckTable.mono _ _ _)
  | (with_reducible exact slices_Contains_int_int.mono _ _ _)
  | (with_reducible exact LeO.refl _)
  | (with_reducible exact LeO.none _)
  | (with_reducible refine LeO.ite ?_ ?_)
  | (with_reducible refine LeO.bind ?_ (fun _ => ?_))
  | exact ih0 _ _ _ _ _ _
  | exact peristyleref1_CheckTable.mono _ _ _
  | exact slices_Contains_int_int.mono _ _ _
  | exact LeO.none _
  | refine LeO.ite ?_ ?_
  | refine LeO.bind ?_ (fun _ => ?_)
set_option maxHeartbeats 8000000 in
set_option maxRecDepth 100000 in
theorem peristyleref8_checkColumns.calls (k : Nat) (A0_0 : Option Addr) (c0_0 : Nat) (l0_0 : List (S69)) (A0_1 : Option Addr) (c0_1 : Nat) (l0_1 : List (S43)) (A1 : Option Addr) (c1 : Nat) (l1 : List Int) (r : Int) (w : World) (hr0_0 : Kd.C k69 w A0_0 l0_0.length l0_0) (hc0_0 : l0_0.length ≤ c0_0) (hr0_1 : Kd.C k43 w A0_1 l0_1.length l0_1) (hc0_1 : l0_1.length ≤ c0_1) (hr1 : Kd.C (Kd.int .i64) w A1 l1.length l1) (hc1 : l1.length ≤ c1) (h : peristyleref8_checkColumns.f k l0_0 l0_1 l1 = some r) :
    Calls Tryd.prog 15 #[.agg #[.slice A0_0 l0_0.length c0_0, .slice A0_1 l0_1.length c0_1], .slice A1 l1.length c1] w fun e w' => e = .returned (.int .i64 r) ∧ Below w.heap.size w w' := by
 have hu25 := Tryd.underlying25
 have HR0_0 := Aside0.mk hr0_0
 have HC0_0 := Aside0.mk hc0_0
 clear hr0_0 hc0_0
 have HR0_1 := Aside0.mk hr0_1
 have HC0_1 := Aside0.mk hc0_1
 clear hr0_1 hc0_1
 have HR1 := Aside0.mk hr1
 have HC1 := Aside0.mk hc1
 clear hr1 hc1
 have HB := Aside0.mk (Below.refl w.heap.size w)
 have H : ((peristyleref1_CheckTable.f k l0_0 l0_1).bind fun t200 => (if t200 = 0 then (if (l1.length : Int) = 0 then (some 6) else (if (l1.length : Int) > 10 then (some 2) else (peristyleref8_checkColumns.l0 k l1 l1 (l1.length : Int) 0 l0_0 l0_1))) else (some t200))) = some r := h
 clear h
 replace H := Option.bind_eq_some_iff.mp H
 obtain ⟨t200, A30, H⟩ := H
 replace H : (if t200 = 0 then (if (l1.length : Int) = 0 then (some 6) else (if (l1.length : Int) > 10 then (some 2) else (peristyleref8_checkColumns.l0 k l1 l1 (l1.length : Int) 0 l0_0 l0_1))) else (some t200)) = some r := H
 have A3 := Aside0.mk A30
 clear A30
 by_cases c4 : t200 = 0
 case neg =>
  rw [if_neg c4] at H
  have c4b0 : (t200 == 0) = false := beq_eq_false_iff_ne.mpr c4
  have c4b1 : (t200 != 0) = true := bne_iff_ne.mpr c4
  obtain rfl := Option.some.inj H
  go_enter Tryd.func15, Tryd.ntmps15
  go_wp2_with (first | ((with_reducible refine gate_dst (N := 2) rfl ?_); refine box_event ?hg (N := 2) ?hd (cs := #[.slice A0_0 l0_0.length c0_0, .slice A0_1 l0_1.length c0_1]) (t := 25) ?hr ?_; (case hd => rfl); (case hg => rfl); (case hr => first | (go_simp; done) | (go_simp; rfl)); intro gb199 hg w30 hbox hb; have n0_ := Aside0.mk (below_step s9q8 hb); have n1_ := Aside0.mk (hbox); have n2_ := Aside0.mk ((s9q14 : w.heap.size ≤ gb199)); have n3_ := Aside0.mk ((s9q14 : w.heap.size ≤ gb199)); clear HB; have HB := n0_; have BK199 := n1_; have GW199 := n2_; have GE199 := n3_; clear n0_ n1_ n2_ n3_; clear hb hbox hg; have hcz31_0 : w30.cell? ⟨gb199, 0, none⟩ = some (.slice A0_0 l0_0.length c0_0) := (blk_cell BK199.out 0).trans rfl; have hcz31_1 : w30.cell? ⟨gb199, 1, none⟩ = some (.slice A0_1 l0_1.length c0_1) := (blk_cell BK199.out 1).trans rfl; have hfz31_0 := blk_frozen BK199.out 0; have hfz31_1 := blk_frozen BK199.out 1) | ((with_reducible refine gate_callee (f := 27) rfl ?_); refine goesL_ (some 9) rfl rfl Tryd.func27 s9q0 rfl #[.agg #[.slice A0_0 l0_0.length c0_0, .slice A0_1 l0_1.length c0_1]] rfl s9q9 ?_; (with_reducible refine (peristyleref1_CheckTable.calls k _ _ l0_0 _ _ l0_1 t200 _ ?side1 ?side2 ?side3 ?side4 A3.out).mono ?_); (case side1 => repeat (first | exact (Kd.C_below HR0_0.out HB.out) | (with_reducible refine Kd.C_alloc ?_ _) | (with_reducible refine Kd.C_drewN ?_ _) | (with_reducible refine Kd.C_drew ?_))); (case side2 => exact HC0_0.out); (case side3 => repeat (first | exact (Kd.C_below HR0_1.out HB.out) | (with_reducible refine Kd.C_alloc ?_ _) | (with_reducible refine Kd.C_drewN ?_ _) | (with_reducible refine Kd.C_drew ?_))); (case side4 => exact HC0_1.out); rintro e w32 ⟨rfl, hb⟩; refine ⟨_, rfl, ?_⟩; have n0_ := Aside0.mk (blk_below (g := gb199) (o := .cells #[.slice A0_0 l0_0.length c0_0, .slice A0_1 l0_1.length c0_1] 25 (0, 0)) s9q7 hb); have n1_ := Aside0.mk (below_step s9q12 hb); clear BK199; clear HB; have BK199 := n0_; have HB := n1_; clear n0_ n1_; (try clear hb); (try clear hb2); (try clear hk); (try clear hi)))
  go_ret
  exact ⟨by first | rfl | (simp [errW_none, errW_some] <;> rfl) | (simp [*, errW_none, errW_some] <;> rfl), by repeat (first | (with_reducible first | exact HB.out | apply below_alloc | apply pw_below_drewN | apply below_drew1 | refine below_set ?_ GE199.out) | exact HB.out)⟩
 rw [if_pos c4] at H
 have c4b0 : (t200 == 0) = true := beq_iff_eq.mpr c4
 have c4b1 : (t200 != 0) = false := bne_eq_false_iff_eq.mpr c4
 clear c4
 by_cases c5 : (l1.length : Int) = 0
 · rw [if_pos c5] at H
   have c5b0 : ((l1.length : Int) == 0) = true := beq_iff_eq.mpr c5
   have c5b1 : ((l1.length : Int) != 0) = false := bne_eq_false_iff_eq.mpr c5
   clear c5
   obtain rfl := Option.some.inj H
   go_enter Tryd.func15, Tryd.ntmps15
   go_wp2_with (first | ((with_reducible refine gate_dst (N := 2) rfl ?_); refine box_event ?hg (N := 2) ?hd (cs := #[.slice A0_0 l0_0.length c0_0, .slice A0_1 l0_1.length c0_1]) (t := 25) ?hr ?_; (case hd => rfl); (case hg => rfl); (case hr => first | (go_simp; done) | (go_simp; rfl)); intro gb199 hg w6 hbox hb; have n0_ := Aside0.mk (below_step s9q8 hb); have n1_ := Aside0.mk (hbox); have n2_ := Aside0.mk ((s9q14 : w.heap.size ≤ gb199)); have n3_ := Aside0.mk ((s9q14 : w.heap.size ≤ gb199)); clear HB; have HB := n0_; have BK199 := n1_; have GW199 := n2_; have GE199 := n3_; clear n0_ n1_ n2_ n3_; clear hb hbox hg; have hcz7_0 : w6.cell? ⟨gb199, 0, none⟩ = some (.slice A0_0 l0_0.length c0_0) := (blk_cell BK199.out 0).trans rfl; have hcz7_1 : w6.cell? ⟨gb199, 1, none⟩ = some (.slice A0_1 l0_1.length c0_1) := (blk_cell BK199.out 1).trans rfl; have hfz7_0 := blk_frozen BK199.out 0; have hfz7_1 := blk_frozen BK199.out 1) | ((with_reducible refine gate_callee (f := 27) rfl ?_); refine goesL_ (some 9) rfl rfl Tryd.func27 s9q0 rfl #[.agg #[.slice A0_0 l0_0.length c0_0, .slice A0_1 l0_1.length c0_1]] rfl s9q9 ?_; (with_reducible refine (peristyleref1_CheckTable.calls k _ _ l0_0 _ _ l0_1 t200 _ ?side1 ?side2 ?side3 ?side4 A3.out).mono ?_); (case side1 => repeat (first | exact (Kd.C_below HR0_0.out HB.out) | (with_reducible refine Kd.C_alloc ?_ _) | (with_reducible refine Kd.C_drewN ?_ _) | (with_reducible refine Kd.C_drew ?_))); (case side2 => exact HC0_0.out); (case side3 => repeat (first | exact (Kd.C_below HR0_1.out HB.out) | (with_reducible refine Kd.C_alloc ?_ _) | (with_reducible refine Kd.C_drewN ?_ _) | (with_reducible refine Kd.C_drew ?_))); (case side4 => exact HC0_1.out); rintro e w8 ⟨rfl, hb⟩; refine ⟨_, rfl, ?_⟩; have n0_ := Aside0.mk (blk_below (g := gb199) (o := .cells #[.slice A0_0 l0_0.length c0_0, .slice A0_1 l0_1.length c0_1] 25 (0, 0)) s9q7 hb); have n1_ := Aside0.mk (below_step s9q12 hb); clear BK199; clear HB; have BK199 := n0_; have HB := n1_; clear n0_ n1_; (try clear hb); (try clear hb2); (try clear hk); (try clear hi)))
   go_ret
   exact ⟨by first | rfl | (simp [errW_none, errW_some] <;> rfl) | (simp [*, errW_none, errW_some] <;> rfl), by repeat (first | (with_reducible first | exact HB.out | apply below_alloc | apply pw_below_drewN | apply below_drew1 | refine below_set ?_ GE199.out) | exact HB.out)⟩
 rw [if_neg c5] at H
 have c5b0 : ((l1.length : Int) == 0) = false := beq_eq_false_iff_ne.mpr c5
 have c5b1 : ((l1.length : Int) != 0) = true := bne_iff_ne.mpr c5
 have c5b2 : ¬ (l1 = []) := fun h_ => c5 (by rw [h_]; rfl)
 by_cases c9 : (l1.length : Int) > 10
 · rw [if_pos c9] at H
   have c9b0 : decide (10 < (l1.length : Int)) = true := decide_eq_true c9
   have c9b1 : decide (10 < l1.length) = true := decide_eq_true (by omega)
   clear c9
   obtain rfl := Option.some.inj H
   go_enter Tryd.func15, Tryd.ntmps15
   go_wp2_with (first | ((with_reducible refine gate_dst (N := 2) rfl ?_); refine box_event ?hg (N := 2) ?hd (cs := #[.slice A0_0 l0_0.length c0_0, .slice A0_1 l0_1.length c0_1]) (t := 25) ?hr ?_; (case hd => rfl); (case hg => rfl); (case hr => first | (go_simp; done) | (go_simp; rfl)); intro gb199 hg w10 hbox hb; have n0_ := Aside0.mk (below_step s9q8 hb); have n1_ := Aside0.mk (hbox); have n2_ := Aside0.mk ((s9q14 : w.heap.size ≤ gb199)); have n3_ := Aside0.mk ((s9q14 : w.heap.size ≤ gb199)); clear HB; have HB := n0_; have BK199 := n1_; have GW199 := n2_; have GE199 := n3_; clear n0_ n1_ n2_ n3_; clear hb hbox hg; have hcz11_0 : w10.cell? ⟨gb199, 0, none⟩ = some (.slice A0_0 l0_0.length c0_0) := (blk_cell BK199.out 0).trans rfl; have hcz11_1 : w10.cell? ⟨gb199, 1, none⟩ = some (.slice A0_1 l0_1.length c0_1) := (blk_cell BK199.out 1).trans rfl; have hfz11_0 := blk_frozen BK199.out 0; have hfz11_1 := blk_frozen BK199.out 1) | ((with_reducible refine gate_callee (f := 27) rfl ?_); refine goesL_ (some 9) rfl rfl Tryd.func27 s9q0 rfl #[.agg #[.slice A0_0 l0_0.length c0_0, .slice A0_1 l0_1.length c0_1]] rfl s9q9 ?_; (with_reducible refine (peristyleref1_CheckTable.calls k _ _ l0_0 _ _ l0_1 t200 _ ?side1 ?side2 ?side3 ?side4 A3.out).mono ?_); (case side1 => repeat (first | exact (Kd.C_below HR0_0.out HB.out) | (with_reducible refine Kd.C_alloc ?_ _) | (with_reducible refine Kd.C_drewN ?_ _) | (with_reducible refine Kd.C_drew ?_))); (case side2 => exact HC0_0.out); (case side3 => repeat (first | exact (Kd.C_below HR0_1.out HB.out) | (with_reducible refine Kd.C_alloc ?_ _) | (with_reducible refine Kd.C_drewN ?_ _) | (with_reducible refine Kd.C_drew ?_))); (case side4 => exact HC0_1.out); rintro e w12 ⟨rfl, hb⟩; refine ⟨_, rfl, ?_⟩; have n0_ := Aside0.mk (blk_below (g := gb199) (o := .cells #[.slice A0_0 l0_0.length c0_0, .slice A0_1 l0_1.length c0_1] 25 (0, 0)) s9q7 hb); have n1_ := Aside0.mk (below_step s9q12 hb); clear BK199; clear HB; have BK199 := n0_; have HB := n1_; clear n0_ n1_; (try clear hb); (try clear hb2); (try clear hk); (try clear hi)))
   go_ret
   exact ⟨by first | rfl | (simp [errW_none, errW_some] <;> rfl) | (simp [*, errW_none, errW_some] <;> rfl), by repeat (first | (with_reducible first | exact HB.out | apply below_alloc | apply pw_below_drewN | apply below_drew1 | refine below_set ?_ GE199.out) | exact HB.out)⟩
 rw [if_neg c9] at H
 have c9b0 : decide (10 < (l1.length : Int)) = false := decide_eq_false c9
 have c9b1 : decide (10 < l1.length) = false := decide_eq_false (by omega)
 clear c9
 have H' := Aside0.mk H
 clear H
 go_enter Tryd.func15, Tryd.ntmps15
 go_wp2_with (first | ((with_reducible refine gate_dst (N := 2) rfl ?_); refine box_event ?hg (N := 2) ?hd (cs := #[.slice A0_0 l0_0.length c0_0, .slice A0_1 l0_1.length c0_1]) (t := 25) ?hr ?_; (case hd => rfl); (case hg => rfl); (case hr => first | (go_simp; done) | (go_simp; rfl)); intro gb199 hg w13 hbox hb; have n0_ := Aside0.mk (below_step s9q8 hb); have n1_ := Aside0.mk (hbox); have n2_ := Aside0.mk ((s9q14 : w.heap.size ≤ gb199)); have n3_ := Aside0.mk ((s9q14 : w.heap.size ≤ gb199)); clear HB; have HB := n0_; have BK199 := n1_; have GW199 := n2_; have GE199 := n3_; clear n0_ n1_ n2_ n3_; clear hb hbox hg; have hcz14_0 : w13.cell? ⟨gb199, 0, none⟩ = some (.slice A0_0 l0_0.length c0_0) := (blk_cell BK199.out 0).trans rfl; have hcz14_1 : w13.cell? ⟨gb199, 1, none⟩ = some (.slice A0_1 l0_1.length c0_1) := (blk_cell BK199.out 1).trans rfl; have hfz14_0 := blk_frozen BK199.out 0; have hfz14_1 := blk_frozen BK199.out 1) | ((with_reducible refine gate_callee (f := 27) rfl ?_); refine goesL_ (some 9) rfl rfl Tryd.func27 s9q0 rfl #[.agg #[.slice A0_0 l0_0.length c0_0, .slice A0_1 l0_1.length c0_1]] rfl s9q9 ?_; (with_reducible refine (peristyleref1_CheckTable.calls k _ _ l0_0 _ _ l0_1 t200 _ ?side1 ?side2 ?side3 ?side4 A3.out).mono ?_); (case side1 => repeat (first | exact (Kd.C_below HR0_0.out HB.out) | (with_reducible refine Kd.C_alloc ?_ _) | (with_reducible refine Kd.C_drewN ?_ _) | (with_reducible refine Kd.C_drew ?_))); (case side2 => exact HC0_0.out); (case side3 => repeat (first | exact (Kd.C_below HR0_1.out HB.out) | (with_reducible refine Kd.C_alloc ?_ _) | (with_reducible refine Kd.C_drewN ?_ _) | (with_reducible refine Kd.C_drew ?_))); (case side4 => exact HC0_1.out); rintro e w15 ⟨rfl, hb⟩; refine ⟨_, rfl, ?_⟩; have n0_ := Aside0.mk (blk_below (g := gb199) (o := .cells #[.slice A0_0 l0_0.length c0_0, .slice A0_1 l0_1.length c0_1] 25 (0, 0)) s9q7 hb); have n1_ := Aside0.mk (below_step s9q12 hb); clear BK199; clear HB; have BK199 := n0_; have HB := n1_; clear n0_ n1_; (try clear hb); (try clear hb2); (try clear hk); (try clear hi)))
 go_loopg [21] k (fun kq v21 w' => ∃ (x21_1 : Int), v21 = .int .i64 x21_1 ∧ Aside0 (peristyleref8_checkColumns.l0 kq l1 l1 (l1.length : Int) x21_1 l0_0 l0_1 = some r) ∧ Aside0 (kq ≤ k) ∧ Aside0 (w'.heap[gb199]? = some (.cells #[(.slice A0_0 l0_0.length c0_0), (.slice A0_1 l0_1.length c0_1)] 25 (0, 0))) ∧ Aside0 (Below w.heap.size w w'))
 case atStart => exact ⟨(0), s9q3, H', ⟨Nat.le_refl _⟩, ⟨by (with_reducible repeat (first | refine blk_drewN ?_ _ | refine blk_drew ?_ | refine blk_alloc ?_ _)); exact BK199.out⟩, ⟨by repeat (first | (with_reducible first | exact HB.out | apply below_alloc | apply pw_below_drewN | apply below_drew1 | refine below_set ?_ GE199.out) | exact HB.out)⟩⟩
 clear H'
 try clear c1
 try clear c2
 try clear p2
 try clear c4
 try clear c4b0
 try clear c4b1
 try clear c5
 try clear c5b0
 try clear c5b1
 try clear c5b2
 try clear c9
 try clear c9b0
 try clear c9b1
 try clear c15
 try clear hcz11_0
 try clear hcz11_1
 try clear hcz14_0
 try clear hcz14_1
 try clear hcz7_0
 try clear hcz7_1
 try clear hfz11_0
 try clear hfz11_1
 try clear hfz14_0
 try clear hfz14_1
 try clear hfz7_0
 try clear hfz7_1
 obtain ⟨x21_1, rfl, HA, HK1, BK199, HB⟩ := hrel
 cases gk with
 | zero => exact absurd HA.out (by simp [peristyleref8_checkColumns.l0])
 | succ k1 => ?_
 have H := HA.out
 clear HA
 simp only [peristyleref8_checkColumns.l0] at H
 by_cases c16 : x21_1 < (l1.length : Int)
 case neg =>
  rw [if_neg c16] at H
  have c16b0 : decide (x21_1 < (l1.length : Int)) = false := decide_eq_false c16
  clear c16
  obtain rfl := Option.some.inj H
  go_wp2
  go_ret
  exact ⟨by first | rfl | (simp [errW_none, errW_some] <;> rfl) | (simp [*, errW_none, errW_some] <;> rfl), by repeat (first | (with_reducible first | exact HB.out | apply below_alloc | apply pw_below_drewN | apply below_drew1 | refine below_set ?_ GE199.out) | exact HB.out)⟩
 rw [if_pos c16] at H
 have c16b0 : decide (x21_1 < (l1.length : Int)) = true := decide_eq_true c16
 clear c16
 by_cases c17 : 0 ≤ x21_1
 case neg =>
  rw [if_neg c17] at H
  exact absurd H (by simp)
 rw [if_pos c17] at H
 have c17b0 : decide (0 ≤ x21_1) = true := decide_eq_true c17
 clear c17
 by_cases c18 : x21_1 < (l1.length : Int)
 case neg =>
  rw [if_neg c18] at H
  exact absurd H (by simp)
 rw [if_pos c18] at H
 have c18b0 : decide (x21_1 < (l1.length : Int)) = true := decide_eq_true c18
 clear c18
 replace H := Option.bind_eq_some_iff.mp H
 obtain ⟨t202, A190, H⟩ := H
 replace H : (if t202 = true then (if x21_1 ≤ (l1.length : Int) then ((slices_Contains_int_int.f k1 (l1.take (x21_1 : Int).toNat) (rd l1 x21_1)).bind fun t204 => (if t204 = true then (some 7) else (peristyleref8_checkColumns.l0 k1 l1 l1 (l1.length : Int) (wrap64 (x21_1 + 1)) l0_0 l0_1))) else (none)) else (some 1)) = some r := H
 have A19 := Aside0.mk A190
 clear A190
 by_cases c20 : t202 = true
 case neg =>
  replace c20 := Bool.eq_false_iff.mpr c20
  subst c20
  have H1 : (some 1) = some r := s9q16
  clear H
  have H := H1
  clear H1
  obtain rfl := Option.some.inj H
  have p201 : 0 ≤ (x21_1 : Int) := of_decide_eq_true s9q4
  have q201 : x21_1 < (l1.length : Int) := of_decide_eq_true s9q4
  obtain ⟨ad201, e201, hx201_0⟩ := Kd.at_int HR1.out x21_1 p201 q201
  cases e201
  replace hx201_0 := (HB.out.cell (World.block_lt_of_cell? w _ hx201_0)).trans hx201_0
  replace p201 := eq_true p201
  replace q201 := eq_true q201
  have hcz29_0 : wr.cell? ⟨gb199, 0, none⟩ = some (.slice A0_0 l0_0.length c0_0) := (blk_cell BK199.out 0).trans rfl
  have hcz29_1 : wr.cell? ⟨gb199, 1, none⟩ = some (.slice A0_1 l0_1.length c0_1) := (blk_cell BK199.out 1).trans rfl
  have hfz29_0 := blk_frozen BK199.out 0
  have hfz29_1 := blk_frozen BK199.out 1
  go_wp2_with (first | ((with_reducible refine gate_callee (f := 16) rfl ?_); refine goesL_ (some 31) rfl rfl Tryd.func16 s9q0 rfl #[.int .i64 (rd l1 x21_1), .int .i64 0, .int .i64 (wrap64 ((l0_0.length : Int) - 1))] rfl s9q9 ?_; (with_reducible refine (peristyleref8_within.calls (rd l1 x21_1) 0 (wrap64 ((l0_0.length : Int) - 1)) false _ A19.out).mono ?_); rintro e w' ⟨rfl, ⟨nd, rfl⟩⟩; refine ⟨_, rfl, ?_⟩))
  go_ret
  exact ⟨by first | rfl | (simp [errW_none, errW_some] <;> rfl) | (simp [*, errW_none, errW_some] <;> rfl), by repeat (first | (with_reducible first | exact HB.out | apply below_alloc | apply pw_below_drewN | apply below_drew1 | refine below_set ?_ GE199.out) | exact HB.out)⟩
 subst c20
 have H1 : (if x21_1 ≤ (l1.length : Int) then ((slices_Contains_int_int.f k1 (l1.take (x21_1 : Int).toNat) (rd l1 x21_1)).bind fun t204 => (if t204 = true then (some 7) else (peristyleref8_checkColumns.l0 k1 l1 l1 (l1.length : Int) (wrap64 (x21_1 + 1)) l0_0 l0_1))) else (none)) = some r := by rw [if_pos rfl] at H; exact H
 clear H
 have H := H1
 clear H1
 have c21b0 := eq_true (of_decide_eq_true s9q4 : 0 ≤ x21_1)
 by_cases c22 : x21_1 ≤ (l1.length : Int)
 case neg =>
  rw [if_neg c22] at H
  exact absurd H (by simp)
 rw [if_pos c22] at H
 have c22b0 := eq_true c22
 have c22b1 : decide (x21_1 ≤ (l1.length : Int)) = true := decide_eq_true c22
 clear c22
 replace H := Option.bind_eq_some_iff.mp H
 obtain ⟨t204, A230, H⟩ := H
 replace H : (if t204 = true then (some 7) else (peristyleref8_checkColumns.l0 k1 l1 l1 (l1.length : Int) (wrap64 (x21_1 + 1)) l0_0 l0_1)) = some r := H
 have A23 := Aside0.mk A230
 clear A230
 by_cases c24 : t204 = true
 · subst c24
   have H1 : (some 7) = some r := by rw [if_pos rfl] at H; exact H
   clear H
   have H := H1
   clear H1
   obtain rfl := Option.some.inj H
   have p201 : 0 ≤ (x21_1 : Int) := of_decide_eq_true s9q4
   have q201 : x21_1 < (l1.length : Int) := of_decide_eq_true s9q4
   obtain ⟨ad201, e201, hx201_0⟩ := Kd.at_int HR1.out x21_1 p201 q201
   cases e201
   replace hx201_0 := (HB.out.cell (World.block_lt_of_cell? w _ hx201_0)).trans hx201_0
   replace p201 := eq_true p201
   replace q201 := eq_true q201
   have hcz25_0 : wr.cell? ⟨gb199, 0, none⟩ = some (.slice A0_0 l0_0.length c0_0) := (blk_cell BK199.out 0).trans rfl
   have hcz25_1 : wr.cell? ⟨gb199, 1, none⟩ = some (.slice A0_1 l0_1.length c0_1) := (blk_cell BK199.out 1).trans rfl
   have hfz25_0 := blk_frozen BK199.out 0
   have hfz25_1 := blk_frozen BK199.out 1
   go_wp2_with (first | ((with_reducible refine gate_callee (f := 16) rfl ?_); refine goesL_ (some 31) rfl rfl Tryd.func16 s9q0 rfl #[.int .i64 (rd l1 x21_1), .int .i64 0, .int .i64 (wrap64 ((l0_0.length : Int) - 1))] rfl s9q9 ?_; (with_reducible refine (peristyleref8_within.calls (rd l1 x21_1) 0 (wrap64 ((l0_0.length : Int) - 1)) true _ A19.out).mono ?_); rintro e w' ⟨rfl, ⟨nd, rfl⟩⟩; refine ⟨_, rfl, ?_⟩; obtain ⟨i026, hi026, _, hsz26, _⟩ := info_parts info3; obtain ⟨hcut26, hA26, hC26⟩ := print_take_of (P := Tryd.prog) (Value.int .i64) 0 26 3 .i64 Tryd.underlying26 hi026 hsz26 (some ad201) c1 l1 x21_1 (of_decide_eq_true s9q4) (of_decide_eq_true s9q4) HC1.out; have HR203 := Aside0.mk (Kd.C_of_reads (h1 := fun _ => rfl) (hA26 _ (Kd.reads_of_C HR1.out))); have HC203 := Aside0.mk hC26; clear hA26 hC26 hi026 hsz26) | ((with_reducible refine gate_callee (f := 24) rfl ?_); refine goesL_ (some 37) rfl rfl Tryd.func24 s9q0 rfl #[.slice (some ad201) (l1.take (x21_1 : Int).toNat).length c1, .int .i64 (rd l1 x21_1)] rfl s9q15 ?_; (with_reducible refine (slices_Contains_int_int.calls k1 _ _ (l1.take (x21_1 : Int).toNat) (rd l1 x21_1) true _ ?side1 ?side2 A23.out).mono ?_); (case side1 => repeat (first | exact (Kd.C_below HR203.out s9q12) | (with_reducible refine Kd.C_alloc ?_ _) | (with_reducible refine Kd.C_drewN ?_ _) | (with_reducible refine Kd.C_drew ?_))); (case side2 => exact HC203.out); rintro e w' ⟨rfl, ⟨nd, rfl⟩⟩; refine ⟨_, rfl, ?_⟩))
   go_ret
   exact ⟨by first | rfl | (simp [errW_none, errW_some] <;> rfl) | (simp [*, errW_none, errW_some] <;> rfl), by repeat (first | (with_reducible first | exact HB.out | apply below_alloc | apply pw_below_drewN | apply below_drew1 | refine below_set ?_ GE199.out) | exact HB.out)⟩
 replace c24 := Bool.eq_false_iff.mpr c24
 subst c24
 have H1 : (peristyleref8_checkColumns.l0 k1 l1 l1 (l1.length : Int) (wrap64 (x21_1 + 1)) l0_0 l0_1) = some r := s9q16
 clear H
 have H := H1
 clear H1
 have H' := Aside0.mk H
 clear H
 have p201 : 0 ≤ (x21_1 : Int) := of_decide_eq_true s9q4
 have q201 : x21_1 < (l1.length : Int) := of_decide_eq_true s9q4
 obtain ⟨ad201, e201, hx201_0⟩ := Kd.at_int HR1.out x21_1 p201 q201
 cases e201
 replace hx201_0 := (HB.out.cell (World.block_lt_of_cell? w _ hx201_0)).trans hx201_0
 replace p201 := eq_true p201
 replace q201 := eq_true q201
 have hcz27_0 : wr.cell? ⟨gb199, 0, none⟩ = some (.slice A0_0 l0_0.length c0_0) := (blk_cell BK199.out 0).trans rfl
 have hcz27_1 : wr.cell? ⟨gb199, 1, none⟩ = some (.slice A0_1 l0_1.length c0_1) := (blk_cell BK199.out 1).trans rfl
 have hfz27_0 := blk_frozen BK199.out 0
 have hfz27_1 := blk_frozen BK199.out 1
 go_wp2_with (first | ((with_reducible refine gate_callee (f := 16) rfl ?_); refine goesL_ (some 31) rfl rfl Tryd.func16 s9q0 rfl #[.int .i64 (rd l1 x21_1), .int .i64 0, .int .i64 (wrap64 ((l0_0.length : Int) - 1))] rfl s9q9 ?_; (with_reducible refine (peristyleref8_within.calls (rd l1 x21_1) 0 (wrap64 ((l0_0.length : Int) - 1)) true _ A19.out).mono ?_); rintro e w' ⟨rfl, ⟨nd, rfl⟩⟩; refine ⟨_, rfl, ?_⟩; obtain ⟨i028, hi028, _, hsz28, _⟩ := info_parts info3; obtain ⟨hcut28, hA28, hC28⟩ := print_take_of (P := Tryd.prog) (Value.int .i64) 0 26 3 .i64 Tryd.underlying26 hi028 hsz28 (some ad201) c1 l1 x21_1 (of_decide_eq_true s9q4) (of_decide_eq_true s9q4) HC1.out; have HR203 := Aside0.mk (Kd.C_of_reads (h1 := fun _ => rfl) (hA28 _ (Kd.reads_of_C HR1.out))); have HC203 := Aside0.mk hC28; clear hA28 hC28 hi028 hsz28) | ((with_reducible refine gate_callee (f := 24) rfl ?_); refine goesL_ (some 37) rfl rfl Tryd.func24 s9q0 rfl #[.slice (some ad201) (l1.take (x21_1 : Int).toNat).length c1, .int .i64 (rd l1 x21_1)] rfl s9q15 ?_; (with_reducible refine (slices_Contains_int_int.calls k1 _ _ (l1.take (x21_1 : Int).toNat) (rd l1 x21_1) false _ ?side1 ?side2 A23.out).mono ?_); (case side1 => repeat (first | exact (Kd.C_below HR203.out s9q12) | (with_reducible refine Kd.C_alloc ?_ _) | (with_reducible refine Kd.C_drewN ?_ _) | (with_reducible refine Kd.C_drew ?_))); (case side2 => exact HC203.out); rintro e w' ⟨rfl, ⟨nd, rfl⟩⟩; refine ⟨_, rfl, ?_⟩))
 first | go_roundg k1 | (refine Handed.intro k1 ?measure ?_; rotate_left; go_step; (repeat apply Exists.intro); simp only [add_plain]; refine ⟨?rel, rfl⟩)
 case measure => have := HK1.out; omega
 case rel => exact ⟨(wrap64 (x21_1 + 1)), s9q3, H', ⟨by have := HK1.out; omega⟩, ⟨by (with_reducible repeat (first | refine blk_drewN ?_ _ | refine blk_drew ?_ | refine blk_alloc ?_ _)); exact BK199.out⟩, ⟨by repeat (first | (with_reducible first | exact HB.out | apply below_alloc | apply pw_below_drewN | apply below_drew1 | refine below_set ?_ GE199.out) | exact HB.out)⟩⟩
end Go.Proofs.YtgdbkhbaekeijaaDoor.F
