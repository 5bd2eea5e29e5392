-- Printed by a program of this session (a patched print).
import Derived.Test.YtgdbkhbaekeijaaDoorFx0
import Derived.Test.YtgdbkhbaekeijaaDoorFx1
import Derived.Test.YtgdbkhbaekeijaaDoorFx2
import Derived.Test.YtgdbkhbaekeijaaDoorFx5
import Derived.Test.YtgdbkhbaekeijaaDoorFx6
import Derived.Test.YtgdbkhbaekeijaaDoorFx12
import Derived.Test.YtgdbkhbaekeijaaDoorFx13
import Derived.Test.YtgdbkhbaekeijaaDoorFx14
namespace Go.Proofs.YtgdbkhbaekeijaaDoor.F
open Go.RowKit Go.Proofs.YtgdbkhbaekeijaaDoorW.PrintWords Go.Proofs.YtgdbkhbaekeijaaDoorW.PrintLast Go.Proofs.YtgdbkhbaekeijaaDoorW.PrintMore
attribute [local go_sem] max2_int min2_int max_two min_two max_three min_three max_four min_four   -- for this text's walks alone
set_option linter.unusedVariables false
set_option linter.unusedSimpArgs false

theorem s15q0 {p : Prop} (h : p := by kernel_rfl) : p := h
theorem s15q1 {p : Prop} (h : p := by first | rfl | (simp; done) | (simp [*]; done)) : p := h
theorem s15q2 {p : Prop} (h : p := by first | (with_reducible assumption) | assumption) : p := h
theorem s15q3 {p : Prop} (h : p := by (with_reducible repeat (first | apply Kd.R_alloc | apply Kd.R_drewN | apply Kd.R_drew)); exact HO297.out) : p := h
theorem s15q4 {p : Prop} (h : p := by (with_reducible repeat (first | apply Kd.R_alloc | apply Kd.R_drewN | apply Kd.R_drew)); exact HO304.out) : p := h
theorem s15q5 {p : Prop} (h : p := by (with_reducible repeat (first | apply Kd.R_alloc | apply Kd.R_drewN | apply Kd.R_drew)); exact HO317.out) : p := h
theorem s15q6 {p : Prop} (h : p := by (with_reducible repeat (first | apply Kd.R_alloc | apply Kd.R_drewN | apply Kd.R_drew)); exact HO_308000.out) : p := h
theorem s15q7 {p : Prop} (h : p := by (with_reducible repeat (first | apply Kd.R_alloc | apply Kd.R_drewN | apply Kd.R_drew)); exact HO_314000.out) : p := h
theorem s15q8 {p : Prop} (h : p := by (with_reducible repeat (first | refine blk_drewN ?_ _ | refine blk_drew ?_ | refine blk_alloc ?_ _)); exact BK300.out) : p := h
theorem s15q9 {p : Prop} (h : p := by (with_reducible repeat (first | refine blk_drewN ?_ _ | refine blk_drew ?_ | refine blk_alloc ?_ _)); exact BK301.out) : p := h
theorem s15q10 {p : Prop} (h : p := by (with_reducible repeat (first | refine blk_drewN ?_ _ | refine blk_drew ?_ | refine blk_alloc ?_ _)); exact BK307.out) : p := h
theorem s15q11 {p : Prop} (h : p := by (with_reducible repeat (first | refine blk_drewN ?_ _ | refine blk_drew ?_ | refine blk_alloc ?_ _)); exact BK313.out) : p := h
theorem s15q12 {p : Prop} (h : p := by repeat (first | (with_reducible first | exact HB.out | apply below_alloc | apply pw_below_drewN | apply below_drew1) | exact HB.out)) : p := h
theorem s15q13 {p : Prop} (h : p := by (try simp only [List.map_toArray, List.map_cons, List.map_nil]); first | done | rfl | (simp only [List.length_drop, List.length_take]; rfl)) : p := h
theorem s15q14 {p : Prop} (h : p := by repeat (first | (with_reducible first | exact HB.out | apply below_alloc | apply pw_below_drewN | apply below_drew1 | refine below_set ?_ GE291.out) | exact HB.out)) : p := h
theorem s15q15 {p : Prop} (h : p := by repeat (first | (with_reducible first | exact HB.out | apply below_alloc | apply pw_below_drewN | apply below_drew1 | refine below_set ?_ GE300.out) | exact HB.out)) : p := h
theorem s15q16 {p : Prop} (h : p := by repeat (first | (with_reducible first | exact HB.out | apply below_alloc | apply pw_below_drewN | apply below_drew1 | refine below_set ?_ GE300.out | refine below_set ?_ GE301.out) | exact HB.out)) : p := h
theorem s15q17 {p : Prop} (h : p := by repeat (first | (with_reducible first | exact HB.out | apply below_alloc | apply pw_below_drewN | apply below_drew1 | refine below_set ?_ GE300.out | refine below_set ?_ GE301.out | refine below_set ?_ GE307.out) | exact HB.out)) : p := h
theorem s15q18 {p : Prop} (h : p := by repeat (first | (with_reducible first | exact HB.out | apply below_alloc | apply pw_below_drewN | apply below_drew1 | refine below_set ?_ GE300.out | refine below_set ?_ GE301.out | refine below_set ?_ GE307.out | refine below_set ?_ GE313.out) | exact HB.out)) : p := h
theorem s15q19 {p : Prop} (h : p := by (with_reducible repeat (first | apply Kd.R_alloc | apply Kd.R_drewN | apply Kd.R_drew)); exact (Kd.R_mono (Kd.R_far (p := ⟨gb307, 1, none⟩) (Kd.R_far (p := ⟨gb307, 0, none⟩) (Kd.R_types HO304.out BK307.out (by decide)) (fun _ hk => hk.2) (.slice Ao15 t302.length co15)) (fun _ hk => hk.2) (.int .i64 t305)) (fun _ h_ => h_.1))) : p := h
theorem s15q20 {p : Prop} (h : p := by (with_reducible repeat (first | apply Kd.R_alloc | apply Kd.R_drewN | apply Kd.R_drew)); exact (Kd.R_mono (Kd.R_far (p := ⟨gb313, 1, none⟩) (Kd.R_far (p := ⟨gb313, 0, none⟩) (Kd.R_types HO304.out BK313.out (by decide)) (fun _ hk => hk.2) (.slice Ao22 t308.length co22)) (fun _ hk => hk.2) (.int .i64 t311)) (fun _ h_ => h_.1))) : p := h
theorem s15q21 {p : Prop} (h : p := by (with_reducible repeat (first | apply Kd.R_alloc | apply Kd.R_drewN | apply Kd.R_drew)); exact (Kd.R_mono (Kd.R_far (p := ⟨gb313, 1, none⟩) (Kd.R_far (p := ⟨gb313, 0, none⟩) (Kd.R_types HO310.out BK313.out (by decide)) (fun _ hk => hk.2) (.slice Ao22 t308.length co22)) (fun _ hk => hk.2) (.int .i64 t311)) (fun _ h_ => h_.1))) : p := h
theorem s15q22 {p : Prop} (h : p := by (with_reducible repeat (first | refine blk_drewN ?_ _ | refine blk_drew ?_ | refine blk_alloc ?_ _)); refine blk_put (cs := #[.int .i64 ((rd_T54 l0 x14_1).f0), .int .i64 ((rd_T54 l0 x14_1).f1), .string (⟨#[]⟩ : ByteArray)]) ?_ 2 _ rfl; (with_reducible repeat (first | refine blk_drewN ?_ _ | refine blk_drew ?_ | refine blk_alloc ?_ _)); refine blk_put (cs := #[.int .i64 ((rd_T54 l0 x14_1).f0), .int .i64 0, .string (⟨#[]⟩ : ByteArray)]) ?_ 1 _ rfl; (with_reducible repeat (first | refine blk_drewN ?_ _ | refine blk_drew ?_ | refine blk_alloc ?_ _)); refine blk_put (cs := #[.int .i64 0, .int .i64 0, .string (⟨#[]⟩ : ByteArray)]) ?_ 0 _ rfl; (with_reducible repeat (first | refine blk_drewN ?_ _ | refine blk_drew ?_ | refine blk_alloc ?_ _)); exact BK291.out) : p := h
theorem s15q23 {p : Prop} (h : p := by rw [hg]; exact (below_size s15q12)) : p := h
theorem s15q24 {p : Prop} (h : p := by rw [if_neg (show ¬ (false = true) by decide)] at H; exact H) : p := h
/-! ### join_Hash: function 22 -/
def join_Hash.l0 : Nat → List (S54) → Int → List (S54) → Int → Int → Option (Int × Int)
  | 0, _, _, _, _, _ => none
  | k + 1, x0, x1, x12, x13, x14 => if x14 < x13 then (if 0 ≤ x14 then (if x14 < (x12.length : Int) then ((value_CheckValue.f k ((rd_T54 x12 x14).f0) ((rd_T54 x12 x14).f1) ((rd_T54 x12 x14).f2)).bind fun t292 => (if t292 = 0 then (join_Hash.l0 k x0 x1 x12 x13 (wrap64 (x14 + 1))) else (some (0, t292)))) else (none)) else (none)) else ((kit_In.f x1 0 5).bind fun t293 => (if t293 = true then ((join_hash.f k x0 x1).bind fun t294 => (some (t294, 0))) else (some (0, 1))))
def join_Hash.f (k : Nat) (l0 : List (S54)) (a1 : Int) : Option (Int × Int) := if (l0.length : Int) > 10 then (some (0, 2)) else (join_Hash.l0 k l0 a1 l0 (l0.length : Int) 0)
theorem join_Hash.mono_l : ∀ k, (∀ y0 y1 y2 y3 y4, LeO (join_Hash.l0 k y0 y1 y2 y3 y4) (join_Hash.l0 (k + 1) y0 y1 y2 y3 y4))
  | 0 => fun _ _ _ _ _ r h => by simp [join_Hash.l0] at h
  | k + 1 => by
    have ih0 := join_Hash.mono_l k
    · intro y0 y1 y2 y3 y4
      unfold join_Hash.l0
      repeat' first | (with_reducible exact ih0 _ _ _ _ _) | (with_reducible exact join_hash.mono _ _ _) | (with_reducible exact value_CheckValue.mono _ _ _ _) | (with_reducible exact LeO.refl _) | (with_reducible exact LeO.none _) | (with_reducible refine LeO.ite ?_ ?_) | (with_reducible refine LeO.bind ?_ (fun _ => ?_)) | exact ih0 _ _ _ _ _ | exact join_hash.mono _ _ _ | exact value_CheckValue.mono _ _ _ _ | exact LeO.none _ | refine LeO.ite ?_ ?_ | refine LeO.bind ?_ (fun _ => ?_)
theorem join_Hash.mono : ∀ a0 a1 k, LeO (join_Hash.f k a0 a1) (join_Hash.f (k + 1) a0 a1) := by
 intro a0 a1 k
 have ih0 := join_Hash.mono_l k
 unfold join_Hash.f
 repeat' first
  | (with_reducible exact ih0 _ _ _ _ _)
  | (with_reducible exact join_hash.mono _ _ _)
  | (with_reducible exact value_CheckValue.mono _ _ _ _)
  | (with_reducible exact LeO.refl _)
  | (with_reducible exact LeO.none _)
  | (with_reducible refine LeO.ite ?_ ?_)
  | (with_reducible refine LeO.bind ?_ (fun _ => ?_))
  | exact ih0 _ _ _ _ _
  | exact join_hash.mono _ _ _
  | exact value_CheckValue.mono _ _ _ _
  | exact LeO.none _
  | refine LeO.ite ?_ ?_
  | refine LeO.bind ?_ (fun _ => ?_)
set_option maxHeartbeats 8000000 in
set_option maxRecDepth 100000 in
theorem join_Hash.calls (k : Nat) (A0 : Option Addr) (c0 : Nat) (l0 : List (S54)) (a1 : Int) (r1 : Int) (r2 : Int) (w : World) (hr0 : Kd.C k54 w A0 l0.length l0) (hc0 : l0.length ≤ c0) (hG : Glob w) (h : join_Hash.f k l0 a1 = some (r1, r2)) :
    Calls Tryd.prog 22 #[.slice A0 l0.length c0, .int .i64 a1] w fun e w' => e = .returned (.tuple #[.int .i64 r1, .int .i64 r2]) ∧ Below w.heap.size w w' := by
 have hu54 := Tryd.underlying54
 have HG := Aside0.mk hG
 clear hG
 have HR0 := Aside0.mk hr0
 have HC0 := Aside0.mk hc0
 clear hr0 hc0
 have HB := Aside0.mk (Below.refl w.heap.size w)
 have H : (if (l0.length : Int) > 10 then (some (0, 2)) else (join_Hash.l0 k l0 a1 l0 (l0.length : Int) 0)) = some (r1, r2) := h
 clear h
 by_cases c3 : (l0.length : Int) > 10
 · rw [if_pos c3] at H
   have c3b0 : decide (10 < (l0.length : Int)) = true := decide_eq_true c3
   have c3b1 : decide (10 < l0.length) = true := decide_eq_true (by omega)
   clear c3
   simp only [Option.some.injEq, Prod.mk.injEq] at H
   obtain ⟨rfl, rfl⟩ := H
   go_enter Tryd.func22, Tryd.ntmps22
   go_wp2
   go_ret2
   exact ⟨by first | rfl | (simp [errW_none, errW_some] <;> rfl) | (simp [*, errW_none, errW_some] <;> rfl), by repeat (first | (with_reducible first | exact HB.out | apply below_alloc | apply pw_below_drewN | apply below_drew1) | exact HB.out)⟩
 rw [if_neg c3] at H
 have c3b0 : decide (10 < (l0.length : Int)) = false := decide_eq_false c3
 have c3b1 : decide (10 < l0.length) = false := decide_eq_false (by omega)
 clear c3
 have H' := Aside0.mk H
 clear H
 go_enter Tryd.func22, Tryd.ntmps22
 go_wp2
 go_loopg [14] k (fun kq v14 w' => ∃ (x14_1 : Int), v14 = .int .i64 x14_1 ∧ Aside0 (join_Hash.l0 kq l0 a1 l0 (l0.length : Int) x14_1 = some (r1, r2)) ∧ Aside0 (kq ≤ k) ∧ Aside0 (Below w.heap.size w w'))
 case atStart => exact ⟨(0), s15q1, H', ⟨Nat.le_refl _⟩, ⟨by repeat (first | (with_reducible first | exact HB.out | apply below_alloc | apply pw_below_drewN | apply below_drew1) | exact HB.out)⟩⟩
 clear H'
 try clear c2
 try clear p2
 try clear c3
 try clear c3b0
 try clear c3b1
 obtain ⟨x14_1, rfl, HA, HK1, HB⟩ := hrel
 cases gk with
 | zero => exact absurd HA.out (by simp [join_Hash.l0])
 | succ k1 => ?_
 have H := HA.out
 clear HA
 simp only [join_Hash.l0] at H
 by_cases c4 : x14_1 < (l0.length : Int)
 case neg =>
  rw [if_neg c4] at H
  have c4b0 : decide (x14_1 < (l0.length : Int)) = false := decide_eq_false c4
  clear c4
  replace H := Option.bind_eq_some_iff.mp H
  obtain ⟨t293, A150, H⟩ := H
  replace H : (if t293 = true then ((join_hash.f k1 l0 a1).bind fun t294 => (some (t294, 0))) else (some (0, 1))) = some (r1, r2) := H
  have A15 := Aside0.mk A150
  clear A150
  by_cases c16 : t293 = true
  case neg =>
   replace c16 := Bool.eq_false_iff.mpr c16
   subst c16
   have H1 : (some (0, 1)) = some (r1, r2) := s15q24
   clear H
   have H := H1
   clear H1
   simp only [Option.some.injEq, Prod.mk.injEq] at H
   obtain ⟨rfl, rfl⟩ := H
   go_wp2_with (first | ((with_reducible refine gate_callee (f := 12) rfl ?_); refine goesL_ (some 25) rfl rfl Tryd.func12 s15q0 rfl #[.int .i64 a1, .int .i64 0, .int .i64 5] rfl s15q13 ?_; (with_reducible refine (kit_In.calls a1 0 5 false _ A15.out).mono ?_); rintro e w' ⟨rfl, ⟨nd, rfl⟩⟩; refine ⟨_, rfl, ?_⟩))
   go_ret2
   exact ⟨by first | rfl | (simp [errW_none, errW_some] <;> rfl) | (simp [*, errW_none, errW_some] <;> rfl), by repeat (first | (with_reducible first | exact HB.out | apply below_alloc | apply pw_below_drewN | apply below_drew1) | exact HB.out)⟩
  subst c16
  have H1 : ((join_hash.f k1 l0 a1).bind fun t294 => (some (t294, 0))) = some (r1, r2) := by rw [if_pos rfl] at H; exact H
  clear H
  have H := H1
  clear H1
  replace H := Option.bind_eq_some_iff.mp H
  obtain ⟨t294, A170, H⟩ := H
  replace H : (some (t294, 0)) = some (r1, r2) := H
  have A17 := Aside0.mk A170
  clear A170
  simp only [Option.some.injEq, Prod.mk.injEq] at H
  obtain ⟨rfl, rfl⟩ := H
  go_wp2_with (first | ((with_reducible refine gate_callee (f := 12) rfl ?_); refine goesL_ (some 25) rfl rfl Tryd.func12 s15q0 rfl #[.int .i64 a1, .int .i64 0, .int .i64 5] rfl s15q13 ?_; (with_reducible refine (kit_In.calls a1 0 5 true _ A15.out).mono ?_); rintro e w' ⟨rfl, ⟨nd, rfl⟩⟩; refine ⟨_, rfl, ?_⟩) | ((with_reducible refine gate_callee (f := 14) rfl ?_); refine goesL_ (some 29) rfl rfl Tryd.func14 s15q0 rfl #[.slice A0 l0.length c0, .int .i64 a1] rfl s15q13 ?_; (with_reducible refine (join_hash.calls k1 _ _ l0 a1 t294 _ ?side1 ?side2 ?side3 A17.out).mono ?_); (case side1 => repeat (first | exact (Kd.C_below HR0.out s15q12) | (with_reducible refine Kd.C_alloc ?_ _) | (with_reducible refine Kd.C_drewN ?_ _) | (with_reducible refine Kd.C_drew ?_))); (case side2 => exact HC0.out); (case side3 => exact Glob_below HG.out s15q12); rintro e w18 ⟨rfl, hb⟩; refine ⟨_, rfl, ?_⟩; have n0_ := Aside0.mk (below_step s15q12 hb); clear HB; have HB := n0_; clear n0_; (try clear hb); (try clear hb2); (try clear hk); (try clear hi)))
  go_ret2
  exact ⟨by first | rfl | (simp [errW_none, errW_some] <;> rfl) | (simp [*, errW_none, errW_some] <;> rfl), by repeat (first | (with_reducible first | exact HB.out | apply below_alloc | apply pw_below_drewN | apply below_drew1) | exact HB.out)⟩
 rw [if_pos c4] at H
 have c4b0 : decide (x14_1 < (l0.length : Int)) = true := decide_eq_true c4
 clear c4
 by_cases c5 : 0 ≤ x14_1
 case neg =>
  rw [if_neg c5] at H
  exact absurd H (by simp)
 rw [if_pos c5] at H
 have c5b0 : decide (0 ≤ x14_1) = true := decide_eq_true c5
 clear c5
 by_cases c6 : x14_1 < (l0.length : Int)
 case neg =>
  rw [if_neg c6] at H
  exact absurd H (by simp)
 rw [if_pos c6] at H
 have c6b0 : decide (x14_1 < (l0.length : Int)) = true := decide_eq_true c6
 clear c6
 replace H := Option.bind_eq_some_iff.mp H
 obtain ⟨t292, A70, H⟩ := H
 replace H : (if t292 = 0 then (join_Hash.l0 k1 l0 a1 l0 (l0.length : Int) (wrap64 (x14_1 + 1))) else (some (0, t292))) = some (r1, r2) := H
 have A7 := Aside0.mk A70
 clear A70
 by_cases c8 : t292 = 0
 case neg =>
  rw [if_neg c8] at H
  have c8b0 : (t292 == 0) = false := beq_eq_false_iff_ne.mpr c8
  have c8b1 : (t292 != 0) = true := bne_iff_ne.mpr c8
  simp only [Option.some.injEq, Prod.mk.injEq] at H
  obtain ⟨rfl, rfl⟩ := H
  have p290 : 0 ≤ (x14_1 : Int) := of_decide_eq_true s15q2
  have q290 : x14_1 < (l0.length : Int) := of_decide_eq_true s15q2
  obtain ⟨ad290, e290, hx290_0, hx290_1, hx290_2⟩ := at_T54 HR0.out x14_1 p290 q290
  cases e290
  replace hx290_0 := (HB.out.cell (World.block_lt_of_cell? w _ hx290_0)).trans hx290_0
  replace hx290_1 := (HB.out.cell (World.block_lt_of_cell? w _ hx290_1)).trans hx290_1
  replace hx290_2 := (HB.out.cell (World.block_lt_of_cell? w _ hx290_2)).trans hx290_2
  replace p290 := eq_true p290
  replace q290 := eq_true q290
  go_wp2_with (first | ((with_reducible refine gate_dst (N := 7) rfl ?_); refine box_event ?hg (N := 7) ?hd (cs := #[.int .i64 0, .int .i64 0, .string (⟨#[]⟩ : ByteArray)]) (t := 54) ?hr ?_; (case hd => rfl); (case hg => rfl); (case hr => first | (go_simp; done) | (go_simp; rfl)); intro gb291 hg w12 hbox hb; have n0_ := Aside0.mk (below_step s15q12 hb); have n1_ := Aside0.mk (hbox); have n2_ := Aside0.mk ((s15q23 : w.heap.size ≤ gb291)); have n3_ := Aside0.mk ((s15q23 : w.heap.size ≤ gb291)); clear HB; have HB := n0_; have BK291 := n1_; have GW291 := n2_; have GE291 := n3_; clear n0_ n1_ n2_ n3_; clear hb hbox hg; have hcz13_0 : w12.cell? ⟨gb291, 0, none⟩ = some (.int .i64 0) := (blk_cell BK291.out 0).trans rfl; have hcz13_1 : w12.cell? ⟨gb291, 1, none⟩ = some (.int .i64 0) := (blk_cell BK291.out 1).trans rfl; have hcz13_2 : w12.cell? ⟨gb291, 2, none⟩ = some (.string (⟨#[]⟩ : ByteArray)) := (blk_cell BK291.out 2).trans rfl; have hfz13_0 := blk_frozen BK291.out 0; have hfz13_1 := blk_frozen BK291.out 1; have hfz13_2 := blk_frozen BK291.out 2) | ((with_reducible refine gate_callee (f := 29) rfl ?_); refine goesL_ (some 19) rfl rfl Tryd.func29 s15q0 rfl #[.agg #[.int .i64 ((rd_T54 l0 x14_1).f0), .int .i64 ((rd_T54 l0 x14_1).f1), .string ((rd_T54 l0 x14_1).f2)]] rfl s15q13 ?_; (with_reducible refine (value_CheckValue.calls k1 ((rd_T54 l0 x14_1).f0) ((rd_T54 l0 x14_1).f1) ((rd_T54 l0 x14_1).f2) t292 _ A7.out).mono ?_); rintro e w14 ⟨rfl, hb⟩; refine ⟨_, rfl, ?_⟩; have n0_ := Aside0.mk (blk_below (g := gb291) (o := .cells #[.int .i64 ((rd_T54 l0 x14_1).f0), .int .i64 ((rd_T54 l0 x14_1).f1), .string ((rd_T54 l0 x14_1).f2)] 54 (0, 0)) s15q22 hb); have n1_ := Aside0.mk (below_step s15q14 hb); clear BK291; clear HB; have BK291 := n0_; have HB := n1_; clear n0_ n1_; (try clear hb); (try clear hb2); (try clear hk); (try clear hi)))
  go_ret2
  exact ⟨by first | rfl | (simp [errW_none, errW_some] <;> rfl) | (simp [*, errW_none, errW_some] <;> rfl), by repeat (first | (with_reducible first | exact HB.out | apply below_alloc | apply pw_below_drewN | apply below_drew1 | refine below_set ?_ GE291.out) | exact HB.out)⟩
 rw [if_pos c8] at H
 have c8b0 : (t292 == 0) = true := beq_iff_eq.mpr c8
 have c8b1 : (t292 != 0) = false := bne_eq_false_iff_eq.mpr c8
 clear c8
 have H' := Aside0.mk H
 clear H
 have p290 : 0 ≤ (x14_1 : Int) := of_decide_eq_true s15q2
 have q290 : x14_1 < (l0.length : Int) := of_decide_eq_true s15q2
 obtain ⟨ad290, e290, hx290_0, hx290_1, hx290_2⟩ := at_T54 HR0.out x14_1 p290 q290
 cases e290
 replace hx290_0 := (HB.out.cell (World.block_lt_of_cell? w _ hx290_0)).trans hx290_0
 replace hx290_1 := (HB.out.cell (World.block_lt_of_cell? w _ hx290_1)).trans hx290_1
 replace hx290_2 := (HB.out.cell (World.block_lt_of_cell? w _ hx290_2)).trans hx290_2
 replace p290 := eq_true p290
 replace q290 := eq_true q290
 go_wp2_with (first | ((with_reducible refine gate_dst (N := 7) rfl ?_); refine box_event ?hg (N := 7) ?hd (cs := #[.int .i64 0, .int .i64 0, .string (⟨#[]⟩ : ByteArray)]) (t := 54) ?hr ?_; (case hd => rfl); (case hg => rfl); (case hr => first | (go_simp; done) | (go_simp; rfl)); intro gb291 hg w9 hbox hb; have n0_ := Aside0.mk (below_step s15q12 hb); have n1_ := Aside0.mk (hbox); have n2_ := Aside0.mk ((s15q23 : w.heap.size ≤ gb291)); have n3_ := Aside0.mk ((s15q23 : w.heap.size ≤ gb291)); clear HB; have HB := n0_; have BK291 := n1_; have GW291 := n2_; have GE291 := n3_; clear n0_ n1_ n2_ n3_; clear hb hbox hg; have hcz10_0 : w9.cell? ⟨gb291, 0, none⟩ = some (.int .i64 0) := (blk_cell BK291.out 0).trans rfl; have hcz10_1 : w9.cell? ⟨gb291, 1, none⟩ = some (.int .i64 0) := (blk_cell BK291.out 1).trans rfl; have hcz10_2 : w9.cell? ⟨gb291, 2, none⟩ = some (.string (⟨#[]⟩ : ByteArray)) := (blk_cell BK291.out 2).trans rfl; have hfz10_0 := blk_frozen BK291.out 0; have hfz10_1 := blk_frozen BK291.out 1; have hfz10_2 := blk_frozen BK291.out 2) | ((with_reducible refine gate_callee (f := 29) rfl ?_); refine goesL_ (some 19) rfl rfl Tryd.func29 s15q0 rfl #[.agg #[.int .i64 ((rd_T54 l0 x14_1).f0), .int .i64 ((rd_T54 l0 x14_1).f1), .string ((rd_T54 l0 x14_1).f2)]] rfl s15q13 ?_; (with_reducible refine (value_CheckValue.calls k1 ((rd_T54 l0 x14_1).f0) ((rd_T54 l0 x14_1).f1) ((rd_T54 l0 x14_1).f2) t292 _ A7.out).mono ?_); rintro e w11 ⟨rfl, hb⟩; refine ⟨_, rfl, ?_⟩; have n0_ := Aside0.mk (blk_below (g := gb291) (o := .cells #[.int .i64 ((rd_T54 l0 x14_1).f0), .int .i64 ((rd_T54 l0 x14_1).f1), .string ((rd_T54 l0 x14_1).f2)] 54 (0, 0)) s15q22 hb); have n1_ := Aside0.mk (below_step s15q14 hb); clear BK291; clear HB; have BK291 := n0_; have HB := n1_; clear n0_ n1_; (try clear hb); (try clear hb2); (try clear hk); (try clear hi)))
 first | go_roundg k1 | (refine Handed.intro k1 ?measure ?_; rotate_left; go_step; (repeat apply Exists.intro); simp only [add_plain]; refine ⟨?rel, rfl⟩)
 case measure => have := HK1.out; omega
 case rel => exact ⟨(wrap64 (x14_1 + 1)), s15q1, H', ⟨by have := HK1.out; omega⟩, ⟨by repeat (first | (with_reducible first | exact HB.out | apply below_alloc | apply pw_below_drewN | apply below_drew1 | refine below_set ?_ GE291.out) | exact HB.out)⟩⟩
/-! ### peristylelaw8_awake: function 10 -/
def peristylelaw8_awake.f (k : Nat)  : Option (Bool) := (join_Hash.f k (([(⟨2, 1, (⟨#[]⟩ : ByteArray)⟩ : S54)] : List (S54))) 0).bind fun bt298 => (if bt298.2 = 0 then (some (bt298.1 == 873244444)) else (some false))
theorem peristylelaw8_awake.mono : ∀ k, LeO (peristylelaw8_awake.f k ) (peristylelaw8_awake.f (k + 1) ) := by
 intro  k
 unfold peristylelaw8_awake.f
 repeat' first
  | (with_reducible exact join_Hash.mono _ _ _)
  | (with_reducible exact LeO.refl _)
  | (with_reducible exact LeO.none _)
  | (with_reducible refine LeO.ite ?_ ?_)
  | (with_reducible refine LeO.bind ?_ (fun _ => ?_))
  | exact join_Hash.mono _ _ _
  | exact LeO.none _
  | refine LeO.ite ?_ ?_
  | refine LeO.bind ?_ (fun _ => ?_)
set_option maxHeartbeats 8000000 in
set_option maxRecDepth 100000 in
theorem peristylelaw8_awake.calls (k : Nat)  (r : Bool) (w : World) (hG : Glob w) (h : peristylelaw8_awake.f k  = some r) :
    Calls Tryd.prog 10 #[] w fun e w' => e = .returned (.bool r) ∧ Below w.heap.size w w' := by
 have hu54 := Tryd.underlying54
 have HG := Aside0.mk hG
 clear hG
 have HB := Aside0.mk (Below.refl w.heap.size w)
 have H : ((join_Hash.f k (([(⟨2, 1, (⟨#[]⟩ : ByteArray)⟩ : S54)] : List (S54))) 0).bind fun bt298 => (if bt298.2 = 0 then (some (bt298.1 == 873244444)) else (some false))) = some r := h
 clear h
 obtain ⟨y295, hy295⟩ : ∃ y_ : List (S54), y_ = (([(⟨2, 1, (⟨#[]⟩ : ByteArray)⟩ : S54)] : List (S54))) := ⟨_, rfl⟩
 replace H : ((join_Hash.f k y295 0).bind fun bt298 => (if bt298.2 = 0 then (some (bt298.1 == 873244444)) else (some false))) = some r := sqz hy295 H
 have Ny295 := Aside0.mk hy295
 clear hy295
 replace H := Option.bind_eq_some_iff.mp H
 obtain ⟨⟨t298, t299⟩, A10, H⟩ := H
 replace H : (if t299 = 0 then (some (t298 == 873244444)) else (some false)) = some r := H
 have A1 := Aside0.mk A10
 clear A10
 by_cases c2 : t299 = 0
 case neg =>
  rw [if_neg c2] at H
  have c2b0 : (t299 == 0) = false := beq_eq_false_iff_ne.mpr c2
  have c2b1 : (t299 != 0) = true := bne_iff_ne.mpr c2
  obtain rfl := Option.some.inj H
  go_enter Tryd.func10, Tryd.ntmps10
  go_wp2_with (first | ((with_reducible refine gate_dst (N := 5) rfl ?_); refine Kd.R_lit k54 _ 54 ?hg (N := 5) ?hd (xs := ([(⟨2, 1, (⟨#[]⟩ : ByteArray)⟩ : S54)] : List (S54))) (inner := [.int .i64 2, .int .i64 1, .string (⟨#[]⟩ : ByteArray)]) (ok := fun _ => True) (okp := fun _ => True) ?hr ?hp (fun _ hk => hk) trivial (Below.refl _ _) (Nat.le_refl _) (by simp) ?_; (case hd => rfl); (case hg => rfl); (case hr => first | (go_simp; done) | (go_simp; rfl)); (case hp => exact (Reps.c3 (show Kd.M k54 _ _ _ (⟨2, 1, (⟨#[]⟩ : ByteArray)⟩ : S54) [.int .i64 2, .int .i64 1, .string (⟨#[]⟩ : ByteArray)] from (k54_mkM _ _ _ (⟨2, 1, (⟨#[]⟩ : ByteArray)⟩ : S54) )) (Reps.none _ _))); intro v296 w7 ho8 hb hg_ hnew_; clear hg_ hnew_; (first | rw [← Ny295.out] at ho8 | (simp only [Int.reduceToNat] at ho8; rw [← Ny295.out] at ho8)); have n0_ := Aside0.mk (Kd.R_lower ho8 (below_size s15q12)); have n1_ := Aside0.mk (below_step s15q12 hb); clear HB; have HO297 := n0_; have HB := n1_; clear n0_ n1_; clear hb ho8; obtain ⟨Ao9, co9, eo9⟩ := Kd.R_slice HO297.out; subst eo9) | ((with_reducible refine gate_callee (f := 22) rfl ?_); refine goesL_ (some 6) rfl rfl Tryd.func22 s15q0 rfl #[.slice Ao9 y295.length co9, .int .i64 0] rfl s15q13 ?_; (with_reducible refine (join_Hash.calls k _ _ y295 0 t298 t299 _ ?side1 ?side2 ?side3 A1.out).mono ?_); (case side1 => repeat (first | exact (Kd.R_reads' HO297.out).2.2 | (with_reducible refine Kd.C_alloc ?_ _) | (with_reducible refine Kd.C_drewN ?_ _) | (with_reducible refine Kd.C_drew ?_))); (case side2 => exact (Kd.R_reads' HO297.out).2.1); (case side3 => exact Glob_below HG.out s15q12); rintro e w10 ⟨rfl, hb⟩; refine ⟨_, rfl, ?_⟩; have n0_ := Aside0.mk (Kd.R_below s15q3 hb); have n1_ := Aside0.mk (below_step s15q12 hb); clear HO297; clear HB; have HO297 := n0_; have HB := n1_; clear n0_ n1_; (try clear hb); (try clear hb2); (try clear hk); (try clear hi)))
  go_ret
  exact ⟨by first | rfl | (simp [errW_none, errW_some] <;> rfl) | (simp [*, errW_none, errW_some] <;> rfl), by repeat (first | (with_reducible first | exact HB.out | apply below_alloc | apply pw_below_drewN | apply below_drew1) | exact HB.out)⟩
 rw [if_pos c2] at H
 have c2b0 : (t299 == 0) = true := beq_iff_eq.mpr c2
 have c2b1 : (t299 != 0) = false := bne_eq_false_iff_eq.mpr c2
 clear c2
 obtain rfl := Option.some.inj H
 go_enter Tryd.func10, Tryd.ntmps10
 go_wp2_with (first | ((with_reducible refine gate_dst (N := 5) rfl ?_); refine Kd.R_lit k54 _ 54 ?hg (N := 5) ?hd (xs := ([(⟨2, 1, (⟨#[]⟩ : ByteArray)⟩ : S54)] : List (S54))) (inner := [.int .i64 2, .int .i64 1, .string (⟨#[]⟩ : ByteArray)]) (ok := fun _ => True) (okp := fun _ => True) ?hr ?hp (fun _ hk => hk) trivial (Below.refl _ _) (Nat.le_refl _) (by simp) ?_; (case hd => rfl); (case hg => rfl); (case hr => first | (go_simp; done) | (go_simp; rfl)); (case hp => exact (Reps.c3 (show Kd.M k54 _ _ _ (⟨2, 1, (⟨#[]⟩ : ByteArray)⟩ : S54) [.int .i64 2, .int .i64 1, .string (⟨#[]⟩ : ByteArray)] from (k54_mkM _ _ _ (⟨2, 1, (⟨#[]⟩ : ByteArray)⟩ : S54) )) (Reps.none _ _))); intro v296 w3 ho4 hb hg_ hnew_; clear hg_ hnew_; (first | rw [← Ny295.out] at ho4 | (simp only [Int.reduceToNat] at ho4; rw [← Ny295.out] at ho4)); have n0_ := Aside0.mk (Kd.R_lower ho4 (below_size s15q12)); have n1_ := Aside0.mk (below_step s15q12 hb); clear HB; have HO297 := n0_; have HB := n1_; clear n0_ n1_; clear hb ho4; obtain ⟨Ao5, co5, eo5⟩ := Kd.R_slice HO297.out; subst eo5) | ((with_reducible refine gate_callee (f := 22) rfl ?_); refine goesL_ (some 6) rfl rfl Tryd.func22 s15q0 rfl #[.slice Ao5 y295.length co5, .int .i64 0] rfl s15q13 ?_; (with_reducible refine (join_Hash.calls k _ _ y295 0 t298 t299 _ ?side1 ?side2 ?side3 A1.out).mono ?_); (case side1 => repeat (first | exact (Kd.R_reads' HO297.out).2.2 | (with_reducible refine Kd.C_alloc ?_ _) | (with_reducible refine Kd.C_drewN ?_ _) | (with_reducible refine Kd.C_drew ?_))); (case side2 => exact (Kd.R_reads' HO297.out).2.1); (case side3 => exact Glob_below HG.out s15q12); rintro e w6 ⟨rfl, hb⟩; refine ⟨_, rfl, ?_⟩; have n0_ := Aside0.mk (Kd.R_below s15q3 hb); have n1_ := Aside0.mk (below_step s15q12 hb); clear HO297; clear HB; have HO297 := n0_; have HB := n1_; clear n0_ n1_; (try clear hb); (try clear hb2); (try clear hk); (try clear hi)))
 go_ret
 exact ⟨by first | rfl | (simp [errW_none, errW_some] <;> rfl) | (simp [*, errW_none, errW_some] <;> rfl), by repeat (first | (with_reducible first | exact HB.out | apply below_alloc | apply pw_below_drewN | apply below_drew1) | exact HB.out)⟩
/-! ### peristylelaw8_JoinFiltersMatchSpec: function 3 -/
def peristylelaw8_JoinFiltersMatchSpec.j0 : Nat → List Int → Bool → List (S69) → List (S43) → List Int → Int → Option (Bool)
  | 0, _, _, _, _, _, _ => none
  | k + 1, x1, x41, x301000, x301001, x302000, x302001 => if x41 = true then (some false) else ((join_Kept.f k x301000 x301001 x1 x302000 x302001).bind fun bt315 => ((peristyleref8_Kept.f k x301000 x301001 x1 x302000 x302001).bind fun bt319 => (if bt315.2 = bt319.2 then ((slices_Equal_int_int.f k bt315.1 bt319.1).bind fun t323 => (if t323 = true then ((peristylelaw8_awake.f k).bind fun t324 => (some t324)) else (some false))) else (some false))))
def peristylelaw8_JoinFiltersMatchSpec.f (k : Nat) (l0_0 : List (S69)) (l0_1 : List (S43)) (l1 : List Int) (a2 : Int) (a3 : Int) (l4_0 : List Int) (a4_1 : Int) : Option (Bool) := (join_FilterOf.f k l0_0 l0_1 l1 a2 a3).bind fun bt302 => ((peristyleref8_FilterOf.f k l0_0 l0_1 l1 a2 a3).bind fun bt308 => (if bt302.2.2 = bt308.2.2 then ((peristyleref8_SameFilter.f k bt302.1 bt302.2.1 bt308.1 bt308.2.1).bind fun t314 => (peristylelaw8_JoinFiltersMatchSpec.j0 k l1 (!t314) l0_0 l0_1 l4_0 a4_1)) else (peristylelaw8_JoinFiltersMatchSpec.j0 k l1 true l0_0 l0_1 l4_0 a4_1)))
theorem peristylelaw8_JoinFiltersMatchSpec.mono_l : ∀ k, (∀ y0 y1 y2 y3 y4 y5, LeO (peristylelaw8_JoinFiltersMatchSpec.j0 k y0 y1 y2 y3 y4 y5) (peristylelaw8_JoinFiltersMatchSpec.j0 (k + 1) y0 y1 y2 y3 y4 y5))
  | 0 => fun _ _ _ _ _ _ r h => by simp [peristylelaw8_JoinFiltersMatchSpec.j0] at h
  | k + 1 => by
    have ih0 := peristylelaw8_JoinFiltersMatchSpec.mono_l k
    · intro y0 y1 y2 y3 y4 y5
      unfold peristylelaw8_JoinFiltersMatchSpec.j0
      repeat' first | (with_reducible exact ih0 _ _ _ _ _ _) | (with_reducible exact join_FilterOf.mono _ _ _ _ _ _) | (with_reducible exact join_Kept.mono _ _ _ _ _ _) | (with_reducible exact peristylelaw8_awake.mono _) | (with_reducible exact peristyleref8_FilterOf.mono _ _ _ _ _ _) | (with_reducible exact peristyleref8_Kept.mono _ _ _ _ _ _) | (with_reducible exact peristyleref8_SameFilter.mono _ _ _ _ _) | (with_reducible exact slices_Equal_int_int.mono _ _ _) | (with_reducible exact LeO.refl _) | (with_reducible exact LeO.none _) | (with_reducible refine LeO.ite ?_ ?_) | (with_reducible refine LeO.bind ?_ (fun _ => ?_)) | exact ih0 _ _ _ _ _ _ | exact join_FilterOf.mono _ _ _ _ _ _ | exact join_Kept.mono _ _ _ _ _ _ | exact peristylelaw8_awake.mono _ | exact peristyleref8_FilterOf.mono _ _ _ _ _ _ | exact peristyleref8_Kept.mono _ _ _ _ _ _ | exact peristyleref8_SameFilter.mono _ _ _ _ _ | exact slices_Equal_int_int.mono _ _ _ | exact LeO.none _ | refine LeO.ite ?_ ?_ | refine LeO.bind ?_ (fun _ => ?_)
theorem peristylelaw8_JoinFiltersMatchSpec.mono : ∀ a0 a1 a2 a3 a4 a5 a6 k, LeO (peristylelaw8_JoinFiltersMatchSpec.f k a0 a1 a2 a3 a4 a5 a6) (peristylelaw8_JoinFiltersMatchSpec.f (k + 1) a0 a1 a2 a3 a4 a5 a6) := by
 intro a0 a1 a2 a3 a4 a5 a6 k
 have ih0 := peristylelaw8_JoinFiltersMatchSpec.mono_l k
 unfold peristylelaw8_JoinFiltersMatchSpec.f
 repeat' first
  | (with_reducible exact ih0 _ _ _ _ _ _)
  | (with_reducible exact join_FilterOf.mono _ _ _ _ _ _)
  | (with_reducible exact join_Kept.mono _ _ _ _ _ _)
  | (with_reducible exact peristylelaw8_awake.mono _)
  | (with_reducible exact peristyleref8_FilterOf.mono _ _ _ _ _ _)
  | (with_reducible exact peristyleref8_Kept.mono _ _ _ _ _ _)
  | (with_reducible exact peristyleref8_SameFilter.mono _ _ _ _ _)
  | (with_reducible exact slices_Equal_int_int.mono _ _ _)
  | (with_reducible exact LeO.refl _)
  | (with_reducible exact LeO.none _)
  | (with_reducible refine LeO.ite ?_ ?_)
  | (with_reducible refine LeO.bind ?_ (fun _ => ?_))
  | exact ih0 _ _ _ _ _ _
  | exact join_FilterOf.mono _ _ _ _ _ _
  | exact join_Kept.mono _ _ _ _ _ _
  | exact peristylelaw8_awake.mono _
  | exact peristyleref8_FilterOf.mono _ _ _ _ _ _
  | exact peristyleref8_Kept.mono _ _ _ _ _ _
  | exact peristyleref8_SameFilter.mono _ _ _ _ _
  | exact slices_Equal_int_int.mono _ _ _
  | exact LeO.none _
  | refine LeO.ite ?_ ?_
  | refine LeO.bind ?_ (fun _ => ?_)
set_option maxHeartbeats 8000000 in
set_option maxRecDepth 100000 in
theorem peristylelaw8_JoinFiltersMatchSpec.calls (k : Nat) (A0_0 : Option Addr) (c0_0 : Nat) (l0_0 : List (S69)) (A0_1 : Option Addr) (c0_1 : Nat) (l0_1 : List (S43)) (A1 : Option Addr) (c1 : Nat) (l1 : List Int) (a2 : Int) (a3 : Int) (A4_0 : Option Addr) (c4_0 : Nat) (l4_0 : List Int) (a4_1 : Int) (r : Bool) (w : World) (hr0_0 : Kd.C k69 w A0_0 l0_0.length l0_0) (hc0_0 : l0_0.length ≤ c0_0) (hr0_1 : Kd.C k43 w A0_1 l0_1.length l0_1) (hc0_1 : l0_1.length ≤ c0_1) (hr1 : Kd.C (Kd.int .i64) w A1 l1.length l1) (hc1 : l1.length ≤ c1) (hr4_0 : Kd.C (Kd.int .u8) w A4_0 l4_0.length l4_0) (hc4_0 : l4_0.length ≤ c4_0) (hG : Glob w) (h : peristylelaw8_JoinFiltersMatchSpec.f k l0_0 l0_1 l1 a2 a3 l4_0 a4_1 = some r) :
    Calls Tryd.prog 3 #[.agg #[.slice A0_0 l0_0.length c0_0, .slice A0_1 l0_1.length c0_1], .slice A1 l1.length c1, .int .i64 a2, .int .i64 a3, .agg #[.slice A4_0 l4_0.length c4_0, .int .i64 a4_1]] w fun e w' => e = .returned (.bool r) ∧ Below w.heap.size w w' := by
 have hu25 := Tryd.underlying25
 have hu29 := Tryd.underlying29
 have HG := Aside0.mk hG
 clear hG
 have HR0_0 := Aside0.mk hr0_0
 have HC0_0 := Aside0.mk hc0_0
 clear hr0_0 hc0_0
 have HR0_1 := Aside0.mk hr0_1
 have HC0_1 := Aside0.mk hc0_1
 clear hr0_1 hc0_1
 have HR1 := Aside0.mk hr1
 have HC1 := Aside0.mk hc1
 clear hr1 hc1
 have HR4_0 := Aside0.mk hr4_0
 have HC4_0 := Aside0.mk hc4_0
 clear hr4_0 hc4_0
 have HB := Aside0.mk (Below.refl w.heap.size w)
 have H : ((join_FilterOf.f k l0_0 l0_1 l1 a2 a3).bind fun bt302 => ((peristyleref8_FilterOf.f k l0_0 l0_1 l1 a2 a3).bind fun bt308 => (if bt302.2.2 = bt308.2.2 then ((peristyleref8_SameFilter.f k bt302.1 bt302.2.1 bt308.1 bt308.2.1).bind fun t314 => (peristylelaw8_JoinFiltersMatchSpec.j0 k l1 (!t314) l0_0 l0_1 l4_0 a4_1)) else (peristylelaw8_JoinFiltersMatchSpec.j0 k l1 true l0_0 l0_1 l4_0 a4_1)))) = some r := h
 clear h
 replace H := Option.bind_eq_some_iff.mp H
 obtain ⟨⟨t302, t305, t306⟩, A60, H⟩ := H
 replace H : ((peristyleref8_FilterOf.f k l0_0 l0_1 l1 a2 a3).bind fun bt308 => (if t306 = bt308.2.2 then ((peristyleref8_SameFilter.f k t302 t305 bt308.1 bt308.2.1).bind fun t314 => (peristylelaw8_JoinFiltersMatchSpec.j0 k l1 (!t314) l0_0 l0_1 l4_0 a4_1)) else (peristylelaw8_JoinFiltersMatchSpec.j0 k l1 true l0_0 l0_1 l4_0 a4_1))) = some r := H
 have A6 := Aside0.mk A60
 clear A60
 replace H := Option.bind_eq_some_iff.mp H
 obtain ⟨⟨t308, t311, t312⟩, A70, H⟩ := H
 replace H : (if t306 = t312 then ((peristyleref8_SameFilter.f k t302 t305 t308 t311).bind fun t314 => (peristylelaw8_JoinFiltersMatchSpec.j0 k l1 (!t314) l0_0 l0_1 l4_0 a4_1)) else (peristylelaw8_JoinFiltersMatchSpec.j0 k l1 true l0_0 l0_1 l4_0 a4_1)) = some r := H
 have A7 := Aside0.mk A70
 clear A70
 have HC8 := Aside0.mk H
 clear H
 go_enter Tryd.func3, Tryd.ntmps3
 go_upto_region 3 with (first | ((with_reducible refine gate_dst (N := 5) rfl ?_); refine box_event ?hg (N := 5) ?hd (cs := #[.slice A0_0 l0_0.length c0_0, .slice A0_1 l0_1.length c0_1]) (t := 25) ?hr ?_; (case hd => rfl); (case hg => rfl); (case hr => first | (go_simp; done) | (go_simp; rfl)); intro gb300 hg w9 hbox hb; have n0_ := Aside0.mk (below_step s15q12 hb); have n1_ := Aside0.mk (hbox); have n2_ := Aside0.mk ((s15q23 : w.heap.size ≤ gb300)); have n3_ := Aside0.mk ((s15q23 : w.heap.size ≤ gb300)); clear HB; have HB := n0_; have BK300 := n1_; have GW300 := n2_; have GE300 := n3_; clear n0_ n1_ n2_ n3_; clear hb hbox hg) | ((with_reducible refine gate_dst (N := 9) rfl ?_); refine box_event ?hg (N := 9) ?hd (cs := #[.slice A4_0 l4_0.length c4_0, .int .i64 a4_1]) (t := 29) ?hr ?_; (case hd => rfl); (case hg => rfl); (case hr => first | (go_simp; done) | (go_simp; rfl)); intro gb301 hg w10 hbox hb; have n0_ := Aside0.mk (blk_below (g := gb300) (o := .cells #[.slice A0_0 l0_0.length c0_0, .slice A0_1 l0_1.length c0_1] 25 (0, 0)) s15q8 hb); have n1_ := Aside0.mk (below_step s15q15 hb); have n2_ := Aside0.mk (hbox); have n3_ := Aside0.mk (((by rw [hg]; exact (below_size s15q15)) : w.heap.size ≤ gb301)); have n4_ := Aside0.mk (((by rw [hg]; exact (below_size s15q15)) : w.heap.size ≤ gb301)); have n5_ := Aside0.mk ((by rw [hg]; exact Nat.ne_of_lt (blk_lt (g := gb300) (o := .cells #[.slice A0_0 l0_0.length c0_0, .slice A0_1 l0_1.length c0_1] 25 (0, 0)) s15q8) : gb300 ≠ gb301)); have n6_ := Aside0.mk ((by rw [hg]; exact Nat.ne_of_gt (blk_lt (g := gb300) (o := .cells #[.slice A0_0 l0_0.length c0_0, .slice A0_1 l0_1.length c0_1] 25 (0, 0)) s15q8) : gb301 ≠ gb300)); clear BK300; clear HB; have BK300 := n0_; have HB := n1_; have BK301 := n2_; have GW301 := n3_; have GE301 := n4_; have NB300_301 := n5_; have NB301_300 := n6_; clear n0_ n1_ n2_ n3_ n4_ n5_ n6_; clear hb hbox hg; have hnb11 := NB300_301.out; have hnc11 := NB301_300.out; have hcz12_0 : w10.cell? ⟨gb300, 0, none⟩ = some (.slice A0_0 l0_0.length c0_0) := (blk_cell BK300.out 0).trans rfl; have hcz12_1 : w10.cell? ⟨gb300, 1, none⟩ = some (.slice A0_1 l0_1.length c0_1) := (blk_cell BK300.out 1).trans rfl; have hfz12_0 := blk_frozen BK300.out 0; have hfz12_1 := blk_frozen BK300.out 1) | ((with_reducible refine gate_callee (f := 4) rfl ?_); refine goesL_ (some 22) rfl rfl Tryd.func4 s15q0 rfl #[.agg #[.slice A0_0 l0_0.length c0_0, .slice A0_1 l0_1.length c0_1], .slice A1 l1.length c1, .int .i64 a2, .int .i64 a3] rfl s15q13 ?_; (with_reducible refine (join_FilterOf.calls k _ _ l0_0 _ _ l0_1 _ _ l1 a2 a3 t302 t305 t306 _ ?side1 ?side2 ?side3 ?side4 ?side5 ?side6 ?side7 A6.out).mono ?_); (case side1 => repeat (first | exact (Kd.C_below HR0_0.out HB.out) | (with_reducible refine Kd.C_alloc ?_ _) | (with_reducible refine Kd.C_drewN ?_ _) | (with_reducible refine Kd.C_drew ?_))); (case side2 => exact HC0_0.out); (case side3 => repeat (first | exact (Kd.C_below HR0_1.out HB.out) | (with_reducible refine Kd.C_alloc ?_ _) | (with_reducible refine Kd.C_drewN ?_ _) | (with_reducible refine Kd.C_drew ?_))); (case side4 => exact HC0_1.out); (case side5 => repeat (first | exact (Kd.C_below HR1.out HB.out) | (with_reducible refine Kd.C_alloc ?_ _) | (with_reducible refine Kd.C_drewN ?_ _) | (with_reducible refine Kd.C_drew ?_))); (case side6 => exact HC1.out); (case side7 => exact Glob_below HG.out s15q16); rintro e w13 ⟨v303, rfl, ho0, hb⟩; refine ⟨_, rfl, ?_⟩; have n0_ := Aside0.mk (Kd.R_lower ho0 (below_size s15q16)); have n1_ := Aside0.mk (blk_below (g := gb300) (o := .cells #[.slice A0_0 l0_0.length c0_0, .slice A0_1 l0_1.length c0_1] 25 (0, 0)) s15q8 hb); have n2_ := Aside0.mk (blk_below (g := gb301) (o := .cells #[.slice A4_0 l4_0.length c4_0, .int .i64 a4_1] 29 (0, 0)) s15q9 hb); have n3_ := Aside0.mk (below_step s15q16 hb); clear BK300; clear BK301; clear HB; have HO304 := n0_; have BK300 := n1_; have BK301 := n2_; have HB := n3_; clear n0_ n1_ n2_ n3_; (try clear hb); (try clear hb2); (try clear hk); (try clear hi); (try clear ho0)) | ((with_reducible refine gate_dst (N := 11) rfl ?_); refine box_event ?hg (N := 11) ?hd (cs := #[.slice none 0 0, .int .i64 0]) (t := 29) ?hr ?_; (case hd => rfl); (case hg => rfl); (case hr => first | (go_simp; done) | (go_simp; rfl)); intro gb307 hg w14 hbox hb; have n0_ := Aside0.mk (Kd.R_below s15q4 hb); have n1_ := Aside0.mk (blk_below (g := gb300) (o := .cells #[.slice A0_0 l0_0.length c0_0, .slice A0_1 l0_1.length c0_1] 25 (0, 0)) s15q8 hb); have n2_ := Aside0.mk (blk_below (g := gb301) (o := .cells #[.slice A4_0 l4_0.length c4_0, .int .i64 a4_1] 29 (0, 0)) s15q9 hb); have n3_ := Aside0.mk (below_step s15q16 hb); have n4_ := Aside0.mk (hbox); have n5_ := Aside0.mk (((by rw [hg]; exact (below_size s15q16)) : w.heap.size ≤ gb307)); have n6_ := Aside0.mk (((by rw [hg]; exact (below_size s15q16)) : w.heap.size ≤ gb307)); have n7_ := Aside0.mk ((by rw [hg]; exact Nat.ne_of_lt (blk_lt (g := gb300) (o := .cells #[.slice A0_0 l0_0.length c0_0, .slice A0_1 l0_1.length c0_1] 25 (0, 0)) s15q8) : gb300 ≠ gb307)); have n8_ := Aside0.mk ((by rw [hg]; exact Nat.ne_of_gt (blk_lt (g := gb300) (o := .cells #[.slice A0_0 l0_0.length c0_0, .slice A0_1 l0_1.length c0_1] 25 (0, 0)) s15q8) : gb307 ≠ gb300)); have n9_ := Aside0.mk ((by rw [hg]; exact Nat.ne_of_lt (blk_lt (g := gb301) (o := .cells #[.slice A4_0 l4_0.length c4_0, .int .i64 a4_1] 29 (0, 0)) s15q9) : gb301 ≠ gb307)); have n10_ := Aside0.mk ((by rw [hg]; exact Nat.ne_of_gt (blk_lt (g := gb301) (o := .cells #[.slice A4_0 l4_0.length c4_0, .int .i64 a4_1] 29 (0, 0)) s15q9) : gb307 ≠ gb301)); clear HO304; clear BK300; clear BK301; clear HB; have HO304 := n0_; have BK300 := n1_; have BK301 := n2_; have HB := n3_; have BK307 := n4_; have GW307 := n5_; have GE307 := n6_; have NB300_307 := n7_; have NB307_300 := n8_; have NB301_307 := n9_; have NB307_301 := n10_; clear n0_ n1_ n2_ n3_ n4_ n5_ n6_ n7_ n8_ n9_ n10_; clear hb hbox hg; obtain ⟨Ao15, co15, eo15⟩ := Kd.R_slice HO304.out; subst eo15; have hnb16 := NB307_300.out; have hnc16 := NB300_307.out; have hnb17 := NB307_301.out; have hnc17 := NB301_307.out; have hcz18_0 : w14.cell? ⟨gb307, 0, none⟩ = some (.slice none 0 0) := (blk_cell BK307.out 0).trans rfl; have hcz18_1 : w14.cell? ⟨gb307, 1, none⟩ = some (.int .i64 0) := (blk_cell BK307.out 1).trans rfl; have hfz18_0 := blk_frozen BK307.out 0; have hfz18_1 := blk_frozen BK307.out 1; have hcz19_0 : w14.cell? ⟨gb300, 0, none⟩ = some (.slice A0_0 l0_0.length c0_0) := (blk_cell BK300.out 0).trans rfl; have hcz19_1 : w14.cell? ⟨gb300, 1, none⟩ = some (.slice A0_1 l0_1.length c0_1) := (blk_cell BK300.out 1).trans rfl; have hfz19_0 := blk_frozen BK300.out 0; have hfz19_1 := blk_frozen BK300.out 1) | ((with_reducible refine gate_callee (f := 5) rfl ?_); refine goesL_ (some 30) rfl rfl Tryd.func5 s15q0 rfl #[.agg #[.slice A0_0 l0_0.length c0_0, .slice A0_1 l0_1.length c0_1], .slice A1 l1.length c1, .int .i64 a2, .int .i64 a3] rfl s15q13 ?_; (with_reducible refine (peristyleref8_FilterOf.calls k _ _ l0_0 _ _ l0_1 _ _ l1 a2 a3 t308 t311 t312 _ ?side1 ?side2 ?side3 ?side4 ?side5 ?side6 ?side7 A7.out).mono ?_); (case side1 => exact Kd.C_below HR0_0.out s15q17); (case side2 => exact HC0_0.out); (case side3 => exact Kd.C_below HR0_1.out s15q17); (case side4 => exact HC0_1.out); (case side5 => exact Kd.C_below HR1.out s15q17); (case side6 => exact HC1.out); (case side7 => exact Glob_below HG.out s15q17); rintro e w20 ⟨v309, rfl, ho0, hb⟩; refine ⟨_, rfl, ?_⟩; have n0_ := Aside0.mk (Kd.R_elder' s15q19 (Kd.R_base ho0) hb); have n1_ := Aside0.mk (Kd.R_lower (Kd.R_new' ho0 (Kd.R_lt s15q19)) (below_size s15q17)); have n2_ := Aside0.mk (blk_below (g := gb300) (o := .cells #[.slice A0_0 l0_0.length c0_0, .slice A0_1 l0_1.length c0_1] 25 (0, 0)) (by (with_reducible repeat (first | refine blk_drewN ?_ _ | refine blk_drew ?_ | refine blk_alloc ?_ _)); refine blk_far ?_ NB300_307.out _; (with_reducible repeat (first | refine blk_drewN ?_ _ | refine blk_drew ?_ | refine blk_alloc ?_ _)); refine blk_far ?_ NB300_307.out _; (with_reducible repeat (first | refine blk_drewN ?_ _ | refine blk_drew ?_ | refine blk_alloc ?_ _)); exact BK300.out) hb); have n3_ := Aside0.mk (blk_below (g := gb301) (o := .cells #[.slice A4_0 l4_0.length c4_0, .int .i64 a4_1] 29 (0, 0)) (by (with_reducible repeat (first | refine blk_drewN ?_ _ | refine blk_drew ?_ | refine blk_alloc ?_ _)); refine blk_far ?_ NB301_307.out _; (with_reducible repeat (first | refine blk_drewN ?_ _ | refine blk_drew ?_ | refine blk_alloc ?_ _)); refine blk_far ?_ NB301_307.out _; (with_reducible repeat (first | refine blk_drewN ?_ _ | refine blk_drew ?_ | refine blk_alloc ?_ _)); exact BK301.out) hb); have n4_ := Aside0.mk (blk_below (g := gb307) (o := .cells #[.slice Ao15 t302.length co15, .int .i64 t305] 29 (0, 0)) (by (with_reducible repeat (first | refine blk_drewN ?_ _ | refine blk_drew ?_ | refine blk_alloc ?_ _)); refine blk_put (cs := #[.slice Ao15 t302.length co15, .int .i64 0]) ?_ 1 _ rfl; (with_reducible repeat (first | refine blk_drewN ?_ _ | refine blk_drew ?_ | refine blk_alloc ?_ _)); refine blk_put (cs := #[.slice none 0 0, .int .i64 0]) ?_ 0 _ rfl; (with_reducible repeat (first | refine blk_drewN ?_ _ | refine blk_drew ?_ | refine blk_alloc ?_ _)); exact BK307.out) hb); have n5_ := Aside0.mk (below_step s15q17 hb); clear HO304; clear BK300; clear BK301; clear BK307; clear HB; have HO304 := n0_; have HO310 := n1_; have BK300 := n2_; have BK301 := n3_; have BK307 := n4_; have HB := n5_; clear n0_ n1_ n2_ n3_ n4_ n5_; (try clear hb); (try clear hb2); (try clear hk); (try clear hi); (try clear ho0)) | ((with_reducible refine gate_dst (N := 13) rfl ?_); refine box_event ?hg (N := 13) ?hd (cs := #[.slice none 0 0, .int .i64 0]) (t := 29) ?hr ?_; (case hd => rfl); (case hg => rfl); (case hr => first | (go_simp; done) | (go_simp; rfl)); intro gb313 hg w21 hbox hb; have n0_ := Aside0.mk (Kd.R_below s15q4 hb); have n1_ := Aside0.mk (Kd.R_below (by (with_reducible repeat (first | apply Kd.R_alloc | apply Kd.R_drewN | apply Kd.R_drew)); exact HO310.out) hb); have n2_ := Aside0.mk (blk_below (g := gb300) (o := .cells #[.slice A0_0 l0_0.length c0_0, .slice A0_1 l0_1.length c0_1] 25 (0, 0)) s15q8 hb); have n3_ := Aside0.mk (blk_below (g := gb301) (o := .cells #[.slice A4_0 l4_0.length c4_0, .int .i64 a4_1] 29 (0, 0)) s15q9 hb); have n4_ := Aside0.mk (blk_below (g := gb307) (o := .cells #[.slice Ao15 t302.length co15, .int .i64 t305] 29 (0, 0)) s15q10 hb); have n5_ := Aside0.mk (below_step s15q17 hb); have n6_ := Aside0.mk (hbox); have n7_ := Aside0.mk (((by rw [hg]; exact (below_size s15q17)) : w.heap.size ≤ gb313)); have n8_ := Aside0.mk (((by rw [hg]; exact (below_size s15q17)) : w.heap.size ≤ gb313)); have n9_ := Aside0.mk ((by rw [hg]; exact Nat.ne_of_lt (blk_lt (g := gb300) (o := .cells #[.slice A0_0 l0_0.length c0_0, .slice A0_1 l0_1.length c0_1] 25 (0, 0)) s15q8) : gb300 ≠ gb313)); have n10_ := Aside0.mk ((by rw [hg]; exact Nat.ne_of_gt (blk_lt (g := gb300) (o := .cells #[.slice A0_0 l0_0.length c0_0, .slice A0_1 l0_1.length c0_1] 25 (0, 0)) s15q8) : gb313 ≠ gb300)); have n11_ := Aside0.mk ((by rw [hg]; exact Nat.ne_of_lt (blk_lt (g := gb301) (o := .cells #[.slice A4_0 l4_0.length c4_0, .int .i64 a4_1] 29 (0, 0)) s15q9) : gb301 ≠ gb313)); have n12_ := Aside0.mk ((by rw [hg]; exact Nat.ne_of_gt (blk_lt (g := gb301) (o := .cells #[.slice A4_0 l4_0.length c4_0, .int .i64 a4_1] 29 (0, 0)) s15q9) : gb313 ≠ gb301)); have n13_ := Aside0.mk ((by rw [hg]; exact Nat.ne_of_lt (blk_lt (g := gb307) (o := .cells #[.slice Ao15 t302.length co15, .int .i64 t305] 29 (0, 0)) s15q10) : gb307 ≠ gb313)); have n14_ := Aside0.mk ((by rw [hg]; exact Nat.ne_of_gt (blk_lt (g := gb307) (o := .cells #[.slice Ao15 t302.length co15, .int .i64 t305] 29 (0, 0)) s15q10) : gb313 ≠ gb307)); clear HO304; clear HO310; clear BK300; clear BK301; clear BK307; clear HB; have HO304 := n0_; have HO310 := n1_; have BK300 := n2_; have BK301 := n3_; have BK307 := n4_; have HB := n5_; have BK313 := n6_; have GW313 := n7_; have GE313 := n8_; have NB300_313 := n9_; have NB313_300 := n10_; have NB301_313 := n11_; have NB313_301 := n12_; have NB307_313 := n13_; have NB313_307 := n14_; clear n0_ n1_ n2_ n3_ n4_ n5_ n6_ n7_ n8_ n9_ n10_ n11_ n12_ n13_ n14_; clear hb hbox hg; obtain ⟨Ao22, co22, eo22⟩ := Kd.R_slice HO310.out; subst eo22; have hnb23 := NB313_300.out; have hnc23 := NB300_313.out; have hnb24 := NB313_301.out; have hnc24 := NB301_313.out; have hnb25 := NB313_307.out; have hnc25 := NB307_313.out; have hcz26_0 : w21.cell? ⟨gb313, 0, none⟩ = some (.slice none 0 0) := (blk_cell BK313.out 0).trans rfl; have hcz26_1 : w21.cell? ⟨gb313, 1, none⟩ = some (.int .i64 0) := (blk_cell BK313.out 1).trans rfl; have hfz26_0 := blk_frozen BK313.out 0; have hfz26_1 := blk_frozen BK313.out 1))
 (try simp only [Act.put, sqa, sqb, sqc])
 go_cut [41] (fun v41 wc => ∃ (kq : Nat) (x41_7 : Bool), v41 = .bool x41_7 ∧ Aside0 (peristylelaw8_JoinFiltersMatchSpec.j0 kq l1 x41_7 l0_0 l0_1 l4_0 a4_1 = some r) ∧ Aside0 (kq ≤ k) ∧ Aside0 (Kd.R (Kd.int .u8) 5 wc w.heap.size (fun k_ => some k_ ≠ ((.slice Ao22 t308.length co22) : Value).ownBlock) (.slice Ao15 t302.length co15) t302) ∧ Aside0 (Kd.R (Kd.int .u8) 5 wc w.heap.size (fun k_ => some k_ ≠ ((.slice Ao15 t302.length co15) : Value).ownBlock) (.slice Ao22 t308.length co22) t308) ∧ Aside0 (wc.heap[gb300]? = some (.cells #[(.slice A0_0 l0_0.length c0_0), (.slice A0_1 l0_1.length c0_1)] 25 (0, 0))) ∧ Aside0 (wc.heap[gb301]? = some (.cells #[(.slice A4_0 l4_0.length c4_0), .int .i64 a4_1] 29 (0, 0))) ∧ Aside0 (wc.heap[gb307]? = some (.cells #[(.slice Ao15 t302.length co15), .int .i64 t305] 29 (0, 0))) ∧ Aside0 (wc.heap[gb313]? = some (.cells #[(.slice Ao22 t308.length co22), .int .i64 t311] 29 (0, 0))) ∧ Aside0 (Below w.heap.size w wc))
 case first =>
  have H := HC8.out
  clear HC8
  by_cases c27 : t306 = t312
  case neg =>
   rw [if_neg c27] at H
   have c27b0 : (t306 == t312) = false := beq_eq_false_iff_ne.mpr c27
   have c27b1 : (t306 != t312) = true := bne_iff_ne.mpr c27
   (first | rw [c27b0] | (simp only [i64_w, i32_w]; rw [c27b0]) | skip)
   have H' := Aside0.mk H
   clear H
   go_wp2
   go_meet
   case rel => exact ⟨_, (true), s15q1, H', ⟨by first | omega | exact Nat.le_refl _⟩, ⟨by (with_reducible repeat (first | apply Kd.R_alloc | apply Kd.R_drewN | apply Kd.R_drew)); exact Kd.R_mono (Kd.R_far (p := ⟨gb313, 1, none⟩) (Kd.R_far (p := ⟨gb313, 0, none⟩) (Kd.R_types HO304.out BK313.out (by decide)) (fun _ hk => hk.2) (.slice Ao22 t308.length co22)) (fun _ hk => hk.2) (.int .i64 t311)) (fun _ hk => hk.1.2)⟩, ⟨by (with_reducible repeat (first | apply Kd.R_alloc | apply Kd.R_drewN | apply Kd.R_drew)); exact Kd.R_mono (Kd.R_far (p := ⟨gb313, 1, none⟩) (Kd.R_far (p := ⟨gb313, 0, none⟩) (Kd.R_types HO310.out BK313.out (by decide)) (fun _ hk => hk.2) (.slice Ao22 t308.length co22)) (fun _ hk => hk.2) (.int .i64 t311)) (fun _ hk => hk.1.2)⟩, ⟨by (with_reducible repeat (first | refine blk_drewN ?_ _ | refine blk_drew ?_ | refine blk_alloc ?_ _)); refine blk_far ?_ NB300_313.out _; (with_reducible repeat (first | refine blk_drewN ?_ _ | refine blk_drew ?_ | refine blk_alloc ?_ _)); refine blk_far ?_ NB300_313.out _; (with_reducible repeat (first | refine blk_drewN ?_ _ | refine blk_drew ?_ | refine blk_alloc ?_ _)); exact BK300.out⟩, ⟨by (with_reducible repeat (first | refine blk_drewN ?_ _ | refine blk_drew ?_ | refine blk_alloc ?_ _)); refine blk_far ?_ NB301_313.out _; (with_reducible repeat (first | refine blk_drewN ?_ _ | refine blk_drew ?_ | refine blk_alloc ?_ _)); refine blk_far ?_ NB301_313.out _; (with_reducible repeat (first | refine blk_drewN ?_ _ | refine blk_drew ?_ | refine blk_alloc ?_ _)); exact BK301.out⟩, ⟨by (with_reducible repeat (first | refine blk_drewN ?_ _ | refine blk_drew ?_ | refine blk_alloc ?_ _)); refine blk_far ?_ NB307_313.out _; (with_reducible repeat (first | refine blk_drewN ?_ _ | refine blk_drew ?_ | refine blk_alloc ?_ _)); refine blk_far ?_ NB307_313.out _; (with_reducible repeat (first | refine blk_drewN ?_ _ | refine blk_drew ?_ | refine blk_alloc ?_ _)); exact BK307.out⟩, ⟨by (with_reducible repeat (first | refine blk_drewN ?_ _ | refine blk_drew ?_ | refine blk_alloc ?_ _)); refine blk_put (cs := #[.slice Ao22 t308.length co22, .int .i64 0]) ?_ 1 _ rfl; (with_reducible repeat (first | refine blk_drewN ?_ _ | refine blk_drew ?_ | refine blk_alloc ?_ _)); refine blk_put (cs := #[.slice none 0 0, .int .i64 0]) ?_ 0 _ rfl; (with_reducible repeat (first | refine blk_drewN ?_ _ | refine blk_drew ?_ | refine blk_alloc ?_ _)); exact BK313.out⟩, ⟨by repeat (first | (with_reducible first | exact HB.out | apply below_alloc | apply pw_below_drewN | apply below_drew1 | refine below_set ?_ GE300.out | refine below_set ?_ GE301.out | refine below_set ?_ GE307.out | refine below_set ?_ GE313.out) | exact HB.out)⟩⟩
  rw [if_pos c27] at H
  have c27b0 : (t306 == t312) = true := beq_iff_eq.mpr c27
  have c27b1 : (t306 != t312) = false := bne_eq_false_iff_eq.mpr c27
  clear c27
  (first | rw [c27b0] | (simp only [i64_w, i32_w]; rw [c27b0]) | skip)
  replace H := Option.bind_eq_some_iff.mp H
  obtain ⟨t314, A280, H⟩ := H
  replace H : (peristylelaw8_JoinFiltersMatchSpec.j0 k l1 (!t314) l0_0 l0_1 l4_0 a4_1) = some r := H
  have A28 := Aside0.mk A280
  clear A280
  have H' := Aside0.mk H
  clear H
  have hnb29 := NB307_300.out
  have hnc29 := NB300_307.out
  have hnb30 := NB307_301.out
  have hnc30 := NB301_307.out
  have hnb31 := NB307_313.out
  have hnc31 := NB313_307.out
  have hcz32_0 : w21.cell? ⟨gb307, 0, none⟩ = some (.slice Ao15 t302.length co15) := (blk_cell BK307.out 0).trans rfl
  have hcz32_1 : w21.cell? ⟨gb307, 1, none⟩ = some (.int .i64 t305) := (blk_cell BK307.out 1).trans rfl
  have hfz32_0 := blk_frozen BK307.out 0
  have hfz32_1 := blk_frozen BK307.out 1
  have hnb33 := NB313_300.out
  have hnc33 := NB300_313.out
  have hnb34 := NB313_301.out
  have hnc34 := NB301_313.out
  have hcz35_0 : w21.cell? ⟨gb313, 0, none⟩ = some (.slice none 0 0) := (blk_cell BK313.out 0).trans rfl
  have hcz35_1 : w21.cell? ⟨gb313, 1, none⟩ = some (.int .i64 0) := (blk_cell BK313.out 1).trans rfl
  have hfz35_0 := blk_frozen BK313.out 0
  have hfz35_1 := blk_frozen BK313.out 1
  go_wp2_with (first | (go_at_call 6; (with_reducible refine (peristyleref8_SameFilter.calls k _ _ t302 t305 _ _ t308 t311 t314 _ ?side1 ?side2 ?side3 ?side4 A28.out).mono ?_); (case side1 => refine (Kd.R_reads' (e := 5) (base := w.heap.size) (ok := fun k_ => (True ∧ some k_ ≠ (.slice Ao22 t308.length co22 : Value).ownBlock)) (n := t302.length) (c := co15) ?_).2.2; exact s15q20); (case side2 => exact (Kd.R_reads' HO304.out).2.1); (case side3 => refine (Kd.R_reads' (e := 5) (base := w.heap.size) (ok := fun k_ => (True ∧ some k_ ≠ (.slice Ao15 t302.length co15 : Value).ownBlock)) (n := t308.length) (c := co22) ?_).2.2; exact s15q21); (case side4 => exact (Kd.R_reads' HO310.out).2.1); rintro e w36 ⟨rfl, hb⟩; have n0_ := Aside0.mk (Kd.R_below s15q20 hb); have n1_ := Aside0.mk (Kd.R_below s15q21 hb); have n2_ := Aside0.mk (blk_below (g := gb300) (o := .cells #[.slice A0_0 l0_0.length c0_0, .slice A0_1 l0_1.length c0_1] 25 (0, 0)) (by (with_reducible repeat (first | refine blk_drewN ?_ _ | refine blk_drew ?_ | refine blk_alloc ?_ _)); refine blk_far ?_ NB300_313.out _; (with_reducible repeat (first | refine blk_drewN ?_ _ | refine blk_drew ?_ | refine blk_alloc ?_ _)); refine blk_far ?_ NB300_313.out _; (with_reducible repeat (first | refine blk_drewN ?_ _ | refine blk_drew ?_ | refine blk_alloc ?_ _)); exact BK300.out) hb); have n3_ := Aside0.mk (blk_below (g := gb301) (o := .cells #[.slice A4_0 l4_0.length c4_0, .int .i64 a4_1] 29 (0, 0)) (by (with_reducible repeat (first | refine blk_drewN ?_ _ | refine blk_drew ?_ | refine blk_alloc ?_ _)); refine blk_far ?_ NB301_313.out _; (with_reducible repeat (first | refine blk_drewN ?_ _ | refine blk_drew ?_ | refine blk_alloc ?_ _)); refine blk_far ?_ NB301_313.out _; (with_reducible repeat (first | refine blk_drewN ?_ _ | refine blk_drew ?_ | refine blk_alloc ?_ _)); exact BK301.out) hb); have n4_ := Aside0.mk (blk_below (g := gb307) (o := .cells #[.slice Ao15 t302.length co15, .int .i64 t305] 29 (0, 0)) (by (with_reducible repeat (first | refine blk_drewN ?_ _ | refine blk_drew ?_ | refine blk_alloc ?_ _)); refine blk_far ?_ NB307_313.out _; (with_reducible repeat (first | refine blk_drewN ?_ _ | refine blk_drew ?_ | refine blk_alloc ?_ _)); refine blk_far ?_ NB307_313.out _; (with_reducible repeat (first | refine blk_drewN ?_ _ | refine blk_drew ?_ | refine blk_alloc ?_ _)); exact BK307.out) hb); have n5_ := Aside0.mk (blk_below (g := gb313) (o := .cells #[.slice Ao22 t308.length co22, .int .i64 t311] 29 (0, 0)) (by (with_reducible repeat (first | refine blk_drewN ?_ _ | refine blk_drew ?_ | refine blk_alloc ?_ _)); refine blk_put (cs := #[.slice Ao22 t308.length co22, .int .i64 0]) ?_ 1 _ rfl; (with_reducible repeat (first | refine blk_drewN ?_ _ | refine blk_drew ?_ | refine blk_alloc ?_ _)); refine blk_put (cs := #[.slice none 0 0, .int .i64 0]) ?_ 0 _ rfl; (with_reducible repeat (first | refine blk_drewN ?_ _ | refine blk_drew ?_ | refine blk_alloc ?_ _)); exact BK313.out) hb); have n6_ := Aside0.mk (below_step s15q18 hb); clear HO304; clear HO310; clear BK300; clear BK301; clear BK307; clear BK313; clear HB; have HO304 := n0_; have HO310 := n1_; have BK300 := n2_; have BK301 := n3_; have BK307 := n4_; have BK313 := n5_; have HB := n6_; clear n0_ n1_ n2_ n3_ n4_ n5_ n6_; (try clear hb); (try clear hb2); (try clear hk); (try clear hi)))
  go_meet
  case rel => exact ⟨_, (!t314), s15q1, H', ⟨by first | omega | exact Nat.le_refl _⟩, ⟨by (with_reducible repeat (first | apply Kd.R_alloc | apply Kd.R_drewN | apply Kd.R_drew)); exact Kd.R_mono HO304.out (fun _ hk => hk.2)⟩, ⟨by (with_reducible repeat (first | apply Kd.R_alloc | apply Kd.R_drewN | apply Kd.R_drew)); exact Kd.R_mono HO310.out (fun _ hk => hk.2)⟩, ⟨by (with_reducible repeat (first | refine blk_drewN ?_ _ | refine blk_drew ?_ | refine blk_alloc ?_ _)); exact BK300.out⟩, ⟨by (with_reducible repeat (first | refine blk_drewN ?_ _ | refine blk_drew ?_ | refine blk_alloc ?_ _)); exact BK301.out⟩, ⟨by (with_reducible repeat (first | refine blk_drewN ?_ _ | refine blk_drew ?_ | refine blk_alloc ?_ _)); exact BK307.out⟩, ⟨by (with_reducible repeat (first | refine blk_drewN ?_ _ | refine blk_drew ?_ | refine blk_alloc ?_ _)); exact BK313.out⟩, ⟨by repeat (first | (with_reducible first | exact HB.out | apply below_alloc | apply pw_below_drewN | apply below_drew1 | refine below_set ?_ GE300.out | refine below_set ?_ GE301.out | refine below_set ?_ GE307.out | refine below_set ?_ GE313.out) | exact HB.out)⟩⟩
 clear HC8
 try clear c1
 try clear c2
 try clear p2
 try clear c3
 try clear c4
 try clear c5
 try clear c11
 try clear c16
 try clear c17
 try clear c23
 try clear c24
 try clear c25
 try clear c27
 try clear c27b0
 try clear c27b1
 try clear c29
 try clear c30
 try clear c31
 try clear c33
 try clear c34
 try clear hcz12_0
 try clear hcz12_1
 try clear hcz18_0
 try clear hcz18_1
 try clear hcz19_0
 try clear hcz19_1
 try clear hcz26_0
 try clear hcz26_1
 try clear hcz32_0
 try clear hcz32_1
 try clear hcz35_0
 try clear hcz35_1
 try clear hfz12_0
 try clear hfz12_1
 try clear hfz18_0
 try clear hfz18_1
 try clear hfz19_0
 try clear hfz19_1
 try clear hfz26_0
 try clear hfz26_1
 try clear hfz32_0
 try clear hfz32_1
 try clear hfz35_0
 try clear hfz35_1
 obtain ⟨kq, x41_7, rfl, HA, HJ7, HO_308000, HO_314000, BK300, BK301, BK307, BK313, HB⟩ := hcut
 cases kq with
 | zero => exact absurd HA.out (by simp [peristylelaw8_JoinFiltersMatchSpec.j0])
 | succ kj7 => ?_
 have H := HA.out
 clear HA
 simp only [peristylelaw8_JoinFiltersMatchSpec.j0] at H
 by_cases c37 : x41_7 = true
 · subst c37
   have H1 : (some false) = some r := by rw [if_pos rfl] at H; exact H
   clear H
   have H := H1
   clear H1
   obtain rfl := Option.some.inj H
   go_wp2
   go_ret
   exact ⟨by first | rfl | (simp [errW_none, errW_some] <;> rfl) | (simp [*, errW_none, errW_some] <;> rfl), by repeat (first | (with_reducible first | exact HB.out | apply below_alloc | apply pw_below_drewN | apply below_drew1 | refine below_set ?_ GE300.out | refine below_set ?_ GE301.out | refine below_set ?_ GE307.out | refine below_set ?_ GE313.out) | exact HB.out)⟩
 replace c37 := Bool.eq_false_iff.mpr c37
 subst c37
 have H1 : ((join_Kept.f kj7 l0_0 l0_1 l1 l4_0 a4_1).bind fun bt315 => ((peristyleref8_Kept.f kj7 l0_0 l0_1 l1 l4_0 a4_1).bind fun bt319 => (if bt315.2 = bt319.2 then ((slices_Equal_int_int.f kj7 bt315.1 bt319.1).bind fun t323 => (if t323 = true then ((peristylelaw8_awake.f kj7).bind fun t324 => (some t324)) else (some false))) else (some false)))) = some r := s15q24
 clear H
 have H := H1
 clear H1
 replace H := Option.bind_eq_some_iff.mp H
 obtain ⟨⟨t315, t318⟩, A380, H⟩ := H
 replace H : ((peristyleref8_Kept.f kj7 l0_0 l0_1 l1 l4_0 a4_1).bind fun bt319 => (if t318 = bt319.2 then ((slices_Equal_int_int.f kj7 t315 bt319.1).bind fun t323 => (if t323 = true then ((peristylelaw8_awake.f kj7).bind fun t324 => (some t324)) else (some false))) else (some false))) = some r := H
 have A38 := Aside0.mk A380
 clear A380
 replace H := Option.bind_eq_some_iff.mp H
 obtain ⟨⟨t319, t322⟩, A390, H⟩ := H
 replace H : (if t318 = t322 then ((slices_Equal_int_int.f kj7 t315 t319).bind fun t323 => (if t323 = true then ((peristylelaw8_awake.f kj7).bind fun t324 => (some t324)) else (some false))) else (some false)) = some r := H
 have A39 := Aside0.mk A390
 clear A390
 by_cases c40 : t318 = t322
 case neg =>
  rw [if_neg c40] at H
  have c40b0 : (t318 == t322) = false := beq_eq_false_iff_ne.mpr c40
  have c40b1 : (t318 != t322) = true := bne_iff_ne.mpr c40
  obtain rfl := Option.some.inj H
  have hnb71 := NB300_301.out
  have hnc71 := NB301_300.out
  have hnb72 := NB300_307.out
  have hnc72 := NB307_300.out
  have hnb73 := NB300_313.out
  have hnc73 := NB313_300.out
  have hcz74_0 : wc.cell? ⟨gb300, 0, none⟩ = some (.slice A0_0 l0_0.length c0_0) := (blk_cell BK300.out 0).trans rfl
  have hcz74_1 : wc.cell? ⟨gb300, 1, none⟩ = some (.slice A0_1 l0_1.length c0_1) := (blk_cell BK300.out 1).trans rfl
  have hfz74_0 := blk_frozen BK300.out 0
  have hfz74_1 := blk_frozen BK300.out 1
  have hnb75 := NB301_307.out
  have hnc75 := NB307_301.out
  have hnb76 := NB301_313.out
  have hnc76 := NB313_301.out
  have hcz77_0 : wc.cell? ⟨gb301, 0, none⟩ = some (.slice A4_0 l4_0.length c4_0) := (blk_cell BK301.out 0).trans rfl
  have hcz77_1 : wc.cell? ⟨gb301, 1, none⟩ = some (.int .i64 a4_1) := (blk_cell BK301.out 1).trans rfl
  have hfz77_0 := blk_frozen BK301.out 0
  have hfz77_1 := blk_frozen BK301.out 1
  go_wp2_with (first | ((with_reducible refine gate_callee (f := 7) rfl ?_); refine goesL_ (some 46) rfl rfl Tryd.func7 s15q0 rfl #[.agg #[.slice A0_0 l0_0.length c0_0, .slice A0_1 l0_1.length c0_1], .slice A1 l1.length c1, .agg #[.slice A4_0 l4_0.length c4_0, .int .i64 a4_1]] rfl s15q13 ?_; (with_reducible refine (join_Kept.calls kj7 _ _ l0_0 _ _ l0_1 _ _ l1 _ _ l4_0 a4_1 t315 t318 _ ?side1 ?side2 ?side3 ?side4 ?side5 ?side6 ?side7 ?side8 ?side9 A38.out).mono ?_); (case side1 => repeat (first | exact (Kd.C_below HR0_0.out HB.out) | (with_reducible refine Kd.C_alloc ?_ _) | (with_reducible refine Kd.C_drewN ?_ _) | (with_reducible refine Kd.C_drew ?_))); (case side2 => exact HC0_0.out); (case side3 => repeat (first | exact (Kd.C_below HR0_1.out HB.out) | (with_reducible refine Kd.C_alloc ?_ _) | (with_reducible refine Kd.C_drewN ?_ _) | (with_reducible refine Kd.C_drew ?_))); (case side4 => exact HC0_1.out); (case side5 => repeat (first | exact (Kd.C_below HR1.out HB.out) | (with_reducible refine Kd.C_alloc ?_ _) | (with_reducible refine Kd.C_drewN ?_ _) | (with_reducible refine Kd.C_drew ?_))); (case side6 => exact HC1.out); (case side7 => repeat (first | exact (Kd.C_below HR4_0.out HB.out) | (with_reducible refine Kd.C_alloc ?_ _) | (with_reducible refine Kd.C_drewN ?_ _) | (with_reducible refine Kd.C_drew ?_))); (case side8 => exact HC4_0.out); (case side9 => exact Glob_below HG.out s15q18); rintro e w78 ⟨v316, rfl, ho0, hb⟩; refine ⟨_, rfl, ?_⟩; have n0_ := Aside0.mk (Kd.R_below s15q6 hb); have n1_ := Aside0.mk (Kd.R_below s15q7 hb); have n2_ := Aside0.mk (Kd.R_lower ho0 (below_size s15q18)); have n3_ := Aside0.mk (blk_below (g := gb300) (o := .cells #[.slice A0_0 l0_0.length c0_0, .slice A0_1 l0_1.length c0_1] 25 (0, 0)) s15q8 hb); have n4_ := Aside0.mk (blk_below (g := gb301) (o := .cells #[.slice A4_0 l4_0.length c4_0, .int .i64 a4_1] 29 (0, 0)) s15q9 hb); have n5_ := Aside0.mk (blk_below (g := gb307) (o := .cells #[.slice Ao15 t302.length co15, .int .i64 t305] 29 (0, 0)) s15q10 hb); have n6_ := Aside0.mk (blk_below (g := gb313) (o := .cells #[.slice Ao22 t308.length co22, .int .i64 t311] 29 (0, 0)) s15q11 hb); have n7_ := Aside0.mk (below_step s15q18 hb); clear HO_308000; clear HO_314000; clear BK300; clear BK301; clear BK307; clear BK313; clear HB; have HO_308000 := n0_; have HO_314000 := n1_; have HO317 := n2_; have BK300 := n3_; have BK301 := n4_; have BK307 := n5_; have BK313 := n6_; have HB := n7_; clear n0_ n1_ n2_ n3_ n4_ n5_ n6_ n7_; (try clear hb); (try clear hb2); (try clear hk); (try clear hi); (try clear ho0); have hcz79_0 : w78.cell? ⟨gb300, 0, none⟩ = some (.slice A0_0 l0_0.length c0_0) := (blk_cell BK300.out 0).trans rfl; have hcz79_1 : w78.cell? ⟨gb300, 1, none⟩ = some (.slice A0_1 l0_1.length c0_1) := (blk_cell BK300.out 1).trans rfl; have hfz79_0 := blk_frozen BK300.out 0; have hfz79_1 := blk_frozen BK300.out 1; have hcz80_0 : w78.cell? ⟨gb301, 0, none⟩ = some (.slice A4_0 l4_0.length c4_0) := (blk_cell BK301.out 0).trans rfl; have hcz80_1 : w78.cell? ⟨gb301, 1, none⟩ = some (.int .i64 a4_1) := (blk_cell BK301.out 1).trans rfl; have hfz80_0 := blk_frozen BK301.out 0; have hfz80_1 := blk_frozen BK301.out 1) | ((with_reducible refine gate_callee (f := 8) rfl ?_); refine goesL_ (some 53) rfl rfl Tryd.func8 s15q0 rfl #[.agg #[.slice A0_0 l0_0.length c0_0, .slice A0_1 l0_1.length c0_1], .slice A1 l1.length c1, .agg #[.slice A4_0 l4_0.length c4_0, .int .i64 a4_1]] rfl s15q13 ?_; (with_reducible refine (peristyleref8_Kept.calls kj7 _ _ l0_0 _ _ l0_1 _ _ l1 _ _ l4_0 a4_1 t319 t322 _ ?side1 ?side2 ?side3 ?side4 ?side5 ?side6 ?side7 ?side8 ?side9 A39.out).mono ?_); (case side1 => repeat (first | exact (Kd.C_below HR0_0.out HB.out) | (with_reducible refine Kd.C_alloc ?_ _) | (with_reducible refine Kd.C_drewN ?_ _) | (with_reducible refine Kd.C_drew ?_))); (case side2 => exact HC0_0.out); (case side3 => repeat (first | exact (Kd.C_below HR0_1.out HB.out) | (with_reducible refine Kd.C_alloc ?_ _) | (with_reducible refine Kd.C_drewN ?_ _) | (with_reducible refine Kd.C_drew ?_))); (case side4 => exact HC0_1.out); (case side5 => repeat (first | exact (Kd.C_below HR1.out HB.out) | (with_reducible refine Kd.C_alloc ?_ _) | (with_reducible refine Kd.C_drewN ?_ _) | (with_reducible refine Kd.C_drew ?_))); (case side6 => exact HC1.out); (case side7 => repeat (first | exact (Kd.C_below HR4_0.out HB.out) | (with_reducible refine Kd.C_alloc ?_ _) | (with_reducible refine Kd.C_drewN ?_ _) | (with_reducible refine Kd.C_drew ?_))); (case side8 => exact HC4_0.out); (case side9 => exact Glob_below HG.out s15q18); rintro e w81 ⟨v320, rfl, ho0, hb⟩; refine ⟨_, rfl, ?_⟩; have n0_ := Aside0.mk (Kd.R_below s15q6 hb); have n1_ := Aside0.mk (Kd.R_below s15q7 hb); have n2_ := Aside0.mk (Kd.R_elder' s15q5 (Kd.R_base ho0) hb); have n3_ := Aside0.mk (Kd.R_lower (Kd.R_new' ho0 (Kd.R_lt s15q5)) (below_size s15q18)); have n4_ := Aside0.mk (blk_below (g := gb300) (o := .cells #[.slice A0_0 l0_0.length c0_0, .slice A0_1 l0_1.length c0_1] 25 (0, 0)) s15q8 hb); have n5_ := Aside0.mk (blk_below (g := gb301) (o := .cells #[.slice A4_0 l4_0.length c4_0, .int .i64 a4_1] 29 (0, 0)) s15q9 hb); have n6_ := Aside0.mk (blk_below (g := gb307) (o := .cells #[.slice Ao15 t302.length co15, .int .i64 t305] 29 (0, 0)) s15q10 hb); have n7_ := Aside0.mk (blk_below (g := gb313) (o := .cells #[.slice Ao22 t308.length co22, .int .i64 t311] 29 (0, 0)) s15q11 hb); have n8_ := Aside0.mk (below_step s15q18 hb); clear HO_308000; clear HO_314000; clear HO317; clear BK300; clear BK301; clear BK307; clear BK313; clear HB; have HO_308000 := n0_; have HO_314000 := n1_; have HO317 := n2_; have HO321 := n3_; have BK300 := n4_; have BK301 := n5_; have BK307 := n6_; have BK313 := n7_; have HB := n8_; clear n0_ n1_ n2_ n3_ n4_ n5_ n6_ n7_ n8_; (try clear hb); (try clear hb2); (try clear hk); (try clear hi); (try clear ho0)))
  go_ret
  exact ⟨by first | rfl | (simp [errW_none, errW_some] <;> rfl) | (simp [*, errW_none, errW_some] <;> rfl), by repeat (first | (with_reducible first | exact HB.out | apply below_alloc | apply pw_below_drewN | apply below_drew1 | refine below_set ?_ GE300.out | refine below_set ?_ GE301.out | refine below_set ?_ GE307.out | refine below_set ?_ GE313.out) | exact HB.out)⟩
 rw [if_pos c40] at H
 have c40b0 : (t318 == t322) = true := beq_iff_eq.mpr c40
 have c40b1 : (t318 != t322) = false := bne_eq_false_iff_eq.mpr c40
 clear c40
 replace H := Option.bind_eq_some_iff.mp H
 obtain ⟨t323, A410, H⟩ := H
 replace H : (if t323 = true then ((peristylelaw8_awake.f kj7).bind fun t324 => (some t324)) else (some false)) = some r := H
 have A41 := Aside0.mk A410
 clear A410
 by_cases c42 : t323 = true
 case neg =>
  replace c42 := Bool.eq_false_iff.mpr c42
  subst c42
  have H1 : (some false) = some r := s15q24
  clear H
  have H := H1
  clear H1
  obtain rfl := Option.some.inj H
  have hnb58 := NB300_301.out
  have hnc58 := NB301_300.out
  have hnb59 := NB300_307.out
  have hnc59 := NB307_300.out
  have hnb60 := NB300_313.out
  have hnc60 := NB313_300.out
  have hcz61_0 : wc.cell? ⟨gb300, 0, none⟩ = some (.slice A0_0 l0_0.length c0_0) := (blk_cell BK300.out 0).trans rfl
  have hcz61_1 : wc.cell? ⟨gb300, 1, none⟩ = some (.slice A0_1 l0_1.length c0_1) := (blk_cell BK300.out 1).trans rfl
  have hfz61_0 := blk_frozen BK300.out 0
  have hfz61_1 := blk_frozen BK300.out 1
  have hnb62 := NB301_307.out
  have hnc62 := NB307_301.out
  have hnb63 := NB301_313.out
  have hnc63 := NB313_301.out
  have hcz64_0 : wc.cell? ⟨gb301, 0, none⟩ = some (.slice A4_0 l4_0.length c4_0) := (blk_cell BK301.out 0).trans rfl
  have hcz64_1 : wc.cell? ⟨gb301, 1, none⟩ = some (.int .i64 a4_1) := (blk_cell BK301.out 1).trans rfl
  have hfz64_0 := blk_frozen BK301.out 0
  have hfz64_1 := blk_frozen BK301.out 1
  go_wp2_with (first | ((with_reducible refine gate_callee (f := 7) rfl ?_); refine goesL_ (some 46) rfl rfl Tryd.func7 s15q0 rfl #[.agg #[.slice A0_0 l0_0.length c0_0, .slice A0_1 l0_1.length c0_1], .slice A1 l1.length c1, .agg #[.slice A4_0 l4_0.length c4_0, .int .i64 a4_1]] rfl s15q13 ?_; (with_reducible refine (join_Kept.calls kj7 _ _ l0_0 _ _ l0_1 _ _ l1 _ _ l4_0 a4_1 t315 t318 _ ?side1 ?side2 ?side3 ?side4 ?side5 ?side6 ?side7 ?side8 ?side9 A38.out).mono ?_); (case side1 => repeat (first | exact (Kd.C_below HR0_0.out HB.out) | (with_reducible refine Kd.C_alloc ?_ _) | (with_reducible refine Kd.C_drewN ?_ _) | (with_reducible refine Kd.C_drew ?_))); (case side2 => exact HC0_0.out); (case side3 => repeat (first | exact (Kd.C_below HR0_1.out HB.out) | (with_reducible refine Kd.C_alloc ?_ _) | (with_reducible refine Kd.C_drewN ?_ _) | (with_reducible refine Kd.C_drew ?_))); (case side4 => exact HC0_1.out); (case side5 => repeat (first | exact (Kd.C_below HR1.out HB.out) | (with_reducible refine Kd.C_alloc ?_ _) | (with_reducible refine Kd.C_drewN ?_ _) | (with_reducible refine Kd.C_drew ?_))); (case side6 => exact HC1.out); (case side7 => repeat (first | exact (Kd.C_below HR4_0.out HB.out) | (with_reducible refine Kd.C_alloc ?_ _) | (with_reducible refine Kd.C_drewN ?_ _) | (with_reducible refine Kd.C_drew ?_))); (case side8 => exact HC4_0.out); (case side9 => exact Glob_below HG.out s15q18); rintro e w65 ⟨v316, rfl, ho0, hb⟩; refine ⟨_, rfl, ?_⟩; have n0_ := Aside0.mk (Kd.R_below s15q6 hb); have n1_ := Aside0.mk (Kd.R_below s15q7 hb); have n2_ := Aside0.mk (Kd.R_lower ho0 (below_size s15q18)); have n3_ := Aside0.mk (blk_below (g := gb300) (o := .cells #[.slice A0_0 l0_0.length c0_0, .slice A0_1 l0_1.length c0_1] 25 (0, 0)) s15q8 hb); have n4_ := Aside0.mk (blk_below (g := gb301) (o := .cells #[.slice A4_0 l4_0.length c4_0, .int .i64 a4_1] 29 (0, 0)) s15q9 hb); have n5_ := Aside0.mk (blk_below (g := gb307) (o := .cells #[.slice Ao15 t302.length co15, .int .i64 t305] 29 (0, 0)) s15q10 hb); have n6_ := Aside0.mk (blk_below (g := gb313) (o := .cells #[.slice Ao22 t308.length co22, .int .i64 t311] 29 (0, 0)) s15q11 hb); have n7_ := Aside0.mk (below_step s15q18 hb); clear HO_308000; clear HO_314000; clear BK300; clear BK301; clear BK307; clear BK313; clear HB; have HO_308000 := n0_; have HO_314000 := n1_; have HO317 := n2_; have BK300 := n3_; have BK301 := n4_; have BK307 := n5_; have BK313 := n6_; have HB := n7_; clear n0_ n1_ n2_ n3_ n4_ n5_ n6_ n7_; (try clear hb); (try clear hb2); (try clear hk); (try clear hi); (try clear ho0); have hcz66_0 : w65.cell? ⟨gb300, 0, none⟩ = some (.slice A0_0 l0_0.length c0_0) := (blk_cell BK300.out 0).trans rfl; have hcz66_1 : w65.cell? ⟨gb300, 1, none⟩ = some (.slice A0_1 l0_1.length c0_1) := (blk_cell BK300.out 1).trans rfl; have hfz66_0 := blk_frozen BK300.out 0; have hfz66_1 := blk_frozen BK300.out 1; have hcz67_0 : w65.cell? ⟨gb301, 0, none⟩ = some (.slice A4_0 l4_0.length c4_0) := (blk_cell BK301.out 0).trans rfl; have hcz67_1 : w65.cell? ⟨gb301, 1, none⟩ = some (.int .i64 a4_1) := (blk_cell BK301.out 1).trans rfl; have hfz67_0 := blk_frozen BK301.out 0; have hfz67_1 := blk_frozen BK301.out 1) | ((with_reducible refine gate_callee (f := 8) rfl ?_); refine goesL_ (some 53) rfl rfl Tryd.func8 s15q0 rfl #[.agg #[.slice A0_0 l0_0.length c0_0, .slice A0_1 l0_1.length c0_1], .slice A1 l1.length c1, .agg #[.slice A4_0 l4_0.length c4_0, .int .i64 a4_1]] rfl s15q13 ?_; (with_reducible refine (peristyleref8_Kept.calls kj7 _ _ l0_0 _ _ l0_1 _ _ l1 _ _ l4_0 a4_1 t319 t322 _ ?side1 ?side2 ?side3 ?side4 ?side5 ?side6 ?side7 ?side8 ?side9 A39.out).mono ?_); (case side1 => repeat (first | exact (Kd.C_below HR0_0.out HB.out) | (with_reducible refine Kd.C_alloc ?_ _) | (with_reducible refine Kd.C_drewN ?_ _) | (with_reducible refine Kd.C_drew ?_))); (case side2 => exact HC0_0.out); (case side3 => repeat (first | exact (Kd.C_below HR0_1.out HB.out) | (with_reducible refine Kd.C_alloc ?_ _) | (with_reducible refine Kd.C_drewN ?_ _) | (with_reducible refine Kd.C_drew ?_))); (case side4 => exact HC0_1.out); (case side5 => repeat (first | exact (Kd.C_below HR1.out HB.out) | (with_reducible refine Kd.C_alloc ?_ _) | (with_reducible refine Kd.C_drewN ?_ _) | (with_reducible refine Kd.C_drew ?_))); (case side6 => exact HC1.out); (case side7 => repeat (first | exact (Kd.C_below HR4_0.out HB.out) | (with_reducible refine Kd.C_alloc ?_ _) | (with_reducible refine Kd.C_drewN ?_ _) | (with_reducible refine Kd.C_drew ?_))); (case side8 => exact HC4_0.out); (case side9 => exact Glob_below HG.out s15q18); rintro e w68 ⟨v320, rfl, ho0, hb⟩; refine ⟨_, rfl, ?_⟩; have n0_ := Aside0.mk (Kd.R_below s15q6 hb); have n1_ := Aside0.mk (Kd.R_below s15q7 hb); have n2_ := Aside0.mk (Kd.R_elder' s15q5 (Kd.R_base ho0) hb); have n3_ := Aside0.mk (Kd.R_lower (Kd.R_new' ho0 (Kd.R_lt s15q5)) (below_size s15q18)); have n4_ := Aside0.mk (blk_below (g := gb300) (o := .cells #[.slice A0_0 l0_0.length c0_0, .slice A0_1 l0_1.length c0_1] 25 (0, 0)) s15q8 hb); have n5_ := Aside0.mk (blk_below (g := gb301) (o := .cells #[.slice A4_0 l4_0.length c4_0, .int .i64 a4_1] 29 (0, 0)) s15q9 hb); have n6_ := Aside0.mk (blk_below (g := gb307) (o := .cells #[.slice Ao15 t302.length co15, .int .i64 t305] 29 (0, 0)) s15q10 hb); have n7_ := Aside0.mk (blk_below (g := gb313) (o := .cells #[.slice Ao22 t308.length co22, .int .i64 t311] 29 (0, 0)) s15q11 hb); have n8_ := Aside0.mk (below_step s15q18 hb); clear HO_308000; clear HO_314000; clear HO317; clear BK300; clear BK301; clear BK307; clear BK313; clear HB; have HO_308000 := n0_; have HO_314000 := n1_; have HO317 := n2_; have HO321 := n3_; have BK300 := n4_; have BK301 := n5_; have BK307 := n6_; have BK313 := n7_; have HB := n8_; clear n0_ n1_ n2_ n3_ n4_ n5_ n6_ n7_ n8_; (try clear hb); (try clear hb2); (try clear hk); (try clear hi); (try clear ho0); obtain ⟨Ao69, co69, eo69⟩ := Kd.R_slice HO317.out; subst eo69; obtain ⟨Ao70, co70, eo70⟩ := Kd.R_slice HO321.out; subst eo70) | (go_at_call 9; (with_reducible refine (slices_Equal_int_int.calls kj7 _ _ t315 _ _ t319 false _ ?side1 ?side2 ?side3 ?side4 A41.out).mono ?_); (case side1 => repeat (first | exact (Kd.R_reads' HO317.out).2.2 | (with_reducible refine Kd.C_alloc ?_ _) | (with_reducible refine Kd.C_drewN ?_ _) | (with_reducible refine Kd.C_drew ?_))); (case side2 => exact (Kd.R_reads' HO317.out).2.1); (case side3 => repeat (first | exact (Kd.R_reads' HO321.out).2.2 | (with_reducible refine Kd.C_alloc ?_ _) | (with_reducible refine Kd.C_drewN ?_ _) | (with_reducible refine Kd.C_drew ?_))); (case side4 => exact (Kd.R_reads' HO321.out).2.1); rintro e w' ⟨rfl, ⟨nd, rfl⟩⟩))
  go_ret
  exact ⟨by first | rfl | (simp [errW_none, errW_some] <;> rfl) | (simp [*, errW_none, errW_some] <;> rfl), by repeat (first | (with_reducible first | exact HB.out | apply below_alloc | apply pw_below_drewN | apply below_drew1 | refine below_set ?_ GE300.out | refine below_set ?_ GE301.out | refine below_set ?_ GE307.out | refine below_set ?_ GE313.out) | exact HB.out)⟩
 subst c42
 have H1 : ((peristylelaw8_awake.f kj7).bind fun t324 => (some t324)) = some r := by rw [if_pos rfl] at H; exact H
 clear H
 have H := H1
 clear H1
 replace H := Option.bind_eq_some_iff.mp H
 obtain ⟨t324, A430, H⟩ := H
 replace H : (some t324) = some r := H
 have A43 := Aside0.mk A430
 clear A430
 obtain rfl := Option.some.inj H
 have hnb44 := NB300_301.out
 have hnc44 := NB301_300.out
 have hnb45 := NB300_307.out
 have hnc45 := NB307_300.out
 have hnb46 := NB300_313.out
 have hnc46 := NB313_300.out
 have hcz47_0 : wc.cell? ⟨gb300, 0, none⟩ = some (.slice A0_0 l0_0.length c0_0) := (blk_cell BK300.out 0).trans rfl
 have hcz47_1 : wc.cell? ⟨gb300, 1, none⟩ = some (.slice A0_1 l0_1.length c0_1) := (blk_cell BK300.out 1).trans rfl
 have hfz47_0 := blk_frozen BK300.out 0
 have hfz47_1 := blk_frozen BK300.out 1
 have hnb48 := NB301_307.out
 have hnc48 := NB307_301.out
 have hnb49 := NB301_313.out
 have hnc49 := NB313_301.out
 have hcz50_0 : wc.cell? ⟨gb301, 0, none⟩ = some (.slice A4_0 l4_0.length c4_0) := (blk_cell BK301.out 0).trans rfl
 have hcz50_1 : wc.cell? ⟨gb301, 1, none⟩ = some (.int .i64 a4_1) := (blk_cell BK301.out 1).trans rfl
 have hfz50_0 := blk_frozen BK301.out 0
 have hfz50_1 := blk_frozen BK301.out 1
 go_wp2_with (first | ((with_reducible refine gate_callee (f := 7) rfl ?_); refine goesL_ (some 46) rfl rfl Tryd.func7 s15q0 rfl #[.agg #[.slice A0_0 l0_0.length c0_0, .slice A0_1 l0_1.length c0_1], .slice A1 l1.length c1, .agg #[.slice A4_0 l4_0.length c4_0, .int .i64 a4_1]] rfl s15q13 ?_; (with_reducible refine (join_Kept.calls kj7 _ _ l0_0 _ _ l0_1 _ _ l1 _ _ l4_0 a4_1 t315 t318 _ ?side1 ?side2 ?side3 ?side4 ?side5 ?side6 ?side7 ?side8 ?side9 A38.out).mono ?_); (case side1 => repeat (first | exact (Kd.C_below HR0_0.out HB.out) | (with_reducible refine Kd.C_alloc ?_ _) | (with_reducible refine Kd.C_drewN ?_ _) | (with_reducible refine Kd.C_drew ?_))); (case side2 => exact HC0_0.out); (case side3 => repeat (first | exact (Kd.C_below HR0_1.out HB.out) | (with_reducible refine Kd.C_alloc ?_ _) | (with_reducible refine Kd.C_drewN ?_ _) | (with_reducible refine Kd.C_drew ?_))); (case side4 => exact HC0_1.out); (case side5 => repeat (first | exact (Kd.C_below HR1.out HB.out) | (with_reducible refine Kd.C_alloc ?_ _) | (with_reducible refine Kd.C_drewN ?_ _) | (with_reducible refine Kd.C_drew ?_))); (case side6 => exact HC1.out); (case side7 => repeat (first | exact (Kd.C_below HR4_0.out HB.out) | (with_reducible refine Kd.C_alloc ?_ _) | (with_reducible refine Kd.C_drewN ?_ _) | (with_reducible refine Kd.C_drew ?_))); (case side8 => exact HC4_0.out); (case side9 => exact Glob_below HG.out s15q18); rintro e w51 ⟨v316, rfl, ho0, hb⟩; refine ⟨_, rfl, ?_⟩; have n0_ := Aside0.mk (Kd.R_below s15q6 hb); have n1_ := Aside0.mk (Kd.R_below s15q7 hb); have n2_ := Aside0.mk (Kd.R_lower ho0 (below_size s15q18)); have n3_ := Aside0.mk (blk_below (g := gb300) (o := .cells #[.slice A0_0 l0_0.length c0_0, .slice A0_1 l0_1.length c0_1] 25 (0, 0)) s15q8 hb); have n4_ := Aside0.mk (blk_below (g := gb301) (o := .cells #[.slice A4_0 l4_0.length c4_0, .int .i64 a4_1] 29 (0, 0)) s15q9 hb); have n5_ := Aside0.mk (blk_below (g := gb307) (o := .cells #[.slice Ao15 t302.length co15, .int .i64 t305] 29 (0, 0)) s15q10 hb); have n6_ := Aside0.mk (blk_below (g := gb313) (o := .cells #[.slice Ao22 t308.length co22, .int .i64 t311] 29 (0, 0)) s15q11 hb); have n7_ := Aside0.mk (below_step s15q18 hb); clear HO_308000; clear HO_314000; clear BK300; clear BK301; clear BK307; clear BK313; clear HB; have HO_308000 := n0_; have HO_314000 := n1_; have HO317 := n2_; have BK300 := n3_; have BK301 := n4_; have BK307 := n5_; have BK313 := n6_; have HB := n7_; clear n0_ n1_ n2_ n3_ n4_ n5_ n6_ n7_; (try clear hb); (try clear hb2); (try clear hk); (try clear hi); (try clear ho0); have hcz52_0 : w51.cell? ⟨gb300, 0, none⟩ = some (.slice A0_0 l0_0.length c0_0) := (blk_cell BK300.out 0).trans rfl; have hcz52_1 : w51.cell? ⟨gb300, 1, none⟩ = some (.slice A0_1 l0_1.length c0_1) := (blk_cell BK300.out 1).trans rfl; have hfz52_0 := blk_frozen BK300.out 0; have hfz52_1 := blk_frozen BK300.out 1; have hcz53_0 : w51.cell? ⟨gb301, 0, none⟩ = some (.slice A4_0 l4_0.length c4_0) := (blk_cell BK301.out 0).trans rfl; have hcz53_1 : w51.cell? ⟨gb301, 1, none⟩ = some (.int .i64 a4_1) := (blk_cell BK301.out 1).trans rfl; have hfz53_0 := blk_frozen BK301.out 0; have hfz53_1 := blk_frozen BK301.out 1) | ((with_reducible refine gate_callee (f := 8) rfl ?_); refine goesL_ (some 53) rfl rfl Tryd.func8 s15q0 rfl #[.agg #[.slice A0_0 l0_0.length c0_0, .slice A0_1 l0_1.length c0_1], .slice A1 l1.length c1, .agg #[.slice A4_0 l4_0.length c4_0, .int .i64 a4_1]] rfl s15q13 ?_; (with_reducible refine (peristyleref8_Kept.calls kj7 _ _ l0_0 _ _ l0_1 _ _ l1 _ _ l4_0 a4_1 t319 t322 _ ?side1 ?side2 ?side3 ?side4 ?side5 ?side6 ?side7 ?side8 ?side9 A39.out).mono ?_); (case side1 => repeat (first | exact (Kd.C_below HR0_0.out HB.out) | (with_reducible refine Kd.C_alloc ?_ _) | (with_reducible refine Kd.C_drewN ?_ _) | (with_reducible refine Kd.C_drew ?_))); (case side2 => exact HC0_0.out); (case side3 => repeat (first | exact (Kd.C_below HR0_1.out HB.out) | (with_reducible refine Kd.C_alloc ?_ _) | (with_reducible refine Kd.C_drewN ?_ _) | (with_reducible refine Kd.C_drew ?_))); (case side4 => exact HC0_1.out); (case side5 => repeat (first | exact (Kd.C_below HR1.out HB.out) | (with_reducible refine Kd.C_alloc ?_ _) | (with_reducible refine Kd.C_drewN ?_ _) | (with_reducible refine Kd.C_drew ?_))); (case side6 => exact HC1.out); (case side7 => repeat (first | exact (Kd.C_below HR4_0.out HB.out) | (with_reducible refine Kd.C_alloc ?_ _) | (with_reducible refine Kd.C_drewN ?_ _) | (with_reducible refine Kd.C_drew ?_))); (case side8 => exact HC4_0.out); (case side9 => exact Glob_below HG.out s15q18); rintro e w54 ⟨v320, rfl, ho0, hb⟩; refine ⟨_, rfl, ?_⟩; have n0_ := Aside0.mk (Kd.R_below s15q6 hb); have n1_ := Aside0.mk (Kd.R_below s15q7 hb); have n2_ := Aside0.mk (Kd.R_elder' s15q5 (Kd.R_base ho0) hb); have n3_ := Aside0.mk (Kd.R_lower (Kd.R_new' ho0 (Kd.R_lt s15q5)) (below_size s15q18)); have n4_ := Aside0.mk (blk_below (g := gb300) (o := .cells #[.slice A0_0 l0_0.length c0_0, .slice A0_1 l0_1.length c0_1] 25 (0, 0)) s15q8 hb); have n5_ := Aside0.mk (blk_below (g := gb301) (o := .cells #[.slice A4_0 l4_0.length c4_0, .int .i64 a4_1] 29 (0, 0)) s15q9 hb); have n6_ := Aside0.mk (blk_below (g := gb307) (o := .cells #[.slice Ao15 t302.length co15, .int .i64 t305] 29 (0, 0)) s15q10 hb); have n7_ := Aside0.mk (blk_below (g := gb313) (o := .cells #[.slice Ao22 t308.length co22, .int .i64 t311] 29 (0, 0)) s15q11 hb); have n8_ := Aside0.mk (below_step s15q18 hb); clear HO_308000; clear HO_314000; clear HO317; clear BK300; clear BK301; clear BK307; clear BK313; clear HB; have HO_308000 := n0_; have HO_314000 := n1_; have HO317 := n2_; have HO321 := n3_; have BK300 := n4_; have BK301 := n5_; have BK307 := n6_; have BK313 := n7_; have HB := n8_; clear n0_ n1_ n2_ n3_ n4_ n5_ n6_ n7_ n8_; (try clear hb); (try clear hb2); (try clear hk); (try clear hi); (try clear ho0); obtain ⟨Ao55, co55, eo55⟩ := Kd.R_slice HO317.out; subst eo55; obtain ⟨Ao56, co56, eo56⟩ := Kd.R_slice HO321.out; subst eo56) | (go_at_call 9; (with_reducible refine (slices_Equal_int_int.calls kj7 _ _ t315 _ _ t319 true _ ?side1 ?side2 ?side3 ?side4 A41.out).mono ?_); (case side1 => repeat (first | exact (Kd.R_reads' HO317.out).2.2 | (with_reducible refine Kd.C_alloc ?_ _) | (with_reducible refine Kd.C_drewN ?_ _) | (with_reducible refine Kd.C_drew ?_))); (case side2 => exact (Kd.R_reads' HO317.out).2.1); (case side3 => repeat (first | exact (Kd.R_reads' HO321.out).2.2 | (with_reducible refine Kd.C_alloc ?_ _) | (with_reducible refine Kd.C_drewN ?_ _) | (with_reducible refine Kd.C_drew ?_))); (case side4 => exact (Kd.R_reads' HO321.out).2.1); rintro e w' ⟨rfl, ⟨nd, rfl⟩⟩) | (go_at_call 10; (with_reducible refine (peristylelaw8_awake.calls kj7  t324 _ ?side1 A43.out).mono ?_); (case side1 => exact Glob_below HG.out s15q18); rintro e w57 ⟨rfl, hb⟩; have n0_ := Aside0.mk (Kd.R_below s15q6 hb); have n1_ := Aside0.mk (Kd.R_below s15q7 hb); have n2_ := Aside0.mk (Kd.R_below s15q5 hb); have n3_ := Aside0.mk (Kd.R_below (by (with_reducible repeat (first | apply Kd.R_alloc | apply Kd.R_drewN | apply Kd.R_drew)); exact HO321.out) hb); have n4_ := Aside0.mk (blk_below (g := gb300) (o := .cells #[.slice A0_0 l0_0.length c0_0, .slice A0_1 l0_1.length c0_1] 25 (0, 0)) s15q8 hb); have n5_ := Aside0.mk (blk_below (g := gb301) (o := .cells #[.slice A4_0 l4_0.length c4_0, .int .i64 a4_1] 29 (0, 0)) s15q9 hb); have n6_ := Aside0.mk (blk_below (g := gb307) (o := .cells #[.slice Ao15 t302.length co15, .int .i64 t305] 29 (0, 0)) s15q10 hb); have n7_ := Aside0.mk (blk_below (g := gb313) (o := .cells #[.slice Ao22 t308.length co22, .int .i64 t311] 29 (0, 0)) s15q11 hb); have n8_ := Aside0.mk (below_step s15q18 hb); clear HO_308000; clear HO_314000; clear HO317; clear HO321; clear BK300; clear BK301; clear BK307; clear BK313; clear HB; have HO_308000 := n0_; have HO_314000 := n1_; have HO317 := n2_; have HO321 := n3_; have BK300 := n4_; have BK301 := n5_; have BK307 := n6_; have BK313 := n7_; have HB := n8_; clear n0_ n1_ n2_ n3_ n4_ n5_ n6_ n7_ n8_; (try clear hb); (try clear hb2); (try clear hk); (try clear hi)))
 go_ret
 exact ⟨by first | rfl | (simp [errW_none, errW_some] <;> rfl) | (simp [*, errW_none, errW_some] <;> rfl), by repeat (first | (with_reducible first | exact HB.out | apply below_alloc | apply pw_below_drewN | apply below_drew1 | refine below_set ?_ GE300.out | refine below_set ?_ GE301.out | refine below_set ?_ GE307.out | refine below_set ?_ GE313.out) | exact HB.out)⟩
end Go.Proofs.YtgdbkhbaekeijaaDoor.F
