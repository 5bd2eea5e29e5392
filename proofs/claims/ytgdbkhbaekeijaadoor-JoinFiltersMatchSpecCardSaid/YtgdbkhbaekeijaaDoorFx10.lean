-- Printed by a program of this session (a patched print).
import Derived.Test.YtgdbkhbaekeijaaDoorFx0
import Derived.Test.YtgdbkhbaekeijaaDoorFx4
import Derived.Test.YtgdbkhbaekeijaaDoorFx8
namespace Go.Proofs.YtgdbkhbaekeijaaDoor.F
open Go.RowKit Go.Proofs.YtgdbkhbaekeijaaDoorW.PrintWords Go.Proofs.YtgdbkhbaekeijaaDoorW.PrintLast Go.Proofs.YtgdbkhbaekeijaaDoorW.PrintMore
attribute [local go_sem] max2_int min2_int max_two min_two max_three min_three max_four min_four   -- for this text's walks alone
set_option linter.unusedVariables false
set_option linter.unusedSimpArgs false

theorem s10qm0 {p : Prop} (h : p := by repeat' first | (with_reducible exact ih0 _ _ _ _ _) | (with_reducible exact LeO.refl _) | (with_reducible exact LeO.none _) | (with_reducible refine LeO.ite ?_ ?_) | (with_reducible refine LeO.bind ?_ (fun _ => ?_)) | exact ih0 _ _ _ _ _ | exact LeO.none _ | refine LeO.ite ?_ ?_ | refine LeO.bind ?_ (fun _ => ?_)) : p := h
theorem s10q0 {p : Prop} (h : p := by first | rfl | (simp; done) | (simp [*]; done)) : p := h
theorem s10q1 {p : Prop} (h : p := by first | (with_reducible assumption) | assumption) : p := h
theorem s10q2 {p : Prop} (h : p := by (with_reducible repeat (first | apply Kd.S_alloc | apply Kd.S_drewN | apply Kd.S_drew)); exact HO_5.out) : p := h
theorem s10q3 {p : Prop} (h : p := by (with_reducible repeat (first | refine blk_drewN ?_ _ | refine blk_drew ?_ | refine blk_alloc ?_ _)); exact BK212.out) : p := h
theorem s10q4 {p : Prop} (h : p := by (with_reducible repeat (first | refine blk_drewN ?_ _ | refine blk_drew ?_ | refine blk_alloc ?_ _)); exact BK226.out) : p := h
theorem s10q5 {p : Prop} (h : p := by repeat (first | (with_reducible first | exact HB.out | apply below_alloc | apply pw_below_drewN | apply below_drew1) | exact HB.out)) : p := h
theorem s10q6 {p : Prop} (h : p := by (try simp only [List.map_toArray, List.map_cons, List.map_nil]); first | done | rfl | (simp only [List.length_drop, List.length_take]; rfl)) : p := h
theorem s10q7 {p : Prop} (h : p := by repeat (first | (with_reducible first | exact HB.out | apply below_alloc | apply pw_below_drewN | apply below_drew1 | refine below_set ?_ GE205.out) | exact HB.out)) : p := h
theorem s10q8 {p : Prop} (h : p := by repeat (first | (with_reducible first | exact HB.out | apply below_alloc | apply pw_below_drewN | apply below_drew1 | refine below_set ?_ GE212.out) | exact HB.out)) : p := h
theorem s10q9 {p : Prop} (h : p := by repeat (first | (with_reducible first | exact HB.out | apply below_alloc | apply pw_below_drewN | apply below_drew1 | refine below_set ?_ GE222.out) | exact HB.out)) : p := h
theorem s10q10 {p : Prop} (h : p := by repeat (first | (with_reducible first | exact HB.out | apply below_alloc | apply pw_below_drewN | apply below_drew1 | refine below_set ?_ GE224.out) | exact HB.out)) : p := h
theorem s10q11 {p : Prop} (h : p := by repeat (first | (with_reducible first | exact HB.out | apply below_alloc | apply pw_below_drewN | apply below_drew1 | refine below_set ?_ GE226.out) | exact HB.out)) : p := h
theorem s10q12 {p : Prop} (h : p := by repeat (first | (with_reducible first | exact HB.out | apply below_alloc | apply pw_below_drewN | apply below_drew1 | refine below_set ?_ GE212.out | refine below_set ?_ GE214.out) | exact HB.out)) : p := h
theorem s10q13 {p : Prop} (h : p := by (with_reducible repeat (first | refine blk_drewN ?_ _ | refine blk_drew ?_ | refine blk_alloc ?_ _)); refine blk_far ?_ NB212_214.out _; (with_reducible repeat (first | refine blk_drewN ?_ _ | refine blk_drew ?_ | refine blk_alloc ?_ _)); exact BK212.out) : p := h
theorem s10q14 {p : Prop} (h : p := by (with_reducible repeat (first | refine blk_drewN ?_ _ | refine blk_drew ?_ | refine blk_alloc ?_ _)); refine blk_put (cs := #[.slice none 0 0]) ?_ 0 _ rfl; (with_reducible repeat (first | refine blk_drewN ?_ _ | refine blk_drew ?_ | refine blk_alloc ?_ _)); exact BK214.out) : p := h
theorem s10q15 {p : Prop} (h : p := by (with_reducible repeat (first | apply Kd.S_alloc | apply Kd.S_drewN | apply Kd.S_drew)); exact (Kd.S_mono (Kd.S_far (p := ⟨gb214, 0, none⟩) (Kd.S_types HO_5.out BK214.out (by decide)) (fun _ hk => hk.2) (.slice A213_0 ((rd_T43 l0_1 x13_1).f0).length c213_0)) (fun _ h_ => h_.1))) : p := h
theorem s10q16 {p : Prop} (h : p := by rw [hg]; exact (below_size s10q5)) : p := h
theorem s10q17 {p : Prop} (h : p := by rw [hg]; exact (below_size s10q8)) : p := h
theorem s10q18 {p : Prop} (h : p := by rw [hg]; exact Nat.ne_of_gt (blk_lt (g := gb212) (o := .cells #[.slice A0_0 l0_0.length c0_0, .slice (some ad213) l0_1.length c0_1] 25 (0, 0)) s10q3)) : p := h
theorem s10q19 {p : Prop} (h : p := by rw [hg]; exact Nat.ne_of_lt (blk_lt (g := gb212) (o := .cells #[.slice A0_0 l0_0.length c0_0, .slice (some ad213) l0_1.length c0_1] 25 (0, 0)) s10q3)) : p := h
/-! ### peristyleref8_key: function 20 -/
def peristyleref8_key.l0 : Nat → List (S54) → List Int → Int → Int → List (S54) → Option ((List (S54)) × Bool)
  | 0, _, _, _, _, _ => none
  | k + 1, x6, x9, x10, x11, x206000 => if x11 < x10 then (if 0 ≤ x11 then (if x11 < (x9.length : Int) then (if 0 ≤ (rd x9 x11) then (if (rd x9 x11) < (x206000.length : Int) then (if ((rd_T54 x206000 (rd x9 x11)).f0) = 0 then (some (([] : List (S54)), false)) else (if x6.length < 4398046511104 then (peristyleref8_key.l0 k (x6 ++ [(⟨(rd_T54 x206000 (rd x9 x11)).f0, (rd_T54 x206000 (rd x9 x11)).f1, (rd_T54 x206000 (rd x9 x11)).f2⟩ : S54)]) x9 x10 (wrap64 (x11 + 1)) x206000) else (none))) else (none)) else (none)) else (none)) else (none)) else (some (x6, true))
def peristyleref8_key.f (k : Nat) (l0_0 : List (S54)) (l1 : List Int) : Option ((List (S54)) × Bool) := peristyleref8_key.l0 k ([] : List (S54)) l1 (l1.length : Int) 0 l0_0
theorem peristyleref8_key.mono_l : ∀ k, (∀ y0 y1 y2 y3 y4, LeO (peristyleref8_key.l0 k y0 y1 y2 y3 y4) (peristyleref8_key.l0 (k + 1) y0 y1 y2 y3 y4))
  | 0 => fun _ _ _ _ _ r h => by simp [peristyleref8_key.l0] at h
  | k + 1 => by
    have ih0 := peristyleref8_key.mono_l k
    · intro y0 y1 y2 y3 y4
      unfold peristyleref8_key.l0
      exact s10qm0
theorem peristyleref8_key.mono : ∀ a0 a1 k, LeO (peristyleref8_key.f k a0 a1) (peristyleref8_key.f (k + 1) a0 a1) := by
 intro a0 a1 k
 have ih0 := peristyleref8_key.mono_l k
 unfold peristyleref8_key.f
 repeat' first
  | (with_reducible exact ih0 _ _ _ _ _)
  | (with_reducible exact LeO.refl _)
  | (with_reducible exact LeO.none _)
  | (with_reducible refine LeO.ite ?_ ?_)
  | (with_reducible refine LeO.bind ?_ (fun _ => ?_))
  | exact ih0 _ _ _ _ _
  | exact LeO.none _
  | refine LeO.ite ?_ ?_
  | refine LeO.bind ?_ (fun _ => ?_)
set_option maxHeartbeats 8000000 in
set_option maxRecDepth 100000 in
theorem peristyleref8_key.calls (k : Nat) (A0_0 : Option Addr) (c0_0 : Nat) (l0_0 : List (S54)) (A1 : Option Addr) (c1 : Nat) (l1 : List Int) (r1 : List (S54)) (r2 : Bool) (w : World) (hr0_0 : Kd.C k54 w A0_0 l0_0.length l0_0) (hc0_0 : l0_0.length ≤ c0_0) (hr1 : Kd.C (Kd.int .i64) w A1 l1.length l1) (hc1 : l1.length ≤ c1) (h : peristyleref8_key.f k l0_0 l1 = some (r1, r2)) :
    Calls Tryd.prog 20 #[.agg #[.slice A0_0 l0_0.length c0_0], .slice A1 l1.length c1] w fun e w' => ∃ v0_ : Value, e = .returned (.tuple #[v0_, .bool r2]) ∧ Kd.R k54 54 w' w.heap.size (fun _ => True) v0_ r1 ∧ Below w.heap.size w w' := by
 have hu43 := Tryd.underlying43
 have hu54 := Tryd.underlying54
 have HR0_0 := Aside0.mk hr0_0
 have HC0_0 := Aside0.mk hc0_0
 clear hr0_0 hc0_0
 have HR1 := Aside0.mk hr1
 have HC1 := Aside0.mk hc1
 clear hr1 hc1
 have HB := Aside0.mk (Below.refl w.heap.size w)
 have H : (peristyleref8_key.l0 k ([] : List (S54)) l1 (l1.length : Int) 0 l0_0) = some (r1, r2) := h
 clear h
 have H' := Aside0.mk H
 clear H
 go_enter Tryd.func20, Tryd.ntmps20
 go_wp2_with (first | ((with_reducible refine gate_dst (N := 2) rfl ?_); refine box_event ?hg (N := 2) ?hd (cs := #[.slice A0_0 l0_0.length c0_0]) (t := 43) ?hr ?_; (case hd => rfl); (case hg => rfl); (case hr => first | (go_simp; done) | (go_simp; rfl)); intro gb205 hg w3 hbox hb; have n0_ := Aside0.mk (below_step s10q5 hb); have n1_ := Aside0.mk (hbox); have n2_ := Aside0.mk ((s10q16 : w.heap.size ≤ gb205)); have n3_ := Aside0.mk ((s10q16 : w.heap.size ≤ gb205)); clear HB; have HB := n0_; have BK205 := n1_; have GW205 := n2_; have GE205 := n3_; clear n0_ n1_ n2_ n3_; clear hb hbox hg))
 go_loopg [6, 11] k (fun kq v6 v11 w' => ∃ (x6_1 : List (S54)) (x11_1 : Int), v11 = .int .i64 x11_1 ∧ Aside0 (peristyleref8_key.l0 kq x6_1 l1 (l1.length : Int) x11_1 l0_0 = some (r1, r2)) ∧ Aside0 (kq ≤ k) ∧ Aside0 (Kd.R k54 54 w' w.heap.size (fun _ => True) v6 x6_1) ∧ Aside0 (w'.heap[gb205]? = some (.cells #[(.slice A0_0 l0_0.length c0_0)] 43 (0, 0))) ∧ Aside0 (Below w.heap.size w w'))
 case atStart => exact ⟨(([] : List (S54))), (0), s10q0, H', ⟨Nat.le_refl _⟩, ⟨by first | exact Kd.R_nil _ _ _ _ _ | exact Kd.N_nil _ _ _ _ _ | exact Kd.V_nil _ _ _ _ _ | exact Kd.Q_nil _ _ _ _ _ | exact Kd.S_nil _ _ _ _ _⟩, ⟨by (with_reducible repeat (first | refine blk_drewN ?_ _ | refine blk_drew ?_ | refine blk_alloc ?_ _)); exact BK205.out⟩, ⟨by repeat (first | (with_reducible first | exact HB.out | apply below_alloc | apply pw_below_drewN | apply below_drew1 | refine below_set ?_ GE205.out) | exact HB.out)⟩⟩
 clear H'
 try clear c1
 try clear c2
 try clear p2
 obtain ⟨x6_1, x11_1, rfl, HA, HK1, HO_6, BK205, HB⟩ := hrel
 cases gk with
 | zero => exact absurd HA.out (by simp [peristyleref8_key.l0])
 | succ k1 => ?_
 have H := HA.out
 clear HA
 simp only [peristyleref8_key.l0] at H
 by_cases c4 : x11_1 < (l1.length : Int)
 case neg =>
  rw [if_neg c4] at H
  have c4b0 : decide (x11_1 < (l1.length : Int)) = false := decide_eq_false c4
  clear c4
  simp only [Option.some.injEq, Prod.mk.injEq] at H
  obtain ⟨rfl, rfl⟩ := H
  go_wp2
  go_ret2
  exact ⟨_, by first | rfl | (simp [errW_none, errW_some] <;> rfl) | (simp [*, errW_none, errW_some] <;> rfl), by (with_reducible repeat (first | apply Kd.R_alloc | apply Kd.R_drewN | apply Kd.R_drew)); exact HO_6.out, by repeat (first | (with_reducible first | exact HB.out | apply below_alloc | apply pw_below_drewN | apply below_drew1 | refine below_set ?_ GE205.out) | exact HB.out)⟩
 rw [if_pos c4] at H
 have c4b0 : decide (x11_1 < (l1.length : Int)) = true := decide_eq_true c4
 clear c4
 by_cases c5 : 0 ≤ x11_1
 case neg =>
  rw [if_neg c5] at H
  exact absurd H (by simp)
 rw [if_pos c5] at H
 have c5b0 : decide (0 ≤ x11_1) = true := decide_eq_true c5
 clear c5
 by_cases c6 : x11_1 < (l1.length : Int)
 case neg =>
  rw [if_neg c6] at H
  exact absurd H (by simp)
 rw [if_pos c6] at H
 have c6b0 : decide (x11_1 < (l1.length : Int)) = true := decide_eq_true c6
 clear c6
 by_cases c7 : 0 ≤ (rd l1 x11_1)
 case neg =>
  rw [if_neg c7] at H
  exact absurd H (by simp)
 rw [if_pos c7] at H
 have c7b0 : decide (0 ≤ (rd l1 x11_1)) = true := decide_eq_true c7
 clear c7
 by_cases c8 : (rd l1 x11_1) < (l0_0.length : Int)
 case neg =>
  rw [if_neg c8] at H
  exact absurd H (by simp)
 rw [if_pos c8] at H
 have c8b0 : decide ((rd l1 x11_1) < (l0_0.length : Int)) = true := decide_eq_true c8
 clear c8
 by_cases c9 : ((rd_T54 l0_0 (rd l1 x11_1)).f0) = 0
 · rw [if_pos c9] at H
   have c9b0 : (((rd_T54 l0_0 (rd l1 x11_1)).f0) == 0) = true := beq_iff_eq.mpr c9
   have c9b1 : (((rd_T54 l0_0 (rd l1 x11_1)).f0) != 0) = false := bne_eq_false_iff_eq.mpr c9
   clear c9
   simp only [Option.some.injEq, Prod.mk.injEq] at H
   obtain ⟨rfl, rfl⟩ := H
   have p206 : 0 ≤ (x11_1 : Int) := of_decide_eq_true s10q1
   have q206 : x11_1 < (l1.length : Int) := of_decide_eq_true s10q1
   obtain ⟨ad206, e206, hx206_0⟩ := Kd.at_int HR1.out x11_1 p206 q206
   cases e206
   replace hx206_0 := (HB.out.cell (World.block_lt_of_cell? w _ hx206_0)).trans hx206_0
   replace p206 := eq_true p206
   replace q206 := eq_true q206
   have hcz10_0 : wr.cell? ⟨gb205, 0, none⟩ = some (.slice A0_0 l0_0.length c0_0) := (blk_cell BK205.out 0).trans rfl
   have hfz10_0 := blk_frozen BK205.out 0
   have p207 : 0 ≤ ((rd l1 x11_1) : Int) := of_decide_eq_true s10q1
   have q207 : (rd l1 x11_1) < (l0_0.length : Int) := of_decide_eq_true s10q1
   obtain ⟨ad207, e207, hx207_0, hx207_1, hx207_2⟩ := at_T54 HR0_0.out (rd l1 x11_1) p207 q207
   cases e207
   replace hx207_0 := (HB.out.cell (World.block_lt_of_cell? w _ hx207_0)).trans hx207_0
   replace hx207_1 := (HB.out.cell (World.block_lt_of_cell? w _ hx207_1)).trans hx207_1
   replace hx207_2 := (HB.out.cell (World.block_lt_of_cell? w _ hx207_2)).trans hx207_2
   replace p207 := eq_true p207
   replace q207 := eq_true q207
   go_wp2
   go_ret2
   exact ⟨_, by first | rfl | (simp [errW_none, errW_some] <;> rfl) | (simp [*, errW_none, errW_some] <;> rfl), by first | exact Kd.R_nil _ _ _ _ _ | exact Kd.N_nil _ _ _ _ _ | exact Kd.V_nil _ _ _ _ _ | exact Kd.Q_nil _ _ _ _ _ | exact Kd.S_nil _ _ _ _ _, by repeat (first | (with_reducible first | exact HB.out | apply below_alloc | apply pw_below_drewN | apply below_drew1 | refine below_set ?_ GE205.out) | exact HB.out)⟩
 rw [if_neg c9] at H
 have c9b0 : (((rd_T54 l0_0 (rd l1 x11_1)).f0) == 0) = false := beq_eq_false_iff_ne.mpr c9
 have c9b1 : (((rd_T54 l0_0 (rd l1 x11_1)).f0) != 0) = true := bne_iff_ne.mpr c9
 by_cases c11 : x6_1.length < 4398046511104
 case neg =>
  rw [if_neg c11] at H
  exact absurd H (by simp)
 rw [if_pos c11] at H
 have LMc11 := Aside0.mk c11
 clear c11
 obtain ⟨y209, hy209⟩ : ∃ y_ : List (S54), y_ = (x6_1 ++ [(⟨(rd_T54 l0_0 (rd l1 x11_1)).f0, (rd_T54 l0_0 (rd l1 x11_1)).f1, (rd_T54 l0_0 (rd l1 x11_1)).f2⟩ : S54)]) := ⟨_, rfl⟩
 replace H : (peristyleref8_key.l0 k1 y209 l1 (l1.length : Int) (wrap64 (x11_1 + 1)) l0_0) = some (r1, r2) := sqz hy209 H
 have Ny209 := Aside0.mk hy209
 clear hy209
 have H' := Aside0.mk H
 clear H
 have p206 : 0 ≤ (x11_1 : Int) := of_decide_eq_true s10q1
 have q206 : x11_1 < (l1.length : Int) := of_decide_eq_true s10q1
 obtain ⟨ad206, e206, hx206_0⟩ := Kd.at_int HR1.out x11_1 p206 q206
 cases e206
 replace hx206_0 := (HB.out.cell (World.block_lt_of_cell? w _ hx206_0)).trans hx206_0
 replace p206 := eq_true p206
 replace q206 := eq_true q206
 have hcz12_0 : wr.cell? ⟨gb205, 0, none⟩ = some (.slice A0_0 l0_0.length c0_0) := (blk_cell BK205.out 0).trans rfl
 have hfz12_0 := blk_frozen BK205.out 0
 have p207 : 0 ≤ ((rd l1 x11_1) : Int) := of_decide_eq_true s10q1
 have q207 : (rd l1 x11_1) < (l0_0.length : Int) := of_decide_eq_true s10q1
 obtain ⟨ad207, e207, hx207_0, hx207_1, hx207_2⟩ := at_T54 HR0_0.out (rd l1 x11_1) p207 q207
 cases e207
 replace hx207_0 := (HB.out.cell (World.block_lt_of_cell? w _ hx207_0)).trans hx207_0
 replace hx207_1 := (HB.out.cell (World.block_lt_of_cell? w _ hx207_1)).trans hx207_1
 replace hx207_2 := (HB.out.cell (World.block_lt_of_cell? w _ hx207_2)).trans hx207_2
 replace p207 := eq_true p207
 replace q207 := eq_true q207
 have p208 : 0 ≤ ((rd l1 x11_1) : Int) := of_decide_eq_true s10q1
 have q208 : (rd l1 x11_1) < (l0_0.length : Int) := of_decide_eq_true s10q1
 obtain ⟨ad208, e208, hx208_0, hx208_1, hx208_2⟩ := at_T54 HR0_0.out (rd l1 x11_1) p208 q208
 obtain rfl : ad207 = ad208 := (by injection e208)
 replace hx208_0 := (HB.out.cell (World.block_lt_of_cell? w _ hx208_0)).trans hx208_0
 replace hx208_1 := (HB.out.cell (World.block_lt_of_cell? w _ hx208_1)).trans hx208_1
 replace hx208_2 := (HB.out.cell (World.block_lt_of_cell? w _ hx208_2)).trans hx208_2
 replace p208 := eq_true p208
 replace q208 := eq_true q208
 go_wp2_with (first | ((with_reducible refine gate_builtin (b := .append) (xs := #[.tmp 22, .tmp 28]) rfl ?_); at_builtin; refine Kd.R_append k54 (w0 := w) w.heap.size rfl (.tmp 22) (.tmp 28) 41 54 (.agg #[(.int .i64 0), (.int .i64 0), (.string ⟨#[]⟩)]) 32 rfl Tryd.underlying41 info54 rfl (by decide) (by omega) u6 x6_1 (⟨(rd_T54 l0_0 (rd l1 x11_1)).f0, (rd_T54 l0_0 (rd l1 x11_1)).f1, (rd_T54 l0_0 (rd l1 x11_1)).f2⟩ : S54) [.int .i64 ((rd_T54 l0_0 (rd l1 x11_1)).f0), .int .i64 ((rd_T54 l0_0 (rd l1 x11_1)).f1), .string ((rd_T54 l0_0 (rd l1 x11_1)).f2)] (fun _ => True) (fun _ => False) rfl rfl ?aP (fun _ hk => hk.elim) ?aF ?aO ?aB ?aS ?aL ?_; (case aP => exact k54_mkM _ _ _ (⟨(rd_T54 l0_0 (rd l1 x11_1)).f0, (rd_T54 l0_0 (rd l1 x11_1)).f1, (rd_T54 l0_0 (rd l1 x11_1)).f2⟩ : S54)); (case aB => exact s10q7); (case aF => exact (fun _ _ => trivial)); (case aO => exact (by (with_reducible repeat (first | apply Kd.R_alloc | apply Kd.R_drewN | apply Kd.R_drew)); exact HO_6.out)); (case aS => exact (below_size s10q7)); (case aL => have := LMc11.out; omega); intro v210 w13 ho hb hg hat; rw [← Ny209.out] at ho; have n0_ := Aside0.mk (blk_grown (g := gb205) (o := .cells #[.slice (some ad207) l0_0.length c0_0] 43 (0, 0)) (by (with_reducible repeat (first | refine blk_drewN ?_ _ | refine blk_drew ?_ | refine blk_alloc ?_ _)); exact BK205.out) hg (Kd.R_ne HO_6.out BK205.out (by decide))); have n1_ := Aside0.mk (hb); have n2_ := Aside0.mk (ho); clear BK205; clear HB; clear HO_6; have BK205 := n0_; have HB := n1_; have HO211 := n2_; clear n0_ n1_ n2_; clear ho hb hg hat))
 first | go_roundg k1 | (refine Handed.intro k1 ?measure ?_; rotate_left; go_step; (repeat apply Exists.intro); simp only [add_plain]; refine ⟨?rel, rfl⟩)
 case measure => have := HK1.out; omega
 case rel => exact ⟨(y209), (wrap64 (x11_1 + 1)), s10q0, H', ⟨by have := HK1.out; omega⟩, ⟨by (with_reducible repeat (first | apply Kd.R_alloc | apply Kd.R_drewN | apply Kd.R_drew)); exact HO211.out⟩, ⟨by (with_reducible repeat (first | refine blk_drewN ?_ _ | refine blk_drew ?_ | refine blk_alloc ?_ _)); exact BK205.out⟩, ⟨by repeat (first | (with_reducible first | exact HB.out | apply below_alloc | apply pw_below_drewN | apply below_drew1 | refine below_set ?_ GE205.out) | exact HB.out)⟩⟩
/-! ### peristyleref8_keys: function 17 -/
def peristyleref8_keys.l0 : Nat → List Int → List (List (S54)) → List (S43) → Int → Int → Option ((List (List (S54))))
  | 0, _, _, _, _, _ => none
  | k + 1, x1, x5, x11, x12, x13 => if x13 < x12 then (if 0 ≤ x13 then (if x13 < (x11.length : Int) then ((peristyleref8_key.f k ((rd_T43 x11 x13).f0) x1).bind fun bt215 => (if bt215.2 = true then (if x5.length < 5864062014805 then (peristyleref8_keys.l0 k x1 (x5 ++ [bt215.1]) x11 x12 (wrap64 (x13 + 1))) else (none)) else (peristyleref8_keys.l0 k x1 x5 x11 x12 (wrap64 (x13 + 1))))) else (none)) else (none)) else (some x5)
def peristyleref8_keys.f (k : Nat) (l0_0 : List (S69)) (l0_1 : List (S43)) (l1 : List Int) : Option ((List (List (S54)))) := peristyleref8_keys.l0 k l1 ([] : List (List (S54))) l0_1 (l0_1.length : Int) 0
theorem peristyleref8_keys.mono_l : ∀ k, (∀ y0 y1 y2 y3 y4, LeO (peristyleref8_keys.l0 k y0 y1 y2 y3 y4) (peristyleref8_keys.l0 (k + 1) y0 y1 y2 y3 y4))
  | 0 => fun _ _ _ _ _ r h => by simp [peristyleref8_keys.l0] at h
  | k + 1 => by
    have ih0 := peristyleref8_keys.mono_l k
    · intro y0 y1 y2 y3 y4
      unfold peristyleref8_keys.l0
      repeat' first | (with_reducible exact ih0 _ _ _ _ _) | (with_reducible exact peristyleref8_key.mono _ _ _) | (with_reducible exact LeO.refl _) | (with_reducible exact LeO.none _) | (with_reducible refine LeO.ite ?_ ?_) | (with_reducible refine LeO.bind ?_ (fun _ => ?_)) | exact ih0 _ _ _ _ _ | exact peristyleref8_key.mono _ _ _ | exact LeO.none _ | refine LeO.ite ?_ ?_ | refine LeO.bind ?_ (fun _ => ?_)
theorem peristyleref8_keys.mono : ∀ a0 a1 a2 k, LeO (peristyleref8_keys.f k a0 a1 a2) (peristyleref8_keys.f (k + 1) a0 a1 a2) := by
 intro a0 a1 a2 k
 have ih0 := peristyleref8_keys.mono_l k
 unfold peristyleref8_keys.f
 repeat' first
  | (with_reducible exact ih0 _ _ _ _ _)
  | (with_reducible exact peristyleref8_key.mono _ _ _)
  | (with_reducible exact LeO.refl _)
  | (with_reducible exact LeO.none _)
  | (with_reducible refine LeO.ite ?_ ?_)
  | (with_reducible refine LeO.bind ?_ (fun _ => ?_))
  | exact ih0 _ _ _ _ _
  | exact peristyleref8_key.mono _ _ _
  | exact LeO.none _
  | refine LeO.ite ?_ ?_
  | refine LeO.bind ?_ (fun _ => ?_)
set_option maxHeartbeats 8000000 in
set_option maxRecDepth 100000 in
theorem peristyleref8_keys.calls (k : Nat) (A0_0 : Option Addr) (c0_0 : Nat) (l0_0 : List (S69)) (A0_1 : Option Addr) (c0_1 : Nat) (l0_1 : List (S43)) (A1 : Option Addr) (c1 : Nat) (l1 : List Int) (r : List (List (S54))) (w : World) (hr0_0 : Kd.C k69 w A0_0 l0_0.length l0_0) (hc0_0 : l0_0.length ≤ c0_0) (hr0_1 : Kd.C k43 w A0_1 l0_1.length l0_1) (hc0_1 : l0_1.length ≤ c0_1) (hr1 : Kd.C (Kd.int .i64) w A1 l1.length l1) (hc1 : l1.length ≤ c1) (h : peristyleref8_keys.f k l0_0 l0_1 l1 = some r) :
    Calls Tryd.prog 17 #[.agg #[.slice A0_0 l0_0.length c0_0, .slice A0_1 l0_1.length c0_1], .slice A1 l1.length c1] w fun e w' => ∃ v0_ : Value, e = .returned (v0_) ∧ Kd.S (Kd.slice 54 k54) 41 w' w.heap.size (fun _ => True) v0_ r ∧ Below w.heap.size w w' := by
 have hu25 := Tryd.underlying25
 have hu43 := Tryd.underlying43
 have HR0_0 := Aside0.mk hr0_0
 have HC0_0 := Aside0.mk hc0_0
 clear hr0_0 hc0_0
 have HR0_1 := Aside0.mk hr0_1
 have HC0_1 := Aside0.mk hc0_1
 clear hr0_1 hc0_1
 have HR1 := Aside0.mk hr1
 have HC1 := Aside0.mk hc1
 clear hr1 hc1
 have HB := Aside0.mk (Below.refl w.heap.size w)
 have H : (peristyleref8_keys.l0 k l1 ([] : List (List (S54))) l0_1 (l0_1.length : Int) 0) = some r := h
 clear h
 have H' := Aside0.mk H
 clear H
 go_enter Tryd.func17, Tryd.ntmps17
 go_wp2_with (first | ((with_reducible refine gate_dst (N := 2) rfl ?_); refine box_event ?hg (N := 2) ?hd (cs := #[.slice A0_0 l0_0.length c0_0, .slice A0_1 l0_1.length c0_1]) (t := 25) ?hr ?_; (case hd => rfl); (case hg => rfl); (case hr => first | (go_simp; done) | (go_simp; rfl)); intro gb212 hg w3 hbox hb; have n0_ := Aside0.mk (below_step s10q5 hb); have n1_ := Aside0.mk (hbox); have n2_ := Aside0.mk ((s10q16 : w.heap.size ≤ gb212)); have n3_ := Aside0.mk ((s10q16 : w.heap.size ≤ gb212)); clear HB; have HB := n0_; have BK212 := n1_; have GW212 := n2_; have GE212 := n3_; clear n0_ n1_ n2_ n3_; clear hb hbox hg; have hcz4_0 : w3.cell? ⟨gb212, 0, none⟩ = some (.slice A0_0 l0_0.length c0_0) := (blk_cell BK212.out 0).trans rfl; have hcz4_1 : w3.cell? ⟨gb212, 1, none⟩ = some (.slice A0_1 l0_1.length c0_1) := (blk_cell BK212.out 1).trans rfl; have hfz4_0 := blk_frozen BK212.out 0; have hfz4_1 := blk_frozen BK212.out 1))
 go_loopg [5, 13] k (fun kq v5 v13 w' => ∃ (x5_1 : List (List (S54))) (x13_1 : Int), v13 = .int .i64 x13_1 ∧ Aside0 (peristyleref8_keys.l0 kq l1 x5_1 l0_1 (l0_1.length : Int) x13_1 = some r) ∧ Aside0 (kq ≤ k) ∧ Aside0 (Kd.S (Kd.slice 54 k54) 41 w' w.heap.size (fun _ => True) v5 x5_1) ∧ Aside0 (w'.heap[gb212]? = some (.cells #[(.slice A0_0 l0_0.length c0_0), (.slice A0_1 l0_1.length c0_1)] 25 (0, 0))) ∧ Aside0 (Below w.heap.size w w'))
 case atStart => exact ⟨(([] : List (List (S54)))), (0), s10q0, H', ⟨Nat.le_refl _⟩, ⟨by first | exact Kd.S_nil _ _ _ _ _ | exact Kd.N_nil _ _ _ _ _ | exact Kd.V_nil _ _ _ _ _ | exact Kd.Q_nil _ _ _ _ _ | exact Kd.R_nil _ _ _ _ _⟩, ⟨by (with_reducible repeat (first | refine blk_drewN ?_ _ | refine blk_drew ?_ | refine blk_alloc ?_ _)); exact BK212.out⟩, ⟨by repeat (first | (with_reducible first | exact HB.out | apply below_alloc | apply pw_below_drewN | apply below_drew1 | refine below_set ?_ GE212.out) | exact HB.out)⟩⟩
 clear H'
 try clear c1
 try clear p2
 try clear hcz4_0
 try clear hcz4_1
 try clear hfz4_0
 try clear hfz4_1
 obtain ⟨x5_1, x13_1, rfl, HA, HK1, HO_5, BK212, HB⟩ := hrel
 cases gk with
 | zero => exact absurd HA.out (by simp [peristyleref8_keys.l0])
 | succ k1 => ?_
 have H := HA.out
 clear HA
 simp only [peristyleref8_keys.l0] at H
 by_cases c5 : x13_1 < (l0_1.length : Int)
 case neg =>
  rw [if_neg c5] at H
  have c5b0 : decide (x13_1 < (l0_1.length : Int)) = false := decide_eq_false c5
  clear c5
  obtain rfl := Option.some.inj H
  go_wp2
  go_ret
  exact ⟨_, by first | rfl | (simp [errW_none, errW_some] <;> rfl) | (simp [*, errW_none, errW_some] <;> rfl), by (with_reducible repeat (first | apply Kd.S_alloc | apply Kd.S_drewN | apply Kd.S_drew)); exact HO_5.out, by repeat (first | (with_reducible first | exact HB.out | apply below_alloc | apply pw_below_drewN | apply below_drew1 | refine below_set ?_ GE212.out) | exact HB.out)⟩
 rw [if_pos c5] at H
 have c5b0 : decide (x13_1 < (l0_1.length : Int)) = true := decide_eq_true c5
 clear c5
 by_cases c6 : 0 ≤ x13_1
 case neg =>
  rw [if_neg c6] at H
  exact absurd H (by simp)
 rw [if_pos c6] at H
 have c6b0 : decide (0 ≤ x13_1) = true := decide_eq_true c6
 clear c6
 by_cases c7 : x13_1 < (l0_1.length : Int)
 case neg =>
  rw [if_neg c7] at H
  exact absurd H (by simp)
 rw [if_pos c7] at H
 have c7b0 : decide (x13_1 < (l0_1.length : Int)) = true := decide_eq_true c7
 clear c7
 replace H := Option.bind_eq_some_iff.mp H
 obtain ⟨⟨t215, t218⟩, A80, H⟩ := H
 replace H : (if t218 = true then (if x5_1.length < 5864062014805 then (peristyleref8_keys.l0 k1 l1 (x5_1 ++ [t215]) l0_1 (l0_1.length : Int) (wrap64 (x13_1 + 1))) else (none)) else (peristyleref8_keys.l0 k1 l1 x5_1 l0_1 (l0_1.length : Int) (wrap64 (x13_1 + 1)))) = some r := H
 have A8 := Aside0.mk A80
 clear A80
 by_cases c9 : t218 = true
 case neg =>
  replace c9 := Bool.eq_false_iff.mpr c9
  subst c9
  have H1 : (peristyleref8_keys.l0 k1 l1 x5_1 l0_1 (l0_1.length : Int) (wrap64 (x13_1 + 1))) = some r := by rw [if_neg (show ¬ (false = true) by decide)] at H; exact H
  clear H
  have H := H1
  clear H1
  have H' := Aside0.mk H
  clear H
  have p213 : 0 ≤ (x13_1 : Int) := of_decide_eq_true s10q1
  have q213 : x13_1 < (l0_1.length : Int) := of_decide_eq_true s10q1
  obtain ⟨ad213, A213_0, c213_0, e213, hx213_0, hl213_0, hi213_0⟩ := at_T43 HR0_1.out x13_1 p213 q213
  cases e213
  replace hx213_0 := (HB.out.cell (World.block_lt_of_cell? w _ hx213_0)).trans hx213_0
  have HR213_0 := Aside0.mk hi213_0
  have HC213_0 := Aside0.mk hl213_0
  clear hi213_0 hl213_0
  replace p213 := eq_true p213
  replace q213 := eq_true q213
  go_wp2_with (first | ((with_reducible refine gate_dst (N := 7) rfl ?_); refine box_event ?hg (N := 7) ?hd (cs := #[.slice none 0 0]) (t := 43) ?hr ?_; (case hd => rfl); (case hg => rfl); (case hr => first | (go_simp; done) | (go_simp; rfl)); intro gb214 hg w17 hbox hb; have n0_ := Aside0.mk (Kd.S_below s10q2 hb); have n1_ := Aside0.mk (blk_below (g := gb212) (o := .cells #[.slice A0_0 l0_0.length c0_0, .slice (some ad213) l0_1.length c0_1] 25 (0, 0)) s10q3 hb); have n2_ := Aside0.mk (below_step s10q8 hb); have n3_ := Aside0.mk (hbox); have n4_ := Aside0.mk ((s10q17 : w.heap.size ≤ gb214)); have n5_ := Aside0.mk ((s10q17 : w.heap.size ≤ gb214)); have n6_ := Aside0.mk ((s10q19 : gb212 ≠ gb214)); have n7_ := Aside0.mk ((s10q18 : gb214 ≠ gb212)); clear HO_5; clear BK212; clear HB; have HO_5 := n0_; have BK212 := n1_; have HB := n2_; have BK214 := n3_; have GW214 := n4_; have GE214 := n5_; have NB212_214 := n6_; have NB214_212 := n7_; clear n0_ n1_ n2_ n3_ n4_ n5_ n6_ n7_; clear hb hbox hg; have hnb18 := NB214_212.out; have hnc18 := NB212_214.out; have hcz19_0 : w17.cell? ⟨gb214, 0, none⟩ = some (.slice none 0 0) := (blk_cell BK214.out 0).trans rfl; have hfz19_0 := blk_frozen BK214.out 0) | ((with_reducible refine gate_callee (f := 20) rfl ?_); refine goesL_ (some 20) rfl rfl Tryd.func20 (by kernel_rfl) rfl #[.agg #[.slice A213_0 ((rd_T43 l0_1 x13_1).f0).length c213_0], .slice A1 l1.length c1] rfl s10q6 ?_; (with_reducible refine (peristyleref8_key.calls k1 _ _ ((rd_T43 l0_1 x13_1).f0) _ _ l1 t215 false _ ?side1 ?side2 ?side3 ?side4 A8.out).mono ?_); (case side1 => exact Kd.C_below HR213_0.out s10q12); (case side2 => exact HC213_0.out); (case side3 => exact Kd.C_below HR1.out s10q12); (case side4 => exact HC1.out); rintro e w20 ⟨v216, rfl, ho0, hb⟩; refine ⟨_, rfl, ?_⟩; have n0_ := Aside0.mk (Kd.S_elder' s10q15 (Kd.R_base ho0) hb); have n1_ := Aside0.mk (Kd.R_lower ho0 (below_size s10q12)); have n2_ := Aside0.mk (blk_below (g := gb212) (o := .cells #[.slice A0_0 l0_0.length c0_0, .slice (some ad213) l0_1.length c0_1] 25 (0, 0)) s10q13 hb); have n3_ := Aside0.mk (blk_below (g := gb214) (o := .cells #[.slice A213_0 ((rd_T43 l0_1 x13_1).f0).length c213_0] 43 (0, 0)) s10q14 hb); have n4_ := Aside0.mk (below_step s10q12 hb); clear HO_5; clear BK212; clear BK214; clear HB; have HO_5 := n0_; have HO217 := n1_; have BK212 := n2_; have BK214 := n3_; have HB := n4_; clear n0_ n1_ n2_ n3_ n4_; (try clear hb); (try clear hb2); (try clear hk); (try clear hi); (try clear ho0)))
  first | go_roundg k1 | (refine Handed.intro k1 ?measure ?_; rotate_left; go_step; (repeat apply Exists.intro); simp only [add_plain]; refine ⟨?rel, rfl⟩)
  case measure => have := HK1.out; omega
  case rel => exact ⟨(x5_1), (wrap64 (x13_1 + 1)), s10q0, H', ⟨by have := HK1.out; omega⟩, ⟨by (with_reducible repeat (first | apply Kd.S_alloc | apply Kd.S_drewN | apply Kd.S_drew)); exact Kd.S_mono HO_5.out (fun _ hk => trivial)⟩, ⟨by (with_reducible repeat (first | refine blk_drewN ?_ _ | refine blk_drew ?_ | refine blk_alloc ?_ _)); exact BK212.out⟩, ⟨by repeat (first | (with_reducible first | exact HB.out | apply below_alloc | apply pw_below_drewN | apply below_drew1 | refine below_set ?_ GE212.out | refine below_set ?_ GE214.out) | exact HB.out)⟩⟩
 subst c9
 have H1 : (if x5_1.length < 5864062014805 then (peristyleref8_keys.l0 k1 l1 (x5_1 ++ [t215]) l0_1 (l0_1.length : Int) (wrap64 (x13_1 + 1))) else (none)) = some r := by rw [if_pos rfl] at H; exact H
 clear H
 have H := H1
 clear H1
 by_cases c10 : x5_1.length < 5864062014805
 case neg =>
  rw [if_neg c10] at H
  exact absurd H (by simp)
 rw [if_pos c10] at H
 have LMc10 := Aside0.mk c10
 clear c10
 obtain ⟨y219, hy219⟩ : ∃ y_ : List (List (S54)), y_ = (x5_1 ++ [t215]) := ⟨_, rfl⟩
 replace H : (peristyleref8_keys.l0 k1 l1 y219 l0_1 (l0_1.length : Int) (wrap64 (x13_1 + 1))) = some r := sqz hy219 H
 have Ny219 := Aside0.mk hy219
 clear hy219
 have H' := Aside0.mk H
 clear H
 have p213 : 0 ≤ (x13_1 : Int) := of_decide_eq_true s10q1
 have q213 : x13_1 < (l0_1.length : Int) := of_decide_eq_true s10q1
 obtain ⟨ad213, A213_0, c213_0, e213, hx213_0, hl213_0, hi213_0⟩ := at_T43 HR0_1.out x13_1 p213 q213
 cases e213
 replace hx213_0 := (HB.out.cell (World.block_lt_of_cell? w _ hx213_0)).trans hx213_0
 have HR213_0 := Aside0.mk hi213_0
 have HC213_0 := Aside0.mk hl213_0
 clear hi213_0 hl213_0
 replace p213 := eq_true p213
 replace q213 := eq_true q213
 go_wp2_with (first | ((with_reducible refine gate_dst (N := 7) rfl ?_); refine box_event ?hg (N := 7) ?hd (cs := #[.slice none 0 0]) (t := 43) ?hr ?_; (case hd => rfl); (case hg => rfl); (case hr => first | (go_simp; done) | (go_simp; rfl)); intro gb214 hg w11 hbox hb; have n0_ := Aside0.mk (Kd.S_below s10q2 hb); have n1_ := Aside0.mk (blk_below (g := gb212) (o := .cells #[.slice A0_0 l0_0.length c0_0, .slice (some ad213) l0_1.length c0_1] 25 (0, 0)) s10q3 hb); have n2_ := Aside0.mk (below_step s10q8 hb); have n3_ := Aside0.mk (hbox); have n4_ := Aside0.mk ((s10q17 : w.heap.size ≤ gb214)); have n5_ := Aside0.mk ((s10q17 : w.heap.size ≤ gb214)); have n6_ := Aside0.mk ((s10q19 : gb212 ≠ gb214)); have n7_ := Aside0.mk ((s10q18 : gb214 ≠ gb212)); clear HO_5; clear BK212; clear HB; have HO_5 := n0_; have BK212 := n1_; have HB := n2_; have BK214 := n3_; have GW214 := n4_; have GE214 := n5_; have NB212_214 := n6_; have NB214_212 := n7_; clear n0_ n1_ n2_ n3_ n4_ n5_ n6_ n7_; clear hb hbox hg; have hnb12 := NB214_212.out; have hnc12 := NB212_214.out; have hcz13_0 : w11.cell? ⟨gb214, 0, none⟩ = some (.slice none 0 0) := (blk_cell BK214.out 0).trans rfl; have hfz13_0 := blk_frozen BK214.out 0) | ((with_reducible refine gate_callee (f := 20) rfl ?_); refine goesL_ (some 20) rfl rfl Tryd.func20 (by kernel_rfl) rfl #[.agg #[.slice A213_0 ((rd_T43 l0_1 x13_1).f0).length c213_0], .slice A1 l1.length c1] rfl s10q6 ?_; (with_reducible refine (peristyleref8_key.calls k1 _ _ ((rd_T43 l0_1 x13_1).f0) _ _ l1 t215 true _ ?side1 ?side2 ?side3 ?side4 A8.out).mono ?_); (case side1 => exact Kd.C_below HR213_0.out s10q12); (case side2 => exact HC213_0.out); (case side3 => exact Kd.C_below HR1.out s10q12); (case side4 => exact HC1.out); rintro e w14 ⟨v216, rfl, ho0, hb⟩; refine ⟨_, rfl, ?_⟩; have n0_ := Aside0.mk (Kd.S_elder' s10q15 (Kd.R_base ho0) hb); have n1_ := Aside0.mk (Kd.R_lower ho0 (below_size s10q12)); have n2_ := Aside0.mk (blk_below (g := gb212) (o := .cells #[.slice A0_0 l0_0.length c0_0, .slice (some ad213) l0_1.length c0_1] 25 (0, 0)) s10q13 hb); have n3_ := Aside0.mk (blk_below (g := gb214) (o := .cells #[.slice A213_0 ((rd_T43 l0_1 x13_1).f0).length c213_0] 43 (0, 0)) s10q14 hb); have n4_ := Aside0.mk (below_step s10q12 hb); clear HO_5; clear BK212; clear BK214; clear HB; have HO_5 := n0_; have HO217 := n1_; have BK212 := n2_; have BK214 := n3_; have HB := n4_; clear n0_ n1_ n2_ n3_ n4_; (try clear hb); (try clear hb2); (try clear hk); (try clear hi); (try clear ho0); obtain ⟨Ao16, co16, eo16⟩ := Kd.R_slice HO217.out; subst eo16) | ((with_reducible refine gate_builtin (b := .append) (xs := #[.tmp 24, .tmp 26]) rfl ?_); at_builtin; refine Kd.S_append (Kd.slice 54 k54) (w0 := w) w.heap.size rfl (.tmp 24) (.tmp 26) 47 41 (.slice none 0 0) 24 rfl Tryd.underlying47 info41 rfl (by decide) (by omega) u5 x5_1 t215 [.slice Ao16 t215.length co16] (fun _ => True) (fun k_ => some k_ = (.slice Ao16 t215.length co16 : Value).ownBlock) rfl rfl ?aP (fun k_ hk_ => ((Kd.R_mono (ok' := fun k_ => ((fun _ => True)) k_ ∧ some k_ ≠ (u5 : Value).ownBlock) (Kd.R_apart' (HO217.out) (Kd.S_typed HO_5.out) (by decide)) (fun k_ hk => ⟨trivial, hk.2⟩))).1 k_ hk_.symm) ?aF ?aO ?aB ?aS ?aL ?_; (case aP => exact Kd.M_row (Kd.R_mono (Kd.R_tight rfl (Kd.R_mono (ok' := fun k_ => ((fun _ => True)) k_ ∧ some k_ ≠ (u5 : Value).ownBlock) (Kd.R_apart' (HO217.out) (Kd.S_typed HO_5.out) (by decide)) (fun k_ hk => ⟨trivial, hk.2⟩))) (fun _ h_ => h_))); (case aB => exact s10q12); (case aF => exact (fun _ _ => trivial)); (case aO => exact (by (with_reducible repeat (first | apply Kd.S_alloc | apply Kd.S_drewN | apply Kd.S_drew)); exact Kd.S_mono HO_5.out (fun k_ hk => ⟨trivial, fun e_ => hk.2 e_⟩))); (case aS => exact (below_size s10q12)); (case aL => have := LMc10.out; omega); intro v220 w15 ho hb hg hat; rw [← Ny219.out] at ho; have n0_ := Aside0.mk (blk_grown (g := gb212) (o := .cells #[.slice A0_0 l0_0.length c0_0, .slice (some ad213) l0_1.length c0_1] 25 (0, 0)) s10q3 hg (Kd.S_ne HO_5.out BK212.out (by decide))); have n1_ := Aside0.mk (blk_grown (g := gb214) (o := .cells #[.slice A213_0 ((rd_T43 l0_1 x13_1).f0).length c213_0] 43 (0, 0)) (by (with_reducible repeat (first | refine blk_drewN ?_ _ | refine blk_drew ?_ | refine blk_alloc ?_ _)); exact BK214.out) hg (Kd.S_ne HO_5.out BK214.out (by decide))); have n2_ := Aside0.mk (hb); have n3_ := Aside0.mk (ho); clear BK212; clear BK214; clear HB; clear HO_5; clear HO217; have BK212 := n0_; have BK214 := n1_; have HB := n2_; have HO221 := n3_; clear n0_ n1_ n2_ n3_; clear ho hb hg hat))
 first | go_roundg k1 | (refine Handed.intro k1 ?measure ?_; rotate_left; go_step; (repeat apply Exists.intro); simp only [add_plain]; refine ⟨?rel, rfl⟩)
 case measure => have := HK1.out; omega
 case rel => exact ⟨(y219), (wrap64 (x13_1 + 1)), s10q0, H', ⟨by have := HK1.out; omega⟩, ⟨by (with_reducible repeat (first | apply Kd.S_alloc | apply Kd.S_drewN | apply Kd.S_drew)); exact HO221.out⟩, ⟨by (with_reducible repeat (first | refine blk_drewN ?_ _ | refine blk_drew ?_ | refine blk_alloc ?_ _)); exact BK212.out⟩, ⟨by repeat (first | (with_reducible first | exact HB.out | apply below_alloc | apply pw_below_drewN | apply below_drew1 | refine below_set ?_ GE212.out | refine below_set ?_ GE214.out) | exact HB.out)⟩⟩
/-! ### peristyleref1_word: function 43 -/
def peristyleref1_word.f (a0_0 : Int) (a0_1 : Int) (a0_2 : ByteArray) : Option (ByteArray) := if a0_0 = 2 then ((strconv_Itoa_44.f a0_1).bind fun t223 => (some t223)) else (if a0_1 = 1 then (some (⟨#[116, 114, 117, 101]⟩ : ByteArray)) else (some (⟨#[102, 97, 108, 115, 101]⟩ : ByteArray)))
set_option maxHeartbeats 8000000 in
set_option maxRecDepth 100000 in
theorem peristyleref1_word.calls (a0_0 : Int) (a0_1 : Int) (a0_2 : ByteArray) (r : ByteArray) (w : World) (hG : Glob w) (h : peristyleref1_word.f a0_0 a0_1 a0_2 = some r) :
    Calls Tryd.prog 43 #[.agg #[.int .i64 a0_0, .int .i64 a0_1, .string a0_2]] w fun e w' => e = .returned (.string r) ∧ Below w.heap.size w w' := by
 have hu54 := Tryd.underlying54
 have HG := Aside0.mk hG
 clear hG
 have HB := Aside0.mk (Below.refl w.heap.size w)
 have H : (if a0_0 = 2 then ((strconv_Itoa_44.f a0_1).bind fun t223 => (some t223)) else (if a0_1 = 1 then (some (⟨#[116, 114, 117, 101]⟩ : ByteArray)) else (some (⟨#[102, 97, 108, 115, 101]⟩ : ByteArray)))) = some r := h
 clear h
 by_cases c2 : a0_0 = 2
 · rw [if_pos c2] at H
   have c2b0 : (a0_0 == 2) = true := beq_iff_eq.mpr c2
   have c2b1 : (a0_0 != 2) = false := bne_eq_false_iff_eq.mpr c2
   clear c2
   replace H := Option.bind_eq_some_iff.mp H
   obtain ⟨t223, A30, H⟩ := H
   replace H : (some t223) = some r := H
   have A3 := Aside0.mk A30
   clear A30
   obtain rfl := Option.some.inj H
   go_enter Tryd.func43, Tryd.ntmps43
   go_wp2_with (first | ((with_reducible refine gate_dst (N := 1) rfl ?_); refine box_event ?hg (N := 1) ?hd (cs := #[.int .i64 a0_0, .int .i64 a0_1, .string a0_2]) (t := 54) ?hr ?_; (case hd => rfl); (case hg => rfl); (case hr => first | (go_simp; done) | (go_simp; rfl)); intro gb222 hg w4 hbox hb; have n0_ := Aside0.mk (below_step s10q5 hb); have n1_ := Aside0.mk (hbox); have n2_ := Aside0.mk ((s10q16 : w.heap.size ≤ gb222)); have n3_ := Aside0.mk ((s10q16 : w.heap.size ≤ gb222)); clear HB; have HB := n0_; have BK222 := n1_; have GW222 := n2_; have GE222 := n3_; clear n0_ n1_ n2_ n3_; clear hb hbox hg; have hcz5_0 : w4.cell? ⟨gb222, 0, none⟩ = some (.int .i64 a0_0) := (blk_cell BK222.out 0).trans rfl; have hcz5_1 : w4.cell? ⟨gb222, 1, none⟩ = some (.int .i64 a0_1) := (blk_cell BK222.out 1).trans rfl; have hcz5_2 : w4.cell? ⟨gb222, 2, none⟩ = some (.string a0_2) := (blk_cell BK222.out 2).trans rfl; have hfz5_0 := blk_frozen BK222.out 0; have hfz5_1 := blk_frozen BK222.out 1; have hfz5_2 := blk_frozen BK222.out 2) | ((with_reducible refine gate_callee (f := 44) rfl ?_); refine goesL_ (some 8) rfl rfl Tryd.func44 (by kernel_rfl) rfl #[.int .i64 a0_1] rfl s10q6 ?_; (with_reducible refine (strconv_Itoa_44.calls a0_1 t223 _ ?side1 A3.out).mono ?_); (case side1 => exact Glob_below HG.out s10q9); rintro e w6 ⟨rfl, hb⟩; refine ⟨_, rfl, ?_⟩; have n0_ := Aside0.mk (blk_below (g := gb222) (o := .cells #[.int .i64 a0_0, .int .i64 a0_1, .string a0_2] 54 (0, 0)) (by (with_reducible repeat (first | refine blk_drewN ?_ _ | refine blk_drew ?_ | refine blk_alloc ?_ _)); exact BK222.out) hb); have n1_ := Aside0.mk (below_step s10q9 hb); clear BK222; clear HB; have BK222 := n0_; have HB := n1_; clear n0_ n1_; (try clear hb); (try clear hb2); (try clear hk); (try clear hi)))
   go_ret
   exact ⟨by first | rfl | (simp [errW_none, errW_some] <;> rfl) | (simp [*, errW_none, errW_some] <;> rfl), by repeat (first | (with_reducible first | exact HB.out | apply below_alloc | apply pw_below_drewN | apply below_drew1 | refine below_set ?_ GE222.out) | exact HB.out)⟩
 rw [if_neg c2] at H
 have c2b0 : (a0_0 == 2) = false := beq_eq_false_iff_ne.mpr c2
 have c2b1 : (a0_0 != 2) = true := bne_iff_ne.mpr c2
 by_cases c7 : a0_1 = 1
 · rw [if_pos c7] at H
   have c7b0 : (a0_1 == 1) = true := beq_iff_eq.mpr c7
   have c7b1 : (a0_1 != 1) = false := bne_eq_false_iff_eq.mpr c7
   clear c7
   obtain rfl := Option.some.inj H
   go_enter Tryd.func43, Tryd.ntmps43
   go_wp2_with (first | ((with_reducible refine gate_dst (N := 1) rfl ?_); refine box_event ?hg (N := 1) ?hd (cs := #[.int .i64 a0_0, .int .i64 a0_1, .string a0_2]) (t := 54) ?hr ?_; (case hd => rfl); (case hg => rfl); (case hr => first | (go_simp; done) | (go_simp; rfl)); intro gb222 hg w8 hbox hb; have n0_ := Aside0.mk (below_step s10q5 hb); have n1_ := Aside0.mk (hbox); have n2_ := Aside0.mk ((s10q16 : w.heap.size ≤ gb222)); have n3_ := Aside0.mk ((s10q16 : w.heap.size ≤ gb222)); clear HB; have HB := n0_; have BK222 := n1_; have GW222 := n2_; have GE222 := n3_; clear n0_ n1_ n2_ n3_; clear hb hbox hg; have hcz9_0 : w8.cell? ⟨gb222, 0, none⟩ = some (.int .i64 a0_0) := (blk_cell BK222.out 0).trans rfl; have hcz9_1 : w8.cell? ⟨gb222, 1, none⟩ = some (.int .i64 a0_1) := (blk_cell BK222.out 1).trans rfl; have hcz9_2 : w8.cell? ⟨gb222, 2, none⟩ = some (.string a0_2) := (blk_cell BK222.out 2).trans rfl; have hfz9_0 := blk_frozen BK222.out 0; have hfz9_1 := blk_frozen BK222.out 1; have hfz9_2 := blk_frozen BK222.out 2))
   go_ret
   exact ⟨by first | rfl | (simp [errW_none, errW_some] <;> rfl) | (simp [*, errW_none, errW_some] <;> rfl), by repeat (first | (with_reducible first | exact HB.out | apply below_alloc | apply pw_below_drewN | apply below_drew1 | refine below_set ?_ GE222.out) | exact HB.out)⟩
 rw [if_neg c7] at H
 have c7b0 : (a0_1 == 1) = false := beq_eq_false_iff_ne.mpr c7
 have c7b1 : (a0_1 != 1) = true := bne_iff_ne.mpr c7
 obtain rfl := Option.some.inj H
 go_enter Tryd.func43, Tryd.ntmps43
 go_wp2_with (first | ((with_reducible refine gate_dst (N := 1) rfl ?_); refine box_event ?hg (N := 1) ?hd (cs := #[.int .i64 a0_0, .int .i64 a0_1, .string a0_2]) (t := 54) ?hr ?_; (case hd => rfl); (case hg => rfl); (case hr => first | (go_simp; done) | (go_simp; rfl)); intro gb222 hg w10 hbox hb; have n0_ := Aside0.mk (below_step s10q5 hb); have n1_ := Aside0.mk (hbox); have n2_ := Aside0.mk ((s10q16 : w.heap.size ≤ gb222)); have n3_ := Aside0.mk ((s10q16 : w.heap.size ≤ gb222)); clear HB; have HB := n0_; have BK222 := n1_; have GW222 := n2_; have GE222 := n3_; clear n0_ n1_ n2_ n3_; clear hb hbox hg; have hcz11_0 : w10.cell? ⟨gb222, 0, none⟩ = some (.int .i64 a0_0) := (blk_cell BK222.out 0).trans rfl; have hcz11_1 : w10.cell? ⟨gb222, 1, none⟩ = some (.int .i64 a0_1) := (blk_cell BK222.out 1).trans rfl; have hcz11_2 : w10.cell? ⟨gb222, 2, none⟩ = some (.string a0_2) := (blk_cell BK222.out 2).trans rfl; have hfz11_0 := blk_frozen BK222.out 0; have hfz11_1 := blk_frozen BK222.out 1; have hfz11_2 := blk_frozen BK222.out 2))
 go_ret
 exact ⟨by first | rfl | (simp [errW_none, errW_some] <;> rfl) | (simp [*, errW_none, errW_some] <;> rfl), by repeat (first | (with_reducible first | exact HB.out | apply below_alloc | apply pw_below_drewN | apply below_drew1 | refine below_set ?_ GE222.out) | exact HB.out)⟩
/-! ### peristyleref1_Shown: function 37 -/
def peristyleref1_Shown.l0 : Nat → ByteArray → Int → Int → Int → ByteArray → Option (ByteArray)
  | 0, _, _, _, _, _ => none
  | k + 1, x3, x4, x225000, x225001, x225002 => if x4 < (x225002.size : Int) then (if 0 ≤ x4 then (if x4 ≤ (wrap64 (x4 + 1)) then (if (wrap64 (x4 + 1)) ≤ (x225002.size : Int) then (if x3.size + (((wrap64 (x4 + 1)) : Int).toNat - (x4 : Int).toNat) ≤ 9223372036854775807 then (if (bt x225002 x4) = 39 then (if x3.size + (((wrap64 (x4 + 1)) : Int).toNat - (x4 : Int).toNat) + 1 ≤ 9223372036854775807 then (peristyleref1_Shown.l0 k ((x3 ++ (x225002.extract (x4 : Int).toNat ((wrap64 (x4 + 1)) : Int).toNat)) ++ (⟨#[39]⟩ : ByteArray)) (wrap64 (x4 + 1)) x225000 x225001 x225002) else (none)) else (peristyleref1_Shown.l0 k (x3 ++ (x225002.extract (x4 : Int).toNat ((wrap64 (x4 + 1)) : Int).toNat)) (wrap64 (x4 + 1)) x225000 x225001 x225002)) else (none)) else (none)) else (none)) else (none)) else (if x3.size + 1 ≤ 9223372036854775807 then (some (x3 ++ (⟨#[39]⟩ : ByteArray))) else (none))
def peristyleref1_Shown.f (k : Nat) (a0_0 : Int) (a0_1 : Int) (a0_2 : ByteArray) : Option (ByteArray) := if a0_0 = 0 then (some (⟨#[110, 117, 108, 108]⟩ : ByteArray)) else (if a0_0 = 3 then (peristyleref1_Shown.l0 k (⟨#[39]⟩ : ByteArray) 0 a0_0 a0_1 a0_2) else ((peristyleref1_word.f a0_0 a0_1 a0_2).bind fun t225 => (some t225)))
theorem peristyleref1_Shown.mono_l : ∀ k, (∀ y0 y1 y2 y3 y4, LeO (peristyleref1_Shown.l0 k y0 y1 y2 y3 y4) (peristyleref1_Shown.l0 (k + 1) y0 y1 y2 y3 y4))
  | 0 => fun _ _ _ _ _ r h => by simp [peristyleref1_Shown.l0] at h
  | k + 1 => by
    have ih0 := peristyleref1_Shown.mono_l k
    · intro y0 y1 y2 y3 y4
      unfold peristyleref1_Shown.l0
      exact s10qm0
theorem peristyleref1_Shown.mono : ∀ a0 a1 a2 k, LeO (peristyleref1_Shown.f k a0 a1 a2) (peristyleref1_Shown.f (k + 1) a0 a1 a2) := by
 intro a0 a1 a2 k
 have ih0 := peristyleref1_Shown.mono_l k
 unfold peristyleref1_Shown.f
 repeat' first
  | (with_reducible exact ih0 _ _ _ _ _)
  | (with_reducible exact LeO.refl _)
  | (with_reducible exact LeO.none _)
  | (with_reducible refine LeO.ite ?_ ?_)
  | (with_reducible refine LeO.bind ?_ (fun _ => ?_))
  | exact ih0 _ _ _ _ _
  | exact LeO.none _
  | refine LeO.ite ?_ ?_
  | refine LeO.bind ?_ (fun _ => ?_)
set_option maxHeartbeats 8000000 in
set_option maxRecDepth 100000 in
theorem peristyleref1_Shown.calls (k : Nat) (a0_0 : Int) (a0_1 : Int) (a0_2 : ByteArray) (r : ByteArray) (w : World) (hG : Glob w) (h : peristyleref1_Shown.f k a0_0 a0_1 a0_2 = some r) :
    Calls Tryd.prog 37 #[.agg #[.int .i64 a0_0, .int .i64 a0_1, .string a0_2]] w fun e w' => e = .returned (.string r) ∧ Below w.heap.size w w' := by
 have hu54 := Tryd.underlying54
 have HG := Aside0.mk hG
 clear hG
 have HB := Aside0.mk (Below.refl w.heap.size w)
 have H : (if a0_0 = 0 then (some (⟨#[110, 117, 108, 108]⟩ : ByteArray)) else (if a0_0 = 3 then (peristyleref1_Shown.l0 k (⟨#[39]⟩ : ByteArray) 0 a0_0 a0_1 a0_2) else ((peristyleref1_word.f a0_0 a0_1 a0_2).bind fun t225 => (some t225)))) = some r := h
 clear h
 by_cases c2 : a0_0 = 0
 · rw [if_pos c2] at H
   have c2b0 : (a0_0 == 0) = true := beq_iff_eq.mpr c2
   have c2b1 : (a0_0 != 0) = false := bne_eq_false_iff_eq.mpr c2
   clear c2
   obtain rfl := Option.some.inj H
   go_enter Tryd.func37, Tryd.ntmps37
   go_wp2_with (first | ((with_reducible refine gate_dst (N := 1) rfl ?_); refine box_event ?hg (N := 1) ?hd (cs := #[.int .i64 a0_0, .int .i64 a0_1, .string a0_2]) (t := 54) ?hr ?_; (case hd => rfl); (case hg => rfl); (case hr => first | (go_simp; done) | (go_simp; rfl)); intro gb224 hg w3 hbox hb; have n0_ := Aside0.mk (below_step s10q5 hb); have n1_ := Aside0.mk (hbox); have n2_ := Aside0.mk ((s10q16 : w.heap.size ≤ gb224)); have n3_ := Aside0.mk ((s10q16 : w.heap.size ≤ gb224)); clear HB; have HB := n0_; have BK224 := n1_; have GW224 := n2_; have GE224 := n3_; clear n0_ n1_ n2_ n3_; clear hb hbox hg; have hcz4_0 : w3.cell? ⟨gb224, 0, none⟩ = some (.int .i64 a0_0) := (blk_cell BK224.out 0).trans rfl; have hcz4_1 : w3.cell? ⟨gb224, 1, none⟩ = some (.int .i64 a0_1) := (blk_cell BK224.out 1).trans rfl; have hcz4_2 : w3.cell? ⟨gb224, 2, none⟩ = some (.string a0_2) := (blk_cell BK224.out 2).trans rfl; have hfz4_0 := blk_frozen BK224.out 0; have hfz4_1 := blk_frozen BK224.out 1; have hfz4_2 := blk_frozen BK224.out 2))
   go_ret
   exact ⟨by first | rfl | (simp [errW_none, errW_some] <;> rfl) | (simp [*, errW_none, errW_some] <;> rfl), by repeat (first | (with_reducible first | exact HB.out | apply below_alloc | apply pw_below_drewN | apply below_drew1 | refine below_set ?_ GE224.out) | exact HB.out)⟩
 rw [if_neg c2] at H
 have c2b0 : (a0_0 == 0) = false := beq_eq_false_iff_ne.mpr c2
 have c2b1 : (a0_0 != 0) = true := bne_iff_ne.mpr c2
 by_cases c5 : a0_0 = 3
 case neg =>
  rw [if_neg c5] at H
  have c5b0 : (a0_0 == 3) = false := beq_eq_false_iff_ne.mpr c5
  have c5b1 : (a0_0 != 3) = true := bne_iff_ne.mpr c5
  replace H := Option.bind_eq_some_iff.mp H
  obtain ⟨t225, A200, H⟩ := H
  replace H : (some t225) = some r := H
  have A20 := Aside0.mk A200
  clear A200
  obtain rfl := Option.some.inj H
  go_enter Tryd.func37, Tryd.ntmps37
  go_wp2_with (first | ((with_reducible refine gate_dst (N := 1) rfl ?_); refine box_event ?hg (N := 1) ?hd (cs := #[.int .i64 a0_0, .int .i64 a0_1, .string a0_2]) (t := 54) ?hr ?_; (case hd => rfl); (case hg => rfl); (case hr => first | (go_simp; done) | (go_simp; rfl)); intro gb224 hg w21 hbox hb; have n0_ := Aside0.mk (below_step s10q5 hb); have n1_ := Aside0.mk (hbox); have n2_ := Aside0.mk ((s10q16 : w.heap.size ≤ gb224)); have n3_ := Aside0.mk ((s10q16 : w.heap.size ≤ gb224)); clear HB; have HB := n0_; have BK224 := n1_; have GW224 := n2_; have GE224 := n3_; clear n0_ n1_ n2_ n3_; clear hb hbox hg; have hcz22_0 : w21.cell? ⟨gb224, 0, none⟩ = some (.int .i64 a0_0) := (blk_cell BK224.out 0).trans rfl; have hcz22_1 : w21.cell? ⟨gb224, 1, none⟩ = some (.int .i64 a0_1) := (blk_cell BK224.out 1).trans rfl; have hcz22_2 : w21.cell? ⟨gb224, 2, none⟩ = some (.string a0_2) := (blk_cell BK224.out 2).trans rfl; have hfz22_0 := blk_frozen BK224.out 0; have hfz22_1 := blk_frozen BK224.out 1; have hfz22_2 := blk_frozen BK224.out 2) | ((with_reducible refine gate_callee (f := 43) rfl ?_); refine goesL_ (some 36) rfl rfl Tryd.func43 (by kernel_rfl) rfl #[.agg #[.int .i64 a0_0, .int .i64 a0_1, .string a0_2]] rfl s10q6 ?_; (with_reducible refine (peristyleref1_word.calls a0_0 a0_1 a0_2 t225 _ ?side1 A20.out).mono ?_); (case side1 => exact Glob_below HG.out s10q10); rintro e w23 ⟨rfl, hb⟩; refine ⟨_, rfl, ?_⟩; have n0_ := Aside0.mk (blk_below (g := gb224) (o := .cells #[.int .i64 a0_0, .int .i64 a0_1, .string a0_2] 54 (0, 0)) (by (with_reducible repeat (first | refine blk_drewN ?_ _ | refine blk_drew ?_ | refine blk_alloc ?_ _)); exact BK224.out) hb); have n1_ := Aside0.mk (below_step s10q10 hb); clear BK224; clear HB; have BK224 := n0_; have HB := n1_; clear n0_ n1_; (try clear hb); (try clear hb2); (try clear hk); (try clear hi)))
  go_ret
  exact ⟨by first | rfl | (simp [errW_none, errW_some] <;> rfl) | (simp [*, errW_none, errW_some] <;> rfl), by repeat (first | (with_reducible first | exact HB.out | apply below_alloc | apply pw_below_drewN | apply below_drew1 | refine below_set ?_ GE224.out) | exact HB.out)⟩
 rw [if_pos c5] at H
 have c5b0 : (a0_0 == 3) = true := beq_iff_eq.mpr c5
 have c5b1 : (a0_0 != 3) = false := bne_eq_false_iff_eq.mpr c5
 clear c5
 have H' := Aside0.mk H
 clear H
 go_enter Tryd.func37, Tryd.ntmps37
 go_wp2_with (first | ((with_reducible refine gate_dst (N := 1) rfl ?_); refine box_event ?hg (N := 1) ?hd (cs := #[.int .i64 a0_0, .int .i64 a0_1, .string a0_2]) (t := 54) ?hr ?_; (case hd => rfl); (case hg => rfl); (case hr => first | (go_simp; done) | (go_simp; rfl)); intro gb224 hg w6 hbox hb; have n0_ := Aside0.mk (below_step s10q5 hb); have n1_ := Aside0.mk (hbox); have n2_ := Aside0.mk ((s10q16 : w.heap.size ≤ gb224)); have n3_ := Aside0.mk ((s10q16 : w.heap.size ≤ gb224)); clear HB; have HB := n0_; have BK224 := n1_; have GW224 := n2_; have GE224 := n3_; clear n0_ n1_ n2_ n3_; clear hb hbox hg; have hcz7_0 : w6.cell? ⟨gb224, 0, none⟩ = some (.int .i64 a0_0) := (blk_cell BK224.out 0).trans rfl; have hcz7_1 : w6.cell? ⟨gb224, 1, none⟩ = some (.int .i64 a0_1) := (blk_cell BK224.out 1).trans rfl; have hcz7_2 : w6.cell? ⟨gb224, 2, none⟩ = some (.string a0_2) := (blk_cell BK224.out 2).trans rfl; have hfz7_0 := blk_frozen BK224.out 0; have hfz7_1 := blk_frozen BK224.out 1; have hfz7_2 := blk_frozen BK224.out 2))
 go_loopg [3, 4] k (fun kq v3 v4 w' => ∃ (x3_1 : ByteArray) (x4_1 : Int), v3 = .string x3_1 ∧ v4 = .int .i64 x4_1 ∧ Aside0 (peristyleref1_Shown.l0 kq x3_1 x4_1 a0_0 a0_1 a0_2 = some r) ∧ Aside0 (kq ≤ k) ∧ Aside0 (w'.heap[gb224]? = some (.cells #[.int .i64 a0_0, .int .i64 a0_1, .string a0_2] 54 (0, 0))) ∧ Aside0 (Below w.heap.size w w'))
 case atStart => exact ⟨((⟨#[39]⟩ : ByteArray)), (0), s10q0, s10q0, H', ⟨Nat.le_refl _⟩, ⟨by (with_reducible repeat (first | refine blk_drewN ?_ _ | refine blk_drew ?_ | refine blk_alloc ?_ _)); exact BK224.out⟩, ⟨by repeat (first | (with_reducible first | exact HB.out | apply below_alloc | apply pw_below_drewN | apply below_drew1 | refine below_set ?_ GE224.out) | exact HB.out)⟩⟩
 clear H'
 try clear c2
 try clear c2b0
 try clear c2b1
 try clear p2
 try clear c3
 try clear c5
 try clear c5b0
 try clear c5b1
 try clear hcz4_0
 try clear hcz4_1
 try clear hcz4_2
 try clear hcz7_0
 try clear hcz7_1
 try clear hcz7_2
 try clear hfz4_0
 try clear hfz4_1
 try clear hfz4_2
 try clear hfz7_0
 try clear hfz7_1
 try clear hfz7_2
 obtain ⟨x3_1, x4_1, rfl, rfl, HA, HK1, BK224, HB⟩ := hrel
 cases gk with
 | zero => exact absurd HA.out (by simp [peristyleref1_Shown.l0])
 | succ k1 => ?_
 have H := HA.out
 clear HA
 simp only [peristyleref1_Shown.l0] at H
 by_cases c8 : x4_1 < (a0_2.size : Int)
 case neg =>
  rw [if_neg c8] at H
  have c8b0 : decide (x4_1 < (a0_2.size : Int)) = false := decide_eq_false c8
  clear c8
  by_cases c18 : x3_1.size + 1 ≤ 9223372036854775807
  case neg =>
   rw [if_neg c18] at H
   exact absurd H (by simp)
  rw [if_pos c18] at H
  have c18b0 := eq_true c18
  have c18b1 : decide (x3_1.size + 1 ≤ 9223372036854775807) = true := decide_eq_true c18
  try have c18b2 : (9223372036854775807 < x3_1.size + 1) = False := eq_false (Nat.not_lt.2 c18)
  obtain rfl := Option.some.inj H
  have hcz19_0 : wr.cell? ⟨gb224, 0, none⟩ = some (.int .i64 a0_0) := (blk_cell BK224.out 0).trans rfl
  have hcz19_1 : wr.cell? ⟨gb224, 1, none⟩ = some (.int .i64 a0_1) := (blk_cell BK224.out 1).trans rfl
  have hcz19_2 : wr.cell? ⟨gb224, 2, none⟩ = some (.string a0_2) := (blk_cell BK224.out 2).trans rfl
  have hfz19_0 := blk_frozen BK224.out 0
  have hfz19_1 := blk_frozen BK224.out 1
  have hfz19_2 := blk_frozen BK224.out 2
  go_wp2
  go_ret
  exact ⟨by first | rfl | (simp [errW_none, errW_some] <;> rfl) | (simp [*, errW_none, errW_some] <;> rfl), by repeat (first | (with_reducible first | exact HB.out | apply below_alloc | apply pw_below_drewN | apply below_drew1 | refine below_set ?_ GE224.out) | exact HB.out)⟩
 rw [if_pos c8] at H
 have c8b0 : decide (x4_1 < (a0_2.size : Int)) = true := decide_eq_true c8
 clear c8
 by_cases c9 : 0 ≤ x4_1
 case neg =>
  rw [if_neg c9] at H
  exact absurd H (by simp)
 rw [if_pos c9] at H
 have c9b0 := eq_true c9
 have c9b1 : decide (0 ≤ x4_1) = true := decide_eq_true c9
 clear c9
 by_cases c10 : x4_1 ≤ (wrap64 (x4_1 + 1))
 case neg =>
  rw [if_neg c10] at H
  exact absurd H (by simp)
 rw [if_pos c10] at H
 have c10b0 := eq_true c10
 have c10b1 : decide (x4_1 ≤ (wrap64 (x4_1 + 1))) = true := decide_eq_true c10
 by_cases c11 : (wrap64 (x4_1 + 1)) ≤ (a0_2.size : Int)
 case neg =>
  rw [if_neg c11] at H
  exact absurd H (by simp)
 rw [if_pos c11] at H
 have c11b0 := eq_true c11
 have c11b1 : decide ((wrap64 (x4_1 + 1)) ≤ (a0_2.size : Int)) = true := decide_eq_true c11
 by_cases c12 : x3_1.size + (((wrap64 (x4_1 + 1)) : Int).toNat - (x4_1 : Int).toNat) ≤ 9223372036854775807
 case neg =>
  rw [if_neg c12] at H
  exact absurd H (by simp)
 rw [if_pos c12] at H
 have c12b0 := eq_true c12
 have c12b1 : decide (x3_1.size + (((wrap64 (x4_1 + 1)) : Int).toNat - (x4_1 : Int).toNat) ≤ 9223372036854775807) = true := decide_eq_true c12
 try have c12b2 : (9223372036854775807 < x3_1.size + (((wrap64 (x4_1 + 1)) : Int).toNat - (x4_1 : Int).toNat)) = False := eq_false (Nat.not_lt.2 c12)
 by_cases c14 : (bt a0_2 x4_1) = 39
 case neg =>
  rw [if_neg c14] at H
  have c14b0 : ((bt a0_2 x4_1) == 39) = false := beq_eq_false_iff_ne.mpr c14
  have c14b1 : ((bt a0_2 x4_1) != 39) = true := bne_iff_ne.mpr c14
  have H' := Aside0.mk H
  clear H
  have hcz17_0 : wr.cell? ⟨gb224, 0, none⟩ = some (.int .i64 a0_0) := (blk_cell BK224.out 0).trans rfl
  have hcz17_1 : wr.cell? ⟨gb224, 1, none⟩ = some (.int .i64 a0_1) := (blk_cell BK224.out 1).trans rfl
  have hcz17_2 : wr.cell? ⟨gb224, 2, none⟩ = some (.string a0_2) := (blk_cell BK224.out 2).trans rfl
  have hfz17_0 := blk_frozen BK224.out 0
  have hfz17_1 := blk_frozen BK224.out 1
  have hfz17_2 := blk_frozen BK224.out 2
  have p13 : 0 ≤ (x4_1 : Int) := of_decide_eq_true s10q1
  have q13 : x4_1 < (a0_2.size : Int) := of_decide_eq_true s10q1
  have hx13 := bt_at a0_2 x4_1
  replace p13 := eq_true p13
  replace q13 := eq_true q13
  go_wp2
  first | go_roundg k1 | (refine Handed.intro k1 ?measure ?_; rotate_left; go_step; (repeat apply Exists.intro); simp only [add_plain]; refine ⟨?rel, rfl⟩)
  case measure => have := HK1.out; omega
  case rel => exact ⟨(x3_1 ++ (a0_2.extract (x4_1 : Int).toNat ((wrap64 (x4_1 + 1)) : Int).toNat)), (wrap64 (x4_1 + 1)), s10q0, s10q0, H', ⟨by have := HK1.out; omega⟩, ⟨by (with_reducible repeat (first | refine blk_drewN ?_ _ | refine blk_drew ?_ | refine blk_alloc ?_ _)); exact BK224.out⟩, ⟨by repeat (first | (with_reducible first | exact HB.out | apply below_alloc | apply pw_below_drewN | apply below_drew1 | refine below_set ?_ GE224.out) | exact HB.out)⟩⟩
 rw [if_pos c14] at H
 have c14b0 : ((bt a0_2 x4_1) == 39) = true := beq_iff_eq.mpr c14
 have c14b1 : ((bt a0_2 x4_1) != 39) = false := bne_eq_false_iff_eq.mpr c14
 clear c14
 by_cases c15 : x3_1.size + (((wrap64 (x4_1 + 1)) : Int).toNat - (x4_1 : Int).toNat) + 1 ≤ 9223372036854775807
 case neg =>
  rw [if_neg c15] at H
  exact absurd H (by simp)
 rw [if_pos c15] at H
 have c15b0 := eq_true c15
 have c15b1 : decide (x3_1.size + (((wrap64 (x4_1 + 1)) : Int).toNat - (x4_1 : Int).toNat) + 1 ≤ 9223372036854775807) = true := decide_eq_true c15
 try have c15b2 : (9223372036854775807 < x3_1.size + (((wrap64 (x4_1 + 1)) : Int).toNat - (x4_1 : Int).toNat) + 1) = False := eq_false (Nat.not_lt.2 c15)
 have H' := Aside0.mk H
 clear H
 have hcz16_0 : wr.cell? ⟨gb224, 0, none⟩ = some (.int .i64 a0_0) := (blk_cell BK224.out 0).trans rfl
 have hcz16_1 : wr.cell? ⟨gb224, 1, none⟩ = some (.int .i64 a0_1) := (blk_cell BK224.out 1).trans rfl
 have hcz16_2 : wr.cell? ⟨gb224, 2, none⟩ = some (.string a0_2) := (blk_cell BK224.out 2).trans rfl
 have hfz16_0 := blk_frozen BK224.out 0
 have hfz16_1 := blk_frozen BK224.out 1
 have hfz16_2 := blk_frozen BK224.out 2
 have p13 : 0 ≤ (x4_1 : Int) := of_decide_eq_true s10q1
 have q13 : x4_1 < (a0_2.size : Int) := of_decide_eq_true s10q1
 have hx13 := bt_at a0_2 x4_1
 replace p13 := eq_true p13
 replace q13 := eq_true q13
 go_wp2
 first | go_roundg k1 | (refine Handed.intro k1 ?measure ?_; rotate_left; go_step; (repeat apply Exists.intro); simp only [add_plain]; refine ⟨?rel, rfl⟩)
 case measure => have := HK1.out; omega
 case rel => exact ⟨((x3_1 ++ (a0_2.extract (x4_1 : Int).toNat ((wrap64 (x4_1 + 1)) : Int).toNat)) ++ (⟨#[39]⟩ : ByteArray)), (wrap64 (x4_1 + 1)), s10q0, s10q0, H', ⟨by have := HK1.out; omega⟩, ⟨by (with_reducible repeat (first | refine blk_drewN ?_ _ | refine blk_drew ?_ | refine blk_alloc ?_ _)); exact BK224.out⟩, ⟨by repeat (first | (with_reducible first | exact HB.out | apply below_alloc | apply pw_below_drewN | apply below_drew1 | refine below_set ?_ GE224.out) | exact HB.out)⟩⟩
/-! ### peristyleref1_TextOf: function 28 -/
def peristyleref1_TextOf.f (k : Nat) (a0_0 : Int) (a0_1 : Int) (a0_2 : ByteArray) : Option (ByteArray × Int) := (peristyleref1_CheckValue.f k a0_0 a0_1 a0_2).bind fun t227 => (if t227 = 0 then ((peristyleref1_Shown.f k a0_0 a0_1 a0_2).bind fun t228 => (some (t228, 0))) else (some ((⟨#[]⟩ : ByteArray), t227)))
theorem peristyleref1_TextOf.mono : ∀ a0 a1 a2 k, LeO (peristyleref1_TextOf.f k a0 a1 a2) (peristyleref1_TextOf.f (k + 1) a0 a1 a2) := by
 intro a0 a1 a2 k
 unfold peristyleref1_TextOf.f
 repeat' first
  | (with_reducible exact peristyleref1_CheckValue.mono _ _ _ _)
  | (with_reducible exact peristyleref1_Shown.mono _ _ _ _)
  | (with_reducible exact LeO.refl _)
  | (with_reducible exact LeO.none _)
  | (with_reducible refine LeO.ite ?_ ?_)
  | (with_reducible refine LeO.bind ?_ (fun _ => ?_))
  | exact peristyleref1_CheckValue.mono _ _ _ _
  | exact peristyleref1_Shown.mono _ _ _ _
  | exact LeO.none _
  | refine LeO.ite ?_ ?_
  | refine LeO.bind ?_ (fun _ => ?_)
set_option maxHeartbeats 8000000 in
set_option maxRecDepth 100000 in
theorem peristyleref1_TextOf.calls (k : Nat) (a0_0 : Int) (a0_1 : Int) (a0_2 : ByteArray) (r1 : ByteArray) (r2 : Int) (w : World) (hG : Glob w) (h : peristyleref1_TextOf.f k a0_0 a0_1 a0_2 = some (r1, r2)) :
    Calls Tryd.prog 28 #[.agg #[.int .i64 a0_0, .int .i64 a0_1, .string a0_2]] w fun e w' => e = .returned (.tuple #[.string r1, .int .i64 r2]) ∧ Below w.heap.size w w' := by
 have hu54 := Tryd.underlying54
 have HG := Aside0.mk hG
 clear hG
 have HB := Aside0.mk (Below.refl w.heap.size w)
 have H : ((peristyleref1_CheckValue.f k a0_0 a0_1 a0_2).bind fun t227 => (if t227 = 0 then ((peristyleref1_Shown.f k a0_0 a0_1 a0_2).bind fun t228 => (some (t228, 0))) else (some ((⟨#[]⟩ : ByteArray), t227)))) = some (r1, r2) := h
 clear h
 replace H := Option.bind_eq_some_iff.mp H
 obtain ⟨t227, A20, H⟩ := H
 replace H : (if t227 = 0 then ((peristyleref1_Shown.f k a0_0 a0_1 a0_2).bind fun t228 => (some (t228, 0))) else (some ((⟨#[]⟩ : ByteArray), t227))) = some (r1, r2) := H
 have A2 := Aside0.mk A20
 clear A20
 by_cases c3 : t227 = 0
 case neg =>
  rw [if_neg c3] at H
  have c3b0 : (t227 == 0) = false := beq_eq_false_iff_ne.mpr c3
  have c3b1 : (t227 != 0) = true := bne_iff_ne.mpr c3
  simp only [Option.some.injEq, Prod.mk.injEq] at H
  obtain ⟨rfl, rfl⟩ := H
  go_enter Tryd.func28, Tryd.ntmps28
  go_wp2_with (first | ((with_reducible refine gate_dst (N := 1) rfl ?_); refine box_event ?hg (N := 1) ?hd (cs := #[.int .i64 a0_0, .int .i64 a0_1, .string a0_2]) (t := 54) ?hr ?_; (case hd => rfl); (case hg => rfl); (case hr => first | (go_simp; done) | (go_simp; rfl)); intro gb226 hg w10 hbox hb; have n0_ := Aside0.mk (below_step s10q5 hb); have n1_ := Aside0.mk (hbox); have n2_ := Aside0.mk ((s10q16 : w.heap.size ≤ gb226)); have n3_ := Aside0.mk ((s10q16 : w.heap.size ≤ gb226)); clear HB; have HB := n0_; have BK226 := n1_; have GW226 := n2_; have GE226 := n3_; clear n0_ n1_ n2_ n3_; clear hb hbox hg; have hcz11_0 : w10.cell? ⟨gb226, 0, none⟩ = some (.int .i64 a0_0) := (blk_cell BK226.out 0).trans rfl; have hcz11_1 : w10.cell? ⟨gb226, 1, none⟩ = some (.int .i64 a0_1) := (blk_cell BK226.out 1).trans rfl; have hcz11_2 : w10.cell? ⟨gb226, 2, none⟩ = some (.string a0_2) := (blk_cell BK226.out 2).trans rfl; have hfz11_0 := blk_frozen BK226.out 0; have hfz11_1 := blk_frozen BK226.out 1; have hfz11_2 := blk_frozen BK226.out 2) | ((with_reducible refine gate_callee (f := 36) rfl ?_); refine goesL_ (some 6) rfl rfl Tryd.func36 (by kernel_rfl) rfl #[.agg #[.int .i64 a0_0, .int .i64 a0_1, .string a0_2]] rfl s10q6 ?_; (with_reducible refine (peristyleref1_CheckValue.calls k a0_0 a0_1 a0_2 t227 _ A2.out).mono ?_); rintro e w12 ⟨rfl, hb⟩; refine ⟨_, rfl, ?_⟩; have n0_ := Aside0.mk (blk_below (g := gb226) (o := .cells #[.int .i64 a0_0, .int .i64 a0_1, .string a0_2] 54 (0, 0)) s10q4 hb); have n1_ := Aside0.mk (below_step s10q11 hb); clear BK226; clear HB; have BK226 := n0_; have HB := n1_; clear n0_ n1_; (try clear hb); (try clear hb2); (try clear hk); (try clear hi)))
  go_ret2
  exact ⟨by first | rfl | (simp [errW_none, errW_some] <;> rfl) | (simp [*, errW_none, errW_some] <;> rfl), by repeat (first | (with_reducible first | exact HB.out | apply below_alloc | apply pw_below_drewN | apply below_drew1 | refine below_set ?_ GE226.out) | exact HB.out)⟩
 rw [if_pos c3] at H
 have c3b0 : (t227 == 0) = true := beq_iff_eq.mpr c3
 have c3b1 : (t227 != 0) = false := bne_eq_false_iff_eq.mpr c3
 clear c3
 replace H := Option.bind_eq_some_iff.mp H
 obtain ⟨t228, A40, H⟩ := H
 replace H : (some (t228, 0)) = some (r1, r2) := H
 have A4 := Aside0.mk A40
 clear A40
 simp only [Option.some.injEq, Prod.mk.injEq] at H
 obtain ⟨rfl, rfl⟩ := H
 go_enter Tryd.func28, Tryd.ntmps28
 go_wp2_with (first | ((with_reducible refine gate_dst (N := 1) rfl ?_); refine box_event ?hg (N := 1) ?hd (cs := #[.int .i64 a0_0, .int .i64 a0_1, .string a0_2]) (t := 54) ?hr ?_; (case hd => rfl); (case hg => rfl); (case hr => first | (go_simp; done) | (go_simp; rfl)); intro gb226 hg w5 hbox hb; have n0_ := Aside0.mk (below_step s10q5 hb); have n1_ := Aside0.mk (hbox); have n2_ := Aside0.mk ((s10q16 : w.heap.size ≤ gb226)); have n3_ := Aside0.mk ((s10q16 : w.heap.size ≤ gb226)); clear HB; have HB := n0_; have BK226 := n1_; have GW226 := n2_; have GE226 := n3_; clear n0_ n1_ n2_ n3_; clear hb hbox hg; have hcz6_0 : w5.cell? ⟨gb226, 0, none⟩ = some (.int .i64 a0_0) := (blk_cell BK226.out 0).trans rfl; have hcz6_1 : w5.cell? ⟨gb226, 1, none⟩ = some (.int .i64 a0_1) := (blk_cell BK226.out 1).trans rfl; have hcz6_2 : w5.cell? ⟨gb226, 2, none⟩ = some (.string a0_2) := (blk_cell BK226.out 2).trans rfl; have hfz6_0 := blk_frozen BK226.out 0; have hfz6_1 := blk_frozen BK226.out 1; have hfz6_2 := blk_frozen BK226.out 2) | ((with_reducible refine gate_callee (f := 36) rfl ?_); refine goesL_ (some 6) rfl rfl Tryd.func36 (by kernel_rfl) rfl #[.agg #[.int .i64 a0_0, .int .i64 a0_1, .string a0_2]] rfl s10q6 ?_; (with_reducible refine (peristyleref1_CheckValue.calls k a0_0 a0_1 a0_2 t227 _ A2.out).mono ?_); rintro e w7 ⟨rfl, hb⟩; refine ⟨_, rfl, ?_⟩; have n0_ := Aside0.mk (blk_below (g := gb226) (o := .cells #[.int .i64 a0_0, .int .i64 a0_1, .string a0_2] 54 (0, 0)) s10q4 hb); have n1_ := Aside0.mk (below_step s10q11 hb); clear BK226; clear HB; have BK226 := n0_; have HB := n1_; clear n0_ n1_; (try clear hb); (try clear hb2); (try clear hk); (try clear hi); have hcz8_0 : w7.cell? ⟨gb226, 0, none⟩ = some (.int .i64 a0_0) := (blk_cell BK226.out 0).trans rfl; have hcz8_1 : w7.cell? ⟨gb226, 1, none⟩ = some (.int .i64 a0_1) := (blk_cell BK226.out 1).trans rfl; have hcz8_2 : w7.cell? ⟨gb226, 2, none⟩ = some (.string a0_2) := (blk_cell BK226.out 2).trans rfl; have hfz8_0 := blk_frozen BK226.out 0; have hfz8_1 := blk_frozen BK226.out 1; have hfz8_2 := blk_frozen BK226.out 2) | ((with_reducible refine gate_callee (f := 37) rfl ?_); refine goesL_ (some 11) rfl rfl Tryd.func37 (by kernel_rfl) rfl #[.agg #[.int .i64 a0_0, .int .i64 a0_1, .string a0_2]] rfl s10q6 ?_; (with_reducible refine (peristyleref1_Shown.calls k a0_0 a0_1 a0_2 t228 _ ?side1 A4.out).mono ?_); (case side1 => exact Glob_below HG.out s10q11); rintro e w9 ⟨rfl, hb⟩; refine ⟨_, rfl, ?_⟩; have n0_ := Aside0.mk (blk_below (g := gb226) (o := .cells #[.int .i64 a0_0, .int .i64 a0_1, .string a0_2] 54 (0, 0)) s10q4 hb); have n1_ := Aside0.mk (below_step s10q11 hb); clear BK226; clear HB; have BK226 := n0_; have HB := n1_; clear n0_ n1_; (try clear hb); (try clear hb2); (try clear hk); (try clear hi)))
 go_ret2
 exact ⟨by first | rfl | (simp [errW_none, errW_some] <;> rfl) | (simp [*, errW_none, errW_some] <;> rfl), by repeat (first | (with_reducible first | exact HB.out | apply below_alloc | apply pw_below_drewN | apply below_drew1 | refine below_set ?_ GE226.out) | exact HB.out)⟩
end Go.Proofs.YtgdbkhbaekeijaaDoor.F
