-- Printed by a program of this session (a patched print).
import Derived.Test.YtgcijejmmhjibaaDoorJx0
namespace Go.Proofs.YtgcijejmmhjibaaDoor.J
open Go.RowKit Go.Proofs.YtgcijejmmhjibaaDoorW.PrintWords Go.Proofs.YtgcijejmmhjibaaDoorW.PrintLast Go.Proofs.YtgcijejmmhjibaaDoorW.PrintMore
attribute [local go_sem] max2_int min2_int max_two min_two max_three min_three max_four min_four   -- for this text's walks alone
set_option linter.unusedVariables false
set_option linter.unusedSimpArgs false

theorem s2z1 {p : Prop} (h : p := by repeat (first | (with_reducible first | exact HB.out | apply below_alloc | apply pw_below_drewN | apply below_drew1 | refine below_set ?_ GE104.out) | exact HB.out)) : p := h
theorem s2qm0 {p : Prop} (h : p := by repeat' first | (with_reducible exact ih0 _ _ _ _ _) | (with_reducible exact ih1 _ _ _ _) | (with_reducible exact ih2 _ _ _ _ _ _ _ _) | (with_reducible exact LeO.refl _) | (with_reducible exact LeO.none _) | (with_reducible refine LeO.ite ?_ ?_) | (with_reducible refine LeO.bind ?_ (fun _ => ?_)) | exact ih0 _ _ _ _ _ | exact ih1 _ _ _ _ | exact ih2 _ _ _ _ _ _ _ _ | exact LeO.none _ | refine LeO.ite ?_ ?_ | refine LeO.bind ?_ (fun _ => ?_)) : p := h
/-! ### kit_In: function 41 -/
def kit_In.f (a0 : Int) (a1 : Int) (a2 : Int) : Option (Bool) := if a1 ≤ a0 then (some (decide (a0 ≤ a2))) else (some false)
set_option maxHeartbeats 8000000 in
set_option maxRecDepth 100000 in
theorem kit_In.calls (a0 : Int) (a1 : Int) (a2 : Int) (r : Bool) (w : World) (h : kit_In.f a0 a1 a2 = some r) :
    Calls Tryd.prog 41 #[.int .i64 a0, .int .i64 a1, .int .i64 a2] w fun e w' => e = .returned (.bool r) ∧ Drawn0 w w' := by
 have H : (if a1 ≤ a0 then (some (decide (a0 ≤ a2))) else (some false)) = some r := h
 clear h
 by_cases c4 : a1 ≤ a0
 · rw [if_pos c4] at H
   have c4b0 : decide (a1 ≤ a0) = true := decide_eq_true c4
   clear c4
   obtain rfl := Option.some.inj H
   go_enter Tryd.func41, Tryd.ntmps41
   go_wp2
   go_ret
   exact ⟨by first | rfl | (simp; done) | (simp [*]; done), by repeat (first | exact Drawn0.refl _ | apply Drawn0.step)⟩
 rw [if_neg c4] at H
 have c4b0 : decide (a1 ≤ a0) = false := decide_eq_false c4
 clear c4
 obtain rfl := Option.some.inj H
 go_enter Tryd.func41, Tryd.ntmps41
 go_wp2
 go_ret
 exact ⟨by first | rfl | (simp; done) | (simp [*]; done), by repeat (first | exact Drawn0.refl _ | apply Drawn0.step)⟩
/-! ### cost_checkRelations: function 40 -/
mutual
def cost_checkRelations.l0 : Nat → List Int → List (S75) → List Int → Int → Int → Option (Int)
  | 0, _, _, _, _, _ => none
  | k + 1, x0, x1, x15, x16, x17 => if x17 < x16 then (if 0 ≤ x17 then (if x17 < (x15.length : Int) then ((kit_In.f (rd x15 x17) 1 2000).bind fun t102 => (if t102 = true then (cost_checkRelations.l0 k x0 x1 x15 x16 (wrap64 (x17 + 1))) else (some 1))) else (none)) else (none)) else (if (x1.length : Int) > 20 then (some 2) else (cost_checkRelations.l1 k x0 x1 (x1.length : Int) 0))
def cost_checkRelations.l1 : Nat → List Int → List (S75) → Int → Int → Option (Int)
  | 0, _, _, _, _ => none
  | k + 1, x0, x28, x29, x30 => if x30 < x29 then (if 0 ≤ x30 then (if x30 < (x28.length : Int) then ((kit_In.f ((rd_T75 x28 x30).f0) 0 (wrap64 ((x0.length : Int) - 1))).bind fun t105 => (if t105 = true then ((kit_In.f ((rd_T75 x28 x30).f1) 0 (wrap64 ((x0.length : Int) - 1))).bind fun t106 => (if t106 = true then ((kit_In.f ((rd_T75 x28 x30).f2) 1 1000000).bind fun t107 => (cost_checkRelations.j2 k x0 x28 x29 x30 (!t107) ((rd_T75 x28 x30).f0) ((rd_T75 x28 x30).f1) ((rd_T75 x28 x30).f2))) else (cost_checkRelations.j2 k x0 x28 x29 x30 true ((rd_T75 x28 x30).f0) ((rd_T75 x28 x30).f1) ((rd_T75 x28 x30).f2)))) else (cost_checkRelations.j2 k x0 x28 x29 x30 true ((rd_T75 x28 x30).f0) ((rd_T75 x28 x30).f1) ((rd_T75 x28 x30).f2)))) else (none)) else (none)) else (some 0)
def cost_checkRelations.j2 : Nat → List Int → List (S75) → Int → Int → Bool → Int → Int → Int → Option (Int)
  | 0, _, _, _, _, _, _, _, _ => none
  | k + 1, x0, x28, x29, x30, x55, x105000, x105001, x105002 => if x55 = true then (some 1) else (if x105000 = x105001 then (some 7) else (cost_checkRelations.l1 k x0 x28 x29 (wrap64 (x30 + 1))))
end
def cost_checkRelations.f (k : Nat) (l0 : List Int) (l1 : List (S75)) : Option (Int) := if (l0.length : Int) = 0 then (some 6) else (if (l0.length : Int) > 8 then (some 2) else (cost_checkRelations.l0 k l0 l1 l0 (l0.length : Int) 0))
theorem cost_checkRelations.mono_l : ∀ k, (∀ y0 y1 y2 y3 y4, LeO (cost_checkRelations.l0 k y0 y1 y2 y3 y4) (cost_checkRelations.l0 (k + 1) y0 y1 y2 y3 y4)) ∧ (∀ y0 y1 y2 y3, LeO (cost_checkRelations.l1 k y0 y1 y2 y3) (cost_checkRelations.l1 (k + 1) y0 y1 y2 y3)) ∧ (∀ y0 y1 y2 y3 y4 y5 y6 y7, LeO (cost_checkRelations.j2 k y0 y1 y2 y3 y4 y5 y6 y7) (cost_checkRelations.j2 (k + 1) y0 y1 y2 y3 y4 y5 y6 y7))
  | 0 => ⟨fun _ _ _ _ _ r h => by simp [cost_checkRelations.l0] at h, fun _ _ _ _ r h => by simp [cost_checkRelations.l1] at h, fun _ _ _ _ _ _ _ _ r h => by simp [cost_checkRelations.j2] at h⟩
  | k + 1 => by
    obtain ⟨ih0, ih1, ih2⟩ := cost_checkRelations.mono_l k
    refine ⟨?_, ?_, ?_⟩
    · intro y0 y1 y2 y3 y4
      unfold cost_checkRelations.l0
      exact s2qm0
    · intro y0 y1 y2 y3
      unfold cost_checkRelations.l1
      exact s2qm0
    · intro y0 y1 y2 y3 y4 y5 y6 y7
      unfold cost_checkRelations.j2
      exact s2qm0
theorem cost_checkRelations.mono : ∀ a0 a1 k, LeO (cost_checkRelations.f k a0 a1) (cost_checkRelations.f (k + 1) a0 a1) := by
 intro a0 a1 k
 obtain ⟨ih0, ih1, ih2⟩ := cost_checkRelations.mono_l k
 unfold cost_checkRelations.f
 repeat' first
  | (with_reducible exact ih0 _ _ _ _ _)
  | (with_reducible exact ih1 _ _ _ _)
  | (with_reducible exact ih2 _ _ _ _ _ _ _ _)
  | (with_reducible exact LeO.refl _)
  | (with_reducible exact LeO.none _)
  | (with_reducible refine LeO.ite ?_ ?_)
  | (with_reducible refine LeO.bind ?_ (fun _ => ?_))
  | exact ih0 _ _ _ _ _
  | exact ih1 _ _ _ _
  | exact ih2 _ _ _ _ _ _ _ _
  | exact LeO.none _
  | refine LeO.ite ?_ ?_
  | refine LeO.bind ?_ (fun _ => ?_)
set_option maxHeartbeats 8000000 in
set_option maxRecDepth 100000 in
theorem cost_checkRelations.calls (k : Nat) (A0 : Option Addr) (c0 : Nat) (l0 : List Int) (A1 : Option Addr) (c1 : Nat) (l1 : List (S75)) (r : Int) (w : World) (hr0 : Kd.C (Kd.int .i64) w A0 l0.length l0) (hc0 : l0.length ≤ c0) (hr1 : Kd.C k75 w A1 l1.length l1) (hc1 : l1.length ≤ c1) (h : cost_checkRelations.f k l0 l1 = some r) :
    Calls Tryd.prog 40 #[.slice A0 l0.length c0, .slice A1 l1.length c1] w fun e w' => e = .returned (.int .i64 r) ∧ Below w.heap.size w w' := by
 have hu75 := Tryd.underlying75
 have HR0 := aM hr0
 have HC0 := aM hc0
 clear hr0 hc0
 have HR1 := aM hr1
 have HC1 := aM hc1
 clear hr1 hc1
 have HB := aM (Below.refl w.heap.size w)
 have H : (if (l0.length : Int) = 0 then (some 6) else (if (l0.length : Int) > 8 then (some 2) else (cost_checkRelations.l0 k l0 l1 l0 (l0.length : Int) 0))) = some r := h
 clear h
 by_cases c3 : (l0.length : Int) = 0
 · rw [if_pos c3] at H
   have c3b0 : ((l0.length : Int) == 0) = true := beq_iff_eq.mpr c3
   have c3b1 : ((l0.length : Int) != 0) = false := bne_eq_false_iff_eq.mpr c3
   clear c3
   obtain rfl := Option.some.inj H
   go_enter Tryd.func40, Tryd.ntmps40
   go_wp2
   go_ret
   exact ⟨eqR, q1_⟩
 rw [if_neg c3] at H
 have c3b0 : ((l0.length : Int) == 0) = false := beq_eq_false_iff_ne.mpr c3
 have c3b1 : ((l0.length : Int) != 0) = true := bne_iff_ne.mpr c3
 have c3b2 : ¬ (l0 = []) := fun h_ => c3 (by rw [h_]; rfl)
 by_cases c4 : (l0.length : Int) > 8
 · rw [if_pos c4] at H
   have c4b0 : decide (8 < (l0.length : Int)) = true := decide_eq_true c4
   have c4b1 : decide (8 < l0.length) = true := decide_eq_true (by omega)
   clear c4
   obtain rfl := Option.some.inj H
   go_enter Tryd.func40, Tryd.ntmps40
   go_wp2
   go_ret
   exact ⟨eqR, q1_⟩
 rw [if_neg c4] at H
 have c4b0 : decide (8 < (l0.length : Int)) = false := decide_eq_false c4
 have c4b1 : decide (8 < l0.length) = false := decide_eq_false (by omega)
 clear c4
 have H' := aM H
 clear H
 go_enter Tryd.func40, Tryd.ntmps40
 go_wp2
 go_loopg [17] k (fun kq v17 w' => ∃ (x17_1 : Int), v17 = .int .i64 x17_1 ∧ Aside0 (cost_checkRelations.l0 kq l0 l1 l0 (l0.length : Int) x17_1 = some r) ∧ Aside0 (kq ≤ k) ∧ Aside0 (Below w.heap.size w w'))
 case atStart => exact ⟨(0), q4_, H', ⟨Nat.le_refl _⟩, ⟨q1_⟩⟩
 clear H'
 try clear c1
 try clear p2
 try clear c3
 try clear c3b0
 try clear c3b1
 try clear c3b2
 try clear c4
 try clear c4b0
 try clear c4b1
 obtain ⟨x17_1, rfl, HA, HK1, HB⟩ := hrel
 cases gk with
 | zero => exact absurd HA.out (by simp [cost_checkRelations.l0])
 | succ k1 => ?_
 have H := HA.out
 clear HA
 simp only [cost_checkRelations.l0] at H
 by_cases c5 : x17_1 < (l0.length : Int)
 · rw [if_pos c5] at H
   have c5b0 : decide (x17_1 < (l0.length : Int)) = true := decide_eq_true c5
   clear c5
   by_cases c6 : 0 ≤ x17_1
   case neg =>
    rw [if_neg c6] at H
    exact absurd H (by simp)
   rw [if_pos c6] at H
   have c6b0 : decide (0 ≤ x17_1) = true := decide_eq_true c6
   clear c6
   by_cases c7 : x17_1 < (l0.length : Int)
   case neg =>
    rw [if_neg c7] at H
    exact absurd H (by simp)
   rw [if_pos c7] at H
   have c7b0 : decide (x17_1 < (l0.length : Int)) = true := decide_eq_true c7
   clear c7
   replace H := Option.bind_eq_some_iff.mp H
   obtain ⟨t102, A80, H⟩ := H
   replace H : (if t102 = true then (cost_checkRelations.l0 k1 l0 l1 l0 (l0.length : Int) (wrap64 (x17_1 + 1))) else (some 1)) = some r := H
   have A8 := aM A80
   clear A80
   by_cases c9 : t102 = true
   case neg =>
    replace c9 := Bool.eq_false_iff.mpr c9
    subst c9
    have H1 : (some 1) = some r := q6_
    clear H
    have H := H1
    clear H1
    obtain rfl := Option.some.inj H
    have p101 : 0 ≤ (x17_1 : Int) := of_decide_eq_true q3_
    have q101 : x17_1 < (l0.length : Int) := of_decide_eq_true q3_
    obtain ⟨ad101, e101, hx101_0⟩ := Kd.at_int HR0.out x17_1 p101 q101
    cases e101
    replace hx101_0 := up_ HB.out hx101_0
    replace p101 := eq_true p101
    replace q101 := eq_true q101
    go_wp2_with (first | ((with_reducible refine gate_callee (f := 41) rfl ?_); refine goesL_ (some 22) rfl rfl Tryd.func41 (by kernel_rfl) rfl #[.int .i64 (rd l0 x17_1), .int .i64 1, .int .i64 2000] rfl q2_ ?_; (with_reducible refine (kit_In.calls (rd l0 x17_1) 1 2000 false _ A8.out).mono ?_); rintro e w' ⟨rfl, ⟨nd, rfl⟩⟩; refine ⟨_, rfl, ?_⟩))
    go_ret
    exact ⟨eqR, q1_⟩
   subst c9
   have H1 : (cost_checkRelations.l0 k1 l0 l1 l0 (l0.length : Int) (wrap64 (x17_1 + 1))) = some r := q7_
   clear H
   have H := H1
   clear H1
   have H' := aM H
   clear H
   have p101 : 0 ≤ (x17_1 : Int) := of_decide_eq_true q3_
   have q101 : x17_1 < (l0.length : Int) := of_decide_eq_true q3_
   obtain ⟨ad101, e101, hx101_0⟩ := Kd.at_int HR0.out x17_1 p101 q101
   cases e101
   replace hx101_0 := up_ HB.out hx101_0
   replace p101 := eq_true p101
   replace q101 := eq_true q101
   go_wp2_with (first | ((with_reducible refine gate_callee (f := 41) rfl ?_); refine goesL_ (some 22) rfl rfl Tryd.func41 (by kernel_rfl) rfl #[.int .i64 (rd l0 x17_1), .int .i64 1, .int .i64 2000] rfl q2_ ?_; (with_reducible refine (kit_In.calls (rd l0 x17_1) 1 2000 true _ A8.out).mono ?_); rintro e w' ⟨rfl, ⟨nd, rfl⟩⟩; refine ⟨_, rfl, ?_⟩))
   first | go_roundg k1 | (refine Handed.intro k1 ?measure ?_; rotate_left; go_step; (repeat apply Exists.intro); simp only [add_plain]; refine ⟨?rel, rfl⟩)
   case measure => have := HK1.out; omega
   case rel => exact ⟨(wrap64 (x17_1 + 1)), q4_, H', ⟨by have := HK1.out; omega⟩, ⟨q1_⟩⟩
 rw [if_neg c5] at H
 have c5b0 : decide (x17_1 < (l0.length : Int)) = false := decide_eq_false c5
 clear c5
 by_cases c10 : (l1.length : Int) > 20
 · rw [if_pos c10] at H
   have c10b0 : decide (20 < (l1.length : Int)) = true := decide_eq_true c10
   have c10b1 : decide (20 < l1.length) = true := decide_eq_true (by omega)
   clear c10
   obtain rfl := Option.some.inj H
   go_wp2
   go_ret
   exact ⟨eqR, q1_⟩
 rw [if_neg c10] at H
 have c10b0 : decide (20 < (l1.length : Int)) = false := decide_eq_false c10
 have c10b1 : decide (20 < l1.length) = false := decide_eq_false (by omega)
 clear c10
 have H' := aM H
 clear H
 go_wp2
 go_loopg [30] k1 (fun kq v30 w' => ∃ (x30_2 : Int), v30 = .int .i64 x30_2 ∧ Aside0 (cost_checkRelations.l1 kq l0 l1 (l1.length : Int) x30_2 = some r) ∧ Aside0 (kq ≤ k1) ∧ Aside0 (Below w.heap.size w w'))
 case atStart => exact ⟨(0), q4_, H', ⟨Nat.le_refl _⟩, ⟨q1_⟩⟩
 clear H'
 try clear c1
 try clear p1
 try clear q1
 try clear hx1
 try clear p2
 try clear c3
 try clear c3b0
 try clear c3b1
 try clear c3b2
 try clear c4
 try clear c4b0
 try clear c4b1
 try clear c5
 try clear c5b0
 try clear c6
 try clear c6b0
 try clear p6
 try clear c7
 try clear c7b0
 try clear c9
 try clear c10
 try clear c10b0
 try clear c10b1
 try clear p10
 try clear q10
 try clear hx10
 try clear hx101_0
 try clear p101
 try clear p2
 try clear q101
 obtain ⟨x30_2, rfl, HA, HK2, HB⟩ := hrel
 cases gk with
 | zero => exact absurd HA.out (by simp [cost_checkRelations.l1])
 | succ k2 => ?_
 have H := HA.out
 clear HA
 simp only [cost_checkRelations.l1] at H
 by_cases c11 : x30_2 < (l1.length : Int)
 case neg =>
  rw [if_neg c11] at H
  have c11b0 : decide (x30_2 < (l1.length : Int)) = false := decide_eq_false c11
  clear c11
  obtain rfl := Option.some.inj H
  go_wp2
  go_ret
  exact ⟨eqR, q1_⟩
 rw [if_pos c11] at H
 have c11b0 : decide (x30_2 < (l1.length : Int)) = true := decide_eq_true c11
 clear c11
 by_cases c12 : 0 ≤ x30_2
 case neg =>
  rw [if_neg c12] at H
  exact absurd H (by simp)
 rw [if_pos c12] at H
 have c12b0 : decide (0 ≤ x30_2) = true := decide_eq_true c12
 clear c12
 by_cases c13 : x30_2 < (l1.length : Int)
 case neg =>
  rw [if_neg c13] at H
  exact absurd H (by simp)
 rw [if_pos c13] at H
 have c13b0 : decide (x30_2 < (l1.length : Int)) = true := decide_eq_true c13
 clear c13
 have HC14 := aM H
 clear H
 have p103 : 0 ≤ (x30_2 : Int) := of_decide_eq_true q3_
 have q103 : x30_2 < (l1.length : Int) := of_decide_eq_true q3_
 obtain ⟨ad103, e103, hx103_0, hx103_1, hx103_2⟩ := at_T75 HR1.out x30_2 p103 q103
 cases e103
 replace hx103_0 := up_ HB.out hx103_0
 replace hx103_1 := up_ HB.out hx103_1
 replace hx103_2 := up_ HB.out hx103_2
 replace p103 := eq_true p103
 replace q103 := eq_true q103
 go_upto_region 16 with (first | ((with_reducible refine gate_dst (N := 8) rfl ?_); (try (refine gate_guard (by rfl) ?_; dsimp only)); refine box_event ?hg (N := 8) ?hd (cs := #[.int .i64 0, .int .i64 0, .int .i64 0]) (t := 75) ?hr ?_; (case hd => rfl); (case hg => rfl); (case hr => first | (go_simp; done) | (go_simp; rfl)); intro gb104 hg w15 hbox hb; have BK104 := aM hbox; have GW104 := aM (((by rw [hg]; exact (below_size q1_)) : w.heap.size ≤ gb104)); have GE104 := GW104; replace HB := aM (below_step q1_ hb); clear hb hbox hg; obtain ⟨hcz16_0, hcz16_1, hcz16_2, hfz16_0, hfz16_1, hfz16_2⟩ := cells3 BK104.out))
 (try simp only [Act.put, sqa, sqb, sqc])
 go_cut [55] (fun v55 wc => ∃ (kq : Nat) (x55_13 : Bool), v55 = .bool x55_13 ∧ Aside0 (cost_checkRelations.j2 kq l0 l1 (l1.length : Int) x30_2 x55_13 ((rd_T75 l1 x30_2).f0) ((rd_T75 l1 x30_2).f1) ((rd_T75 l1 x30_2).f2) = some r) ∧ Aside0 (kq ≤ k2) ∧ Aside0 (wc.heap[gb104]? = some (.cells #[.int .i64 ((rd_T75 l1 x30_2).f0), .int .i64 ((rd_T75 l1 x30_2).f1), .int .i64 ((rd_T75 l1 x30_2).f2)] 75 (0, 0))) ∧ Aside0 (Below w.heap.size w wc))
 case first =>
  have H := HC14.out
  clear HC14
  replace H := Option.bind_eq_some_iff.mp H
  obtain ⟨t105, A170, H⟩ := H
  replace H : (if t105 = true then ((kit_In.f ((rd_T75 l1 x30_2).f1) 0 (wrap64 ((l0.length : Int) - 1))).bind fun t106 => (if t106 = true then ((kit_In.f ((rd_T75 l1 x30_2).f2) 1 1000000).bind fun t107 => (cost_checkRelations.j2 k2 l0 l1 (l1.length : Int) x30_2 (!t107) ((rd_T75 l1 x30_2).f0) ((rd_T75 l1 x30_2).f1) ((rd_T75 l1 x30_2).f2))) else (cost_checkRelations.j2 k2 l0 l1 (l1.length : Int) x30_2 true ((rd_T75 l1 x30_2).f0) ((rd_T75 l1 x30_2).f1) ((rd_T75 l1 x30_2).f2)))) else (cost_checkRelations.j2 k2 l0 l1 (l1.length : Int) x30_2 true ((rd_T75 l1 x30_2).f0) ((rd_T75 l1 x30_2).f1) ((rd_T75 l1 x30_2).f2))) = some r := H
  have A17 := aM A170
  clear A170
  by_cases c18 : t105 = true
  case neg =>
   replace c18 := Bool.eq_false_iff.mpr c18
   subst c18
   have H1 : (cost_checkRelations.j2 k2 l0 l1 (l1.length : Int) x30_2 true ((rd_T75 l1 x30_2).f0) ((rd_T75 l1 x30_2).f1) ((rd_T75 l1 x30_2).f2)) = some r := q6_
   clear H
   have H := H1
   clear H1
   have H' := aM H
   clear H
   obtain ⟨hcz24_0, hcz24_1, hcz24_2, hfz24_0, hfz24_1, hfz24_2⟩ := cells3 BK104.out
   go_wp2_with (first | ((with_reducible refine gate_callee (f := 41) rfl ?_); refine goesL_ (some 39) rfl rfl Tryd.func41 (by kernel_rfl) rfl #[.int .i64 ((rd_T75 l1 x30_2).f0), .int .i64 0, .int .i64 (wrap64 ((l0.length : Int) - 1))] rfl q2_ ?_; (with_reducible refine (kit_In.calls ((rd_T75 l1 x30_2).f0) 0 (wrap64 ((l0.length : Int) - 1)) false _ A17.out).mono ?_); rintro e w' ⟨rfl, ⟨nd, rfl⟩⟩; refine ⟨_, rfl, ?_⟩))
   go_meet
   case rel => exact ⟨_, (true), q4_, H', ⟨by have := HK1.out; have := HK2.out; first | omega | exact Nat.le_refl _⟩, ⟨by (with_reducible repeat (first | refine blk_drewN ?_ _ | refine blk_drew ?_ | refine blk_alloc ?_ _)); refine blk_put (cs := #[.int .i64 ((rd_T75 l1 x30_2).f0), .int .i64 ((rd_T75 l1 x30_2).f1), .int .i64 0]) ?_ 2 _ rfl; (with_reducible repeat (first | refine blk_drewN ?_ _ | refine blk_drew ?_ | refine blk_alloc ?_ _)); refine blk_put (cs := #[.int .i64 ((rd_T75 l1 x30_2).f0), .int .i64 0, .int .i64 0]) ?_ 1 _ rfl; (with_reducible repeat (first | refine blk_drewN ?_ _ | refine blk_drew ?_ | refine blk_alloc ?_ _)); refine blk_put (cs := #[.int .i64 0, .int .i64 0, .int .i64 0]) ?_ 0 _ rfl; (with_reducible repeat (first | refine blk_drewN ?_ _ | refine blk_drew ?_ | refine blk_alloc ?_ _)); exact BK104.out⟩, ⟨s2z1⟩⟩
  subst c18
  have H1 : ((kit_In.f ((rd_T75 l1 x30_2).f1) 0 (wrap64 ((l0.length : Int) - 1))).bind fun t106 => (if t106 = true then ((kit_In.f ((rd_T75 l1 x30_2).f2) 1 1000000).bind fun t107 => (cost_checkRelations.j2 k2 l0 l1 (l1.length : Int) x30_2 (!t107) ((rd_T75 l1 x30_2).f0) ((rd_T75 l1 x30_2).f1) ((rd_T75 l1 x30_2).f2))) else (cost_checkRelations.j2 k2 l0 l1 (l1.length : Int) x30_2 true ((rd_T75 l1 x30_2).f0) ((rd_T75 l1 x30_2).f1) ((rd_T75 l1 x30_2).f2)))) = some r := q7_
  clear H
  have H := H1
  clear H1
  replace H := Option.bind_eq_some_iff.mp H
  obtain ⟨t106, A190, H⟩ := H
  replace H : (if t106 = true then ((kit_In.f ((rd_T75 l1 x30_2).f2) 1 1000000).bind fun t107 => (cost_checkRelations.j2 k2 l0 l1 (l1.length : Int) x30_2 (!t107) ((rd_T75 l1 x30_2).f0) ((rd_T75 l1 x30_2).f1) ((rd_T75 l1 x30_2).f2))) else (cost_checkRelations.j2 k2 l0 l1 (l1.length : Int) x30_2 true ((rd_T75 l1 x30_2).f0) ((rd_T75 l1 x30_2).f1) ((rd_T75 l1 x30_2).f2))) = some r := H
  have A19 := aM A190
  clear A190
  by_cases c20 : t106 = true
  case neg =>
   replace c20 := Bool.eq_false_iff.mpr c20
   subst c20
   have H1 : (cost_checkRelations.j2 k2 l0 l1 (l1.length : Int) x30_2 true ((rd_T75 l1 x30_2).f0) ((rd_T75 l1 x30_2).f1) ((rd_T75 l1 x30_2).f2)) = some r := q6_
   clear H
   have H := H1
   clear H1
   have H' := aM H
   clear H
   obtain ⟨hcz23_0, hcz23_1, hcz23_2, hfz23_0, hfz23_1, hfz23_2⟩ := cells3 BK104.out
   go_wp2_with (first | ((with_reducible refine gate_callee (f := 41) rfl ?_); refine goesL_ (some 39) rfl rfl Tryd.func41 (by kernel_rfl) rfl #[.int .i64 ((rd_T75 l1 x30_2).f0), .int .i64 0, .int .i64 (wrap64 ((l0.length : Int) - 1))] rfl q2_ ?_; (with_reducible refine (kit_In.calls ((rd_T75 l1 x30_2).f0) 0 (wrap64 ((l0.length : Int) - 1)) true _ A17.out).mono ?_); rintro e w' ⟨rfl, ⟨nd, rfl⟩⟩; refine ⟨_, rfl, ?_⟩) | (go_at_call 41; (with_reducible refine (kit_In.calls ((rd_T75 l1 x30_2).f1) 0 (wrap64 ((l0.length : Int) - 1)) false _ A19.out).mono ?_); rintro e w' ⟨rfl, ⟨nd, rfl⟩⟩))
   go_meet
   case rel => exact ⟨_, (true), q4_, H', ⟨by have := HK1.out; have := HK2.out; first | omega | exact Nat.le_refl _⟩, ⟨by (with_reducible repeat (first | refine blk_drewN ?_ _ | refine blk_drew ?_ | refine blk_alloc ?_ _)); refine blk_put (cs := #[.int .i64 ((rd_T75 l1 x30_2).f0), .int .i64 ((rd_T75 l1 x30_2).f1), .int .i64 0]) ?_ 2 _ rfl; (with_reducible repeat (first | refine blk_drewN ?_ _ | refine blk_drew ?_ | refine blk_alloc ?_ _)); refine blk_put (cs := #[.int .i64 ((rd_T75 l1 x30_2).f0), .int .i64 0, .int .i64 0]) ?_ 1 _ rfl; (with_reducible repeat (first | refine blk_drewN ?_ _ | refine blk_drew ?_ | refine blk_alloc ?_ _)); refine blk_put (cs := #[.int .i64 0, .int .i64 0, .int .i64 0]) ?_ 0 _ rfl; (with_reducible repeat (first | refine blk_drewN ?_ _ | refine blk_drew ?_ | refine blk_alloc ?_ _)); exact BK104.out⟩, ⟨s2z1⟩⟩
  subst c20
  have H1 : ((kit_In.f ((rd_T75 l1 x30_2).f2) 1 1000000).bind fun t107 => (cost_checkRelations.j2 k2 l0 l1 (l1.length : Int) x30_2 (!t107) ((rd_T75 l1 x30_2).f0) ((rd_T75 l1 x30_2).f1) ((rd_T75 l1 x30_2).f2))) = some r := q7_
  clear H
  have H := H1
  clear H1
  replace H := Option.bind_eq_some_iff.mp H
  obtain ⟨t107, A210, H⟩ := H
  replace H : (cost_checkRelations.j2 k2 l0 l1 (l1.length : Int) x30_2 (!t107) ((rd_T75 l1 x30_2).f0) ((rd_T75 l1 x30_2).f1) ((rd_T75 l1 x30_2).f2)) = some r := H
  have A21 := aM A210
  clear A210
  have H' := aM H
  clear H
  obtain ⟨hcz22_0, hcz22_1, hcz22_2, hfz22_0, hfz22_1, hfz22_2⟩ := cells3 BK104.out
  go_wp2_with (first | ((with_reducible refine gate_callee (f := 41) rfl ?_); refine goesL_ (some 39) rfl rfl Tryd.func41 (by kernel_rfl) rfl #[.int .i64 ((rd_T75 l1 x30_2).f0), .int .i64 0, .int .i64 (wrap64 ((l0.length : Int) - 1))] rfl q2_ ?_; (with_reducible refine (kit_In.calls ((rd_T75 l1 x30_2).f0) 0 (wrap64 ((l0.length : Int) - 1)) true _ A17.out).mono ?_); rintro e w' ⟨rfl, ⟨nd, rfl⟩⟩; refine ⟨_, rfl, ?_⟩) | (go_at_call 41; (with_reducible refine (kit_In.calls ((rd_T75 l1 x30_2).f1) 0 (wrap64 ((l0.length : Int) - 1)) true _ A19.out).mono ?_); rintro e w' ⟨rfl, ⟨nd, rfl⟩⟩) | (go_at_call 41; (with_reducible refine (kit_In.calls ((rd_T75 l1 x30_2).f2) 1 1000000 t107 _ A21.out).mono ?_); rintro e w' ⟨rfl, ⟨nd, rfl⟩⟩))
  go_meet
  case rel => exact ⟨_, (!t107), q4_, H', ⟨by have := HK1.out; have := HK2.out; first | omega | exact Nat.le_refl _⟩, ⟨by (with_reducible repeat (first | refine blk_drewN ?_ _ | refine blk_drew ?_ | refine blk_alloc ?_ _)); refine blk_put (cs := #[.int .i64 ((rd_T75 l1 x30_2).f0), .int .i64 ((rd_T75 l1 x30_2).f1), .int .i64 0]) ?_ 2 _ rfl; (with_reducible repeat (first | refine blk_drewN ?_ _ | refine blk_drew ?_ | refine blk_alloc ?_ _)); refine blk_put (cs := #[.int .i64 ((rd_T75 l1 x30_2).f0), .int .i64 0, .int .i64 0]) ?_ 1 _ rfl; (with_reducible repeat (first | refine blk_drewN ?_ _ | refine blk_drew ?_ | refine blk_alloc ?_ _)); refine blk_put (cs := #[.int .i64 0, .int .i64 0, .int .i64 0]) ?_ 0 _ rfl; (with_reducible repeat (first | refine blk_drewN ?_ _ | refine blk_drew ?_ | refine blk_alloc ?_ _)); exact BK104.out⟩, ⟨s2z1⟩⟩
 clear HC14
 try clear c1
 try clear p1
 try clear q1
 try clear hx1
 try clear c2
 try clear p2
 try clear c3
 try clear c3b0
 try clear c3b1
 try clear c3b2
 try clear c4
 try clear c4b0
 try clear c4b1
 try clear c5
 try clear c5b0
 try clear c6
 try clear c6b0
 try clear p6
 try clear c7
 try clear c7b0
 try clear c9
 try clear c10
 try clear c10b0
 try clear c10b1
 try clear p10
 try clear q10
 try clear hx10
 try clear c11
 try clear c11b0
 try clear c12
 try clear c12b0
 try clear c13
 try clear c13b0
 try clear c18
 try clear c20
 try clear hcz16_0 hcz16_1 hcz16_2
 try clear hcz22_0 hcz22_1 hcz22_2
 try clear hcz23_0 hcz23_1 hcz23_2
 try clear hcz24_0 hcz24_1 hcz24_2
 try clear hfz16_0 hfz16_1 hfz16_2
 try clear hfz22_0 hfz22_1 hfz22_2
 try clear hfz23_0 hfz23_1 hfz23_2
 try clear hfz24_0 hfz24_1 hfz24_2
 try clear hx101_0
 try clear hx103_0
 try clear hx103_1
 try clear hx103_2
 try clear p1
 try clear p10
 try clear p101
 try clear p103
 try clear p2
 try clear p6
 try clear q1
 try clear q10
 try clear q101
 try clear q103
 obtain ⟨kq, x55_13, rfl, HA, HJ13, BK104, HB⟩ := hcut
 cases kq with
 | zero => exact absurd HA.out (by simp [cost_checkRelations.j2])
 | succ kj13 => ?_
 have H := HA.out
 clear HA
 simp only [cost_checkRelations.j2] at H
 by_cases c25 : x55_13 = true
 · subst c25
   have H1 : (some 1) = some r := q7_
   clear H
   have H := H1
   clear H1
   obtain rfl := Option.some.inj H
   go_wp2
   go_ret
   exact ⟨eqR, s2z1⟩
 replace c25 := Bool.eq_false_iff.mpr c25
 subst c25
 have H1 : (if ((rd_T75 l1 x30_2).f0) = ((rd_T75 l1 x30_2).f1) then (some 7) else (cost_checkRelations.l1 kj13 l0 l1 (l1.length : Int) (wrap64 (x30_2 + 1)))) = some r := q6_
 clear H
 have H := H1
 clear H1
 by_cases c26 : ((rd_T75 l1 x30_2).f0) = ((rd_T75 l1 x30_2).f1)
 · rw [if_pos c26] at H
   have c26b0 : (((rd_T75 l1 x30_2).f0) == ((rd_T75 l1 x30_2).f1)) = true := beq_iff_eq.mpr c26
   have c26b1 : (((rd_T75 l1 x30_2).f0) != ((rd_T75 l1 x30_2).f1)) = false := bne_eq_false_iff_eq.mpr c26
   clear c26
   obtain rfl := Option.some.inj H
   obtain ⟨hcz27_0, hcz27_1, hcz27_2, hfz27_0, hfz27_1, hfz27_2⟩ := cells3 BK104.out
   go_wp2
   go_ret
   exact ⟨eqR, s2z1⟩
 rw [if_neg c26] at H
 have c26b0 : (((rd_T75 l1 x30_2).f0) == ((rd_T75 l1 x30_2).f1)) = false := beq_eq_false_iff_ne.mpr c26
 have c26b1 : (((rd_T75 l1 x30_2).f0) != ((rd_T75 l1 x30_2).f1)) = true := bne_iff_ne.mpr c26
 have H' := aM H
 clear H
 obtain ⟨hcz28_0, hcz28_1, hcz28_2, hfz28_0, hfz28_1, hfz28_2⟩ := cells3 BK104.out
 go_wp2
 first | go_roundg kj13 | (refine Handed.intro kj13 ?measure ?_; rotate_left; go_step; (repeat apply Exists.intro); simp only [add_plain]; refine ⟨?rel, rfl⟩)
 case measure => have := HK1.out; have := HK2.out; have := HJ13.out; omega
 case rel => exact ⟨(wrap64 (x30_2 + 1)), q4_, H', ⟨by have := HK1.out; have := HK2.out; have := HJ13.out; omega⟩, ⟨s2z1⟩⟩
/-! ### value_Product: function 117 -/
def value_Product.j0 : Nat → Int → Int → Bool → Option (Int)
  | 0, _, _, _ => none
  | k + 1, x0, x1, x10 => if x10 = true then (some 0) else (if (mx x1 (wrap64 (-x1))) = 0 then (none) else (if (mx x0 (wrap64 (-x0))) > (wrap64 ((1000000000000000 : Int) / (mx x1 (wrap64 (-x1))))) then (some 1000000000000001) else (some (wrap64 (x0 * x1)))))
def value_Product.f (k : Nat) (a0 : Int) (a1 : Int) : Option (Int) := if a0 = 0 then (value_Product.j0 k a0 a1 true) else (value_Product.j0 k a0 a1 (a1 == 0))
theorem value_Product.mono_l : ∀ k, (∀ y0 y1 y2, LeO (value_Product.j0 k y0 y1 y2) (value_Product.j0 (k + 1) y0 y1 y2))
  | 0 => fun _ _ _ r h => by simp [value_Product.j0] at h
  | k + 1 => by
    have ih0 := value_Product.mono_l k
    · intro y0 y1 y2
      unfold value_Product.j0
      repeat' first | (with_reducible exact ih0 _ _ _) | (with_reducible exact LeO.refl _) | (with_reducible exact LeO.none _) | (with_reducible refine LeO.ite ?_ ?_) | (with_reducible refine LeO.bind ?_ (fun _ => ?_)) | exact ih0 _ _ _ | exact LeO.none _ | refine LeO.ite ?_ ?_ | refine LeO.bind ?_ (fun _ => ?_)
theorem value_Product.mono : ∀ a0 a1 k, LeO (value_Product.f k a0 a1) (value_Product.f (k + 1) a0 a1) := by
 intro a0 a1 k
 have ih0 := value_Product.mono_l k
 unfold value_Product.f
 repeat' first
  | (with_reducible exact ih0 _ _ _)
  | (with_reducible exact LeO.refl _)
  | (with_reducible exact LeO.none _)
  | (with_reducible refine LeO.ite ?_ ?_)
  | (with_reducible refine LeO.bind ?_ (fun _ => ?_))
  | exact ih0 _ _ _
  | exact LeO.none _
  | refine LeO.ite ?_ ?_
  | refine LeO.bind ?_ (fun _ => ?_)
set_option maxHeartbeats 8000000 in
set_option maxRecDepth 100000 in
theorem value_Product.calls (k : Nat) (a0 : Int) (a1 : Int) (r : Int) (w : World) (h : value_Product.f k a0 a1 = some r) :
    Calls Tryd.prog 117 #[.int .i64 a0, .int .i64 a1] w fun e w' => e = .returned (.int .i64 r) ∧ Below w.heap.size w w' := by
 have htd1000000000000000 : ∀ y_ : Int, Int.tdiv 1000000000000000 y_ = 1000000000000000 / y_ := fun y_ => Int.tdiv_eq_ediv_of_nonneg (by decide)
 have HB := aM (Below.refl w.heap.size w)
 have H : (if a0 = 0 then (value_Product.j0 k a0 a1 true) else (value_Product.j0 k a0 a1 (a1 == 0))) = some r := h
 clear h
 have HC3 := aM H
 clear H
 go_enter Tryd.func117, Tryd.ntmps117
 go_upto_region 1 with (fail)
 go_cut [10] (fun v10 wc => ∃ (kq : Nat) (x10_2 : Bool), v10 = .bool x10_2 ∧ Aside0 (value_Product.j0 kq a0 a1 x10_2 = some r) ∧ Aside0 (kq ≤ k) ∧ Aside0 (Below w.heap.size w wc))
 case first =>
  have H := HC3.out
  clear HC3
  by_cases c4 : a0 = 0
  case neg =>
   rw [if_neg c4] at H
   have c4b0 : (a0 == 0) = false := beq_eq_false_iff_ne.mpr c4
   have c4b1 : (a0 != 0) = true := bne_iff_ne.mpr c4
   (first | rw [c4b0] | (simp only [i64_w, i32_w]; rw [c4b0]) | skip)
   have H' := aM H
   clear H
   go_wp2
   go_meet
   case rel => exact ⟨_, ((a1 == 0)), q4_, H', ⟨by first | omega | exact Nat.le_refl _⟩, ⟨q1_⟩⟩
  rw [if_pos c4] at H
  have c4b0 : (a0 == 0) = true := beq_iff_eq.mpr c4
  have c4b1 : (a0 != 0) = false := bne_eq_false_iff_eq.mpr c4
  clear c4
  (first | rw [c4b0] | (simp only [i64_w, i32_w]; rw [c4b0]) | skip)
  have H' := aM H
  clear H
  go_wp2
  go_meet
  case rel => exact ⟨_, (true), q4_, H', ⟨by first | omega | exact Nat.le_refl _⟩, ⟨q1_⟩⟩
 clear HC3
 try clear c1
 try clear p2
 try clear c4
 try clear c4b0
 try clear c4b1
 obtain ⟨kq, x10_2, rfl, HA, HJ2, HB⟩ := hcut
 cases kq with
 | zero => exact absurd HA.out (by simp [value_Product.j0])
 | succ kj2 => ?_
 have H := HA.out
 clear HA
 simp only [value_Product.j0] at H
 by_cases c5 : x10_2 = true
 · subst c5
   have H1 : (some 0) = some r := q7_
   clear H
   have H := H1
   clear H1
   obtain rfl := Option.some.inj H
   go_wp2
   go_ret
   exact ⟨eqR, q1_⟩
 replace c5 := Bool.eq_false_iff.mpr c5
 subst c5
 have H1 : (if (mx a1 (wrap64 (-a1))) = 0 then (none) else (if (mx a0 (wrap64 (-a0))) > (wrap64 ((1000000000000000 : Int) / (mx a1 (wrap64 (-a1))))) then (some 1000000000000001) else (some (wrap64 (a0 * a1))))) = some r := q6_
 clear H
 have H := H1
 clear H1
 obtain ⟨ji6, hji6⟩ : ∃ j_ : Int, (mx a0 (wrap64 (-a0))) = j_ := ⟨_, rfl⟩
 replace H : (if (mx a1 (wrap64 (-a1))) = 0 then (none) else (if (ji6) > (wrap64 ((1000000000000000 : Int) / (mx a1 (wrap64 (-a1))))) then (some 1000000000000001) else (some (wrap64 (a0 * a1))))) = some r := by first | (rw [hji6] at H; exact H) | (simp only [hji6] at H ⊢; exact H)
 have hji6_ : (if a0 < (wrap64 (-a0)) then (wrap64 (-a0)) else a0) = ji6 := hji6
 obtain ⟨ji7, hji7⟩ : ∃ j_ : Int, (mx a1 (wrap64 (-a1))) = j_ := ⟨_, rfl⟩
 replace H : (if (ji7) = 0 then (none) else (if (ji6) > (wrap64 ((1000000000000000 : Int) / (ji7))) then (some 1000000000000001) else (some (wrap64 (a0 * a1))))) = some r := by first | (rw [hji7] at H; exact H) | (simp only [hji7] at H ⊢; exact H)
 have hji7_ : (if a1 < (wrap64 (-a1)) then (wrap64 (-a1)) else a1) = ji7 := hji7
 by_cases c8 : (ji7) = 0
 · rw [if_pos c8] at H
   exact absurd H (by simp)
 rw [if_neg c8] at H
 have c8b0 : ((ji7) == 0) = false := beq_eq_false_iff_ne.mpr c8
 have c8b1 : ((ji7) != 0) = true := bne_iff_ne.mpr c8
 by_cases c9 : (ji6) > (wrap64 ((1000000000000000 : Int) / (ji7)))
 · rw [if_pos c9] at H
   have c9b0 : decide ((wrap64 ((1000000000000000 : Int) / (ji7))) < (ji6)) = true := decide_eq_true c9
   clear c9
   obtain rfl := Option.some.inj H
   go_wp2
   go_ret
   exact ⟨by first | rfl | (simp [errW_none, errW_some] <;> rfl) | (simp only [← hji6, ← hji7]; first | rfl | (simp [errW_none, errW_some] <;> rfl)) | (simp [*, errW_none, errW_some] <;> rfl), q1_⟩
 rw [if_neg c9] at H
 have c9b0 : decide ((wrap64 ((1000000000000000 : Int) / (ji7))) < (ji6)) = false := decide_eq_false c9
 clear c9
 obtain rfl := Option.some.inj H
 go_wp2
 go_ret
 exact ⟨by first | rfl | (simp [errW_none, errW_some] <;> rfl) | (simp only [← hji6, ← hji7]; first | rfl | (simp [errW_none, errW_some] <;> rfl)) | (simp [*, errW_none, errW_some] <;> rfl), q1_⟩
/-! ### cost_product: function 87 -/
def cost_product.f (k : Nat) (a0 : Int) (a1 : Int) : Option (Int) := (value_Product.f k a0 a1).bind fun t108 => (some (mn 1000000000000000 t108))
theorem cost_product.mono : ∀ a0 a1 k, LeO (cost_product.f k a0 a1) (cost_product.f (k + 1) a0 a1) := by
 intro a0 a1 k
 unfold cost_product.f
 repeat' first
  | (with_reducible exact value_Product.mono _ _ _)
  | (with_reducible exact LeO.refl _)
  | (with_reducible exact LeO.none _)
  | (with_reducible refine LeO.ite ?_ ?_)
  | (with_reducible refine LeO.bind ?_ (fun _ => ?_))
  | exact value_Product.mono _ _ _
  | exact LeO.none _
  | refine LeO.ite ?_ ?_
  | refine LeO.bind ?_ (fun _ => ?_)
set_option maxHeartbeats 8000000 in
set_option maxRecDepth 100000 in
theorem cost_product.calls (k : Nat) (a0 : Int) (a1 : Int) (r : Int) (w : World) (h : cost_product.f k a0 a1 = some r) :
    Calls Tryd.prog 87 #[.int .i64 a0, .int .i64 a1] w fun e w' => e = .returned (.int .i64 r) ∧ Below w.heap.size w w' := by
 have HB := aM (Below.refl w.heap.size w)
 have H : ((value_Product.f k a0 a1).bind fun t108 => (some (mn 1000000000000000 t108))) = some r := h
 clear h
 replace H := Option.bind_eq_some_iff.mp H
 obtain ⟨t108, A30, H⟩ := H
 replace H : (some (mn 1000000000000000 t108)) = some r := H
 have A3 := aM A30
 clear A30
 obtain ⟨ji4, hji4⟩ : ∃ j_ : Int, (mn 1000000000000000 t108) = j_ := ⟨_, rfl⟩
 replace H : (some ji4) = some r := by first | (rw [hji4] at H; exact H) | (simp only [hji4] at H ⊢; exact H)
 (try rw [hji4] at A3)
 (try (have hji4h : ji4 ≤ 1000000000000000 := by (rw [← hji4]; unfold mn; (repeat' split) <;> omega)))
 (try (have hji4g : ji4 ≤ 64 := by omega))
 have hji4_ : (if t108 < 1000000000000000 then t108 else 1000000000000000) = ji4 := hji4
 obtain rfl := Option.some.inj H
 go_enter Tryd.func87, Tryd.ntmps87
 go_wp2_with (first | ((with_reducible refine gate_callee (f := 117) rfl ?_); refine goesL_ (some 7) rfl rfl Tryd.func117 (by kernel_rfl) rfl #[.int .i64 a0, .int .i64 a1] rfl q2_ ?_; (with_reducible refine (value_Product.calls k a0 a1 t108 _ A3.out).mono ?_); rintro e w5 ⟨rfl, hb⟩; refine ⟨_, rfl, ?_⟩; replace HB := aM (below_step q1_ hb); (try clear hb); (try clear hb2); (try clear hk); (try clear hi)))
 go_ret
 exact ⟨by first | rfl | (simp [errW_none, errW_some] <;> rfl) | (simp only [← hji4]; first | rfl | (simp [errW_none, errW_some] <;> rfl)) | (simp [*, errW_none, errW_some] <;> rfl), q1_⟩
end Go.Proofs.YtgcijejmmhjibaaDoor.J
