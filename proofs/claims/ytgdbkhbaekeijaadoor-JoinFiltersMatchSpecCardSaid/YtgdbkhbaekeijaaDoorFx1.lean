-- Printed by a program of this session (a patched print).
import Derived.Test.YtgdbkhbaekeijaaDoorFx0
namespace Go.Proofs.YtgdbkhbaekeijaaDoor.F
open Go.RowKit Go.Proofs.YtgdbkhbaekeijaaDoorW.PrintWords Go.Proofs.YtgdbkhbaekeijaaDoorW.PrintLast Go.Proofs.YtgdbkhbaekeijaaDoorW.PrintMore
attribute [local go_sem] max2_int min2_int max_two min_two max_three min_three max_four min_four   -- for this text's walks alone
set_option linter.unusedVariables false
set_option linter.unusedSimpArgs false

theorem s1qm0 {p : Prop} (h : p := by repeat' first | (with_reducible exact ih0 _ _) | (with_reducible exact ih1 _ _ _) | (with_reducible exact LeO.refl _) | (with_reducible exact LeO.none _) | (with_reducible refine LeO.ite ?_ ?_) | (with_reducible refine LeO.bind ?_ (fun _ => ?_)) | exact ih0 _ _ | exact ih1 _ _ _ | exact LeO.none _ | refine LeO.ite ?_ ?_ | refine LeO.bind ?_ (fun _ => ?_)) : p := h
theorem s1qm1 {p : Prop} (h : p := by repeat' first | (with_reducible exact ih0 _ _ _ _) | (with_reducible exact ih1 _ _ _ _ _ _ _ _ _) | (with_reducible exact kit_Name.mono _ _) | (with_reducible exact LeO.refl _) | (with_reducible exact LeO.none _) | (with_reducible refine LeO.ite ?_ ?_) | (with_reducible refine LeO.bind ?_ (fun _ => ?_)) | exact ih0 _ _ _ _ | exact ih1 _ _ _ _ _ _ _ _ _ | exact kit_Name.mono _ _ | exact LeO.none _ | refine LeO.ite ?_ ?_ | refine LeO.bind ?_ (fun _ => ?_)) : p := h
theorem s1q0 {p : Prop} (h : p := by first | rfl | (simp; done) | (simp [*]; done)) : p := h
theorem s1q1 {p : Prop} (h : p := by first | (with_reducible assumption) | assumption) : p := h
theorem s1q2 {p : Prop} (h : p := by (with_reducible repeat (first | refine blk_drewN ?_ _ | refine blk_drew ?_ | refine blk_alloc ?_ _)); exact BK102.out) : p := h
theorem s1q3 {p : Prop} (h : p := by repeat (first | (with_reducible first | exact HB.out | apply below_alloc | apply pw_below_drewN | apply below_drew1) | exact HB.out)) : p := h
theorem s1q4 {p : Prop} (h : p := by (try simp only [List.map_toArray, List.map_cons, List.map_nil]); first | done | rfl | (simp only [List.length_drop, List.length_take]; rfl)) : p := h
theorem s1q5 {p : Prop} (h : p := by repeat (first | (with_reducible first | exact HB.out | apply below_alloc | apply pw_below_drewN | apply below_drew1 | refine below_set ?_ GE102.out) | exact HB.out)) : p := h
theorem s1q6 {p : Prop} (h : p := by rw [hg]; exact (below_size s1q3)) : p := h
theorem s1q7 {p : Prop} (h : p := by rw [hg]; exact (below_size s1q5)) : p := h
theorem s1q8 {p : Prop} (h : p := by rw [hg]; exact Nat.ne_of_gt (blk_lt (g := gb102) (o := .cells #[.string ((rd_T69 l0 x15_1).f0), .int .i64 ((rd_T69 l0 x15_1).f1)] 69 (0, 0)) s1q2)) : p := h
theorem s1q9 {p : Prop} (h : p := by rw [hg]; exact Nat.ne_of_lt (blk_lt (g := gb102) (o := .cells #[.string ((rd_T69 l0 x15_1).f0), .int .i64 ((rd_T69 l0 x15_1).f1)] 69 (0, 0)) s1q2)) : p := h
theorem s1q10 {p : Prop} (h : p := by rw [if_neg (show ¬ (false = true) by decide)] at H; exact H) : p := h
theorem s1q11 {p : Prop} (h : p := by rw [if_pos rfl] at H; exact H) : p := h
/-! ### kit_In: function 12 -/
def kit_In.f (a0 : Int) (a1 : Int) (a2 : Int) : Option (Bool) := if a1 ≤ a0 then (some (decide (a0 ≤ a2))) else (some false)
set_option maxHeartbeats 8000000 in
set_option maxRecDepth 100000 in
theorem kit_In.calls (a0 : Int) (a1 : Int) (a2 : Int) (r : Bool) (w : World) (h : kit_In.f a0 a1 a2 = some r) :
    Calls Tryd.prog 12 #[.int .i64 a0, .int .i64 a1, .int .i64 a2] w fun e w' => e = .returned (.bool r) ∧ Drawn0 w w' := by
 have H : (if a1 ≤ a0 then (some (decide (a0 ≤ a2))) else (some false)) = some r := h
 clear h
 by_cases c4 : a1 ≤ a0
 · rw [if_pos c4] at H
   have c4b0 : decide (a1 ≤ a0) = true := decide_eq_true c4
   clear c4
   obtain rfl := Option.some.inj H
   go_enter Tryd.func12, Tryd.ntmps12
   go_wp2
   go_ret
   exact ⟨by first | rfl | (simp; done) | (simp [*]; done), by repeat (first | exact Drawn0.refl _ | apply Drawn0.step)⟩
 rw [if_neg c4] at H
 have c4b0 : decide (a1 ≤ a0) = false := decide_eq_false c4
 clear c4
 obtain rfl := Option.some.inj H
 go_enter Tryd.func12, Tryd.ntmps12
 go_wp2
 go_ret
 exact ⟨by first | rfl | (simp; done) | (simp [*]; done), by repeat (first | exact Drawn0.refl _ | apply Drawn0.step)⟩
/-! ### kit_Name: function 39 -/
mutual
def kit_Name.j0 : Nat → ByteArray → Bool → Option (Bool)
  | 0, _, _ => none
  | k + 1, x0, x11 => if x11 = true then (some false) else (kit_Name.l0 k x0 (x0.size : Int) 0)
def kit_Name.l0 : Nat → ByteArray → Int → Int → Option (Bool)
  | 0, _, _, _ => none
  | k + 1, x0, x13, x14 => if x14 < x13 then (if 0 ≤ x14 then (if x14 < (x0.size : Int) then (if (bt x0 x14) < 97 then (if x14 = 0 then (some false) else (if (bt x0 x14) = 95 then (kit_Name.l0 k x0 x13 (wrap64 (x14 + 1))) else (if (bt x0 x14) < 48 then (some false) else (if (bt x0 x14) > 57 then (some false) else (kit_Name.l0 k x0 x13 (wrap64 (x14 + 1))))))) else (if (bt x0 x14) > 122 then (if x14 = 0 then (some false) else (if (bt x0 x14) = 95 then (kit_Name.l0 k x0 x13 (wrap64 (x14 + 1))) else (if (bt x0 x14) < 48 then (some false) else (if (bt x0 x14) > 57 then (some false) else (kit_Name.l0 k x0 x13 (wrap64 (x14 + 1))))))) else (kit_Name.l0 k x0 x13 (wrap64 (x14 + 1))))) else (none)) else (none)) else (some true)
end
def kit_Name.f (k : Nat) (a0 : ByteArray) : Option (Bool) := if a0.toList = ([] : List UInt8) then (kit_Name.j0 k a0 true) else (kit_Name.j0 k a0 (decide ((a0.size : Int) > 32)))
theorem kit_Name.mono_l : ∀ k, (∀ y0 y1, LeO (kit_Name.j0 k y0 y1) (kit_Name.j0 (k + 1) y0 y1)) ∧ (∀ y0 y1 y2, LeO (kit_Name.l0 k y0 y1 y2) (kit_Name.l0 (k + 1) y0 y1 y2))
  | 0 => ⟨fun _ _ r h => by simp [kit_Name.j0] at h, fun _ _ _ r h => by simp [kit_Name.l0] at h⟩
  | k + 1 => by
    obtain ⟨ih0, ih1⟩ := kit_Name.mono_l k
    refine ⟨?_, ?_⟩
    · intro y0 y1
      unfold kit_Name.j0
      exact s1qm0
    · intro y0 y1 y2
      unfold kit_Name.l0
      exact s1qm0
theorem kit_Name.mono : ∀ a0 k, LeO (kit_Name.f k a0) (kit_Name.f (k + 1) a0) := by
 intro a0 k
 obtain ⟨ih0, ih1⟩ := kit_Name.mono_l k
 unfold kit_Name.f
 repeat' first
  | (with_reducible exact ih0 _ _)
  | (with_reducible exact ih1 _ _ _)
  | (with_reducible exact LeO.refl _)
  | (with_reducible exact LeO.none _)
  | (with_reducible refine LeO.ite ?_ ?_)
  | (with_reducible refine LeO.bind ?_ (fun _ => ?_))
  | exact ih0 _ _
  | exact ih1 _ _ _
  | exact LeO.none _
  | refine LeO.ite ?_ ?_
  | refine LeO.bind ?_ (fun _ => ?_)
set_option maxHeartbeats 8000000 in
set_option maxRecDepth 100000 in
theorem kit_Name.calls (k : Nat) (a0 : ByteArray) (r : Bool) (w : World) (h : kit_Name.f k a0 = some r) :
    Calls Tryd.prog 39 #[.string a0] w fun e w' => e = .returned (.bool r) ∧ Drawn0 w w' := by
 have H : (if a0.toList = ([] : List UInt8) then (kit_Name.j0 k a0 true) else (kit_Name.j0 k a0 (decide ((a0.size : Int) > 32)))) = some r := h
 clear h
 have HC2 := Aside0.mk H
 clear H
 go_enter Tryd.func39, Tryd.ntmps39
 go_upto_region 1 with (fail)
 go_cut [11] (fun v11 wc => ∃ (kq : Nat) (x11_1 : Bool), v11 = .bool x11_1 ∧ Aside0 (kit_Name.j0 kq a0 x11_1 = some r) ∧ Aside0 (kq ≤ k) ∧ Drawn0 w wc)
 case first =>
  have H := HC2.out
  clear HC2
  by_cases c3 : a0.toList = ([] : List UInt8)
  · rw [if_pos c3] at H
    have c3b0 : (a0.toList == ([] : List UInt8)) = true := beq_iff_eq.mpr c3
    have c3b1 : (a0.toList != ([] : List UInt8)) = false := bne_eq_false_iff_eq.mpr c3
    clear c3
    (first | rw [c3b0] | (simp only [i64_w, i32_w]; rw [c3b0]) | skip)
    have H' := Aside0.mk H
    clear H
    go_wp2
    go_meet
    case rel => exact ⟨_, (true), s1q0, H', ⟨by first | omega | exact Nat.le_refl _⟩, by repeat (first | exact Drawn0.refl _ | apply Drawn0.step)⟩
  rw [if_neg c3] at H
  have c3b0 : (a0.toList == ([] : List UInt8)) = false := beq_eq_false_iff_ne.mpr c3
  have c3b1 : (a0.toList != ([] : List UInt8)) = true := bne_iff_ne.mpr c3
  (first | rw [c3b0] | (simp only [i64_w, i32_w]; rw [c3b0]) | skip)
  have H' := Aside0.mk H
  clear H
  go_wp2
  go_meet
  case rel => exact ⟨_, (decide ((a0.size : Int) > 32)), s1q0, H', ⟨by first | omega | exact Nat.le_refl _⟩, by repeat (first | exact Drawn0.refl _ | apply Drawn0.step)⟩
 clear HC2
 try clear p2
 try clear c3
 try clear c3b0
 try clear c3b1
 obtain ⟨kq, x11_1, rfl, HA, HJ1, ⟨mc1, rfl⟩⟩ := hcut
 cases kq with
 | zero => exact absurd HA.out (by simp [kit_Name.j0])
 | succ kj1 => ?_
 have H := HA.out
 clear HA
 simp only [kit_Name.j0] at H
 by_cases c4 : x11_1 = true
 · subst c4
   have H1 : (some false) = some r := s1q11
   clear H
   have H := H1
   clear H1
   obtain rfl := Option.some.inj H
   go_wp2
   go_ret
   exact ⟨by first | rfl | (simp; done) | (simp [*]; done), by repeat (first | exact Drawn0.refl _ | apply Drawn0.step)⟩
 replace c4 := Bool.eq_false_iff.mpr c4
 subst c4
 have H1 : (kit_Name.l0 kj1 a0 (a0.size : Int) 0) = some r := s1q10
 clear H
 have H := H1
 clear H1
 have H' := Aside0.mk H
 clear H
 go_wp2
 go_loopg [14] kj1 (fun kq v14 w' => ∃ (x14_2 : Int), v14 = .int .i64 x14_2 ∧ Aside0 (kit_Name.l0 kq a0 (a0.size : Int) x14_2 = some r) ∧ Aside0 (kq ≤ kj1) ∧ Drawn0 w w')
 case atStart => exact ⟨(0), s1q0, H', ⟨Nat.le_refl _⟩, by repeat (first | exact Drawn0.refl _ | apply Drawn0.step)⟩
 clear H'
 try clear c1
 try clear p2
 try clear c3
 try clear c3b0
 try clear c3b1
 try clear c4
 try clear p2
 obtain ⟨x14_2, rfl, HA, HK2, ⟨m2, rfl⟩⟩ := hrel
 cases gk with
 | zero => exact absurd HA.out (by simp [kit_Name.l0])
 | succ k2 => ?_
 have H := HA.out
 clear HA
 simp only [kit_Name.l0] at H
 by_cases c5 : x14_2 < (a0.size : Int)
 case neg =>
  rw [if_neg c5] at H
  have c5b0 : decide (x14_2 < (a0.size : Int)) = false := decide_eq_false c5
  clear c5
  obtain rfl := Option.some.inj H
  go_wp2
  go_ret
  exact ⟨by first | rfl | (simp; done) | (simp [*]; done), by repeat (first | exact Drawn0.refl _ | apply Drawn0.step)⟩
 rw [if_pos c5] at H
 have c5b0 : decide (x14_2 < (a0.size : Int)) = true := decide_eq_true c5
 clear c5
 by_cases c6 : 0 ≤ x14_2
 case neg =>
  rw [if_neg c6] at H
  exact absurd H (by simp)
 rw [if_pos c6] at H
 have c6b0 : decide (0 ≤ x14_2) = true := decide_eq_true c6
 clear c6
 by_cases c7 : x14_2 < (a0.size : Int)
 case neg =>
  rw [if_neg c7] at H
  exact absurd H (by simp)
 rw [if_pos c7] at H
 have c7b0 : decide (x14_2 < (a0.size : Int)) = true := decide_eq_true c7
 clear c7
 by_cases c9 : (bt a0 x14_2) < 97
 · rw [if_pos c9] at H
   have c9b0 : decide ((bt a0 x14_2) < 97) = true := decide_eq_true c9
   clear c9
   by_cases c10 : x14_2 = 0
   · rw [if_pos c10] at H
     have c10b0 : (x14_2 == 0) = true := beq_iff_eq.mpr c10
     have c10b1 : (x14_2 != 0) = false := bne_eq_false_iff_eq.mpr c10
     clear c10
     obtain rfl := Option.some.inj H
     have p8 : 0 ≤ (x14_2 : Int) := of_decide_eq_true s1q1
     have q8 : x14_2 < (a0.size : Int) := of_decide_eq_true s1q1
     have hx8 := bt_at a0 x14_2
     replace p8 := eq_true p8
     replace q8 := eq_true q8
     go_wp2
     go_ret
     exact ⟨by first | rfl | (simp; done) | (simp [*]; done), by repeat (first | exact Drawn0.refl _ | apply Drawn0.step)⟩
   rw [if_neg c10] at H
   have c10b0 : (x14_2 == 0) = false := beq_eq_false_iff_ne.mpr c10
   have c10b1 : (x14_2 != 0) = true := bne_iff_ne.mpr c10
   by_cases c11 : (bt a0 x14_2) = 95
   · rw [if_pos c11] at H
     have c11b0 : ((bt a0 x14_2) == 95) = true := beq_iff_eq.mpr c11
     have c11b1 : ((bt a0 x14_2) != 95) = false := bne_eq_false_iff_eq.mpr c11
     clear c11
     have H' := Aside0.mk H
     clear H
     have p8 : 0 ≤ (x14_2 : Int) := of_decide_eq_true s1q1
     have q8 : x14_2 < (a0.size : Int) := of_decide_eq_true s1q1
     have hx8 := bt_at a0 x14_2
     replace p8 := eq_true p8
     replace q8 := eq_true q8
     go_wp2
     first | go_roundg k2 | (refine Handed.intro k2 ?measure ?_; rotate_left; go_step; (repeat apply Exists.intro); simp only [add_plain]; refine ⟨?rel, rfl⟩)
     case measure => have := HJ1.out; have := HK2.out; omega
     case rel => exact ⟨(wrap64 (x14_2 + 1)), s1q0, H', ⟨by have := HJ1.out; have := HK2.out; omega⟩, by repeat (first | exact Drawn0.refl _ | apply Drawn0.step)⟩
   rw [if_neg c11] at H
   have c11b0 : ((bt a0 x14_2) == 95) = false := beq_eq_false_iff_ne.mpr c11
   have c11b1 : ((bt a0 x14_2) != 95) = true := bne_iff_ne.mpr c11
   by_cases c12 : (bt a0 x14_2) < 48
   · rw [if_pos c12] at H
     have c12b0 : decide ((bt a0 x14_2) < 48) = true := decide_eq_true c12
     clear c12
     obtain rfl := Option.some.inj H
     have p8 : 0 ≤ (x14_2 : Int) := of_decide_eq_true s1q1
     have q8 : x14_2 < (a0.size : Int) := of_decide_eq_true s1q1
     have hx8 := bt_at a0 x14_2
     replace p8 := eq_true p8
     replace q8 := eq_true q8
     go_wp2
     go_ret
     exact ⟨by first | rfl | (simp; done) | (simp [*]; done), by repeat (first | exact Drawn0.refl _ | apply Drawn0.step)⟩
   rw [if_neg c12] at H
   have c12b0 : decide ((bt a0 x14_2) < 48) = false := decide_eq_false c12
   clear c12
   by_cases c13 : (bt a0 x14_2) > 57
   · rw [if_pos c13] at H
     have c13b0 : decide (57 < (bt a0 x14_2)) = true := decide_eq_true c13
     clear c13
     obtain rfl := Option.some.inj H
     have p8 : 0 ≤ (x14_2 : Int) := of_decide_eq_true s1q1
     have q8 : x14_2 < (a0.size : Int) := of_decide_eq_true s1q1
     have hx8 := bt_at a0 x14_2
     replace p8 := eq_true p8
     replace q8 := eq_true q8
     go_wp2
     go_ret
     exact ⟨by first | rfl | (simp; done) | (simp [*]; done), by repeat (first | exact Drawn0.refl _ | apply Drawn0.step)⟩
   rw [if_neg c13] at H
   have c13b0 : decide (57 < (bt a0 x14_2)) = false := decide_eq_false c13
   clear c13
   have H' := Aside0.mk H
   clear H
   have p8 : 0 ≤ (x14_2 : Int) := of_decide_eq_true s1q1
   have q8 : x14_2 < (a0.size : Int) := of_decide_eq_true s1q1
   have hx8 := bt_at a0 x14_2
   replace p8 := eq_true p8
   replace q8 := eq_true q8
   go_wp2
   first | go_roundg k2 | (refine Handed.intro k2 ?measure ?_; rotate_left; go_step; (repeat apply Exists.intro); simp only [add_plain]; refine ⟨?rel, rfl⟩)
   case measure => have := HJ1.out; have := HK2.out; omega
   case rel => exact ⟨(wrap64 (x14_2 + 1)), s1q0, H', ⟨by have := HJ1.out; have := HK2.out; omega⟩, by repeat (first | exact Drawn0.refl _ | apply Drawn0.step)⟩
 rw [if_neg c9] at H
 have c9b0 : decide ((bt a0 x14_2) < 97) = false := decide_eq_false c9
 clear c9
 by_cases c14 : (bt a0 x14_2) > 122
 case neg =>
  rw [if_neg c14] at H
  have c14b0 : decide (122 < (bt a0 x14_2)) = false := decide_eq_false c14
  clear c14
  have H' := Aside0.mk H
  clear H
  have p8 : 0 ≤ (x14_2 : Int) := of_decide_eq_true s1q1
  have q8 : x14_2 < (a0.size : Int) := of_decide_eq_true s1q1
  have hx8 := bt_at a0 x14_2
  replace p8 := eq_true p8
  replace q8 := eq_true q8
  go_wp2
  first | go_roundg k2 | (refine Handed.intro k2 ?measure ?_; rotate_left; go_step; (repeat apply Exists.intro); simp only [add_plain]; refine ⟨?rel, rfl⟩)
  case measure => have := HJ1.out; have := HK2.out; omega
  case rel => exact ⟨(wrap64 (x14_2 + 1)), s1q0, H', ⟨by have := HJ1.out; have := HK2.out; omega⟩, by repeat (first | exact Drawn0.refl _ | apply Drawn0.step)⟩
 rw [if_pos c14] at H
 have c14b0 : decide (122 < (bt a0 x14_2)) = true := decide_eq_true c14
 clear c14
 by_cases c15 : x14_2 = 0
 · rw [if_pos c15] at H
   have c15b0 : (x14_2 == 0) = true := beq_iff_eq.mpr c15
   have c15b1 : (x14_2 != 0) = false := bne_eq_false_iff_eq.mpr c15
   clear c15
   obtain rfl := Option.some.inj H
   have p8 : 0 ≤ (x14_2 : Int) := of_decide_eq_true s1q1
   have q8 : x14_2 < (a0.size : Int) := of_decide_eq_true s1q1
   have hx8 := bt_at a0 x14_2
   replace p8 := eq_true p8
   replace q8 := eq_true q8
   go_wp2
   go_ret
   exact ⟨by first | rfl | (simp; done) | (simp [*]; done), by repeat (first | exact Drawn0.refl _ | apply Drawn0.step)⟩
 rw [if_neg c15] at H
 have c15b0 : (x14_2 == 0) = false := beq_eq_false_iff_ne.mpr c15
 have c15b1 : (x14_2 != 0) = true := bne_iff_ne.mpr c15
 by_cases c16 : (bt a0 x14_2) = 95
 · rw [if_pos c16] at H
   have c16b0 : ((bt a0 x14_2) == 95) = true := beq_iff_eq.mpr c16
   have c16b1 : ((bt a0 x14_2) != 95) = false := bne_eq_false_iff_eq.mpr c16
   clear c16
   have H' := Aside0.mk H
   clear H
   have p8 : 0 ≤ (x14_2 : Int) := of_decide_eq_true s1q1
   have q8 : x14_2 < (a0.size : Int) := of_decide_eq_true s1q1
   have hx8 := bt_at a0 x14_2
   replace p8 := eq_true p8
   replace q8 := eq_true q8
   go_wp2
   first | go_roundg k2 | (refine Handed.intro k2 ?measure ?_; rotate_left; go_step; (repeat apply Exists.intro); simp only [add_plain]; refine ⟨?rel, rfl⟩)
   case measure => have := HJ1.out; have := HK2.out; omega
   case rel => exact ⟨(wrap64 (x14_2 + 1)), s1q0, H', ⟨by have := HJ1.out; have := HK2.out; omega⟩, by repeat (first | exact Drawn0.refl _ | apply Drawn0.step)⟩
 rw [if_neg c16] at H
 have c16b0 : ((bt a0 x14_2) == 95) = false := beq_eq_false_iff_ne.mpr c16
 have c16b1 : ((bt a0 x14_2) != 95) = true := bne_iff_ne.mpr c16
 by_cases c17 : (bt a0 x14_2) < 48
 · rw [if_pos c17] at H
   have c17b0 : decide ((bt a0 x14_2) < 48) = true := decide_eq_true c17
   clear c17
   obtain rfl := Option.some.inj H
   have p8 : 0 ≤ (x14_2 : Int) := of_decide_eq_true s1q1
   have q8 : x14_2 < (a0.size : Int) := of_decide_eq_true s1q1
   have hx8 := bt_at a0 x14_2
   replace p8 := eq_true p8
   replace q8 := eq_true q8
   go_wp2
   go_ret
   exact ⟨by first | rfl | (simp; done) | (simp [*]; done), by repeat (first | exact Drawn0.refl _ | apply Drawn0.step)⟩
 rw [if_neg c17] at H
 have c17b0 : decide ((bt a0 x14_2) < 48) = false := decide_eq_false c17
 clear c17
 by_cases c18 : (bt a0 x14_2) > 57
 · rw [if_pos c18] at H
   have c18b0 : decide (57 < (bt a0 x14_2)) = true := decide_eq_true c18
   clear c18
   obtain rfl := Option.some.inj H
   have p8 : 0 ≤ (x14_2 : Int) := of_decide_eq_true s1q1
   have q8 : x14_2 < (a0.size : Int) := of_decide_eq_true s1q1
   have hx8 := bt_at a0 x14_2
   replace p8 := eq_true p8
   replace q8 := eq_true q8
   go_wp2
   go_ret
   exact ⟨by first | rfl | (simp; done) | (simp [*]; done), by repeat (first | exact Drawn0.refl _ | apply Drawn0.step)⟩
 rw [if_neg c18] at H
 have c18b0 : decide (57 < (bt a0 x14_2)) = false := decide_eq_false c18
 clear c18
 have H' := Aside0.mk H
 clear H
 have p8 : 0 ≤ (x14_2 : Int) := of_decide_eq_true s1q1
 have q8 : x14_2 < (a0.size : Int) := of_decide_eq_true s1q1
 have hx8 := bt_at a0 x14_2
 replace p8 := eq_true p8
 replace q8 := eq_true q8
 go_wp2
 first | go_roundg k2 | (refine Handed.intro k2 ?measure ?_; rotate_left; go_step; (repeat apply Exists.intro); simp only [add_plain]; refine ⟨?rel, rfl⟩)
 case measure => have := HJ1.out; have := HK2.out; omega
 case rel => exact ⟨(wrap64 (x14_2 + 1)), s1q0, H', ⟨by have := HJ1.out; have := HK2.out; omega⟩, by repeat (first | exact Drawn0.refl _ | apply Drawn0.step)⟩
/-! ### value_CheckColumns: function 30 -/
mutual
def value_CheckColumns.l0 : Nat → List (S69) → List (S69) → Int → Int → Option (Int)
  | 0, _, _, _, _ => none
  | k + 1, x0, x13, x14, x15 => if x15 < x14 then (if 0 ≤ x15 then (if x15 < (x13.length : Int) then ((kit_Name.f k ((rd_T69 x13 x15).f0)).bind fun t103 => (if t103 = true then (if x15 ≤ (x0.length : Int) then ((some (x0.take (x15 : Int).toNat : List (S69))).bind fun y104 => (value_CheckColumns.l1 k x0 x13 x14 x15 y104 (y104.length : Int) 0 ((rd_T69 x13 x15).f0) ((rd_T69 x13 x15).f1))) else (none)) else (some 5))) else (none)) else (none)) else (some 0)
def value_CheckColumns.l1 : Nat → List (S69) → List (S69) → Int → Int → List (S69) → Int → Int → ByteArray → Int → Option (Int)
  | 0, _, _, _, _, _, _, _, _, _ => none
  | k + 1, x0, x13, x14, x15, x26, x27, x28, x103000, x103001 => if x28 < x27 then (if 0 ≤ x28 then (if x28 < (x26.length : Int) then (if ((rd_T69 x26 x28).f0).toList = x103000.toList then (some 7) else (value_CheckColumns.l1 k x0 x13 x14 x15 x26 x27 (wrap64 (x28 + 1)) x103000 x103001)) else (none)) else (none)) else ((kit_In.f x103001 1 3).bind fun t110 => (if t110 = true then (value_CheckColumns.l0 k x0 x13 x14 (wrap64 (x15 + 1))) else (some 4)))
end
def value_CheckColumns.f (k : Nat) (l0 : List (S69)) : Option (Int) := if (l0.length : Int) > 20 then (some 2) else (if (l0.length : Int) = 0 then (some 6) else (value_CheckColumns.l0 k l0 l0 (l0.length : Int) 0))
theorem value_CheckColumns.mono_l : ∀ k, (∀ y0 y1 y2 y3, LeO (value_CheckColumns.l0 k y0 y1 y2 y3) (value_CheckColumns.l0 (k + 1) y0 y1 y2 y3)) ∧ (∀ y0 y1 y2 y3 y4 y5 y6 y7 y8, LeO (value_CheckColumns.l1 k y0 y1 y2 y3 y4 y5 y6 y7 y8) (value_CheckColumns.l1 (k + 1) y0 y1 y2 y3 y4 y5 y6 y7 y8))
  | 0 => ⟨fun _ _ _ _ r h => by simp [value_CheckColumns.l0] at h, fun _ _ _ _ _ _ _ _ _ r h => by simp [value_CheckColumns.l1] at h⟩
  | k + 1 => by
    obtain ⟨ih0, ih1⟩ := value_CheckColumns.mono_l k
    refine ⟨?_, ?_⟩
    · intro y0 y1 y2 y3
      unfold value_CheckColumns.l0
      exact s1qm1
    · intro y0 y1 y2 y3 y4 y5 y6 y7 y8
      unfold value_CheckColumns.l1
      exact s1qm1
theorem value_CheckColumns.mono : ∀ a0 k, LeO (value_CheckColumns.f k a0) (value_CheckColumns.f (k + 1) a0) := by
 intro a0 k
 obtain ⟨ih0, ih1⟩ := value_CheckColumns.mono_l k
 unfold value_CheckColumns.f
 repeat' first
  | (with_reducible exact ih0 _ _ _ _)
  | (with_reducible exact ih1 _ _ _ _ _ _ _ _ _)
  | (with_reducible exact kit_Name.mono _ _)
  | (with_reducible exact LeO.refl _)
  | (with_reducible exact LeO.none _)
  | (with_reducible refine LeO.ite ?_ ?_)
  | (with_reducible refine LeO.bind ?_ (fun _ => ?_))
  | exact ih0 _ _ _ _
  | exact ih1 _ _ _ _ _ _ _ _ _
  | exact kit_Name.mono _ _
  | exact LeO.none _
  | refine LeO.ite ?_ ?_
  | refine LeO.bind ?_ (fun _ => ?_)
set_option maxHeartbeats 8000000 in
set_option maxRecDepth 100000 in
theorem value_CheckColumns.calls (k : Nat) (A0 : Option Addr) (c0 : Nat) (l0 : List (S69)) (r : Int) (w : World) (hr0 : Kd.C k69 w A0 l0.length l0) (hc0 : l0.length ≤ c0) (h : value_CheckColumns.f k l0 = some r) :
    Calls Tryd.prog 30 #[.slice A0 l0.length c0] w fun e w' => e = .returned (.int .i64 r) ∧ Below w.heap.size w w' := by
 have hu69 := Tryd.underlying69
 have HR0 := Aside0.mk hr0
 have HC0 := Aside0.mk hc0
 clear hr0 hc0
 have HB := Aside0.mk (Below.refl w.heap.size w)
 have H : (if (l0.length : Int) > 20 then (some 2) else (if (l0.length : Int) = 0 then (some 6) else (value_CheckColumns.l0 k l0 l0 (l0.length : Int) 0))) = some r := h
 clear h
 by_cases c2 : (l0.length : Int) > 20
 · rw [if_pos c2] at H
   have c2b0 : decide (20 < (l0.length : Int)) = true := decide_eq_true c2
   have c2b1 : decide (20 < l0.length) = true := decide_eq_true (by omega)
   clear c2
   obtain rfl := Option.some.inj H
   go_enter Tryd.func30, Tryd.ntmps30
   go_wp2
   go_ret
   exact ⟨by first | rfl | (simp [errW_none, errW_some] <;> rfl) | (simp [*, errW_none, errW_some] <;> rfl), by repeat (first | (with_reducible first | exact HB.out | apply below_alloc | apply pw_below_drewN | apply below_drew1) | exact HB.out)⟩
 rw [if_neg c2] at H
 have c2b0 : decide (20 < (l0.length : Int)) = false := decide_eq_false c2
 have c2b1 : decide (20 < l0.length) = false := decide_eq_false (by omega)
 clear c2
 by_cases c3 : (l0.length : Int) = 0
 · rw [if_pos c3] at H
   have c3b0 : ((l0.length : Int) == 0) = true := beq_iff_eq.mpr c3
   have c3b1 : ((l0.length : Int) != 0) = false := bne_eq_false_iff_eq.mpr c3
   clear c3
   obtain rfl := Option.some.inj H
   go_enter Tryd.func30, Tryd.ntmps30
   go_wp2
   go_ret
   exact ⟨by first | rfl | (simp [errW_none, errW_some] <;> rfl) | (simp [*, errW_none, errW_some] <;> rfl), by repeat (first | (with_reducible first | exact HB.out | apply below_alloc | apply pw_below_drewN | apply below_drew1) | exact HB.out)⟩
 rw [if_neg c3] at H
 have c3b0 : ((l0.length : Int) == 0) = false := beq_eq_false_iff_ne.mpr c3
 have c3b1 : ((l0.length : Int) != 0) = true := bne_iff_ne.mpr c3
 have c3b2 : ¬ (l0 = []) := fun h_ => c3 (by rw [h_]; rfl)
 have H' := Aside0.mk H
 clear H
 go_enter Tryd.func30, Tryd.ntmps30
 go_wp2
 go_loopg [15] k (fun kq v15 w' => ∃ (x15_1 : Int), v15 = .int .i64 x15_1 ∧ Aside0 (value_CheckColumns.l0 kq l0 l0 (l0.length : Int) x15_1 = some r) ∧ Aside0 (kq ≤ k) ∧ Aside0 (Below w.heap.size w w'))
 case atStart => exact ⟨(0), s1q0, H', ⟨Nat.le_refl _⟩, ⟨by repeat (first | (with_reducible first | exact HB.out | apply below_alloc | apply pw_below_drewN | apply below_drew1) | exact HB.out)⟩⟩
 clear H'
 try clear c2
 try clear c2b0
 try clear c2b1
 try clear p2
 try clear c3
 try clear c3b0
 try clear c3b1
 try clear c3b2
 obtain ⟨x15_1, rfl, HA, HK1, HB⟩ := hrel
 cases gk with
 | zero => exact absurd HA.out (by simp [value_CheckColumns.l0])
 | succ k1 => ?_
 have H := HA.out
 clear HA
 simp only [value_CheckColumns.l0] at H
 by_cases c4 : x15_1 < (l0.length : Int)
 case neg =>
  rw [if_neg c4] at H
  have c4b0 : decide (x15_1 < (l0.length : Int)) = false := decide_eq_false c4
  clear c4
  obtain rfl := Option.some.inj H
  go_wp2
  go_ret
  exact ⟨by first | rfl | (simp [errW_none, errW_some] <;> rfl) | (simp [*, errW_none, errW_some] <;> rfl), by repeat (first | (with_reducible first | exact HB.out | apply below_alloc | apply pw_below_drewN | apply below_drew1) | exact HB.out)⟩
 rw [if_pos c4] at H
 have c4b0 : decide (x15_1 < (l0.length : Int)) = true := decide_eq_true c4
 clear c4
 by_cases c5 : 0 ≤ x15_1
 case neg =>
  rw [if_neg c5] at H
  exact absurd H (by simp)
 rw [if_pos c5] at H
 have c5b0 : decide (0 ≤ x15_1) = true := decide_eq_true c5
 clear c5
 by_cases c6 : x15_1 < (l0.length : Int)
 case neg =>
  rw [if_neg c6] at H
  exact absurd H (by simp)
 rw [if_pos c6] at H
 have c6b0 : decide (x15_1 < (l0.length : Int)) = true := decide_eq_true c6
 clear c6
 replace H := Option.bind_eq_some_iff.mp H
 obtain ⟨t103, A70, H⟩ := H
 replace H : (if t103 = true then (if x15_1 ≤ (l0.length : Int) then ((some (l0.take (x15_1 : Int).toNat : List (S69))).bind fun y104 => (value_CheckColumns.l1 k1 l0 l0 (l0.length : Int) x15_1 y104 (y104.length : Int) 0 ((rd_T69 l0 x15_1).f0) ((rd_T69 l0 x15_1).f1))) else (none)) else (some 5)) = some r := H
 have A7 := Aside0.mk A70
 clear A70
 by_cases c8 : t103 = true
 case neg =>
  replace c8 := Bool.eq_false_iff.mpr c8
  subst c8
  have H1 : (some 5) = some r := s1q10
  clear H
  have H := H1
  clear H1
  obtain rfl := Option.some.inj H
  have p101 : 0 ≤ (x15_1 : Int) := of_decide_eq_true s1q1
  have q101 : x15_1 < (l0.length : Int) := of_decide_eq_true s1q1
  obtain ⟨ad101, e101, hx101_0, hx101_1⟩ := at_T69 HR0.out x15_1 p101 q101
  cases e101
  replace hx101_0 := (HB.out.cell (World.block_lt_of_cell? w _ hx101_0)).trans hx101_0
  replace hx101_1 := (HB.out.cell (World.block_lt_of_cell? w _ hx101_1)).trans hx101_1
  replace p101 := eq_true p101
  replace q101 := eq_true q101
  go_wp2_with (first | ((with_reducible refine gate_dst (N := 4) rfl ?_); refine box_event ?hg (N := 4) ?hd (cs := #[.string (⟨#[]⟩ : ByteArray), .int .i64 0]) (t := 69) ?hr ?_; (case hd => rfl); (case hg => rfl); (case hr => first | (go_simp; done) | (go_simp; rfl)); intro gb102 hg w32 hbox hb; have n0_ := Aside0.mk (below_step s1q3 hb); have n1_ := Aside0.mk (hbox); have n2_ := Aside0.mk ((s1q6 : w.heap.size ≤ gb102)); have n3_ := Aside0.mk ((s1q6 : w.heap.size ≤ gb102)); clear HB; have HB := n0_; have BK102 := n1_; have GW102 := n2_; have GE102 := n3_; clear n0_ n1_ n2_ n3_; clear hb hbox hg; have hcz33_0 : w32.cell? ⟨gb102, 0, none⟩ = some (.string (⟨#[]⟩ : ByteArray)) := (blk_cell BK102.out 0).trans rfl; have hcz33_1 : w32.cell? ⟨gb102, 1, none⟩ = some (.int .i64 0) := (blk_cell BK102.out 1).trans rfl; have hfz33_0 := blk_frozen BK102.out 0; have hfz33_1 := blk_frozen BK102.out 1) | ((with_reducible refine gate_callee (f := 39) rfl ?_); refine goesL_ (some 22) rfl rfl Tryd.func39 (by kernel_rfl) rfl #[.string ((rd_T69 l0 x15_1).f0)] rfl s1q4 ?_; (with_reducible refine (kit_Name.calls k1 ((rd_T69 l0 x15_1).f0) false _ A7.out).mono ?_); rintro e w' ⟨rfl, ⟨nd, rfl⟩⟩; refine ⟨_, rfl, ?_⟩))
  go_ret
  exact ⟨by first | rfl | (simp [errW_none, errW_some] <;> rfl) | (simp [*, errW_none, errW_some] <;> rfl), by repeat (first | (with_reducible first | exact HB.out | apply below_alloc | apply pw_below_drewN | apply below_drew1 | refine below_set ?_ GE102.out) | exact HB.out)⟩
 subst c8
 have H1 : (if x15_1 ≤ (l0.length : Int) then ((some (l0.take (x15_1 : Int).toNat : List (S69))).bind fun y104 => (value_CheckColumns.l1 k1 l0 l0 (l0.length : Int) x15_1 y104 (y104.length : Int) 0 ((rd_T69 l0 x15_1).f0) ((rd_T69 l0 x15_1).f1))) else (none)) = some r := s1q11
 clear H
 have H := H1
 clear H1
 have c9b0 := eq_true (of_decide_eq_true s1q1 : 0 ≤ x15_1)
 by_cases c10 : x15_1 ≤ (l0.length : Int)
 case neg =>
  rw [if_neg c10] at H
  exact absurd H (by simp)
 rw [if_pos c10] at H
 have c10b0 := eq_true c10
 have c10b1 : decide (x15_1 ≤ (l0.length : Int)) = true := decide_eq_true c10
 clear c10
 obtain ⟨y104, hy104⟩ : ∃ y_ : List (S69), y_ = (l0.take (x15_1 : Int).toNat) := ⟨_, rfl⟩
 replace H : (value_CheckColumns.l1 k1 l0 l0 (l0.length : Int) x15_1 y104 (y104.length : Int) 0 ((rd_T69 l0 x15_1).f0) ((rd_T69 l0 x15_1).f1)) = some r := sqz hy104 H
 have Ny104 := Aside0.mk hy104
 clear hy104
 have H' := Aside0.mk H
 clear H
 have p101 : 0 ≤ (x15_1 : Int) := of_decide_eq_true s1q1
 have q101 : x15_1 < (l0.length : Int) := of_decide_eq_true s1q1
 obtain ⟨ad101, e101, hx101_0, hx101_1⟩ := at_T69 HR0.out x15_1 p101 q101
 cases e101
 replace hx101_0 := (HB.out.cell (World.block_lt_of_cell? w _ hx101_0)).trans hx101_0
 replace hx101_1 := (HB.out.cell (World.block_lt_of_cell? w _ hx101_1)).trans hx101_1
 replace p101 := eq_true p101
 replace q101 := eq_true q101
 go_wp2_with (first | ((with_reducible refine gate_dst (N := 4) rfl ?_); refine box_event ?hg (N := 4) ?hd (cs := #[.string (⟨#[]⟩ : ByteArray), .int .i64 0]) (t := 69) ?hr ?_; (case hd => rfl); (case hg => rfl); (case hr => first | (go_simp; done) | (go_simp; rfl)); intro gb102 hg w11 hbox hb; have n0_ := Aside0.mk (below_step s1q3 hb); have n1_ := Aside0.mk (hbox); have n2_ := Aside0.mk ((s1q6 : w.heap.size ≤ gb102)); have n3_ := Aside0.mk ((s1q6 : w.heap.size ≤ gb102)); clear HB; have HB := n0_; have BK102 := n1_; have GW102 := n2_; have GE102 := n3_; clear n0_ n1_ n2_ n3_; clear hb hbox hg; have hcz12_0 : w11.cell? ⟨gb102, 0, none⟩ = some (.string (⟨#[]⟩ : ByteArray)) := (blk_cell BK102.out 0).trans rfl; have hcz12_1 : w11.cell? ⟨gb102, 1, none⟩ = some (.int .i64 0) := (blk_cell BK102.out 1).trans rfl; have hfz12_0 := blk_frozen BK102.out 0; have hfz12_1 := blk_frozen BK102.out 1) | ((with_reducible refine gate_store (t := 69) (p := 4) rfl ?_); refine store_event (t := 69) (p := 4) (v := ?vo_w13) (w1 := ((w11.setCell ⟨gb102, 0, none⟩ (.string ((rd_T69 l0 x15_1).f0))).setCell ⟨gb102, 1, none⟩ (.int .i64 ((rd_T69 l0 x15_1).f1)))) ?hg ?ho ?hn ?hr ?_; (case ho => rfl); (case hg => rfl); (case hn => rfl); (case hr => first | (go_simp; done) | (go_simp; rfl)); intro w13 hw; have n0_ : Aside0 (w13.heap[gb102]? = some (.cells #[.string ((rd_T69 l0 x15_1).f0), .int .i64 ((rd_T69 l0 x15_1).f1)] 69 (0, 0))) := ⟨(by rw [hw]; exact (by (with_reducible repeat (first | refine blk_drewN ?_ _ | refine blk_drew ?_ | refine blk_alloc ?_ _)); refine blk_put (cs := #[.string ((rd_T69 l0 x15_1).f0), .int .i64 0]) ?_ 1 _ rfl; (with_reducible repeat (first | refine blk_drewN ?_ _ | refine blk_drew ?_ | refine blk_alloc ?_ _)); refine blk_put (cs := #[.string (⟨#[]⟩ : ByteArray), .int .i64 0]) ?_ 0 _ rfl; (with_reducible repeat (first | refine blk_drewN ?_ _ | refine blk_drew ?_ | refine blk_alloc ?_ _)); exact BK102.out))⟩; have n1_ : Aside0 (Below w.heap.size w w13) := ⟨(by rw [hw]; exact s1q5)⟩; clear hw; clear BK102; clear HB; have BK102 := n0_; have HB := n1_; clear n0_ n1_; have hcz14_0 : w13.cell? ⟨gb102, 0, none⟩ = some (.string ((rd_T69 l0 x15_1).f0)) := (blk_cell BK102.out 0).trans rfl; have hcz14_1 : w13.cell? ⟨gb102, 1, none⟩ = some (.int .i64 ((rd_T69 l0 x15_1).f1)) := (blk_cell BK102.out 1).trans rfl; have hfz14_0 := blk_frozen BK102.out 0; have hfz14_1 := blk_frozen BK102.out 1) | ((with_reducible refine gate_callee (f := 39) rfl ?_); refine goesL_ (some 22) rfl rfl Tryd.func39 (by kernel_rfl) rfl #[.string ((rd_T69 l0 x15_1).f0)] rfl s1q4 ?_; (with_reducible refine (kit_Name.calls k1 ((rd_T69 l0 x15_1).f0) true _ A7.out).mono ?_); rintro e w' ⟨rfl, ⟨nd, rfl⟩⟩; refine ⟨_, rfl, ?_⟩; have q15 : (x15_1 : Int) ≤ ((l0.length : Int) : Int) := of_decide_eq_true s1q1; obtain ⟨i015, hi015, _, hsz15, _⟩ := info_parts info69; have hroom15 : l0.length ≤ c0 := HC0.out; have hC15 : Kd.C k69 _ (some ad101) l0.length l0 := HR0.out; have hcut15 := cut_to (P := Tryd.prog) 22 69 .i64 Tryd.underlying22 hi015 (some ad101) l0.length c0 x15_1 (of_decide_eq_true s1q1) q15 hroom15; have hr15 := Kd.C_take (m := (x15_1 : Int).toNat) hC15 (by omega); have hy15 : y104.length = (x15_1 : Int).toNat := (by rw [Ny104.out, List.length_take]; omega); rw [← Ny104.out] at hr15; rw [← hy15] at hcut15; have HR107 := Aside0.mk hr15; have HC107 := Aside0.mk (show y104.length ≤ c0 from by omega); clear hr15 hC15 hroom15 hi015 hsz15; have KY15 := Aside0.mk hy15; clear hy15; replace q15 := eq_true q15))
 go_loopg [28] k1 (fun kq v28 w' => ∃ (x28_2 : Int), v28 = .int .i64 x28_2 ∧ Aside0 (value_CheckColumns.l1 kq l0 l0 (l0.length : Int) x15_1 y104 (y104.length : Int) x28_2 ((rd_T69 l0 x15_1).f0) ((rd_T69 l0 x15_1).f1) = some r) ∧ Aside0 (kq ≤ k1) ∧ Aside0 (w'.heap[gb102]? = some (.cells #[.string ((rd_T69 l0 x15_1).f0), .int .i64 ((rd_T69 l0 x15_1).f1)] 69 (0, 0))) ∧ Aside0 (Below w.heap.size w w'))
 case atStart => exact ⟨(0), s1q0, H', ⟨Nat.le_refl _⟩, ⟨by (with_reducible repeat (first | refine blk_drewN ?_ _ | refine blk_drew ?_ | refine blk_alloc ?_ _)); exact BK102.out⟩, ⟨by repeat (first | (with_reducible first | exact HB.out | apply below_alloc | apply pw_below_drewN | apply below_drew1 | refine below_set ?_ GE102.out) | exact HB.out)⟩⟩
 clear H'
 try clear c1
 try clear p1
 try clear q1
 try clear hx1
 try clear c2
 try clear c2b0
 try clear c2b1
 try clear p2
 try clear c3
 try clear c3b0
 try clear c3b1
 try clear c3b2
 try clear c4
 try clear c4b0
 try clear c5
 try clear c5b0
 try clear c6
 try clear c6b0
 try clear c8
 try clear c9
 try clear c9b0
 try clear c10
 try clear c10b0
 try clear c10b1
 try clear p10
 try clear q10
 try clear hx10
 try clear q15
 try clear hcz12_0
 try clear hcz12_1
 try clear hcz14_0
 try clear hcz14_1
 try clear hfz12_0
 try clear hfz12_1
 try clear hfz14_0
 try clear hfz14_1
 try clear hx101_0
 try clear hx101_1
 try clear p101
 try clear p2
 try clear q101
 try clear q15
 obtain ⟨x28_2, rfl, HA, HK2, BK102, HB⟩ := hrel
 cases gk with
 | zero => exact absurd HA.out (by simp [value_CheckColumns.l1])
 | succ k2 => ?_
 have H := HA.out
 clear HA
 simp only [value_CheckColumns.l1] at H
 by_cases c16 : x28_2 < (y104.length : Int)
 case neg =>
  rw [if_neg c16] at H
  have c16b0 : decide (x28_2 < (y104.length : Int)) = false := decide_eq_false c16
  clear c16
  replace H := Option.bind_eq_some_iff.mp H
  obtain ⟨t110, A280, H⟩ := H
  replace H : (if t110 = true then (value_CheckColumns.l0 k2 l0 l0 (l0.length : Int) (wrap64 (x15_1 + 1))) else (some 4)) = some r := H
  have A28 := Aside0.mk A280
  clear A280
  by_cases c29 : t110 = true
  case neg =>
   replace c29 := Bool.eq_false_iff.mpr c29
   subst c29
   have H1 : (some 4) = some r := s1q10
   clear H
   have H := H1
   clear H1
   obtain rfl := Option.some.inj H
   have hcz31_0 : wr.cell? ⟨gb102, 0, none⟩ = some (.string ((rd_T69 l0 x15_1).f0)) := (blk_cell BK102.out 0).trans rfl
   have hcz31_1 : wr.cell? ⟨gb102, 1, none⟩ = some (.int .i64 ((rd_T69 l0 x15_1).f1)) := (blk_cell BK102.out 1).trans rfl
   have hfz31_0 := blk_frozen BK102.out 0
   have hfz31_1 := blk_frozen BK102.out 1
   go_wp2_with (first | ((with_reducible refine gate_callee (f := 12) rfl ?_); refine goesL_ (some 40) rfl rfl Tryd.func12 (by kernel_rfl) rfl #[.int .i64 ((rd_T69 l0 x15_1).f1), .int .i64 1, .int .i64 3] rfl s1q4 ?_; (with_reducible refine (kit_In.calls ((rd_T69 l0 x15_1).f1) 1 3 false _ A28.out).mono ?_); rintro e w' ⟨rfl, ⟨nd, rfl⟩⟩; refine ⟨_, rfl, ?_⟩))
   go_ret
   exact ⟨by first | rfl | (simp [errW_none, errW_some] <;> rfl) | (simp [*, errW_none, errW_some] <;> rfl), by repeat (first | (with_reducible first | exact HB.out | apply below_alloc | apply pw_below_drewN | apply below_drew1 | refine below_set ?_ GE102.out) | exact HB.out)⟩
  subst c29
  have H1 : (value_CheckColumns.l0 k2 l0 l0 (l0.length : Int) (wrap64 (x15_1 + 1))) = some r := s1q11
  clear H
  have H := H1
  clear H1
  have H' := Aside0.mk H
  clear H
  have hcz30_0 : wr.cell? ⟨gb102, 0, none⟩ = some (.string ((rd_T69 l0 x15_1).f0)) := (blk_cell BK102.out 0).trans rfl
  have hcz30_1 : wr.cell? ⟨gb102, 1, none⟩ = some (.int .i64 ((rd_T69 l0 x15_1).f1)) := (blk_cell BK102.out 1).trans rfl
  have hfz30_0 := blk_frozen BK102.out 0
  have hfz30_1 := blk_frozen BK102.out 1
  go_wp2_with (first | ((with_reducible refine gate_callee (f := 12) rfl ?_); refine goesL_ (some 40) rfl rfl Tryd.func12 (by kernel_rfl) rfl #[.int .i64 ((rd_T69 l0 x15_1).f1), .int .i64 1, .int .i64 3] rfl s1q4 ?_; (with_reducible refine (kit_In.calls ((rd_T69 l0 x15_1).f1) 1 3 true _ A28.out).mono ?_); rintro e w' ⟨rfl, ⟨nd, rfl⟩⟩; refine ⟨_, rfl, ?_⟩))
  first | go_roundg k2 | (refine Handed.intro k2 ?measure ?_; rotate_left; go_step; (repeat apply Exists.intro); simp only [add_plain]; refine ⟨?rel, rfl⟩)
  case measure => have := HK1.out; have := HK2.out; omega
  case rel => exact ⟨(wrap64 (x15_1 + 1)), s1q0, H', ⟨by have := HK1.out; have := HK2.out; omega⟩, ⟨by repeat (first | (with_reducible first | exact HB.out | apply below_alloc | apply pw_below_drewN | apply below_drew1 | refine below_set ?_ GE102.out) | exact HB.out)⟩⟩
 rw [if_pos c16] at H
 have c16b0 : decide (x28_2 < (y104.length : Int)) = true := decide_eq_true c16
 clear c16
 by_cases c17 : 0 ≤ x28_2
 case neg =>
  rw [if_neg c17] at H
  exact absurd H (by simp)
 rw [if_pos c17] at H
 have c17b0 : decide (0 ≤ x28_2) = true := decide_eq_true c17
 clear c17
 by_cases c18 : x28_2 < (y104.length : Int)
 case neg =>
  rw [if_neg c18] at H
  exact absurd H (by simp)
 rw [if_pos c18] at H
 have c18b0 : decide (x28_2 < (y104.length : Int)) = true := decide_eq_true c18
 clear c18
 by_cases c19 : ((rd_T69 y104 x28_2).f0).toList = ((rd_T69 l0 x15_1).f0).toList
 · rw [if_pos c19] at H
   have c19b0 : (((rd_T69 y104 x28_2).f0).toList == ((rd_T69 l0 x15_1).f0).toList) = true := beq_iff_eq.mpr c19
   have c19b1 : (((rd_T69 y104 x28_2).f0).toList != ((rd_T69 l0 x15_1).f0).toList) = false := bne_eq_false_iff_eq.mpr c19
   clear c19
   obtain rfl := Option.some.inj H
   have p108 : 0 ≤ (x28_2 : Int) := of_decide_eq_true s1q1
   have q108 : x28_2 < (y104.length : Int) := of_decide_eq_true s1q1
   obtain ⟨ad108, e108, hx108_0, hx108_1⟩ := at_T69 HR107.out x28_2 p108 q108
   obtain rfl : ad101 = ad108 := (by injection e108)
   replace hx108_0 := (HB.out.cell (World.block_lt_of_cell? w _ hx108_0)).trans hx108_0
   replace hx108_1 := (HB.out.cell (World.block_lt_of_cell? w _ hx108_1)).trans hx108_1
   replace p108 := eq_true p108
   replace q108 := eq_true q108
   go_wp2_with (first | ((with_reducible refine gate_dst (N := 6) rfl ?_); refine box_event ?hg (N := 6) ?hd (cs := #[.string (⟨#[]⟩ : ByteArray), .int .i64 0]) (t := 69) ?hr ?_; (case hd => rfl); (case hg => rfl); (case hr => first | (go_simp; done) | (go_simp; rfl)); intro gb109 hg w20 hbox hb; have n0_ := Aside0.mk (blk_below (g := gb102) (o := .cells #[.string ((rd_T69 l0 x15_1).f0), .int .i64 ((rd_T69 l0 x15_1).f1)] 69 (0, 0)) s1q2 hb); have n1_ := Aside0.mk (below_step s1q5 hb); have n2_ := Aside0.mk (hbox); have n3_ := Aside0.mk ((s1q7 : w.heap.size ≤ gb109)); have n4_ := Aside0.mk ((s1q7 : w.heap.size ≤ gb109)); have n5_ := Aside0.mk ((s1q9 : gb102 ≠ gb109)); have n6_ := Aside0.mk ((s1q8 : gb109 ≠ gb102)); clear BK102; clear HB; have BK102 := n0_; have HB := n1_; have BK109 := n2_; have GW109 := n3_; have GE109 := n4_; have NB102_109 := n5_; have NB109_102 := n6_; clear n0_ n1_ n2_ n3_ n4_ n5_ n6_; clear hb hbox hg; have hnb21 := NB109_102.out; have hnc21 := NB102_109.out; have hcz22_0 : w20.cell? ⟨gb109, 0, none⟩ = some (.string (⟨#[]⟩ : ByteArray)) := (blk_cell BK109.out 0).trans rfl; have hcz22_1 : w20.cell? ⟨gb109, 1, none⟩ = some (.int .i64 0) := (blk_cell BK109.out 1).trans rfl; have hfz22_0 := blk_frozen BK109.out 0; have hfz22_1 := blk_frozen BK109.out 1; have hcz23_0 : w20.cell? ⟨gb102, 0, none⟩ = some (.string ((rd_T69 l0 x15_1).f0)) := (blk_cell BK102.out 0).trans rfl; have hcz23_1 : w20.cell? ⟨gb102, 1, none⟩ = some (.int .i64 ((rd_T69 l0 x15_1).f1)) := (blk_cell BK102.out 1).trans rfl; have hfz23_0 := blk_frozen BK102.out 0; have hfz23_1 := blk_frozen BK102.out 1))
   go_ret
   exact ⟨by first | rfl | (simp [errW_none, errW_some] <;> rfl) | (simp [*, errW_none, errW_some] <;> rfl), by repeat (first | (with_reducible first | exact HB.out | apply below_alloc | apply pw_below_drewN | apply below_drew1 | refine below_set ?_ GE102.out | refine below_set ?_ GE109.out) | exact HB.out)⟩
 rw [if_neg c19] at H
 have c19b0 : (((rd_T69 y104 x28_2).f0).toList == ((rd_T69 l0 x15_1).f0).toList) = false := beq_eq_false_iff_ne.mpr c19
 have c19b1 : (((rd_T69 y104 x28_2).f0).toList != ((rd_T69 l0 x15_1).f0).toList) = true := bne_iff_ne.mpr c19
 have H' := Aside0.mk H
 clear H
 have p108 : 0 ≤ (x28_2 : Int) := of_decide_eq_true s1q1
 have q108 : x28_2 < (y104.length : Int) := of_decide_eq_true s1q1
 obtain ⟨ad108, e108, hx108_0, hx108_1⟩ := at_T69 HR107.out x28_2 p108 q108
 obtain rfl : ad101 = ad108 := (by injection e108)
 replace hx108_0 := (HB.out.cell (World.block_lt_of_cell? w _ hx108_0)).trans hx108_0
 replace hx108_1 := (HB.out.cell (World.block_lt_of_cell? w _ hx108_1)).trans hx108_1
 replace p108 := eq_true p108
 replace q108 := eq_true q108
 go_wp2_with (first | ((with_reducible refine gate_dst (N := 6) rfl ?_); refine box_event ?hg (N := 6) ?hd (cs := #[.string (⟨#[]⟩ : ByteArray), .int .i64 0]) (t := 69) ?hr ?_; (case hd => rfl); (case hg => rfl); (case hr => first | (go_simp; done) | (go_simp; rfl)); intro gb109 hg w24 hbox hb; have n0_ := Aside0.mk (blk_below (g := gb102) (o := .cells #[.string ((rd_T69 l0 x15_1).f0), .int .i64 ((rd_T69 l0 x15_1).f1)] 69 (0, 0)) s1q2 hb); have n1_ := Aside0.mk (below_step s1q5 hb); have n2_ := Aside0.mk (hbox); have n3_ := Aside0.mk ((s1q7 : w.heap.size ≤ gb109)); have n4_ := Aside0.mk ((s1q7 : w.heap.size ≤ gb109)); have n5_ := Aside0.mk ((s1q9 : gb102 ≠ gb109)); have n6_ := Aside0.mk ((s1q8 : gb109 ≠ gb102)); clear BK102; clear HB; have BK102 := n0_; have HB := n1_; have BK109 := n2_; have GW109 := n3_; have GE109 := n4_; have NB102_109 := n5_; have NB109_102 := n6_; clear n0_ n1_ n2_ n3_ n4_ n5_ n6_; clear hb hbox hg; have hnb25 := NB109_102.out; have hnc25 := NB102_109.out; have hcz26_0 : w24.cell? ⟨gb109, 0, none⟩ = some (.string (⟨#[]⟩ : ByteArray)) := (blk_cell BK109.out 0).trans rfl; have hcz26_1 : w24.cell? ⟨gb109, 1, none⟩ = some (.int .i64 0) := (blk_cell BK109.out 1).trans rfl; have hfz26_0 := blk_frozen BK109.out 0; have hfz26_1 := blk_frozen BK109.out 1; have hcz27_0 : w24.cell? ⟨gb102, 0, none⟩ = some (.string ((rd_T69 l0 x15_1).f0)) := (blk_cell BK102.out 0).trans rfl; have hcz27_1 : w24.cell? ⟨gb102, 1, none⟩ = some (.int .i64 ((rd_T69 l0 x15_1).f1)) := (blk_cell BK102.out 1).trans rfl; have hfz27_0 := blk_frozen BK102.out 0; have hfz27_1 := blk_frozen BK102.out 1))
 first | go_roundg k2 | (refine Handed.intro k2 ?measure ?_; rotate_left; go_step; (repeat apply Exists.intro); simp only [add_plain]; refine ⟨?rel, rfl⟩)
 case measure => have := HK1.out; have := HK2.out; omega
 case rel => exact ⟨(wrap64 (x28_2 + 1)), s1q0, H', ⟨by have := HK1.out; have := HK2.out; omega⟩, ⟨by (with_reducible repeat (first | refine blk_drewN ?_ _ | refine blk_drew ?_ | refine blk_alloc ?_ _)); refine blk_far ?_ NB102_109.out _; (with_reducible repeat (first | refine blk_drewN ?_ _ | refine blk_drew ?_ | refine blk_alloc ?_ _)); refine blk_far ?_ NB102_109.out _; (with_reducible repeat (first | refine blk_drewN ?_ _ | refine blk_drew ?_ | refine blk_alloc ?_ _)); exact BK102.out⟩, ⟨by repeat (first | (with_reducible first | exact HB.out | apply below_alloc | apply pw_below_drewN | apply below_drew1 | refine below_set ?_ GE102.out | refine below_set ?_ GE109.out) | exact HB.out)⟩⟩
/-! ### kit_IsNull: function 25 -/
def kit_IsNull.f (a0_0 : Int) (a0_1 : Int) (a0_2 : ByteArray) : Option (Bool) := some (a0_0 == 0)
set_option maxHeartbeats 8000000 in
set_option maxRecDepth 100000 in
theorem kit_IsNull.calls (a0_0 : Int) (a0_1 : Int) (a0_2 : ByteArray) (r : Bool) (w : World) (h : kit_IsNull.f a0_0 a0_1 a0_2 = some r) :
    Calls Tryd.prog 25 #[.agg #[.int .i64 a0_0, .int .i64 a0_1, .string a0_2]] w fun e w' => e = .returned (.bool r) ∧ Below w.heap.size w w' := by
 have hu54 := Tryd.underlying54
 have HB := Aside0.mk (Below.refl w.heap.size w)
 have H : (some (a0_0 == 0)) = some r := h
 clear h
 obtain rfl := Option.some.inj H
 go_enter Tryd.func25, Tryd.ntmps25
 go_wp2_with (first | ((with_reducible refine gate_dst (N := 1) rfl ?_); refine box_event ?hg (N := 1) ?hd (cs := #[.int .i64 a0_0, .int .i64 a0_1, .string a0_2]) (t := 54) ?hr ?_; (case hd => rfl); (case hg => rfl); (case hr => first | (go_simp; done) | (go_simp; rfl)); intro gb111 hg w2 hbox hb; have n0_ := Aside0.mk (below_step s1q3 hb); have n1_ := Aside0.mk (hbox); have n2_ := Aside0.mk ((s1q6 : w.heap.size ≤ gb111)); have n3_ := Aside0.mk ((s1q6 : w.heap.size ≤ gb111)); clear HB; have HB := n0_; have BK111 := n1_; have GW111 := n2_; have GE111 := n3_; clear n0_ n1_ n2_ n3_; clear hb hbox hg; have hcz3_0 : w2.cell? ⟨gb111, 0, none⟩ = some (.int .i64 a0_0) := (blk_cell BK111.out 0).trans rfl; have hcz3_1 : w2.cell? ⟨gb111, 1, none⟩ = some (.int .i64 a0_1) := (blk_cell BK111.out 1).trans rfl; have hcz3_2 : w2.cell? ⟨gb111, 2, none⟩ = some (.string a0_2) := (blk_cell BK111.out 2).trans rfl; have hfz3_0 := blk_frozen BK111.out 0; have hfz3_1 := blk_frozen BK111.out 1; have hfz3_2 := blk_frozen BK111.out 2))
 go_ret
 exact ⟨by first | rfl | (simp [errW_none, errW_some] <;> rfl) | (simp [*, errW_none, errW_some] <;> rfl), by repeat (first | (with_reducible first | exact HB.out | apply below_alloc | apply pw_below_drewN | apply below_drew1 | refine below_set ?_ GE111.out) | exact HB.out)⟩
/-! ### kit_Range: function 38 -/
def kit_Range.f (a0 : Int) (a1 : Int) (a2 : Int) : Option (Int) := (kit_In.f a0 a1 a2).bind fun t112 => (if t112 = true then (some 0) else (some 1))
set_option maxHeartbeats 8000000 in
set_option maxRecDepth 100000 in
theorem kit_Range.calls (a0 : Int) (a1 : Int) (a2 : Int) (r : Int) (w : World) (h : kit_Range.f a0 a1 a2 = some r) :
    Calls Tryd.prog 38 #[.int .i64 a0, .int .i64 a1, .int .i64 a2] w fun e w' => e = .returned (.int .i64 r) ∧ Drawn0 w w' := by
 have H : ((kit_In.f a0 a1 a2).bind fun t112 => (if t112 = true then (some 0) else (some 1))) = some r := h
 clear h
 replace H := Option.bind_eq_some_iff.mp H
 obtain ⟨t112, A40, H⟩ := H
 replace H : (if t112 = true then (some 0) else (some 1)) = some r := H
 have A4 := Aside0.mk A40
 clear A40
 by_cases c5 : t112 = true
 · subst c5
   have H1 : (some 0) = some r := s1q11
   clear H
   have H := H1
   clear H1
   obtain rfl := Option.some.inj H
   go_enter Tryd.func38, Tryd.ntmps38
   go_wp2_with (first | ((with_reducible refine gate_callee (f := 12) rfl ?_); refine goesL_ (some 10) rfl rfl Tryd.func12 (by kernel_rfl) rfl #[.int .i64 a0, .int .i64 a1, .int .i64 a2] rfl s1q4 ?_; (with_reducible refine (kit_In.calls a0 a1 a2 true _ A4.out).mono ?_); rintro e w' ⟨rfl, ⟨nd, rfl⟩⟩; refine ⟨_, rfl, ?_⟩))
   go_ret
   exact ⟨by first | rfl | (simp; done) | (simp [*]; done), by repeat (first | exact Drawn0.refl _ | apply Drawn0.step)⟩
 replace c5 := Bool.eq_false_iff.mpr c5
 subst c5
 have H1 : (some 1) = some r := s1q10
 clear H
 have H := H1
 clear H1
 obtain rfl := Option.some.inj H
 go_enter Tryd.func38, Tryd.ntmps38
 go_wp2_with (first | ((with_reducible refine gate_callee (f := 12) rfl ?_); refine goesL_ (some 10) rfl rfl Tryd.func12 (by kernel_rfl) rfl #[.int .i64 a0, .int .i64 a1, .int .i64 a2] rfl s1q4 ?_; (with_reducible refine (kit_In.calls a0 a1 a2 false _ A4.out).mono ?_); rintro e w' ⟨rfl, ⟨nd, rfl⟩⟩; refine ⟨_, rfl, ?_⟩))
 go_ret
 exact ⟨by first | rfl | (simp; done) | (simp [*]; done), by repeat (first | exact Drawn0.refl _ | apply Drawn0.step)⟩
end Go.Proofs.YtgdbkhbaekeijaaDoor.F
