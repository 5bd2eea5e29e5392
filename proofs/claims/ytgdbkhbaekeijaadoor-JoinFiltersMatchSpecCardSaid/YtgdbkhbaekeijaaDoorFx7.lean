-- Printed by a program of this session (a patched print).
import Derived.Test.YtgdbkhbaekeijaaDoorFx0
namespace Go.Proofs.YtgdbkhbaekeijaaDoor.F
open Go.RowKit Go.Proofs.YtgdbkhbaekeijaaDoorW.PrintWords Go.Proofs.YtgdbkhbaekeijaaDoorW.PrintLast Go.Proofs.YtgdbkhbaekeijaaDoorW.PrintMore
attribute [local go_sem] max2_int min2_int max_two min_two max_three min_three max_four min_four   -- for this text's walks alone
set_option linter.unusedVariables false
set_option linter.unusedSimpArgs false

theorem s7qm0 {p : Prop} (h : p := by repeat' first | (with_reducible exact ih0 _ _) | (with_reducible exact ih1 _ _ _) | (with_reducible exact peristyleref1_IsName.mono _ _) | (with_reducible exact LeO.refl _) | (with_reducible exact LeO.none _) | (with_reducible refine LeO.ite ?_ ?_) | (with_reducible refine LeO.bind ?_ (fun _ => ?_)) | exact ih0 _ _ | exact ih1 _ _ _ | exact peristyleref1_IsName.mono _ _ | exact LeO.none _ | refine LeO.ite ?_ ?_ | refine LeO.bind ?_ (fun _ => ?_)) : p := h
theorem s7q0 {p : Prop} (h : p := by first | rfl | (simp; done) | (simp [*]; done)) : p := h
theorem s7q1 {p : Prop} (h : p := by first | (with_reducible assumption) | assumption) : p := h
theorem s7q2 {p : Prop} (h : p := by rw [if_neg (show ¬ (false = true) by decide)] at H; exact H) : p := h
/-! ### peristyleref1_IsName: function 41 -/
def peristyleref1_IsName.l0 : Nat → ByteArray → Int → Option (Bool)
  | 0, _, _ => none
  | k + 1, x0, x3 => if x3 < (x0.size : Int) then (if 0 ≤ x3 then (if (bt x0 x3) ≥ 97 then (if ((bt x0 x3) ≤ 122) then (peristyleref1_IsName.l0 k x0 (wrap64 (x3 + 1))) else (if x3 = 0 then (some false) else (if (bt x0 x3) = 95 then (peristyleref1_IsName.l0 k x0 (wrap64 (x3 + 1))) else (if (bt x0 x3) < 48 then (some false) else (if (bt x0 x3) > 57 then (some false) else (peristyleref1_IsName.l0 k x0 (wrap64 (x3 + 1)))))))) else (if x3 = 0 then (some false) else (if (bt x0 x3) = 95 then (peristyleref1_IsName.l0 k x0 (wrap64 (x3 + 1))) else (if (bt x0 x3) < 48 then (some false) else (if (bt x0 x3) > 57 then (some false) else (peristyleref1_IsName.l0 k x0 (wrap64 (x3 + 1)))))))) else (none)) else (if x0.toList = ([] : List UInt8) then (some false) else (some (decide ((x0.size : Int) ≤ 32))))
def peristyleref1_IsName.f (k : Nat) (a0 : ByteArray) : Option (Bool) := peristyleref1_IsName.l0 k a0 0
theorem peristyleref1_IsName.mono_l : ∀ k, (∀ y0 y1, LeO (peristyleref1_IsName.l0 k y0 y1) (peristyleref1_IsName.l0 (k + 1) y0 y1))
  | 0 => fun _ _ r h => by simp [peristyleref1_IsName.l0] at h
  | k + 1 => by
    have ih0 := peristyleref1_IsName.mono_l k
    · intro y0 y1
      unfold peristyleref1_IsName.l0
      repeat' first | (with_reducible exact ih0 _ _) | (with_reducible exact LeO.refl _) | (with_reducible exact LeO.none _) | (with_reducible refine LeO.ite ?_ ?_) | (with_reducible refine LeO.bind ?_ (fun _ => ?_)) | exact ih0 _ _ | exact LeO.none _ | refine LeO.ite ?_ ?_ | refine LeO.bind ?_ (fun _ => ?_)
theorem peristyleref1_IsName.mono : ∀ a0 k, LeO (peristyleref1_IsName.f k a0) (peristyleref1_IsName.f (k + 1) a0) := by
 intro a0 k
 have ih0 := peristyleref1_IsName.mono_l k
 unfold peristyleref1_IsName.f
 repeat' first
  | (with_reducible exact ih0 _ _)
  | (with_reducible exact LeO.refl _)
  | (with_reducible exact LeO.none _)
  | (with_reducible refine LeO.ite ?_ ?_)
  | (with_reducible refine LeO.bind ?_ (fun _ => ?_))
  | exact ih0 _ _
  | exact LeO.none _
  | refine LeO.ite ?_ ?_
  | refine LeO.bind ?_ (fun _ => ?_)
set_option maxHeartbeats 8000000 in
set_option maxRecDepth 100000 in
theorem peristyleref1_IsName.calls (k : Nat) (a0 : ByteArray) (r : Bool) (w : World) (h : peristyleref1_IsName.f k a0 = some r) :
    Calls Tryd.prog 41 #[.string a0] w fun e w' => e = .returned (.bool r) ∧ Drawn0 w w' := by
 have H : (peristyleref1_IsName.l0 k a0 0) = some r := h
 clear h
 have H' := Aside0.mk H
 clear H
 go_enter Tryd.func41, Tryd.ntmps41
 go_wp2
 go_loopg [3] k (fun kq v3 w' => ∃ (x3_1 : Int), v3 = .int .i64 x3_1 ∧ Aside0 (peristyleref1_IsName.l0 kq a0 x3_1 = some r) ∧ Aside0 (kq ≤ k) ∧ Drawn0 w w')
 case atStart => exact ⟨(0), s7q0, H', ⟨Nat.le_refl _⟩, by repeat (first | exact Drawn0.refl _ | apply Drawn0.step)⟩
 clear H'
 obtain ⟨x3_1, rfl, HA, HK1, ⟨m1, rfl⟩⟩ := hrel
 cases gk with
 | zero => exact absurd HA.out (by simp [peristyleref1_IsName.l0])
 | succ k1 => ?_
 have H := HA.out
 clear HA
 simp only [peristyleref1_IsName.l0] at H
 by_cases c2 : x3_1 < (a0.size : Int)
 case neg =>
  rw [if_neg c2] at H
  have c2b0 : decide (x3_1 < (a0.size : Int)) = false := decide_eq_false c2
  clear c2
  by_cases c22 : a0.toList = ([] : List UInt8)
  case neg =>
   rw [if_neg c22] at H
   have c22b0 : (a0.toList == ([] : List UInt8)) = false := beq_eq_false_iff_ne.mpr c22
   have c22b1 : (a0.toList != ([] : List UInt8)) = true := bne_iff_ne.mpr c22
   obtain rfl := Option.some.inj H
   go_wp2
   go_ret
   exact ⟨by first | rfl | (simp; done) | (simp [*]; done), by repeat (first | exact Drawn0.refl _ | apply Drawn0.step)⟩
  rw [if_pos c22] at H
  have c22b0 : (a0.toList == ([] : List UInt8)) = true := beq_iff_eq.mpr c22
  have c22b1 : (a0.toList != ([] : List UInt8)) = false := bne_eq_false_iff_eq.mpr c22
  clear c22
  obtain rfl := Option.some.inj H
  go_wp2
  go_ret
  exact ⟨by first | rfl | (simp; done) | (simp [*]; done), by repeat (first | exact Drawn0.refl _ | apply Drawn0.step)⟩
 rw [if_pos c2] at H
 have c2b0 : decide (x3_1 < (a0.size : Int)) = true := decide_eq_true c2
 clear c2
 by_cases c3 : 0 ≤ x3_1
 case neg =>
  rw [if_neg c3] at H
  exact absurd H (by simp)
 rw [if_pos c3] at H
 have c3b0 : decide (0 ≤ x3_1) = true := decide_eq_true c3
 clear c3
 by_cases c5 : (bt a0 x3_1) ≥ 97
 case neg =>
  rw [if_neg c5] at H
  have c5b0 : decide (97 ≤ (bt a0 x3_1)) = false := decide_eq_false c5
  clear c5
  by_cases c15 : x3_1 = 0
  · rw [if_pos c15] at H
    have c15b0 : (x3_1 == 0) = true := beq_iff_eq.mpr c15
    have c15b1 : (x3_1 != 0) = false := bne_eq_false_iff_eq.mpr c15
    clear c15
    obtain rfl := Option.some.inj H
    have p4 : 0 ≤ (x3_1 : Int) := of_decide_eq_true s7q1
    have q4 : x3_1 < (a0.size : Int) := of_decide_eq_true s7q1
    have hx4 := bt_at a0 x3_1
    replace p4 := eq_true p4
    replace q4 := eq_true q4
    go_wp2
    go_ret
    exact ⟨by first | rfl | (simp; done) | (simp [*]; done), by repeat (first | exact Drawn0.refl _ | apply Drawn0.step)⟩
  rw [if_neg c15] at H
  have c15b0 : (x3_1 == 0) = false := beq_eq_false_iff_ne.mpr c15
  have c15b1 : (x3_1 != 0) = true := bne_iff_ne.mpr c15
  by_cases c17 : (bt a0 x3_1) = 95
  · rw [if_pos c17] at H
    have c17b0 : ((bt a0 x3_1) == 95) = true := beq_iff_eq.mpr c17
    have c17b1 : ((bt a0 x3_1) != 95) = false := bne_eq_false_iff_eq.mpr c17
    clear c17
    have H' := Aside0.mk H
    clear H
    have p4 : 0 ≤ (x3_1 : Int) := of_decide_eq_true s7q1
    have q4 : x3_1 < (a0.size : Int) := of_decide_eq_true s7q1
    have hx4 := bt_at a0 x3_1
    replace p4 := eq_true p4
    replace q4 := eq_true q4
    have p16 : 0 ≤ (x3_1 : Int) := of_decide_eq_true s7q1
    have q16 : x3_1 < (a0.size : Int) := of_decide_eq_true s7q1
    have hx16 := bt_at a0 x3_1
    replace p16 := eq_true p16
    replace q16 := eq_true q16
    go_wp2
    first | go_roundg k1 | (refine Handed.intro k1 ?measure ?_; rotate_left; go_step; (repeat apply Exists.intro); simp only [add_plain]; refine ⟨?rel, rfl⟩)
    case measure => have := HK1.out; omega
    case rel => exact ⟨(wrap64 (x3_1 + 1)), s7q0, H', ⟨by have := HK1.out; omega⟩, by repeat (first | exact Drawn0.refl _ | apply Drawn0.step)⟩
  rw [if_neg c17] at H
  have c17b0 : ((bt a0 x3_1) == 95) = false := beq_eq_false_iff_ne.mpr c17
  have c17b1 : ((bt a0 x3_1) != 95) = true := bne_iff_ne.mpr c17
  by_cases c19 : (bt a0 x3_1) < 48
  · rw [if_pos c19] at H
    have c19b0 : decide ((bt a0 x3_1) < 48) = true := decide_eq_true c19
    clear c19
    obtain rfl := Option.some.inj H
    have p4 : 0 ≤ (x3_1 : Int) := of_decide_eq_true s7q1
    have q4 : x3_1 < (a0.size : Int) := of_decide_eq_true s7q1
    have hx4 := bt_at a0 x3_1
    replace p4 := eq_true p4
    replace q4 := eq_true q4
    have p16 : 0 ≤ (x3_1 : Int) := of_decide_eq_true s7q1
    have q16 : x3_1 < (a0.size : Int) := of_decide_eq_true s7q1
    have hx16 := bt_at a0 x3_1
    replace p16 := eq_true p16
    replace q16 := eq_true q16
    have p18 : 0 ≤ (x3_1 : Int) := of_decide_eq_true s7q1
    have q18 : x3_1 < (a0.size : Int) := of_decide_eq_true s7q1
    have hx18 := bt_at a0 x3_1
    replace p18 := eq_true p18
    replace q18 := eq_true q18
    go_wp2
    go_ret
    exact ⟨by first | rfl | (simp; done) | (simp [*]; done), by repeat (first | exact Drawn0.refl _ | apply Drawn0.step)⟩
  rw [if_neg c19] at H
  have c19b0 : decide ((bt a0 x3_1) < 48) = false := decide_eq_false c19
  clear c19
  by_cases c21 : (bt a0 x3_1) > 57
  · rw [if_pos c21] at H
    have c21b0 : decide (57 < (bt a0 x3_1)) = true := decide_eq_true c21
    clear c21
    obtain rfl := Option.some.inj H
    have p4 : 0 ≤ (x3_1 : Int) := of_decide_eq_true s7q1
    have q4 : x3_1 < (a0.size : Int) := of_decide_eq_true s7q1
    have hx4 := bt_at a0 x3_1
    replace p4 := eq_true p4
    replace q4 := eq_true q4
    have p16 : 0 ≤ (x3_1 : Int) := of_decide_eq_true s7q1
    have q16 : x3_1 < (a0.size : Int) := of_decide_eq_true s7q1
    have hx16 := bt_at a0 x3_1
    replace p16 := eq_true p16
    replace q16 := eq_true q16
    have p18 : 0 ≤ (x3_1 : Int) := of_decide_eq_true s7q1
    have q18 : x3_1 < (a0.size : Int) := of_decide_eq_true s7q1
    have hx18 := bt_at a0 x3_1
    replace p18 := eq_true p18
    replace q18 := eq_true q18
    have p20 : 0 ≤ (x3_1 : Int) := of_decide_eq_true s7q1
    have q20 : x3_1 < (a0.size : Int) := of_decide_eq_true s7q1
    have hx20 := bt_at a0 x3_1
    replace p20 := eq_true p20
    replace q20 := eq_true q20
    go_wp2
    go_ret
    exact ⟨by first | rfl | (simp; done) | (simp [*]; done), by repeat (first | exact Drawn0.refl _ | apply Drawn0.step)⟩
  rw [if_neg c21] at H
  have c21b0 : decide (57 < (bt a0 x3_1)) = false := decide_eq_false c21
  clear c21
  have H' := Aside0.mk H
  clear H
  have p4 : 0 ≤ (x3_1 : Int) := of_decide_eq_true s7q1
  have q4 : x3_1 < (a0.size : Int) := of_decide_eq_true s7q1
  have hx4 := bt_at a0 x3_1
  replace p4 := eq_true p4
  replace q4 := eq_true q4
  have p16 : 0 ≤ (x3_1 : Int) := of_decide_eq_true s7q1
  have q16 : x3_1 < (a0.size : Int) := of_decide_eq_true s7q1
  have hx16 := bt_at a0 x3_1
  replace p16 := eq_true p16
  replace q16 := eq_true q16
  have p18 : 0 ≤ (x3_1 : Int) := of_decide_eq_true s7q1
  have q18 : x3_1 < (a0.size : Int) := of_decide_eq_true s7q1
  have hx18 := bt_at a0 x3_1
  replace p18 := eq_true p18
  replace q18 := eq_true q18
  have p20 : 0 ≤ (x3_1 : Int) := of_decide_eq_true s7q1
  have q20 : x3_1 < (a0.size : Int) := of_decide_eq_true s7q1
  have hx20 := bt_at a0 x3_1
  replace p20 := eq_true p20
  replace q20 := eq_true q20
  go_wp2
  first | go_roundg k1 | (refine Handed.intro k1 ?measure ?_; rotate_left; go_step; (repeat apply Exists.intro); simp only [add_plain]; refine ⟨?rel, rfl⟩)
  case measure => have := HK1.out; omega
  case rel => exact ⟨(wrap64 (x3_1 + 1)), s7q0, H', ⟨by have := HK1.out; omega⟩, by repeat (first | exact Drawn0.refl _ | apply Drawn0.step)⟩
 rw [if_pos c5] at H
 have c5b0 : decide (97 ≤ (bt a0 x3_1)) = true := decide_eq_true c5
 clear c5
 by_cases c7 : ((bt a0 x3_1) ≤ 122)
 · rw [if_pos c7] at H
   have c7b0 : decide ((bt a0 x3_1) ≤ 122) = true := decide_eq_true c7
   clear c7
   have H' := Aside0.mk H
   clear H
   have p4 : 0 ≤ (x3_1 : Int) := of_decide_eq_true s7q1
   have q4 : x3_1 < (a0.size : Int) := of_decide_eq_true s7q1
   have hx4 := bt_at a0 x3_1
   replace p4 := eq_true p4
   replace q4 := eq_true q4
   have p6 : 0 ≤ (x3_1 : Int) := of_decide_eq_true s7q1
   have q6 : x3_1 < (a0.size : Int) := of_decide_eq_true s7q1
   have hx6 := bt_at a0 x3_1
   replace p6 := eq_true p6
   replace q6 := eq_true q6
   go_wp2
   first | go_roundg k1 | (refine Handed.intro k1 ?measure ?_; rotate_left; go_step; (repeat apply Exists.intro); simp only [add_plain]; refine ⟨?rel, rfl⟩)
   case measure => have := HK1.out; omega
   case rel => exact ⟨(wrap64 (x3_1 + 1)), s7q0, H', ⟨by have := HK1.out; omega⟩, by repeat (first | exact Drawn0.refl _ | apply Drawn0.step)⟩
 rw [if_neg c7] at H
 have c7b0 : decide ((bt a0 x3_1) ≤ 122) = false := decide_eq_false c7
 clear c7
 by_cases c8 : x3_1 = 0
 · rw [if_pos c8] at H
   have c8b0 : (x3_1 == 0) = true := beq_iff_eq.mpr c8
   have c8b1 : (x3_1 != 0) = false := bne_eq_false_iff_eq.mpr c8
   clear c8
   obtain rfl := Option.some.inj H
   have p4 : 0 ≤ (x3_1 : Int) := of_decide_eq_true s7q1
   have q4 : x3_1 < (a0.size : Int) := of_decide_eq_true s7q1
   have hx4 := bt_at a0 x3_1
   replace p4 := eq_true p4
   replace q4 := eq_true q4
   have p6 : 0 ≤ (x3_1 : Int) := of_decide_eq_true s7q1
   have q6 : x3_1 < (a0.size : Int) := of_decide_eq_true s7q1
   have hx6 := bt_at a0 x3_1
   replace p6 := eq_true p6
   replace q6 := eq_true q6
   go_wp2
   go_ret
   exact ⟨by first | rfl | (simp; done) | (simp [*]; done), by repeat (first | exact Drawn0.refl _ | apply Drawn0.step)⟩
 rw [if_neg c8] at H
 have c8b0 : (x3_1 == 0) = false := beq_eq_false_iff_ne.mpr c8
 have c8b1 : (x3_1 != 0) = true := bne_iff_ne.mpr c8
 by_cases c10 : (bt a0 x3_1) = 95
 · rw [if_pos c10] at H
   have c10b0 : ((bt a0 x3_1) == 95) = true := beq_iff_eq.mpr c10
   have c10b1 : ((bt a0 x3_1) != 95) = false := bne_eq_false_iff_eq.mpr c10
   clear c10
   have H' := Aside0.mk H
   clear H
   have p4 : 0 ≤ (x3_1 : Int) := of_decide_eq_true s7q1
   have q4 : x3_1 < (a0.size : Int) := of_decide_eq_true s7q1
   have hx4 := bt_at a0 x3_1
   replace p4 := eq_true p4
   replace q4 := eq_true q4
   have p6 : 0 ≤ (x3_1 : Int) := of_decide_eq_true s7q1
   have q6 : x3_1 < (a0.size : Int) := of_decide_eq_true s7q1
   have hx6 := bt_at a0 x3_1
   replace p6 := eq_true p6
   replace q6 := eq_true q6
   have p9 : 0 ≤ (x3_1 : Int) := of_decide_eq_true s7q1
   have q9 : x3_1 < (a0.size : Int) := of_decide_eq_true s7q1
   have hx9 := bt_at a0 x3_1
   replace p9 := eq_true p9
   replace q9 := eq_true q9
   go_wp2
   first | go_roundg k1 | (refine Handed.intro k1 ?measure ?_; rotate_left; go_step; (repeat apply Exists.intro); simp only [add_plain]; refine ⟨?rel, rfl⟩)
   case measure => have := HK1.out; omega
   case rel => exact ⟨(wrap64 (x3_1 + 1)), s7q0, H', ⟨by have := HK1.out; omega⟩, by repeat (first | exact Drawn0.refl _ | apply Drawn0.step)⟩
 rw [if_neg c10] at H
 have c10b0 : ((bt a0 x3_1) == 95) = false := beq_eq_false_iff_ne.mpr c10
 have c10b1 : ((bt a0 x3_1) != 95) = true := bne_iff_ne.mpr c10
 by_cases c12 : (bt a0 x3_1) < 48
 · rw [if_pos c12] at H
   have c12b0 : decide ((bt a0 x3_1) < 48) = true := decide_eq_true c12
   clear c12
   obtain rfl := Option.some.inj H
   have p4 : 0 ≤ (x3_1 : Int) := of_decide_eq_true s7q1
   have q4 : x3_1 < (a0.size : Int) := of_decide_eq_true s7q1
   have hx4 := bt_at a0 x3_1
   replace p4 := eq_true p4
   replace q4 := eq_true q4
   have p6 : 0 ≤ (x3_1 : Int) := of_decide_eq_true s7q1
   have q6 : x3_1 < (a0.size : Int) := of_decide_eq_true s7q1
   have hx6 := bt_at a0 x3_1
   replace p6 := eq_true p6
   replace q6 := eq_true q6
   have p9 : 0 ≤ (x3_1 : Int) := of_decide_eq_true s7q1
   have q9 : x3_1 < (a0.size : Int) := of_decide_eq_true s7q1
   have hx9 := bt_at a0 x3_1
   replace p9 := eq_true p9
   replace q9 := eq_true q9
   have p11 : 0 ≤ (x3_1 : Int) := of_decide_eq_true s7q1
   have q11 : x3_1 < (a0.size : Int) := of_decide_eq_true s7q1
   have hx11 := bt_at a0 x3_1
   replace p11 := eq_true p11
   replace q11 := eq_true q11
   go_wp2
   go_ret
   exact ⟨by first | rfl | (simp; done) | (simp [*]; done), by repeat (first | exact Drawn0.refl _ | apply Drawn0.step)⟩
 rw [if_neg c12] at H
 have c12b0 : decide ((bt a0 x3_1) < 48) = false := decide_eq_false c12
 clear c12
 by_cases c14 : (bt a0 x3_1) > 57
 · rw [if_pos c14] at H
   have c14b0 : decide (57 < (bt a0 x3_1)) = true := decide_eq_true c14
   clear c14
   obtain rfl := Option.some.inj H
   have p4 : 0 ≤ (x3_1 : Int) := of_decide_eq_true s7q1
   have q4 : x3_1 < (a0.size : Int) := of_decide_eq_true s7q1
   have hx4 := bt_at a0 x3_1
   replace p4 := eq_true p4
   replace q4 := eq_true q4
   have p6 : 0 ≤ (x3_1 : Int) := of_decide_eq_true s7q1
   have q6 : x3_1 < (a0.size : Int) := of_decide_eq_true s7q1
   have hx6 := bt_at a0 x3_1
   replace p6 := eq_true p6
   replace q6 := eq_true q6
   have p9 : 0 ≤ (x3_1 : Int) := of_decide_eq_true s7q1
   have q9 : x3_1 < (a0.size : Int) := of_decide_eq_true s7q1
   have hx9 := bt_at a0 x3_1
   replace p9 := eq_true p9
   replace q9 := eq_true q9
   have p11 : 0 ≤ (x3_1 : Int) := of_decide_eq_true s7q1
   have q11 : x3_1 < (a0.size : Int) := of_decide_eq_true s7q1
   have hx11 := bt_at a0 x3_1
   replace p11 := eq_true p11
   replace q11 := eq_true q11
   have p13 : 0 ≤ (x3_1 : Int) := of_decide_eq_true s7q1
   have q13 : x3_1 < (a0.size : Int) := of_decide_eq_true s7q1
   have hx13 := bt_at a0 x3_1
   replace p13 := eq_true p13
   replace q13 := eq_true q13
   go_wp2
   go_ret
   exact ⟨by first | rfl | (simp; done) | (simp [*]; done), by repeat (first | exact Drawn0.refl _ | apply Drawn0.step)⟩
 rw [if_neg c14] at H
 have c14b0 : decide (57 < (bt a0 x3_1)) = false := decide_eq_false c14
 clear c14
 have H' := Aside0.mk H
 clear H
 have p4 : 0 ≤ (x3_1 : Int) := of_decide_eq_true s7q1
 have q4 : x3_1 < (a0.size : Int) := of_decide_eq_true s7q1
 have hx4 := bt_at a0 x3_1
 replace p4 := eq_true p4
 replace q4 := eq_true q4
 have p6 : 0 ≤ (x3_1 : Int) := of_decide_eq_true s7q1
 have q6 : x3_1 < (a0.size : Int) := of_decide_eq_true s7q1
 have hx6 := bt_at a0 x3_1
 replace p6 := eq_true p6
 replace q6 := eq_true q6
 have p9 : 0 ≤ (x3_1 : Int) := of_decide_eq_true s7q1
 have q9 : x3_1 < (a0.size : Int) := of_decide_eq_true s7q1
 have hx9 := bt_at a0 x3_1
 replace p9 := eq_true p9
 replace q9 := eq_true q9
 have p11 : 0 ≤ (x3_1 : Int) := of_decide_eq_true s7q1
 have q11 : x3_1 < (a0.size : Int) := of_decide_eq_true s7q1
 have hx11 := bt_at a0 x3_1
 replace p11 := eq_true p11
 replace q11 := eq_true q11
 have p13 : 0 ≤ (x3_1 : Int) := of_decide_eq_true s7q1
 have q13 : x3_1 < (a0.size : Int) := of_decide_eq_true s7q1
 have hx13 := bt_at a0 x3_1
 replace p13 := eq_true p13
 replace q13 := eq_true q13
 go_wp2
 first | go_roundg k1 | (refine Handed.intro k1 ?measure ?_; rotate_left; go_step; (repeat apply Exists.intro); simp only [add_plain]; refine ⟨?rel, rfl⟩)
 case measure => have := HK1.out; omega
 case rel => exact ⟨(wrap64 (x3_1 + 1)), s7q0, H', ⟨by have := HK1.out; omega⟩, by repeat (first | exact Drawn0.refl _ | apply Drawn0.step)⟩
/-! ### peristyleref1_within: function 42 -/
def peristyleref1_within.f (a0 : Int) (a1 : Int) (a2 : Int) : Option (Bool) := if a0 ≥ a1 then (some (decide (a0 ≤ a2))) else (some false)
set_option maxHeartbeats 8000000 in
set_option maxRecDepth 100000 in
theorem peristyleref1_within.calls (a0 : Int) (a1 : Int) (a2 : Int) (r : Bool) (w : World) (h : peristyleref1_within.f a0 a1 a2 = some r) :
    Calls Tryd.prog 42 #[.int .i64 a0, .int .i64 a1, .int .i64 a2] w fun e w' => e = .returned (.bool r) ∧ Drawn0 w w' := by
 have H : (if a0 ≥ a1 then (some (decide (a0 ≤ a2))) else (some false)) = some r := h
 clear h
 by_cases c4 : a0 ≥ a1
 · rw [if_pos c4] at H
   have c4b0 : decide (a1 ≤ a0) = true := decide_eq_true c4
   clear c4
   obtain rfl := Option.some.inj H
   go_enter Tryd.func42, Tryd.ntmps42
   go_wp2
   go_ret
   exact ⟨by first | rfl | (simp; done) | (simp [*]; done), by repeat (first | exact Drawn0.refl _ | apply Drawn0.step)⟩
 rw [if_neg c4] at H
 have c4b0 : decide (a1 ≤ a0) = false := decide_eq_false c4
 clear c4
 obtain rfl := Option.some.inj H
 go_enter Tryd.func42, Tryd.ntmps42
 go_wp2
 go_ret
 exact ⟨by first | rfl | (simp; done) | (simp [*]; done), by repeat (first | exact Drawn0.refl _ | apply Drawn0.step)⟩
/-! ### peristyleref1_CheckColumns: function 34 -/
mutual
def peristyleref1_CheckColumns.l0 : Nat → List (S69) → Int → Option (Int)
  | 0, _, _ => none
  | k + 1, x0, x3 => if x3 < (x0.length : Int) then (if 0 ≤ x3 then ((peristyleref1_IsName.f k ((rd_T69 x0 x3).f0)).bind fun t179 => (if t179 = true then (peristyleref1_CheckColumns.l1 k x0 x3 0) else (some 5))) else (none)) else (some 0)
def peristyleref1_CheckColumns.l1 : Nat → List (S69) → Int → Int → Option (Int)
  | 0, _, _, _ => none
  | k + 1, x0, x3, x4 => if x4 < x3 then (if 0 ≤ x4 then (if x4 < (x0.length : Int) then (if 0 ≤ x3 then (if x3 < (x0.length : Int) then (if ((rd_T69 x0 x4).f0).toList = ((rd_T69 x0 x3).f0).toList then (some 7) else (peristyleref1_CheckColumns.l1 k x0 x3 (wrap64 (x4 + 1)))) else (none)) else (none)) else (none)) else (none)) else (if 0 ≤ x3 then (if x3 < (x0.length : Int) then ((peristyleref1_within.f ((rd_T69 x0 x3).f1) 1 3).bind fun t183 => (if t183 = true then (peristyleref1_CheckColumns.l0 k x0 (wrap64 (x3 + 1))) else (some 4))) else (none)) else (none))
end
def peristyleref1_CheckColumns.f (k : Nat) (l0 : List (S69)) : Option (Int) := if (l0.length : Int) > 20 then (some 2) else (if (l0.length : Int) = 0 then (some 6) else (peristyleref1_CheckColumns.l0 k l0 0))
theorem peristyleref1_CheckColumns.mono_l : ∀ k, (∀ y0 y1, LeO (peristyleref1_CheckColumns.l0 k y0 y1) (peristyleref1_CheckColumns.l0 (k + 1) y0 y1)) ∧ (∀ y0 y1 y2, LeO (peristyleref1_CheckColumns.l1 k y0 y1 y2) (peristyleref1_CheckColumns.l1 (k + 1) y0 y1 y2))
  | 0 => ⟨fun _ _ r h => by simp [peristyleref1_CheckColumns.l0] at h, fun _ _ _ r h => by simp [peristyleref1_CheckColumns.l1] at h⟩
  | k + 1 => by
    obtain ⟨ih0, ih1⟩ := peristyleref1_CheckColumns.mono_l k
    refine ⟨?_, ?_⟩
    · intro y0 y1
      unfold peristyleref1_CheckColumns.l0
      exact s7qm0
    · intro y0 y1 y2
      unfold peristyleref1_CheckColumns.l1
      exact s7qm0
theorem peristyleref1_CheckColumns.mono : ∀ a0 k, LeO (peristyleref1_CheckColumns.f k a0) (peristyleref1_CheckColumns.f (k + 1) a0) := by
 intro a0 k
 obtain ⟨ih0, ih1⟩ := peristyleref1_CheckColumns.mono_l k
 unfold peristyleref1_CheckColumns.f
 repeat' first
  | (with_reducible exact ih0 _ _)
  | (with_reducible exact ih1 _ _ _)
  | (with_reducible exact peristyleref1_IsName.mono _ _)
  | (with_reducible exact LeO.refl _)
  | (with_reducible exact LeO.none _)
  | (with_reducible refine LeO.ite ?_ ?_)
  | (with_reducible refine LeO.bind ?_ (fun _ => ?_))
  | exact ih0 _ _
  | exact ih1 _ _ _
  | exact peristyleref1_IsName.mono _ _
  | exact LeO.none _
  | refine LeO.ite ?_ ?_
  | refine LeO.bind ?_ (fun _ => ?_)
set_option maxHeartbeats 8000000 in
set_option maxRecDepth 100000 in
theorem peristyleref1_CheckColumns.calls (k : Nat) (A0 : Option Addr) (c0 : Nat) (l0 : List (S69)) (r : Int) (w : World) (hr0 : Kd.C k69 w A0 l0.length l0) (hc0 : l0.length ≤ c0) (h : peristyleref1_CheckColumns.f k l0 = some r) :
    Calls Tryd.prog 34 #[.slice A0 l0.length c0] w fun e w' => e = .returned (.int .i64 r) ∧ Drawn0 w w' := by
 have HR0 := Aside0.mk hr0
 have HC0 := Aside0.mk hc0
 clear hr0 hc0
 have H : (if (l0.length : Int) > 20 then (some 2) else (if (l0.length : Int) = 0 then (some 6) else (peristyleref1_CheckColumns.l0 k l0 0))) = some r := h
 clear h
 by_cases c2 : (l0.length : Int) > 20
 · rw [if_pos c2] at H
   have c2b0 : decide (20 < (l0.length : Int)) = true := decide_eq_true c2
   have c2b1 : decide (20 < l0.length) = true := decide_eq_true (by omega)
   clear c2
   obtain rfl := Option.some.inj H
   go_enter Tryd.func34, Tryd.ntmps34
   go_wp2
   repeat (go_quiet (fail); try go_wp2)
   go_ret
   exact ⟨by first | rfl | (simp; done) | (simp [*]; done), by repeat (first | exact Drawn0.refl _ | apply Drawn0.step)⟩
 rw [if_neg c2] at H
 have c2b0 : decide (20 < (l0.length : Int)) = false := decide_eq_false c2
 have c2b1 : decide (20 < l0.length) = false := decide_eq_false (by omega)
 clear c2
 by_cases c3 : (l0.length : Int) = 0
 · rw [if_pos c3] at H
   have c3b0 : ((l0.length : Int) == 0) = true := beq_iff_eq.mpr c3
   have c3b1 : ((l0.length : Int) != 0) = false := bne_eq_false_iff_eq.mpr c3
   clear c3
   obtain rfl := Option.some.inj H
   go_enter Tryd.func34, Tryd.ntmps34
   go_wp2
   repeat (go_quiet (fail); try go_wp2)
   go_ret
   exact ⟨by first | rfl | (simp; done) | (simp [*]; done), by repeat (first | exact Drawn0.refl _ | apply Drawn0.step)⟩
 rw [if_neg c3] at H
 have c3b0 : ((l0.length : Int) == 0) = false := beq_eq_false_iff_ne.mpr c3
 have c3b1 : ((l0.length : Int) != 0) = true := bne_iff_ne.mpr c3
 have c3b2 : ¬ (l0 = []) := fun h_ => c3 (by rw [h_]; rfl)
 have H' := Aside0.mk H
 clear H
 go_enter Tryd.func34, Tryd.ntmps34
 go_wp2
 go_loopg [3] k (fun kq v3 w' => ∃ (x3_1 : Int), v3 = .int .i64 x3_1 ∧ Aside0 (peristyleref1_CheckColumns.l0 kq l0 x3_1 = some r) ∧ Aside0 (kq ≤ k) ∧ Drawn0 w w')
 case atStart => exact ⟨(0), s7q0, H', ⟨Nat.le_refl _⟩, by repeat (first | exact Drawn0.refl _ | apply Drawn0.step)⟩
 clear H'
 try clear c2
 try clear c2b0
 try clear c2b1
 try clear p2
 try clear c3
 try clear c3b0
 try clear c3b1
 try clear c3b2
 obtain ⟨x3_1, rfl, HA, HK1, ⟨m1, rfl⟩⟩ := hrel
 cases gk with
 | zero => exact absurd HA.out (by simp [peristyleref1_CheckColumns.l0])
 | succ k1 => ?_
 have H := HA.out
 clear HA
 simp only [peristyleref1_CheckColumns.l0] at H
 by_cases c4 : x3_1 < (l0.length : Int)
 case neg =>
  rw [if_neg c4] at H
  have c4b0 : decide (x3_1 < (l0.length : Int)) = false := decide_eq_false c4
  clear c4
  obtain rfl := Option.some.inj H
  go_wp2
  repeat (go_quiet (fail); try go_wp2)
  go_ret
  exact ⟨by first | rfl | (simp; done) | (simp [*]; done), by repeat (first | exact Drawn0.refl _ | apply Drawn0.step)⟩
 rw [if_pos c4] at H
 have c4b0 : decide (x3_1 < (l0.length : Int)) = true := decide_eq_true c4
 clear c4
 by_cases c5 : 0 ≤ x3_1
 case neg =>
  rw [if_neg c5] at H
  exact absurd H (by simp)
 rw [if_pos c5] at H
 have c5b0 : decide (0 ≤ x3_1) = true := decide_eq_true c5
 clear c5
 replace H := Option.bind_eq_some_iff.mp H
 obtain ⟨t179, A60, H⟩ := H
 replace H : (if t179 = true then (peristyleref1_CheckColumns.l1 k1 l0 x3_1 0) else (some 5)) = some r := H
 have A6 := Aside0.mk A60
 clear A60
 by_cases c7 : t179 = true
 case neg =>
  replace c7 := Bool.eq_false_iff.mpr c7
  subst c7
  have H1 : (some 5) = some r := s7q2
  clear H
  have H := H1
  clear H1
  obtain rfl := Option.some.inj H
  have p178 : 0 ≤ (x3_1 : Int) := of_decide_eq_true s7q1
  have q178 : x3_1 < (l0.length : Int) := of_decide_eq_true s7q1
  obtain ⟨ad178, e178, hx178_0, hx178_1⟩ := at_T69 HR0.out x3_1 p178 q178
  cases e178
  replace p178 := eq_true p178
  replace q178 := eq_true q178
  go_wp2_with (first | (go_at_call 41; (with_reducible refine (peristyleref1_IsName.calls k1 ((rd_T69 l0 x3_1).f0) false _ A6.out).mono ?_); rintro e w' ⟨rfl, ⟨nd, rfl⟩⟩; (try first | exact ⟨rfl, _, World.drewN_drewN _ _ _⟩ | exact ⟨rfl, _, Eq.trans (World.drewN_drewN _ _ _) (congrArg (World.drewN _) (Nat.add_assoc _ _ _))⟩)))
  repeat (go_quiet (first | (go_at_call 41; (with_reducible refine (peristyleref1_IsName.calls k1 ((rd_T69 l0 x3_1).f0) false _ A6.out).mono ?_); rintro e w' ⟨rfl, ⟨nd, rfl⟩⟩; (try first | exact ⟨rfl, _, World.drewN_drewN _ _ _⟩ | exact ⟨rfl, _, Eq.trans (World.drewN_drewN _ _ _) (congrArg (World.drewN _) (Nat.add_assoc _ _ _))⟩))); try go_wp2_with (first | (go_at_call 41; (with_reducible refine (peristyleref1_IsName.calls k1 ((rd_T69 l0 x3_1).f0) false _ A6.out).mono ?_); rintro e w' ⟨rfl, ⟨nd, rfl⟩⟩; (try first | exact ⟨rfl, _, World.drewN_drewN _ _ _⟩ | exact ⟨rfl, _, Eq.trans (World.drewN_drewN _ _ _) (congrArg (World.drewN _) (Nat.add_assoc _ _ _))⟩))))
  go_ret
  exact ⟨by first | rfl | (simp; done) | (simp [*]; done), by repeat (first | exact Drawn0.refl _ | apply Drawn0.step)⟩
 subst c7
 have H1 : (peristyleref1_CheckColumns.l1 k1 l0 x3_1 0) = some r := by rw [if_pos rfl] at H; exact H
 clear H
 have H := H1
 clear H1
 have H' := Aside0.mk H
 clear H
 have p178 : 0 ≤ (x3_1 : Int) := of_decide_eq_true s7q1
 have q178 : x3_1 < (l0.length : Int) := of_decide_eq_true s7q1
 obtain ⟨ad178, e178, hx178_0, hx178_1⟩ := at_T69 HR0.out x3_1 p178 q178
 cases e178
 replace p178 := eq_true p178
 replace q178 := eq_true q178
 go_wp2_with (first | (go_at_call 41; (with_reducible refine (peristyleref1_IsName.calls k1 ((rd_T69 l0 x3_1).f0) true _ A6.out).mono ?_); rintro e w' ⟨rfl, ⟨nd, rfl⟩⟩; (try first | exact ⟨rfl, _, World.drewN_drewN _ _ _⟩ | exact ⟨rfl, _, Eq.trans (World.drewN_drewN _ _ _) (congrArg (World.drewN _) (Nat.add_assoc _ _ _))⟩)))
 go_loopg [4] k1 (fun kq v4 w' => ∃ (x4_2 : Int), v4 = .int .i64 x4_2 ∧ Aside0 (peristyleref1_CheckColumns.l1 kq l0 x3_1 x4_2 = some r) ∧ Aside0 (kq ≤ k1) ∧ Drawn0 w w')
 case atStart => exact ⟨(0), s7q0, H', ⟨Nat.le_refl _⟩, by repeat (first | exact Drawn0.refl _ | apply Drawn0.step)⟩
 clear H'
 try clear p1
 try clear q1
 try clear hx1
 try clear c2
 try clear c2b0
 try clear c2b1
 try clear p2
 try clear c3
 try clear c3b0
 try clear c3b1
 try clear c3b2
 try clear c4
 try clear c4b0
 try clear c5
 try clear c5b0
 try clear c7
 try clear hx178_0
 try clear hx178_1
 try clear p178
 try clear p2
 try clear q178
 obtain ⟨x4_2, rfl, HA, HK2, ⟨m2, rfl⟩⟩ := hrel
 cases gk with
 | zero => exact absurd HA.out (by simp [peristyleref1_CheckColumns.l1])
 | succ k2 => ?_
 have H := HA.out
 clear HA
 simp only [peristyleref1_CheckColumns.l1] at H
 by_cases c8 : x4_2 < x3_1
 · rw [if_pos c8] at H
   have c8b0 : decide (x4_2 < x3_1) = true := decide_eq_true c8
   clear c8
   by_cases c9 : 0 ≤ x4_2
   case neg =>
    rw [if_neg c9] at H
    exact absurd H (by simp)
   rw [if_pos c9] at H
   have c9b0 : decide (0 ≤ x4_2) = true := decide_eq_true c9
   clear c9
   by_cases c10 : x4_2 < (l0.length : Int)
   case neg =>
    rw [if_neg c10] at H
    exact absurd H (by simp)
   rw [if_pos c10] at H
   have c10b0 : decide (x4_2 < (l0.length : Int)) = true := decide_eq_true c10
   clear c10
   by_cases c11 : 0 ≤ x3_1
   case neg =>
    rw [if_neg c11] at H
    exact absurd H (by simp)
   rw [if_pos c11] at H
   have c11b0 : decide (0 ≤ x3_1) = true := decide_eq_true c11
   clear c11
   by_cases c12 : x3_1 < (l0.length : Int)
   case neg =>
    rw [if_neg c12] at H
    exact absurd H (by simp)
   rw [if_pos c12] at H
   have c12b0 : decide (x3_1 < (l0.length : Int)) = true := decide_eq_true c12
   clear c12
   by_cases c13 : ((rd_T69 l0 x4_2).f0).toList = ((rd_T69 l0 x3_1).f0).toList
   · rw [if_pos c13] at H
     have c13b0 : (((rd_T69 l0 x4_2).f0).toList == ((rd_T69 l0 x3_1).f0).toList) = true := beq_iff_eq.mpr c13
     have c13b1 : (((rd_T69 l0 x4_2).f0).toList != ((rd_T69 l0 x3_1).f0).toList) = false := bne_eq_false_iff_eq.mpr c13
     clear c13
     obtain rfl := Option.some.inj H
     have p180 : 0 ≤ (x4_2 : Int) := of_decide_eq_true s7q1
     have q180 : x4_2 < (l0.length : Int) := of_decide_eq_true s7q1
     obtain ⟨ad180, e180, hx180_0, hx180_1⟩ := at_T69 HR0.out x4_2 p180 q180
     obtain rfl : ad178 = ad180 := (by injection e180)
     replace p180 := eq_true p180
     replace q180 := eq_true q180
     have p181 : 0 ≤ (x3_1 : Int) := of_decide_eq_true s7q1
     have q181 : x3_1 < (l0.length : Int) := of_decide_eq_true s7q1
     obtain ⟨ad181, e181, hx181_0, hx181_1⟩ := at_T69 HR0.out x3_1 p181 q181
     obtain rfl : ad178 = ad181 := (by injection e181)
     replace p181 := eq_true p181
     replace q181 := eq_true q181
     go_wp2
     repeat (go_quiet (fail); try go_wp2)
     go_ret
     exact ⟨by first | rfl | (simp; done) | (simp [*]; done), by repeat (first | exact Drawn0.refl _ | apply Drawn0.step)⟩
   rw [if_neg c13] at H
   have c13b0 : (((rd_T69 l0 x4_2).f0).toList == ((rd_T69 l0 x3_1).f0).toList) = false := beq_eq_false_iff_ne.mpr c13
   have c13b1 : (((rd_T69 l0 x4_2).f0).toList != ((rd_T69 l0 x3_1).f0).toList) = true := bne_iff_ne.mpr c13
   have H' := Aside0.mk H
   clear H
   have p180 : 0 ≤ (x4_2 : Int) := of_decide_eq_true s7q1
   have q180 : x4_2 < (l0.length : Int) := of_decide_eq_true s7q1
   obtain ⟨ad180, e180, hx180_0, hx180_1⟩ := at_T69 HR0.out x4_2 p180 q180
   obtain rfl : ad178 = ad180 := (by injection e180)
   replace p180 := eq_true p180
   replace q180 := eq_true q180
   have p181 : 0 ≤ (x3_1 : Int) := of_decide_eq_true s7q1
   have q181 : x3_1 < (l0.length : Int) := of_decide_eq_true s7q1
   obtain ⟨ad181, e181, hx181_0, hx181_1⟩ := at_T69 HR0.out x3_1 p181 q181
   obtain rfl : ad178 = ad181 := (by injection e181)
   replace p181 := eq_true p181
   replace q181 := eq_true q181
   go_wp2
   repeat (go_quiet (fail); try go_wp2)
   first | go_roundg k2 | (refine Handed.intro k2 ?measure ?_; rotate_left; go_step; (repeat apply Exists.intro); simp only [add_plain]; refine ⟨?rel, rfl⟩)
   case measure => have := HK1.out; have := HK2.out; omega
   case rel => exact ⟨(wrap64 (x4_2 + 1)), s7q0, H', ⟨by have := HK1.out; have := HK2.out; omega⟩, by repeat (first | exact Drawn0.refl _ | apply Drawn0.step)⟩
 rw [if_neg c8] at H
 have c8b0 : decide (x4_2 < x3_1) = false := decide_eq_false c8
 clear c8
 by_cases c14 : 0 ≤ x3_1
 case neg =>
  rw [if_neg c14] at H
  exact absurd H (by simp)
 rw [if_pos c14] at H
 have c14b0 : decide (0 ≤ x3_1) = true := decide_eq_true c14
 clear c14
 by_cases c15 : x3_1 < (l0.length : Int)
 case neg =>
  rw [if_neg c15] at H
  exact absurd H (by simp)
 rw [if_pos c15] at H
 have c15b0 : decide (x3_1 < (l0.length : Int)) = true := decide_eq_true c15
 clear c15
 replace H := Option.bind_eq_some_iff.mp H
 obtain ⟨t183, A160, H⟩ := H
 replace H : (if t183 = true then (peristyleref1_CheckColumns.l0 k2 l0 (wrap64 (x3_1 + 1))) else (some 4)) = some r := H
 have A16 := Aside0.mk A160
 clear A160
 by_cases c17 : t183 = true
 case neg =>
  replace c17 := Bool.eq_false_iff.mpr c17
  subst c17
  have H1 : (some 4) = some r := s7q2
  clear H
  have H := H1
  clear H1
  obtain rfl := Option.some.inj H
  have p182 : 0 ≤ (x3_1 : Int) := of_decide_eq_true s7q1
  have q182 : x3_1 < (l0.length : Int) := of_decide_eq_true s7q1
  obtain ⟨ad182, e182, hx182_0, hx182_1⟩ := at_T69 HR0.out x3_1 p182 q182
  obtain rfl : ad178 = ad182 := (by injection e182)
  replace p182 := eq_true p182
  replace q182 := eq_true q182
  go_wp2_with (first | (go_at_call 42; (with_reducible refine (peristyleref1_within.calls ((rd_T69 l0 x3_1).f1) 1 3 false _ A16.out).mono ?_); rintro e w' ⟨rfl, ⟨nd, rfl⟩⟩; (try first | exact ⟨rfl, _, World.drewN_drewN _ _ _⟩ | exact ⟨rfl, _, Eq.trans (World.drewN_drewN _ _ _) (congrArg (World.drewN _) (Nat.add_assoc _ _ _))⟩)))
  repeat (go_quiet (first | (go_at_call 42; (with_reducible refine (peristyleref1_within.calls ((rd_T69 l0 x3_1).f1) 1 3 false _ A16.out).mono ?_); rintro e w' ⟨rfl, ⟨nd, rfl⟩⟩; (try first | exact ⟨rfl, _, World.drewN_drewN _ _ _⟩ | exact ⟨rfl, _, Eq.trans (World.drewN_drewN _ _ _) (congrArg (World.drewN _) (Nat.add_assoc _ _ _))⟩))); try go_wp2_with (first | (go_at_call 42; (with_reducible refine (peristyleref1_within.calls ((rd_T69 l0 x3_1).f1) 1 3 false _ A16.out).mono ?_); rintro e w' ⟨rfl, ⟨nd, rfl⟩⟩; (try first | exact ⟨rfl, _, World.drewN_drewN _ _ _⟩ | exact ⟨rfl, _, Eq.trans (World.drewN_drewN _ _ _) (congrArg (World.drewN _) (Nat.add_assoc _ _ _))⟩))))
  go_ret
  exact ⟨by first | rfl | (simp; done) | (simp [*]; done), by repeat (first | exact Drawn0.refl _ | apply Drawn0.step)⟩
 subst c17
 have H1 : (peristyleref1_CheckColumns.l0 k2 l0 (wrap64 (x3_1 + 1))) = some r := by rw [if_pos rfl] at H; exact H
 clear H
 have H := H1
 clear H1
 have H' := Aside0.mk H
 clear H
 have p182 : 0 ≤ (x3_1 : Int) := of_decide_eq_true s7q1
 have q182 : x3_1 < (l0.length : Int) := of_decide_eq_true s7q1
 obtain ⟨ad182, e182, hx182_0, hx182_1⟩ := at_T69 HR0.out x3_1 p182 q182
 obtain rfl : ad178 = ad182 := (by injection e182)
 replace p182 := eq_true p182
 replace q182 := eq_true q182
 go_wp2_with (first | (go_at_call 42; (with_reducible refine (peristyleref1_within.calls ((rd_T69 l0 x3_1).f1) 1 3 true _ A16.out).mono ?_); rintro e w' ⟨rfl, ⟨nd, rfl⟩⟩; (try first | exact ⟨rfl, _, World.drewN_drewN _ _ _⟩ | exact ⟨rfl, _, Eq.trans (World.drewN_drewN _ _ _) (congrArg (World.drewN _) (Nat.add_assoc _ _ _))⟩)))
 first | go_roundg k2 | (refine Handed.intro k2 ?measure ?_; rotate_left; go_step; (repeat apply Exists.intro); simp only [add_plain]; refine ⟨?rel, rfl⟩)
 case measure => have := HK1.out; have := HK2.out; omega
 case rel => exact ⟨(wrap64 (x3_1 + 1)), s7q0, H', ⟨by have := HK1.out; have := HK2.out; omega⟩, by repeat (first | exact Drawn0.refl _ | apply Drawn0.step)⟩
end Go.Proofs.YtgdbkhbaekeijaaDoor.F
