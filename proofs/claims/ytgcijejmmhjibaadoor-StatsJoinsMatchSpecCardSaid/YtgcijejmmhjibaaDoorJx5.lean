-- Printed by a program of this session (a patched print).
import Derived.Test.YtgcijejmmhjibaaDoorJx0
import Derived.Test.YtgcijejmmhjibaaDoorJx2
import Derived.Test.YtgcijejmmhjibaaDoorJx4
namespace Go.Proofs.YtgcijejmmhjibaaDoor.J
open Go.RowKit Go.Proofs.YtgcijejmmhjibaaDoorW.PrintWords Go.Proofs.YtgcijejmmhjibaaDoorW.PrintLast Go.Proofs.YtgcijejmmhjibaaDoorW.PrintMore
attribute [local go_sem] max2_int min2_int max_two min_two max_three min_three max_four min_four   -- for this text's walks alone
set_option linter.unusedVariables false
set_option linter.unusedSimpArgs false

theorem s5z0 {p : Prop} (h : p := by repeat (first | (with_reducible first | exact HB.out | apply below_alloc | apply pw_below_drewN | apply below_drew1 | refine below_set ?_ GE185.out) | exact HB.out)) : p := h
theorem s5z2 {p : Prop} (h : p := by repeat (first | (with_reducible first | exact HB.out | apply below_alloc | apply pw_below_drewN | apply below_drew1 | refine below_set ?_ GE179.out | refine below_set ?_ GE180.out) | exact HB.out)) : p := h
theorem s5qm0 {p : Prop} (h : p := by repeat' first | (with_reducible exact ih0 _ _ _ _ _) | (with_reducible exact ih1 _ _ _ _ _) | (with_reducible exact LeO.refl _) | (with_reducible exact LeO.none _) | (with_reducible refine LeO.ite ?_ ?_) | (with_reducible refine LeO.bind ?_ (fun _ => ?_)) | exact ih0 _ _ _ _ _ | exact ih1 _ _ _ _ _ | exact LeO.none _ | refine LeO.ite ?_ ?_ | refine LeO.bind ?_ (fun _ => ?_)) : p := h
theorem s5q3 {p : Prop} (h : p := by (with_reducible repeat (first | apply Kd.R_alloc | apply Kd.R_drewN | apply Kd.R_drew)); exact HO166.out) : p := h
theorem s5q4 {p : Prop} (h : p := by (with_reducible repeat (first | apply Kd.R_alloc | apply Kd.R_drewN | apply Kd.R_drew)); exact HO169.out) : p := h
theorem s5q5 {p : Prop} (h : p := by (with_reducible repeat (first | apply Kd.R_alloc | apply Kd.R_drewN | apply Kd.R_drew)); exact HO174.out) : p := h
theorem s5q9 {p : Prop} (h : p := by repeat (first | (with_reducible first | exact HB.out | apply below_alloc | apply pw_below_drewN | apply below_drew1 | refine below_set ?_ GE179.out) | exact HB.out)) : p := h
theorem s5q10 {p : Prop} (h : p := by rw [hg]; exact (below_size q1_)) : p := h
theorem s5q11 {p : Prop} (h : p := by rw [hg]; exact (below_size s5q9)) : p := h
theorem s5q12 {p : Prop} (h : p := by rw [hg]; exact Nat.ne_of_gt (blk_lt (g := gb179) (o := .cells #[.int .i64 a0_0, .int .i64 a0_1, .string a0_2] 48 (0, 0)) (blkR BK179.out))) : p := h
theorem s5q13 {p : Prop} (h : p := by rw [hg]; exact Nat.ne_of_lt (blk_lt (g := gb179) (o := .cells #[.int .i64 a0_0, .int .i64 a0_1, .string a0_2] 48 (0, 0)) (blkR BK179.out))) : p := h
/-! ### slices_Equal_int_int: function 19 -/
def slices_Equal_int_int.l0 : Nat → List Int → List Int → Int → Int → Option (Bool)
  | 0, _, _, _, _ => none
  | k + 1, x0, x1, x12, x13 => if x13 < x12 then (if 0 ≤ x13 then (if x13 < (x0.length : Int) then (if x13 < (x1.length : Int) then (if (rd x0 x13) = (rd x1 x13) then (slices_Equal_int_int.l0 k x0 x1 x12 (wrap64 (x13 + 1))) else (some false)) else (none)) else (none)) else (none)) else (some true)
def slices_Equal_int_int.f (k : Nat) (l0 : List Int) (l1 : List Int) : Option (Bool) := if (l0.length : Int) = (l1.length : Int) then (slices_Equal_int_int.l0 k l0 l1 (l0.length : Int) 0) else (some false)
theorem slices_Equal_int_int.mono_l : ∀ k, (∀ y0 y1 y2 y3, LeO (slices_Equal_int_int.l0 k y0 y1 y2 y3) (slices_Equal_int_int.l0 (k + 1) y0 y1 y2 y3))
  | 0 => fun _ _ _ _ r h => by simp [slices_Equal_int_int.l0] at h
  | k + 1 => by
    have ih0 := slices_Equal_int_int.mono_l k
    · intro y0 y1 y2 y3
      unfold slices_Equal_int_int.l0
      repeat' first | (with_reducible exact ih0 _ _ _ _) | (with_reducible exact LeO.refl _) | (with_reducible exact LeO.none _) | (with_reducible refine LeO.ite ?_ ?_) | (with_reducible refine LeO.bind ?_ (fun _ => ?_)) | exact ih0 _ _ _ _ | exact LeO.none _ | refine LeO.ite ?_ ?_ | refine LeO.bind ?_ (fun _ => ?_)
theorem slices_Equal_int_int.mono : ∀ a0 a1 k, LeO (slices_Equal_int_int.f k a0 a1) (slices_Equal_int_int.f (k + 1) a0 a1) := by
 intro a0 a1 k
 have ih0 := slices_Equal_int_int.mono_l k
 unfold slices_Equal_int_int.f
 repeat' first
  | (with_reducible exact ih0 _ _ _ _)
  | (with_reducible exact LeO.refl _)
  | (with_reducible exact LeO.none _)
  | (with_reducible refine LeO.ite ?_ ?_)
  | (with_reducible refine LeO.bind ?_ (fun _ => ?_))
  | exact ih0 _ _ _ _
  | exact LeO.none _
  | refine LeO.ite ?_ ?_
  | refine LeO.bind ?_ (fun _ => ?_)
set_option maxHeartbeats 8000000 in
set_option maxRecDepth 100000 in
theorem slices_Equal_int_int.calls (k : Nat) (A0 : Option Addr) (c0 : Nat) (l0 : List Int) (A1 : Option Addr) (c1 : Nat) (l1 : List Int) (r : Bool) (w : World) (hr0 : Kd.C (Kd.int .i64) w A0 l0.length l0) (hc0 : l0.length ≤ c0) (hr1 : Kd.C (Kd.int .i64) w A1 l1.length l1) (hc1 : l1.length ≤ c1) (h : slices_Equal_int_int.f k l0 l1 = some r) :
    Calls Tryd.prog 19 #[.slice A0 l0.length c0, .slice A1 l1.length c1] w fun e w' => e = .returned (.bool r) ∧ Drawn0 w w' := by
 have HR0 := aM hr0
 have HC0 := aM hc0
 clear hr0 hc0
 have HR1 := aM hr1
 have HC1 := aM hc1
 clear hr1 hc1
 have H : (if (l0.length : Int) = (l1.length : Int) then (slices_Equal_int_int.l0 k l0 l1 (l0.length : Int) 0) else (some false)) = some r := h
 clear h
 by_cases c3 : (l0.length : Int) = (l1.length : Int)
 case neg =>
  rw [if_neg c3] at H
  have c3b0 : ((l0.length : Int) == (l1.length : Int)) = false := beq_eq_false_iff_ne.mpr c3
  have c3b1 : ((l0.length : Int) != (l1.length : Int)) = true := bne_iff_ne.mpr c3
  have c3b2 : (l0.length == l1.length) = false := by first | simpa using c3 | (simp at c3 ⊢; omega)
  obtain rfl := Option.some.inj H
  go_enter Tryd.func19, Tryd.ntmps19
  go_wp2
  repeat (go_quiet (fail); try go_wp2)
  go_ret
  exact ⟨by first | rfl | (simp; done) | (simp [*]; done), by repeat (first | exact Drawn0.refl _ | apply Drawn0.step)⟩
 rw [if_pos c3] at H
 have c3b0 : ((l0.length : Int) == (l1.length : Int)) = true := beq_iff_eq.mpr c3
 have c3b1 : ((l0.length : Int) != (l1.length : Int)) = false := bne_eq_false_iff_eq.mpr c3
 have c3b2 : (l0.length == l1.length) = true := by first | simpa using c3 | (simp at c3 ⊢; omega)
 clear c3
 have H' := aM H
 clear H
 go_enter Tryd.func19, Tryd.ntmps19
 go_wp2
 go_loopg [13] k (fun kq v13 w' => ∃ (x13_1 : Int), v13 = .int .i64 x13_1 ∧ Aside0 (slices_Equal_int_int.l0 kq l0 l1 (l0.length : Int) x13_1 = some r) ∧ Aside0 (kq ≤ k) ∧ Drawn0 w w')
 case atStart => exact ⟨(0), q4_, H', ⟨Nat.le_refl _⟩, by repeat (first | exact Drawn0.refl _ | apply Drawn0.step)⟩
 clear H'
 try clear c1
 try clear p2
 try clear c3
 try clear c3b0
 try clear c3b1
 try clear c3b2
 obtain ⟨x13_1, rfl, HA, HK1, ⟨m1, rfl⟩⟩ := hrel
 cases gk with
 | zero => exact absurd HA.out (by simp [slices_Equal_int_int.l0])
 | succ k1 => ?_
 have H := HA.out
 clear HA
 simp only [slices_Equal_int_int.l0] at H
 by_cases c4 : x13_1 < (l0.length : Int)
 case neg =>
  rw [if_neg c4] at H
  have c4b0 : decide (x13_1 < (l0.length : Int)) = false := decide_eq_false c4
  clear c4
  obtain rfl := Option.some.inj H
  go_wp2
  repeat (go_quiet (fail); try go_wp2)
  go_ret
  exact ⟨by first | rfl | (simp; done) | (simp [*]; done), by repeat (first | exact Drawn0.refl _ | apply Drawn0.step)⟩
 rw [if_pos c4] at H
 have c4b0 : decide (x13_1 < (l0.length : Int)) = true := decide_eq_true c4
 clear c4
 by_cases c5 : 0 ≤ x13_1
 case neg =>
  rw [if_neg c5] at H
  exact absurd H (by simp)
 rw [if_pos c5] at H
 have c5b0 : decide (0 ≤ x13_1) = true := decide_eq_true c5
 clear c5
 by_cases c6 : x13_1 < (l0.length : Int)
 case neg =>
  rw [if_neg c6] at H
  exact absurd H (by simp)
 rw [if_pos c6] at H
 have c6b0 : decide (x13_1 < (l0.length : Int)) = true := decide_eq_true c6
 clear c6
 by_cases c7 : x13_1 < (l1.length : Int)
 case neg =>
  rw [if_neg c7] at H
  exact absurd H (by simp)
 rw [if_pos c7] at H
 have c7b0 : decide (x13_1 < (l1.length : Int)) = true := decide_eq_true c7
 clear c7
 by_cases c8 : (rd l0 x13_1) = (rd l1 x13_1)
 case neg =>
  rw [if_neg c8] at H
  have c8b0 : ((rd l0 x13_1) == (rd l1 x13_1)) = false := beq_eq_false_iff_ne.mpr c8
  have c8b1 : ((rd l0 x13_1) != (rd l1 x13_1)) = true := bne_iff_ne.mpr c8
  obtain rfl := Option.some.inj H
  have p162 : 0 ≤ (x13_1 : Int) := of_decide_eq_true q3_
  have q162 : x13_1 < (l0.length : Int) := of_decide_eq_true q3_
  obtain ⟨ad162, e162, hx162_0⟩ := Kd.at_int HR0.out x13_1 p162 q162
  cases e162
  replace p162 := eq_true p162
  replace q162 := eq_true q162
  have p163 : 0 ≤ (x13_1 : Int) := of_decide_eq_true q3_
  have q163 : x13_1 < (l1.length : Int) := of_decide_eq_true q3_
  obtain ⟨ad163, e163, hx163_0⟩ := Kd.at_int HR1.out x13_1 p163 q163
  cases e163
  replace p163 := eq_true p163
  replace q163 := eq_true q163
  go_wp2
  repeat (go_quiet (fail); try go_wp2)
  go_ret
  exact ⟨by first | rfl | (simp; done) | (simp [*]; done), by repeat (first | exact Drawn0.refl _ | apply Drawn0.step)⟩
 rw [if_pos c8] at H
 have c8b0 : ((rd l0 x13_1) == (rd l1 x13_1)) = true := beq_iff_eq.mpr c8
 have c8b1 : ((rd l0 x13_1) != (rd l1 x13_1)) = false := bne_eq_false_iff_eq.mpr c8
 clear c8
 have H' := aM H
 clear H
 have p162 : 0 ≤ (x13_1 : Int) := of_decide_eq_true q3_
 have q162 : x13_1 < (l0.length : Int) := of_decide_eq_true q3_
 obtain ⟨ad162, e162, hx162_0⟩ := Kd.at_int HR0.out x13_1 p162 q162
 cases e162
 replace p162 := eq_true p162
 replace q162 := eq_true q162
 have p163 : 0 ≤ (x13_1 : Int) := of_decide_eq_true q3_
 have q163 : x13_1 < (l1.length : Int) := of_decide_eq_true q3_
 obtain ⟨ad163, e163, hx163_0⟩ := Kd.at_int HR1.out x13_1 p163 q163
 cases e163
 replace p163 := eq_true p163
 replace q163 := eq_true q163
 go_wp2
 repeat (go_quiet (fail); try go_wp2)
 first | go_roundg k1 | (refine Handed.intro k1 ?measure ?_; rotate_left; go_step; (repeat apply Exists.intro); simp only [add_plain]; refine ⟨?rel, rfl⟩)
 case measure => have := HK1.out; omega
 case rel => exact ⟨(wrap64 (x13_1 + 1)), q4_, H', ⟨by have := HK1.out; omega⟩, by repeat (first | exact Drawn0.refl _ | apply Drawn0.step)⟩
/-! ### peristylelaw10_awake: function 16 -/
def peristylelaw10_awake.f (k : Nat)  : Option (Bool) := (cost_Best.f k (([10, 100, 5] : List Int)) (([(⟨0, 1, 10⟩ : S75), (⟨1, 2, 100⟩ : S75)] : List (S75)))).bind fun bt170 => (if bt170.2.2 = 0 then (if bt170.2.1 = 10 then ((slices_Equal_int_int.f k bt170.1 (([0, 1, 2, (-1), (-1)] : List Int))).bind fun t178 => (some t178)) else (some false)) else (some false))
theorem peristylelaw10_awake.mono : ∀ k, LeO (peristylelaw10_awake.f k ) (peristylelaw10_awake.f (k + 1) ) := by
 intro  k
 unfold peristylelaw10_awake.f
 repeat' first
  | (with_reducible exact cost_Best.mono _ _ _)
  | (with_reducible exact slices_Equal_int_int.mono _ _ _)
  | (with_reducible exact LeO.refl _)
  | (with_reducible exact LeO.none _)
  | (with_reducible refine LeO.ite ?_ ?_)
  | (with_reducible refine LeO.bind ?_ (fun _ => ?_))
  | exact cost_Best.mono _ _ _
  | exact slices_Equal_int_int.mono _ _ _
  | exact LeO.none _
  | refine LeO.ite ?_ ?_
  | refine LeO.bind ?_ (fun _ => ?_)
set_option maxHeartbeats 8000000 in
set_option maxRecDepth 100000 in
theorem peristylelaw10_awake.calls (k : Nat)  (r : Bool) (w : World) (hG : Glob w) (h : peristylelaw10_awake.f k  = some r) :
    Calls Tryd.prog 16 #[] w fun e w' => e = .returned (.bool r) ∧ Below w.heap.size w w' := by
 have hu75 := Tryd.underlying75
 have HG := aM hG
 clear hG
 have HB := aM (Below.refl w.heap.size w)
 have H : ((cost_Best.f k (([10, 100, 5] : List Int)) (([(⟨0, 1, 10⟩ : S75), (⟨1, 2, 100⟩ : S75)] : List (S75)))).bind fun bt170 => (if bt170.2.2 = 0 then (if bt170.2.1 = 10 then ((slices_Equal_int_int.f k bt170.1 (([0, 1, 2, (-1), (-1)] : List Int))).bind fun t178 => (some t178)) else (some false)) else (some false))) = some r := h
 clear h
 obtain ⟨y164, hy164⟩ : ∃ y_ : List Int, y_ = (([10, 100, 5] : List Int)) := ⟨_, rfl⟩
 replace H : ((cost_Best.f k y164 (([(⟨0, 1, 10⟩ : S75), (⟨1, 2, 100⟩ : S75)] : List (S75)))).bind fun bt170 => (if bt170.2.2 = 0 then (if bt170.2.1 = 10 then ((slices_Equal_int_int.f k bt170.1 (([0, 1, 2, (-1), (-1)] : List Int))).bind fun t178 => (some t178)) else (some false)) else (some false))) = some r := sqz hy164 H
 have Ny164 := aM hy164
 clear hy164
 obtain ⟨y167, hy167⟩ : ∃ y_ : List (S75), y_ = (([(⟨0, 1, 10⟩ : S75), (⟨1, 2, 100⟩ : S75)] : List (S75))) := ⟨_, rfl⟩
 replace H : ((cost_Best.f k y164 y167).bind fun bt170 => (if bt170.2.2 = 0 then (if bt170.2.1 = 10 then ((slices_Equal_int_int.f k bt170.1 (([0, 1, 2, (-1), (-1)] : List Int))).bind fun t178 => (some t178)) else (some false)) else (some false))) = some r := sqz hy167 H
 have Ny167 := aM hy167
 clear hy167
 replace H := Option.bind_eq_some_iff.mp H
 obtain ⟨⟨t170, t171, t172⟩, A10, H⟩ := H
 replace H : (if t172 = 0 then (if t171 = 10 then ((slices_Equal_int_int.f k t170 (([0, 1, 2, (-1), (-1)] : List Int))).bind fun t178 => (some t178)) else (some false)) else (some false)) = some r := H
 have A1 := aM A10
 clear A10
 by_cases c2 : t172 = 0
 case neg =>
  rw [if_neg c2] at H
  have c2b0 : (t172 == 0) = false := beq_eq_false_iff_ne.mpr c2
  have c2b1 : (t172 != 0) = true := bne_iff_ne.mpr c2
  obtain rfl := Option.some.inj H
  go_enter Tryd.func16, Tryd.ntmps16
  go_wp2_with (first | ((with_reducible refine gate_dst (N := 5) rfl ?_); (try (refine gate_guard (by rfl) ?_; dsimp only)); refine Kd.R_lit (Kd.int .i64) _ 3 ?hg (N := 5) ?hd (xs := ([10, 100, 5] : List Int)) (inner := [.int .i64 10, .int .i64 100, .int .i64 5]) (ok := fun _ => True) (okp := fun _ => True) ?hr ?hp (fun _ hk => hk) trivial (Below.refl _ _) (Nat.le_refl _) (by simp) ?_; (case hd => rfl); (case hg => rfl); (case hr => first | (go_simp; done) | (go_simp; rfl)); (case hp => exact (Reps.one (show Kd.M (Kd.int .i64) _ _ _ 10 [.int .i64 10] from rfl) (Reps.one (show Kd.M (Kd.int .i64) _ _ _ 100 [.int .i64 100] from rfl) (Reps.one (show Kd.M (Kd.int .i64) _ _ _ 5 [.int .i64 5] from rfl) (Reps.none _ _))))); intro v165 w23 ho24 hb hg_ hnew_; clear hg_ hnew_; (first | rw [← Ny164.out] at ho24 | (simp only [Int.reduceToNat] at ho24; rw [← Ny164.out] at ho24)); have HO166 := aM (Kd.R_lower ho24 (below_size q1_)); replace HB := aM (below_step q1_ hb); clear hb ho24) | ((with_reducible refine gate_dst (N := 8) rfl ?_); (try (refine gate_guard (by rfl) ?_; dsimp only)); refine Kd.R_lit k75 _ 75 ?hg (N := 8) ?hd (xs := ([(⟨0, 1, 10⟩ : S75), (⟨1, 2, 100⟩ : S75)] : List (S75))) (inner := [.int .i64 0, .int .i64 1, .int .i64 10, .int .i64 1, .int .i64 2, .int .i64 100]) (ok := fun _ => True) (okp := fun _ => True) ?hr ?hp (fun _ hk => hk) trivial (Below.refl _ _) (Nat.le_refl _) (by simp) ?_; (case hd => rfl); (case hg => rfl); (case hr => first | (go_simp; done) | (go_simp; rfl)); (case hp => exact (Reps.c3 (show Kd.M k75 _ _ _ (⟨0, 1, 10⟩ : S75) [.int .i64 0, .int .i64 1, .int .i64 10] from (k75_mkM _ _ _ (⟨0, 1, 10⟩ : S75) )) (Reps.c3 (show Kd.M k75 _ _ _ (⟨1, 2, 100⟩ : S75) [.int .i64 1, .int .i64 2, .int .i64 100] from (k75_mkM _ _ _ (⟨1, 2, 100⟩ : S75) )) (Reps.none _ _)))); intro v168 w25 ho26 hb hg_ hnew_; clear hg_ hnew_; (first | rw [← Ny167.out] at ho26 | (simp only [Int.reduceToNat] at ho26; rw [← Ny167.out] at ho26)); have HO169 := aM (Kd.R_lower ho26 (below_size q1_)); replace HO166 := aM (Kd.R_below s5q3 hb); replace HB := aM (below_step q1_ hb); clear hb ho26; obtain ⟨Ao27, co27, eo27⟩ := Kd.R_slice HO166.out; subst eo27; obtain ⟨Ao28, co28, eo28⟩ := Kd.R_slice HO169.out; subst eo28) | ((with_reducible refine gate_callee (f := 17) rfl ?_); refine goesL_ (some 9) rfl rfl Tryd.func17 q5_ rfl #[.slice Ao27 y164.length co27, .slice Ao28 y167.length co28] rfl q2_ ?_; (with_reducible refine (cost_Best.calls k _ _ y164 _ _ y167 t170 t171 t172 _ ?side1 ?side2 ?side3 ?side4 ?side5 A1.out).mono ?_); (case side1 => repeat (first | exact (Kd.R_reads' HO166.out).2.2 | (with_reducible refine Kd.C_alloc ?_ _) | (with_reducible refine Kd.C_drewN ?_ _) | (with_reducible refine Kd.C_drew ?_))); (case side2 => exact (Kd.R_reads' HO166.out).2.1); (case side3 => repeat (first | exact (Kd.R_reads' HO169.out).2.2 | (with_reducible refine Kd.C_alloc ?_ _) | (with_reducible refine Kd.C_drewN ?_ _) | (with_reducible refine Kd.C_drew ?_))); (case side4 => exact (Kd.R_reads' HO169.out).2.1); (case side5 => exact Glob_below HG.out q1_); rintro e w29 ⟨v173, rfl, ho0, hb⟩; refine ⟨_, rfl, ?_⟩; have HO174 := aM (Kd.R_lower (Kd.R_new' ho0 (Kd.R_lt s5q3)) (below_size q1_)); replace HO166 := aM (Kd.R_elder' s5q3 (Kd.R_base ho0) hb); replace HO169 := aM (Kd.R_below s5q4 hb); replace HB := aM (below_step q1_ hb); (try clear hb); (try clear hb2); (try clear hk); (try clear hi); (try clear ho0)))
  go_ret
  exact ⟨eqR, q1_⟩
 rw [if_pos c2] at H
 have c2b0 : (t172 == 0) = true := beq_iff_eq.mpr c2
 have c2b1 : (t172 != 0) = false := bne_eq_false_iff_eq.mpr c2
 clear c2
 by_cases c3 : t171 = 10
 case neg =>
  rw [if_neg c3] at H
  have c3b0 : (t171 == 10) = false := beq_eq_false_iff_ne.mpr c3
  have c3b1 : (t171 != 10) = true := bne_iff_ne.mpr c3
  obtain rfl := Option.some.inj H
  go_enter Tryd.func16, Tryd.ntmps16
  go_wp2_with (first | ((with_reducible refine gate_dst (N := 5) rfl ?_); (try (refine gate_guard (by rfl) ?_; dsimp only)); refine Kd.R_lit (Kd.int .i64) _ 3 ?hg (N := 5) ?hd (xs := ([10, 100, 5] : List Int)) (inner := [.int .i64 10, .int .i64 100, .int .i64 5]) (ok := fun _ => True) (okp := fun _ => True) ?hr ?hp (fun _ hk => hk) trivial (Below.refl _ _) (Nat.le_refl _) (by simp) ?_; (case hd => rfl); (case hg => rfl); (case hr => first | (go_simp; done) | (go_simp; rfl)); (case hp => exact (Reps.one (show Kd.M (Kd.int .i64) _ _ _ 10 [.int .i64 10] from rfl) (Reps.one (show Kd.M (Kd.int .i64) _ _ _ 100 [.int .i64 100] from rfl) (Reps.one (show Kd.M (Kd.int .i64) _ _ _ 5 [.int .i64 5] from rfl) (Reps.none _ _))))); intro v165 w16 ho17 hb hg_ hnew_; clear hg_ hnew_; (first | rw [← Ny164.out] at ho17 | (simp only [Int.reduceToNat] at ho17; rw [← Ny164.out] at ho17)); have HO166 := aM (Kd.R_lower ho17 (below_size q1_)); replace HB := aM (below_step q1_ hb); clear hb ho17) | ((with_reducible refine gate_dst (N := 8) rfl ?_); (try (refine gate_guard (by rfl) ?_; dsimp only)); refine Kd.R_lit k75 _ 75 ?hg (N := 8) ?hd (xs := ([(⟨0, 1, 10⟩ : S75), (⟨1, 2, 100⟩ : S75)] : List (S75))) (inner := [.int .i64 0, .int .i64 1, .int .i64 10, .int .i64 1, .int .i64 2, .int .i64 100]) (ok := fun _ => True) (okp := fun _ => True) ?hr ?hp (fun _ hk => hk) trivial (Below.refl _ _) (Nat.le_refl _) (by simp) ?_; (case hd => rfl); (case hg => rfl); (case hr => first | (go_simp; done) | (go_simp; rfl)); (case hp => exact (Reps.c3 (show Kd.M k75 _ _ _ (⟨0, 1, 10⟩ : S75) [.int .i64 0, .int .i64 1, .int .i64 10] from (k75_mkM _ _ _ (⟨0, 1, 10⟩ : S75) )) (Reps.c3 (show Kd.M k75 _ _ _ (⟨1, 2, 100⟩ : S75) [.int .i64 1, .int .i64 2, .int .i64 100] from (k75_mkM _ _ _ (⟨1, 2, 100⟩ : S75) )) (Reps.none _ _)))); intro v168 w18 ho19 hb hg_ hnew_; clear hg_ hnew_; (first | rw [← Ny167.out] at ho19 | (simp only [Int.reduceToNat] at ho19; rw [← Ny167.out] at ho19)); have HO169 := aM (Kd.R_lower ho19 (below_size q1_)); replace HO166 := aM (Kd.R_below s5q3 hb); replace HB := aM (below_step q1_ hb); clear hb ho19; obtain ⟨Ao20, co20, eo20⟩ := Kd.R_slice HO166.out; subst eo20; obtain ⟨Ao21, co21, eo21⟩ := Kd.R_slice HO169.out; subst eo21) | ((with_reducible refine gate_callee (f := 17) rfl ?_); refine goesL_ (some 9) rfl rfl Tryd.func17 q5_ rfl #[.slice Ao20 y164.length co20, .slice Ao21 y167.length co21] rfl q2_ ?_; (with_reducible refine (cost_Best.calls k _ _ y164 _ _ y167 t170 t171 t172 _ ?side1 ?side2 ?side3 ?side4 ?side5 A1.out).mono ?_); (case side1 => repeat (first | exact (Kd.R_reads' HO166.out).2.2 | (with_reducible refine Kd.C_alloc ?_ _) | (with_reducible refine Kd.C_drewN ?_ _) | (with_reducible refine Kd.C_drew ?_))); (case side2 => exact (Kd.R_reads' HO166.out).2.1); (case side3 => repeat (first | exact (Kd.R_reads' HO169.out).2.2 | (with_reducible refine Kd.C_alloc ?_ _) | (with_reducible refine Kd.C_drewN ?_ _) | (with_reducible refine Kd.C_drew ?_))); (case side4 => exact (Kd.R_reads' HO169.out).2.1); (case side5 => exact Glob_below HG.out q1_); rintro e w22 ⟨v173, rfl, ho0, hb⟩; refine ⟨_, rfl, ?_⟩; have HO174 := aM (Kd.R_lower (Kd.R_new' ho0 (Kd.R_lt s5q3)) (below_size q1_)); replace HO166 := aM (Kd.R_elder' s5q3 (Kd.R_base ho0) hb); replace HO169 := aM (Kd.R_below s5q4 hb); replace HB := aM (below_step q1_ hb); (try clear hb); (try clear hb2); (try clear hk); (try clear hi); (try clear ho0)))
  go_ret
  exact ⟨eqR, q1_⟩
 rw [if_pos c3] at H
 have c3b0 : (t171 == 10) = true := beq_iff_eq.mpr c3
 have c3b1 : (t171 != 10) = false := bne_eq_false_iff_eq.mpr c3
 clear c3
 obtain ⟨y175, hy175⟩ : ∃ y_ : List Int, y_ = (([0, 1, 2, (-1), (-1)] : List Int)) := ⟨_, rfl⟩
 replace H : ((slices_Equal_int_int.f k t170 y175).bind fun t178 => (some t178)) = some r := sqz hy175 H
 have Ny175 := aM hy175
 clear hy175
 replace H := Option.bind_eq_some_iff.mp H
 obtain ⟨t178, A40, H⟩ := H
 replace H : (some t178) = some r := H
 have A4 := aM A40
 clear A40
 obtain rfl := Option.some.inj H
 go_enter Tryd.func16, Tryd.ntmps16
 go_wp2_with (first | ((with_reducible refine gate_dst (N := 5) rfl ?_); (try (refine gate_guard (by rfl) ?_; dsimp only)); refine Kd.R_lit (Kd.int .i64) _ 3 ?hg (N := 5) ?hd (xs := ([10, 100, 5] : List Int)) (inner := [.int .i64 10, .int .i64 100, .int .i64 5]) (ok := fun _ => True) (okp := fun _ => True) ?hr ?hp (fun _ hk => hk) trivial (Below.refl _ _) (Nat.le_refl _) (by simp) ?_; (case hd => rfl); (case hg => rfl); (case hr => first | (go_simp; done) | (go_simp; rfl)); (case hp => exact (Reps.one (show Kd.M (Kd.int .i64) _ _ _ 10 [.int .i64 10] from rfl) (Reps.one (show Kd.M (Kd.int .i64) _ _ _ 100 [.int .i64 100] from rfl) (Reps.one (show Kd.M (Kd.int .i64) _ _ _ 5 [.int .i64 5] from rfl) (Reps.none _ _))))); intro v165 w5 ho6 hb hg_ hnew_; clear hg_ hnew_; (first | rw [← Ny164.out] at ho6 | (simp only [Int.reduceToNat] at ho6; rw [← Ny164.out] at ho6)); have HO166 := aM (Kd.R_lower ho6 (below_size q1_)); replace HB := aM (below_step q1_ hb); clear hb ho6) | ((with_reducible refine gate_dst (N := 8) rfl ?_); (try (refine gate_guard (by rfl) ?_; dsimp only)); refine Kd.R_lit k75 _ 75 ?hg (N := 8) ?hd (xs := ([(⟨0, 1, 10⟩ : S75), (⟨1, 2, 100⟩ : S75)] : List (S75))) (inner := [.int .i64 0, .int .i64 1, .int .i64 10, .int .i64 1, .int .i64 2, .int .i64 100]) (ok := fun _ => True) (okp := fun _ => True) ?hr ?hp (fun _ hk => hk) trivial (Below.refl _ _) (Nat.le_refl _) (by simp) ?_; (case hd => rfl); (case hg => rfl); (case hr => first | (go_simp; done) | (go_simp; rfl)); (case hp => exact (Reps.c3 (show Kd.M k75 _ _ _ (⟨0, 1, 10⟩ : S75) [.int .i64 0, .int .i64 1, .int .i64 10] from (k75_mkM _ _ _ (⟨0, 1, 10⟩ : S75) )) (Reps.c3 (show Kd.M k75 _ _ _ (⟨1, 2, 100⟩ : S75) [.int .i64 1, .int .i64 2, .int .i64 100] from (k75_mkM _ _ _ (⟨1, 2, 100⟩ : S75) )) (Reps.none _ _)))); intro v168 w7 ho8 hb hg_ hnew_; clear hg_ hnew_; (first | rw [← Ny167.out] at ho8 | (simp only [Int.reduceToNat] at ho8; rw [← Ny167.out] at ho8)); have HO169 := aM (Kd.R_lower ho8 (below_size q1_)); replace HO166 := aM (Kd.R_below s5q3 hb); replace HB := aM (below_step q1_ hb); clear hb ho8; obtain ⟨Ao9, co9, eo9⟩ := Kd.R_slice HO166.out; subst eo9; obtain ⟨Ao10, co10, eo10⟩ := Kd.R_slice HO169.out; subst eo10) | ((with_reducible refine gate_callee (f := 17) rfl ?_); refine goesL_ (some 9) rfl rfl Tryd.func17 q5_ rfl #[.slice Ao9 y164.length co9, .slice Ao10 y167.length co10] rfl q2_ ?_; (with_reducible refine (cost_Best.calls k _ _ y164 _ _ y167 t170 t171 t172 _ ?side1 ?side2 ?side3 ?side4 ?side5 A1.out).mono ?_); (case side1 => repeat (first | exact (Kd.R_reads' HO166.out).2.2 | (with_reducible refine Kd.C_alloc ?_ _) | (with_reducible refine Kd.C_drewN ?_ _) | (with_reducible refine Kd.C_drew ?_))); (case side2 => exact (Kd.R_reads' HO166.out).2.1); (case side3 => repeat (first | exact (Kd.R_reads' HO169.out).2.2 | (with_reducible refine Kd.C_alloc ?_ _) | (with_reducible refine Kd.C_drewN ?_ _) | (with_reducible refine Kd.C_drew ?_))); (case side4 => exact (Kd.R_reads' HO169.out).2.1); (case side5 => exact Glob_below HG.out q1_); rintro e w11 ⟨v173, rfl, ho0, hb⟩; refine ⟨_, rfl, ?_⟩; have HO174 := aM (Kd.R_lower (Kd.R_new' ho0 (Kd.R_lt s5q3)) (below_size q1_)); replace HO166 := aM (Kd.R_elder' s5q3 (Kd.R_base ho0) hb); replace HO169 := aM (Kd.R_below s5q4 hb); replace HB := aM (below_step q1_ hb); (try clear hb); (try clear hb2); (try clear hk); (try clear hi); (try clear ho0)) | ((with_reducible refine gate_dst (N := 21) rfl ?_); (try (refine gate_guard (by rfl) ?_; dsimp only)); refine Kd.R_lit (Kd.int .i64) _ 3 ?hg (N := 21) ?hd (xs := ([0, 1, 2, (-1), (-1)] : List Int)) (inner := [.int .i64 0, .int .i64 1, .int .i64 2, .int .i64 (-1), .int .i64 (-1)]) (ok := fun _ => True) (okp := fun _ => True) ?hr ?hp (fun _ hk => hk) trivial (Below.refl _ _) (Nat.le_refl _) (by simp) ?_; (case hd => rfl); (case hg => rfl); (case hr => first | (go_simp; done) | (go_simp; rfl)); (case hp => exact (Reps.one (show Kd.M (Kd.int .i64) _ _ _ 0 [.int .i64 0] from rfl) (Reps.one (show Kd.M (Kd.int .i64) _ _ _ 1 [.int .i64 1] from rfl) (Reps.one (show Kd.M (Kd.int .i64) _ _ _ 2 [.int .i64 2] from rfl) (Reps.one (show Kd.M (Kd.int .i64) _ _ _ (-1) [.int .i64 (-1)] from rfl) (Reps.one (show Kd.M (Kd.int .i64) _ _ _ (-1) [.int .i64 (-1)] from rfl) (Reps.none _ _))))))); intro v176 w12 ho13 hb hg_ hnew_; clear hg_ hnew_; (first | rw [← Ny175.out] at ho13 | (simp only [Int.reduceToNat] at ho13; rw [← Ny175.out] at ho13)); have HO177 := aM (Kd.R_lower (Kd.R_new' (Kd.R_new' ho13 (Kd.R_lt s5q3)) (Kd.R_lt s5q5)) (below_size q1_)); replace HO166 := aM (Kd.R_elder' s5q3 (Kd.R_base ho13) hb); replace HO169 := aM (Kd.R_below s5q4 hb); replace HO174 := aM (Kd.R_elder' s5q5 (Kd.R_base ho13) hb); replace HB := aM (below_step q1_ hb); clear hb ho13; obtain ⟨Ao14, co14, eo14⟩ := Kd.R_slice HO174.out; subst eo14; obtain ⟨Ao15, co15, eo15⟩ := Kd.R_slice HO177.out; subst eo15) | (go_at_call 19; (with_reducible refine (slices_Equal_int_int.calls k _ _ t170 _ _ y175 t178 _ ?side1 ?side2 ?side3 ?side4 A4.out).mono ?_); (case side1 => repeat (first | exact (Kd.R_reads' HO174.out).2.2 | (with_reducible refine Kd.C_alloc ?_ _) | (with_reducible refine Kd.C_drewN ?_ _) | (with_reducible refine Kd.C_drew ?_))); (case side2 => exact (Kd.R_reads' HO174.out).2.1); (case side3 => repeat (first | exact (Kd.R_reads' HO177.out).2.2 | (with_reducible refine Kd.C_alloc ?_ _) | (with_reducible refine Kd.C_drewN ?_ _) | (with_reducible refine Kd.C_drew ?_))); (case side4 => exact (Kd.R_reads' HO177.out).2.1); rintro e w' ⟨rfl, ⟨nd, rfl⟩⟩))
 go_ret
 exact ⟨eqR, q1_⟩
/-! ### kit_sign: function 122 -/
def kit_sign.f (a0 : Int) (a1 : Int) : Option (Int) := if a0 < a1 then (some (-1)) else (if a0 > a1 then (some 1) else (some 0))
set_option maxHeartbeats 8000000 in
set_option maxRecDepth 100000 in
theorem kit_sign.calls (a0 : Int) (a1 : Int) (r : Int) (w : World) (h : kit_sign.f a0 a1 = some r) :
    Calls Tryd.prog 122 #[.int .i64 a0, .int .i64 a1] w fun e w' => e = .returned (.int .i64 r) ∧ Drawn0 w w' := by
 have H : (if a0 < a1 then (some (-1)) else (if a0 > a1 then (some 1) else (some 0))) = some r := h
 clear h
 by_cases c3 : a0 < a1
 · rw [if_pos c3] at H
   have c3b0 : decide (a0 < a1) = true := decide_eq_true c3
   clear c3
   obtain rfl := Option.some.inj H
   go_enter Tryd.func122, Tryd.ntmps122
   go_wp2
   go_ret
   exact ⟨by first | rfl | (simp; done) | (simp [*]; done), by repeat (first | exact Drawn0.refl _ | apply Drawn0.step)⟩
 rw [if_neg c3] at H
 have c3b0 : decide (a0 < a1) = false := decide_eq_false c3
 clear c3
 by_cases c4 : a0 > a1
 · rw [if_pos c4] at H
   have c4b0 : decide (a1 < a0) = true := decide_eq_true c4
   clear c4
   obtain rfl := Option.some.inj H
   go_enter Tryd.func122, Tryd.ntmps122
   go_wp2
   go_ret
   exact ⟨by first | rfl | (simp; done) | (simp [*]; done), by repeat (first | exact Drawn0.refl _ | apply Drawn0.step)⟩
 rw [if_neg c4] at H
 have c4b0 : decide (a1 < a0) = false := decide_eq_false c4
 clear c4
 obtain rfl := Option.some.inj H
 go_enter Tryd.func122, Tryd.ntmps122
 go_wp2
 go_ret
 exact ⟨by first | rfl | (simp; done) | (simp [*]; done), by repeat (first | exact Drawn0.refl _ | apply Drawn0.step)⟩
-- NOT PRINTED: function 145 (bytealg_abigen_runtime_cmpstring)

-- NOT PRINTED: function 133 (bytealg_CompareString)

/-! ### strings_Compare: function 123 (by hand) -/
set_option maxHeartbeats 1000000 in
set_option maxRecDepth 100000 in
theorem cmpstr_low (a b : ByteArray) (w : World) :
    Calls Tryd.prog 133 #[.string a, .string b] w fun e w' => e = .returned (.int .i64 (Lib.compareBytes a.data.toList b.data.toList)) ∧ w' = w := by
 go_enter Tryd.func133, Tryd.ntmps133
 go_wp2
 rw [run_callFunc_extern Tryd.func145 q5_ q5_ q5_ (e := Extern.BytealgCompare.compare) q5_, Lib.run_compareString]
 simp only [Result.andThen]
 rw [Oper.upon_value]
 go_wp2
 go_ret
 exact ⟨rfl, rfl⟩
def strings_Compare.f (a0 : ByteArray) (a1 : ByteArray) : Option Int := some (Lib.compareBytes a0.data.toList a1.data.toList)
theorem strings_Compare.calls (a0 : ByteArray) (a1 : ByteArray) (r : Int) (w : World) (h : strings_Compare.f a0 a1 = some r) :
    Calls Tryd.prog 123 #[.string a0, .string a1] w fun e w' => e = .returned (.int .i64 r) ∧ Drawn0 w w' := by
 obtain rfl := Option.some.inj h
 clear h
 have cl := aM (cmpstr_low a0 a1)
 go_enter Tryd.func123, Tryd.ntmps123
 go_wp2_with (go_at_call 133; refine (cl.out _).mono ?_; rintro e w' ⟨rfl, rfl⟩)
 go_ret
 exact ⟨rfl, Drawn0.refl _⟩
/-! ### kit_Compare: function 97 -/
def kit_Compare.f (a0_0 : Int) (a0_1 : Int) (a0_2 : ByteArray) (a1_0 : Int) (a1_1 : Int) (a1_2 : ByteArray) : Option (Int) := if a0_0 = a1_0 then (if a0_0 = 3 then ((strings_Compare.f a0_2 a1_2).bind fun t182 => (some t182)) else ((kit_sign.f a0_1 a1_1).bind fun t183 => (some t183))) else ((kit_sign.f a0_0 a1_0).bind fun t181 => (some t181))
set_option maxHeartbeats 8000000 in
set_option maxRecDepth 100000 in
theorem kit_Compare.calls (a0_0 : Int) (a0_1 : Int) (a0_2 : ByteArray) (a1_0 : Int) (a1_1 : Int) (a1_2 : ByteArray) (r : Int) (w : World) (h : kit_Compare.f a0_0 a0_1 a0_2 a1_0 a1_1 a1_2 = some r) :
    Calls Tryd.prog 97 #[.agg #[.int .i64 a0_0, .int .i64 a0_1, .string a0_2], .agg #[.int .i64 a1_0, .int .i64 a1_1, .string a1_2]] w fun e w' => e = .returned (.int .i64 r) ∧ Below w.heap.size w w' := by
 have hu48 := Tryd.underlying48
 have HB := aM (Below.refl w.heap.size w)
 have H : (if a0_0 = a1_0 then (if a0_0 = 3 then ((strings_Compare.f a0_2 a1_2).bind fun t182 => (some t182)) else ((kit_sign.f a0_1 a1_1).bind fun t183 => (some t183))) else ((kit_sign.f a0_0 a1_0).bind fun t181 => (some t181))) = some r := h
 clear h
 by_cases c3 : a0_0 = a1_0
 case neg =>
  rw [if_neg c3] at H
  have c3b0 : (a0_0 == a1_0) = false := beq_eq_false_iff_ne.mpr c3
  have c3b1 : (a0_0 != a1_0) = true := bne_iff_ne.mpr c3
  replace H := Option.bind_eq_some_iff.mp H
  obtain ⟨t181, A170, H⟩ := H
  replace H : (some t181) = some r := H
  have A17 := aM A170
  clear A170
  obtain rfl := Option.some.inj H
  go_enter Tryd.func97, Tryd.ntmps97
  go_wp2_with (first | ((with_reducible refine gate_dst (N := 2) rfl ?_); refine box_event ?hg (N := 2) ?hd (cs := #[.int .i64 a0_0, .int .i64 a0_1, .string a0_2]) (t := 48) ?hr ?_; (case hd => rfl); (case hg => rfl); (case hr => first | (go_simp; done) | (go_simp; rfl)); intro gb179 hg w18 hbox hb; have BK179 := aM hbox; have GW179 := aM (s5q10 : w.heap.size ≤ gb179); have GE179 := GW179; replace HB := aM (below_step q1_ hb); clear hb hbox hg) | ((with_reducible refine gate_dst (N := 3) rfl ?_); refine box_event ?hg (N := 3) ?hd (cs := #[.int .i64 a1_0, .int .i64 a1_1, .string a1_2]) (t := 48) ?hr ?_; (case hd => rfl); (case hg => rfl); (case hr => first | (go_simp; done) | (go_simp; rfl)); intro gb180 hg w19 hbox hb; have BK180 := aM hbox; have GW180 := aM (s5q11 : w.heap.size ≤ gb180); have GE180 := GW180; have NB179_180 := aM (s5q13 : gb179 ≠ gb180); have NB180_179 := aM (s5q12 : gb180 ≠ gb179); replace BK179 := aM (bbR BK179.out hb); replace HB := aM (below_step s5q9 hb); clear hb hbox hg; have hnb20 := NB179_180.out; have hnc20 := NB180_179.out; obtain ⟨hcz21_0, hcz21_1, hcz21_2, hfz21_0, hfz21_1, hfz21_2⟩ := cells3 BK179.out; obtain ⟨hcz22_0, hcz22_1, hcz22_2, hfz22_0, hfz22_1, hfz22_2⟩ := cells3 BK180.out) | ((with_reducible refine gate_callee (f := 122) rfl ?_); refine goesL_ (some 14) rfl rfl Tryd.func122 q5_ rfl #[.int .i64 a0_0, .int .i64 a1_0] rfl q2_ ?_; (with_reducible refine (kit_sign.calls a0_0 a1_0 t181 _ A17.out).mono ?_); rintro e w' ⟨rfl, ⟨nd, rfl⟩⟩; refine ⟨_, rfl, ?_⟩))
  go_ret
  exact ⟨eqR, s5z2⟩
 rw [if_pos c3] at H
 have c3b0 : (a0_0 == a1_0) = true := beq_iff_eq.mpr c3
 have c3b1 : (a0_0 != a1_0) = false := bne_eq_false_iff_eq.mpr c3
 clear c3
 by_cases c4 : a0_0 = 3
 · rw [if_pos c4] at H
   have c4b0 : (a0_0 == 3) = true := beq_iff_eq.mpr c4
   have c4b1 : (a0_0 != 3) = false := bne_eq_false_iff_eq.mpr c4
   clear c4
   replace H := Option.bind_eq_some_iff.mp H
   obtain ⟨t182, A50, H⟩ := H
   replace H : (some t182) = some r := H
   have A5 := aM A50
   clear A50
   obtain rfl := Option.some.inj H
   go_enter Tryd.func97, Tryd.ntmps97
   go_wp2_with (first | ((with_reducible refine gate_dst (N := 2) rfl ?_); refine box_event ?hg (N := 2) ?hd (cs := #[.int .i64 a0_0, .int .i64 a0_1, .string a0_2]) (t := 48) ?hr ?_; (case hd => rfl); (case hg => rfl); (case hr => first | (go_simp; done) | (go_simp; rfl)); intro gb179 hg w6 hbox hb; have BK179 := aM hbox; have GW179 := aM (s5q10 : w.heap.size ≤ gb179); have GE179 := GW179; replace HB := aM (below_step q1_ hb); clear hb hbox hg) | ((with_reducible refine gate_dst (N := 3) rfl ?_); refine box_event ?hg (N := 3) ?hd (cs := #[.int .i64 a1_0, .int .i64 a1_1, .string a1_2]) (t := 48) ?hr ?_; (case hd => rfl); (case hg => rfl); (case hr => first | (go_simp; done) | (go_simp; rfl)); intro gb180 hg w7 hbox hb; have BK180 := aM hbox; have GW180 := aM (s5q11 : w.heap.size ≤ gb180); have GE180 := GW180; have NB179_180 := aM (s5q13 : gb179 ≠ gb180); have NB180_179 := aM (s5q12 : gb180 ≠ gb179); replace BK179 := aM (bbR BK179.out hb); replace HB := aM (below_step s5q9 hb); clear hb hbox hg; have hnb8 := NB179_180.out; have hnc8 := NB180_179.out; obtain ⟨hcz9_0, hcz9_1, hcz9_2, hfz9_0, hfz9_1, hfz9_2⟩ := cells3 BK179.out; obtain ⟨hcz10_0, hcz10_1, hcz10_2, hfz10_0, hfz10_1, hfz10_2⟩ := cells3 BK180.out) | ((with_reducible refine gate_callee (f := 123) rfl ?_); refine goesL_ (some 22) rfl rfl Tryd.func123 q5_ rfl #[.string a0_2, .string a1_2] rfl q2_ ?_; (with_reducible refine (strings_Compare.calls a0_2 a1_2 t182 _ A5.out).mono ?_); rintro e w' ⟨rfl, ⟨nd, rfl⟩⟩; refine ⟨_, rfl, ?_⟩))
   go_ret
   exact ⟨eqR, s5z2⟩
 rw [if_neg c4] at H
 have c4b0 : (a0_0 == 3) = false := beq_eq_false_iff_ne.mpr c4
 have c4b1 : (a0_0 != 3) = true := bne_iff_ne.mpr c4
 replace H := Option.bind_eq_some_iff.mp H
 obtain ⟨t183, A110, H⟩ := H
 replace H : (some t183) = some r := H
 have A11 := aM A110
 clear A110
 obtain rfl := Option.some.inj H
 go_enter Tryd.func97, Tryd.ntmps97
 go_wp2_with (first | ((with_reducible refine gate_dst (N := 2) rfl ?_); refine box_event ?hg (N := 2) ?hd (cs := #[.int .i64 a0_0, .int .i64 a0_1, .string a0_2]) (t := 48) ?hr ?_; (case hd => rfl); (case hg => rfl); (case hr => first | (go_simp; done) | (go_simp; rfl)); intro gb179 hg w12 hbox hb; have BK179 := aM hbox; have GW179 := aM (s5q10 : w.heap.size ≤ gb179); have GE179 := GW179; replace HB := aM (below_step q1_ hb); clear hb hbox hg) | ((with_reducible refine gate_dst (N := 3) rfl ?_); refine box_event ?hg (N := 3) ?hd (cs := #[.int .i64 a1_0, .int .i64 a1_1, .string a1_2]) (t := 48) ?hr ?_; (case hd => rfl); (case hg => rfl); (case hr => first | (go_simp; done) | (go_simp; rfl)); intro gb180 hg w13 hbox hb; have BK180 := aM hbox; have GW180 := aM (s5q11 : w.heap.size ≤ gb180); have GE180 := GW180; have NB179_180 := aM (s5q13 : gb179 ≠ gb180); have NB180_179 := aM (s5q12 : gb180 ≠ gb179); replace BK179 := aM (bbR BK179.out hb); replace HB := aM (below_step s5q9 hb); clear hb hbox hg; have hnb14 := NB179_180.out; have hnc14 := NB180_179.out; obtain ⟨hcz15_0, hcz15_1, hcz15_2, hfz15_0, hfz15_1, hfz15_2⟩ := cells3 BK179.out; obtain ⟨hcz16_0, hcz16_1, hcz16_2, hfz16_0, hfz16_1, hfz16_2⟩ := cells3 BK180.out) | ((with_reducible refine gate_callee (f := 122) rfl ?_); refine goesL_ (some 27) rfl rfl Tryd.func122 q5_ rfl #[.int .i64 a0_1, .int .i64 a1_1] rfl q2_ ?_; (with_reducible refine (kit_sign.calls a0_1 a1_1 t183 _ A11.out).mono ?_); rintro e w' ⟨rfl, ⟨nd, rfl⟩⟩; refine ⟨_, rfl, ?_⟩))
 go_ret
 exact ⟨eqR, s5z2⟩
/-! ### kit_Range: function 94 -/
def kit_Range.f (a0 : Int) (a1 : Int) (a2 : Int) : Option (Int) := (kit_In.f a0 a1 a2).bind fun t184 => (if t184 = true then (some 0) else (some 1))
set_option maxHeartbeats 8000000 in
set_option maxRecDepth 100000 in
theorem kit_Range.calls (a0 : Int) (a1 : Int) (a2 : Int) (r : Int) (w : World) (h : kit_Range.f a0 a1 a2 = some r) :
    Calls Tryd.prog 94 #[.int .i64 a0, .int .i64 a1, .int .i64 a2] w fun e w' => e = .returned (.int .i64 r) ∧ Drawn0 w w' := by
 have H : ((kit_In.f a0 a1 a2).bind fun t184 => (if t184 = true then (some 0) else (some 1))) = some r := h
 clear h
 replace H := Option.bind_eq_some_iff.mp H
 obtain ⟨t184, A40, H⟩ := H
 replace H : (if t184 = true then (some 0) else (some 1)) = some r := H
 have A4 := aM A40
 clear A40
 by_cases c5 : t184 = true
 · subst c5
   have H1 : (some 0) = some r := by rw [if_pos rfl] at H; exact H
   clear H
   have H := H1
   clear H1
   obtain rfl := Option.some.inj H
   go_enter Tryd.func94, Tryd.ntmps94
   go_wp2_with (first | ((with_reducible refine gate_callee (f := 41) rfl ?_); refine goesL_ (some 10) rfl rfl Tryd.func41 q5_ rfl #[.int .i64 a0, .int .i64 a1, .int .i64 a2] rfl q2_ ?_; (with_reducible refine (kit_In.calls a0 a1 a2 true _ A4.out).mono ?_); rintro e w' ⟨rfl, ⟨nd, rfl⟩⟩; refine ⟨_, rfl, ?_⟩))
   go_ret
   exact ⟨by first | rfl | (simp; done) | (simp [*]; done), by repeat (first | exact Drawn0.refl _ | apply Drawn0.step)⟩
 replace c5 := Bool.eq_false_iff.mpr c5
 subst c5
 have H1 : (some 1) = some r := q6_
 clear H
 have H := H1
 clear H1
 obtain rfl := Option.some.inj H
 go_enter Tryd.func94, Tryd.ntmps94
 go_wp2_with (first | ((with_reducible refine gate_callee (f := 41) rfl ?_); refine goesL_ (some 10) rfl rfl Tryd.func41 q5_ rfl #[.int .i64 a0, .int .i64 a1, .int .i64 a2] rfl q2_ ?_; (with_reducible refine (kit_In.calls a0 a1 a2 false _ A4.out).mono ?_); rintro e w' ⟨rfl, ⟨nd, rfl⟩⟩; refine ⟨_, rfl, ?_⟩))
 go_ret
 exact ⟨by first | rfl | (simp; done) | (simp [*]; done), by repeat (first | exact Drawn0.refl _ | apply Drawn0.step)⟩
/-! ### value_CheckValue: function 111 -/
mutual
def value_CheckValue.j0 : Nat → Int → Bool → Int → Int → ByteArray → Option (Int)
  | 0, _, _, _, _, _ => none
  | k + 1, x5, x16, x186000, x186001, x186002 => if x16 = true then (if x186002.toList = ([] : List UInt8) then (if x186000 = 1 then ((kit_Range.f x186001 0 1).bind fun t186 => (some t186)) else ((kit_Range.f x186001 (-1000000000000000) 1000000000000000).bind fun t187 => (some t187))) else (some 3)) else (if x5 = 3 then (if x186001 = 0 then (if (x186002.size : Int) > 200 then (some 2) else (value_CheckValue.l0 k (x186002.size : Int) 0 x186000 x186001 x186002)) else (some 3)) else (some 4))
def value_CheckValue.l0 : Nat → Int → Int → Int → Int → ByteArray → Option (Int)
  | 0, _, _, _, _, _ => none
  | k + 1, x42, x43, x186000, x186001, x186002 => if x43 < x42 then (if 0 ≤ x43 then (if x43 < (x186002.size : Int) then ((kit_In.f (wrap64 (bt x186002 x43)) 32 126).bind fun t188 => (if t188 = true then (value_CheckValue.l0 k x42 (wrap64 (x43 + 1)) x186000 x186001 x186002) else (some 3))) else (none)) else (none)) else (some 0)
end
def value_CheckValue.f (k : Nat) (a0_0 : Int) (a0_1 : Int) (a0_2 : ByteArray) : Option (Int) := if a0_0 = 0 then (if a0_1 = 0 then (if a0_2.toList = ([] : List UInt8) then (some 0) else (some 3)) else (some 3)) else (if a0_0 = 1 then (value_CheckValue.j0 k a0_0 (a0_0 == 1) a0_0 a0_1 a0_2) else (value_CheckValue.j0 k a0_0 (a0_0 == 2) a0_0 a0_1 a0_2))
theorem value_CheckValue.mono_l : ∀ k, (∀ y0 y1 y2 y3 y4, LeO (value_CheckValue.j0 k y0 y1 y2 y3 y4) (value_CheckValue.j0 (k + 1) y0 y1 y2 y3 y4)) ∧ (∀ y0 y1 y2 y3 y4, LeO (value_CheckValue.l0 k y0 y1 y2 y3 y4) (value_CheckValue.l0 (k + 1) y0 y1 y2 y3 y4))
  | 0 => ⟨fun _ _ _ _ _ r h => by simp [value_CheckValue.j0] at h, fun _ _ _ _ _ r h => by simp [value_CheckValue.l0] at h⟩
  | k + 1 => by
    obtain ⟨ih0, ih1⟩ := value_CheckValue.mono_l k
    refine ⟨?_, ?_⟩
    · intro y0 y1 y2 y3 y4
      unfold value_CheckValue.j0
      exact s5qm0
    · intro y0 y1 y2 y3 y4
      unfold value_CheckValue.l0
      exact s5qm0
theorem value_CheckValue.mono : ∀ a0 a1 a2 k, LeO (value_CheckValue.f k a0 a1 a2) (value_CheckValue.f (k + 1) a0 a1 a2) := by
 intro a0 a1 a2 k
 obtain ⟨ih0, ih1⟩ := value_CheckValue.mono_l k
 unfold value_CheckValue.f
 repeat' first
  | (with_reducible exact ih0 _ _ _ _ _)
  | (with_reducible exact ih1 _ _ _ _ _)
  | (with_reducible exact LeO.refl _)
  | (with_reducible exact LeO.none _)
  | (with_reducible refine LeO.ite ?_ ?_)
  | (with_reducible refine LeO.bind ?_ (fun _ => ?_))
  | exact ih0 _ _ _ _ _
  | exact ih1 _ _ _ _ _
  | exact LeO.none _
  | refine LeO.ite ?_ ?_
  | refine LeO.bind ?_ (fun _ => ?_)
set_option maxHeartbeats 8000000 in
set_option maxRecDepth 100000 in
theorem value_CheckValue.calls (k : Nat) (a0_0 : Int) (a0_1 : Int) (a0_2 : ByteArray) (r : Int) (w : World) (h : value_CheckValue.f k a0_0 a0_1 a0_2 = some r) :
    Calls Tryd.prog 111 #[.agg #[.int .i64 a0_0, .int .i64 a0_1, .string a0_2]] w fun e w' => e = .returned (.int .i64 r) ∧ Below w.heap.size w w' := by
 have hu48 := Tryd.underlying48
 have HB := aM (Below.refl w.heap.size w)
 have H : (if a0_0 = 0 then (if a0_1 = 0 then (if a0_2.toList = ([] : List UInt8) then (some 0) else (some 3)) else (some 3)) else (if a0_0 = 1 then (value_CheckValue.j0 k a0_0 (a0_0 == 1) a0_0 a0_1 a0_2) else (value_CheckValue.j0 k a0_0 (a0_0 == 2) a0_0 a0_1 a0_2))) = some r := h
 clear h
 by_cases c2 : a0_0 = 0
 · rw [if_pos c2] at H
   have c2b0 : (a0_0 == 0) = true := beq_iff_eq.mpr c2
   have c2b1 : (a0_0 != 0) = false := bne_eq_false_iff_eq.mpr c2
   clear c2
   by_cases c3 : a0_1 = 0
   case neg =>
    rw [if_neg c3] at H
    have c3b0 : (a0_1 == 0) = false := beq_eq_false_iff_ne.mpr c3
    have c3b1 : (a0_1 != 0) = true := bne_iff_ne.mpr c3
    obtain rfl := Option.some.inj H
    go_enter Tryd.func111, Tryd.ntmps111
    go_wp2_with (first | ((with_reducible refine gate_dst (N := 1) rfl ?_); refine box_event ?hg (N := 1) ?hd (cs := #[.int .i64 a0_0, .int .i64 a0_1, .string a0_2]) (t := 48) ?hr ?_; (case hd => rfl); (case hg => rfl); (case hr => first | (go_simp; done) | (go_simp; rfl)); intro gb185 hg w9 hbox hb; have BK185 := aM hbox; have GW185 := aM (s5q10 : w.heap.size ≤ gb185); have GE185 := GW185; replace HB := aM (below_step q1_ hb); clear hb hbox hg; obtain ⟨hcz10_0, hcz10_1, hcz10_2, hfz10_0, hfz10_1, hfz10_2⟩ := cells3 BK185.out))
    go_ret
    exact ⟨eqR, s5z0⟩
   rw [if_pos c3] at H
   have c3b0 : (a0_1 == 0) = true := beq_iff_eq.mpr c3
   have c3b1 : (a0_1 != 0) = false := bne_eq_false_iff_eq.mpr c3
   clear c3
   by_cases c4 : a0_2.toList = ([] : List UInt8)
   case neg =>
    rw [if_neg c4] at H
    have c4b0 : (a0_2.toList == ([] : List UInt8)) = false := beq_eq_false_iff_ne.mpr c4
    have c4b1 : (a0_2.toList != ([] : List UInt8)) = true := bne_iff_ne.mpr c4
    obtain rfl := Option.some.inj H
    go_enter Tryd.func111, Tryd.ntmps111
    go_wp2_with (first | ((with_reducible refine gate_dst (N := 1) rfl ?_); refine box_event ?hg (N := 1) ?hd (cs := #[.int .i64 a0_0, .int .i64 a0_1, .string a0_2]) (t := 48) ?hr ?_; (case hd => rfl); (case hg => rfl); (case hr => first | (go_simp; done) | (go_simp; rfl)); intro gb185 hg w7 hbox hb; have BK185 := aM hbox; have GW185 := aM (s5q10 : w.heap.size ≤ gb185); have GE185 := GW185; replace HB := aM (below_step q1_ hb); clear hb hbox hg; obtain ⟨hcz8_0, hcz8_1, hcz8_2, hfz8_0, hfz8_1, hfz8_2⟩ := cells3 BK185.out))
    go_ret
    exact ⟨eqR, s5z0⟩
   rw [if_pos c4] at H
   have c4b0 : (a0_2.toList == ([] : List UInt8)) = true := beq_iff_eq.mpr c4
   have c4b1 : (a0_2.toList != ([] : List UInt8)) = false := bne_eq_false_iff_eq.mpr c4
   clear c4
   obtain rfl := Option.some.inj H
   go_enter Tryd.func111, Tryd.ntmps111
   go_wp2_with (first | ((with_reducible refine gate_dst (N := 1) rfl ?_); refine box_event ?hg (N := 1) ?hd (cs := #[.int .i64 a0_0, .int .i64 a0_1, .string a0_2]) (t := 48) ?hr ?_; (case hd => rfl); (case hg => rfl); (case hr => first | (go_simp; done) | (go_simp; rfl)); intro gb185 hg w5 hbox hb; have BK185 := aM hbox; have GW185 := aM (s5q10 : w.heap.size ≤ gb185); have GE185 := GW185; replace HB := aM (below_step q1_ hb); clear hb hbox hg; obtain ⟨hcz6_0, hcz6_1, hcz6_2, hfz6_0, hfz6_1, hfz6_2⟩ := cells3 BK185.out))
   go_ret
   exact ⟨eqR, s5z0⟩
 rw [if_neg c2] at H
 have c2b0 : (a0_0 == 0) = false := beq_eq_false_iff_ne.mpr c2
 have c2b1 : (a0_0 != 0) = true := bne_iff_ne.mpr c2
 have HC11 := aM H
 clear H
 go_enter Tryd.func111, Tryd.ntmps111
 go_upto_if 16 with (first | ((with_reducible refine gate_dst (N := 1) rfl ?_); refine box_event ?hg (N := 1) ?hd (cs := #[.int .i64 a0_0, .int .i64 a0_1, .string a0_2]) (t := 48) ?hr ?_; (case hd => rfl); (case hg => rfl); (case hr => first | (go_simp; done) | (go_simp; rfl)); intro gb185 hg w12 hbox hb; have BK185 := aM hbox; have GW185 := aM (s5q10 : w.heap.size ≤ gb185); have GE185 := GW185; replace HB := aM (below_step q1_ hb); clear hb hbox hg; obtain ⟨hcz13_0, hcz13_1, hcz13_2, hfz13_0, hfz13_1, hfz13_2⟩ := cells3 BK185.out))
 (try simp only [Act.put, sqa, sqb, sqc])
 go_cut [16] (fun v16 wc => ∃ (kq : Nat) (x16_10 : Bool), v16 = .bool x16_10 ∧ Aside0 (value_CheckValue.j0 kq a0_0 x16_10 a0_0 a0_1 a0_2 = some r) ∧ Aside0 (kq ≤ k) ∧ Aside0 (wc.heap[gb185]? = some (.cells #[.int .i64 a0_0, .int .i64 a0_1, .string a0_2] 48 (0, 0))) ∧ Aside0 (Below w.heap.size w wc))
 case first =>
  have H := HC11.out
  clear HC11
  by_cases c14 : a0_0 = 1
  case neg =>
   rw [if_neg c14] at H
   have c14b0 : (a0_0 == 1) = false := beq_eq_false_iff_ne.mpr c14
   have c14b1 : (a0_0 != 1) = true := bne_iff_ne.mpr c14
   (first | rw [c14b0] | (simp only [i64_w, i32_w]; rw [c14b0]) | skip)
   have H' := aM H
   clear H
   go_wp2
   go_meet
   case rel => exact ⟨_, ((a0_0 == 2)), q4_, H', ⟨by first | omega | exact Nat.le_refl _⟩, ⟨blkR BK185.out⟩, ⟨s5z0⟩⟩
  rw [if_pos c14] at H
  have c14b0 : (a0_0 == 1) = true := beq_iff_eq.mpr c14
  have c14b1 : (a0_0 != 1) = false := bne_eq_false_iff_eq.mpr c14
  clear c14
  (first | rw [c14b0] | (simp only [i64_w, i32_w]; rw [c14b0]) | skip)
  have H' := aM H
  clear H
  go_wp2
  go_meet
  case rel => exact ⟨_, ((a0_0 == 1)), q4_, H', ⟨by first | omega | exact Nat.le_refl _⟩, ⟨blkR BK185.out⟩, ⟨s5z0⟩⟩
 clear HC11
 try clear c1
 try clear c2
 try clear c2b0
 try clear c2b1
 try clear p2
 try clear c3
 try clear c3b0
 try clear c3b1
 try clear c4
 try clear c4b0
 try clear c4b1
 try clear c11
 try clear c14
 try clear c14b0
 try clear c14b1
 try clear hcz10_0 hcz10_1 hcz10_2
 try clear hcz13_0 hcz13_1 hcz13_2
 try clear hcz6_0 hcz6_1 hcz6_2
 try clear hcz8_0 hcz8_1 hcz8_2
 try clear hfz10_0 hfz10_1 hfz10_2
 try clear hfz13_0 hfz13_1 hfz13_2
 try clear hfz6_0 hfz6_1 hfz6_2
 try clear hfz8_0 hfz8_1 hfz8_2
 obtain ⟨kq, x16_10, rfl, HA, HJ10, BK185, HB⟩ := hcut
 cases kq with
 | zero => exact absurd HA.out (by simp [value_CheckValue.j0])
 | succ kj10 => ?_
 have H := HA.out
 clear HA
 simp only [value_CheckValue.j0] at H
 by_cases c15 : x16_10 = true
 · subst c15
   have H1 : (if a0_2.toList = ([] : List UInt8) then (if a0_0 = 1 then ((kit_Range.f a0_1 0 1).bind fun t186 => (some t186)) else ((kit_Range.f a0_1 (-1000000000000000) 1000000000000000).bind fun t187 => (some t187))) else (some 3)) = some r := by rw [if_pos rfl] at H; exact H
   clear H
   have H := H1
   clear H1
   by_cases c16 : a0_2.toList = ([] : List UInt8)
   case neg =>
    rw [if_neg c16] at H
    have c16b0 : (a0_2.toList == ([] : List UInt8)) = false := beq_eq_false_iff_ne.mpr c16
    have c16b1 : (a0_2.toList != ([] : List UInt8)) = true := bne_iff_ne.mpr c16
    obtain rfl := Option.some.inj H
    obtain ⟨hcz22_0, hcz22_1, hcz22_2, hfz22_0, hfz22_1, hfz22_2⟩ := cells3 BK185.out
    go_wp2
    go_ret
    exact ⟨eqR, s5z0⟩
   rw [if_pos c16] at H
   have c16b0 : (a0_2.toList == ([] : List UInt8)) = true := beq_iff_eq.mpr c16
   have c16b1 : (a0_2.toList != ([] : List UInt8)) = false := bne_eq_false_iff_eq.mpr c16
   clear c16
   by_cases c17 : a0_0 = 1
   · rw [if_pos c17] at H
     have c17b0 : (a0_0 == 1) = true := beq_iff_eq.mpr c17
     have c17b1 : (a0_0 != 1) = false := bne_eq_false_iff_eq.mpr c17
     clear c17
     replace H := Option.bind_eq_some_iff.mp H
     obtain ⟨t186, A180, H⟩ := H
     replace H : (some t186) = some r := H
     have A18 := aM A180
     clear A180
     obtain rfl := Option.some.inj H
     obtain ⟨hcz19_0, hcz19_1, hcz19_2, hfz19_0, hfz19_1, hfz19_2⟩ := cells3 BK185.out
     go_wp2_with (first | ((with_reducible refine gate_callee (f := 94) rfl ?_); refine goesL_ (some 27) rfl rfl Tryd.func94 q5_ rfl #[.int .i64 a0_1, .int .i64 0, .int .i64 1] rfl q2_ ?_; (with_reducible refine (kit_Range.calls a0_1 0 1 t186 _ A18.out).mono ?_); rintro e w' ⟨rfl, ⟨nd, rfl⟩⟩; refine ⟨_, rfl, ?_⟩))
     go_ret
     exact ⟨eqR, s5z0⟩
   rw [if_neg c17] at H
   have c17b0 : (a0_0 == 1) = false := beq_eq_false_iff_ne.mpr c17
   have c17b1 : (a0_0 != 1) = true := bne_iff_ne.mpr c17
   replace H := Option.bind_eq_some_iff.mp H
   obtain ⟨t187, A200, H⟩ := H
   replace H : (some t187) = some r := H
   have A20 := aM A200
   clear A200
   obtain rfl := Option.some.inj H
   obtain ⟨hcz21_0, hcz21_1, hcz21_2, hfz21_0, hfz21_1, hfz21_2⟩ := cells3 BK185.out
   go_wp2_with (first | ((with_reducible refine gate_callee (f := 94) rfl ?_); refine goesL_ (some 30) rfl rfl Tryd.func94 q5_ rfl #[.int .i64 a0_1, .int .i64 (-1000000000000000), .int .i64 1000000000000000] rfl q2_ ?_; (with_reducible refine (kit_Range.calls a0_1 (-1000000000000000) 1000000000000000 t187 _ A20.out).mono ?_); rintro e w' ⟨rfl, ⟨nd, rfl⟩⟩; refine ⟨_, rfl, ?_⟩))
   go_ret
   exact ⟨eqR, s5z0⟩
 replace c15 := Bool.eq_false_iff.mpr c15
 subst c15
 have H1 : (if a0_0 = 3 then (if a0_1 = 0 then (if (a0_2.size : Int) > 200 then (some 2) else (value_CheckValue.l0 kj10 (a0_2.size : Int) 0 a0_0 a0_1 a0_2)) else (some 3)) else (some 4)) = some r := q6_
 clear H
 have H := H1
 clear H1
 by_cases c23 : a0_0 = 3
 case neg =>
  rw [if_neg c23] at H
  have c23b0 : (a0_0 == 3) = false := beq_eq_false_iff_ne.mpr c23
  have c23b1 : (a0_0 != 3) = true := bne_iff_ne.mpr c23
  obtain rfl := Option.some.inj H
  go_wp2
  go_ret
  exact ⟨eqR, s5z0⟩
 rw [if_pos c23] at H
 have c23b0 : (a0_0 == 3) = true := beq_iff_eq.mpr c23
 have c23b1 : (a0_0 != 3) = false := bne_eq_false_iff_eq.mpr c23
 clear c23
 by_cases c24 : a0_1 = 0
 case neg =>
  rw [if_neg c24] at H
  have c24b0 : (a0_1 == 0) = false := beq_eq_false_iff_ne.mpr c24
  have c24b1 : (a0_1 != 0) = true := bne_iff_ne.mpr c24
  obtain rfl := Option.some.inj H
  obtain ⟨hcz36_0, hcz36_1, hcz36_2, hfz36_0, hfz36_1, hfz36_2⟩ := cells3 BK185.out
  go_wp2
  go_ret
  exact ⟨eqR, s5z0⟩
 rw [if_pos c24] at H
 have c24b0 : (a0_1 == 0) = true := beq_iff_eq.mpr c24
 have c24b1 : (a0_1 != 0) = false := bne_eq_false_iff_eq.mpr c24
 clear c24
 by_cases c25 : (a0_2.size : Int) > 200
 · rw [if_pos c25] at H
   have c25b0 : decide (200 < (a0_2.size : Int)) = true := decide_eq_true c25
   have c25b1 : decide (200 < a0_2.size) = true := decide_eq_true (by omega)
   clear c25
   obtain rfl := Option.some.inj H
   obtain ⟨hcz26_0, hcz26_1, hcz26_2, hfz26_0, hfz26_1, hfz26_2⟩ := cells3 BK185.out
   go_wp2
   go_ret
   exact ⟨eqR, s5z0⟩
 rw [if_neg c25] at H
 have c25b0 : decide (200 < (a0_2.size : Int)) = false := decide_eq_false c25
 have c25b1 : decide (200 < a0_2.size) = false := decide_eq_false (by omega)
 clear c25
 have H' := aM H
 clear H
 obtain ⟨hcz27_0, hcz27_1, hcz27_2, hfz27_0, hfz27_1, hfz27_2⟩ := cells3 BK185.out
 go_wp2
 go_loopg [43] kj10 (fun kq v43 w' => ∃ (x43_2 : Int), v43 = .int .i64 x43_2 ∧ Aside0 (value_CheckValue.l0 kq (a0_2.size : Int) x43_2 a0_0 a0_1 a0_2 = some r) ∧ Aside0 (kq ≤ kj10) ∧ Aside0 (w'.heap[gb185]? = some (.cells #[.int .i64 a0_0, .int .i64 a0_1, .string a0_2] 48 (0, 0))) ∧ Aside0 (Below w.heap.size w w'))
 case atStart => exact ⟨(0), q4_, H', ⟨Nat.le_refl _⟩, ⟨blkR BK185.out⟩, ⟨s5z0⟩⟩
 clear H'
 try clear c1
 try clear c2
 try clear c2b0
 try clear c2b1
 try clear p2
 try clear c3
 try clear c3b0
 try clear c3b1
 try clear c4
 try clear c4b0
 try clear c4b1
 try clear c9
 try clear c11
 try clear c14
 try clear c14b0
 try clear c14b1
 try clear c15
 try clear c16
 try clear c16b0
 try clear c16b1
 try clear c17
 try clear c17b0
 try clear c17b1
 try clear c23
 try clear c23b0
 try clear c23b1
 try clear c24
 try clear c24b0
 try clear c24b1
 try clear c25
 try clear c25b0
 try clear c25b1
 try clear hcz10_0 hcz10_1 hcz10_2
 try clear hcz13_0 hcz13_1 hcz13_2
 try clear hcz19_0 hcz19_1 hcz19_2
 try clear hcz21_0 hcz21_1 hcz21_2
 try clear hcz22_0 hcz22_1 hcz22_2
 try clear hcz26_0 hcz26_1 hcz26_2
 try clear hcz27_0 hcz27_1 hcz27_2
 try clear hcz6_0 hcz6_1 hcz6_2
 try clear hcz8_0 hcz8_1 hcz8_2
 try clear hfz10_0 hfz10_1 hfz10_2
 try clear hfz13_0 hfz13_1 hfz13_2
 try clear hfz19_0 hfz19_1 hfz19_2
 try clear hfz21_0 hfz21_1 hfz21_2
 try clear hfz22_0 hfz22_1 hfz22_2
 try clear hfz26_0 hfz26_1 hfz26_2
 try clear hfz27_0 hfz27_1 hfz27_2
 try clear hfz6_0 hfz6_1 hfz6_2
 try clear hfz8_0 hfz8_1 hfz8_2
 try clear p2
 obtain ⟨x43_2, rfl, HA, HK2, BK185, HB⟩ := hrel
 cases gk with
 | zero => exact absurd HA.out (by simp [value_CheckValue.l0])
 | succ k2 => ?_
 have H := HA.out
 clear HA
 simp only [value_CheckValue.l0] at H
 by_cases c28 : x43_2 < (a0_2.size : Int)
 case neg =>
  rw [if_neg c28] at H
  have c28b0 : decide (x43_2 < (a0_2.size : Int)) = false := decide_eq_false c28
  clear c28
  obtain rfl := Option.some.inj H
  go_wp2
  go_ret
  exact ⟨eqR, s5z0⟩
 rw [if_pos c28] at H
 have c28b0 : decide (x43_2 < (a0_2.size : Int)) = true := decide_eq_true c28
 clear c28
 by_cases c29 : 0 ≤ x43_2
 case neg =>
  rw [if_neg c29] at H
  exact absurd H (by simp)
 rw [if_pos c29] at H
 have c29b0 : decide (0 ≤ x43_2) = true := decide_eq_true c29
 clear c29
 by_cases c30 : x43_2 < (a0_2.size : Int)
 case neg =>
  rw [if_neg c30] at H
  exact absurd H (by simp)
 rw [if_pos c30] at H
 have c30b0 : decide (x43_2 < (a0_2.size : Int)) = true := decide_eq_true c30
 clear c30
 replace H := Option.bind_eq_some_iff.mp H
 obtain ⟨t188, A320, H⟩ := H
 replace H : (if t188 = true then (value_CheckValue.l0 k2 (a0_2.size : Int) (wrap64 (x43_2 + 1)) a0_0 a0_1 a0_2) else (some 3)) = some r := H
 have A32 := aM A320
 clear A320
 by_cases c33 : t188 = true
 case neg =>
  replace c33 := Bool.eq_false_iff.mpr c33
  subst c33
  have H1 : (some 3) = some r := q6_
  clear H
  have H := H1
  clear H1
  obtain rfl := Option.some.inj H
  obtain ⟨hcz35_0, hcz35_1, hcz35_2, hfz35_0, hfz35_1, hfz35_2⟩ := cells3 BK185.out
  have p31 : 0 ≤ (x43_2 : Int) := of_decide_eq_true q3_
  have q31 : x43_2 < (a0_2.size : Int) := of_decide_eq_true q3_
  have hx31 := bt_at a0_2 x43_2
  replace p31 := eq_true p31
  replace q31 := eq_true q31
  go_wp2_with (first | ((with_reducible refine gate_callee (f := 41) rfl ?_); refine goesL_ (some 51) rfl rfl Tryd.func41 q5_ rfl #[.int .i64 (wrap64 (bt a0_2 x43_2)), .int .i64 32, .int .i64 126] rfl q2_ ?_; (with_reducible refine (kit_In.calls (wrap64 (bt a0_2 x43_2)) 32 126 false _ A32.out).mono ?_); rintro e w' ⟨rfl, ⟨nd, rfl⟩⟩; refine ⟨_, rfl, ?_⟩))
  go_ret
  exact ⟨eqR, s5z0⟩
 subst c33
 have H1 : (value_CheckValue.l0 k2 (a0_2.size : Int) (wrap64 (x43_2 + 1)) a0_0 a0_1 a0_2) = some r := by rw [if_pos rfl] at H; exact H
 clear H
 have H := H1
 clear H1
 have H' := aM H
 clear H
 obtain ⟨hcz34_0, hcz34_1, hcz34_2, hfz34_0, hfz34_1, hfz34_2⟩ := cells3 BK185.out
 have p31 : 0 ≤ (x43_2 : Int) := of_decide_eq_true q3_
 have q31 : x43_2 < (a0_2.size : Int) := of_decide_eq_true q3_
 have hx31 := bt_at a0_2 x43_2
 replace p31 := eq_true p31
 replace q31 := eq_true q31
 go_wp2_with (first | ((with_reducible refine gate_callee (f := 41) rfl ?_); refine goesL_ (some 51) rfl rfl Tryd.func41 q5_ rfl #[.int .i64 (wrap64 (bt a0_2 x43_2)), .int .i64 32, .int .i64 126] rfl q2_ ?_; (with_reducible refine (kit_In.calls (wrap64 (bt a0_2 x43_2)) 32 126 true _ A32.out).mono ?_); rintro e w' ⟨rfl, ⟨nd, rfl⟩⟩; refine ⟨_, rfl, ?_⟩))
 first | go_roundg k2 | (refine Handed.intro k2 ?measure ?_; rotate_left; go_step; (repeat apply Exists.intro); simp only [add_plain]; refine ⟨?rel, rfl⟩)
 case measure => have := HJ10.out; have := HK2.out; omega
 case rel => exact ⟨(wrap64 (x43_2 + 1)), q4_, H', ⟨by have := HJ10.out; have := HK2.out; omega⟩, ⟨blkR BK185.out⟩, ⟨s5z0⟩⟩
end Go.Proofs.YtgcijejmmhjibaaDoor.J
