-- Printed by a program of this session (a patched print).
import Derived.Test.YtgcijejmmhjibaaDoorGx0
import Derived.Test.YtgcijejmmhjibaaDoorGx3
namespace Go.Proofs.YtgcijejmmhjibaaDoor.G
open Go.RowKit Go.Proofs.YtgcijejmmhjibaaDoorW.PrintWords Go.Proofs.YtgcijejmmhjibaaDoorW.PrintLast Go.Proofs.YtgcijejmmhjibaaDoorW.PrintMore
attribute [local go_sem] max2_int min2_int max_two min_two max_three min_three max_four min_four   -- for this text's walks alone
set_option linter.unusedVariables false
set_option linter.unusedSimpArgs false

theorem s4qm0 {p : Prop} (h : p := by repeat' first | (with_reducible exact ih0 _ _ _ _ _) | (with_reducible exact ih1 _ _ _ _) | (with_reducible exact ih2 _ _ _ _ _ _ _ _) | (with_reducible exact LeO.refl _) | (with_reducible exact LeO.none _) | (with_reducible refine LeO.ite ?_ ?_) | (with_reducible refine LeO.bind ?_ (fun _ => ?_)) | exact ih0 _ _ _ _ _ | exact ih1 _ _ _ _ | exact ih2 _ _ _ _ _ _ _ _ | exact LeO.none _ | refine LeO.ite ?_ ?_ | refine LeO.bind ?_ (fun _ => ?_)) : p := h
theorem s4q0 {p : Prop} (h : p := by kernel_rfl) : p := h
theorem s4q1 {p : Prop} (h : p := by first | rfl | (simp; done) | (simp [*]; done)) : p := h
theorem s4q2 {p : Prop} (h : p := by first | (with_reducible assumption) | assumption) : p := h
theorem s4q3 {p : Prop} (h : p := by (with_reducible repeat (first | apply Kd.R_alloc | apply Kd.R_drewN | apply Kd.R_drew)); exact HO166.out) : p := h
theorem s4q4 {p : Prop} (h : p := by (with_reducible repeat (first | apply Kd.R_alloc | apply Kd.R_drewN | apply Kd.R_drew)); exact HO169.out) : p := h
theorem s4q5 {p : Prop} (h : p := by (with_reducible repeat (first | apply Kd.R_alloc | apply Kd.R_drewN | apply Kd.R_drew)); exact HO174.out) : p := h
theorem s4q6 {p : Prop} (h : p := by repeat (first | (with_reducible first | exact HB.out | apply below_alloc | apply pw_below_drewN | apply below_drew1) | exact HB.out)) : p := h
theorem s4q7 {p : Prop} (h : p := by (try simp only [List.map_toArray, List.map_cons, List.map_nil]); first | done | rfl | (simp only [List.length_drop, List.length_take]; rfl)) : p := h
theorem s4q8 {p : Prop} (h : p := by rw [if_neg (show ¬ (false = true) by decide)] at H; exact H) : p := h
theorem s4q9 {p : Prop} (h : p := by rw [if_pos rfl] at H; exact H) : p := h
/-! ### slices_Equal_int_int: function 19 -/
def slices_Equal_int_int.l0 : Nat → List Int → List Int → Int → Int → Option (Bool)
  | 0, _, _, _, _ => none
  | k + 1, x0, x1, x12, x13 => if x13 < x12 then (if 0 ≤ x13 then (if x13 < (x0.length : Int) then (if x13 < (x1.length : Int) then (if (rd x0 x13) = (rd x1 x13) then (slices_Equal_int_int.l0 k x0 x1 x12 (wrap64 (x13 + 1))) else (some false)) else (none)) else (none)) else (none)) else (some true)
def slices_Equal_int_int.f (k : Nat) (l0 : List Int) (l1 : List Int) : Option (Bool) := if (l0.length : Int) = (l1.length : Int) then (slices_Equal_int_int.l0 k l0 l1 (l0.length : Int) 0) else (some false)
theorem slices_Equal_int_int.mono_l : ∀ k, (∀ y0 y1 y2 y3, LeO (slices_Equal_int_int.l0 k y0 y1 y2 y3) (slices_Equal_int_int.l0 (k + 1) y0 y1 y2 y3))
  | 0 => fun _ _ _ _ r h => by simp [slices_Equal_int_int.l0] at h
  | k + 1 => by
    have ih0 := slices_Equal_int_int.mono_l k
    · intro y0 y1 y2 y3
      unfold slices_Equal_int_int.l0
      repeat' first | (with_reducible exact ih0 _ _ _ _) | (with_reducible exact LeO.refl _) | (with_reducible exact LeO.none _) | (with_reducible refine LeO.ite ?_ ?_) | (with_reducible refine LeO.bind ?_ (fun _ => ?_)) | exact ih0 _ _ _ _ | exact LeO.none _ | refine LeO.ite ?_ ?_ | refine LeO.bind ?_ (fun _ => ?_)
theorem slices_Equal_int_int.mono : ∀ a0 a1 k, LeO (slices_Equal_int_int.f k a0 a1) (slices_Equal_int_int.f (k + 1) a0 a1) := by
 intro a0 a1 k
 have ih0 := slices_Equal_int_int.mono_l k
 unfold slices_Equal_int_int.f
 repeat' first
  | (with_reducible exact ih0 _ _ _ _)
  | (with_reducible exact LeO.refl _)
  | (with_reducible exact LeO.none _)
  | (with_reducible refine LeO.ite ?_ ?_)
  | (with_reducible refine LeO.bind ?_ (fun _ => ?_))
  | exact ih0 _ _ _ _
  | exact LeO.none _
  | refine LeO.ite ?_ ?_
  | refine LeO.bind ?_ (fun _ => ?_)
set_option maxHeartbeats 8000000 in
set_option maxRecDepth 100000 in
theorem slices_Equal_int_int.calls (k : Nat) (A0 : Option Addr) (c0 : Nat) (l0 : List Int) (A1 : Option Addr) (c1 : Nat) (l1 : List Int) (r : Bool) (w : World) (hr0 : Kd.C (Kd.int .i64) w A0 l0.length l0) (hc0 : l0.length ≤ c0) (hr1 : Kd.C (Kd.int .i64) w A1 l1.length l1) (hc1 : l1.length ≤ c1) (h : slices_Equal_int_int.f k l0 l1 = some r) :
    Calls Tryd.prog 19 #[.slice A0 l0.length c0, .slice A1 l1.length c1] w fun e w' => e = .returned (.bool r) ∧ Drawn0 w w' := by
 have HR0 := Aside0.mk hr0
 have HC0 := Aside0.mk hc0
 clear hr0 hc0
 have HR1 := Aside0.mk hr1
 have HC1 := Aside0.mk hc1
 clear hr1 hc1
 have H : (if (l0.length : Int) = (l1.length : Int) then (slices_Equal_int_int.l0 k l0 l1 (l0.length : Int) 0) else (some false)) = some r := h
 clear h
 by_cases c3 : (l0.length : Int) = (l1.length : Int)
 case neg =>
  rw [if_neg c3] at H
  have c3b0 : ((l0.length : Int) == (l1.length : Int)) = false := beq_eq_false_iff_ne.mpr c3
  have c3b1 : ((l0.length : Int) != (l1.length : Int)) = true := bne_iff_ne.mpr c3
  have c3b2 : (l0.length == l1.length) = false := by first | simpa using c3 | (simp at c3 ⊢; omega)
  obtain rfl := Option.some.inj H
  go_enter Tryd.func19, Tryd.ntmps19
  go_wp2
  go_ret
  exact ⟨by first | rfl | (simp; done) | (simp [*]; done), by repeat (first | exact Drawn0.refl _ | apply Drawn0.step)⟩
 rw [if_pos c3] at H
 have c3b0 : ((l0.length : Int) == (l1.length : Int)) = true := beq_iff_eq.mpr c3
 have c3b1 : ((l0.length : Int) != (l1.length : Int)) = false := bne_eq_false_iff_eq.mpr c3
 have c3b2 : (l0.length == l1.length) = true := by first | simpa using c3 | (simp at c3 ⊢; omega)
 clear c3
 have H' := Aside0.mk H
 clear H
 go_enter Tryd.func19, Tryd.ntmps19
 go_wp2
 go_loopg [13] k (fun kq v13 w' => ∃ (x13_1 : Int), v13 = .int .i64 x13_1 ∧ Aside0 (slices_Equal_int_int.l0 kq l0 l1 (l0.length : Int) x13_1 = some r) ∧ Aside0 (kq ≤ k) ∧ Drawn0 w w')
 case atStart => exact ⟨(0), s4q1, H', ⟨Nat.le_refl _⟩, by repeat (first | exact Drawn0.refl _ | apply Drawn0.step)⟩
 clear H'
 try clear c1
 try clear p2
 try clear c3
 try clear c3b0
 try clear c3b1
 try clear c3b2
 obtain ⟨x13_1, rfl, HA, HK1, ⟨m1, rfl⟩⟩ := hrel
 cases gk with
 | zero => exact absurd HA.out (by simp [slices_Equal_int_int.l0])
 | succ k1 => ?_
 have H := HA.out
 clear HA
 simp only [slices_Equal_int_int.l0] at H
 by_cases c4 : x13_1 < (l0.length : Int)
 case neg =>
  rw [if_neg c4] at H
  have c4b0 : decide (x13_1 < (l0.length : Int)) = false := decide_eq_false c4
  clear c4
  obtain rfl := Option.some.inj H
  go_wp2
  go_ret
  exact ⟨by first | rfl | (simp; done) | (simp [*]; done), by repeat (first | exact Drawn0.refl _ | apply Drawn0.step)⟩
 rw [if_pos c4] at H
 have c4b0 : decide (x13_1 < (l0.length : Int)) = true := decide_eq_true c4
 clear c4
 by_cases c5 : 0 ≤ x13_1
 case neg =>
  rw [if_neg c5] at H
  exact absurd H (by simp)
 rw [if_pos c5] at H
 have c5b0 : decide (0 ≤ x13_1) = true := decide_eq_true c5
 clear c5
 by_cases c6 : x13_1 < (l0.length : Int)
 case neg =>
  rw [if_neg c6] at H
  exact absurd H (by simp)
 rw [if_pos c6] at H
 have c6b0 : decide (x13_1 < (l0.length : Int)) = true := decide_eq_true c6
 clear c6
 by_cases c7 : x13_1 < (l1.length : Int)
 case neg =>
  rw [if_neg c7] at H
  exact absurd H (by simp)
 rw [if_pos c7] at H
 have c7b0 : decide (x13_1 < (l1.length : Int)) = true := decide_eq_true c7
 clear c7
 by_cases c8 : (rd l0 x13_1) = (rd l1 x13_1)
 case neg =>
  rw [if_neg c8] at H
  have c8b0 : ((rd l0 x13_1) == (rd l1 x13_1)) = false := beq_eq_false_iff_ne.mpr c8
  have c8b1 : ((rd l0 x13_1) != (rd l1 x13_1)) = true := bne_iff_ne.mpr c8
  obtain rfl := Option.some.inj H
  have p162 : 0 ≤ (x13_1 : Int) := of_decide_eq_true s4q2
  have q162 : x13_1 < (l0.length : Int) := of_decide_eq_true s4q2
  obtain ⟨ad162, e162, hx162_0⟩ := Kd.at_int HR0.out x13_1 p162 q162
  cases e162
  replace p162 := eq_true p162
  replace q162 := eq_true q162
  have p163 : 0 ≤ (x13_1 : Int) := of_decide_eq_true s4q2
  have q163 : x13_1 < (l1.length : Int) := of_decide_eq_true s4q2
  obtain ⟨ad163, e163, hx163_0⟩ := Kd.at_int HR1.out x13_1 p163 q163
  cases e163
  replace p163 := eq_true p163
  replace q163 := eq_true q163
  go_wp2
  repeat (go_quiet (fail); try go_wp2)
  go_ret
  exact ⟨by first | rfl | (simp; done) | (simp [*]; done), by repeat (first | exact Drawn0.refl _ | apply Drawn0.step)⟩
 rw [if_pos c8] at H
 have c8b0 : ((rd l0 x13_1) == (rd l1 x13_1)) = true := beq_iff_eq.mpr c8
 have c8b1 : ((rd l0 x13_1) != (rd l1 x13_1)) = false := bne_eq_false_iff_eq.mpr c8
 clear c8
 have H' := Aside0.mk H
 clear H
 have p162 : 0 ≤ (x13_1 : Int) := of_decide_eq_true s4q2
 have q162 : x13_1 < (l0.length : Int) := of_decide_eq_true s4q2
 obtain ⟨ad162, e162, hx162_0⟩ := Kd.at_int HR0.out x13_1 p162 q162
 cases e162
 replace p162 := eq_true p162
 replace q162 := eq_true q162
 have p163 : 0 ≤ (x13_1 : Int) := of_decide_eq_true s4q2
 have q163 : x13_1 < (l1.length : Int) := of_decide_eq_true s4q2
 obtain ⟨ad163, e163, hx163_0⟩ := Kd.at_int HR1.out x13_1 p163 q163
 cases e163
 replace p163 := eq_true p163
 replace q163 := eq_true q163
 go_wp2
 repeat (go_quiet (fail); try go_wp2)
 first | go_roundg k1 | (refine Handed.intro k1 ?measure ?_; rotate_left; go_step; (repeat apply Exists.intro); simp only [add_plain]; refine ⟨?rel, rfl⟩)
 case measure => have := HK1.out; omega
 case rel => exact ⟨(wrap64 (x13_1 + 1)), s4q1, H', ⟨by have := HK1.out; omega⟩, by repeat (first | exact Drawn0.refl _ | apply Drawn0.step)⟩
/-! ### peristylelaw10_awake: function 16 -/
def peristylelaw10_awake.f (k : Nat)  : Option (Bool) := (cost_Best.f k (([10, 100, 5] : List Int)) (([(⟨0, 1, 10⟩ : S75), (⟨1, 2, 100⟩ : S75)] : List (S75)))).bind fun bt170 => (if bt170.2.2 = 0 then (if bt170.2.1 = 10 then ((slices_Equal_int_int.f k bt170.1 (([0, 1, 2, (-1), (-1)] : List Int))).bind fun t178 => (some t178)) else (some false)) else (some false))
theorem peristylelaw10_awake.mono : ∀ k, LeO (peristylelaw10_awake.f k ) (peristylelaw10_awake.f (k + 1) ) := by
 intro  k
 unfold peristylelaw10_awake.f
 repeat' first
  | (with_reducible exact cost_Best.mono _ _ _)
  | (with_reducible exact slices_Equal_int_int.mono _ _ _)
  | (with_reducible exact LeO.refl _)
  | (with_reducible exact LeO.none _)
  | (with_reducible refine LeO.ite ?_ ?_)
  | (with_reducible refine LeO.bind ?_ (fun _ => ?_))
  | exact cost_Best.mono _ _ _
  | exact slices_Equal_int_int.mono _ _ _
  | exact LeO.none _
  | refine LeO.ite ?_ ?_
  | refine LeO.bind ?_ (fun _ => ?_)
set_option maxHeartbeats 8000000 in
set_option maxRecDepth 100000 in
theorem peristylelaw10_awake.calls (k : Nat)  (r : Bool) (w : World) (hG : Glob w) (h : peristylelaw10_awake.f k  = some r) :
    Calls Tryd.prog 16 #[] w fun e w' => e = .returned (.bool r) ∧ Below w.heap.size w w' := by
 have hu75 := Tryd.underlying75
 have HG := Aside0.mk hG
 clear hG
 have HB := Aside0.mk (Below.refl w.heap.size w)
 have H : ((cost_Best.f k (([10, 100, 5] : List Int)) (([(⟨0, 1, 10⟩ : S75), (⟨1, 2, 100⟩ : S75)] : List (S75)))).bind fun bt170 => (if bt170.2.2 = 0 then (if bt170.2.1 = 10 then ((slices_Equal_int_int.f k bt170.1 (([0, 1, 2, (-1), (-1)] : List Int))).bind fun t178 => (some t178)) else (some false)) else (some false))) = some r := h
 clear h
 obtain ⟨y164, hy164⟩ : ∃ y_ : List Int, y_ = (([10, 100, 5] : List Int)) := ⟨_, rfl⟩
 replace H : ((cost_Best.f k y164 (([(⟨0, 1, 10⟩ : S75), (⟨1, 2, 100⟩ : S75)] : List (S75)))).bind fun bt170 => (if bt170.2.2 = 0 then (if bt170.2.1 = 10 then ((slices_Equal_int_int.f k bt170.1 (([0, 1, 2, (-1), (-1)] : List Int))).bind fun t178 => (some t178)) else (some false)) else (some false))) = some r := sqz hy164 H
 have Ny164 := Aside0.mk hy164
 clear hy164
 obtain ⟨y167, hy167⟩ : ∃ y_ : List (S75), y_ = (([(⟨0, 1, 10⟩ : S75), (⟨1, 2, 100⟩ : S75)] : List (S75))) := ⟨_, rfl⟩
 replace H : ((cost_Best.f k y164 y167).bind fun bt170 => (if bt170.2.2 = 0 then (if bt170.2.1 = 10 then ((slices_Equal_int_int.f k bt170.1 (([0, 1, 2, (-1), (-1)] : List Int))).bind fun t178 => (some t178)) else (some false)) else (some false))) = some r := sqz hy167 H
 have Ny167 := Aside0.mk hy167
 clear hy167
 replace H := Option.bind_eq_some_iff.mp H
 obtain ⟨⟨t170, t171, t172⟩, A10, H⟩ := H
 replace H : (if t172 = 0 then (if t171 = 10 then ((slices_Equal_int_int.f k t170 (([0, 1, 2, (-1), (-1)] : List Int))).bind fun t178 => (some t178)) else (some false)) else (some false)) = some r := H
 have A1 := Aside0.mk A10
 clear A10
 by_cases c2 : t172 = 0
 case neg =>
  rw [if_neg c2] at H
  have c2b0 : (t172 == 0) = false := beq_eq_false_iff_ne.mpr c2
  have c2b1 : (t172 != 0) = true := bne_iff_ne.mpr c2
  obtain rfl := Option.some.inj H
  go_enter Tryd.func16, Tryd.ntmps16
  go_wp2_with (first | ((with_reducible refine gate_dst (N := 5) rfl ?_); (try (refine gate_guard (by rfl) ?_; dsimp only)); refine Kd.R_lit (Kd.int .i64) _ 3 ?hg (N := 5) ?hd (xs := ([10, 100, 5] : List Int)) (inner := [.int .i64 10, .int .i64 100, .int .i64 5]) (ok := fun _ => True) (okp := fun _ => True) ?hr ?hp (fun _ hk => hk) trivial (Below.refl _ _) (Nat.le_refl _) (by simp) ?_; (case hd => rfl); (case hg => rfl); (case hr => first | (go_simp; done) | (go_simp; rfl)); (case hp => exact (Reps.one (show Kd.M (Kd.int .i64) _ _ _ 10 [.int .i64 10] from rfl) (Reps.one (show Kd.M (Kd.int .i64) _ _ _ 100 [.int .i64 100] from rfl) (Reps.one (show Kd.M (Kd.int .i64) _ _ _ 5 [.int .i64 5] from rfl) (Reps.none _ _))))); intro v165 w23 ho24 hb hg_ hnew_; clear hg_ hnew_; (first | rw [← Ny164.out] at ho24 | (simp only [Int.reduceToNat] at ho24; rw [← Ny164.out] at ho24)); have n0_ := Aside0.mk (Kd.R_lower ho24 (below_size s4q6)); have n1_ := Aside0.mk (below_step s4q6 hb); clear HB; have HO166 := n0_; have HB := n1_; clear n0_ n1_; clear hb ho24) | ((with_reducible refine gate_dst (N := 8) rfl ?_); (try (refine gate_guard (by rfl) ?_; dsimp only)); refine Kd.R_lit k75 _ 75 ?hg (N := 8) ?hd (xs := ([(⟨0, 1, 10⟩ : S75), (⟨1, 2, 100⟩ : S75)] : List (S75))) (inner := [.int .i64 0, .int .i64 1, .int .i64 10, .int .i64 1, .int .i64 2, .int .i64 100]) (ok := fun _ => True) (okp := fun _ => True) ?hr ?hp (fun _ hk => hk) trivial (Below.refl _ _) (Nat.le_refl _) (by simp) ?_; (case hd => rfl); (case hg => rfl); (case hr => first | (go_simp; done) | (go_simp; rfl)); (case hp => exact (Reps.c3 (show Kd.M k75 _ _ _ (⟨0, 1, 10⟩ : S75) [.int .i64 0, .int .i64 1, .int .i64 10] from (k75_mkM _ _ _ (⟨0, 1, 10⟩ : S75) )) (Reps.c3 (show Kd.M k75 _ _ _ (⟨1, 2, 100⟩ : S75) [.int .i64 1, .int .i64 2, .int .i64 100] from (k75_mkM _ _ _ (⟨1, 2, 100⟩ : S75) )) (Reps.none _ _)))); intro v168 w25 ho26 hb hg_ hnew_; clear hg_ hnew_; (first | rw [← Ny167.out] at ho26 | (simp only [Int.reduceToNat] at ho26; rw [← Ny167.out] at ho26)); have n0_ := Aside0.mk (Kd.R_below s4q3 hb); have n1_ := Aside0.mk (Kd.R_lower ho26 (below_size s4q6)); have n2_ := Aside0.mk (below_step s4q6 hb); clear HO166; clear HB; have HO166 := n0_; have HO169 := n1_; have HB := n2_; clear n0_ n1_ n2_; clear hb ho26; obtain ⟨Ao27, co27, eo27⟩ := Kd.R_slice HO166.out; subst eo27; obtain ⟨Ao28, co28, eo28⟩ := Kd.R_slice HO169.out; subst eo28) | ((with_reducible refine gate_callee (f := 17) rfl ?_); refine goesL_ (some 9) rfl rfl Tryd.func17 s4q0 rfl #[.slice Ao27 y164.length co27, .slice Ao28 y167.length co28] rfl s4q7 ?_; (with_reducible refine (cost_Best.calls k _ _ y164 _ _ y167 t170 t171 t172 _ ?side1 ?side2 ?side3 ?side4 ?side5 A1.out).mono ?_); (case side1 => repeat (first | exact (Kd.R_reads' HO166.out).2.2 | (with_reducible refine Kd.C_alloc ?_ _) | (with_reducible refine Kd.C_drewN ?_ _) | (with_reducible refine Kd.C_drew ?_))); (case side2 => exact (Kd.R_reads' HO166.out).2.1); (case side3 => repeat (first | exact (Kd.R_reads' HO169.out).2.2 | (with_reducible refine Kd.C_alloc ?_ _) | (with_reducible refine Kd.C_drewN ?_ _) | (with_reducible refine Kd.C_drew ?_))); (case side4 => exact (Kd.R_reads' HO169.out).2.1); (case side5 => exact Glob_below HG.out s4q6); rintro e w29 ⟨v173, rfl, ho0, hb⟩; refine ⟨_, rfl, ?_⟩; have n0_ := Aside0.mk (Kd.R_elder' s4q3 (Kd.R_base ho0) hb); have n1_ := Aside0.mk (Kd.R_below s4q4 hb); have n2_ := Aside0.mk (Kd.R_lower (Kd.R_new' ho0 (Kd.R_lt s4q3)) (below_size s4q6)); have n3_ := Aside0.mk (below_step s4q6 hb); clear HO166; clear HO169; clear HB; have HO166 := n0_; have HO169 := n1_; have HO174 := n2_; have HB := n3_; clear n0_ n1_ n2_ n3_; (try clear hb); (try clear hb2); (try clear hk); (try clear hi); (try clear ho0)))
  go_ret
  exact ⟨by first | rfl | (simp [errW_none, errW_some] <;> rfl) | (simp [*, errW_none, errW_some] <;> rfl), by repeat (first | (with_reducible first | exact HB.out | apply below_alloc | apply pw_below_drewN | apply below_drew1) | exact HB.out)⟩
 rw [if_pos c2] at H
 have c2b0 : (t172 == 0) = true := beq_iff_eq.mpr c2
 have c2b1 : (t172 != 0) = false := bne_eq_false_iff_eq.mpr c2
 clear c2
 by_cases c3 : t171 = 10
 case neg =>
  rw [if_neg c3] at H
  have c3b0 : (t171 == 10) = false := beq_eq_false_iff_ne.mpr c3
  have c3b1 : (t171 != 10) = true := bne_iff_ne.mpr c3
  obtain rfl := Option.some.inj H
  go_enter Tryd.func16, Tryd.ntmps16
  go_wp2_with (first | ((with_reducible refine gate_dst (N := 5) rfl ?_); (try (refine gate_guard (by rfl) ?_; dsimp only)); refine Kd.R_lit (Kd.int .i64) _ 3 ?hg (N := 5) ?hd (xs := ([10, 100, 5] : List Int)) (inner := [.int .i64 10, .int .i64 100, .int .i64 5]) (ok := fun _ => True) (okp := fun _ => True) ?hr ?hp (fun _ hk => hk) trivial (Below.refl _ _) (Nat.le_refl _) (by simp) ?_; (case hd => rfl); (case hg => rfl); (case hr => first | (go_simp; done) | (go_simp; rfl)); (case hp => exact (Reps.one (show Kd.M (Kd.int .i64) _ _ _ 10 [.int .i64 10] from rfl) (Reps.one (show Kd.M (Kd.int .i64) _ _ _ 100 [.int .i64 100] from rfl) (Reps.one (show Kd.M (Kd.int .i64) _ _ _ 5 [.int .i64 5] from rfl) (Reps.none _ _))))); intro v165 w16 ho17 hb hg_ hnew_; clear hg_ hnew_; (first | rw [← Ny164.out] at ho17 | (simp only [Int.reduceToNat] at ho17; rw [← Ny164.out] at ho17)); have n0_ := Aside0.mk (Kd.R_lower ho17 (below_size s4q6)); have n1_ := Aside0.mk (below_step s4q6 hb); clear HB; have HO166 := n0_; have HB := n1_; clear n0_ n1_; clear hb ho17) | ((with_reducible refine gate_dst (N := 8) rfl ?_); (try (refine gate_guard (by rfl) ?_; dsimp only)); refine Kd.R_lit k75 _ 75 ?hg (N := 8) ?hd (xs := ([(⟨0, 1, 10⟩ : S75), (⟨1, 2, 100⟩ : S75)] : List (S75))) (inner := [.int .i64 0, .int .i64 1, .int .i64 10, .int .i64 1, .int .i64 2, .int .i64 100]) (ok := fun _ => True) (okp := fun _ => True) ?hr ?hp (fun _ hk => hk) trivial (Below.refl _ _) (Nat.le_refl _) (by simp) ?_; (case hd => rfl); (case hg => rfl); (case hr => first | (go_simp; done) | (go_simp; rfl)); (case hp => exact (Reps.c3 (show Kd.M k75 _ _ _ (⟨0, 1, 10⟩ : S75) [.int .i64 0, .int .i64 1, .int .i64 10] from (k75_mkM _ _ _ (⟨0, 1, 10⟩ : S75) )) (Reps.c3 (show Kd.M k75 _ _ _ (⟨1, 2, 100⟩ : S75) [.int .i64 1, .int .i64 2, .int .i64 100] from (k75_mkM _ _ _ (⟨1, 2, 100⟩ : S75) )) (Reps.none _ _)))); intro v168 w18 ho19 hb hg_ hnew_; clear hg_ hnew_; (first | rw [← Ny167.out] at ho19 | (simp only [Int.reduceToNat] at ho19; rw [← Ny167.out] at ho19)); have n0_ := Aside0.mk (Kd.R_below s4q3 hb); have n1_ := Aside0.mk (Kd.R_lower ho19 (below_size s4q6)); have n2_ := Aside0.mk (below_step s4q6 hb); clear HO166; clear HB; have HO166 := n0_; have HO169 := n1_; have HB := n2_; clear n0_ n1_ n2_; clear hb ho19; obtain ⟨Ao20, co20, eo20⟩ := Kd.R_slice HO166.out; subst eo20; obtain ⟨Ao21, co21, eo21⟩ := Kd.R_slice HO169.out; subst eo21) | ((with_reducible refine gate_callee (f := 17) rfl ?_); refine goesL_ (some 9) rfl rfl Tryd.func17 s4q0 rfl #[.slice Ao20 y164.length co20, .slice Ao21 y167.length co21] rfl s4q7 ?_; (with_reducible refine (cost_Best.calls k _ _ y164 _ _ y167 t170 t171 t172 _ ?side1 ?side2 ?side3 ?side4 ?side5 A1.out).mono ?_); (case side1 => repeat (first | exact (Kd.R_reads' HO166.out).2.2 | (with_reducible refine Kd.C_alloc ?_ _) | (with_reducible refine Kd.C_drewN ?_ _) | (with_reducible refine Kd.C_drew ?_))); (case side2 => exact (Kd.R_reads' HO166.out).2.1); (case side3 => repeat (first | exact (Kd.R_reads' HO169.out).2.2 | (with_reducible refine Kd.C_alloc ?_ _) | (with_reducible refine Kd.C_drewN ?_ _) | (with_reducible refine Kd.C_drew ?_))); (case side4 => exact (Kd.R_reads' HO169.out).2.1); (case side5 => exact Glob_below HG.out s4q6); rintro e w22 ⟨v173, rfl, ho0, hb⟩; refine ⟨_, rfl, ?_⟩; have n0_ := Aside0.mk (Kd.R_elder' s4q3 (Kd.R_base ho0) hb); have n1_ := Aside0.mk (Kd.R_below s4q4 hb); have n2_ := Aside0.mk (Kd.R_lower (Kd.R_new' ho0 (Kd.R_lt s4q3)) (below_size s4q6)); have n3_ := Aside0.mk (below_step s4q6 hb); clear HO166; clear HO169; clear HB; have HO166 := n0_; have HO169 := n1_; have HO174 := n2_; have HB := n3_; clear n0_ n1_ n2_ n3_; (try clear hb); (try clear hb2); (try clear hk); (try clear hi); (try clear ho0)))
  go_ret
  exact ⟨by first | rfl | (simp [errW_none, errW_some] <;> rfl) | (simp [*, errW_none, errW_some] <;> rfl), by repeat (first | (with_reducible first | exact HB.out | apply below_alloc | apply pw_below_drewN | apply below_drew1) | exact HB.out)⟩
 rw [if_pos c3] at H
 have c3b0 : (t171 == 10) = true := beq_iff_eq.mpr c3
 have c3b1 : (t171 != 10) = false := bne_eq_false_iff_eq.mpr c3
 clear c3
 obtain ⟨y175, hy175⟩ : ∃ y_ : List Int, y_ = (([0, 1, 2, (-1), (-1)] : List Int)) := ⟨_, rfl⟩
 replace H : ((slices_Equal_int_int.f k t170 y175).bind fun t178 => (some t178)) = some r := sqz hy175 H
 have Ny175 := Aside0.mk hy175
 clear hy175
 replace H := Option.bind_eq_some_iff.mp H
 obtain ⟨t178, A40, H⟩ := H
 replace H : (some t178) = some r := H
 have A4 := Aside0.mk A40
 clear A40
 obtain rfl := Option.some.inj H
 go_enter Tryd.func16, Tryd.ntmps16
 go_wp2_with (first | ((with_reducible refine gate_dst (N := 5) rfl ?_); (try (refine gate_guard (by rfl) ?_; dsimp only)); refine Kd.R_lit (Kd.int .i64) _ 3 ?hg (N := 5) ?hd (xs := ([10, 100, 5] : List Int)) (inner := [.int .i64 10, .int .i64 100, .int .i64 5]) (ok := fun _ => True) (okp := fun _ => True) ?hr ?hp (fun _ hk => hk) trivial (Below.refl _ _) (Nat.le_refl _) (by simp) ?_; (case hd => rfl); (case hg => rfl); (case hr => first | (go_simp; done) | (go_simp; rfl)); (case hp => exact (Reps.one (show Kd.M (Kd.int .i64) _ _ _ 10 [.int .i64 10] from rfl) (Reps.one (show Kd.M (Kd.int .i64) _ _ _ 100 [.int .i64 100] from rfl) (Reps.one (show Kd.M (Kd.int .i64) _ _ _ 5 [.int .i64 5] from rfl) (Reps.none _ _))))); intro v165 w5 ho6 hb hg_ hnew_; clear hg_ hnew_; (first | rw [← Ny164.out] at ho6 | (simp only [Int.reduceToNat] at ho6; rw [← Ny164.out] at ho6)); have n0_ := Aside0.mk (Kd.R_lower ho6 (below_size s4q6)); have n1_ := Aside0.mk (below_step s4q6 hb); clear HB; have HO166 := n0_; have HB := n1_; clear n0_ n1_; clear hb ho6) | ((with_reducible refine gate_dst (N := 8) rfl ?_); (try (refine gate_guard (by rfl) ?_; dsimp only)); refine Kd.R_lit k75 _ 75 ?hg (N := 8) ?hd (xs := ([(⟨0, 1, 10⟩ : S75), (⟨1, 2, 100⟩ : S75)] : List (S75))) (inner := [.int .i64 0, .int .i64 1, .int .i64 10, .int .i64 1, .int .i64 2, .int .i64 100]) (ok := fun _ => True) (okp := fun _ => True) ?hr ?hp (fun _ hk => hk) trivial (Below.refl _ _) (Nat.le_refl _) (by simp) ?_; (case hd => rfl); (case hg => rfl); (case hr => first | (go_simp; done) | (go_simp; rfl)); (case hp => exact (Reps.c3 (show Kd.M k75 _ _ _ (⟨0, 1, 10⟩ : S75) [.int .i64 0, .int .i64 1, .int .i64 10] from (k75_mkM _ _ _ (⟨0, 1, 10⟩ : S75) )) (Reps.c3 (show Kd.M k75 _ _ _ (⟨1, 2, 100⟩ : S75) [.int .i64 1, .int .i64 2, .int .i64 100] from (k75_mkM _ _ _ (⟨1, 2, 100⟩ : S75) )) (Reps.none _ _)))); intro v168 w7 ho8 hb hg_ hnew_; clear hg_ hnew_; (first | rw [← Ny167.out] at ho8 | (simp only [Int.reduceToNat] at ho8; rw [← Ny167.out] at ho8)); have n0_ := Aside0.mk (Kd.R_below s4q3 hb); have n1_ := Aside0.mk (Kd.R_lower ho8 (below_size s4q6)); have n2_ := Aside0.mk (below_step s4q6 hb); clear HO166; clear HB; have HO166 := n0_; have HO169 := n1_; have HB := n2_; clear n0_ n1_ n2_; clear hb ho8; obtain ⟨Ao9, co9, eo9⟩ := Kd.R_slice HO166.out; subst eo9; obtain ⟨Ao10, co10, eo10⟩ := Kd.R_slice HO169.out; subst eo10) | ((with_reducible refine gate_callee (f := 17) rfl ?_); refine goesL_ (some 9) rfl rfl Tryd.func17 s4q0 rfl #[.slice Ao9 y164.length co9, .slice Ao10 y167.length co10] rfl s4q7 ?_; (with_reducible refine (cost_Best.calls k _ _ y164 _ _ y167 t170 t171 t172 _ ?side1 ?side2 ?side3 ?side4 ?side5 A1.out).mono ?_); (case side1 => repeat (first | exact (Kd.R_reads' HO166.out).2.2 | (with_reducible refine Kd.C_alloc ?_ _) | (with_reducible refine Kd.C_drewN ?_ _) | (with_reducible refine Kd.C_drew ?_))); (case side2 => exact (Kd.R_reads' HO166.out).2.1); (case side3 => repeat (first | exact (Kd.R_reads' HO169.out).2.2 | (with_reducible refine Kd.C_alloc ?_ _) | (with_reducible refine Kd.C_drewN ?_ _) | (with_reducible refine Kd.C_drew ?_))); (case side4 => exact (Kd.R_reads' HO169.out).2.1); (case side5 => exact Glob_below HG.out s4q6); rintro e w11 ⟨v173, rfl, ho0, hb⟩; refine ⟨_, rfl, ?_⟩; have n0_ := Aside0.mk (Kd.R_elder' s4q3 (Kd.R_base ho0) hb); have n1_ := Aside0.mk (Kd.R_below s4q4 hb); have n2_ := Aside0.mk (Kd.R_lower (Kd.R_new' ho0 (Kd.R_lt s4q3)) (below_size s4q6)); have n3_ := Aside0.mk (below_step s4q6 hb); clear HO166; clear HO169; clear HB; have HO166 := n0_; have HO169 := n1_; have HO174 := n2_; have HB := n3_; clear n0_ n1_ n2_ n3_; (try clear hb); (try clear hb2); (try clear hk); (try clear hi); (try clear ho0)) | ((with_reducible refine gate_dst (N := 21) rfl ?_); (try (refine gate_guard (by rfl) ?_; dsimp only)); refine Kd.R_lit (Kd.int .i64) _ 3 ?hg (N := 21) ?hd (xs := ([0, 1, 2, (-1), (-1)] : List Int)) (inner := [.int .i64 0, .int .i64 1, .int .i64 2, .int .i64 (-1), .int .i64 (-1)]) (ok := fun _ => True) (okp := fun _ => True) ?hr ?hp (fun _ hk => hk) trivial (Below.refl _ _) (Nat.le_refl _) (by simp) ?_; (case hd => rfl); (case hg => rfl); (case hr => first | (go_simp; done) | (go_simp; rfl)); (case hp => exact (Reps.one (show Kd.M (Kd.int .i64) _ _ _ 0 [.int .i64 0] from rfl) (Reps.one (show Kd.M (Kd.int .i64) _ _ _ 1 [.int .i64 1] from rfl) (Reps.one (show Kd.M (Kd.int .i64) _ _ _ 2 [.int .i64 2] from rfl) (Reps.one (show Kd.M (Kd.int .i64) _ _ _ (-1) [.int .i64 (-1)] from rfl) (Reps.one (show Kd.M (Kd.int .i64) _ _ _ (-1) [.int .i64 (-1)] from rfl) (Reps.none _ _))))))); intro v176 w12 ho13 hb hg_ hnew_; clear hg_ hnew_; (first | rw [← Ny175.out] at ho13 | (simp only [Int.reduceToNat] at ho13; rw [← Ny175.out] at ho13)); have n0_ := Aside0.mk (Kd.R_elder' s4q3 (Kd.R_base ho13) hb); have n1_ := Aside0.mk (Kd.R_below s4q4 hb); have n2_ := Aside0.mk (Kd.R_elder' s4q5 (Kd.R_base ho13) hb); have n3_ := Aside0.mk (Kd.R_lower (Kd.R_new' (Kd.R_new' ho13 (Kd.R_lt s4q3)) (Kd.R_lt s4q5)) (below_size s4q6)); have n4_ := Aside0.mk (below_step s4q6 hb); clear HO166; clear HO169; clear HO174; clear HB; have HO166 := n0_; have HO169 := n1_; have HO174 := n2_; have HO177 := n3_; have HB := n4_; clear n0_ n1_ n2_ n3_ n4_; clear hb ho13; obtain ⟨Ao14, co14, eo14⟩ := Kd.R_slice HO174.out; subst eo14; obtain ⟨Ao15, co15, eo15⟩ := Kd.R_slice HO177.out; subst eo15) | (go_at_call 19; (with_reducible refine (slices_Equal_int_int.calls k _ _ t170 _ _ y175 t178 _ ?side1 ?side2 ?side3 ?side4 A4.out).mono ?_); (case side1 => repeat (first | exact (Kd.R_reads' HO174.out).2.2 | (with_reducible refine Kd.C_alloc ?_ _) | (with_reducible refine Kd.C_drewN ?_ _) | (with_reducible refine Kd.C_drew ?_))); (case side2 => exact (Kd.R_reads' HO174.out).2.1); (case side3 => repeat (first | exact (Kd.R_reads' HO177.out).2.2 | (with_reducible refine Kd.C_alloc ?_ _) | (with_reducible refine Kd.C_drewN ?_ _) | (with_reducible refine Kd.C_drew ?_))); (case side4 => exact (Kd.R_reads' HO177.out).2.1); rintro e w' ⟨rfl, ⟨nd, rfl⟩⟩))
 go_ret
 exact ⟨by first | rfl | (simp [errW_none, errW_some] <;> rfl) | (simp [*, errW_none, errW_some] <;> rfl), by repeat (first | (with_reducible first | exact HB.out | apply below_alloc | apply pw_below_drewN | apply below_drew1) | exact HB.out)⟩
/-! ### peristyleref10_within: function 44 -/
def peristyleref10_within.f (a0 : Int) (a1 : Int) (a2 : Int) : Option (Bool) := if a0 ≥ a1 then (some (decide (a0 ≤ a2))) else (some false)
set_option maxHeartbeats 8000000 in
set_option maxRecDepth 100000 in
theorem peristyleref10_within.calls (a0 : Int) (a1 : Int) (a2 : Int) (r : Bool) (w : World) (h : peristyleref10_within.f a0 a1 a2 = some r) :
    Calls Tryd.prog 44 #[.int .i64 a0, .int .i64 a1, .int .i64 a2] w fun e w' => e = .returned (.bool r) ∧ Drawn0 w w' := by
 have H : (if a0 ≥ a1 then (some (decide (a0 ≤ a2))) else (some false)) = some r := h
 clear h
 by_cases c4 : a0 ≥ a1
 · rw [if_pos c4] at H
   have c4b0 : decide (a1 ≤ a0) = true := decide_eq_true c4
   clear c4
   obtain rfl := Option.some.inj H
   go_enter Tryd.func44, Tryd.ntmps44
   go_wp2
   go_ret
   exact ⟨by first | rfl | (simp; done) | (simp [*]; done), by repeat (first | exact Drawn0.refl _ | apply Drawn0.step)⟩
 rw [if_neg c4] at H
 have c4b0 : decide (a1 ≤ a0) = false := decide_eq_false c4
 clear c4
 obtain rfl := Option.some.inj H
 go_enter Tryd.func44, Tryd.ntmps44
 go_wp2
 go_ret
 exact ⟨by first | rfl | (simp; done) | (simp [*]; done), by repeat (first | exact Drawn0.refl _ | apply Drawn0.step)⟩
/-! ### peristyleref10_checkGraph: function 43 -/
mutual
def peristyleref10_checkGraph.l0 : Nat → List Int → List (S75) → List Int → Int → Int → Option (Int)
  | 0, _, _, _, _, _ => none
  | k + 1, x0, x1, x15, x16, x17 => if x17 < x16 then (if 0 ≤ x17 then (if x17 < (x15.length : Int) then ((peristyleref10_within.f (rd x15 x17) 1 2000).bind fun t180 => (if t180 = true then (peristyleref10_checkGraph.l0 k x0 x1 x15 x16 (wrap64 (x17 + 1))) else (some 1))) else (none)) else (none)) else (if (x1.length : Int) > 20 then (some 2) else (peristyleref10_checkGraph.l1 k x0 x1 (x1.length : Int) 0))
def peristyleref10_checkGraph.l1 : Nat → List Int → List (S75) → Int → Int → Option (Int)
  | 0, _, _, _, _ => none
  | k + 1, x0, x28, x29, x30 => if x30 < x29 then (if 0 ≤ x30 then (if x30 < (x28.length : Int) then ((peristyleref10_within.f ((rd_T75 x28 x30).f0) 0 (wrap64 ((x0.length : Int) - 1))).bind fun t183 => (if t183 = true then ((peristyleref10_within.f ((rd_T75 x28 x30).f1) 0 (wrap64 ((x0.length : Int) - 1))).bind fun t184 => (if t184 = true then ((peristyleref10_within.f ((rd_T75 x28 x30).f2) 1 1000000).bind fun t185 => (peristyleref10_checkGraph.j2 k x0 x28 x29 x30 (!t185) ((rd_T75 x28 x30).f0) ((rd_T75 x28 x30).f1) ((rd_T75 x28 x30).f2))) else (peristyleref10_checkGraph.j2 k x0 x28 x29 x30 true ((rd_T75 x28 x30).f0) ((rd_T75 x28 x30).f1) ((rd_T75 x28 x30).f2)))) else (peristyleref10_checkGraph.j2 k x0 x28 x29 x30 true ((rd_T75 x28 x30).f0) ((rd_T75 x28 x30).f1) ((rd_T75 x28 x30).f2)))) else (none)) else (none)) else (some 0)
def peristyleref10_checkGraph.j2 : Nat → List Int → List (S75) → Int → Int → Bool → Int → Int → Int → Option (Int)
  | 0, _, _, _, _, _, _, _, _ => none
  | k + 1, x0, x28, x29, x30, x55, x183000, x183001, x183002 => if x55 = true then (some 1) else (if x183000 = x183001 then (some 7) else (peristyleref10_checkGraph.l1 k x0 x28 x29 (wrap64 (x30 + 1))))
end
def peristyleref10_checkGraph.f (k : Nat) (l0 : List Int) (l1 : List (S75)) : Option (Int) := if (l0.length : Int) = 0 then (some 6) else (if (l0.length : Int) > 8 then (some 2) else (peristyleref10_checkGraph.l0 k l0 l1 l0 (l0.length : Int) 0))
theorem peristyleref10_checkGraph.mono_l : ∀ k, (∀ y0 y1 y2 y3 y4, LeO (peristyleref10_checkGraph.l0 k y0 y1 y2 y3 y4) (peristyleref10_checkGraph.l0 (k + 1) y0 y1 y2 y3 y4)) ∧ (∀ y0 y1 y2 y3, LeO (peristyleref10_checkGraph.l1 k y0 y1 y2 y3) (peristyleref10_checkGraph.l1 (k + 1) y0 y1 y2 y3)) ∧ (∀ y0 y1 y2 y3 y4 y5 y6 y7, LeO (peristyleref10_checkGraph.j2 k y0 y1 y2 y3 y4 y5 y6 y7) (peristyleref10_checkGraph.j2 (k + 1) y0 y1 y2 y3 y4 y5 y6 y7))
  | 0 => ⟨fun _ _ _ _ _ r h => by simp [peristyleref10_checkGraph.l0] at h, fun _ _ _ _ r h => by simp [peristyleref10_checkGraph.l1] at h, fun _ _ _ _ _ _ _ _ r h => by simp [peristyleref10_checkGraph.j2] at h⟩
  | k + 1 => by
    obtain ⟨ih0, ih1, ih2⟩ := peristyleref10_checkGraph.mono_l k
    refine ⟨?_, ?_, ?_⟩
    · intro y0 y1 y2 y3 y4
      unfold peristyleref10_checkGraph.l0
      exact s4qm0
    · intro y0 y1 y2 y3
      unfold peristyleref10_checkGraph.l1
      exact s4qm0
    · intro y0 y1 y2 y3 y4 y5 y6 y7
      unfold peristyleref10_checkGraph.j2
      exact s4qm0
theorem peristyleref10_checkGraph.mono : ∀ a0 a1 k, LeO (peristyleref10_checkGraph.f k a0 a1) (peristyleref10_checkGraph.f (k + 1) a0 a1) := by
 intro a0 a1 k
 obtain ⟨ih0, ih1, ih2⟩ := peristyleref10_checkGraph.mono_l k
 unfold peristyleref10_checkGraph.f
 repeat' first
  | (with_reducible exact ih0 _ _ _ _ _)
  | (with_reducible exact ih1 _ _ _ _)
  | (with_reducible exact ih2 _ _ _ _ _ _ _ _)
  | (with_reducible exact LeO.refl _)
  | (with_reducible exact LeO.none _)
  | (with_reducible refine LeO.ite ?_ ?_)
  | (with_reducible refine LeO.bind ?_ (fun _ => ?_))
  | exact ih0 _ _ _ _ _
  | exact ih1 _ _ _ _
  | exact ih2 _ _ _ _ _ _ _ _
  | exact LeO.none _
  | refine LeO.ite ?_ ?_
  | refine LeO.bind ?_ (fun _ => ?_)
set_option maxHeartbeats 8000000 in
set_option maxRecDepth 100000 in
theorem peristyleref10_checkGraph.calls (k : Nat) (A0 : Option Addr) (c0 : Nat) (l0 : List Int) (A1 : Option Addr) (c1 : Nat) (l1 : List (S75)) (r : Int) (w : World) (hr0 : Kd.C (Kd.int .i64) w A0 l0.length l0) (hc0 : l0.length ≤ c0) (hr1 : Kd.C k75 w A1 l1.length l1) (hc1 : l1.length ≤ c1) (h : peristyleref10_checkGraph.f k l0 l1 = some r) :
    Calls Tryd.prog 43 #[.slice A0 l0.length c0, .slice A1 l1.length c1] w fun e w' => e = .returned (.int .i64 r) ∧ Below w.heap.size w w' := by
 have hu75 := Tryd.underlying75
 have HR0 := Aside0.mk hr0
 have HC0 := Aside0.mk hc0
 clear hr0 hc0
 have HR1 := Aside0.mk hr1
 have HC1 := Aside0.mk hc1
 clear hr1 hc1
 have HB := Aside0.mk (Below.refl w.heap.size w)
 have H : (if (l0.length : Int) = 0 then (some 6) else (if (l0.length : Int) > 8 then (some 2) else (peristyleref10_checkGraph.l0 k l0 l1 l0 (l0.length : Int) 0))) = some r := h
 clear h
 by_cases c3 : (l0.length : Int) = 0
 · rw [if_pos c3] at H
   have c3b0 : ((l0.length : Int) == 0) = true := beq_iff_eq.mpr c3
   have c3b1 : ((l0.length : Int) != 0) = false := bne_eq_false_iff_eq.mpr c3
   clear c3
   obtain rfl := Option.some.inj H
   go_enter Tryd.func43, Tryd.ntmps43
   go_wp2
   go_ret
   exact ⟨by first | rfl | (simp [errW_none, errW_some] <;> rfl) | (simp [*, errW_none, errW_some] <;> rfl), by repeat (first | (with_reducible first | exact HB.out | apply below_alloc | apply pw_below_drewN | apply below_drew1) | exact HB.out)⟩
 rw [if_neg c3] at H
 have c3b0 : ((l0.length : Int) == 0) = false := beq_eq_false_iff_ne.mpr c3
 have c3b1 : ((l0.length : Int) != 0) = true := bne_iff_ne.mpr c3
 have c3b2 : ¬ (l0 = []) := fun h_ => c3 (by rw [h_]; rfl)
 by_cases c4 : (l0.length : Int) > 8
 · rw [if_pos c4] at H
   have c4b0 : decide (8 < (l0.length : Int)) = true := decide_eq_true c4
   have c4b1 : decide (8 < l0.length) = true := decide_eq_true (by omega)
   clear c4
   obtain rfl := Option.some.inj H
   go_enter Tryd.func43, Tryd.ntmps43
   go_wp2
   go_ret
   exact ⟨by first | rfl | (simp [errW_none, errW_some] <;> rfl) | (simp [*, errW_none, errW_some] <;> rfl), by repeat (first | (with_reducible first | exact HB.out | apply below_alloc | apply pw_below_drewN | apply below_drew1) | exact HB.out)⟩
 rw [if_neg c4] at H
 have c4b0 : decide (8 < (l0.length : Int)) = false := decide_eq_false c4
 have c4b1 : decide (8 < l0.length) = false := decide_eq_false (by omega)
 clear c4
 have H' := Aside0.mk H
 clear H
 go_enter Tryd.func43, Tryd.ntmps43
 go_wp2
 go_loopg [17] k (fun kq v17 w' => ∃ (x17_1 : Int), v17 = .int .i64 x17_1 ∧ Aside0 (peristyleref10_checkGraph.l0 kq l0 l1 l0 (l0.length : Int) x17_1 = some r) ∧ Aside0 (kq ≤ k) ∧ Aside0 (Below w.heap.size w w'))
 case atStart => exact ⟨(0), s4q1, H', ⟨Nat.le_refl _⟩, ⟨by repeat (first | (with_reducible first | exact HB.out | apply below_alloc | apply pw_below_drewN | apply below_drew1) | exact HB.out)⟩⟩
 clear H'
 try clear c1
 try clear p2
 try clear c3
 try clear c3b0
 try clear c3b1
 try clear c3b2
 try clear c4
 try clear c4b0
 try clear c4b1
 obtain ⟨x17_1, rfl, HA, HK1, HB⟩ := hrel
 cases gk with
 | zero => exact absurd HA.out (by simp [peristyleref10_checkGraph.l0])
 | succ k1 => ?_
 have H := HA.out
 clear HA
 simp only [peristyleref10_checkGraph.l0] at H
 by_cases c5 : x17_1 < (l0.length : Int)
 · rw [if_pos c5] at H
   have c5b0 : decide (x17_1 < (l0.length : Int)) = true := decide_eq_true c5
   clear c5
   by_cases c6 : 0 ≤ x17_1
   case neg =>
    rw [if_neg c6] at H
    exact absurd H (by simp)
   rw [if_pos c6] at H
   have c6b0 : decide (0 ≤ x17_1) = true := decide_eq_true c6
   clear c6
   by_cases c7 : x17_1 < (l0.length : Int)
   case neg =>
    rw [if_neg c7] at H
    exact absurd H (by simp)
   rw [if_pos c7] at H
   have c7b0 : decide (x17_1 < (l0.length : Int)) = true := decide_eq_true c7
   clear c7
   replace H := Option.bind_eq_some_iff.mp H
   obtain ⟨t180, A80, H⟩ := H
   replace H : (if t180 = true then (peristyleref10_checkGraph.l0 k1 l0 l1 l0 (l0.length : Int) (wrap64 (x17_1 + 1))) else (some 1)) = some r := H
   have A8 := Aside0.mk A80
   clear A80
   by_cases c9 : t180 = true
   case neg =>
    replace c9 := Bool.eq_false_iff.mpr c9
    subst c9
    have H1 : (some 1) = some r := s4q8
    clear H
    have H := H1
    clear H1
    obtain rfl := Option.some.inj H
    have p179 : 0 ≤ (x17_1 : Int) := of_decide_eq_true s4q2
    have q179 : x17_1 < (l0.length : Int) := of_decide_eq_true s4q2
    obtain ⟨ad179, e179, hx179_0⟩ := Kd.at_int HR0.out x17_1 p179 q179
    cases e179
    replace hx179_0 := (HB.out.cell (World.block_lt_of_cell? w _ hx179_0)).trans hx179_0
    replace p179 := eq_true p179
    replace q179 := eq_true q179
    go_wp2_with (first | ((with_reducible refine gate_callee (f := 44) rfl ?_); refine goesL_ (some 22) rfl rfl Tryd.func44 s4q0 rfl #[.int .i64 (rd l0 x17_1), .int .i64 1, .int .i64 2000] rfl s4q7 ?_; (with_reducible refine (peristyleref10_within.calls (rd l0 x17_1) 1 2000 false _ A8.out).mono ?_); rintro e w' ⟨rfl, ⟨nd, rfl⟩⟩; refine ⟨_, rfl, ?_⟩))
    go_ret
    exact ⟨by first | rfl | (simp [errW_none, errW_some] <;> rfl) | (simp [*, errW_none, errW_some] <;> rfl), by repeat (first | (with_reducible first | exact HB.out | apply below_alloc | apply pw_below_drewN | apply below_drew1) | exact HB.out)⟩
   subst c9
   have H1 : (peristyleref10_checkGraph.l0 k1 l0 l1 l0 (l0.length : Int) (wrap64 (x17_1 + 1))) = some r := s4q9
   clear H
   have H := H1
   clear H1
   have H' := Aside0.mk H
   clear H
   have p179 : 0 ≤ (x17_1 : Int) := of_decide_eq_true s4q2
   have q179 : x17_1 < (l0.length : Int) := of_decide_eq_true s4q2
   obtain ⟨ad179, e179, hx179_0⟩ := Kd.at_int HR0.out x17_1 p179 q179
   cases e179
   replace hx179_0 := (HB.out.cell (World.block_lt_of_cell? w _ hx179_0)).trans hx179_0
   replace p179 := eq_true p179
   replace q179 := eq_true q179
   go_wp2_with (first | ((with_reducible refine gate_callee (f := 44) rfl ?_); refine goesL_ (some 22) rfl rfl Tryd.func44 s4q0 rfl #[.int .i64 (rd l0 x17_1), .int .i64 1, .int .i64 2000] rfl s4q7 ?_; (with_reducible refine (peristyleref10_within.calls (rd l0 x17_1) 1 2000 true _ A8.out).mono ?_); rintro e w' ⟨rfl, ⟨nd, rfl⟩⟩; refine ⟨_, rfl, ?_⟩))
   first | go_roundg k1 | (refine Handed.intro k1 ?measure ?_; rotate_left; go_step; (repeat apply Exists.intro); simp only [add_plain]; refine ⟨?rel, rfl⟩)
   case measure => have := HK1.out; omega
   case rel => exact ⟨(wrap64 (x17_1 + 1)), s4q1, H', ⟨by have := HK1.out; omega⟩, ⟨by repeat (first | (with_reducible first | exact HB.out | apply below_alloc | apply pw_below_drewN | apply below_drew1) | exact HB.out)⟩⟩
 rw [if_neg c5] at H
 have c5b0 : decide (x17_1 < (l0.length : Int)) = false := decide_eq_false c5
 clear c5
 by_cases c10 : (l1.length : Int) > 20
 · rw [if_pos c10] at H
   have c10b0 : decide (20 < (l1.length : Int)) = true := decide_eq_true c10
   have c10b1 : decide (20 < l1.length) = true := decide_eq_true (by omega)
   clear c10
   obtain rfl := Option.some.inj H
   go_wp2
   go_ret
   exact ⟨by first | rfl | (simp [errW_none, errW_some] <;> rfl) | (simp [*, errW_none, errW_some] <;> rfl), by repeat (first | (with_reducible first | exact HB.out | apply below_alloc | apply pw_below_drewN | apply below_drew1) | exact HB.out)⟩
 rw [if_neg c10] at H
 have c10b0 : decide (20 < (l1.length : Int)) = false := decide_eq_false c10
 have c10b1 : decide (20 < l1.length) = false := decide_eq_false (by omega)
 clear c10
 have H' := Aside0.mk H
 clear H
 go_wp2
 go_loopg [30] k1 (fun kq v30 w' => ∃ (x30_2 : Int), v30 = .int .i64 x30_2 ∧ Aside0 (peristyleref10_checkGraph.l1 kq l0 l1 (l1.length : Int) x30_2 = some r) ∧ Aside0 (kq ≤ k1) ∧ Aside0 (Below w.heap.size w w'))
 case atStart => exact ⟨(0), s4q1, H', ⟨Nat.le_refl _⟩, ⟨by repeat (first | (with_reducible first | exact HB.out | apply below_alloc | apply pw_below_drewN | apply below_drew1) | exact HB.out)⟩⟩
 clear H'
 try clear c1
 try clear p1
 try clear q1
 try clear hx1
 try clear p2
 try clear c3
 try clear c3b0
 try clear c3b1
 try clear c3b2
 try clear c4
 try clear c4b0
 try clear c4b1
 try clear c5
 try clear c5b0
 try clear c6
 try clear c6b0
 try clear p6
 try clear c7
 try clear c7b0
 try clear c9
 try clear c10
 try clear c10b0
 try clear c10b1
 try clear hx179_0
 try clear p179
 try clear p2
 try clear q179
 obtain ⟨x30_2, rfl, HA, HK2, HB⟩ := hrel
 cases gk with
 | zero => exact absurd HA.out (by simp [peristyleref10_checkGraph.l1])
 | succ k2 => ?_
 have H := HA.out
 clear HA
 simp only [peristyleref10_checkGraph.l1] at H
 by_cases c11 : x30_2 < (l1.length : Int)
 case neg =>
  rw [if_neg c11] at H
  have c11b0 : decide (x30_2 < (l1.length : Int)) = false := decide_eq_false c11
  clear c11
  obtain rfl := Option.some.inj H
  go_wp2
  go_ret
  exact ⟨by first | rfl | (simp [errW_none, errW_some] <;> rfl) | (simp [*, errW_none, errW_some] <;> rfl), by repeat (first | (with_reducible first | exact HB.out | apply below_alloc | apply pw_below_drewN | apply below_drew1) | exact HB.out)⟩
 rw [if_pos c11] at H
 have c11b0 : decide (x30_2 < (l1.length : Int)) = true := decide_eq_true c11
 clear c11
 by_cases c12 : 0 ≤ x30_2
 case neg =>
  rw [if_neg c12] at H
  exact absurd H (by simp)
 rw [if_pos c12] at H
 have c12b0 : decide (0 ≤ x30_2) = true := decide_eq_true c12
 clear c12
 by_cases c13 : x30_2 < (l1.length : Int)
 case neg =>
  rw [if_neg c13] at H
  exact absurd H (by simp)
 rw [if_pos c13] at H
 have c13b0 : decide (x30_2 < (l1.length : Int)) = true := decide_eq_true c13
 clear c13
 have HC14 := Aside0.mk H
 clear H
 have p181 : 0 ≤ (x30_2 : Int) := of_decide_eq_true s4q2
 have q181 : x30_2 < (l1.length : Int) := of_decide_eq_true s4q2
 obtain ⟨ad181, e181, hx181_0, hx181_1, hx181_2⟩ := at_T75 HR1.out x30_2 p181 q181
 cases e181
 replace hx181_0 := (HB.out.cell (World.block_lt_of_cell? w _ hx181_0)).trans hx181_0
 replace hx181_1 := (HB.out.cell (World.block_lt_of_cell? w _ hx181_1)).trans hx181_1
 replace hx181_2 := (HB.out.cell (World.block_lt_of_cell? w _ hx181_2)).trans hx181_2
 replace p181 := eq_true p181
 replace q181 := eq_true q181
 go_upto_region 16 with (first | ((with_reducible refine gate_dst (N := 8) rfl ?_); (try (refine gate_guard (by rfl) ?_; dsimp only)); refine box_event ?hg (N := 8) ?hd (cs := #[.int .i64 0, .int .i64 0, .int .i64 0]) (t := 75) ?hr ?_; (case hd => rfl); (case hg => rfl); (case hr => first | (go_simp; done) | (go_simp; rfl)); intro gb182 hg w15 hbox hb; have n0_ := Aside0.mk (below_step s4q6 hb); have n1_ := Aside0.mk (hbox); have n2_ := Aside0.mk (((by rw [hg]; exact (below_size s4q6)) : w.heap.size ≤ gb182)); have n3_ := Aside0.mk (((by rw [hg]; exact (below_size s4q6)) : w.heap.size ≤ gb182)); clear HB; have HB := n0_; have BK182 := n1_; have GW182 := n2_; have GE182 := n3_; clear n0_ n1_ n2_ n3_; clear hb hbox hg; have hcz16_0 : w15.cell? ⟨gb182, 0, none⟩ = some (.int .i64 0) := (blk_cell BK182.out 0).trans rfl; have hcz16_1 : w15.cell? ⟨gb182, 1, none⟩ = some (.int .i64 0) := (blk_cell BK182.out 1).trans rfl; have hcz16_2 : w15.cell? ⟨gb182, 2, none⟩ = some (.int .i64 0) := (blk_cell BK182.out 2).trans rfl; have hfz16_0 := blk_frozen BK182.out 0; have hfz16_1 := blk_frozen BK182.out 1; have hfz16_2 := blk_frozen BK182.out 2))
 (try simp only [Act.put, sqa, sqb, sqc])
 go_cut [55] (fun v55 wc => ∃ (kq : Nat) (x55_13 : Bool), v55 = .bool x55_13 ∧ Aside0 (peristyleref10_checkGraph.j2 kq l0 l1 (l1.length : Int) x30_2 x55_13 ((rd_T75 l1 x30_2).f0) ((rd_T75 l1 x30_2).f1) ((rd_T75 l1 x30_2).f2) = some r) ∧ Aside0 (kq ≤ k2) ∧ Aside0 (wc.heap[gb182]? = some (.cells #[.int .i64 ((rd_T75 l1 x30_2).f0), .int .i64 ((rd_T75 l1 x30_2).f1), .int .i64 ((rd_T75 l1 x30_2).f2)] 75 (0, 0))) ∧ Aside0 (Below w.heap.size w wc))
 case first =>
  have H := HC14.out
  clear HC14
  replace H := Option.bind_eq_some_iff.mp H
  obtain ⟨t183, A170, H⟩ := H
  replace H : (if t183 = true then ((peristyleref10_within.f ((rd_T75 l1 x30_2).f1) 0 (wrap64 ((l0.length : Int) - 1))).bind fun t184 => (if t184 = true then ((peristyleref10_within.f ((rd_T75 l1 x30_2).f2) 1 1000000).bind fun t185 => (peristyleref10_checkGraph.j2 k2 l0 l1 (l1.length : Int) x30_2 (!t185) ((rd_T75 l1 x30_2).f0) ((rd_T75 l1 x30_2).f1) ((rd_T75 l1 x30_2).f2))) else (peristyleref10_checkGraph.j2 k2 l0 l1 (l1.length : Int) x30_2 true ((rd_T75 l1 x30_2).f0) ((rd_T75 l1 x30_2).f1) ((rd_T75 l1 x30_2).f2)))) else (peristyleref10_checkGraph.j2 k2 l0 l1 (l1.length : Int) x30_2 true ((rd_T75 l1 x30_2).f0) ((rd_T75 l1 x30_2).f1) ((rd_T75 l1 x30_2).f2))) = some r := H
  have A17 := Aside0.mk A170
  clear A170
  by_cases c18 : t183 = true
  case neg =>
   replace c18 := Bool.eq_false_iff.mpr c18
   subst c18
   have H1 : (peristyleref10_checkGraph.j2 k2 l0 l1 (l1.length : Int) x30_2 true ((rd_T75 l1 x30_2).f0) ((rd_T75 l1 x30_2).f1) ((rd_T75 l1 x30_2).f2)) = some r := s4q8
   clear H
   have H := H1
   clear H1
   have H' := Aside0.mk H
   clear H
   have hcz24_0 : w15.cell? ⟨gb182, 0, none⟩ = some (.int .i64 0) := (blk_cell BK182.out 0).trans rfl
   have hcz24_1 : w15.cell? ⟨gb182, 1, none⟩ = some (.int .i64 0) := (blk_cell BK182.out 1).trans rfl
   have hcz24_2 : w15.cell? ⟨gb182, 2, none⟩ = some (.int .i64 0) := (blk_cell BK182.out 2).trans rfl
   have hfz24_0 := blk_frozen BK182.out 0
   have hfz24_1 := blk_frozen BK182.out 1
   have hfz24_2 := blk_frozen BK182.out 2
   go_wp2_with (first | ((with_reducible refine gate_callee (f := 44) rfl ?_); refine goesL_ (some 39) rfl rfl Tryd.func44 s4q0 rfl #[.int .i64 ((rd_T75 l1 x30_2).f0), .int .i64 0, .int .i64 (wrap64 ((l0.length : Int) - 1))] rfl s4q7 ?_; (with_reducible refine (peristyleref10_within.calls ((rd_T75 l1 x30_2).f0) 0 (wrap64 ((l0.length : Int) - 1)) false _ A17.out).mono ?_); rintro e w' ⟨rfl, ⟨nd, rfl⟩⟩; refine ⟨_, rfl, ?_⟩))
   go_meet
   case rel => exact ⟨_, (true), s4q1, H', ⟨by have := HK1.out; have := HK2.out; first | omega | exact Nat.le_refl _⟩, ⟨by (with_reducible repeat (first | refine blk_drewN ?_ _ | refine blk_drew ?_ | refine blk_alloc ?_ _)); refine blk_put (cs := #[.int .i64 ((rd_T75 l1 x30_2).f0), .int .i64 ((rd_T75 l1 x30_2).f1), .int .i64 0]) ?_ 2 _ rfl; (with_reducible repeat (first | refine blk_drewN ?_ _ | refine blk_drew ?_ | refine blk_alloc ?_ _)); refine blk_put (cs := #[.int .i64 ((rd_T75 l1 x30_2).f0), .int .i64 0, .int .i64 0]) ?_ 1 _ rfl; (with_reducible repeat (first | refine blk_drewN ?_ _ | refine blk_drew ?_ | refine blk_alloc ?_ _)); refine blk_put (cs := #[.int .i64 0, .int .i64 0, .int .i64 0]) ?_ 0 _ rfl; (with_reducible repeat (first | refine blk_drewN ?_ _ | refine blk_drew ?_ | refine blk_alloc ?_ _)); exact BK182.out⟩, ⟨by repeat (first | (with_reducible first | exact HB.out | apply below_alloc | apply pw_below_drewN | apply below_drew1 | refine below_set ?_ GE182.out) | exact HB.out)⟩⟩
  subst c18
  have H1 : ((peristyleref10_within.f ((rd_T75 l1 x30_2).f1) 0 (wrap64 ((l0.length : Int) - 1))).bind fun t184 => (if t184 = true then ((peristyleref10_within.f ((rd_T75 l1 x30_2).f2) 1 1000000).bind fun t185 => (peristyleref10_checkGraph.j2 k2 l0 l1 (l1.length : Int) x30_2 (!t185) ((rd_T75 l1 x30_2).f0) ((rd_T75 l1 x30_2).f1) ((rd_T75 l1 x30_2).f2))) else (peristyleref10_checkGraph.j2 k2 l0 l1 (l1.length : Int) x30_2 true ((rd_T75 l1 x30_2).f0) ((rd_T75 l1 x30_2).f1) ((rd_T75 l1 x30_2).f2)))) = some r := s4q9
  clear H
  have H := H1
  clear H1
  replace H := Option.bind_eq_some_iff.mp H
  obtain ⟨t184, A190, H⟩ := H
  replace H : (if t184 = true then ((peristyleref10_within.f ((rd_T75 l1 x30_2).f2) 1 1000000).bind fun t185 => (peristyleref10_checkGraph.j2 k2 l0 l1 (l1.length : Int) x30_2 (!t185) ((rd_T75 l1 x30_2).f0) ((rd_T75 l1 x30_2).f1) ((rd_T75 l1 x30_2).f2))) else (peristyleref10_checkGraph.j2 k2 l0 l1 (l1.length : Int) x30_2 true ((rd_T75 l1 x30_2).f0) ((rd_T75 l1 x30_2).f1) ((rd_T75 l1 x30_2).f2))) = some r := H
  have A19 := Aside0.mk A190
  clear A190
  by_cases c20 : t184 = true
  case neg =>
   replace c20 := Bool.eq_false_iff.mpr c20
   subst c20
   have H1 : (peristyleref10_checkGraph.j2 k2 l0 l1 (l1.length : Int) x30_2 true ((rd_T75 l1 x30_2).f0) ((rd_T75 l1 x30_2).f1) ((rd_T75 l1 x30_2).f2)) = some r := s4q8
   clear H
   have H := H1
   clear H1
   have H' := Aside0.mk H
   clear H
   have hcz23_0 : w15.cell? ⟨gb182, 0, none⟩ = some (.int .i64 0) := (blk_cell BK182.out 0).trans rfl
   have hcz23_1 : w15.cell? ⟨gb182, 1, none⟩ = some (.int .i64 0) := (blk_cell BK182.out 1).trans rfl
   have hcz23_2 : w15.cell? ⟨gb182, 2, none⟩ = some (.int .i64 0) := (blk_cell BK182.out 2).trans rfl
   have hfz23_0 := blk_frozen BK182.out 0
   have hfz23_1 := blk_frozen BK182.out 1
   have hfz23_2 := blk_frozen BK182.out 2
   go_wp2_with (first | ((with_reducible refine gate_callee (f := 44) rfl ?_); refine goesL_ (some 39) rfl rfl Tryd.func44 s4q0 rfl #[.int .i64 ((rd_T75 l1 x30_2).f0), .int .i64 0, .int .i64 (wrap64 ((l0.length : Int) - 1))] rfl s4q7 ?_; (with_reducible refine (peristyleref10_within.calls ((rd_T75 l1 x30_2).f0) 0 (wrap64 ((l0.length : Int) - 1)) true _ A17.out).mono ?_); rintro e w' ⟨rfl, ⟨nd, rfl⟩⟩; refine ⟨_, rfl, ?_⟩) | (go_at_call 44; (with_reducible refine (peristyleref10_within.calls ((rd_T75 l1 x30_2).f1) 0 (wrap64 ((l0.length : Int) - 1)) false _ A19.out).mono ?_); rintro e w' ⟨rfl, ⟨nd, rfl⟩⟩))
   go_meet
   case rel => exact ⟨_, (true), s4q1, H', ⟨by have := HK1.out; have := HK2.out; first | omega | exact Nat.le_refl _⟩, ⟨by (with_reducible repeat (first | refine blk_drewN ?_ _ | refine blk_drew ?_ | refine blk_alloc ?_ _)); refine blk_put (cs := #[.int .i64 ((rd_T75 l1 x30_2).f0), .int .i64 ((rd_T75 l1 x30_2).f1), .int .i64 0]) ?_ 2 _ rfl; (with_reducible repeat (first | refine blk_drewN ?_ _ | refine blk_drew ?_ | refine blk_alloc ?_ _)); refine blk_put (cs := #[.int .i64 ((rd_T75 l1 x30_2).f0), .int .i64 0, .int .i64 0]) ?_ 1 _ rfl; (with_reducible repeat (first | refine blk_drewN ?_ _ | refine blk_drew ?_ | refine blk_alloc ?_ _)); refine blk_put (cs := #[.int .i64 0, .int .i64 0, .int .i64 0]) ?_ 0 _ rfl; (with_reducible repeat (first | refine blk_drewN ?_ _ | refine blk_drew ?_ | refine blk_alloc ?_ _)); exact BK182.out⟩, ⟨by repeat (first | (with_reducible first | exact HB.out | apply below_alloc | apply pw_below_drewN | apply below_drew1 | refine below_set ?_ GE182.out) | exact HB.out)⟩⟩
  subst c20
  have H1 : ((peristyleref10_within.f ((rd_T75 l1 x30_2).f2) 1 1000000).bind fun t185 => (peristyleref10_checkGraph.j2 k2 l0 l1 (l1.length : Int) x30_2 (!t185) ((rd_T75 l1 x30_2).f0) ((rd_T75 l1 x30_2).f1) ((rd_T75 l1 x30_2).f2))) = some r := s4q9
  clear H
  have H := H1
  clear H1
  replace H := Option.bind_eq_some_iff.mp H
  obtain ⟨t185, A210, H⟩ := H
  replace H : (peristyleref10_checkGraph.j2 k2 l0 l1 (l1.length : Int) x30_2 (!t185) ((rd_T75 l1 x30_2).f0) ((rd_T75 l1 x30_2).f1) ((rd_T75 l1 x30_2).f2)) = some r := H
  have A21 := Aside0.mk A210
  clear A210
  have H' := Aside0.mk H
  clear H
  have hcz22_0 : w15.cell? ⟨gb182, 0, none⟩ = some (.int .i64 0) := (blk_cell BK182.out 0).trans rfl
  have hcz22_1 : w15.cell? ⟨gb182, 1, none⟩ = some (.int .i64 0) := (blk_cell BK182.out 1).trans rfl
  have hcz22_2 : w15.cell? ⟨gb182, 2, none⟩ = some (.int .i64 0) := (blk_cell BK182.out 2).trans rfl
  have hfz22_0 := blk_frozen BK182.out 0
  have hfz22_1 := blk_frozen BK182.out 1
  have hfz22_2 := blk_frozen BK182.out 2
  go_wp2_with (first | ((with_reducible refine gate_callee (f := 44) rfl ?_); refine goesL_ (some 39) rfl rfl Tryd.func44 s4q0 rfl #[.int .i64 ((rd_T75 l1 x30_2).f0), .int .i64 0, .int .i64 (wrap64 ((l0.length : Int) - 1))] rfl s4q7 ?_; (with_reducible refine (peristyleref10_within.calls ((rd_T75 l1 x30_2).f0) 0 (wrap64 ((l0.length : Int) - 1)) true _ A17.out).mono ?_); rintro e w' ⟨rfl, ⟨nd, rfl⟩⟩; refine ⟨_, rfl, ?_⟩) | (go_at_call 44; (with_reducible refine (peristyleref10_within.calls ((rd_T75 l1 x30_2).f1) 0 (wrap64 ((l0.length : Int) - 1)) true _ A19.out).mono ?_); rintro e w' ⟨rfl, ⟨nd, rfl⟩⟩) | (go_at_call 44; (with_reducible refine (peristyleref10_within.calls ((rd_T75 l1 x30_2).f2) 1 1000000 t185 _ A21.out).mono ?_); rintro e w' ⟨rfl, ⟨nd, rfl⟩⟩))
  go_meet
  case rel => exact ⟨_, (!t185), s4q1, H', ⟨by have := HK1.out; have := HK2.out; first | omega | exact Nat.le_refl _⟩, ⟨by (with_reducible repeat (first | refine blk_drewN ?_ _ | refine blk_drew ?_ | refine blk_alloc ?_ _)); refine blk_put (cs := #[.int .i64 ((rd_T75 l1 x30_2).f0), .int .i64 ((rd_T75 l1 x30_2).f1), .int .i64 0]) ?_ 2 _ rfl; (with_reducible repeat (first | refine blk_drewN ?_ _ | refine blk_drew ?_ | refine blk_alloc ?_ _)); refine blk_put (cs := #[.int .i64 ((rd_T75 l1 x30_2).f0), .int .i64 0, .int .i64 0]) ?_ 1 _ rfl; (with_reducible repeat (first | refine blk_drewN ?_ _ | refine blk_drew ?_ | refine blk_alloc ?_ _)); refine blk_put (cs := #[.int .i64 0, .int .i64 0, .int .i64 0]) ?_ 0 _ rfl; (with_reducible repeat (first | refine blk_drewN ?_ _ | refine blk_drew ?_ | refine blk_alloc ?_ _)); exact BK182.out⟩, ⟨by repeat (first | (with_reducible first | exact HB.out | apply below_alloc | apply pw_below_drewN | apply below_drew1 | refine below_set ?_ GE182.out) | exact HB.out)⟩⟩
 clear HC14
 try clear c1
 try clear p1
 try clear q1
 try clear hx1
 try clear c2
 try clear p2
 try clear c3
 try clear c3b0
 try clear c3b1
 try clear c3b2
 try clear c4
 try clear c4b0
 try clear c4b1
 try clear c5
 try clear c5b0
 try clear c6
 try clear c6b0
 try clear p6
 try clear c7
 try clear c7b0
 try clear c9
 try clear c10
 try clear c10b0
 try clear c10b1
 try clear c11
 try clear c11b0
 try clear c12
 try clear c12b0
 try clear c13
 try clear c13b0
 try clear p17
 try clear q17
 try clear hx17
 try clear c18
 try clear p18
 try clear q18
 try clear hx18
 try clear c20
 try clear hcz16_0
 try clear hcz16_1
 try clear hcz16_2
 try clear hcz22_0
 try clear hcz22_1
 try clear hcz22_2
 try clear hcz23_0
 try clear hcz23_1
 try clear hcz23_2
 try clear hcz24_0
 try clear hcz24_1
 try clear hcz24_2
 try clear hfz16_0
 try clear hfz16_1
 try clear hfz16_2
 try clear hfz22_0
 try clear hfz22_1
 try clear hfz22_2
 try clear hfz23_0
 try clear hfz23_1
 try clear hfz23_2
 try clear hfz24_0
 try clear hfz24_1
 try clear hfz24_2
 try clear hx179_0
 try clear hx181_0
 try clear hx181_1
 try clear hx181_2
 try clear p1
 try clear p179
 try clear p181
 try clear p2
 try clear p6
 try clear q1
 try clear q179
 try clear q181
 obtain ⟨kq, x55_13, rfl, HA, HJ13, BK182, HB⟩ := hcut
 cases kq with
 | zero => exact absurd HA.out (by simp [peristyleref10_checkGraph.j2])
 | succ kj13 => ?_
 have H := HA.out
 clear HA
 simp only [peristyleref10_checkGraph.j2] at H
 by_cases c25 : x55_13 = true
 · subst c25
   have H1 : (some 1) = some r := s4q9
   clear H
   have H := H1
   clear H1
   obtain rfl := Option.some.inj H
   go_wp2
   go_ret
   exact ⟨by first | rfl | (simp [errW_none, errW_some] <;> rfl) | (simp [*, errW_none, errW_some] <;> rfl), by repeat (first | (with_reducible first | exact HB.out | apply below_alloc | apply pw_below_drewN | apply below_drew1 | refine below_set ?_ GE182.out) | exact HB.out)⟩
 replace c25 := Bool.eq_false_iff.mpr c25
 subst c25
 have H1 : (if ((rd_T75 l1 x30_2).f0) = ((rd_T75 l1 x30_2).f1) then (some 7) else (peristyleref10_checkGraph.l1 kj13 l0 l1 (l1.length : Int) (wrap64 (x30_2 + 1)))) = some r := s4q8
 clear H
 have H := H1
 clear H1
 by_cases c26 : ((rd_T75 l1 x30_2).f0) = ((rd_T75 l1 x30_2).f1)
 · rw [if_pos c26] at H
   have c26b0 : (((rd_T75 l1 x30_2).f0) == ((rd_T75 l1 x30_2).f1)) = true := beq_iff_eq.mpr c26
   have c26b1 : (((rd_T75 l1 x30_2).f0) != ((rd_T75 l1 x30_2).f1)) = false := bne_eq_false_iff_eq.mpr c26
   clear c26
   obtain rfl := Option.some.inj H
   have hcz27_0 : wc.cell? ⟨gb182, 0, none⟩ = some (.int .i64 ((rd_T75 l1 x30_2).f0)) := (blk_cell BK182.out 0).trans rfl
   have hcz27_1 : wc.cell? ⟨gb182, 1, none⟩ = some (.int .i64 ((rd_T75 l1 x30_2).f1)) := (blk_cell BK182.out 1).trans rfl
   have hcz27_2 : wc.cell? ⟨gb182, 2, none⟩ = some (.int .i64 ((rd_T75 l1 x30_2).f2)) := (blk_cell BK182.out 2).trans rfl
   have hfz27_0 := blk_frozen BK182.out 0
   have hfz27_1 := blk_frozen BK182.out 1
   have hfz27_2 := blk_frozen BK182.out 2
   go_wp2
   go_ret
   exact ⟨by first | rfl | (simp [errW_none, errW_some] <;> rfl) | (simp [*, errW_none, errW_some] <;> rfl), by repeat (first | (with_reducible first | exact HB.out | apply below_alloc | apply pw_below_drewN | apply below_drew1 | refine below_set ?_ GE182.out) | exact HB.out)⟩
 rw [if_neg c26] at H
 have c26b0 : (((rd_T75 l1 x30_2).f0) == ((rd_T75 l1 x30_2).f1)) = false := beq_eq_false_iff_ne.mpr c26
 have c26b1 : (((rd_T75 l1 x30_2).f0) != ((rd_T75 l1 x30_2).f1)) = true := bne_iff_ne.mpr c26
 have H' := Aside0.mk H
 clear H
 have hcz28_0 : wc.cell? ⟨gb182, 0, none⟩ = some (.int .i64 ((rd_T75 l1 x30_2).f0)) := (blk_cell BK182.out 0).trans rfl
 have hcz28_1 : wc.cell? ⟨gb182, 1, none⟩ = some (.int .i64 ((rd_T75 l1 x30_2).f1)) := (blk_cell BK182.out 1).trans rfl
 have hcz28_2 : wc.cell? ⟨gb182, 2, none⟩ = some (.int .i64 ((rd_T75 l1 x30_2).f2)) := (blk_cell BK182.out 2).trans rfl
 have hfz28_0 := blk_frozen BK182.out 0
 have hfz28_1 := blk_frozen BK182.out 1
 have hfz28_2 := blk_frozen BK182.out 2
 go_wp2
 first | go_roundg kj13 | (refine Handed.intro kj13 ?measure ?_; rotate_left; go_step; (repeat apply Exists.intro); simp only [add_plain]; refine ⟨?rel, rfl⟩)
 case measure => have := HK1.out; have := HK2.out; have := HJ13.out; omega
 case rel => exact ⟨(wrap64 (x30_2 + 1)), s4q1, H', ⟨by have := HK1.out; have := HK2.out; have := HJ13.out; omega⟩, ⟨by repeat (first | (with_reducible first | exact HB.out | apply below_alloc | apply pw_below_drewN | apply below_drew1 | refine below_set ?_ GE182.out) | exact HB.out)⟩⟩
/-! ### peristyleref10_product: function 88 -/
def peristyleref10_product.f (a0 : Int) (a1 : Int) : Option (Int) := if a0 > 0 then (if a0 = 0 then (none) else (if a1 > (wrap64 ((1000000000000000 : Int) / a0)) then (some 1000000000000000) else (some (wrap64 (a0 * a1))))) else (some (wrap64 (a0 * a1)))
set_option maxHeartbeats 8000000 in
set_option maxRecDepth 100000 in
theorem peristyleref10_product.calls (a0 : Int) (a1 : Int) (r : Int) (w : World) (h : peristyleref10_product.f a0 a1 = some r) :
    Calls Tryd.prog 88 #[.int .i64 a0, .int .i64 a1] w fun e w' => e = .returned (.int .i64 r) ∧ Drawn0 w w' := by
 have htd1000000000000000 : ∀ y_ : Int, Int.tdiv 1000000000000000 y_ = 1000000000000000 / y_ := fun y_ => Int.tdiv_eq_ediv_of_nonneg (by decide)
 have H : (if a0 > 0 then (if a0 = 0 then (none) else (if a1 > (wrap64 ((1000000000000000 : Int) / a0)) then (some 1000000000000000) else (some (wrap64 (a0 * a1))))) else (some (wrap64 (a0 * a1)))) = some r := h
 clear h
 by_cases c3 : a0 > 0
 case neg =>
  rw [if_neg c3] at H
  have c3b0 : decide (0 < a0) = false := decide_eq_false c3
  clear c3
  obtain rfl := Option.some.inj H
  go_enter Tryd.func88, Tryd.ntmps88
  go_wp2
  go_ret
  exact ⟨by first | rfl | (simp; done) | (simp [*]; done), by repeat (first | exact Drawn0.refl _ | apply Drawn0.step)⟩
 rw [if_pos c3] at H
 have c3b0 : decide (0 < a0) = true := decide_eq_true c3
 clear c3
 by_cases c4 : a0 = 0
 · rw [if_pos c4] at H
   exact absurd H (by simp)
 rw [if_neg c4] at H
 have c4b0 : (a0 == 0) = false := beq_eq_false_iff_ne.mpr c4
 have c4b1 : (a0 != 0) = true := bne_iff_ne.mpr c4
 by_cases c5 : a1 > (wrap64 ((1000000000000000 : Int) / a0))
 · rw [if_pos c5] at H
   have c5b0 : decide ((wrap64 ((1000000000000000 : Int) / a0)) < a1) = true := decide_eq_true c5
   clear c5
   obtain rfl := Option.some.inj H
   go_enter Tryd.func88, Tryd.ntmps88
   go_wp2
   go_ret
   exact ⟨by first | rfl | (simp; done) | (simp [*]; done), by repeat (first | exact Drawn0.refl _ | apply Drawn0.step)⟩
 rw [if_neg c5] at H
 have c5b0 : decide ((wrap64 ((1000000000000000 : Int) / a0)) < a1) = false := decide_eq_false c5
 clear c5
 obtain rfl := Option.some.inj H
 go_enter Tryd.func88, Tryd.ntmps88
 go_wp2
 go_ret
 exact ⟨by first | rfl | (simp; done) | (simp [*]; done), by repeat (first | exact Drawn0.refl _ | apply Drawn0.step)⟩
end Go.Proofs.YtgcijejmmhjibaaDoor.G
