-- Printed by a program of this session (a patched print).
import Derived.Test.YthdhdfolblhhgaaDoorHx0
import Derived.Test.YthdhdfolblhhgaaDoorHx2
import Derived.Test.YthdhdfolblhhgaaDoorHx4
namespace Go.Proofs.YthdhdfolblhhgaaDoor.H
open Go.RowKit Go.Proofs.YthdhdfolblhhgaaDoorW.PrintWords Go.Proofs.YthdhdfolblhhgaaDoorW.PrintLast Go.Proofs.YthdhdfolblhhgaaDoorW.PrintMore
attribute [local go_sem] max2_int min2_int max_two min_two max_three min_three max_four min_four   -- for this text's walks alone
set_option linter.unusedVariables false
set_option linter.unusedSimpArgs false

theorem s5q0 {p : Prop} (h : p := by kernel_rfl) : p := h
theorem s5q1 {p : Prop} (h : p := by repeat (first | (with_reducible first | exact HB.out | apply below_alloc | apply pw_below_drewN | apply below_drew1) | exact HB.out)) : p := h
theorem s5q2 {p : Prop} (h : p := by (try simp only [List.map_toArray, List.map_cons, List.map_nil]); first | done | rfl | (simp only [List.length_drop, List.length_take]; rfl)) : p := h
/-! ### peristylelaw8_JoinHashMatchesSpec: function 3 -/
def peristylelaw8_JoinHashMatchesSpec.f (k : Nat) (l0 : List (S29)) (a1 : Int) : Option (Bool) := (join_Hash.f k l0 a1).bind fun bt153 => ((peristyleref8_Hash.f k l0 a1).bind fun bt155 => (if bt153.2 = bt155.2 then (if bt153.1 = bt155.1 then (if bt153.1 ≥ 0 then (if bt153.1 < 4294967296 then ((peristylelaw8_awake.f k).bind fun t157 => (some t157)) else (some false)) else (some false)) else (some false)) else (some false)))
theorem peristylelaw8_JoinHashMatchesSpec.mono : ∀ a0 a1 k, LeO (peristylelaw8_JoinHashMatchesSpec.f k a0 a1) (peristylelaw8_JoinHashMatchesSpec.f (k + 1) a0 a1) := by
 intro a0 a1 k
 unfold peristylelaw8_JoinHashMatchesSpec.f
 repeat' first
  | (with_reducible exact join_Hash.mono _ _ _)
  | (with_reducible exact peristylelaw8_awake.mono _)
  | (with_reducible exact peristyleref8_Hash.mono _ _ _)
  | (with_reducible exact LeO.refl _)
  | (with_reducible exact LeO.none _)
  | (with_reducible refine LeO.ite ?_ ?_)
  | (with_reducible refine LeO.bind ?_ (fun _ => ?_))
  | exact join_Hash.mono _ _ _
  | exact peristylelaw8_awake.mono _
  | exact peristyleref8_Hash.mono _ _ _
  | exact LeO.none _
  | refine LeO.ite ?_ ?_
  | refine LeO.bind ?_ (fun _ => ?_)
set_option maxHeartbeats 8000000 in
set_option maxRecDepth 100000 in
theorem peristylelaw8_JoinHashMatchesSpec.calls (k : Nat) (A0 : Option Addr) (c0 : Nat) (l0 : List (S29)) (a1 : Int) (r : Bool) (w : World) (hr0 : Kd.C k29 w A0 l0.length l0) (hc0 : l0.length ≤ c0) (hG : Glob w) (h : peristylelaw8_JoinHashMatchesSpec.f k l0 a1 = some r) :
    Calls Tryd.prog 3 #[.slice A0 l0.length c0, .int .i64 a1] w fun e w' => e = .returned (.bool r) ∧ Below w.heap.size w w' := by
 have HG := Aside0.mk hG
 clear hG
 have HR0 := Aside0.mk hr0
 have HC0 := Aside0.mk hc0
 clear hr0 hc0
 have HB := Aside0.mk (Below.refl w.heap.size w)
 have H : ((join_Hash.f k l0 a1).bind fun bt153 => ((peristyleref8_Hash.f k l0 a1).bind fun bt155 => (if bt153.2 = bt155.2 then (if bt153.1 = bt155.1 then (if bt153.1 ≥ 0 then (if bt153.1 < 4294967296 then ((peristylelaw8_awake.f k).bind fun t157 => (some t157)) else (some false)) else (some false)) else (some false)) else (some false)))) = some r := h
 clear h
 replace H := Option.bind_eq_some_iff.mp H
 obtain ⟨⟨t153, t154⟩, A30, H⟩ := H
 replace H : ((peristyleref8_Hash.f k l0 a1).bind fun bt155 => (if t154 = bt155.2 then (if t153 = bt155.1 then (if t153 ≥ 0 then (if t153 < 4294967296 then ((peristylelaw8_awake.f k).bind fun t157 => (some t157)) else (some false)) else (some false)) else (some false)) else (some false))) = some r := H
 have A3 := Aside0.mk A30
 clear A30
 replace H := Option.bind_eq_some_iff.mp H
 obtain ⟨⟨t155, t156⟩, A40, H⟩ := H
 replace H : (if t154 = t156 then (if t153 = t155 then (if t153 ≥ 0 then (if t153 < 4294967296 then ((peristylelaw8_awake.f k).bind fun t157 => (some t157)) else (some false)) else (some false)) else (some false)) else (some false)) = some r := H
 have A4 := Aside0.mk A40
 clear A40
 by_cases c5 : t154 = t156
 case neg =>
  rw [if_neg c5] at H
  have c5b0 : (t154 == t156) = false := beq_eq_false_iff_ne.mpr c5
  have c5b1 : (t154 != t156) = true := bne_iff_ne.mpr c5
  obtain rfl := Option.some.inj H
  go_enter Tryd.func3, Tryd.ntmps3
  go_wp2_with (first | ((with_reducible refine gate_callee (f := 4) rfl ?_); refine goesL_ (some 12) rfl rfl Tryd.func4 s5q0 rfl #[.slice A0 l0.length c0, .int .i64 a1] rfl s5q2 ?_; (with_reducible refine (join_Hash.calls k _ _ l0 a1 t153 t154 _ ?side1 ?side2 ?side3 A3.out).mono ?_); (case side1 => repeat (first | exact HR0.out | (with_reducible refine Kd.C_alloc ?_ _) | (with_reducible refine Kd.C_drewN ?_ _) | (with_reducible refine Kd.C_drew ?_))); (case side2 => exact HC0.out); (case side3 => exact Glob_below HG.out s5q1); rintro e w19 ⟨rfl, hb⟩; refine ⟨_, rfl, ?_⟩; have n0_ := Aside0.mk (below_step s5q1 hb); clear HB; have HB := n0_; clear n0_; (try clear hb); (try clear hb2); (try clear hk); (try clear hi)) | ((with_reducible refine gate_callee (f := 5) rfl ?_); refine goesL_ (some 18) rfl rfl Tryd.func5 s5q0 rfl #[.slice A0 l0.length c0, .int .i64 a1] rfl s5q2 ?_; (with_reducible refine (peristyleref8_Hash.calls k _ _ l0 a1 t155 t156 _ ?side1 ?side2 ?side3 A4.out).mono ?_); (case side1 => repeat (first | exact (Kd.C_below HR0.out HB.out) | (with_reducible refine Kd.C_alloc ?_ _) | (with_reducible refine Kd.C_drewN ?_ _) | (with_reducible refine Kd.C_drew ?_))); (case side2 => exact HC0.out); (case side3 => exact Glob_below HG.out s5q1); rintro e w20 ⟨rfl, hb⟩; refine ⟨_, rfl, ?_⟩; have n0_ := Aside0.mk (below_step s5q1 hb); clear HB; have HB := n0_; clear n0_; (try clear hb); (try clear hb2); (try clear hk); (try clear hi)))
  go_ret
  exact ⟨by first | rfl | (simp [errW_none, errW_some] <;> rfl) | (simp [*, errW_none, errW_some] <;> rfl), by repeat (first | (with_reducible first | exact HB.out | apply below_alloc | apply pw_below_drewN | apply below_drew1) | exact HB.out)⟩
 rw [if_pos c5] at H
 have c5b0 : (t154 == t156) = true := beq_iff_eq.mpr c5
 have c5b1 : (t154 != t156) = false := bne_eq_false_iff_eq.mpr c5
 clear c5
 by_cases c6 : t153 = t155
 case neg =>
  rw [if_neg c6] at H
  have c6b0 : (t153 == t155) = false := beq_eq_false_iff_ne.mpr c6
  have c6b1 : (t153 != t155) = true := bne_iff_ne.mpr c6
  obtain rfl := Option.some.inj H
  go_enter Tryd.func3, Tryd.ntmps3
  go_wp2_with (first | ((with_reducible refine gate_callee (f := 4) rfl ?_); refine goesL_ (some 12) rfl rfl Tryd.func4 s5q0 rfl #[.slice A0 l0.length c0, .int .i64 a1] rfl s5q2 ?_; (with_reducible refine (join_Hash.calls k _ _ l0 a1 t153 t154 _ ?side1 ?side2 ?side3 A3.out).mono ?_); (case side1 => repeat (first | exact HR0.out | (with_reducible refine Kd.C_alloc ?_ _) | (with_reducible refine Kd.C_drewN ?_ _) | (with_reducible refine Kd.C_drew ?_))); (case side2 => exact HC0.out); (case side3 => exact Glob_below HG.out s5q1); rintro e w17 ⟨rfl, hb⟩; refine ⟨_, rfl, ?_⟩; have n0_ := Aside0.mk (below_step s5q1 hb); clear HB; have HB := n0_; clear n0_; (try clear hb); (try clear hb2); (try clear hk); (try clear hi)) | ((with_reducible refine gate_callee (f := 5) rfl ?_); refine goesL_ (some 18) rfl rfl Tryd.func5 s5q0 rfl #[.slice A0 l0.length c0, .int .i64 a1] rfl s5q2 ?_; (with_reducible refine (peristyleref8_Hash.calls k _ _ l0 a1 t155 t156 _ ?side1 ?side2 ?side3 A4.out).mono ?_); (case side1 => repeat (first | exact (Kd.C_below HR0.out HB.out) | (with_reducible refine Kd.C_alloc ?_ _) | (with_reducible refine Kd.C_drewN ?_ _) | (with_reducible refine Kd.C_drew ?_))); (case side2 => exact HC0.out); (case side3 => exact Glob_below HG.out s5q1); rintro e w18 ⟨rfl, hb⟩; refine ⟨_, rfl, ?_⟩; have n0_ := Aside0.mk (below_step s5q1 hb); clear HB; have HB := n0_; clear n0_; (try clear hb); (try clear hb2); (try clear hk); (try clear hi)))
  go_ret
  exact ⟨by first | rfl | (simp [errW_none, errW_some] <;> rfl) | (simp [*, errW_none, errW_some] <;> rfl), by repeat (first | (with_reducible first | exact HB.out | apply below_alloc | apply pw_below_drewN | apply below_drew1) | exact HB.out)⟩
 rw [if_pos c6] at H
 have c6b0 : (t153 == t155) = true := beq_iff_eq.mpr c6
 have c6b1 : (t153 != t155) = false := bne_eq_false_iff_eq.mpr c6
 clear c6
 by_cases c7 : t153 ≥ 0
 case neg =>
  rw [if_neg c7] at H
  have c7b0 : decide (0 ≤ t153) = false := decide_eq_false c7
  clear c7
  obtain rfl := Option.some.inj H
  go_enter Tryd.func3, Tryd.ntmps3
  go_wp2_with (first | ((with_reducible refine gate_callee (f := 4) rfl ?_); refine goesL_ (some 12) rfl rfl Tryd.func4 s5q0 rfl #[.slice A0 l0.length c0, .int .i64 a1] rfl s5q2 ?_; (with_reducible refine (join_Hash.calls k _ _ l0 a1 t153 t154 _ ?side1 ?side2 ?side3 A3.out).mono ?_); (case side1 => repeat (first | exact HR0.out | (with_reducible refine Kd.C_alloc ?_ _) | (with_reducible refine Kd.C_drewN ?_ _) | (with_reducible refine Kd.C_drew ?_))); (case side2 => exact HC0.out); (case side3 => exact Glob_below HG.out s5q1); rintro e w15 ⟨rfl, hb⟩; refine ⟨_, rfl, ?_⟩; have n0_ := Aside0.mk (below_step s5q1 hb); clear HB; have HB := n0_; clear n0_; (try clear hb); (try clear hb2); (try clear hk); (try clear hi)) | ((with_reducible refine gate_callee (f := 5) rfl ?_); refine goesL_ (some 18) rfl rfl Tryd.func5 s5q0 rfl #[.slice A0 l0.length c0, .int .i64 a1] rfl s5q2 ?_; (with_reducible refine (peristyleref8_Hash.calls k _ _ l0 a1 t155 t156 _ ?side1 ?side2 ?side3 A4.out).mono ?_); (case side1 => repeat (first | exact (Kd.C_below HR0.out HB.out) | (with_reducible refine Kd.C_alloc ?_ _) | (with_reducible refine Kd.C_drewN ?_ _) | (with_reducible refine Kd.C_drew ?_))); (case side2 => exact HC0.out); (case side3 => exact Glob_below HG.out s5q1); rintro e w16 ⟨rfl, hb⟩; refine ⟨_, rfl, ?_⟩; have n0_ := Aside0.mk (below_step s5q1 hb); clear HB; have HB := n0_; clear n0_; (try clear hb); (try clear hb2); (try clear hk); (try clear hi)))
  go_ret
  exact ⟨by first | rfl | (simp [errW_none, errW_some] <;> rfl) | (simp [*, errW_none, errW_some] <;> rfl), by repeat (first | (with_reducible first | exact HB.out | apply below_alloc | apply pw_below_drewN | apply below_drew1) | exact HB.out)⟩
 rw [if_pos c7] at H
 have c7b0 : decide (0 ≤ t153) = true := decide_eq_true c7
 clear c7
 by_cases c8 : t153 < 4294967296
 case neg =>
  rw [if_neg c8] at H
  have c8b0 : decide (t153 < 4294967296) = false := decide_eq_false c8
  clear c8
  obtain rfl := Option.some.inj H
  go_enter Tryd.func3, Tryd.ntmps3
  go_wp2_with (first | ((with_reducible refine gate_callee (f := 4) rfl ?_); refine goesL_ (some 12) rfl rfl Tryd.func4 s5q0 rfl #[.slice A0 l0.length c0, .int .i64 a1] rfl s5q2 ?_; (with_reducible refine (join_Hash.calls k _ _ l0 a1 t153 t154 _ ?side1 ?side2 ?side3 A3.out).mono ?_); (case side1 => repeat (first | exact HR0.out | (with_reducible refine Kd.C_alloc ?_ _) | (with_reducible refine Kd.C_drewN ?_ _) | (with_reducible refine Kd.C_drew ?_))); (case side2 => exact HC0.out); (case side3 => exact Glob_below HG.out s5q1); rintro e w13 ⟨rfl, hb⟩; refine ⟨_, rfl, ?_⟩; have n0_ := Aside0.mk (below_step s5q1 hb); clear HB; have HB := n0_; clear n0_; (try clear hb); (try clear hb2); (try clear hk); (try clear hi)) | ((with_reducible refine gate_callee (f := 5) rfl ?_); refine goesL_ (some 18) rfl rfl Tryd.func5 s5q0 rfl #[.slice A0 l0.length c0, .int .i64 a1] rfl s5q2 ?_; (with_reducible refine (peristyleref8_Hash.calls k _ _ l0 a1 t155 t156 _ ?side1 ?side2 ?side3 A4.out).mono ?_); (case side1 => repeat (first | exact (Kd.C_below HR0.out HB.out) | (with_reducible refine Kd.C_alloc ?_ _) | (with_reducible refine Kd.C_drewN ?_ _) | (with_reducible refine Kd.C_drew ?_))); (case side2 => exact HC0.out); (case side3 => exact Glob_below HG.out s5q1); rintro e w14 ⟨rfl, hb⟩; refine ⟨_, rfl, ?_⟩; have n0_ := Aside0.mk (below_step s5q1 hb); clear HB; have HB := n0_; clear n0_; (try clear hb); (try clear hb2); (try clear hk); (try clear hi)))
  go_ret
  exact ⟨by first | rfl | (simp [errW_none, errW_some] <;> rfl) | (simp [*, errW_none, errW_some] <;> rfl), by repeat (first | (with_reducible first | exact HB.out | apply below_alloc | apply pw_below_drewN | apply below_drew1) | exact HB.out)⟩
 rw [if_pos c8] at H
 have c8b0 : decide (t153 < 4294967296) = true := decide_eq_true c8
 clear c8
 replace H := Option.bind_eq_some_iff.mp H
 obtain ⟨t157, A90, H⟩ := H
 replace H : (some t157) = some r := H
 have A9 := Aside0.mk A90
 clear A90
 obtain rfl := Option.some.inj H
 go_enter Tryd.func3, Tryd.ntmps3
 go_wp2_with (first | ((with_reducible refine gate_callee (f := 4) rfl ?_); refine goesL_ (some 12) rfl rfl Tryd.func4 s5q0 rfl #[.slice A0 l0.length c0, .int .i64 a1] rfl s5q2 ?_; (with_reducible refine (join_Hash.calls k _ _ l0 a1 t153 t154 _ ?side1 ?side2 ?side3 A3.out).mono ?_); (case side1 => repeat (first | exact HR0.out | (with_reducible refine Kd.C_alloc ?_ _) | (with_reducible refine Kd.C_drewN ?_ _) | (with_reducible refine Kd.C_drew ?_))); (case side2 => exact HC0.out); (case side3 => exact Glob_below HG.out s5q1); rintro e w10 ⟨rfl, hb⟩; refine ⟨_, rfl, ?_⟩; have n0_ := Aside0.mk (below_step s5q1 hb); clear HB; have HB := n0_; clear n0_; (try clear hb); (try clear hb2); (try clear hk); (try clear hi)) | ((with_reducible refine gate_callee (f := 5) rfl ?_); refine goesL_ (some 18) rfl rfl Tryd.func5 s5q0 rfl #[.slice A0 l0.length c0, .int .i64 a1] rfl s5q2 ?_; (with_reducible refine (peristyleref8_Hash.calls k _ _ l0 a1 t155 t156 _ ?side1 ?side2 ?side3 A4.out).mono ?_); (case side1 => repeat (first | exact (Kd.C_below HR0.out HB.out) | (with_reducible refine Kd.C_alloc ?_ _) | (with_reducible refine Kd.C_drewN ?_ _) | (with_reducible refine Kd.C_drew ?_))); (case side2 => exact HC0.out); (case side3 => exact Glob_below HG.out s5q1); rintro e w11 ⟨rfl, hb⟩; refine ⟨_, rfl, ?_⟩; have n0_ := Aside0.mk (below_step s5q1 hb); clear HB; have HB := n0_; clear n0_; (try clear hb); (try clear hb2); (try clear hk); (try clear hi)) | (go_at_call 6; (with_reducible refine (peristylelaw8_awake.calls k  t157 _ ?side1 A9.out).mono ?_); (case side1 => exact Glob_below HG.out s5q1); rintro e w12 ⟨rfl, hb⟩; have n0_ := Aside0.mk (below_step s5q1 hb); clear HB; have HB := n0_; clear n0_; (try clear hb); (try clear hb2); (try clear hk); (try clear hi)))
 go_ret
 exact ⟨by first | rfl | (simp [errW_none, errW_some] <;> rfl) | (simp [*, errW_none, errW_some] <;> rfl), by repeat (first | (with_reducible first | exact HB.out | apply below_alloc | apply pw_below_drewN | apply below_drew1) | exact HB.out)⟩
end Go.Proofs.YthdhdfolblhhgaaDoor.H
