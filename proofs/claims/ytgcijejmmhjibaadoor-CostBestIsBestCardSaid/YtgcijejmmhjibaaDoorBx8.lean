-- Printed by a program of this session (a patched print).
import Derived.Test.YtgcijejmmhjibaaDoorBx0
import Derived.Test.YtgcijejmmhjibaaDoorBx3
import Derived.Test.YtgcijejmmhjibaaDoorBx5
import Derived.Test.YtgcijejmmhjibaaDoorBx6
import Derived.Test.YtgcijejmmhjibaaDoorBx7
namespace Go.Proofs.YtgcijejmmhjibaaDoor.B
open Go.RowKit Go.Proofs.YtgcijejmmhjibaaDoorW.PrintWords Go.Proofs.YtgcijejmmhjibaaDoorW.PrintLast Go.Proofs.YtgcijejmmhjibaaDoorW.PrintMore
attribute [local go_sem] max2_int min2_int max_two min_two max_three min_three max_four min_four   -- for this text's walks alone
set_option linter.unusedVariables false
set_option linter.unusedSimpArgs false

theorem s8qm0 {p : Prop} (h : p := by repeat' first | (with_reducible exact ih0 _ _ _ _ _ _ _ _ _ _) | (with_reducible exact ih1 _ _ _ _ _) | (with_reducible exact cost_Best.mono _ _ _) | (with_reducible exact cost_BestLine.mono _ _ _) | (with_reducible exact cost_CostOf.mono _ _ _ _) | (with_reducible exact cost_Greedy.mono _ _ _) | (with_reducible exact peristylelaw10_awake.mono _) | (with_reducible exact LeO.refl _) | (with_reducible exact LeO.none _) | (with_reducible refine LeO.ite ?_ ?_) | (with_reducible refine LeO.bind ?_ (fun _ => ?_)) | exact ih0 _ _ _ _ _ _ _ _ _ _ | exact ih1 _ _ _ _ _ | exact cost_Best.mono _ _ _ | exact cost_BestLine.mono _ _ _ | exact cost_CostOf.mono _ _ _ _ | exact cost_Greedy.mono _ _ _ | exact peristylelaw10_awake.mono _ | exact LeO.none _ | refine LeO.ite ?_ ?_ | refine LeO.bind ?_ (fun _ => ?_)) : p := h
theorem s8q0 {p : Prop} (h : p := by kernel_rfl) : p := h
theorem s8q1 {p : Prop} (h : p := by first | rfl | (simp; done) | (simp [*]; done)) : p := h
theorem s8q2 {p : Prop} (h : p := by (with_reducible repeat (first | apply Kd.R_alloc | apply Kd.R_drewN | apply Kd.R_drew)); exact HO_7.out) : p := h
theorem s8q3 {p : Prop} (h : p := by (with_reducible repeat (first | apply Kd.R_alloc | apply Kd.R_drewN | apply Kd.R_drew)); exact HO251.out) : p := h
theorem s8q4 {p : Prop} (h : p := by (with_reducible repeat (first | apply Kd.R_alloc | apply Kd.R_drewN | apply Kd.R_drew)); exact HO257.out) : p := h
theorem s8q5 {p : Prop} (h : p := by (with_reducible repeat (first | apply Kd.R_alloc | apply Kd.R_drewN | apply Kd.R_drew)); exact HO_10.out) : p := h
theorem s8q6 {p : Prop} (h : p := by (with_reducible repeat (first | apply Kd.V_alloc | apply Kd.V_drewN | apply Kd.V_drew)); exact HO_12.out) : p := h
theorem s8q7 {p : Prop} (h : p := by repeat (first | (with_reducible first | exact HB.out | apply below_alloc | apply pw_below_drewN | apply below_drew1) | exact HB.out)) : p := h
theorem s8q8 {p : Prop} (h : p := by (try simp only [List.map_toArray, List.map_cons, List.map_nil]); first | done | rfl | (simp only [List.length_drop, List.length_take]; rfl)) : p := h
theorem s8q9 {p : Prop} (h : p := by rw [if_neg (show ¬ (false = true) by decide)] at H; exact H) : p := h
/-! ### peristylelaw10_CostBestIsBest: function 5 -/
mutual
def peristylelaw10_CostBestIsBest.j0 : Nat → List Int → List (S75) → List Int → List Int → Int → List Int → Int → List Int → Int → Bool → Option (Bool)
  | 0, _, _, _, _, _, _, _, _, _, _ => none
  | k + 1, x0, x1, x2, x7, x8, x10, x11, x12, x13, x68 => if x68 = true then (some false) else ((cost_CostOf.f k x0 x1 x7).bind fun bt263 => ((cost_CostOf.f k x0 x1 x10).bind fun bt265 => ((cost_CostOf.f k x0 x1 x12).bind fun bt267 => (if bt263.2 = 0 then (if bt265.2 = 0 then (if bt267.2 = 0 then (if bt263.1 = x8 then (if bt265.1 = x11 then (peristylelaw10_CostBestIsBest.j1 k x0 x1 x2 x8 (bt267.1 != x13)) else (peristylelaw10_CostBestIsBest.j1 k x0 x1 x2 x8 true)) else (peristylelaw10_CostBestIsBest.j1 k x0 x1 x2 x8 true)) else (peristylelaw10_CostBestIsBest.j1 k x0 x1 x2 x8 true)) else (peristylelaw10_CostBestIsBest.j1 k x0 x1 x2 x8 true)) else (peristylelaw10_CostBestIsBest.j1 k x0 x1 x2 x8 true)))))
def peristylelaw10_CostBestIsBest.j1 : Nat → List Int → List (S75) → List Int → Int → Bool → Option (Bool)
  | 0, _, _, _, _, _ => none
  | k + 1, x0, x1, x2, x8, x114 => if x114 = true then (some false) else ((cost_CostOf.f k x0 x1 x2).bind fun bt269 => (if bt269.2 = 0 then (if bt269.1 ≥ x8 then ((peristylelaw10_awake.f k).bind fun t271 => (some t271)) else (some false)) else ((peristylelaw10_awake.f k).bind fun t272 => (some t272))))
end
def peristylelaw10_CostBestIsBest.f (k : Nat) (l0 : List Int) (l1 : List (S75)) (l2 : List Int) : Option (Bool) := (cost_Best.f k l0 l1).bind fun bt247 => (if bt247.2.2 = 0 then ((cost_BestLine.f k l0 l1).bind fun bt253 => ((cost_Greedy.f k l0 l1).bind fun bt258 => (if bt253.2.2 = 0 then (if bt258.2.2 = 0 then (if bt247.2.1 > bt253.2.1 then (peristylelaw10_CostBestIsBest.j0 k l0 l1 l2 bt247.1 bt247.2.1 bt253.1 bt253.2.1 bt258.1 bt258.2.1 true) else (peristylelaw10_CostBestIsBest.j0 k l0 l1 l2 bt247.1 bt247.2.1 bt253.1 bt253.2.1 bt258.1 bt258.2.1 (decide (bt247.2.1 > bt258.2.1)))) else (peristylelaw10_CostBestIsBest.j0 k l0 l1 l2 bt247.1 bt247.2.1 bt253.1 bt253.2.1 bt258.1 bt258.2.1 true)) else (peristylelaw10_CostBestIsBest.j0 k l0 l1 l2 bt247.1 bt247.2.1 bt253.1 bt253.2.1 bt258.1 bt258.2.1 true)))) else (if (bt247.1.length : Int) = 0 then (if bt247.2.1 = 0 then ((peristylelaw10_awake.f k).bind fun t252 => (some t252)) else (some false)) else (some false)))
theorem peristylelaw10_CostBestIsBest.mono_l : ∀ k, (∀ y0 y1 y2 y3 y4 y5 y6 y7 y8 y9, LeO (peristylelaw10_CostBestIsBest.j0 k y0 y1 y2 y3 y4 y5 y6 y7 y8 y9) (peristylelaw10_CostBestIsBest.j0 (k + 1) y0 y1 y2 y3 y4 y5 y6 y7 y8 y9)) ∧ (∀ y0 y1 y2 y3 y4, LeO (peristylelaw10_CostBestIsBest.j1 k y0 y1 y2 y3 y4) (peristylelaw10_CostBestIsBest.j1 (k + 1) y0 y1 y2 y3 y4))
  | 0 => ⟨fun _ _ _ _ _ _ _ _ _ _ r h => by simp [peristylelaw10_CostBestIsBest.j0] at h, fun _ _ _ _ _ r h => by simp [peristylelaw10_CostBestIsBest.j1] at h⟩
  | k + 1 => by
    obtain ⟨ih0, ih1⟩ := peristylelaw10_CostBestIsBest.mono_l k
    refine ⟨?_, ?_⟩
    · intro y0 y1 y2 y3 y4 y5 y6 y7 y8 y9
      unfold peristylelaw10_CostBestIsBest.j0
      exact s8qm0
    · intro y0 y1 y2 y3 y4
      unfold peristylelaw10_CostBestIsBest.j1
      exact s8qm0
theorem peristylelaw10_CostBestIsBest.mono : ∀ a0 a1 a2 k, LeO (peristylelaw10_CostBestIsBest.f k a0 a1 a2) (peristylelaw10_CostBestIsBest.f (k + 1) a0 a1 a2) := by
 intro a0 a1 a2 k
 obtain ⟨ih0, ih1⟩ := peristylelaw10_CostBestIsBest.mono_l k
 unfold peristylelaw10_CostBestIsBest.f
 repeat' first
  | (with_reducible exact ih0 _ _ _ _ _ _ _ _ _ _)
  | (with_reducible exact ih1 _ _ _ _ _)
  | (with_reducible exact cost_Best.mono _ _ _)
  | (with_reducible exact cost_BestLine.mono _ _ _)
  | (with_reducible exact cost_CostOf.mono _ _ _ _)
  | (with_reducible exact cost_Greedy.mono _ _ _)
  | (with_reducible exact peristylelaw10_awake.mono _)
  | (with_reducible exact LeO.refl _)
  | (with_reducible exact LeO.none _)
  | (with_reducible refine LeO.ite ?_ ?_)
  | (with_reducible refine LeO.bind ?_ (fun _ => ?_))
  | exact ih0 _ _ _ _ _ _ _ _ _ _
  | exact ih1 _ _ _ _ _
  | exact cost_Best.mono _ _ _
  | exact cost_BestLine.mono _ _ _
  | exact cost_CostOf.mono _ _ _ _
  | exact cost_Greedy.mono _ _ _
  | exact peristylelaw10_awake.mono _
  | exact LeO.none _
  | refine LeO.ite ?_ ?_
  | refine LeO.bind ?_ (fun _ => ?_)
set_option maxHeartbeats 8000000 in
set_option maxRecDepth 100000 in
theorem peristylelaw10_CostBestIsBest.calls (k : Nat) (A0 : Option Addr) (c0 : Nat) (l0 : List Int) (A1 : Option Addr) (c1 : Nat) (l1 : List (S75)) (A2 : Option Addr) (c2 : Nat) (l2 : List Int) (r : Bool) (w : World) (hr0 : Kd.C (Kd.int .i64) w A0 l0.length l0) (hc0 : l0.length ≤ c0) (hr1 : Kd.C k75 w A1 l1.length l1) (hc1 : l1.length ≤ c1) (hr2 : Kd.C (Kd.int .i64) w A2 l2.length l2) (hc2 : l2.length ≤ c2) (hG : Glob w) (h : peristylelaw10_CostBestIsBest.f k l0 l1 l2 = some r) :
    Calls Tryd.prog 5 #[.slice A0 l0.length c0, .slice A1 l1.length c1, .slice A2 l2.length c2] w fun e w' => e = .returned (.bool r) ∧ Below w.heap.size w w' := by
 have HG := Aside0.mk hG
 clear hG
 have HR0 := Aside0.mk hr0
 have HC0 := Aside0.mk hc0
 clear hr0 hc0
 have HR1 := Aside0.mk hr1
 have HC1 := Aside0.mk hc1
 clear hr1 hc1
 have HR2 := Aside0.mk hr2
 have HC2 := Aside0.mk hc2
 clear hr2 hc2
 have HB := Aside0.mk (Below.refl w.heap.size w)
 have H : ((cost_Best.f k l0 l1).bind fun bt247 => (if bt247.2.2 = 0 then ((cost_BestLine.f k l0 l1).bind fun bt253 => ((cost_Greedy.f k l0 l1).bind fun bt258 => (if bt253.2.2 = 0 then (if bt258.2.2 = 0 then (if bt247.2.1 > bt253.2.1 then (peristylelaw10_CostBestIsBest.j0 k l0 l1 l2 bt247.1 bt247.2.1 bt253.1 bt253.2.1 bt258.1 bt258.2.1 true) else (peristylelaw10_CostBestIsBest.j0 k l0 l1 l2 bt247.1 bt247.2.1 bt253.1 bt253.2.1 bt258.1 bt258.2.1 (decide (bt247.2.1 > bt258.2.1)))) else (peristylelaw10_CostBestIsBest.j0 k l0 l1 l2 bt247.1 bt247.2.1 bt253.1 bt253.2.1 bt258.1 bt258.2.1 true)) else (peristylelaw10_CostBestIsBest.j0 k l0 l1 l2 bt247.1 bt247.2.1 bt253.1 bt253.2.1 bt258.1 bt258.2.1 true)))) else (if (bt247.1.length : Int) = 0 then (if bt247.2.1 = 0 then ((peristylelaw10_awake.f k).bind fun t252 => (some t252)) else (some false)) else (some false)))) = some r := h
 clear h
 replace H := Option.bind_eq_some_iff.mp H
 obtain ⟨⟨t247, t248, t249⟩, A40, H⟩ := H
 replace H : (if t249 = 0 then ((cost_BestLine.f k l0 l1).bind fun bt253 => ((cost_Greedy.f k l0 l1).bind fun bt258 => (if bt253.2.2 = 0 then (if bt258.2.2 = 0 then (if t248 > bt253.2.1 then (peristylelaw10_CostBestIsBest.j0 k l0 l1 l2 t247 t248 bt253.1 bt253.2.1 bt258.1 bt258.2.1 true) else (peristylelaw10_CostBestIsBest.j0 k l0 l1 l2 t247 t248 bt253.1 bt253.2.1 bt258.1 bt258.2.1 (decide (t248 > bt258.2.1)))) else (peristylelaw10_CostBestIsBest.j0 k l0 l1 l2 t247 t248 bt253.1 bt253.2.1 bt258.1 bt258.2.1 true)) else (peristylelaw10_CostBestIsBest.j0 k l0 l1 l2 t247 t248 bt253.1 bt253.2.1 bt258.1 bt258.2.1 true)))) else (if (t247.length : Int) = 0 then (if t248 = 0 then ((peristylelaw10_awake.f k).bind fun t252 => (some t252)) else (some false)) else (some false))) = some r := H
 have A4 := Aside0.mk A40
 clear A40
 by_cases c5 : t249 = 0
 case neg =>
  rw [if_neg c5] at H
  have c5b0 : (t249 == 0) = false := beq_eq_false_iff_ne.mpr c5
  have c5b1 : (t249 != 0) = true := bne_iff_ne.mpr c5
  by_cases c42 : (t247.length : Int) = 0
  case neg =>
   rw [if_neg c42] at H
   have c42b0 : ((t247.length : Int) == 0) = false := beq_eq_false_iff_ne.mpr c42
   have c42b1 : ((t247.length : Int) != 0) = true := bne_iff_ne.mpr c42
   have c42b2 : ¬ (t247 = []) := fun h_ => c42 (by rw [h_]; rfl)
   obtain rfl := Option.some.inj H
   go_enter Tryd.func5, Tryd.ntmps5
   go_wp2_with (first | ((with_reducible refine gate_callee (f := 17) rfl ?_); refine goesL_ (some 23) rfl rfl Tryd.func17 s8q0 rfl #[.slice A0 l0.length c0, .slice A1 l1.length c1] rfl s8q8 ?_; (with_reducible refine (cost_Best.calls k _ _ l0 _ _ l1 t247 t248 t249 _ ?side1 ?side2 ?side3 ?side4 ?side5 A4.out).mono ?_); (case side1 => repeat (first | exact HR0.out | (with_reducible refine Kd.C_alloc ?_ _) | (with_reducible refine Kd.C_drewN ?_ _) | (with_reducible refine Kd.C_drew ?_))); (case side2 => exact HC0.out); (case side3 => repeat (first | exact HR1.out | (with_reducible refine Kd.C_alloc ?_ _) | (with_reducible refine Kd.C_drewN ?_ _) | (with_reducible refine Kd.C_drew ?_))); (case side4 => exact HC1.out); (case side5 => exact Glob_below HG.out s8q7); rintro e w50 ⟨v250, rfl, ho0, hb⟩; refine ⟨_, rfl, ?_⟩; have n0_ := Aside0.mk (Kd.R_lower ho0 (below_size s8q7)); have n1_ := Aside0.mk (below_step s8q7 hb); clear HB; have HO251 := n0_; have HB := n1_; clear n0_ n1_; (try clear hb); (try clear hb2); (try clear hk); (try clear hi); (try clear ho0); obtain ⟨Ao51, co51, eo51⟩ := Kd.R_slice HO251.out; subst eo51))
   go_ret
   exact ⟨by first | rfl | (simp [errW_none, errW_some] <;> rfl) | (simp [*, errW_none, errW_some] <;> rfl), by repeat (first | (with_reducible first | exact HB.out | apply below_alloc | apply pw_below_drewN | apply below_drew1) | exact HB.out)⟩
  rw [if_pos c42] at H
  have c42b0 : ((t247.length : Int) == 0) = true := beq_iff_eq.mpr c42
  have c42b1 : ((t247.length : Int) != 0) = false := bne_eq_false_iff_eq.mpr c42
  clear c42
  by_cases c43 : t248 = 0
  case neg =>
   rw [if_neg c43] at H
   have c43b0 : (t248 == 0) = false := beq_eq_false_iff_ne.mpr c43
   have c43b1 : (t248 != 0) = true := bne_iff_ne.mpr c43
   obtain rfl := Option.some.inj H
   go_enter Tryd.func5, Tryd.ntmps5
   go_wp2_with (first | ((with_reducible refine gate_callee (f := 17) rfl ?_); refine goesL_ (some 23) rfl rfl Tryd.func17 s8q0 rfl #[.slice A0 l0.length c0, .slice A1 l1.length c1] rfl s8q8 ?_; (with_reducible refine (cost_Best.calls k _ _ l0 _ _ l1 t247 t248 t249 _ ?side1 ?side2 ?side3 ?side4 ?side5 A4.out).mono ?_); (case side1 => repeat (first | exact HR0.out | (with_reducible refine Kd.C_alloc ?_ _) | (with_reducible refine Kd.C_drewN ?_ _) | (with_reducible refine Kd.C_drew ?_))); (case side2 => exact HC0.out); (case side3 => repeat (first | exact HR1.out | (with_reducible refine Kd.C_alloc ?_ _) | (with_reducible refine Kd.C_drewN ?_ _) | (with_reducible refine Kd.C_drew ?_))); (case side4 => exact HC1.out); (case side5 => exact Glob_below HG.out s8q7); rintro e w48 ⟨v250, rfl, ho0, hb⟩; refine ⟨_, rfl, ?_⟩; have n0_ := Aside0.mk (Kd.R_lower ho0 (below_size s8q7)); have n1_ := Aside0.mk (below_step s8q7 hb); clear HB; have HO251 := n0_; have HB := n1_; clear n0_ n1_; (try clear hb); (try clear hb2); (try clear hk); (try clear hi); (try clear ho0); obtain ⟨Ao49, co49, eo49⟩ := Kd.R_slice HO251.out; subst eo49))
   go_ret
   exact ⟨by first | rfl | (simp [errW_none, errW_some] <;> rfl) | (simp [*, errW_none, errW_some] <;> rfl), by repeat (first | (with_reducible first | exact HB.out | apply below_alloc | apply pw_below_drewN | apply below_drew1) | exact HB.out)⟩
  rw [if_pos c43] at H
  have c43b0 : (t248 == 0) = true := beq_iff_eq.mpr c43
  have c43b1 : (t248 != 0) = false := bne_eq_false_iff_eq.mpr c43
  clear c43
  replace H := Option.bind_eq_some_iff.mp H
  obtain ⟨t252, A440, H⟩ := H
  replace H : (some t252) = some r := H
  have A44 := Aside0.mk A440
  clear A440
  obtain rfl := Option.some.inj H
  go_enter Tryd.func5, Tryd.ntmps5
  go_wp2_with (first | ((with_reducible refine gate_callee (f := 17) rfl ?_); refine goesL_ (some 23) rfl rfl Tryd.func17 s8q0 rfl #[.slice A0 l0.length c0, .slice A1 l1.length c1] rfl s8q8 ?_; (with_reducible refine (cost_Best.calls k _ _ l0 _ _ l1 t247 t248 t249 _ ?side1 ?side2 ?side3 ?side4 ?side5 A4.out).mono ?_); (case side1 => repeat (first | exact HR0.out | (with_reducible refine Kd.C_alloc ?_ _) | (with_reducible refine Kd.C_drewN ?_ _) | (with_reducible refine Kd.C_drew ?_))); (case side2 => exact HC0.out); (case side3 => repeat (first | exact HR1.out | (with_reducible refine Kd.C_alloc ?_ _) | (with_reducible refine Kd.C_drewN ?_ _) | (with_reducible refine Kd.C_drew ?_))); (case side4 => exact HC1.out); (case side5 => exact Glob_below HG.out s8q7); rintro e w45 ⟨v250, rfl, ho0, hb⟩; refine ⟨_, rfl, ?_⟩; have n0_ := Aside0.mk (Kd.R_lower ho0 (below_size s8q7)); have n1_ := Aside0.mk (below_step s8q7 hb); clear HB; have HO251 := n0_; have HB := n1_; clear n0_ n1_; (try clear hb); (try clear hb2); (try clear hk); (try clear hi); (try clear ho0); obtain ⟨Ao46, co46, eo46⟩ := Kd.R_slice HO251.out; subst eo46) | (go_at_call 16; (with_reducible refine (peristylelaw10_awake.calls k  t252 _ ?side1 A44.out).mono ?_); (case side1 => exact Glob_below HG.out s8q7); rintro e w47 ⟨rfl, hb⟩; have n0_ := Aside0.mk (Kd.R_below s8q3 hb); have n1_ := Aside0.mk (below_step s8q7 hb); clear HO251; clear HB; have HO251 := n0_; have HB := n1_; clear n0_ n1_; (try clear hb); (try clear hb2); (try clear hk); (try clear hi)))
  go_ret
  exact ⟨by first | rfl | (simp [errW_none, errW_some] <;> rfl) | (simp [*, errW_none, errW_some] <;> rfl), by repeat (first | (with_reducible first | exact HB.out | apply below_alloc | apply pw_below_drewN | apply below_drew1) | exact HB.out)⟩
 rw [if_pos c5] at H
 have c5b0 : (t249 == 0) = true := beq_iff_eq.mpr c5
 have c5b1 : (t249 != 0) = false := bne_eq_false_iff_eq.mpr c5
 clear c5
 replace H := Option.bind_eq_some_iff.mp H
 obtain ⟨⟨t253, t254, t255⟩, A60, H⟩ := H
 replace H : ((cost_Greedy.f k l0 l1).bind fun bt258 => (if t255 = 0 then (if bt258.2.2 = 0 then (if t248 > t254 then (peristylelaw10_CostBestIsBest.j0 k l0 l1 l2 t247 t248 t253 t254 bt258.1 bt258.2.1 true) else (peristylelaw10_CostBestIsBest.j0 k l0 l1 l2 t247 t248 t253 t254 bt258.1 bt258.2.1 (decide (t248 > bt258.2.1)))) else (peristylelaw10_CostBestIsBest.j0 k l0 l1 l2 t247 t248 t253 t254 bt258.1 bt258.2.1 true)) else (peristylelaw10_CostBestIsBest.j0 k l0 l1 l2 t247 t248 t253 t254 bt258.1 bt258.2.1 true))) = some r := H
 have A6 := Aside0.mk A60
 clear A60
 replace H := Option.bind_eq_some_iff.mp H
 obtain ⟨⟨t258, t261, t262⟩, A70, H⟩ := H
 replace H : (if t255 = 0 then (if t262 = 0 then (if t248 > t254 then (peristylelaw10_CostBestIsBest.j0 k l0 l1 l2 t247 t248 t253 t254 t258 t261 true) else (peristylelaw10_CostBestIsBest.j0 k l0 l1 l2 t247 t248 t253 t254 t258 t261 (decide (t248 > t261)))) else (peristylelaw10_CostBestIsBest.j0 k l0 l1 l2 t247 t248 t253 t254 t258 t261 true)) else (peristylelaw10_CostBestIsBest.j0 k l0 l1 l2 t247 t248 t253 t254 t258 t261 true)) = some r := H
 have A7 := Aside0.mk A70
 clear A70
 have HC8 := Aside0.mk H
 clear H
 go_enter Tryd.func5, Tryd.ntmps5
 go_upto_region 6 with (first | ((with_reducible refine gate_callee (f := 17) rfl ?_); refine goesL_ (some 23) rfl rfl Tryd.func17 s8q0 rfl #[.slice A0 l0.length c0, .slice A1 l1.length c1] rfl s8q8 ?_; (with_reducible refine (cost_Best.calls k _ _ l0 _ _ l1 t247 t248 t249 _ ?side1 ?side2 ?side3 ?side4 ?side5 A4.out).mono ?_); (case side1 => repeat (first | exact HR0.out | (with_reducible refine Kd.C_alloc ?_ _) | (with_reducible refine Kd.C_drewN ?_ _) | (with_reducible refine Kd.C_drew ?_))); (case side2 => exact HC0.out); (case side3 => repeat (first | exact HR1.out | (with_reducible refine Kd.C_alloc ?_ _) | (with_reducible refine Kd.C_drewN ?_ _) | (with_reducible refine Kd.C_drew ?_))); (case side4 => exact HC1.out); (case side5 => exact Glob_below HG.out s8q7); rintro e w9 ⟨v250, rfl, ho0, hb⟩; refine ⟨_, rfl, ?_⟩; have n0_ := Aside0.mk (Kd.R_lower ho0 (below_size s8q7)); have n1_ := Aside0.mk (below_step s8q7 hb); clear HB; have HO251 := n0_; have HB := n1_; clear n0_ n1_; (try clear hb); (try clear hb2); (try clear hk); (try clear hi); (try clear ho0)) | ((with_reducible refine gate_callee (f := 20) rfl ?_); refine goesL_ (some 42) rfl rfl Tryd.func20 s8q0 rfl #[.slice A0 l0.length c0, .slice A1 l1.length c1] rfl s8q8 ?_; (with_reducible refine (cost_BestLine.calls k _ _ l0 _ _ l1 t253 t254 t255 _ ?side1 ?side2 ?side3 ?side4 ?side5 A6.out).mono ?_); (case side1 => repeat (first | exact (Kd.C_below HR0.out HB.out) | (with_reducible refine Kd.C_alloc ?_ _) | (with_reducible refine Kd.C_drewN ?_ _) | (with_reducible refine Kd.C_drew ?_))); (case side2 => exact HC0.out); (case side3 => repeat (first | exact (Kd.C_below HR1.out HB.out) | (with_reducible refine Kd.C_alloc ?_ _) | (with_reducible refine Kd.C_drewN ?_ _) | (with_reducible refine Kd.C_drew ?_))); (case side4 => exact HC1.out); (case side5 => exact Glob_below HG.out s8q7); rintro e w10 ⟨v256, rfl, ho0, hb⟩; refine ⟨_, rfl, ?_⟩; have n0_ := Aside0.mk (Kd.R_elder' s8q3 (Kd.R_base ho0) hb); have n1_ := Aside0.mk (Kd.R_lower (Kd.R_new' ho0 (Kd.R_lt s8q3)) (below_size s8q7)); have n2_ := Aside0.mk (below_step s8q7 hb); clear HO251; clear HB; have HO251 := n0_; have HO257 := n1_; have HB := n2_; clear n0_ n1_ n2_; (try clear hb); (try clear hb2); (try clear hk); (try clear hi); (try clear ho0)) | ((with_reducible refine gate_callee (f := 22) rfl ?_); refine goesL_ (some 49) rfl rfl Tryd.func22 s8q0 rfl #[.slice A0 l0.length c0, .slice A1 l1.length c1] rfl s8q8 ?_; (with_reducible refine (cost_Greedy.calls k _ _ l0 _ _ l1 t258 t261 t262 _ ?side1 ?side2 ?side3 ?side4 A7.out).mono ?_); (case side1 => repeat (first | exact (Kd.C_below HR0.out HB.out) | (with_reducible refine Kd.C_alloc ?_ _) | (with_reducible refine Kd.C_drewN ?_ _) | (with_reducible refine Kd.C_drew ?_))); (case side2 => exact HC0.out); (case side3 => repeat (first | exact (Kd.C_below HR1.out HB.out) | (with_reducible refine Kd.C_alloc ?_ _) | (with_reducible refine Kd.C_drewN ?_ _) | (with_reducible refine Kd.C_drew ?_))); (case side4 => exact HC1.out); rintro e w11 ⟨v259, rfl, ho0, hb⟩; refine ⟨_, rfl, ?_⟩; have n0_ := Aside0.mk (Kd.R_below s8q3 hb); have n1_ := Aside0.mk (Kd.R_below s8q4 hb); have n2_ := Aside0.mk (Kd.V_lower (Kd.V_mono (ok' := fun k_ => some k_ ≠ (v250 : Value).ownBlock ∧ some k_ ≠ (v256 : Value).ownBlock) ho0 (fun k_ hk_ => ⟨(Kd.fresh' (Kd.R_lt s8q3) k_ hk_), (Kd.fresh' (Kd.R_lt s8q4) k_ hk_)⟩)) (below_size s8q7)); have n3_ := Aside0.mk (below_step s8q7 hb); clear HO251; clear HO257; clear HB; have HO251 := n0_; have HO257 := n1_; have HO260 := n2_; have HB := n3_; clear n0_ n1_ n2_ n3_; (try clear hb); (try clear hb2); (try clear hk); (try clear hi); (try clear ho0)))
 (try simp only [Act.put, sqa, sqb, sqc])
 go_cut [68] (fun v68 wc => ∃ (kq : Nat) (x68_7 : Bool), v68 = .bool x68_7 ∧ Aside0 (peristylelaw10_CostBestIsBest.j0 kq l0 l1 l2 t247 t248 t253 t254 t258 t261 x68_7 = some r) ∧ Aside0 (kq ≤ k) ∧ Aside0 (Kd.R (Kd.int .i64) 3 wc w.heap.size (fun k_ => some k_ ≠ (v256 : Value).ownBlock) v250 t247) ∧ Aside0 (Kd.R (Kd.int .i64) 3 wc w.heap.size (fun k_ => some k_ ≠ (v250 : Value).ownBlock) v256 t253) ∧ Aside0 (Kd.V (Kd.int .i64) 3 wc w.heap.size (fun k_ => some k_ ≠ (v250 : Value).ownBlock ∧ some k_ ≠ (v256 : Value).ownBlock) v259 t258) ∧ Aside0 (Below w.heap.size w wc))
 case first =>
  have H := HC8.out
  clear HC8
  by_cases c12 : t255 = 0
  case neg =>
   rw [if_neg c12] at H
   have c12b0 : (t255 == 0) = false := beq_eq_false_iff_ne.mpr c12
   have c12b1 : (t255 != 0) = true := bne_iff_ne.mpr c12
   (first | rw [c12b0] | (simp only [i64_w, i32_w]; rw [c12b0]) | skip)
   have H' := Aside0.mk H
   clear H
   go_wp2
   go_meet
   case rel => exact ⟨_, (true), s8q1, H', ⟨by first | omega | exact Nat.le_refl _⟩, ⟨by (with_reducible repeat (first | apply Kd.R_alloc | apply Kd.R_drewN | apply Kd.R_drew)); exact Kd.R_mono HO251.out (fun _ hk => hk.2)⟩, ⟨by (with_reducible repeat (first | apply Kd.R_alloc | apply Kd.R_drewN | apply Kd.R_drew)); exact Kd.R_mono HO257.out (fun _ hk => hk.2)⟩, ⟨by (with_reducible repeat (first | apply Kd.V_alloc | apply Kd.V_drewN | apply Kd.V_drew)); exact HO260.out⟩, ⟨by repeat (first | (with_reducible first | exact HB.out | apply below_alloc | apply pw_below_drewN | apply below_drew1) | exact HB.out)⟩⟩
  rw [if_pos c12] at H
  have c12b0 : (t255 == 0) = true := beq_iff_eq.mpr c12
  have c12b1 : (t255 != 0) = false := bne_eq_false_iff_eq.mpr c12
  clear c12
  (first | rw [c12b0] | (simp only [i64_w, i32_w]; rw [c12b0]) | skip)
  by_cases c13 : t262 = 0
  case neg =>
   rw [if_neg c13] at H
   have c13b0 : (t262 == 0) = false := beq_eq_false_iff_ne.mpr c13
   have c13b1 : (t262 != 0) = true := bne_iff_ne.mpr c13
   have H' := Aside0.mk H
   clear H
   go_wp2
   go_meet
   case rel => exact ⟨_, (true), s8q1, H', ⟨by first | omega | exact Nat.le_refl _⟩, ⟨by (with_reducible repeat (first | apply Kd.R_alloc | apply Kd.R_drewN | apply Kd.R_drew)); exact Kd.R_mono HO251.out (fun _ hk => hk.2)⟩, ⟨by (with_reducible repeat (first | apply Kd.R_alloc | apply Kd.R_drewN | apply Kd.R_drew)); exact Kd.R_mono HO257.out (fun _ hk => hk.2)⟩, ⟨by (with_reducible repeat (first | apply Kd.V_alloc | apply Kd.V_drewN | apply Kd.V_drew)); exact HO260.out⟩, ⟨by repeat (first | (with_reducible first | exact HB.out | apply below_alloc | apply pw_below_drewN | apply below_drew1) | exact HB.out)⟩⟩
  rw [if_pos c13] at H
  have c13b0 : (t262 == 0) = true := beq_iff_eq.mpr c13
  have c13b1 : (t262 != 0) = false := bne_eq_false_iff_eq.mpr c13
  clear c13
  by_cases c14 : t248 > t254
  · rw [if_pos c14] at H
    have c14b0 : decide (t254 < t248) = true := decide_eq_true c14
    clear c14
    have H' := Aside0.mk H
    clear H
    go_wp2
    go_meet
    case rel => exact ⟨_, (true), s8q1, H', ⟨by first | omega | exact Nat.le_refl _⟩, ⟨by (with_reducible repeat (first | apply Kd.R_alloc | apply Kd.R_drewN | apply Kd.R_drew)); exact Kd.R_mono HO251.out (fun _ hk => hk.2)⟩, ⟨by (with_reducible repeat (first | apply Kd.R_alloc | apply Kd.R_drewN | apply Kd.R_drew)); exact Kd.R_mono HO257.out (fun _ hk => hk.2)⟩, ⟨by (with_reducible repeat (first | apply Kd.V_alloc | apply Kd.V_drewN | apply Kd.V_drew)); exact HO260.out⟩, ⟨by repeat (first | (with_reducible first | exact HB.out | apply below_alloc | apply pw_below_drewN | apply below_drew1) | exact HB.out)⟩⟩
  rw [if_neg c14] at H
  have c14b0 : decide (t254 < t248) = false := decide_eq_false c14
  clear c14
  have H' := Aside0.mk H
  clear H
  go_wp2
  go_meet
  case rel => exact ⟨_, (decide (t248 > t261)), s8q1, H', ⟨by first | omega | exact Nat.le_refl _⟩, ⟨by (with_reducible repeat (first | apply Kd.R_alloc | apply Kd.R_drewN | apply Kd.R_drew)); exact Kd.R_mono HO251.out (fun _ hk => hk.2)⟩, ⟨by (with_reducible repeat (first | apply Kd.R_alloc | apply Kd.R_drewN | apply Kd.R_drew)); exact Kd.R_mono HO257.out (fun _ hk => hk.2)⟩, ⟨by (with_reducible repeat (first | apply Kd.V_alloc | apply Kd.V_drewN | apply Kd.V_drew)); exact HO260.out⟩, ⟨by repeat (first | (with_reducible first | exact HB.out | apply below_alloc | apply pw_below_drewN | apply below_drew1) | exact HB.out)⟩⟩
 clear HC8
 try clear c1
 try clear c2
 try clear p2
 try clear c5
 try clear c5b0
 try clear c5b1
 try clear c12
 try clear c12b0
 try clear c12b1
 try clear c13
 try clear c13b0
 try clear c13b1
 try clear c14
 try clear c14b0
 obtain ⟨kq, x68_7, rfl, HA, HJ7, HO_7, HO_10, HO_12, HB⟩ := hcut
 cases kq with
 | zero => exact absurd HA.out (by simp [peristylelaw10_CostBestIsBest.j0])
 | succ kj7 => ?_
 have H := HA.out
 clear HA
 simp only [peristylelaw10_CostBestIsBest.j0] at H
 by_cases c15 : x68_7 = true
 · subst c15
   have H1 : (some false) = some r := by rw [if_pos rfl] at H; exact H
   clear H
   have H := H1
   clear H1
   obtain rfl := Option.some.inj H
   go_wp2
   go_ret
   exact ⟨by first | rfl | (simp [errW_none, errW_some] <;> rfl) | (simp [*, errW_none, errW_some] <;> rfl), by repeat (first | (with_reducible first | exact HB.out | apply below_alloc | apply pw_below_drewN | apply below_drew1) | exact HB.out)⟩
 replace c15 := Bool.eq_false_iff.mpr c15
 subst c15
 have H1 : ((cost_CostOf.f kj7 l0 l1 t247).bind fun bt263 => ((cost_CostOf.f kj7 l0 l1 t253).bind fun bt265 => ((cost_CostOf.f kj7 l0 l1 t258).bind fun bt267 => (if bt263.2 = 0 then (if bt265.2 = 0 then (if bt267.2 = 0 then (if bt263.1 = t248 then (if bt265.1 = t254 then (peristylelaw10_CostBestIsBest.j1 kj7 l0 l1 l2 t248 (bt267.1 != t261)) else (peristylelaw10_CostBestIsBest.j1 kj7 l0 l1 l2 t248 true)) else (peristylelaw10_CostBestIsBest.j1 kj7 l0 l1 l2 t248 true)) else (peristylelaw10_CostBestIsBest.j1 kj7 l0 l1 l2 t248 true)) else (peristylelaw10_CostBestIsBest.j1 kj7 l0 l1 l2 t248 true)) else (peristylelaw10_CostBestIsBest.j1 kj7 l0 l1 l2 t248 true))))) = some r := s8q9
 clear H
 have H := H1
 clear H1
 replace H := Option.bind_eq_some_iff.mp H
 obtain ⟨⟨t263, t264⟩, A160, H⟩ := H
 replace H : ((cost_CostOf.f kj7 l0 l1 t253).bind fun bt265 => ((cost_CostOf.f kj7 l0 l1 t258).bind fun bt267 => (if t264 = 0 then (if bt265.2 = 0 then (if bt267.2 = 0 then (if t263 = t248 then (if bt265.1 = t254 then (peristylelaw10_CostBestIsBest.j1 kj7 l0 l1 l2 t248 (bt267.1 != t261)) else (peristylelaw10_CostBestIsBest.j1 kj7 l0 l1 l2 t248 true)) else (peristylelaw10_CostBestIsBest.j1 kj7 l0 l1 l2 t248 true)) else (peristylelaw10_CostBestIsBest.j1 kj7 l0 l1 l2 t248 true)) else (peristylelaw10_CostBestIsBest.j1 kj7 l0 l1 l2 t248 true)) else (peristylelaw10_CostBestIsBest.j1 kj7 l0 l1 l2 t248 true)))) = some r := H
 have A16 := Aside0.mk A160
 clear A160
 replace H := Option.bind_eq_some_iff.mp H
 obtain ⟨⟨t265, t266⟩, A170, H⟩ := H
 replace H : ((cost_CostOf.f kj7 l0 l1 t258).bind fun bt267 => (if t264 = 0 then (if t266 = 0 then (if bt267.2 = 0 then (if t263 = t248 then (if t265 = t254 then (peristylelaw10_CostBestIsBest.j1 kj7 l0 l1 l2 t248 (bt267.1 != t261)) else (peristylelaw10_CostBestIsBest.j1 kj7 l0 l1 l2 t248 true)) else (peristylelaw10_CostBestIsBest.j1 kj7 l0 l1 l2 t248 true)) else (peristylelaw10_CostBestIsBest.j1 kj7 l0 l1 l2 t248 true)) else (peristylelaw10_CostBestIsBest.j1 kj7 l0 l1 l2 t248 true)) else (peristylelaw10_CostBestIsBest.j1 kj7 l0 l1 l2 t248 true))) = some r := H
 have A17 := Aside0.mk A170
 clear A170
 replace H := Option.bind_eq_some_iff.mp H
 obtain ⟨⟨t267, t268⟩, A180, H⟩ := H
 replace H : (if t264 = 0 then (if t266 = 0 then (if t268 = 0 then (if t263 = t248 then (if t265 = t254 then (peristylelaw10_CostBestIsBest.j1 kj7 l0 l1 l2 t248 (t267 != t261)) else (peristylelaw10_CostBestIsBest.j1 kj7 l0 l1 l2 t248 true)) else (peristylelaw10_CostBestIsBest.j1 kj7 l0 l1 l2 t248 true)) else (peristylelaw10_CostBestIsBest.j1 kj7 l0 l1 l2 t248 true)) else (peristylelaw10_CostBestIsBest.j1 kj7 l0 l1 l2 t248 true)) else (peristylelaw10_CostBestIsBest.j1 kj7 l0 l1 l2 t248 true)) = some r := H
 have A18 := Aside0.mk A180
 clear A180
 have HC19 := Aside0.mk H
 clear H
 obtain ⟨Ao20, co20, eo20⟩ := Kd.R_slice HO_7.out
 subst eo20
 go_upto_region 11 with (first | ((with_reducible refine gate_callee (f := 14) rfl ?_); refine goesL_ (some 73) rfl rfl Tryd.func14 s8q0 rfl #[.slice A0 l0.length c0, .slice A1 l1.length c1, .slice Ao20 t247.length co20] rfl s8q8 ?_; (with_reducible refine (cost_CostOf.calls kj7 _ _ l0 _ _ l1 _ _ t247 t263 t264 _ ?side1 ?side2 ?side3 ?side4 ?side5 ?side6 A16.out).mono ?_); (case side1 => repeat (first | exact (Kd.C_below HR0.out HB.out) | (with_reducible refine Kd.C_alloc ?_ _) | (with_reducible refine Kd.C_drewN ?_ _) | (with_reducible refine Kd.C_drew ?_))); (case side2 => exact HC0.out); (case side3 => repeat (first | exact (Kd.C_below HR1.out HB.out) | (with_reducible refine Kd.C_alloc ?_ _) | (with_reducible refine Kd.C_drewN ?_ _) | (with_reducible refine Kd.C_drew ?_))); (case side4 => exact HC1.out); (case side5 => repeat (first | exact (Kd.R_reads' HO_7.out).2.2 | (with_reducible refine Kd.C_alloc ?_ _) | (with_reducible refine Kd.C_drewN ?_ _) | (with_reducible refine Kd.C_drew ?_))); (case side6 => exact (Kd.R_reads' HO_7.out).2.1); rintro e w21 ⟨rfl, hb⟩; refine ⟨_, rfl, ?_⟩; have n0_ := Aside0.mk (Kd.R_below s8q2 hb); have n1_ := Aside0.mk (Kd.R_below s8q5 hb); have n2_ := Aside0.mk (Kd.V_below s8q6 hb); have n3_ := Aside0.mk (below_step s8q7 hb); clear HO_7; clear HO_10; clear HO_12; clear HB; have HO_7 := n0_; have HO_10 := n1_; have HO_12 := n2_; have HB := n3_; clear n0_ n1_ n2_ n3_; (try clear hb); (try clear hb2); (try clear hk); (try clear hi); obtain ⟨Ao22, co22, eo22⟩ := Kd.R_slice HO_10.out; subst eo22) | ((with_reducible refine gate_callee (f := 14) rfl ?_); refine goesL_ (some 80) rfl rfl Tryd.func14 s8q0 rfl #[.slice A0 l0.length c0, .slice A1 l1.length c1, .slice Ao22 t253.length co22] rfl s8q8 ?_; (with_reducible refine (cost_CostOf.calls kj7 _ _ l0 _ _ l1 _ _ t253 t265 t266 _ ?side1 ?side2 ?side3 ?side4 ?side5 ?side6 A17.out).mono ?_); (case side1 => repeat (first | exact (Kd.C_below HR0.out HB.out) | (with_reducible refine Kd.C_alloc ?_ _) | (with_reducible refine Kd.C_drewN ?_ _) | (with_reducible refine Kd.C_drew ?_))); (case side2 => exact HC0.out); (case side3 => repeat (first | exact (Kd.C_below HR1.out HB.out) | (with_reducible refine Kd.C_alloc ?_ _) | (with_reducible refine Kd.C_drewN ?_ _) | (with_reducible refine Kd.C_drew ?_))); (case side4 => exact HC1.out); (case side5 => repeat (first | exact (Kd.R_reads' HO_10.out).2.2 | (with_reducible refine Kd.C_alloc ?_ _) | (with_reducible refine Kd.C_drewN ?_ _) | (with_reducible refine Kd.C_drew ?_))); (case side6 => exact (Kd.R_reads' HO_10.out).2.1); rintro e w23 ⟨rfl, hb⟩; refine ⟨_, rfl, ?_⟩; have n0_ := Aside0.mk (Kd.R_below s8q2 hb); have n1_ := Aside0.mk (Kd.R_below s8q5 hb); have n2_ := Aside0.mk (Kd.V_below s8q6 hb); have n3_ := Aside0.mk (below_step s8q7 hb); clear HO_7; clear HO_10; clear HO_12; clear HB; have HO_7 := n0_; have HO_10 := n1_; have HO_12 := n2_; have HB := n3_; clear n0_ n1_ n2_ n3_; (try clear hb); (try clear hb2); (try clear hk); (try clear hi); obtain ⟨Ao24, co24, eo24⟩ := Kd.V_slice HO_12.out; subst eo24) | ((with_reducible refine gate_callee (f := 14) rfl ?_); refine goesL_ (some 87) rfl rfl Tryd.func14 s8q0 rfl #[.slice A0 l0.length c0, .slice A1 l1.length c1, .slice Ao24 t258.length co24] rfl s8q8 ?_; (with_reducible refine (cost_CostOf.calls kj7 _ _ l0 _ _ l1 _ _ t258 t267 t268 _ ?side1 ?side2 ?side3 ?side4 ?side5 ?side6 A18.out).mono ?_); (case side1 => repeat (first | exact (Kd.C_below HR0.out HB.out) | (with_reducible refine Kd.C_alloc ?_ _) | (with_reducible refine Kd.C_drewN ?_ _) | (with_reducible refine Kd.C_drew ?_))); (case side2 => exact HC0.out); (case side3 => repeat (first | exact (Kd.C_below HR1.out HB.out) | (with_reducible refine Kd.C_alloc ?_ _) | (with_reducible refine Kd.C_drewN ?_ _) | (with_reducible refine Kd.C_drew ?_))); (case side4 => exact HC1.out); (case side5 => repeat (first | exact (Kd.V_reads' HO_12.out).2.2 | (with_reducible refine Kd.C_alloc ?_ _) | (with_reducible refine Kd.C_drewN ?_ _) | (with_reducible refine Kd.C_drew ?_))); (case side6 => exact (Kd.V_reads' HO_12.out).2.1); rintro e w25 ⟨rfl, hb⟩; refine ⟨_, rfl, ?_⟩; have n0_ := Aside0.mk (Kd.R_below s8q2 hb); have n1_ := Aside0.mk (Kd.R_below s8q5 hb); have n2_ := Aside0.mk (Kd.V_below s8q6 hb); have n3_ := Aside0.mk (below_step s8q7 hb); clear HO_7; clear HO_10; clear HO_12; clear HB; have HO_7 := n0_; have HO_10 := n1_; have HO_12 := n2_; have HB := n3_; clear n0_ n1_ n2_ n3_; (try clear hb); (try clear hb2); (try clear hk); (try clear hi)))
 (try simp only [Act.put, sqa, sqb, sqc])
 go_cut [114] (fun v114 wc => ∃ (kq : Nat) (x114_18 : Bool), v114 = .bool x114_18 ∧ Aside0 (peristylelaw10_CostBestIsBest.j1 kq l0 l1 l2 t248 x114_18 = some r) ∧ Aside0 (kq ≤ kj7) ∧ Aside0 (Below w.heap.size w wc))
 case first =>
  have H := HC19.out
  clear HC19
  by_cases c26 : t264 = 0
  case neg =>
   rw [if_neg c26] at H
   have c26b0 : (t264 == 0) = false := beq_eq_false_iff_ne.mpr c26
   have c26b1 : (t264 != 0) = true := bne_iff_ne.mpr c26
   (first | rw [c26b0] | (simp only [i64_w, i32_w]; rw [c26b0]) | skip)
   have H' := Aside0.mk H
   clear H
   go_wp2
   go_meet
   case rel => exact ⟨_, (true), s8q1, H', ⟨by have := HJ7.out; first | omega | exact Nat.le_refl _⟩, ⟨by repeat (first | (with_reducible first | exact HB.out | apply below_alloc | apply pw_below_drewN | apply below_drew1) | exact HB.out)⟩⟩
  rw [if_pos c26] at H
  have c26b0 : (t264 == 0) = true := beq_iff_eq.mpr c26
  have c26b1 : (t264 != 0) = false := bne_eq_false_iff_eq.mpr c26
  clear c26
  (first | rw [c26b0] | (simp only [i64_w, i32_w]; rw [c26b0]) | skip)
  by_cases c27 : t266 = 0
  case neg =>
   rw [if_neg c27] at H
   have c27b0 : (t266 == 0) = false := beq_eq_false_iff_ne.mpr c27
   have c27b1 : (t266 != 0) = true := bne_iff_ne.mpr c27
   have H' := Aside0.mk H
   clear H
   go_wp2
   go_meet
   case rel => exact ⟨_, (true), s8q1, H', ⟨by have := HJ7.out; first | omega | exact Nat.le_refl _⟩, ⟨by repeat (first | (with_reducible first | exact HB.out | apply below_alloc | apply pw_below_drewN | apply below_drew1) | exact HB.out)⟩⟩
  rw [if_pos c27] at H
  have c27b0 : (t266 == 0) = true := beq_iff_eq.mpr c27
  have c27b1 : (t266 != 0) = false := bne_eq_false_iff_eq.mpr c27
  clear c27
  by_cases c28 : t268 = 0
  case neg =>
   rw [if_neg c28] at H
   have c28b0 : (t268 == 0) = false := beq_eq_false_iff_ne.mpr c28
   have c28b1 : (t268 != 0) = true := bne_iff_ne.mpr c28
   have H' := Aside0.mk H
   clear H
   go_wp2
   go_meet
   case rel => exact ⟨_, (true), s8q1, H', ⟨by have := HJ7.out; first | omega | exact Nat.le_refl _⟩, ⟨by repeat (first | (with_reducible first | exact HB.out | apply below_alloc | apply pw_below_drewN | apply below_drew1) | exact HB.out)⟩⟩
  rw [if_pos c28] at H
  have c28b0 : (t268 == 0) = true := beq_iff_eq.mpr c28
  have c28b1 : (t268 != 0) = false := bne_eq_false_iff_eq.mpr c28
  clear c28
  by_cases c29 : t263 = t248
  case neg =>
   rw [if_neg c29] at H
   have c29b0 : (t263 == t248) = false := beq_eq_false_iff_ne.mpr c29
   have c29b1 : (t263 != t248) = true := bne_iff_ne.mpr c29
   have H' := Aside0.mk H
   clear H
   go_wp2
   go_meet
   case rel => exact ⟨_, (true), s8q1, H', ⟨by have := HJ7.out; first | omega | exact Nat.le_refl _⟩, ⟨by repeat (first | (with_reducible first | exact HB.out | apply below_alloc | apply pw_below_drewN | apply below_drew1) | exact HB.out)⟩⟩
  rw [if_pos c29] at H
  have c29b0 : (t263 == t248) = true := beq_iff_eq.mpr c29
  have c29b1 : (t263 != t248) = false := bne_eq_false_iff_eq.mpr c29
  clear c29
  by_cases c30 : t265 = t254
  case neg =>
   rw [if_neg c30] at H
   have c30b0 : (t265 == t254) = false := beq_eq_false_iff_ne.mpr c30
   have c30b1 : (t265 != t254) = true := bne_iff_ne.mpr c30
   have H' := Aside0.mk H
   clear H
   go_wp2
   go_meet
   case rel => exact ⟨_, (true), s8q1, H', ⟨by have := HJ7.out; first | omega | exact Nat.le_refl _⟩, ⟨by repeat (first | (with_reducible first | exact HB.out | apply below_alloc | apply pw_below_drewN | apply below_drew1) | exact HB.out)⟩⟩
  rw [if_pos c30] at H
  have c30b0 : (t265 == t254) = true := beq_iff_eq.mpr c30
  have c30b1 : (t265 != t254) = false := bne_eq_false_iff_eq.mpr c30
  clear c30
  have H' := Aside0.mk H
  clear H
  go_wp2
  go_meet
  case rel => exact ⟨_, ((t267 != t261)), s8q1, H', ⟨by have := HJ7.out; first | omega | exact Nat.le_refl _⟩, ⟨by repeat (first | (with_reducible first | exact HB.out | apply below_alloc | apply pw_below_drewN | apply below_drew1) | exact HB.out)⟩⟩
 clear HC19
 try clear c1
 try clear c2
 try clear p2
 try clear c3
 try clear c5
 try clear c5b0
 try clear c5b1
 try clear c12
 try clear c12b0
 try clear c12b1
 try clear c13
 try clear c13b0
 try clear c13b1
 try clear c14
 try clear c14b0
 try clear c15
 try clear c17
 try clear c20
 try clear c22
 try clear c26
 try clear c26b0
 try clear c26b1
 try clear c27
 try clear c27b0
 try clear c27b1
 try clear c28
 try clear c28b0
 try clear c28b1
 try clear c29
 try clear c29b0
 try clear c29b1
 try clear c30
 try clear c30b0
 try clear c30b1
 try clear p2
 obtain ⟨kq, x114_18, rfl, HA, HJ18, HB⟩ := hcut
 cases kq with
 | zero => exact absurd HA.out (by simp [peristylelaw10_CostBestIsBest.j1])
 | succ kj18 => ?_
 have H := HA.out
 clear HA
 simp only [peristylelaw10_CostBestIsBest.j1] at H
 by_cases c31 : x114_18 = true
 · subst c31
   have H1 : (some false) = some r := by rw [if_pos rfl] at H; exact H
   clear H
   have H := H1
   clear H1
   obtain rfl := Option.some.inj H
   go_wp2
   go_ret
   exact ⟨by first | rfl | (simp [errW_none, errW_some] <;> rfl) | (simp [*, errW_none, errW_some] <;> rfl), by repeat (first | (with_reducible first | exact HB.out | apply below_alloc | apply pw_below_drewN | apply below_drew1) | exact HB.out)⟩
 replace c31 := Bool.eq_false_iff.mpr c31
 subst c31
 have H1 : ((cost_CostOf.f kj18 l0 l1 l2).bind fun bt269 => (if bt269.2 = 0 then (if bt269.1 ≥ t248 then ((peristylelaw10_awake.f kj18).bind fun t271 => (some t271)) else (some false)) else ((peristylelaw10_awake.f kj18).bind fun t272 => (some t272)))) = some r := s8q9
 clear H
 have H := H1
 clear H1
 replace H := Option.bind_eq_some_iff.mp H
 obtain ⟨⟨t269, t270⟩, A320, H⟩ := H
 replace H : (if t270 = 0 then (if t269 ≥ t248 then ((peristylelaw10_awake.f kj18).bind fun t271 => (some t271)) else (some false)) else ((peristylelaw10_awake.f kj18).bind fun t272 => (some t272))) = some r := H
 have A32 := Aside0.mk A320
 clear A320
 by_cases c33 : t270 = 0
 case neg =>
  rw [if_neg c33] at H
  have c33b0 : (t270 == 0) = false := beq_eq_false_iff_ne.mpr c33
  have c33b1 : (t270 != 0) = true := bne_iff_ne.mpr c33
  replace H := Option.bind_eq_some_iff.mp H
  obtain ⟨t272, A390, H⟩ := H
  replace H : (some t272) = some r := H
  have A39 := Aside0.mk A390
  clear A390
  obtain rfl := Option.some.inj H
  go_wp2_with (first | ((with_reducible refine gate_callee (f := 14) rfl ?_); refine goesL_ (some 119) rfl rfl Tryd.func14 s8q0 rfl #[.slice A0 l0.length c0, .slice A1 l1.length c1, .slice A2 l2.length c2] rfl s8q8 ?_; (with_reducible refine (cost_CostOf.calls kj18 _ _ l0 _ _ l1 _ _ l2 t269 t270 _ ?side1 ?side2 ?side3 ?side4 ?side5 ?side6 A32.out).mono ?_); (case side1 => repeat (first | exact (Kd.C_below HR0.out HB.out) | (with_reducible refine Kd.C_alloc ?_ _) | (with_reducible refine Kd.C_drewN ?_ _) | (with_reducible refine Kd.C_drew ?_))); (case side2 => exact HC0.out); (case side3 => repeat (first | exact (Kd.C_below HR1.out HB.out) | (with_reducible refine Kd.C_alloc ?_ _) | (with_reducible refine Kd.C_drewN ?_ _) | (with_reducible refine Kd.C_drew ?_))); (case side4 => exact HC1.out); (case side5 => repeat (first | exact (Kd.C_below HR2.out HB.out) | (with_reducible refine Kd.C_alloc ?_ _) | (with_reducible refine Kd.C_drewN ?_ _) | (with_reducible refine Kd.C_drew ?_))); (case side6 => exact HC2.out); rintro e w40 ⟨rfl, hb⟩; refine ⟨_, rfl, ?_⟩; have n0_ := Aside0.mk (below_step s8q7 hb); clear HB; have HB := n0_; clear n0_; (try clear hb); (try clear hb2); (try clear hk); (try clear hi)) | (go_at_call 16; (with_reducible refine (peristylelaw10_awake.calls kj18  t272 _ ?side1 A39.out).mono ?_); (case side1 => exact Glob_below HG.out s8q7); rintro e w41 ⟨rfl, hb⟩; have n0_ := Aside0.mk (below_step s8q7 hb); clear HB; have HB := n0_; clear n0_; (try clear hb); (try clear hb2); (try clear hk); (try clear hi)))
  go_ret
  exact ⟨by first | rfl | (simp [errW_none, errW_some] <;> rfl) | (simp [*, errW_none, errW_some] <;> rfl), by repeat (first | (with_reducible first | exact HB.out | apply below_alloc | apply pw_below_drewN | apply below_drew1) | exact HB.out)⟩
 rw [if_pos c33] at H
 have c33b0 : (t270 == 0) = true := beq_iff_eq.mpr c33
 have c33b1 : (t270 != 0) = false := bne_eq_false_iff_eq.mpr c33
 clear c33
 by_cases c34 : t269 ≥ t248
 case neg =>
  rw [if_neg c34] at H
  have c34b0 : decide (t248 ≤ t269) = false := decide_eq_false c34
  clear c34
  obtain rfl := Option.some.inj H
  go_wp2_with (first | ((with_reducible refine gate_callee (f := 14) rfl ?_); refine goesL_ (some 119) rfl rfl Tryd.func14 s8q0 rfl #[.slice A0 l0.length c0, .slice A1 l1.length c1, .slice A2 l2.length c2] rfl s8q8 ?_; (with_reducible refine (cost_CostOf.calls kj18 _ _ l0 _ _ l1 _ _ l2 t269 t270 _ ?side1 ?side2 ?side3 ?side4 ?side5 ?side6 A32.out).mono ?_); (case side1 => repeat (first | exact (Kd.C_below HR0.out HB.out) | (with_reducible refine Kd.C_alloc ?_ _) | (with_reducible refine Kd.C_drewN ?_ _) | (with_reducible refine Kd.C_drew ?_))); (case side2 => exact HC0.out); (case side3 => repeat (first | exact (Kd.C_below HR1.out HB.out) | (with_reducible refine Kd.C_alloc ?_ _) | (with_reducible refine Kd.C_drewN ?_ _) | (with_reducible refine Kd.C_drew ?_))); (case side4 => exact HC1.out); (case side5 => repeat (first | exact (Kd.C_below HR2.out HB.out) | (with_reducible refine Kd.C_alloc ?_ _) | (with_reducible refine Kd.C_drewN ?_ _) | (with_reducible refine Kd.C_drew ?_))); (case side6 => exact HC2.out); rintro e w38 ⟨rfl, hb⟩; refine ⟨_, rfl, ?_⟩; have n0_ := Aside0.mk (below_step s8q7 hb); clear HB; have HB := n0_; clear n0_; (try clear hb); (try clear hb2); (try clear hk); (try clear hi)))
  go_ret
  exact ⟨by first | rfl | (simp [errW_none, errW_some] <;> rfl) | (simp [*, errW_none, errW_some] <;> rfl), by repeat (first | (with_reducible first | exact HB.out | apply below_alloc | apply pw_below_drewN | apply below_drew1) | exact HB.out)⟩
 rw [if_pos c34] at H
 have c34b0 : decide (t248 ≤ t269) = true := decide_eq_true c34
 clear c34
 replace H := Option.bind_eq_some_iff.mp H
 obtain ⟨t271, A350, H⟩ := H
 replace H : (some t271) = some r := H
 have A35 := Aside0.mk A350
 clear A350
 obtain rfl := Option.some.inj H
 go_wp2_with (first | ((with_reducible refine gate_callee (f := 14) rfl ?_); refine goesL_ (some 119) rfl rfl Tryd.func14 s8q0 rfl #[.slice A0 l0.length c0, .slice A1 l1.length c1, .slice A2 l2.length c2] rfl s8q8 ?_; (with_reducible refine (cost_CostOf.calls kj18 _ _ l0 _ _ l1 _ _ l2 t269 t270 _ ?side1 ?side2 ?side3 ?side4 ?side5 ?side6 A32.out).mono ?_); (case side1 => repeat (first | exact (Kd.C_below HR0.out HB.out) | (with_reducible refine Kd.C_alloc ?_ _) | (with_reducible refine Kd.C_drewN ?_ _) | (with_reducible refine Kd.C_drew ?_))); (case side2 => exact HC0.out); (case side3 => repeat (first | exact (Kd.C_below HR1.out HB.out) | (with_reducible refine Kd.C_alloc ?_ _) | (with_reducible refine Kd.C_drewN ?_ _) | (with_reducible refine Kd.C_drew ?_))); (case side4 => exact HC1.out); (case side5 => repeat (first | exact (Kd.C_below HR2.out HB.out) | (with_reducible refine Kd.C_alloc ?_ _) | (with_reducible refine Kd.C_drewN ?_ _) | (with_reducible refine Kd.C_drew ?_))); (case side6 => exact HC2.out); rintro e w36 ⟨rfl, hb⟩; refine ⟨_, rfl, ?_⟩; have n0_ := Aside0.mk (below_step s8q7 hb); clear HB; have HB := n0_; clear n0_; (try clear hb); (try clear hb2); (try clear hk); (try clear hi)) | (go_at_call 16; (with_reducible refine (peristylelaw10_awake.calls kj18  t271 _ ?side1 A35.out).mono ?_); (case side1 => exact Glob_below HG.out s8q7); rintro e w37 ⟨rfl, hb⟩; have n0_ := Aside0.mk (below_step s8q7 hb); clear HB; have HB := n0_; clear n0_; (try clear hb); (try clear hb2); (try clear hk); (try clear hi)))
 go_ret
 exact ⟨by first | rfl | (simp [errW_none, errW_some] <;> rfl) | (simp [*, errW_none, errW_some] <;> rfl), by repeat (first | (with_reducible first | exact HB.out | apply below_alloc | apply pw_below_drewN | apply below_drew1) | exact HB.out)⟩
end Go.Proofs.YtgcijejmmhjibaaDoor.B
