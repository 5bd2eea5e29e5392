-- Printed by a program of this session (a patched print).
import Derived.Test.YtgcijejmmhjibaaDoorGx0
import Derived.Test.YtgcijejmmhjibaaDoorGx3
import Derived.Test.YtgcijejmmhjibaaDoorGx4
import Derived.Test.YtgcijejmmhjibaaDoorGx7
import Derived.Test.YtgcijejmmhjibaaDoorGx8
import Derived.Test.YtgcijejmmhjibaaDoorGx9
import Derived.Test.YtgcijejmmhjibaaDoorGx11
namespace Go.Proofs.YtgcijejmmhjibaaDoor.G
open Go.RowKit Go.Proofs.YtgcijejmmhjibaaDoorW.PrintWords Go.Proofs.YtgcijejmmhjibaaDoorW.PrintLast Go.Proofs.YtgcijejmmhjibaaDoorW.PrintMore
attribute [local go_sem] max2_int min2_int max_two min_two max_three min_three max_four min_four   -- for this text's walks alone
set_option linter.unusedVariables false
set_option linter.unusedSimpArgs false

theorem s12qm0 {p : Prop} (h : p := by repeat' first | (with_reducible exact ih0 _ _ _) | (with_reducible exact ih1 _ _ _) | (with_reducible exact cost_Best.mono _ _ _) | (with_reducible exact cost_BestLine.mono _ _ _) | (with_reducible exact cost_Greedy.mono _ _ _) | (with_reducible exact peristylelaw10_awake.mono _) | (with_reducible exact peristyleref10_Best.mono _ _ _) | (with_reducible exact peristyleref10_BestLine.mono _ _ _) | (with_reducible exact peristyleref10_Greedy.mono _ _ _) | (with_reducible exact slices_Equal_int_int.mono _ _ _) | (with_reducible exact LeO.refl _) | (with_reducible exact LeO.none _) | (with_reducible refine LeO.ite ?_ ?_) | (with_reducible refine LeO.bind ?_ (fun _ => ?_)) | exact ih0 _ _ _ | exact ih1 _ _ _ | exact cost_Best.mono _ _ _ | exact cost_BestLine.mono _ _ _ | exact cost_Greedy.mono _ _ _ | exact peristylelaw10_awake.mono _ | exact peristyleref10_Best.mono _ _ _ | exact peristyleref10_BestLine.mono _ _ _ | exact peristyleref10_Greedy.mono _ _ _ | exact slices_Equal_int_int.mono _ _ _ | exact LeO.none _ | refine LeO.ite ?_ ?_ | refine LeO.bind ?_ (fun _ => ?_)) : p := h
theorem s12q0 {p : Prop} (h : p := by kernel_rfl) : p := h
theorem s12q1 {p : Prop} (h : p := by first | rfl | (simp; done) | (simp [*]; done)) : p := h
theorem s12q2 {p : Prop} (h : p := by (with_reducible repeat (first | apply Kd.R_alloc | apply Kd.R_drewN | apply Kd.R_drew)); exact HO364.out) : p := h
theorem s12q3 {p : Prop} (h : p := by (with_reducible repeat (first | apply Kd.R_alloc | apply Kd.R_drewN | apply Kd.R_drew)); exact HO375.out) : p := h
theorem s12q4 {p : Prop} (h : p := by (with_reducible repeat (first | apply Kd.V_alloc | apply Kd.V_drewN | apply Kd.V_drew)); exact HO384.out) : p := h
theorem s12q5 {p : Prop} (h : p := by repeat (first | (with_reducible first | exact HB.out | apply below_alloc | apply pw_below_drewN | apply below_drew1) | exact HB.out)) : p := h
theorem s12q6 {p : Prop} (h : p := by (try simp only [List.map_toArray, List.map_cons, List.map_nil]); first | done | rfl | (simp only [List.length_drop, List.length_take]; rfl)) : p := h
theorem s12q7 {p : Prop} (h : p := by rw [if_neg (show ¬ (false = true) by decide)] at H; exact H) : p := h
/-! ### peristylelaw10_CostOrdersMatchSpec: function 4 -/
mutual
def peristylelaw10_CostOrdersMatchSpec.j0 : Nat → List Int → List (S75) → Bool → Option (Bool)
  | 0, _, _, _ => none
  | k + 1, x0, x1, x38 => if x38 = true then (some false) else ((cost_BestLine.f k x0 x1).bind fun bt371 => ((peristyleref10_BestLine.f k x0 x1).bind fun bt376 => (if bt371.2.2 = bt376.2.2 then (if bt371.2.1 = bt376.2.1 then ((slices_Equal_int_int.f k bt371.1 bt376.1).bind fun t381 => (peristylelaw10_CostOrdersMatchSpec.j1 k x0 x1 (!t381))) else (peristylelaw10_CostOrdersMatchSpec.j1 k x0 x1 true)) else (peristylelaw10_CostOrdersMatchSpec.j1 k x0 x1 true))))
def peristylelaw10_CostOrdersMatchSpec.j1 : Nat → List Int → List (S75) → Bool → Option (Bool)
  | 0, _, _, _ => none
  | k + 1, x0, x1, x66 => if x66 = true then (some false) else ((cost_Greedy.f k x0 x1).bind fun bt382 => ((peristyleref10_Greedy.f k x0 x1).bind fun bt387 => (if bt382.2.2 = bt387.2.2 then (if bt382.2.1 = bt387.2.1 then ((slices_Equal_int_int.f k bt382.1 bt387.1).bind fun t392 => (if t392 = true then ((peristylelaw10_awake.f k).bind fun t393 => (some t393)) else (some false))) else (some false)) else (some false))))
end
def peristylelaw10_CostOrdersMatchSpec.f (k : Nat) (l0 : List Int) (l1 : List (S75)) : Option (Bool) := (cost_Best.f k l0 l1).bind fun bt360 => ((peristyleref10_Best.f k l0 l1).bind fun bt365 => (if bt360.2.2 = bt365.2.2 then (if bt360.2.1 = bt365.2.1 then ((slices_Equal_int_int.f k bt360.1 bt365.1).bind fun t370 => (peristylelaw10_CostOrdersMatchSpec.j0 k l0 l1 (!t370))) else (peristylelaw10_CostOrdersMatchSpec.j0 k l0 l1 true)) else (peristylelaw10_CostOrdersMatchSpec.j0 k l0 l1 true)))
theorem peristylelaw10_CostOrdersMatchSpec.mono_l : ∀ k, (∀ y0 y1 y2, LeO (peristylelaw10_CostOrdersMatchSpec.j0 k y0 y1 y2) (peristylelaw10_CostOrdersMatchSpec.j0 (k + 1) y0 y1 y2)) ∧ (∀ y0 y1 y2, LeO (peristylelaw10_CostOrdersMatchSpec.j1 k y0 y1 y2) (peristylelaw10_CostOrdersMatchSpec.j1 (k + 1) y0 y1 y2))
  | 0 => ⟨fun _ _ _ r h => by simp [peristylelaw10_CostOrdersMatchSpec.j0] at h, fun _ _ _ r h => by simp [peristylelaw10_CostOrdersMatchSpec.j1] at h⟩
  | k + 1 => by
    obtain ⟨ih0, ih1⟩ := peristylelaw10_CostOrdersMatchSpec.mono_l k
    refine ⟨?_, ?_⟩
    · intro y0 y1 y2
      unfold peristylelaw10_CostOrdersMatchSpec.j0
      exact s12qm0
    · intro y0 y1 y2
      unfold peristylelaw10_CostOrdersMatchSpec.j1
      exact s12qm0
theorem peristylelaw10_CostOrdersMatchSpec.mono : ∀ a0 a1 k, LeO (peristylelaw10_CostOrdersMatchSpec.f k a0 a1) (peristylelaw10_CostOrdersMatchSpec.f (k + 1) a0 a1) := by
 intro a0 a1 k
 obtain ⟨ih0, ih1⟩ := peristylelaw10_CostOrdersMatchSpec.mono_l k
 unfold peristylelaw10_CostOrdersMatchSpec.f
 repeat' first
  | (with_reducible exact ih0 _ _ _)
  | (with_reducible exact ih1 _ _ _)
  | (with_reducible exact cost_Best.mono _ _ _)
  | (with_reducible exact cost_BestLine.mono _ _ _)
  | (with_reducible exact cost_Greedy.mono _ _ _)
  | (with_reducible exact peristylelaw10_awake.mono _)
  | (with_reducible exact peristyleref10_Best.mono _ _ _)
  | (with_reducible exact peristyleref10_BestLine.mono _ _ _)
  | (with_reducible exact peristyleref10_Greedy.mono _ _ _)
  | (with_reducible exact slices_Equal_int_int.mono _ _ _)
  | (with_reducible exact LeO.refl _)
  | (with_reducible exact LeO.none _)
  | (with_reducible refine LeO.ite ?_ ?_)
  | (with_reducible refine LeO.bind ?_ (fun _ => ?_))
  | exact ih0 _ _ _
  | exact ih1 _ _ _
  | exact cost_Best.mono _ _ _
  | exact cost_BestLine.mono _ _ _
  | exact cost_Greedy.mono _ _ _
  | exact peristylelaw10_awake.mono _
  | exact peristyleref10_Best.mono _ _ _
  | exact peristyleref10_BestLine.mono _ _ _
  | exact peristyleref10_Greedy.mono _ _ _
  | exact slices_Equal_int_int.mono _ _ _
  | exact LeO.none _
  | refine LeO.ite ?_ ?_
  | refine LeO.bind ?_ (fun _ => ?_)
set_option maxHeartbeats 8000000 in
set_option maxRecDepth 100000 in
theorem peristylelaw10_CostOrdersMatchSpec.calls (k : Nat) (A0 : Option Addr) (c0 : Nat) (l0 : List Int) (A1 : Option Addr) (c1 : Nat) (l1 : List (S75)) (r : Bool) (w : World) (hr0 : Kd.C (Kd.int .i64) w A0 l0.length l0) (hc0 : l0.length ≤ c0) (hr1 : Kd.C k75 w A1 l1.length l1) (hc1 : l1.length ≤ c1) (hG : Glob w) (h : peristylelaw10_CostOrdersMatchSpec.f k l0 l1 = some r) :
    Calls Tryd.prog 4 #[.slice A0 l0.length c0, .slice A1 l1.length c1] w fun e w' => e = .returned (.bool r) ∧ Below w.heap.size w w' := by
 have HG := Aside0.mk hG
 clear hG
 have HR0 := Aside0.mk hr0
 have HC0 := Aside0.mk hc0
 clear hr0 hc0
 have HR1 := Aside0.mk hr1
 have HC1 := Aside0.mk hc1
 clear hr1 hc1
 have HB := Aside0.mk (Below.refl w.heap.size w)
 have H : ((cost_Best.f k l0 l1).bind fun bt360 => ((peristyleref10_Best.f k l0 l1).bind fun bt365 => (if bt360.2.2 = bt365.2.2 then (if bt360.2.1 = bt365.2.1 then ((slices_Equal_int_int.f k bt360.1 bt365.1).bind fun t370 => (peristylelaw10_CostOrdersMatchSpec.j0 k l0 l1 (!t370))) else (peristylelaw10_CostOrdersMatchSpec.j0 k l0 l1 true)) else (peristylelaw10_CostOrdersMatchSpec.j0 k l0 l1 true)))) = some r := h
 clear h
 replace H := Option.bind_eq_some_iff.mp H
 obtain ⟨⟨t360, t361, t362⟩, A30, H⟩ := H
 replace H : ((peristyleref10_Best.f k l0 l1).bind fun bt365 => (if t362 = bt365.2.2 then (if t361 = bt365.2.1 then ((slices_Equal_int_int.f k t360 bt365.1).bind fun t370 => (peristylelaw10_CostOrdersMatchSpec.j0 k l0 l1 (!t370))) else (peristylelaw10_CostOrdersMatchSpec.j0 k l0 l1 true)) else (peristylelaw10_CostOrdersMatchSpec.j0 k l0 l1 true))) = some r := H
 have A3 := Aside0.mk A30
 clear A30
 replace H := Option.bind_eq_some_iff.mp H
 obtain ⟨⟨t365, t368, t369⟩, A40, H⟩ := H
 replace H : (if t362 = t369 then (if t361 = t368 then ((slices_Equal_int_int.f k t360 t365).bind fun t370 => (peristylelaw10_CostOrdersMatchSpec.j0 k l0 l1 (!t370))) else (peristylelaw10_CostOrdersMatchSpec.j0 k l0 l1 true)) else (peristylelaw10_CostOrdersMatchSpec.j0 k l0 l1 true)) = some r := H
 have A4 := Aside0.mk A40
 clear A40
 have HC5 := Aside0.mk H
 clear H
 go_enter Tryd.func4, Tryd.ntmps4
 go_upto_region 3 with (first | ((with_reducible refine gate_callee (f := 17) rfl ?_); refine goesL_ (some 14) rfl rfl Tryd.func17 s12q0 rfl #[.slice A0 l0.length c0, .slice A1 l1.length c1] rfl s12q6 ?_; (with_reducible refine (cost_Best.calls k _ _ l0 _ _ l1 t360 t361 t362 _ ?side1 ?side2 ?side3 ?side4 ?side5 A3.out).mono ?_); (case side1 => repeat (first | exact HR0.out | (with_reducible refine Kd.C_alloc ?_ _) | (with_reducible refine Kd.C_drewN ?_ _) | (with_reducible refine Kd.C_drew ?_))); (case side2 => exact HC0.out); (case side3 => repeat (first | exact HR1.out | (with_reducible refine Kd.C_alloc ?_ _) | (with_reducible refine Kd.C_drewN ?_ _) | (with_reducible refine Kd.C_drew ?_))); (case side4 => exact HC1.out); (case side5 => exact Glob_below HG.out s12q5); rintro e w6 ⟨v363, rfl, ho0, hb⟩; refine ⟨_, rfl, ?_⟩; have n0_ := Aside0.mk (Kd.R_lower ho0 (below_size s12q5)); have n1_ := Aside0.mk (below_step s12q5 hb); clear HB; have HO364 := n0_; have HB := n1_; clear n0_ n1_; (try clear hb); (try clear hb2); (try clear hk); (try clear hi); (try clear ho0)) | ((with_reducible refine gate_callee (f := 18) rfl ?_); refine goesL_ (some 21) rfl rfl Tryd.func18 s12q0 rfl #[.slice A0 l0.length c0, .slice A1 l1.length c1] rfl s12q6 ?_; (with_reducible refine (peristyleref10_Best.calls k _ _ l0 _ _ l1 t365 t368 t369 _ ?side1 ?side2 ?side3 ?side4 A4.out).mono ?_); (case side1 => repeat (first | exact (Kd.C_below HR0.out HB.out) | (with_reducible refine Kd.C_alloc ?_ _) | (with_reducible refine Kd.C_drewN ?_ _) | (with_reducible refine Kd.C_drew ?_))); (case side2 => exact HC0.out); (case side3 => repeat (first | exact (Kd.C_below HR1.out HB.out) | (with_reducible refine Kd.C_alloc ?_ _) | (with_reducible refine Kd.C_drewN ?_ _) | (with_reducible refine Kd.C_drew ?_))); (case side4 => exact HC1.out); rintro e w7 ⟨v366, rfl, ho0, hb⟩; refine ⟨_, rfl, ?_⟩; have n0_ := Aside0.mk (Kd.R_below s12q2 hb); have n1_ := Aside0.mk (Kd.V_lower (Kd.V_mono (ok' := fun k_ => some k_ ≠ (v363 : Value).ownBlock) ho0 (fun k_ hk_ => (Kd.fresh' (Kd.R_lt s12q2) k_ hk_))) (below_size s12q5)); have n2_ := Aside0.mk (below_step s12q5 hb); clear HO364; clear HB; have HO364 := n0_; have HO367 := n1_; have HB := n2_; clear n0_ n1_ n2_; (try clear hb); (try clear hb2); (try clear hk); (try clear hi); (try clear ho0)))
 (try simp only [Act.put, sqa, sqb, sqc])
 go_cut [38] (fun v38 wc => ∃ (kq : Nat) (x38_4 : Bool), v38 = .bool x38_4 ∧ Aside0 (peristylelaw10_CostOrdersMatchSpec.j0 kq l0 l1 x38_4 = some r) ∧ Aside0 (kq ≤ k) ∧ Aside0 (Below w.heap.size w wc))
 case first =>
  have H := HC5.out
  clear HC5
  by_cases c8 : t362 = t369
  case neg =>
   rw [if_neg c8] at H
   have c8b0 : (t362 == t369) = false := beq_eq_false_iff_ne.mpr c8
   have c8b1 : (t362 != t369) = true := bne_iff_ne.mpr c8
   (first | rw [c8b0] | (simp only [i64_w, i32_w]; rw [c8b0]) | skip)
   have H' := Aside0.mk H
   clear H
   go_wp2
   go_meet
   case rel => exact ⟨_, (true), s12q1, H', ⟨by first | omega | exact Nat.le_refl _⟩, ⟨by repeat (first | (with_reducible first | exact HB.out | apply below_alloc | apply pw_below_drewN | apply below_drew1) | exact HB.out)⟩⟩
  rw [if_pos c8] at H
  have c8b0 : (t362 == t369) = true := beq_iff_eq.mpr c8
  have c8b1 : (t362 != t369) = false := bne_eq_false_iff_eq.mpr c8
  clear c8
  (first | rw [c8b0] | (simp only [i64_w, i32_w]; rw [c8b0]) | skip)
  by_cases c9 : t361 = t368
  case neg =>
   rw [if_neg c9] at H
   have c9b0 : (t361 == t368) = false := beq_eq_false_iff_ne.mpr c9
   have c9b1 : (t361 != t368) = true := bne_iff_ne.mpr c9
   have H' := Aside0.mk H
   clear H
   go_wp2
   go_meet
   case rel => exact ⟨_, (true), s12q1, H', ⟨by first | omega | exact Nat.le_refl _⟩, ⟨by repeat (first | (with_reducible first | exact HB.out | apply below_alloc | apply pw_below_drewN | apply below_drew1) | exact HB.out)⟩⟩
  rw [if_pos c9] at H
  have c9b0 : (t361 == t368) = true := beq_iff_eq.mpr c9
  have c9b1 : (t361 != t368) = false := bne_eq_false_iff_eq.mpr c9
  clear c9
  replace H := Option.bind_eq_some_iff.mp H
  obtain ⟨t370, A100, H⟩ := H
  replace H : (peristylelaw10_CostOrdersMatchSpec.j0 k l0 l1 (!t370)) = some r := H
  have A10 := Aside0.mk A100
  clear A100
  have H' := Aside0.mk H
  clear H
  obtain ⟨Ao11, co11, eo11⟩ := Kd.R_slice HO364.out
  subst eo11
  obtain ⟨Ao12, co12, eo12⟩ := Kd.V_slice HO367.out
  subst eo12
  go_wp2_with (first | (go_at_call 19; (with_reducible refine (slices_Equal_int_int.calls k _ _ t360 _ _ t365 t370 _ ?side1 ?side2 ?side3 ?side4 A10.out).mono ?_); (case side1 => repeat (first | exact (Kd.R_reads' HO364.out).2.2 | (with_reducible refine Kd.C_alloc ?_ _) | (with_reducible refine Kd.C_drewN ?_ _) | (with_reducible refine Kd.C_drew ?_))); (case side2 => exact (Kd.R_reads' HO364.out).2.1); (case side3 => repeat (first | exact (Kd.V_reads' HO367.out).2.2 | (with_reducible refine Kd.C_alloc ?_ _) | (with_reducible refine Kd.C_drewN ?_ _) | (with_reducible refine Kd.C_drew ?_))); (case side4 => exact (Kd.V_reads' HO367.out).2.1); rintro e w' ⟨rfl, ⟨nd, rfl⟩⟩))
  go_meet
  case rel => exact ⟨_, (!t370), s12q1, H', ⟨by first | omega | exact Nat.le_refl _⟩, ⟨by repeat (first | (with_reducible first | exact HB.out | apply below_alloc | apply pw_below_drewN | apply below_drew1) | exact HB.out)⟩⟩
 clear HC5
 try clear c1
 try clear p2
 try clear c4
 try clear c8
 try clear c8b0
 try clear c8b1
 try clear c9
 try clear c9b0
 try clear c9b1
 obtain ⟨kq, x38_4, rfl, HA, HJ4, HB⟩ := hcut
 cases kq with
 | zero => exact absurd HA.out (by simp [peristylelaw10_CostOrdersMatchSpec.j0])
 | succ kj4 => ?_
 have H := HA.out
 clear HA
 simp only [peristylelaw10_CostOrdersMatchSpec.j0] at H
 by_cases c13 : x38_4 = true
 · subst c13
   have H1 : (some false) = some r := by rw [if_pos rfl] at H; exact H
   clear H
   have H := H1
   clear H1
   obtain rfl := Option.some.inj H
   go_wp2
   go_ret
   exact ⟨by first | rfl | (simp [errW_none, errW_some] <;> rfl) | (simp [*, errW_none, errW_some] <;> rfl), by repeat (first | (with_reducible first | exact HB.out | apply below_alloc | apply pw_below_drewN | apply below_drew1) | exact HB.out)⟩
 replace c13 := Bool.eq_false_iff.mpr c13
 subst c13
 have H1 : ((cost_BestLine.f kj4 l0 l1).bind fun bt371 => ((peristyleref10_BestLine.f kj4 l0 l1).bind fun bt376 => (if bt371.2.2 = bt376.2.2 then (if bt371.2.1 = bt376.2.1 then ((slices_Equal_int_int.f kj4 bt371.1 bt376.1).bind fun t381 => (peristylelaw10_CostOrdersMatchSpec.j1 kj4 l0 l1 (!t381))) else (peristylelaw10_CostOrdersMatchSpec.j1 kj4 l0 l1 true)) else (peristylelaw10_CostOrdersMatchSpec.j1 kj4 l0 l1 true)))) = some r := s12q7
 clear H
 have H := H1
 clear H1
 replace H := Option.bind_eq_some_iff.mp H
 obtain ⟨⟨t371, t372, t373⟩, A140, H⟩ := H
 replace H : ((peristyleref10_BestLine.f kj4 l0 l1).bind fun bt376 => (if t373 = bt376.2.2 then (if t372 = bt376.2.1 then ((slices_Equal_int_int.f kj4 t371 bt376.1).bind fun t381 => (peristylelaw10_CostOrdersMatchSpec.j1 kj4 l0 l1 (!t381))) else (peristylelaw10_CostOrdersMatchSpec.j1 kj4 l0 l1 true)) else (peristylelaw10_CostOrdersMatchSpec.j1 kj4 l0 l1 true))) = some r := H
 have A14 := Aside0.mk A140
 clear A140
 replace H := Option.bind_eq_some_iff.mp H
 obtain ⟨⟨t376, t377, t378⟩, A150, H⟩ := H
 replace H : (if t373 = t378 then (if t372 = t377 then ((slices_Equal_int_int.f kj4 t371 t376).bind fun t381 => (peristylelaw10_CostOrdersMatchSpec.j1 kj4 l0 l1 (!t381))) else (peristylelaw10_CostOrdersMatchSpec.j1 kj4 l0 l1 true)) else (peristylelaw10_CostOrdersMatchSpec.j1 kj4 l0 l1 true)) = some r := H
 have A15 := Aside0.mk A150
 clear A150
 have HC16 := Aside0.mk H
 clear H
 go_upto_region 7 with (first | ((with_reducible refine gate_callee (f := 20) rfl ?_); refine goesL_ (some 42) rfl rfl Tryd.func20 s12q0 rfl #[.slice A0 l0.length c0, .slice A1 l1.length c1] rfl s12q6 ?_; (with_reducible refine (cost_BestLine.calls kj4 _ _ l0 _ _ l1 t371 t372 t373 _ ?side1 ?side2 ?side3 ?side4 ?side5 A14.out).mono ?_); (case side1 => repeat (first | exact (Kd.C_below HR0.out HB.out) | (with_reducible refine Kd.C_alloc ?_ _) | (with_reducible refine Kd.C_drewN ?_ _) | (with_reducible refine Kd.C_drew ?_))); (case side2 => exact HC0.out); (case side3 => repeat (first | exact (Kd.C_below HR1.out HB.out) | (with_reducible refine Kd.C_alloc ?_ _) | (with_reducible refine Kd.C_drewN ?_ _) | (with_reducible refine Kd.C_drew ?_))); (case side4 => exact HC1.out); (case side5 => exact Glob_below HG.out s12q5); rintro e w17 ⟨v374, rfl, ho0, hb⟩; refine ⟨_, rfl, ?_⟩; have n0_ := Aside0.mk (Kd.R_lower ho0 (below_size s12q5)); have n1_ := Aside0.mk (below_step s12q5 hb); clear HB; have HO375 := n0_; have HB := n1_; clear n0_ n1_; (try clear hb); (try clear hb2); (try clear hk); (try clear hi); (try clear ho0)) | ((with_reducible refine gate_callee (f := 21) rfl ?_); refine goesL_ (some 49) rfl rfl Tryd.func21 s12q0 rfl #[.slice A0 l0.length c0, .slice A1 l1.length c1] rfl s12q6 ?_; (with_reducible refine (peristyleref10_BestLine.calls kj4 _ _ l0 _ _ l1 t376 t377 t378 _ ?side1 ?side2 ?side3 ?side4 A15.out).mono ?_); (case side1 => repeat (first | exact (Kd.C_below HR0.out HB.out) | (with_reducible refine Kd.C_alloc ?_ _) | (with_reducible refine Kd.C_drewN ?_ _) | (with_reducible refine Kd.C_drew ?_))); (case side2 => exact HC0.out); (case side3 => repeat (first | exact (Kd.C_below HR1.out HB.out) | (with_reducible refine Kd.C_alloc ?_ _) | (with_reducible refine Kd.C_drewN ?_ _) | (with_reducible refine Kd.C_drew ?_))); (case side4 => exact HC1.out); rintro e w18 ⟨v379, rfl, ho0, hb⟩; refine ⟨_, rfl, ?_⟩; have n0_ := Aside0.mk (Kd.R_elder' s12q3 (Kd.R_base ho0) hb); have n1_ := Aside0.mk (Kd.R_lower (Kd.R_new' ho0 (Kd.R_lt s12q3)) (below_size s12q5)); have n2_ := Aside0.mk (below_step s12q5 hb); clear HO375; clear HB; have HO375 := n0_; have HO380 := n1_; have HB := n2_; clear n0_ n1_ n2_; (try clear hb); (try clear hb2); (try clear hk); (try clear hi); (try clear ho0)))
 (try simp only [Act.put, sqa, sqb, sqc])
 go_cut [66] (fun v66 wc => ∃ (kq : Nat) (x66_15 : Bool), v66 = .bool x66_15 ∧ Aside0 (peristylelaw10_CostOrdersMatchSpec.j1 kq l0 l1 x66_15 = some r) ∧ Aside0 (kq ≤ kj4) ∧ Aside0 (Below w.heap.size w wc))
 case first =>
  have H := HC16.out
  clear HC16
  by_cases c19 : t373 = t378
  case neg =>
   rw [if_neg c19] at H
   have c19b0 : (t373 == t378) = false := beq_eq_false_iff_ne.mpr c19
   have c19b1 : (t373 != t378) = true := bne_iff_ne.mpr c19
   (first | rw [c19b0] | (simp only [i64_w, i32_w]; rw [c19b0]) | skip)
   have H' := Aside0.mk H
   clear H
   go_wp2
   go_meet
   case rel => exact ⟨_, (true), s12q1, H', ⟨by have := HJ4.out; first | omega | exact Nat.le_refl _⟩, ⟨by repeat (first | (with_reducible first | exact HB.out | apply below_alloc | apply pw_below_drewN | apply below_drew1) | exact HB.out)⟩⟩
  rw [if_pos c19] at H
  have c19b0 : (t373 == t378) = true := beq_iff_eq.mpr c19
  have c19b1 : (t373 != t378) = false := bne_eq_false_iff_eq.mpr c19
  clear c19
  (first | rw [c19b0] | (simp only [i64_w, i32_w]; rw [c19b0]) | skip)
  by_cases c20 : t372 = t377
  case neg =>
   rw [if_neg c20] at H
   have c20b0 : (t372 == t377) = false := beq_eq_false_iff_ne.mpr c20
   have c20b1 : (t372 != t377) = true := bne_iff_ne.mpr c20
   have H' := Aside0.mk H
   clear H
   go_wp2
   go_meet
   case rel => exact ⟨_, (true), s12q1, H', ⟨by have := HJ4.out; first | omega | exact Nat.le_refl _⟩, ⟨by repeat (first | (with_reducible first | exact HB.out | apply below_alloc | apply pw_below_drewN | apply below_drew1) | exact HB.out)⟩⟩
  rw [if_pos c20] at H
  have c20b0 : (t372 == t377) = true := beq_iff_eq.mpr c20
  have c20b1 : (t372 != t377) = false := bne_eq_false_iff_eq.mpr c20
  clear c20
  replace H := Option.bind_eq_some_iff.mp H
  obtain ⟨t381, A210, H⟩ := H
  replace H : (peristylelaw10_CostOrdersMatchSpec.j1 kj4 l0 l1 (!t381)) = some r := H
  have A21 := Aside0.mk A210
  clear A210
  have H' := Aside0.mk H
  clear H
  obtain ⟨Ao22, co22, eo22⟩ := Kd.R_slice HO375.out
  subst eo22
  obtain ⟨Ao23, co23, eo23⟩ := Kd.R_slice HO380.out
  subst eo23
  go_wp2_with (first | (go_at_call 19; (with_reducible refine (slices_Equal_int_int.calls kj4 _ _ t371 _ _ t376 t381 _ ?side1 ?side2 ?side3 ?side4 A21.out).mono ?_); (case side1 => repeat (first | exact (Kd.R_reads' HO375.out).2.2 | (with_reducible refine Kd.C_alloc ?_ _) | (with_reducible refine Kd.C_drewN ?_ _) | (with_reducible refine Kd.C_drew ?_))); (case side2 => exact (Kd.R_reads' HO375.out).2.1); (case side3 => repeat (first | exact (Kd.R_reads' HO380.out).2.2 | (with_reducible refine Kd.C_alloc ?_ _) | (with_reducible refine Kd.C_drewN ?_ _) | (with_reducible refine Kd.C_drew ?_))); (case side4 => exact (Kd.R_reads' HO380.out).2.1); rintro e w' ⟨rfl, ⟨nd, rfl⟩⟩))
  go_meet
  case rel => exact ⟨_, (!t381), s12q1, H', ⟨by have := HJ4.out; first | omega | exact Nat.le_refl _⟩, ⟨by repeat (first | (with_reducible first | exact HB.out | apply below_alloc | apply pw_below_drewN | apply below_drew1) | exact HB.out)⟩⟩
 clear HC16
 try clear c1
 try clear c2
 try clear p2
 try clear c4
 try clear c8
 try clear c8b0
 try clear c8b1
 try clear c9
 try clear c9b0
 try clear c9b1
 try clear c13
 try clear c17
 try clear c18
 try clear c19
 try clear c19b0
 try clear c19b1
 try clear c20
 try clear c20b0
 try clear c20b1
 try clear c21
 try clear p2
 obtain ⟨kq, x66_15, rfl, HA, HJ15, HB⟩ := hcut
 cases kq with
 | zero => exact absurd HA.out (by simp [peristylelaw10_CostOrdersMatchSpec.j1])
 | succ kj15 => ?_
 have H := HA.out
 clear HA
 simp only [peristylelaw10_CostOrdersMatchSpec.j1] at H
 by_cases c24 : x66_15 = true
 · subst c24
   have H1 : (some false) = some r := by rw [if_pos rfl] at H; exact H
   clear H
   have H := H1
   clear H1
   obtain rfl := Option.some.inj H
   go_wp2
   go_ret
   exact ⟨by first | rfl | (simp [errW_none, errW_some] <;> rfl) | (simp [*, errW_none, errW_some] <;> rfl), by repeat (first | (with_reducible first | exact HB.out | apply below_alloc | apply pw_below_drewN | apply below_drew1) | exact HB.out)⟩
 replace c24 := Bool.eq_false_iff.mpr c24
 subst c24
 have H1 : ((cost_Greedy.f kj15 l0 l1).bind fun bt382 => ((peristyleref10_Greedy.f kj15 l0 l1).bind fun bt387 => (if bt382.2.2 = bt387.2.2 then (if bt382.2.1 = bt387.2.1 then ((slices_Equal_int_int.f kj15 bt382.1 bt387.1).bind fun t392 => (if t392 = true then ((peristylelaw10_awake.f kj15).bind fun t393 => (some t393)) else (some false))) else (some false)) else (some false)))) = some r := s12q7
 clear H
 have H := H1
 clear H1
 replace H := Option.bind_eq_some_iff.mp H
 obtain ⟨⟨t382, t385, t386⟩, A250, H⟩ := H
 replace H : ((peristyleref10_Greedy.f kj15 l0 l1).bind fun bt387 => (if t386 = bt387.2.2 then (if t385 = bt387.2.1 then ((slices_Equal_int_int.f kj15 t382 bt387.1).bind fun t392 => (if t392 = true then ((peristylelaw10_awake.f kj15).bind fun t393 => (some t393)) else (some false))) else (some false)) else (some false))) = some r := H
 have A25 := Aside0.mk A250
 clear A250
 replace H := Option.bind_eq_some_iff.mp H
 obtain ⟨⟨t387, t390, t391⟩, A260, H⟩ := H
 replace H : (if t386 = t391 then (if t385 = t390 then ((slices_Equal_int_int.f kj15 t382 t387).bind fun t392 => (if t392 = true then ((peristylelaw10_awake.f kj15).bind fun t393 => (some t393)) else (some false))) else (some false)) else (some false)) = some r := H
 have A26 := Aside0.mk A260
 clear A260
 by_cases c27 : t386 = t391
 case neg =>
  rw [if_neg c27] at H
  have c27b0 : (t386 == t391) = false := beq_eq_false_iff_ne.mpr c27
  have c27b1 : (t386 != t391) = true := bne_iff_ne.mpr c27
  obtain rfl := Option.some.inj H
  go_wp2_with (first | ((with_reducible refine gate_callee (f := 22) rfl ?_); refine goesL_ (some 70) rfl rfl Tryd.func22 s12q0 rfl #[.slice A0 l0.length c0, .slice A1 l1.length c1] rfl s12q6 ?_; (with_reducible refine (cost_Greedy.calls kj15 _ _ l0 _ _ l1 t382 t385 t386 _ ?side1 ?side2 ?side3 ?side4 A25.out).mono ?_); (case side1 => repeat (first | exact (Kd.C_below HR0.out HB.out) | (with_reducible refine Kd.C_alloc ?_ _) | (with_reducible refine Kd.C_drewN ?_ _) | (with_reducible refine Kd.C_drew ?_))); (case side2 => exact HC0.out); (case side3 => repeat (first | exact (Kd.C_below HR1.out HB.out) | (with_reducible refine Kd.C_alloc ?_ _) | (with_reducible refine Kd.C_drewN ?_ _) | (with_reducible refine Kd.C_drew ?_))); (case side4 => exact HC1.out); rintro e w43 ⟨v383, rfl, ho0, hb⟩; refine ⟨_, rfl, ?_⟩; have n0_ := Aside0.mk (Kd.V_lower (Kd.V_mono (ok' := fun k_ => True) ho0 (fun k_ hk_ => trivial)) (below_size s12q5)); have n1_ := Aside0.mk (below_step s12q5 hb); clear HB; have HO384 := n0_; have HB := n1_; clear n0_ n1_; (try clear hb); (try clear hb2); (try clear hk); (try clear hi); (try clear ho0)) | ((with_reducible refine gate_callee (f := 23) rfl ?_); refine goesL_ (some 77) rfl rfl Tryd.func23 s12q0 rfl #[.slice A0 l0.length c0, .slice A1 l1.length c1] rfl s12q6 ?_; (with_reducible refine (peristyleref10_Greedy.calls kj15 _ _ l0 _ _ l1 t387 t390 t391 _ ?side1 ?side2 ?side3 ?side4 A26.out).mono ?_); (case side1 => repeat (first | exact (Kd.C_below HR0.out HB.out) | (with_reducible refine Kd.C_alloc ?_ _) | (with_reducible refine Kd.C_drewN ?_ _) | (with_reducible refine Kd.C_drew ?_))); (case side2 => exact HC0.out); (case side3 => repeat (first | exact (Kd.C_below HR1.out HB.out) | (with_reducible refine Kd.C_alloc ?_ _) | (with_reducible refine Kd.C_drewN ?_ _) | (with_reducible refine Kd.C_drew ?_))); (case side4 => exact HC1.out); rintro e w44 ⟨v388, rfl, ho0, hb⟩; refine ⟨_, rfl, ?_⟩; have n0_ := Aside0.mk (Kd.V_below s12q4 hb); have n1_ := Aside0.mk (Kd.V_lower (Kd.V_mono (ok' := fun k_ => True) ho0 (fun k_ hk_ => trivial)) (below_size s12q5)); have n2_ := Aside0.mk (below_step s12q5 hb); clear HO384; clear HB; have HO384 := n0_; have HO389 := n1_; have HB := n2_; clear n0_ n1_ n2_; (try clear hb); (try clear hb2); (try clear hk); (try clear hi); (try clear ho0)))
  go_ret
  exact ⟨by first | rfl | (simp [errW_none, errW_some] <;> rfl) | (simp [*, errW_none, errW_some] <;> rfl), by repeat (first | (with_reducible first | exact HB.out | apply below_alloc | apply pw_below_drewN | apply below_drew1) | exact HB.out)⟩
 rw [if_pos c27] at H
 have c27b0 : (t386 == t391) = true := beq_iff_eq.mpr c27
 have c27b1 : (t386 != t391) = false := bne_eq_false_iff_eq.mpr c27
 clear c27
 by_cases c28 : t385 = t390
 case neg =>
  rw [if_neg c28] at H
  have c28b0 : (t385 == t390) = false := beq_eq_false_iff_ne.mpr c28
  have c28b1 : (t385 != t390) = true := bne_iff_ne.mpr c28
  obtain rfl := Option.some.inj H
  go_wp2_with (first | ((with_reducible refine gate_callee (f := 22) rfl ?_); refine goesL_ (some 70) rfl rfl Tryd.func22 s12q0 rfl #[.slice A0 l0.length c0, .slice A1 l1.length c1] rfl s12q6 ?_; (with_reducible refine (cost_Greedy.calls kj15 _ _ l0 _ _ l1 t382 t385 t386 _ ?side1 ?side2 ?side3 ?side4 A25.out).mono ?_); (case side1 => repeat (first | exact (Kd.C_below HR0.out HB.out) | (with_reducible refine Kd.C_alloc ?_ _) | (with_reducible refine Kd.C_drewN ?_ _) | (with_reducible refine Kd.C_drew ?_))); (case side2 => exact HC0.out); (case side3 => repeat (first | exact (Kd.C_below HR1.out HB.out) | (with_reducible refine Kd.C_alloc ?_ _) | (with_reducible refine Kd.C_drewN ?_ _) | (with_reducible refine Kd.C_drew ?_))); (case side4 => exact HC1.out); rintro e w41 ⟨v383, rfl, ho0, hb⟩; refine ⟨_, rfl, ?_⟩; have n0_ := Aside0.mk (Kd.V_lower (Kd.V_mono (ok' := fun k_ => True) ho0 (fun k_ hk_ => trivial)) (below_size s12q5)); have n1_ := Aside0.mk (below_step s12q5 hb); clear HB; have HO384 := n0_; have HB := n1_; clear n0_ n1_; (try clear hb); (try clear hb2); (try clear hk); (try clear hi); (try clear ho0)) | ((with_reducible refine gate_callee (f := 23) rfl ?_); refine goesL_ (some 77) rfl rfl Tryd.func23 s12q0 rfl #[.slice A0 l0.length c0, .slice A1 l1.length c1] rfl s12q6 ?_; (with_reducible refine (peristyleref10_Greedy.calls kj15 _ _ l0 _ _ l1 t387 t390 t391 _ ?side1 ?side2 ?side3 ?side4 A26.out).mono ?_); (case side1 => repeat (first | exact (Kd.C_below HR0.out HB.out) | (with_reducible refine Kd.C_alloc ?_ _) | (with_reducible refine Kd.C_drewN ?_ _) | (with_reducible refine Kd.C_drew ?_))); (case side2 => exact HC0.out); (case side3 => repeat (first | exact (Kd.C_below HR1.out HB.out) | (with_reducible refine Kd.C_alloc ?_ _) | (with_reducible refine Kd.C_drewN ?_ _) | (with_reducible refine Kd.C_drew ?_))); (case side4 => exact HC1.out); rintro e w42 ⟨v388, rfl, ho0, hb⟩; refine ⟨_, rfl, ?_⟩; have n0_ := Aside0.mk (Kd.V_below s12q4 hb); have n1_ := Aside0.mk (Kd.V_lower (Kd.V_mono (ok' := fun k_ => True) ho0 (fun k_ hk_ => trivial)) (below_size s12q5)); have n2_ := Aside0.mk (below_step s12q5 hb); clear HO384; clear HB; have HO384 := n0_; have HO389 := n1_; have HB := n2_; clear n0_ n1_ n2_; (try clear hb); (try clear hb2); (try clear hk); (try clear hi); (try clear ho0)))
  go_ret
  exact ⟨by first | rfl | (simp [errW_none, errW_some] <;> rfl) | (simp [*, errW_none, errW_some] <;> rfl), by repeat (first | (with_reducible first | exact HB.out | apply below_alloc | apply pw_below_drewN | apply below_drew1) | exact HB.out)⟩
 rw [if_pos c28] at H
 have c28b0 : (t385 == t390) = true := beq_iff_eq.mpr c28
 have c28b1 : (t385 != t390) = false := bne_eq_false_iff_eq.mpr c28
 clear c28
 replace H := Option.bind_eq_some_iff.mp H
 obtain ⟨t392, A290, H⟩ := H
 replace H : (if t392 = true then ((peristylelaw10_awake.f kj15).bind fun t393 => (some t393)) else (some false)) = some r := H
 have A29 := Aside0.mk A290
 clear A290
 by_cases c30 : t392 = true
 case neg =>
  replace c30 := Bool.eq_false_iff.mpr c30
  subst c30
  have H1 : (some false) = some r := s12q7
  clear H
  have H := H1
  clear H1
  obtain rfl := Option.some.inj H
  go_wp2_with (first | ((with_reducible refine gate_callee (f := 22) rfl ?_); refine goesL_ (some 70) rfl rfl Tryd.func22 s12q0 rfl #[.slice A0 l0.length c0, .slice A1 l1.length c1] rfl s12q6 ?_; (with_reducible refine (cost_Greedy.calls kj15 _ _ l0 _ _ l1 t382 t385 t386 _ ?side1 ?side2 ?side3 ?side4 A25.out).mono ?_); (case side1 => repeat (first | exact (Kd.C_below HR0.out HB.out) | (with_reducible refine Kd.C_alloc ?_ _) | (with_reducible refine Kd.C_drewN ?_ _) | (with_reducible refine Kd.C_drew ?_))); (case side2 => exact HC0.out); (case side3 => repeat (first | exact (Kd.C_below HR1.out HB.out) | (with_reducible refine Kd.C_alloc ?_ _) | (with_reducible refine Kd.C_drewN ?_ _) | (with_reducible refine Kd.C_drew ?_))); (case side4 => exact HC1.out); rintro e w37 ⟨v383, rfl, ho0, hb⟩; refine ⟨_, rfl, ?_⟩; have n0_ := Aside0.mk (Kd.V_lower (Kd.V_mono (ok' := fun k_ => True) ho0 (fun k_ hk_ => trivial)) (below_size s12q5)); have n1_ := Aside0.mk (below_step s12q5 hb); clear HB; have HO384 := n0_; have HB := n1_; clear n0_ n1_; (try clear hb); (try clear hb2); (try clear hk); (try clear hi); (try clear ho0)) | ((with_reducible refine gate_callee (f := 23) rfl ?_); refine goesL_ (some 77) rfl rfl Tryd.func23 s12q0 rfl #[.slice A0 l0.length c0, .slice A1 l1.length c1] rfl s12q6 ?_; (with_reducible refine (peristyleref10_Greedy.calls kj15 _ _ l0 _ _ l1 t387 t390 t391 _ ?side1 ?side2 ?side3 ?side4 A26.out).mono ?_); (case side1 => repeat (first | exact (Kd.C_below HR0.out HB.out) | (with_reducible refine Kd.C_alloc ?_ _) | (with_reducible refine Kd.C_drewN ?_ _) | (with_reducible refine Kd.C_drew ?_))); (case side2 => exact HC0.out); (case side3 => repeat (first | exact (Kd.C_below HR1.out HB.out) | (with_reducible refine Kd.C_alloc ?_ _) | (with_reducible refine Kd.C_drewN ?_ _) | (with_reducible refine Kd.C_drew ?_))); (case side4 => exact HC1.out); rintro e w38 ⟨v388, rfl, ho0, hb⟩; refine ⟨_, rfl, ?_⟩; have n0_ := Aside0.mk (Kd.V_below s12q4 hb); have n1_ := Aside0.mk (Kd.V_lower (Kd.V_mono (ok' := fun k_ => True) ho0 (fun k_ hk_ => trivial)) (below_size s12q5)); have n2_ := Aside0.mk (below_step s12q5 hb); clear HO384; clear HB; have HO384 := n0_; have HO389 := n1_; have HB := n2_; clear n0_ n1_ n2_; (try clear hb); (try clear hb2); (try clear hk); (try clear hi); (try clear ho0); obtain ⟨Ao39, co39, eo39⟩ := Kd.V_slice HO384.out; subst eo39; obtain ⟨Ao40, co40, eo40⟩ := Kd.V_slice HO389.out; subst eo40) | (go_at_call 19; (with_reducible refine (slices_Equal_int_int.calls kj15 _ _ t382 _ _ t387 false _ ?side1 ?side2 ?side3 ?side4 A29.out).mono ?_); (case side1 => repeat (first | exact (Kd.V_reads' HO384.out).2.2 | (with_reducible refine Kd.C_alloc ?_ _) | (with_reducible refine Kd.C_drewN ?_ _) | (with_reducible refine Kd.C_drew ?_))); (case side2 => exact (Kd.V_reads' HO384.out).2.1); (case side3 => repeat (first | exact (Kd.V_reads' HO389.out).2.2 | (with_reducible refine Kd.C_alloc ?_ _) | (with_reducible refine Kd.C_drewN ?_ _) | (with_reducible refine Kd.C_drew ?_))); (case side4 => exact (Kd.V_reads' HO389.out).2.1); rintro e w' ⟨rfl, ⟨nd, rfl⟩⟩))
  go_ret
  exact ⟨by first | rfl | (simp [errW_none, errW_some] <;> rfl) | (simp [*, errW_none, errW_some] <;> rfl), by repeat (first | (with_reducible first | exact HB.out | apply below_alloc | apply pw_below_drewN | apply below_drew1) | exact HB.out)⟩
 subst c30
 have H1 : ((peristylelaw10_awake.f kj15).bind fun t393 => (some t393)) = some r := by rw [if_pos rfl] at H; exact H
 clear H
 have H := H1
 clear H1
 replace H := Option.bind_eq_some_iff.mp H
 obtain ⟨t393, A310, H⟩ := H
 replace H : (some t393) = some r := H
 have A31 := Aside0.mk A310
 clear A310
 obtain rfl := Option.some.inj H
 go_wp2_with (first | ((with_reducible refine gate_callee (f := 22) rfl ?_); refine goesL_ (some 70) rfl rfl Tryd.func22 s12q0 rfl #[.slice A0 l0.length c0, .slice A1 l1.length c1] rfl s12q6 ?_; (with_reducible refine (cost_Greedy.calls kj15 _ _ l0 _ _ l1 t382 t385 t386 _ ?side1 ?side2 ?side3 ?side4 A25.out).mono ?_); (case side1 => repeat (first | exact (Kd.C_below HR0.out HB.out) | (with_reducible refine Kd.C_alloc ?_ _) | (with_reducible refine Kd.C_drewN ?_ _) | (with_reducible refine Kd.C_drew ?_))); (case side2 => exact HC0.out); (case side3 => repeat (first | exact (Kd.C_below HR1.out HB.out) | (with_reducible refine Kd.C_alloc ?_ _) | (with_reducible refine Kd.C_drewN ?_ _) | (with_reducible refine Kd.C_drew ?_))); (case side4 => exact HC1.out); rintro e w32 ⟨v383, rfl, ho0, hb⟩; refine ⟨_, rfl, ?_⟩; have n0_ := Aside0.mk (Kd.V_lower (Kd.V_mono (ok' := fun k_ => True) ho0 (fun k_ hk_ => trivial)) (below_size s12q5)); have n1_ := Aside0.mk (below_step s12q5 hb); clear HB; have HO384 := n0_; have HB := n1_; clear n0_ n1_; (try clear hb); (try clear hb2); (try clear hk); (try clear hi); (try clear ho0)) | ((with_reducible refine gate_callee (f := 23) rfl ?_); refine goesL_ (some 77) rfl rfl Tryd.func23 s12q0 rfl #[.slice A0 l0.length c0, .slice A1 l1.length c1] rfl s12q6 ?_; (with_reducible refine (peristyleref10_Greedy.calls kj15 _ _ l0 _ _ l1 t387 t390 t391 _ ?side1 ?side2 ?side3 ?side4 A26.out).mono ?_); (case side1 => repeat (first | exact (Kd.C_below HR0.out HB.out) | (with_reducible refine Kd.C_alloc ?_ _) | (with_reducible refine Kd.C_drewN ?_ _) | (with_reducible refine Kd.C_drew ?_))); (case side2 => exact HC0.out); (case side3 => repeat (first | exact (Kd.C_below HR1.out HB.out) | (with_reducible refine Kd.C_alloc ?_ _) | (with_reducible refine Kd.C_drewN ?_ _) | (with_reducible refine Kd.C_drew ?_))); (case side4 => exact HC1.out); rintro e w33 ⟨v388, rfl, ho0, hb⟩; refine ⟨_, rfl, ?_⟩; have n0_ := Aside0.mk (Kd.V_below s12q4 hb); have n1_ := Aside0.mk (Kd.V_lower (Kd.V_mono (ok' := fun k_ => True) ho0 (fun k_ hk_ => trivial)) (below_size s12q5)); have n2_ := Aside0.mk (below_step s12q5 hb); clear HO384; clear HB; have HO384 := n0_; have HO389 := n1_; have HB := n2_; clear n0_ n1_ n2_; (try clear hb); (try clear hb2); (try clear hk); (try clear hi); (try clear ho0); obtain ⟨Ao34, co34, eo34⟩ := Kd.V_slice HO384.out; subst eo34; obtain ⟨Ao35, co35, eo35⟩ := Kd.V_slice HO389.out; subst eo35) | (go_at_call 19; (with_reducible refine (slices_Equal_int_int.calls kj15 _ _ t382 _ _ t387 true _ ?side1 ?side2 ?side3 ?side4 A29.out).mono ?_); (case side1 => repeat (first | exact (Kd.V_reads' HO384.out).2.2 | (with_reducible refine Kd.C_alloc ?_ _) | (with_reducible refine Kd.C_drewN ?_ _) | (with_reducible refine Kd.C_drew ?_))); (case side2 => exact (Kd.V_reads' HO384.out).2.1); (case side3 => repeat (first | exact (Kd.V_reads' HO389.out).2.2 | (with_reducible refine Kd.C_alloc ?_ _) | (with_reducible refine Kd.C_drewN ?_ _) | (with_reducible refine Kd.C_drew ?_))); (case side4 => exact (Kd.V_reads' HO389.out).2.1); rintro e w' ⟨rfl, ⟨nd, rfl⟩⟩) | (go_at_call 16; (with_reducible refine (peristylelaw10_awake.calls kj15  t393 _ ?side1 A31.out).mono ?_); (case side1 => exact Glob_below HG.out s12q5); rintro e w36 ⟨rfl, hb⟩; have n0_ := Aside0.mk (Kd.V_below s12q4 hb); have n1_ := Aside0.mk (Kd.V_below (by (with_reducible repeat (first | apply Kd.V_alloc | apply Kd.V_drewN | apply Kd.V_drew)); exact HO389.out) hb); have n2_ := Aside0.mk (below_step s12q5 hb); clear HO384; clear HO389; clear HB; have HO384 := n0_; have HO389 := n1_; have HB := n2_; clear n0_ n1_ n2_; (try clear hb); (try clear hb2); (try clear hk); (try clear hi)))
 go_ret
 exact ⟨by first | rfl | (simp [errW_none, errW_some] <;> rfl) | (simp [*, errW_none, errW_some] <;> rfl), by repeat (first | (with_reducible first | exact HB.out | apply below_alloc | apply pw_below_drewN | apply below_drew1) | exact HB.out)⟩
end Go.Proofs.YtgcijejmmhjibaaDoor.G
