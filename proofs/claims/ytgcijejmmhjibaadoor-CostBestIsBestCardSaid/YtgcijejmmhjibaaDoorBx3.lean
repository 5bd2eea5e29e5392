-- Printed by a program of this session (a patched print).
import Derived.Test.YtgcijejmmhjibaaDoorBx0
import Derived.Test.YtgcijejmmhjibaaDoorBx1
import Derived.Test.YtgcijejmmhjibaaDoorBx2
namespace Go.Proofs.YtgcijejmmhjibaaDoor.B
open Go.RowKit Go.Proofs.YtgcijejmmhjibaaDoorW.PrintWords Go.Proofs.YtgcijejmmhjibaaDoorW.PrintLast Go.Proofs.YtgcijejmmhjibaaDoorW.PrintMore
attribute [local go_sem] max2_int min2_int max_two min_two max_three min_three max_four min_four   -- for this text's walks alone
set_option linter.unusedVariables false
set_option linter.unusedSimpArgs false

theorem s3qm0 {p : Prop} (h : p := by repeat' first | (with_reducible exact ih0 _ _ _ _ _ _ _ _) | (with_reducible exact ih1 _ _ _ _ _ _ _ _ _ _) | (with_reducible exact cost_checkRelations.mono _ _ _) | (with_reducible exact cost_size.mono _ _ _ _) | (with_reducible exact LeO.refl _) | (with_reducible exact LeO.none _) | (with_reducible refine LeO.ite ?_ ?_) | (with_reducible refine LeO.bind ?_ (fun _ => ?_)) | exact ih0 _ _ _ _ _ _ _ _ | exact ih1 _ _ _ _ _ _ _ _ _ _ | exact cost_checkRelations.mono _ _ _ | exact cost_size.mono _ _ _ _ | exact LeO.none _ | refine LeO.ite ?_ ?_ | refine LeO.bind ?_ (fun _ => ?_)) : p := h
theorem s3q0 {p : Prop} (h : p := by kernel_rfl) : p := h
theorem s3q1 {p : Prop} (h : p := by first | rfl | (simp; done) | (simp [*]; done)) : p := h
theorem s3q2 {p : Prop} (h : p := by first | (with_reducible assumption) | assumption) : p := h
theorem s3q3 {p : Prop} (h : p := by repeat (first | (with_reducible first | exact HB.out | apply below_alloc | apply pw_below_drewN | apply below_drew1) | exact HB.out)) : p := h
theorem s3q4 {p : Prop} (h : p := by (try simp only [List.map_toArray, List.map_cons, List.map_nil]); first | done | rfl | (simp only [List.length_drop, List.length_take]; rfl)) : p := h
theorem s3q5 {p : Prop} (h : p := by rw [if_neg (show ¬ (false = true) by decide)] at H; exact H) : p := h
/-! ### cost_CostOf: function 14 -/
mutual
def cost_CostOf.l0 : Nat → List Int → List (S75) → List Int → Int → Int → List Int → Int → Int → Option (Int × Int)
  | 0, _, _, _, _, _, _, _, _ => none
  | k + 1, x0, x1, x9, x10, x11, x21, x22, x23 => if x23 < x22 then (if 0 ≤ x23 then (if x23 < (x21.length : Int) then ((kit_In.f (rd x21 x23) (-1) (wrap64 ((x0.length : Int) - 1))).bind fun t115 => (if t115 = true then (if (rd x21 x23) ≥ 0 then (if 0 ≤ (rd x21 x23) then (cost_CostOf.j1 k x0 x1 x9 x10 x11 (rd x21 x23) x21 x22 x23 ((Go.bits .and .i64 (shr .i64 x11 (rd x21 x23)) 1) == 1)) else (none)) else (cost_CostOf.j1 k x0 x1 x9 x10 x11 (rd x21 x23) x21 x22 x23 false)) else (some (0, 1)))) else (none)) else (none)) else (if (x9.length : Int) = 1 then (if x11 = (wrap64 ((shl .i64 1 (x0.length : Int)) - 1)) then (some (x10, 0)) else (some (0, 13))) else (some (0, 13)))
def cost_CostOf.j1 : Nat → List Int → List (S75) → List Int → Int → Int → Int → List Int → Int → Int → Bool → Option (Int × Int)
  | 0, _, _, _, _, _, _, _, _, _, _ => none
  | k + 1, x0, x1, x9, x10, x11, x13, x21, x22, x23, x62 => if x62 = true then (some (0, 7)) else (if x13 ≥ 0 then (if 0 ≤ x13 then (if x9.length < 17592186044416 then (cost_CostOf.l0 k x0 x1 (x9 ++ [shl .i64 1 x13]) x10 (Go.bits .or .i64 x11 (shl .i64 1 x13)) x21 x22 (wrap64 (x23 + 1))) else (none)) else (none)) else (if (x9.length : Int) < 2 then (some (0, 13)) else (if 0 ≤ (wrap64 ((x9.length : Int) - 2)) then (if (wrap64 ((x9.length : Int) - 2)) < (x9.length : Int) then (if 0 ≤ (wrap64 ((wrap64 ((x9.length : Int) - 2)) + 1)) then (if (wrap64 ((wrap64 ((x9.length : Int) - 2)) + 1)) < (x9.length : Int) then (if (wrap64 ((x9.length : Int) - 2)) ≤ (x9.length : Int) then ((some (x9.take ((wrap64 ((x9.length : Int) - 2)) : Int).toNat : List Int)).bind fun y121 => (if y121.length < 17592186044416 then ((some (y121 ++ [Go.bits .or .i64 (rd x9 (wrap64 ((x9.length : Int) - 2))) (rd x9 (wrap64 ((wrap64 ((x9.length : Int) - 2)) + 1)))] : List Int)).bind fun y124 => (if (wrap64 ((x9.length : Int) - 2)) < (y124.length : Int) then ((cost_size.f k x0 x1 (rd y124 (wrap64 ((x9.length : Int) - 2)))).bind fun t128 => (cost_CostOf.l0 k x0 x1 y124 (mn 1000000000000000 (wrap64 (x10 + t128))) x11 x21 x22 (wrap64 (x23 + 1)))) else (none))) else (none))) else (none)) else (none)) else (none)) else (none)) else (none))))
end
def cost_CostOf.f (k : Nat) (l0 : List Int) (l1 : List (S75)) (l2 : List Int) : Option (Int × Int) := (cost_checkRelations.f k l0 l1).bind fun t113 => (if t113 = 0 then (cost_CostOf.l0 k l0 l1 ([] : List Int) 0 0 l2 (l2.length : Int) 0) else (some (0, t113)))
theorem cost_CostOf.mono_l : ∀ k, (∀ y0 y1 y2 y3 y4 y5 y6 y7, LeO (cost_CostOf.l0 k y0 y1 y2 y3 y4 y5 y6 y7) (cost_CostOf.l0 (k + 1) y0 y1 y2 y3 y4 y5 y6 y7)) ∧ (∀ y0 y1 y2 y3 y4 y5 y6 y7 y8 y9, LeO (cost_CostOf.j1 k y0 y1 y2 y3 y4 y5 y6 y7 y8 y9) (cost_CostOf.j1 (k + 1) y0 y1 y2 y3 y4 y5 y6 y7 y8 y9))
  | 0 => ⟨fun _ _ _ _ _ _ _ _ r h => by simp [cost_CostOf.l0] at h, fun _ _ _ _ _ _ _ _ _ _ r h => by simp [cost_CostOf.j1] at h⟩
  | k + 1 => by
    obtain ⟨ih0, ih1⟩ := cost_CostOf.mono_l k
    refine ⟨?_, ?_⟩
    · intro y0 y1 y2 y3 y4 y5 y6 y7
      unfold cost_CostOf.l0
      exact s3qm0
    · intro y0 y1 y2 y3 y4 y5 y6 y7 y8 y9
      unfold cost_CostOf.j1
      exact s3qm0
theorem cost_CostOf.mono : ∀ a0 a1 a2 k, LeO (cost_CostOf.f k a0 a1 a2) (cost_CostOf.f (k + 1) a0 a1 a2) := by
 intro a0 a1 a2 k
 obtain ⟨ih0, ih1⟩ := cost_CostOf.mono_l k
 unfold cost_CostOf.f
 repeat' first
  | (with_reducible exact ih0 _ _ _ _ _ _ _ _)
  | (with_reducible exact ih1 _ _ _ _ _ _ _ _ _ _)
  | (with_reducible exact cost_checkRelations.mono _ _ _)
  | (with_reducible exact cost_size.mono _ _ _ _)
  | (with_reducible exact LeO.refl _)
  | (with_reducible exact LeO.none _)
  | (with_reducible refine LeO.ite ?_ ?_)
  | (with_reducible refine LeO.bind ?_ (fun _ => ?_))
  | exact ih0 _ _ _ _ _ _ _ _
  | exact ih1 _ _ _ _ _ _ _ _ _ _
  | exact cost_checkRelations.mono _ _ _
  | exact cost_size.mono _ _ _ _
  | exact LeO.none _
  | refine LeO.ite ?_ ?_
  | refine LeO.bind ?_ (fun _ => ?_)
def cost_CostOf.T10 : Bool × List (List Nat × List Nat) := (true, [([], []), ([], []), ([0, 1], [0, 1]), ([], []), ([], []), ([3, 4], [3, 4]), ([5], [5]), ([], []), ([], []), ([8], [8]), ([7, 9], [7, 9]), ([10], [10]), ([6, 11], [6, 11]), ([12], [12]), ([2, 13], [2, 13]), ([14, 14, 0, 1, 2, 3, 4, 5, 6, 7, 8, 9, 10, 11, 12, 13, 14], [0, 3, 7, 14])])
def cost_CostOf.B10 : List Nat := [0, 0, 3, 0, 0, 24, 56, 0, 0, 256, 896, 1920, 4088, 8184, 16383, 32767]
theorem cost_CostOf.tab10 : rtab .any (opsOf Tryd.f14 10) = cost_CostOf.T10 := by kernel_rfl
theorem cost_CostOf.bits10 : waitsOk cost_CostOf.T10.2 cost_CostOf.B10 = true := by kernel_rfl
set_option maxHeartbeats 8000000 in
set_option maxRecDepth 100000 in
theorem cost_CostOf.calls (k : Nat) (A0 : Option Addr) (c0 : Nat) (l0 : List Int) (A1 : Option Addr) (c1 : Nat) (l1 : List (S75)) (A2 : Option Addr) (c2 : Nat) (l2 : List Int) (r1 : Int) (r2 : Int) (w : World) (hr0 : Kd.C (Kd.int .i64) w A0 l0.length l0) (hc0 : l0.length ≤ c0) (hr1 : Kd.C k75 w A1 l1.length l1) (hc1 : l1.length ≤ c1) (hr2 : Kd.C (Kd.int .i64) w A2 l2.length l2) (hc2 : l2.length ≤ c2) (h : cost_CostOf.f k l0 l1 l2 = some (r1, r2)) :
    Calls Tryd.prog 14 #[.slice A0 l0.length c0, .slice A1 l1.length c1, .slice A2 l2.length c2] w fun e w' => e = .returned (.tuple #[.int .i64 r1, .int .i64 r2]) ∧ Below w.heap.size w w' := by
 have HR0 := Aside0.mk hr0
 have HC0 := Aside0.mk hc0
 clear hr0 hc0
 have HR1 := Aside0.mk hr1
 have HC1 := Aside0.mk hc1
 clear hr1 hc1
 have HR2 := Aside0.mk hr2
 have HC2 := Aside0.mk hc2
 clear hr2 hc2
 have HB := Aside0.mk (Below.refl w.heap.size w)
 have H : ((cost_checkRelations.f k l0 l1).bind fun t113 => (if t113 = 0 then (cost_CostOf.l0 k l0 l1 ([] : List Int) 0 0 l2 (l2.length : Int) 0) else (some (0, t113)))) = some (r1, r2) := h
 clear h
 replace H := Option.bind_eq_some_iff.mp H
 obtain ⟨t113, A40, H⟩ := H
 replace H : (if t113 = 0 then (cost_CostOf.l0 k l0 l1 ([] : List Int) 0 0 l2 (l2.length : Int) 0) else (some (0, t113))) = some (r1, r2) := H
 have A4 := Aside0.mk A40
 clear A40
 by_cases c5 : t113 = 0
 case neg =>
  rw [if_neg c5] at H
  have c5b0 : (t113 == 0) = false := beq_eq_false_iff_ne.mpr c5
  have c5b1 : (t113 != 0) = true := bne_iff_ne.mpr c5
  simp only [Option.some.injEq, Prod.mk.injEq] at H
  obtain ⟨rfl, rfl⟩ := H
  go_enter Tryd.func14, Tryd.ntmps14
  go_wp2_with (first | ((with_reducible refine gate_callee (f := 40) rfl ?_); refine goesL_ (some 17) rfl rfl Tryd.func40 s3q0 rfl #[.slice A0 l0.length c0, .slice A1 l1.length c1] rfl s3q4 ?_; (with_reducible refine (cost_checkRelations.calls k _ _ l0 _ _ l1 t113 _ ?side1 ?side2 ?side3 ?side4 A4.out).mono ?_); (case side1 => repeat (first | exact HR0.out | (with_reducible refine Kd.C_alloc ?_ _) | (with_reducible refine Kd.C_drewN ?_ _) | (with_reducible refine Kd.C_drew ?_))); (case side2 => exact HC0.out); (case side3 => repeat (first | exact HR1.out | (with_reducible refine Kd.C_alloc ?_ _) | (with_reducible refine Kd.C_drewN ?_ _) | (with_reducible refine Kd.C_drew ?_))); (case side4 => exact HC1.out); rintro e w48 ⟨rfl, hb⟩; refine ⟨_, rfl, ?_⟩; have n0_ := Aside0.mk (below_step s3q3 hb); clear HB; have HB := n0_; clear n0_; (try clear hb); (try clear hb2); (try clear hk); (try clear hi)))
  go_ret2
  exact ⟨by first | rfl | (simp [errW_none, errW_some] <;> rfl) | (simp [*, errW_none, errW_some] <;> rfl), by repeat (first | (with_reducible first | exact HB.out | apply below_alloc | apply pw_below_drewN | apply below_drew1) | exact HB.out)⟩
 rw [if_pos c5] at H
 have c5b0 : (t113 == 0) = true := beq_iff_eq.mpr c5
 have c5b1 : (t113 != 0) = false := bne_eq_false_iff_eq.mpr c5
 clear c5
 have H' := Aside0.mk H
 clear H
 go_enter Tryd.func14, Tryd.ntmps14
 go_wp2_with (first | ((with_reducible refine gate_callee (f := 40) rfl ?_); refine goesL_ (some 17) rfl rfl Tryd.func40 s3q0 rfl #[.slice A0 l0.length c0, .slice A1 l1.length c1] rfl s3q4 ?_; (with_reducible refine (cost_checkRelations.calls k _ _ l0 _ _ l1 t113 _ ?side1 ?side2 ?side3 ?side4 A4.out).mono ?_); (case side1 => repeat (first | exact HR0.out | (with_reducible refine Kd.C_alloc ?_ _) | (with_reducible refine Kd.C_drewN ?_ _) | (with_reducible refine Kd.C_drew ?_))); (case side2 => exact HC0.out); (case side3 => repeat (first | exact HR1.out | (with_reducible refine Kd.C_alloc ?_ _) | (with_reducible refine Kd.C_drewN ?_ _) | (with_reducible refine Kd.C_drew ?_))); (case side4 => exact HC1.out); rintro e w6 ⟨rfl, hb⟩; refine ⟨_, rfl, ?_⟩; have n0_ := Aside0.mk (below_step s3q3 hb); clear HB; have HB := n0_; clear n0_; (try clear hb); (try clear hb2); (try clear hk); (try clear hi)))
 go_loopg [9, 10, 11, 23] k (fun kq v9 v10 v11 v23 w' => ∃ (x9_1 : List Int) (x10_1 : Int) (x11_1 : Int) (x23_1 : Int), v10 = .int .i64 x10_1 ∧ v11 = .int .i64 x11_1 ∧ v23 = .int .i64 x23_1 ∧ Aside0 (cost_CostOf.l0 kq l0 l1 x9_1 x10_1 x11_1 l2 (l2.length : Int) x23_1 = some (r1, r2)) ∧ Aside0 (kq ≤ k) ∧ Aside0 (Kd.R (Kd.int .i64) 3 w' w.heap.size (fun _ => True) v9 x9_1) ∧ Aside0 (Below w.heap.size w w'))
 case atStart => exact ⟨(([] : List Int)), (0), (0), (0), s3q1, s3q1, s3q1, H', ⟨Nat.le_refl _⟩, ⟨by first | exact Kd.R_nil _ _ _ _ _ | exact Kd.N_nil _ _ _ _ _ | exact Kd.V_nil _ _ _ _ _ | exact Kd.Q_nil _ _ _ _ _ | exact Kd.S_nil _ _ _ _ _⟩, ⟨by repeat (first | (with_reducible first | exact HB.out | apply below_alloc | apply pw_below_drewN | apply below_drew1) | exact HB.out)⟩⟩
 clear H'
 try clear c1
 try clear c2
 try clear p2
 try clear c4
 try clear c5
 try clear c5b0
 try clear c5b1
 obtain ⟨x9_1, x10_1, x11_1, x23_1, rfl, rfl, rfl, HA, HK1, HO_9, HB⟩ := hrel
 cases gk with
 | zero => exact absurd HA.out (by simp [cost_CostOf.l0])
 | succ k1 => ?_
 have H := HA.out
 clear HA
 simp only [cost_CostOf.l0] at H
 by_cases c7 : x23_1 < (l2.length : Int)
 case neg =>
  rw [if_neg c7] at H
  have c7b0 : decide (x23_1 < (l2.length : Int)) = false := decide_eq_false c7
  clear c7
  by_cases c42 : (x9_1.length : Int) = 1
  case neg =>
   rw [if_neg c42] at H
   have c42b0 : ((x9_1.length : Int) == 1) = false := beq_eq_false_iff_ne.mpr c42
   have c42b1 : ((x9_1.length : Int) != 1) = true := bne_iff_ne.mpr c42
   simp only [Option.some.injEq, Prod.mk.injEq] at H
   obtain ⟨rfl, rfl⟩ := H
   obtain ⟨Ao47, co47, eo47⟩ := Kd.R_slice HO_9.out
   subst eo47
   go_wp2
   go_ret2
   exact ⟨by first | rfl | (simp [errW_none, errW_some] <;> rfl) | (simp [*, errW_none, errW_some] <;> rfl), by repeat (first | (with_reducible first | exact HB.out | apply below_alloc | apply pw_below_drewN | apply below_drew1) | exact HB.out)⟩
  rw [if_pos c42] at H
  have c42b0 : ((x9_1.length : Int) == 1) = true := beq_iff_eq.mpr c42
  have c42b1 : ((x9_1.length : Int) != 1) = false := bne_eq_false_iff_eq.mpr c42
  clear c42
  obtain ⟨ji43, hji43⟩ : ∃ j_ : Int, (shl .i64 1 (l0.length : Int)) = j_ := ⟨_, rfl⟩
  replace H : (if x11_1 = (wrap64 ((ji43) - 1)) then (some (x10_1, 0)) else (some (0, 13))) = some (r1, r2) := by first | (rw [hji43] at H; exact H) | (simp only [hji43] at H ⊢; exact H)
  have hji43_ : (IntKind.i64.wrap (1 * 2 ^ min (l0.length : Int).toNat 64)) = ji43 := hji43
  have hji43z : (l0.length : Int) ≤ 64 → (IntKind.i64.wrap (1 * 2 ^ (l0.length : Int).toNat)) = ji43 := shl_small hji43
  have hji43p : (IntKind.i64.wrap (1 * 2 ^ min l0.length 64)) = ji43 := hji43_
  have hji43q : (l0.length : Int) ≤ 64 → (IntKind.i64.wrap (1 * 2 ^ l0.length)) = ji43 := hji43z
  have hji43r : (IntKind.i64.wrap (2 ^ min l0.length 64)) = ji43 := by have h_ := hji43p; rw [Int.one_mul] at h_; exact h_
  have hji43s : (l0.length : Int) ≤ 64 → (IntKind.i64.wrap (2 ^ l0.length)) = ji43 := fun hle_ => by have h_ := hji43q hle_; rw [Int.one_mul] at h_; exact h_
  have hji43u : (IntKind.i64.wrap (2 ^ min (l0.length : Int).toNat 64)) = ji43 := by have h_ := hji43_; rw [Int.one_mul] at h_; exact h_
  have hji43v : (l0.length : Int) ≤ 64 → (IntKind.i64.wrap (2 ^ (l0.length : Int).toNat)) = ji43 := fun hle_ => by have h_ := hji43z hle_; rw [Int.one_mul] at h_; exact h_
  have hji43y : (wrap64 (1 * 2 ^ min (l0.length : Int).toNat 64)) = ji43 := (i64_w _).symm.trans hji43_
  have hji43x : (l0.length : Int) ≤ 64 → (wrap64 (1 * 2 ^ (l0.length : Int).toNat)) = ji43 := fun h_ => (i64_w _).symm.trans (hji43z h_)
  by_cases c44 : x11_1 = (wrap64 ((ji43) - 1))
  case neg =>
   rw [if_neg c44] at H
   have c44b0 : (x11_1 == (wrap64 ((ji43) - 1))) = false := beq_eq_false_iff_ne.mpr c44
   have c44b1 : (x11_1 != (wrap64 ((ji43) - 1))) = true := bne_iff_ne.mpr c44
   simp only [Option.some.injEq, Prod.mk.injEq] at H
   obtain ⟨rfl, rfl⟩ := H
   obtain ⟨Ao46, co46, eo46⟩ := Kd.R_slice HO_9.out
   subst eo46
   go_wp2
   go_ret2
   exact ⟨by first | rfl | (simp [errW_none, errW_some] <;> rfl) | (simp only [← hji43]; first | rfl | (simp [errW_none, errW_some] <;> rfl)) | (simp [*, errW_none, errW_some] <;> rfl), by repeat (first | (with_reducible first | exact HB.out | apply below_alloc | apply pw_below_drewN | apply below_drew1) | exact HB.out)⟩
  rw [if_pos c44] at H
  have c44b0 : (x11_1 == (wrap64 ((ji43) - 1))) = true := beq_iff_eq.mpr c44
  have c44b1 : (x11_1 != (wrap64 ((ji43) - 1))) = false := bne_eq_false_iff_eq.mpr c44
  clear c44
  simp only [Option.some.injEq, Prod.mk.injEq] at H
  obtain ⟨rfl, rfl⟩ := H
  obtain ⟨Ao45, co45, eo45⟩ := Kd.R_slice HO_9.out
  subst eo45
  go_wp2
  go_ret2
  exact ⟨by first | rfl | (simp [errW_none, errW_some] <;> rfl) | (simp only [← hji43]; first | rfl | (simp [errW_none, errW_some] <;> rfl)) | (simp [*, errW_none, errW_some] <;> rfl), by repeat (first | (with_reducible first | exact HB.out | apply below_alloc | apply pw_below_drewN | apply below_drew1) | exact HB.out)⟩
 rw [if_pos c7] at H
 have c7b0 : decide (x23_1 < (l2.length : Int)) = true := decide_eq_true c7
 clear c7
 by_cases c8 : 0 ≤ x23_1
 case neg =>
  rw [if_neg c8] at H
  exact absurd H (by simp)
 rw [if_pos c8] at H
 have c8b0 : decide (0 ≤ x23_1) = true := decide_eq_true c8
 clear c8
 by_cases c9 : x23_1 < (l2.length : Int)
 case neg =>
  rw [if_neg c9] at H
  exact absurd H (by simp)
 rw [if_pos c9] at H
 have c9b0 : decide (x23_1 < (l2.length : Int)) = true := decide_eq_true c9
 clear c9
 replace H := Option.bind_eq_some_iff.mp H
 obtain ⟨t115, A100, H⟩ := H
 replace H : (if t115 = true then (if (rd l2 x23_1) ≥ 0 then (if 0 ≤ (rd l2 x23_1) then (cost_CostOf.j1 k1 l0 l1 x9_1 x10_1 x11_1 (rd l2 x23_1) l2 (l2.length : Int) x23_1 ((Go.bits .and .i64 (shr .i64 x11_1 (rd l2 x23_1)) 1) == 1)) else (none)) else (cost_CostOf.j1 k1 l0 l1 x9_1 x10_1 x11_1 (rd l2 x23_1) l2 (l2.length : Int) x23_1 false)) else (some (0, 1))) = some (r1, r2) := H
 have A10 := Aside0.mk A100
 clear A100
 by_cases c11 : t115 = true
 case neg =>
  replace c11 := Bool.eq_false_iff.mpr c11
  subst c11
  have H1 : (some (0, 1)) = some (r1, r2) := s3q5
  clear H
  have H := H1
  clear H1
  simp only [Option.some.injEq, Prod.mk.injEq] at H
  obtain ⟨rfl, rfl⟩ := H
  have p114 : 0 ≤ (x23_1 : Int) := of_decide_eq_true s3q2
  have q114 : x23_1 < (l2.length : Int) := of_decide_eq_true s3q2
  obtain ⟨ad114, e114, hx114_0⟩ := Kd.at_int HR2.out x23_1 p114 q114
  cases e114
  replace hx114_0 := (HB.out.cell (World.block_lt_of_cell? w _ hx114_0)).trans hx114_0
  replace p114 := eq_true p114
  replace q114 := eq_true q114
  go_wp2_with (first | ((with_reducible refine gate_callee (f := 41) rfl ?_); refine goesL_ (some 60) rfl rfl Tryd.func41 s3q0 rfl #[.int .i64 (rd l2 x23_1), .int .i64 (-1), .int .i64 (wrap64 ((l0.length : Int) - 1))] rfl s3q4 ?_; (with_reducible refine (kit_In.calls (rd l2 x23_1) (-1) (wrap64 ((l0.length : Int) - 1)) false _ A10.out).mono ?_); rintro e w' ⟨rfl, ⟨nd, rfl⟩⟩; refine ⟨_, rfl, ?_⟩))
  go_ret2
  exact ⟨by first | rfl | (simp [errW_none, errW_some] <;> rfl) | (simp [*, errW_none, errW_some] <;> rfl), by repeat (first | (with_reducible first | exact HB.out | apply below_alloc | apply pw_below_drewN | apply below_drew1) | exact HB.out)⟩
 subst c11
 have H1 : (if (rd l2 x23_1) ≥ 0 then (if 0 ≤ (rd l2 x23_1) then (cost_CostOf.j1 k1 l0 l1 x9_1 x10_1 x11_1 (rd l2 x23_1) l2 (l2.length : Int) x23_1 ((Go.bits .and .i64 (shr .i64 x11_1 (rd l2 x23_1)) 1) == 1)) else (none)) else (cost_CostOf.j1 k1 l0 l1 x9_1 x10_1 x11_1 (rd l2 x23_1) l2 (l2.length : Int) x23_1 false)) = some (r1, r2) := by rw [if_pos rfl] at H; exact H
 clear H
 have H := H1
 clear H1
 have HC12 := Aside0.mk H
 clear H
 have p114 : 0 ≤ (x23_1 : Int) := of_decide_eq_true s3q2
 have q114 : x23_1 < (l2.length : Int) := of_decide_eq_true s3q2
 obtain ⟨ad114, e114, hx114_0⟩ := Kd.at_int HR2.out x23_1 p114 q114
 cases e114
 replace hx114_0 := (HB.out.cell (World.block_lt_of_cell? w _ hx114_0)).trans hx114_0
 replace p114 := eq_true p114
 replace q114 := eq_true q114
 go_upto_region 14 with (first | ((with_reducible refine gate_callee (f := 41) rfl ?_); refine goesL_ (some 60) rfl rfl Tryd.func41 s3q0 rfl #[.int .i64 (rd l2 x23_1), .int .i64 (-1), .int .i64 (wrap64 ((l0.length : Int) - 1))] rfl s3q4 ?_; (with_reducible refine (kit_In.calls (rd l2 x23_1) (-1) (wrap64 ((l0.length : Int) - 1)) true _ A10.out).mono ?_); rintro e w' ⟨rfl, ⟨nd, rfl⟩⟩; refine ⟨_, rfl, ?_⟩))
 (try simp only [Act.put, sqa, sqb, sqc])
 go_cut [62] (fun v62 wc => ∃ (kq : Nat) (x62_11 : Bool), v62 = .bool x62_11 ∧ Aside0 (cost_CostOf.j1 kq l0 l1 x9_1 x10_1 x11_1 (rd l2 x23_1) l2 (l2.length : Int) x23_1 x62_11 = some (r1, r2)) ∧ Aside0 (kq ≤ k1) ∧ Aside0 (Kd.R (Kd.int .i64) 3 wc w.heap.size (fun _ => True) u9 x9_1) ∧ Aside0 (Below w.heap.size w wc))
 case first =>
  have H := HC12.out
  clear HC12
  by_cases c13 : (rd l2 x23_1) ≥ 0
  case neg =>
   rw [if_neg c13] at H
   have c13b0 : decide (0 ≤ (rd l2 x23_1)) = false := decide_eq_false c13
   clear c13
   (first | rw [c13b0] | (simp only [i64_w, i32_w]; rw [c13b0]) | skip)
   have H' := Aside0.mk H
   clear H
   go_wp2
   go_meet
   case rel => exact ⟨_, (false), s3q1, H', ⟨by have := HK1.out; first | omega | exact Nat.le_refl _⟩, ⟨by (with_reducible repeat (first | apply Kd.R_alloc | apply Kd.R_drewN | apply Kd.R_drew)); exact HO_9.out⟩, ⟨by repeat (first | (with_reducible first | exact HB.out | apply below_alloc | apply pw_below_drewN | apply below_drew1) | exact HB.out)⟩⟩
  rw [if_pos c13] at H
  have c13b0 : decide (0 ≤ (rd l2 x23_1)) = true := decide_eq_true c13
  clear c13
  (first | rw [c13b0] | (simp only [i64_w, i32_w]; rw [c13b0]) | skip)
  by_cases c14 : 0 ≤ (rd l2 x23_1)
  case neg =>
   rw [if_neg c14] at H
   exact absurd H (by simp)
  rw [if_pos c14] at H
  have c14b0 := eq_true c14
  have c14b1 : decide (0 ≤ (rd l2 x23_1)) = true := decide_eq_true c14
  clear c14
  obtain ⟨ji15, hji15⟩ : ∃ j_ : Int, (shr .i64 x11_1 (rd l2 x23_1)) = j_ := ⟨_, rfl⟩
  replace H : (cost_CostOf.j1 k1 l0 l1 x9_1 x10_1 x11_1 (rd l2 x23_1) l2 (l2.length : Int) x23_1 ((Go.bits .and .i64 (ji15) 1) == 1)) = some (r1, r2) := by first | (rw [hji15] at H; exact H) | (simp only [hji15] at H ⊢; exact H)
  have hji15_ : (x11_1 / 2 ^ min (rd l2 x23_1).toNat 64) = ji15 := hji15
  have hji15z : (rd l2 x23_1) ≤ 64 → (x11_1 / 2 ^ (rd l2 x23_1).toNat) = ji15 := shr_small hji15
  have H' := Aside0.mk H
  clear H
  go_wp2
  go_meet
  case rel => exact ⟨_, (((Go.bits .and .i64 (ji15) 1) == 1)), (by first | rfl | (simp; done) | (simp only [← hji15] <;> (first | rfl | simp)) | (simp [*]; done)), H', ⟨by have := HK1.out; first | omega | exact Nat.le_refl _⟩, ⟨by (with_reducible repeat (first | apply Kd.R_alloc | apply Kd.R_drewN | apply Kd.R_drew)); exact HO_9.out⟩, ⟨by repeat (first | (with_reducible first | exact HB.out | apply below_alloc | apply pw_below_drewN | apply below_drew1) | exact HB.out)⟩⟩
 clear HC12
 try clear c1
 try clear p1
 try clear q1
 try clear hx1
 try clear c2
 try clear p2
 try clear c4
 try clear c5
 try clear c5b0
 try clear c5b1
 try clear p6
 try clear c7
 try clear c7b0
 try clear c8
 try clear c8b0
 try clear c9
 try clear c9b0
 try clear c11
 try clear p11
 try clear q11
 try clear hx11
 try clear c13
 try clear c13b0
 try clear c14
 try clear c14b0
 try clear c14b1
 try clear hx114_0
 try clear p114
 try clear p2
 try clear q114
 obtain ⟨kq, x62_11, rfl, HA, HJ11, HO_9, HB⟩ := hcut
 cases kq with
 | zero => exact absurd HA.out (by simp [cost_CostOf.j1])
 | succ kj11 => ?_
 have H := HA.out
 clear HA
 simp only [cost_CostOf.j1] at H
 by_cases c16 : x62_11 = true
 · subst c16
   have H1 : (some (0, 7)) = some (r1, r2) := by rw [if_pos rfl] at H; exact H
   clear H
   have H := H1
   clear H1
   simp only [Option.some.injEq, Prod.mk.injEq] at H
   obtain ⟨rfl, rfl⟩ := H
   go_wp2
   go_ret2
   exact ⟨by first | rfl | (simp [errW_none, errW_some] <;> rfl) | (simp [*, errW_none, errW_some] <;> rfl), by repeat (first | (with_reducible first | exact HB.out | apply below_alloc | apply pw_below_drewN | apply below_drew1) | exact HB.out)⟩
 replace c16 := Bool.eq_false_iff.mpr c16
 subst c16
 have H1 : (if (rd l2 x23_1) ≥ 0 then (if 0 ≤ (rd l2 x23_1) then (if x9_1.length < 17592186044416 then (cost_CostOf.l0 kj11 l0 l1 (x9_1 ++ [shl .i64 1 (rd l2 x23_1)]) x10_1 (Go.bits .or .i64 x11_1 (shl .i64 1 (rd l2 x23_1))) l2 (l2.length : Int) (wrap64 (x23_1 + 1))) else (none)) else (none)) else (if (x9_1.length : Int) < 2 then (some (0, 13)) else (if 0 ≤ (wrap64 ((x9_1.length : Int) - 2)) then (if (wrap64 ((x9_1.length : Int) - 2)) < (x9_1.length : Int) then (if 0 ≤ (wrap64 ((wrap64 ((x9_1.length : Int) - 2)) + 1)) then (if (wrap64 ((wrap64 ((x9_1.length : Int) - 2)) + 1)) < (x9_1.length : Int) then (if (wrap64 ((x9_1.length : Int) - 2)) ≤ (x9_1.length : Int) then ((some (x9_1.take ((wrap64 ((x9_1.length : Int) - 2)) : Int).toNat : List Int)).bind fun y121 => (if y121.length < 17592186044416 then ((some (y121 ++ [Go.bits .or .i64 (rd x9_1 (wrap64 ((x9_1.length : Int) - 2))) (rd x9_1 (wrap64 ((wrap64 ((x9_1.length : Int) - 2)) + 1)))] : List Int)).bind fun y124 => (if (wrap64 ((x9_1.length : Int) - 2)) < (y124.length : Int) then ((cost_size.f kj11 l0 l1 (rd y124 (wrap64 ((x9_1.length : Int) - 2)))).bind fun t128 => (cost_CostOf.l0 kj11 l0 l1 y124 (mn 1000000000000000 (wrap64 (x10_1 + t128))) x11_1 l2 (l2.length : Int) (wrap64 (x23_1 + 1)))) else (none))) else (none))) else (none)) else (none)) else (none)) else (none)) else (none)))) = some (r1, r2) := s3q5
 clear H
 have H := H1
 clear H1
 by_cases c17 : (rd l2 x23_1) ≥ 0
 · rw [if_pos c17] at H
   have c17b0 : decide (0 ≤ (rd l2 x23_1)) = true := decide_eq_true c17
   clear c17
   by_cases c18 : 0 ≤ (rd l2 x23_1)
   case neg =>
    rw [if_neg c18] at H
    exact absurd H (by simp)
   rw [if_pos c18] at H
   have c18b0 := eq_true c18
   have c18b1 : decide (0 ≤ (rd l2 x23_1)) = true := decide_eq_true c18
   clear c18
   obtain ⟨ji19, hji19⟩ : ∃ j_ : Int, (shl .i64 1 (rd l2 x23_1)) = j_ := ⟨_, rfl⟩
   replace H : (if x9_1.length < 17592186044416 then (cost_CostOf.l0 kj11 l0 l1 (x9_1 ++ [ji19]) x10_1 (Go.bits .or .i64 x11_1 (ji19)) l2 (l2.length : Int) (wrap64 (x23_1 + 1))) else (none)) = some (r1, r2) := by first | (rw [hji19] at H; exact H) | (simp only [hji19] at H ⊢; exact H)
   have hji19_ : (IntKind.i64.wrap (1 * 2 ^ min (rd l2 x23_1).toNat 64)) = ji19 := hji19
   have hji19z : (rd l2 x23_1) ≤ 64 → (IntKind.i64.wrap (1 * 2 ^ (rd l2 x23_1).toNat)) = ji19 := shl_small hji19
   have hji19u : (IntKind.i64.wrap (2 ^ min (rd l2 x23_1).toNat 64)) = ji19 := by have h_ := hji19_; rw [Int.one_mul] at h_; exact h_
   have hji19v : (rd l2 x23_1) ≤ 64 → (IntKind.i64.wrap (2 ^ (rd l2 x23_1).toNat)) = ji19 := fun hle_ => by have h_ := hji19z hle_; rw [Int.one_mul] at h_; exact h_
   have hji19y : (wrap64 (1 * 2 ^ min (rd l2 x23_1).toNat 64)) = ji19 := (i64_w _).symm.trans hji19_
   have hji19x : (rd l2 x23_1) ≤ 64 → (wrap64 (1 * 2 ^ (rd l2 x23_1).toNat)) = ji19 := fun h_ => (i64_w _).symm.trans (hji19z h_)
   have c20b0 := eq_true (of_decide_eq_true s3q2 : 0 ≤ (rd l2 x23_1))
   by_cases c21 : x9_1.length < 17592186044416
   case neg =>
    rw [if_neg c21] at H
    exact absurd H (by simp)
   rw [if_pos c21] at H
   have LMc21 := Aside0.mk c21
   clear c21
   obtain ⟨y116, hy116⟩ : ∃ y_ : List Int, y_ = (x9_1 ++ [ji19]) := ⟨_, rfl⟩
   replace H : (cost_CostOf.l0 kj11 l0 l1 y116 x10_1 (Go.bits .or .i64 x11_1 (ji19)) l2 (l2.length : Int) (wrap64 (x23_1 + 1))) = some (r1, r2) := sqz hy116 H
   have Ny116 := Aside0.mk hy116
   clear hy116
   have H' := Aside0.mk H
   clear H
   go_wp2_with (first | ((with_reducible refine gate_builtin (b := .append) (xs := #[.tmp 79, .tmp 82]) rfl ?_); (try (refine gate_guard (by rfl) ?_; dsimp only)); at_builtin; refine Kd.R_append (Kd.int .i64) (w0 := w) w.heap.size rfl (.tmp 79) (.tmp 82) 22 3 (.int .i64 0) 8 rfl Tryd.underlying22 info3 rfl (by decide) (by omega) u9 x9_1 ji19 [.int .i64 ji19] (fun _ => True) (fun _ => False) rfl rfl ?aP (fun _ hk => hk.elim) ?aF ?aO ?aB ?aS ?aL ?_; (case aP => exact rfl); (case aB => exact s3q3); (case aF => exact (fun _ _ => trivial)); (case aO => exact (by (with_reducible repeat (first | apply Kd.R_alloc | apply Kd.R_drewN | apply Kd.R_drew)); exact HO_9.out)); (case aS => exact (below_size s3q3)); (case aL => have := LMc21.out; omega); intro v117 w22 ho hb hg hat; rw [← Ny116.out] at ho; have n0_ := Aside0.mk (hb); have n1_ := Aside0.mk (ho); clear HB; clear HO_9; have HB := n0_; have HO118 := n1_; clear n0_ n1_; clear ho hb hg hat))
   first | go_roundg kj11 | (refine Handed.intro kj11 ?measure ?_; rotate_left; go_step; (repeat apply Exists.intro); simp only [add_plain]; refine ⟨?rel, rfl⟩)
   case measure => have := HK1.out; have := HJ11.out; omega
   case rel => exact ⟨(y116), (x10_1), (Go.bits .or .i64 x11_1 (ji19)), (wrap64 (x23_1 + 1)), s3q1, (by first | rfl | (simp; done) | (simp only [← hji19] <;> (first | rfl | simp)) | (simp [*]; done)), s3q1, H', ⟨by have := HK1.out; have := HJ11.out; omega⟩, ⟨by (with_reducible repeat (first | apply Kd.R_alloc | apply Kd.R_drewN | apply Kd.R_drew)); exact HO118.out⟩, ⟨by repeat (first | (with_reducible first | exact HB.out | apply below_alloc | apply pw_below_drewN | apply below_drew1) | exact HB.out)⟩⟩
 rw [if_neg c17] at H
 have c17b0 : decide (0 ≤ (rd l2 x23_1)) = false := decide_eq_false c17
 clear c17
 by_cases c23 : (x9_1.length : Int) < 2
 · rw [if_pos c23] at H
   have c23b0 : decide ((x9_1.length : Int) < 2) = true := decide_eq_true c23
   have c23b1 : decide (x9_1.length < 2) = true := decide_eq_true (by omega)
   clear c23
   simp only [Option.some.injEq, Prod.mk.injEq] at H
   obtain ⟨rfl, rfl⟩ := H
   obtain ⟨Ao24, co24, eo24⟩ := Kd.R_slice HO_9.out
   subst eo24
   go_wp2
   go_ret2
   exact ⟨by first | rfl | (simp [errW_none, errW_some] <;> rfl) | (simp [*, errW_none, errW_some] <;> rfl), by repeat (first | (with_reducible first | exact HB.out | apply below_alloc | apply pw_below_drewN | apply below_drew1) | exact HB.out)⟩
 rw [if_neg c23] at H
 have c23b0 : decide ((x9_1.length : Int) < 2) = false := decide_eq_false c23
 have c23b1 : decide (x9_1.length < 2) = false := decide_eq_false (by omega)
 clear c23
 obtain ⟨ji25, hji25⟩ : ∃ j_ : Int, (wrap64 ((x9_1.length : Int) - 2)) = j_ := ⟨_, rfl⟩
 replace H : (if 0 ≤ (ji25) then (if (ji25) < (x9_1.length : Int) then (if 0 ≤ (wrap64 ((ji25) + 1)) then (if (wrap64 ((ji25) + 1)) < (x9_1.length : Int) then (if (ji25) ≤ (x9_1.length : Int) then ((some (x9_1.take ((ji25) : Int).toNat : List Int)).bind fun y121 => (if y121.length < 17592186044416 then ((some (y121 ++ [Go.bits .or .i64 (rd x9_1 (ji25)) (rd x9_1 (wrap64 ((ji25) + 1)))] : List Int)).bind fun y124 => (if (ji25) < (y124.length : Int) then ((cost_size.f kj11 l0 l1 (rd y124 (ji25))).bind fun t128 => (cost_CostOf.l0 kj11 l0 l1 y124 (mn 1000000000000000 (wrap64 (x10_1 + t128))) x11_1 l2 (l2.length : Int) (wrap64 (x23_1 + 1)))) else (none))) else (none))) else (none)) else (none)) else (none)) else (none)) else (none)) = some (r1, r2) := by first | (rw [hji25] at H; exact H) | (simp only [hji25] at H ⊢; exact H)
 have hji25w : (IntKind.i64.wrap ((x9_1.length : Int) - 2)) = ji25 := (i64_w _).trans hji25
 by_cases c26 : 0 ≤ (ji25)
 case neg =>
  rw [if_neg c26] at H
  exact absurd H (by simp)
 rw [if_pos c26] at H
 have c26b0 : decide (0 ≤ (ji25)) = true := decide_eq_true c26
 clear c26
 by_cases c27 : (ji25) < (x9_1.length : Int)
 case neg =>
  rw [if_neg c27] at H
  exact absurd H (by simp)
 rw [if_pos c27] at H
 have c27b0 : decide ((ji25) < (x9_1.length : Int)) = true := decide_eq_true c27
 clear c27
 obtain ⟨ji28, hji28⟩ : ∃ j_ : Int, (wrap64 ((ji25) + 1)) = j_ := ⟨_, rfl⟩
 replace H : (if 0 ≤ (ji28) then (if (ji28) < (x9_1.length : Int) then (if (ji25) ≤ (x9_1.length : Int) then ((some (x9_1.take ((ji25) : Int).toNat : List Int)).bind fun y121 => (if y121.length < 17592186044416 then ((some (y121 ++ [Go.bits .or .i64 (rd x9_1 (ji25)) (rd x9_1 (ji28))] : List Int)).bind fun y124 => (if (ji25) < (y124.length : Int) then ((cost_size.f kj11 l0 l1 (rd y124 (ji25))).bind fun t128 => (cost_CostOf.l0 kj11 l0 l1 y124 (mn 1000000000000000 (wrap64 (x10_1 + t128))) x11_1 l2 (l2.length : Int) (wrap64 (x23_1 + 1)))) else (none))) else (none))) else (none)) else (none)) else (none)) = some (r1, r2) := by first | (rw [hji28] at H; exact H) | (simp only [hji28] at H ⊢; exact H)
 have hji28w : (IntKind.i64.wrap ((ji25) + 1)) = ji28 := (i64_w _).trans hji28
 by_cases c29 : 0 ≤ (ji28)
 case neg =>
  rw [if_neg c29] at H
  exact absurd H (by simp)
 rw [if_pos c29] at H
 have c29b0 : decide (0 ≤ (ji28)) = true := decide_eq_true c29
 clear c29
 by_cases c30 : (ji28) < (x9_1.length : Int)
 case neg =>
  rw [if_neg c30] at H
  exact absurd H (by simp)
 rw [if_pos c30] at H
 have c30b0 : decide ((ji28) < (x9_1.length : Int)) = true := decide_eq_true c30
 clear c30
 by_cases c31 : (ji25) ≤ (x9_1.length : Int)
 case neg =>
  rw [if_neg c31] at H
  exact absurd H (by simp)
 rw [if_pos c31] at H
 have c31b0 := eq_true c31
 have c31b1 : decide ((ji25) ≤ (x9_1.length : Int)) = true := decide_eq_true c31
 clear c31
 obtain ⟨y121, hy121⟩ : ∃ y_ : List Int, y_ = (x9_1.take ((ji25) : Int).toNat) := ⟨_, rfl⟩
 replace H : (if y121.length < 17592186044416 then ((some (y121 ++ [Go.bits .or .i64 (rd x9_1 (ji25)) (rd x9_1 (ji28))] : List Int)).bind fun y124 => (if (ji25) < (y124.length : Int) then ((cost_size.f kj11 l0 l1 (rd y124 (ji25))).bind fun t128 => (cost_CostOf.l0 kj11 l0 l1 y124 (mn 1000000000000000 (wrap64 (x10_1 + t128))) x11_1 l2 (l2.length : Int) (wrap64 (x23_1 + 1)))) else (none))) else (none)) = some (r1, r2) := sqz hy121 H
 have Ny121 := Aside0.mk hy121
 clear hy121
 by_cases c32 : y121.length < 17592186044416
 case neg =>
  rw [if_neg c32] at H
  exact absurd H (by simp)
 rw [if_pos c32] at H
 have LMc32 := Aside0.mk c32
 clear c32
 obtain ⟨y124, hy124⟩ : ∃ y_ : List Int, y_ = (y121 ++ [Go.bits .or .i64 (rd x9_1 (ji25)) (rd x9_1 (ji28))]) := ⟨_, rfl⟩
 replace H : (if (ji25) < (y124.length : Int) then ((cost_size.f kj11 l0 l1 (rd y124 (ji25))).bind fun t128 => (cost_CostOf.l0 kj11 l0 l1 y124 (mn 1000000000000000 (wrap64 (x10_1 + t128))) x11_1 l2 (l2.length : Int) (wrap64 (x23_1 + 1)))) else (none)) = some (r1, r2) := sqz hy124 H
 have Ny124 := Aside0.mk hy124
 clear hy124
 by_cases c33 : (ji25) < (y124.length : Int)
 case neg =>
  rw [if_neg c33] at H
  exact absurd H (by simp)
 rw [if_pos c33] at H
 have c33b0 : decide ((ji25) < (y124.length : Int)) = true := decide_eq_true c33
 clear c33
 replace H := Option.bind_eq_some_iff.mp H
 obtain ⟨t128, A340, H⟩ := H
 replace H : (cost_CostOf.l0 kj11 l0 l1 y124 (mn 1000000000000000 (wrap64 (x10_1 + t128))) x11_1 l2 (l2.length : Int) (wrap64 (x23_1 + 1))) = some (r1, r2) := H
 have A34 := Aside0.mk A340
 clear A340
 obtain ⟨ji35, hji35⟩ : ∃ j_ : Int, (mn 1000000000000000 (wrap64 (x10_1 + t128))) = j_ := ⟨_, rfl⟩
 replace H : (cost_CostOf.l0 kj11 l0 l1 y124 ji35 x11_1 l2 (l2.length : Int) (wrap64 (x23_1 + 1))) = some (r1, r2) := by first | (rw [hji35] at H; exact H) | (simp only [hji35] at H ⊢; exact H)
 (try rw [hji35] at A34)
 have hji35_ : (if (wrap64 (x10_1 + t128)) < 1000000000000000 then (wrap64 (x10_1 + t128)) else 1000000000000000) = ji35 := hji35
 have H' := Aside0.mk H
 clear H
 obtain ⟨Ao36, co36, eo36⟩ := Kd.R_slice HO_9.out
 subst eo36
 try go_wp2
 have n0_ := Aside0.mk (Kd.R_drew HO_9.out)
 have n1_ := Aside0.mk (below_drew1 HB.out)
 clear HO_9
 clear HB
 have HO_9 := n0_
 have HB := n1_
 clear n0_ n1_
 have p119 : 0 ≤ ((ji25) : Int) := of_decide_eq_true s3q2
 have q119 : (ji25) < (x9_1.length : Int) := of_decide_eq_true s3q2
 obtain ⟨ad119, e119, hx119_0⟩ := Kd.at_int (Kd.R_reads' HO_9.out).2.2 (ji25) p119 q119
 cases e119
 replace p119 := eq_true p119
 replace q119 := eq_true q119
 have p120 : 0 ≤ ((ji28) : Int) := of_decide_eq_true s3q2
 have q120 : (ji28) < (x9_1.length : Int) := of_decide_eq_true s3q2
 obtain ⟨ad120, e120, hx120_0⟩ := Kd.at_int (Kd.R_reads' HO_9.out).2.2 (ji28) p120 q120
 obtain rfl : ad119 = ad120 := (by injection e120)
 replace p120 := eq_true p120
 replace q120 := eq_true q120
 have q38 : ((ji25) : Int) ≤ ((x9_1.length : Int) : Int) := of_decide_eq_true s3q2
 obtain ⟨i038, hi038, _, hsz38, _⟩ := info_parts info3
 have hcut38 := cut_to (P := Tryd.prog) 22 3 .i64 Tryd.underlying22 hi038 (some ad119) x9_1.length co36 (ji25) (of_decide_eq_true s3q2) q38 (Kd.R_reads' HO_9.out).2.1
 have hr38 := Kd.R_take (m := ((ji25) : Int).toNat) HO_9.out (by omega)
 have hy38 : y121.length = ((ji25) : Int).toNat := (by rw [Ny121.out, List.length_take]; omega)
 rw [← Ny121.out] at hr38
 rw [← hy38] at hr38 hcut38
 clear hy38 hi038 hsz38 HO_9
 have HO123 := Aside0.mk hr38
 clear hr38
 replace q38 := eq_true q38
 refine start_ (n := 16) (S := fun w' => w'.cell? (ad119.add ((ji25)).toNat) = some (.int .i64 (rd x9_1 (ji25))) ∧ w'.cell? (ad119.add ((ji28)).toNat) = some (.int .i64 (rd x9_1 (ji28)))) (ds := [13, 14]) #[false, false, false, false, false, false, false, false, false, false, false, false, false, false, false, false] s3q0 rfl rfl ⟨hx119_0, hx120_0⟩ (fun hHeld => ?_); refine with_tabW cost_CostOf.tab10 cost_CostOf.bits10 (fun HT_ HW_ => ?_)
 generalize wc.drew = w37 at HO_9 HB HO123 hx119_0 hx120_0 hHeld ⊢
 refine pure_ (i := 0) (N := some 30) (v := ?_) (a' := ?_) #[true, false, false, false, false, false, false, false, false, false, false, false, false, false, false, false] rfl rfl (any_of HT_.out s3q0) (fun _ _ _ h => h) (Or.inl ⟨by rfl, ?_⟩) ?_ ?_
 rotate_left
 · intro w'
   go_simp
   with_reducible rfl
 rotate_left
 · simp only [Act.put, sqa, sqb, sqc, i64_w, i32_w]
   rfl
 refine pure_ (i := 1) (N := some 31) (v := ?_) (a' := ?_) #[true, true, false, false, false, false, false, false, false, false, false, false, false, false, false, false] rfl rfl (any_of HT_.out s3q0) (fun _ _ _ h => h) (Or.inl ⟨by rfl, ?_⟩) ?_ ?_
 rotate_left
 · intro w'
   go_simp
   with_reducible rfl
 rotate_left
 · simp only [Act.put, sqa, sqb, sqc, i64_w, i32_w]
   rfl
 refine pure_ (i := 2) (N := some 32) (v := ?_) (a' := ?_) #[true, true, true, false, false, false, false, false, false, false, false, false, false, false, false, false] rfl rfl (any_of HT_.out s3q0) (fun _ _ _ h => h) (Or.inl ⟨by rfl, ?_⟩) ?_ ?_
 rotate_left
 · intro w'
   go_simp
   with_reducible rfl
 rotate_left
 · simp only [Act.put, sqa, sqb, sqc, i64_w, i32_w]
   rfl
 refine pure_ (i := 3) (N := some 33) (v := ?_) (a' := ?_) #[true, true, true, true, false, false, false, false, false, false, false, false, false, false, false, false] rfl rfl (any_of HT_.out s3q0) (fun _ _ _ h => h) (Or.inl ⟨by rfl, ?_⟩) ?_ ?_
 rotate_left
 · intro w'
   go_simp
   with_reducible rfl
 rotate_left
 · simp only [Act.put, sqa, sqb, sqc, i64_w, i32_w]
   rfl
 refine pure_ (i := 4) (N := some 34) (v := ?_) (a' := ?_) #[true, true, true, true, true, false, false, false, false, false, false, false, false, false, false, false] rfl rfl (any_of HT_.out s3q0) (fun _ _ _ h => h) (Or.inl ⟨by rfl, ?_⟩) ?_ ?_
 rotate_left
 · intro w'
   go_simp
   with_reducible rfl
 rotate_left
 · simp only [Act.put, sqa, sqb, sqc, i64_w, i32_w]
   rfl
 refine pure_ (i := 5) (N := some 35) (v := ?_) (a' := ?_) #[true, true, true, true, true, true, false, false, false, false, false, false, false, false, false, false] rfl rfl (any_of HT_.out s3q0) (fun _ _ _ h => h) (Or.inl ⟨by rfl, ?_⟩) ?_ ?_
 rotate_left
 · intro w'
   go_simp
   with_reducible rfl
 rotate_left
 · simp only [Act.put, sqa, sqb, sqc, i64_w, i32_w]
   rfl
 refine pure_ (i := 7) (N := some 37) (v := ?_) (a' := ?_) #[true, true, true, true, true, true, false, true, false, false, false, false, false, false, false, false] rfl rfl (any_of HT_.out s3q0) (fun _ _ _ h => h) (Or.inl ⟨by rfl, ?_⟩) ?_ ?_
 rotate_left
 · intro w'
   go_simp
   with_reducible rfl
 rotate_left
 · simp only [Act.put, sqa, sqb, sqc, i64_w, i32_w]
   rfl
 refine pure_ (i := 8) (N := some 38) (v := ?_) (a' := ?_) #[true, true, true, true, true, true, false, true, true, false, false, false, false, false, false, false] rfl rfl (any_of HT_.out s3q0) (fun _ _ _ h => h) (Or.inl ⟨by rfl, ?_⟩) ?_ ?_
 rotate_left
 · intro w'
   go_simp
   with_reducible rfl
 rotate_left
 · simp only [Act.put, sqa, sqb, sqc, i64_w, i32_w]
   rfl
 refine pure_ (i := 9) (N := some 39) (v := ?_) (a' := ?_) #[true, true, true, true, true, true, false, true, true, true, false, false, false, false, false, false] rfl rfl (any_of HT_.out s3q0) (fun _ _ _ h => h) (Or.inl ⟨by rfl, ?_⟩) ?_ ?_
 rotate_left
 · intro w'
   go_simp
   with_reducible rfl
 rotate_left
 · simp only [Act.put, sqa, sqb, sqc, i64_w, i32_w]
   rfl
 refine pure_ (i := 10) (N := some 40) (v := ?_) (a' := ?_) #[true, true, true, true, true, true, false, true, true, true, true, false, false, false, false, false] rfl rfl (any_of HT_.out s3q0) (fun _ _ _ h => h) (Or.inl ⟨by rfl, ?_⟩) ?_ ?_
 rotate_left
 · intro w'
   go_simp
   with_reducible rfl
 rotate_left
 · simp only [Act.put, sqa, sqb, sqc, i64_w, i32_w]
   rfl
 refine take_ (i := 6) (N := some 36) (v := ?_) (a' := ?_) #[true, true, true, true, true, true, true, true, true, true, true, false, false, false, false, false] rfl rfl (take_ofW HT_.out HW_.out s3q0) (fun _ _ _ h => h) (Or.inl ⟨by rfl, ?_⟩) hHeld ?_ ?_
 rotate_left
 · rintro w' ⟨s0, s1⟩
   go_simp
   with_reducible rfl
 rotate_left
 · simp only [Act.put, sqa, sqb, sqc, i64_w, i32_w]
   rfl
 refine take_ (i := 11) (N := some 41) (v := ?_) (a' := ?_) #[true, true, true, true, true, true, true, true, true, true, true, true, false, false, false, false] rfl rfl (take_ofW HT_.out HW_.out s3q0) (fun _ _ _ h => h) (Or.inl ⟨by rfl, ?_⟩) hHeld ?_ ?_
 rotate_left
 · rintro w' ⟨s0, s1⟩
   go_simp
   with_reducible rfl
 rotate_left
 · simp only [Act.put, sqa, sqb, sqc, i64_w, i32_w]
   rfl
 refine pure_ (i := 12) (N := some 42) (v := ?_) (a' := ?_) #[true, true, true, true, true, true, true, true, true, true, true, true, true, false, false, false] rfl rfl (any_of HT_.out s3q0) (fun _ _ _ h => h) (Or.inl ⟨by rfl, ?_⟩) ?_ ?_
 rotate_left
 · intro w'
   go_simp
   with_reducible rfl
 rotate_left
 · simp only [Act.put, sqa, sqb, sqc, i64_w, i32_w]
   rfl
 refine last_ (i := 13) (N := some 43) #[true, true, true, true, true, true, true, true, true, true, true, true, true, true, false, false] rfl rfl (one_of HT_.out s3q0) (by decide) (fun K hK => ?_)
 refine value_ (w1 := ?_) (v := ?_) (by rfl) rfl ?_ ?_
 rotate_left 2
 · go_simp
   constructor
   · rfl
   rfl
 refine hK.out _ _ ?_
 clear hK K
 refine norm_ (a' := ?_) ?_ ?_
 rotate_left
 · show Act.put _ (some 43) _ = _
   simp only [Act.put, sqa, sqb, sqc, i64_w, i32_w]
   rfl
 refine last_ (i := 14) (N := some 44) #[true, true, true, true, true, true, true, true, true, true, true, true, true, true, true, false] rfl rfl (one_of HT_.out s3q0) (by decide) (fun K hK => ?_)
 refine Kd.R_append_step (Kd.int .i64) (w0 := w) w.heap.size (by rfl) (.tmp 32) (.tmp 43) 22 3 (.int .i64 0) 8 rfl Tryd.underlying22 info3 rfl (by decide) (by omega) (.slice (some ad119) y121.length co36) y121 (Go.bits .or .i64 (rd x9_1 (ji25)) (rd x9_1 (ji28))) [.int .i64 (Go.bits .or .i64 (rd x9_1 (ji25)) (rd x9_1 (ji28)))] (fun _ => True) (fun _ => False) rfl rfl ?aP (fun _ hk => hk.elim) ?aF ?aO ?aB ?aS ?aL ?_
 (case aP => exact rfl)
 (case aB => exact s3q3)
 (case aF => exact (fun _ _ => trivial))
 (case aO => exact (by (with_reducible repeat (first | apply Kd.R_alloc | apply Kd.R_drewN | apply Kd.R_drew)); exact HO123.out))
 (case aS => exact (below_size s3q3))
 (case aL => have := LMc32.out; omega)
 intro v125 w39 ho hb hg hat
 rw [← Ny124.out] at ho
 have n0_ := Aside0.mk (hb)
 have n1_ := Aside0.mk (ho)
 clear HB
 clear HO123
 have HB := n0_
 have HO126 := n1_
 clear n0_ n1_
 clear ho hb hg hat
 refine hK.out _ _ ?_
 clear hK K
 refine norm_ (a' := ?_) ?_ ?_
 rotate_left
 · show Act.put _ (some 44) _ = _
   simp only [Act.put, sqa, sqb, sqc, i64_w, i32_w]
   rfl
 refine pure_ (i := 15) (N := some 9) (v := ?_) (a' := ?_) #[true, true, true, true, true, true, true, true, true, true, true, true, true, true, true, true] rfl rfl (any_of HT_.out s3q0) (fun _ _ _ h => h) (Or.inl ⟨by rfl, ?_⟩) ?_ ?_
 rotate_left
 · intro w'
   go_simp
   with_reducible rfl
 rotate_left
 · simp only [Act.put, sqa, sqb, sqc, i64_w, i32_w]
   rfl
 refine done_ (done_of HT_.out s3q0) ?_
 obtain ⟨Ao40, co40, eo40⟩ := Kd.R_slice HO126.out
 subst eo40
 have p127 : 0 ≤ ((ji25) : Int) := of_decide_eq_true s3q2
 have q127 : (ji25) < (y124.length : Int) := of_decide_eq_true s3q2
 obtain ⟨ad127, e127, hx127_0⟩ := Kd.at_int (Kd.R_reads' HO126.out).2.2 (ji25) p127 q127
 cases e127
 replace p127 := eq_true p127
 replace q127 := eq_true q127
 try go_wp2_with (first | ((with_reducible refine gate_callee (f := 42) rfl ?_); refine goesL_ (some 52) rfl rfl Tryd.func42 s3q0 rfl #[.slice A0 l0.length c0, .slice A1 l1.length c1, .int .i64 (rd y124 (ji25))] rfl (by (try simp only [List.map_toArray, List.map_cons, List.map_nil]); first | done | (simp only [hji25]; rfl) | rfl | (simp only [List.length_drop, List.length_take]; rfl)) ?_; (with_reducible refine (cost_size.calls kj11 _ _ l0 _ _ l1 (rd y124 (ji25)) t128 _ ?side1 ?side2 ?side3 ?side4 A34.out).mono ?_); (case side1 => repeat (first | exact (Kd.C_below HR0.out HB.out) | (with_reducible refine Kd.C_alloc ?_ _) | (with_reducible refine Kd.C_drewN ?_ _) | (with_reducible refine Kd.C_drew ?_))); (case side2 => exact HC0.out); (case side3 => repeat (first | exact (Kd.C_below HR1.out HB.out) | (with_reducible refine Kd.C_alloc ?_ _) | (with_reducible refine Kd.C_drewN ?_ _) | (with_reducible refine Kd.C_drew ?_))); (case side4 => exact HC1.out); rintro e w41 ⟨rfl, hb⟩; refine ⟨_, rfl, ?_⟩; have n0_ := Aside0.mk (Kd.R_below (by (with_reducible repeat (first | apply Kd.R_alloc | apply Kd.R_drewN | apply Kd.R_drew)); exact HO126.out) hb); have n1_ := Aside0.mk (below_step s3q3 hb); clear HO126; clear HB; have HO126 := n0_; have HB := n1_; clear n0_ n1_; (try clear hb); (try clear hb2); (try clear hk); (try clear hi)))
 first | go_roundg kj11 | (refine Handed.intro kj11 ?measure ?_; rotate_left; go_step; (repeat apply Exists.intro); simp only [add_plain]; refine ⟨?rel, rfl⟩)
 case measure => have := HK1.out; have := HJ11.out; omega
 case rel => exact ⟨(y124), (ji35), (x11_1), (wrap64 (x23_1 + 1)), (by first | rfl | (simp; done) | (simp only [← hji35] <;> (first | rfl | simp)) | (simp [*]; done)), s3q1, s3q1, H', ⟨by have := HK1.out; have := HJ11.out; omega⟩, ⟨by (with_reducible repeat (first | apply Kd.R_alloc | apply Kd.R_drewN | apply Kd.R_drew)); exact HO126.out⟩, ⟨by repeat (first | (with_reducible first | exact HB.out | apply below_alloc | apply pw_below_drewN | apply below_drew1) | exact HB.out)⟩⟩
-- NOT PRINTED: function 89 (bits_TrailingZeros32)

-- NOT PRINTED: function 90 (bits_TrailingZeros64)

/-! ### bits_TrailingZeros: function 46 (by hand) -/
set_option maxHeartbeats 1000000 in
theorem tz_core (x k idx : Nat) (w : World) (hx0 : ((x : Int) == 0) = false)
    (key : IntKind.u64.wrap (bits BinOp.and IntKind.u64 (x : Int) (IntKind.u64.wrap (-(x : Int))) * 285870213051353865) / 288230376151711744 = (idx : Int))
    (hi : idx < 64) (hk : k < 64) (hcell : w.cell? ⟨1, idx, none⟩ = some (.int .u8 k)) :
    Calls Tryd.prog 90 #[.int .u64 x] w fun e w' => e = .returned (.int .i64 k) ∧ w = w' := by
 go_enter Tryd.func90, Tryd.ntmps90
 go_wp2_with (simp only [key])
 go_ret
 exact ⟨rfl, rfl⟩
theorem tz_key (x a : Nat) (hx : x < 18446744073709551616) (hx0 : x ≠ 0) (hlow : x &&& (18446744073709551616 - x) = a) :
    IntKind.u64.wrap (bits BinOp.and IntKind.u64 (x : Int) (IntKind.u64.wrap (-(x : Int))) * 285870213051353865) / 288230376151711744 = ((a * 285870213051353865 % 18446744073709551616 / 288230376151711744 : Nat) : Int) := by
 have e1 : IntKind.u64.wrap (-(x : Int)) = ((18446744073709551616 - x : Nat) : Int) := by rw [IntKind.wrap_u64]; omega
 rw [e1, bits_and_u64_nat x _ hx (by omega), hlow, IntKind.wrap_u64]
 omega
theorem tz_zero (w : World) :
    Calls Tryd.prog 90 #[.int .u64 0] w fun e w' => e = .returned (.int .i64 64) ∧ w = w' := by
 go_enter Tryd.func90, Tryd.ntmps90
 go_wp2
 go_ret
 exact ⟨rfl, rfl⟩
theorem tz64 (x : Nat) (hx : x < 18446744073709551616) (w : World) (hG : Glob w) :
    Calls Tryd.prog 90 #[.int .u64 x] w fun e w' => e = .returned (.int .i64 (Lib.ctz 64 x)) ∧ w = w' := by
 by_cases hx0 : x = 0
 · subst hx0
   exact tz_zero w
 obtain ⟨hlow, hk⟩ := Lib.lowest_bit 64 x hx0 hx
 obtain ⟨hi, htab⟩ := Lib.deBruijn64_at _ hk
 have hcell := Glob_at hG _ hi
 rw [htab] at hcell
 exact tz_core x _ _ w (by simp; omega) (tz_key x _ hx hx0 hlow) hi hk hcell
def bits_TrailingZeros.f (a0 : Int) : Option Int := if 0 ≤ a0 ∧ a0 < 18446744073709551616 then some (Lib.ctz 64 a0.toNat) else none
theorem bits_TrailingZeros.calls (a0 : Int) (r : Int) (w : World) (hG : Glob w) (h : bits_TrailingZeros.f a0 = some r) :
    Calls Tryd.prog 46 #[.int .u64 a0] w fun e w' => e = .returned (.int .i64 r) ∧ Drawn0 w w' := by
 unfold bits_TrailingZeros.f at h
 split at h
 case isFalse => cases h
 rename_i hc
 obtain ⟨x, rfl⟩ := Int.eq_ofNat_of_zero_le hc.1
 obtain rfl := Option.some.inj h
 have c64 := Aside0.mk (tz64 x (by omega) w hG)
 have hw : IntKind.u64.wrap (x : Int) = (x : Int) := by rw [IntKind.wrap_u64]; omega
 clear h hG
 go_enter Tryd.func46, Tryd.ntmps46
 go_wp2_with (go_at_call 90; refine c64.out.mono ?_; rintro e w' ⟨rfl, rfl⟩)
 go_ret
 exact ⟨by simp, Drawn0.refl _⟩
/-! ### slices_Grow_int_int: function 92 -/
def slices_Grow_int_int.f  (a1 : Int) : Option (List Int) := if a1 < 0 then (none) else (if (wrap64 (a1)) > 0 then (if 0 ≤ (wrap64 (a1)) then (if ([] : List Int).length + (wrap64 (a1) : Int).toNat < 17592186044416 then ((some (([] : List Int) ++ List.replicate (wrap64 (a1) : Int).toNat 0 : List Int)).bind fun y129 => (if 0 ≤ (y129.length : Int) then (some (y129.take (0 : Int).toNat)) else (none))) else (none)) else (none)) else (some ([] : List Int)))
set_option maxHeartbeats 8000000 in
set_option maxRecDepth 100000 in
theorem slices_Grow_int_int.calls  (a1 : Int) (r : List Int) (w : World) (h : slices_Grow_int_int.f a1 = some r) :
    Calls Tryd.prog 92 #[(.slice none 0 0), .int .i64 a1] w fun e w' => ∃ v0_ : Value, e = .returned (v0_) ∧ Kd.R (Kd.int .i64) 3 w' w.heap.size (fun _ => True) v0_ r ∧ Below w.heap.size w w' := by
 have HB := Aside0.mk (Below.refl w.heap.size w)
 have H : (if a1 < 0 then (none) else (if (wrap64 (a1)) > 0 then (if 0 ≤ (wrap64 (a1)) then (if ([] : List Int).length + (wrap64 (a1) : Int).toNat < 17592186044416 then ((some (([] : List Int) ++ List.replicate (wrap64 (a1) : Int).toNat 0 : List Int)).bind fun y129 => (if 0 ≤ (y129.length : Int) then (some (y129.take (0 : Int).toNat)) else (none))) else (none)) else (none)) else (some ([] : List Int)))) = some r := h
 clear h
 by_cases c3 : a1 < 0
 · rw [if_pos c3] at H
   exact absurd H (by simp)
 rw [if_neg c3] at H
 have c3b0 : decide (a1 < 0) = false := decide_eq_false c3
 clear c3
 by_cases c4 : (wrap64 (a1)) > 0
 case neg =>
  rw [if_neg c4] at H
  have c4b0 : decide (0 < (wrap64 (a1))) = false := decide_eq_false c4
  clear c4
  obtain rfl := Option.some.inj H
  go_enter Tryd.func92, Tryd.ntmps92
  go_wp2
  go_ret
  exact ⟨_, by first | rfl | (simp [errW_none, errW_some] <;> rfl) | (simp [*, errW_none, errW_some] <;> rfl), by first | exact Kd.R_nil _ _ _ _ _ | exact Kd.N_nil _ _ _ _ _ | exact Kd.V_nil _ _ _ _ _ | exact Kd.Q_nil _ _ _ _ _ | exact Kd.S_nil _ _ _ _ _, by repeat (first | (with_reducible first | exact HB.out | apply below_alloc | apply pw_below_drewN | apply below_drew1) | exact HB.out)⟩
 rw [if_pos c4] at H
 have c4b0 : decide (0 < (wrap64 (a1))) = true := decide_eq_true c4
 clear c4
 obtain ⟨ji5, hji5⟩ : ∃ j_ : Int, (wrap64 (a1)) = j_ := ⟨_, rfl⟩
 replace H : (if 0 ≤ (ji5) then (if ([] : List Int).length + (ji5 : Int).toNat < 17592186044416 then ((some (([] : List Int) ++ List.replicate (ji5 : Int).toNat 0 : List Int)).bind fun y129 => (if 0 ≤ (y129.length : Int) then (some (y129.take (0 : Int).toNat)) else (none))) else (none)) else (none)) = some r := by first | (rw [hji5] at H; exact H) | (simp only [hji5] at H ⊢; exact H)
 (try rw [hji5] at c4b0)
 have hji5w : (IntKind.i64.wrap (a1)) = ji5 := (i64_w _).trans hji5
 by_cases c6 : 0 ≤ (ji5)
 case neg =>
  rw [if_neg c6] at H
  exact absurd H (by simp)
 rw [if_pos c6] at H
 have c6b0 := eq_true c6
 have c6b1 : decide (0 ≤ (ji5)) = true := decide_eq_true c6
 clear c6
 by_cases c7 : ([] : List Int).length + (ji5 : Int).toNat < 17592186044416
 case neg =>
  rw [if_neg c7] at H
  exact absurd H (by simp)
 rw [if_pos c7] at H
 have LMc7 := Aside0.mk c7
 clear c7
 obtain ⟨y129, hy129⟩ : ∃ y_ : List Int, y_ = (([] : List Int) ++ List.replicate (ji5 : Int).toNat 0) := ⟨_, rfl⟩
 replace H : (if 0 ≤ (y129.length : Int) then (some (y129.take (0 : Int).toNat)) else (none)) = some r := sqz hy129 H
 have Ny129 := Aside0.mk hy129
 clear hy129
 by_cases c8 : 0 ≤ (y129.length : Int)
 case neg =>
  rw [if_neg c8] at H
  exact absurd H (by simp)
 rw [if_pos c8] at H
 have c8b0 := eq_true c8
 have c8b1 : decide (0 ≤ (y129.length : Int)) = true := decide_eq_true c8
 clear c8
 obtain ⟨y132, hy132⟩ : ∃ y_ : List Int, y_ = (y129.take (0 : Int).toNat) := ⟨_, rfl⟩
 replace H : (some y132) = some r := sqz hy132 H
 have Ny132 := Aside0.mk hy132
 clear hy132
 obtain rfl := Option.some.inj H
 go_enter Tryd.func92, Tryd.ntmps92
 go_wp2_with (first | (at_builtin; refine Kd.R_append_zeros (Kd.int .i64) (w0 := w) w.heap.size rfl (.tmp 20) (.tmp 21) 22 3 3 (.int .i64 0) 8 rfl Tryd.underlying22 Tryd.underlying3 info3 rfl (by decide) (by omega) (.slice none 0 0) ([] : List Int) 0 (ji5 : Int) (fun _ => True) rfl rfl rfl ?aF ?aO (of_decide_eq_true s3q2) ?aB ?aS ?aL ?_; (case aB => exact s3q3); (case aF => exact (fun _ _ => trivial)); (case aO => exact ((Kd.R_nil _ _ _ _ (fun _ => True)))); (case aS => exact (below_size s3q3)); (case aL => have := LMc7.out; omega); intro v130 w9 ho hb hg hat; rw [← Ny129.out] at ho; have n0_ := Aside0.mk (hb); have n1_ := Aside0.mk (ho); clear HB; have HB := n0_; have HO131 := n1_; clear n0_ n1_; clear ho hb hg hat; obtain ⟨Ao10, co10, eo10⟩ := Kd.R_slice HO131.out; subst eo10; have q11 : (0 : Int) ≤ ((y129.length : Int) : Int) := of_decide_eq_true s3q2; obtain ⟨i011, hi011, _, hsz11, _⟩ := info_parts info3; have hcut11 := cut_to (P := Tryd.prog) 22 3 .i64 Tryd.underlying22 hi011 Ao10 y129.length co10 0 (by omega) q11 (Kd.R_reads' HO131.out).2.1; have hr11 := Kd.R_take (m := (0 : Int).toNat) HO131.out (by omega); have hy11 : y132.length = (0 : Int).toNat := (by rw [Ny132.out, List.length_take]; omega); rw [← Ny132.out] at hr11; rw [← hy11] at hr11 hcut11; clear hy11 hi011 hsz11 HO131; have HO134 := Aside0.mk hr11; clear hr11; replace q11 := eq_true q11))
 go_ret
 exact ⟨_, by first | rfl | (simp [errW_none, errW_some] <;> rfl) | (simp only [← hji5]; first | rfl | (simp [errW_none, errW_some] <;> rfl)) | (simp [*, errW_none, errW_some] <;> rfl), by (with_reducible repeat (first | apply Kd.R_alloc | apply Kd.R_drewN | apply Kd.R_drew)); exact HO134.out, by repeat (first | (with_reducible first | exact HB.out | apply below_alloc | apply pw_below_drewN | apply below_drew1) | exact HB.out)⟩
end Go.Proofs.YtgcijejmmhjibaaDoor.B
