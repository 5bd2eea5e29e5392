-- Printed by a program of this session (a patched print).
import Derived.Test.YtgcijejmmhjibaaDoorBx0
import Derived.Test.YtgcijejmmhjibaaDoorBx1
import Derived.Test.YtgcijejmmhjibaaDoorBx2
import Derived.Test.YtgcijejmmhjibaaDoorBx4
import Derived.Test.YtgcijejmmhjibaaDoorBx6
namespace Go.Proofs.YtgcijejmmhjibaaDoor.B
open Go.RowKit Go.Proofs.YtgcijejmmhjibaaDoorW.PrintWords Go.Proofs.YtgcijejmmhjibaaDoorW.PrintLast Go.Proofs.YtgcijejmmhjibaaDoorW.PrintMore
attribute [local go_sem] max2_int min2_int max_two min_two max_three min_three max_four min_four   -- for this text's walks alone
set_option linter.unusedVariables false
set_option linter.unusedSimpArgs false

theorem s7qm0 {p : Prop} (h : p := by repeat' first | (with_reducible exact ih0 _ _ _ _ _) | (with_reducible exact ih1 _ _ _ _) | (with_reducible exact ih2 _ _ _ _ _ _ _ _ _) | (with_reducible exact ih3 _ _ _ _ _ _ _ _ _ _ _) | (with_reducible exact cost_checkRelations.mono _ _ _) | (with_reducible exact cost_joined.mono _ _ _) | (with_reducible exact cost_size.mono _ _ _ _) | (with_reducible exact LeO.refl _) | (with_reducible exact LeO.none _) | (with_reducible refine LeO.ite ?_ ?_) | (with_reducible refine LeO.bind ?_ (fun _ => ?_)) | exact ih0 _ _ _ _ _ | exact ih1 _ _ _ _ | exact ih2 _ _ _ _ _ _ _ _ _ | exact ih3 _ _ _ _ _ _ _ _ _ _ _ | exact cost_checkRelations.mono _ _ _ | exact cost_joined.mono _ _ _ | exact cost_size.mono _ _ _ _ | exact LeO.none _ | refine LeO.ite ?_ ?_ | refine LeO.bind ?_ (fun _ => ?_)) : p := h
theorem s7q0 {p : Prop} (h : p := by omega) : p := h
theorem s7q1 {p : Prop} (h : p := by kernel_rfl) : p := h
theorem s7q2 {p : Prop} (h : p := by first | rfl | (simp; done) | (simp [*]; done)) : p := h
theorem s7q3 {p : Prop} (h : p := by first | (with_reducible assumption) | assumption) : p := h
theorem s7q4 {p : Prop} (h : p := by (with_reducible repeat (first | apply Kd.N_alloc | apply Kd.N_drewN | apply Kd.N_drew)); exact HO_8.out) : p := h
theorem s7q5 {p : Prop} (h : p := by (with_reducible repeat (first | apply Kd.V_alloc | apply Kd.V_drewN | apply Kd.V_drew)); exact HL244_1.out) : p := h
theorem s7q6 {p : Prop} (h : p := by (with_reducible repeat (first | apply Kd.V_alloc | apply Kd.V_drewN | apply Kd.V_drew)); exact HL245_1.out) : p := h
theorem s7q7 {p : Prop} (h : p := by repeat (first | (with_reducible first | exact HB.out | apply below_alloc | apply pw_below_drewN | apply below_drew1) | exact HB.out)) : p := h
theorem s7q8 {p : Prop} (h : p := by (try simp only [List.map_toArray, List.map_cons, List.map_nil]); first | done | rfl | (simp only [List.length_drop, List.length_take]; rfl)) : p := h
theorem s7q9 {p : Prop} (h : p := by repeat (first | (with_reducible exact HR235_1.out) | (with_reducible refine Kd.C_alloc ?_ _) | (with_reducible refine Kd.C_drewN ?_ _) | (with_reducible refine Kd.C_drew ?_) | exact HR235_1.out)) : p := h
theorem s7q10 {p : Prop} (h : p := by repeat (first | (with_reducible exact HR236_1.out) | (with_reducible refine Kd.C_alloc ?_ _) | (with_reducible refine Kd.C_drewN ?_ _) | (with_reducible refine Kd.C_drew ?_) | exact HR236_1.out)) : p := h
theorem s7q11 {p : Prop} (h : p := by repeat (first | (with_reducible exact HR244_1.out) | (with_reducible refine Kd.C_alloc ?_ _) | (with_reducible refine Kd.C_drewN ?_ _) | (with_reducible refine Kd.C_drew ?_) | exact HR244_1.out)) : p := h
theorem s7q12 {p : Prop} (h : p := by repeat (first | (with_reducible exact HR245_1.out) | (with_reducible refine Kd.C_alloc ?_ _) | (with_reducible refine Kd.C_drewN ?_ _) | (with_reducible refine Kd.C_drew ?_) | exact HR245_1.out)) : p := h
theorem s7q13 {p : Prop} (h : p := by first | exact q244 | exact of_decide_eq_true s7q3 | (have e_ := (Kd.N_reads' HO_8.out).1; omega)) : p := h
theorem s7q14 {p : Prop} (h : p := by first | exact q245 | exact of_decide_eq_true s7q3 | (have e_ := (Kd.N_reads' HO_8.out).1; omega)) : p := h
theorem s7q15 {p : Prop} (h : p := by have h_ : (x11_3 : Int) < ((x8_2.length : Int) : Int) := of_decide_eq_true s7q3; first | exact h_ | (have e_ := (Kd.N_reads' HO_8.out).1; omega) | simpa using h_) : p := h
/-! ### cost_Greedy: function 22 -/
mutual
def cost_Greedy.l0 : Nat → List Int → List (S75) → List (S89) → Int → Int → Option (List Int × Int × Int)
  | 0, _, _, _, _, _ => none
  | k + 1, x0, x1, x8, x24, x25 => if x25 < x24 then (if 0 ≤ x25 then (if x8.length < 4398046511104 then (cost_Greedy.l0 k x0 x1 (x8 ++ [(⟨shl .i64 1 x25, (([x25] : List Int))⟩ : S89)]) x24 (wrap64 (x25 + 1))) else (none)) else (none)) else (cost_Greedy.l1 k x0 x1 x8 0)
def cost_Greedy.l1 : Nat → List Int → List (S75) → List (S89) → Int → Option (List Int × Int × Int)
  | 0, _, _, _, _ => none
  | k + 1, x0, x1, x8, x10 => if (x8.length : Int) > 1 then (cost_Greedy.l2 k x0 x1 x8 x10 0 0 0 (x8.length : Int) 0) else (if 0 < (x8.length : Int) then (some ((rd_T89 x8 0).f1, x10, 0)) else (none))
def cost_Greedy.l2 : Nat → List Int → List (S75) → List (S89) → Int → Int → Int → Int → Int → Int → Option (List Int × Int × Int)
  | 0, _, _, _, _, _, _, _, _, _ => none
  | k + 1, x0, x1, x8, x10, x11, x12, x13, x41, x42 => if x42 < x41 then (cost_Greedy.l3 k x0 x1 x8 x10 x11 x12 x13 x42 (wrap64 (x42 + 1)) x41 x42) else (if 0 ≤ x11 then (if x11 < (x8.length : Int) then (if 0 ≤ x12 then (if x12 < (x8.length : Int) then ((cost_joined.f k ((rd_T89 x8 x11).f1) ((rd_T89 x8 x12).f1)).bind fun t237 => (cost_Greedy.l1 k x0 x1 ((x8.set (x11 : Int).toNat (⟨Go.bits .or .i64 ((rd_T89 x8 x11).f0) ((rd_T89 x8 x12).f0), t237⟩ : S89)).eraseIdx (x12 : Int).toNat) (mn 1000000000000000 (wrap64 (x10 + x13))))) else (none)) else (none)) else (none)) else (none))
def cost_Greedy.l3 : Nat → List Int → List (S75) → List (S89) → Int → Int → Int → Int → Int → Int → Int → Int → Option (List Int × Int × Int)
  | 0, _, _, _, _, _, _, _, _, _, _, _ => none
  | k + 1, x0, x1, x8, x10, x11, x12, x13, x14, x15, x41, x42 => if x15 < (x8.length : Int) then (if 0 ≤ x14 then (if x14 < (x8.length : Int) then (if 0 ≤ x15 then ((cost_size.f k x0 x1 (Go.bits .or .i64 ((rd_T89 x8 x14).f0) ((rd_T89 x8 x15).f0))).bind fun t246 => (if x12 = 0 then (cost_Greedy.l3 k x0 x1 x8 x10 x14 x15 t246 x14 (wrap64 (x15 + 1)) x41 x42) else (if t246 < x13 then (cost_Greedy.l3 k x0 x1 x8 x10 x14 x15 t246 x14 (wrap64 (x15 + 1)) x41 x42) else (cost_Greedy.l3 k x0 x1 x8 x10 x11 x12 x13 x14 (wrap64 (x15 + 1)) x41 x42)))) else (none)) else (none)) else (none)) else (cost_Greedy.l2 k x0 x1 x8 x10 x11 x12 x13 x41 (wrap64 (x42 + 1)))
end
def cost_Greedy.f (k : Nat) (l0 : List Int) (l1 : List (S75)) : Option (List Int × Int × Int) := (cost_checkRelations.f k l0 l1).bind fun t225 => (if t225 = 0 then (cost_Greedy.l0 k l0 l1 ([] : List (S89)) (l0.length : Int) 0) else (some (([] : List Int), 0, t225)))
theorem cost_Greedy.mono_l : ∀ k, (∀ y0 y1 y2 y3 y4, LeO (cost_Greedy.l0 k y0 y1 y2 y3 y4) (cost_Greedy.l0 (k + 1) y0 y1 y2 y3 y4)) ∧ (∀ y0 y1 y2 y3, LeO (cost_Greedy.l1 k y0 y1 y2 y3) (cost_Greedy.l1 (k + 1) y0 y1 y2 y3)) ∧ (∀ y0 y1 y2 y3 y4 y5 y6 y7 y8, LeO (cost_Greedy.l2 k y0 y1 y2 y3 y4 y5 y6 y7 y8) (cost_Greedy.l2 (k + 1) y0 y1 y2 y3 y4 y5 y6 y7 y8)) ∧ (∀ y0 y1 y2 y3 y4 y5 y6 y7 y8 y9 y10, LeO (cost_Greedy.l3 k y0 y1 y2 y3 y4 y5 y6 y7 y8 y9 y10) (cost_Greedy.l3 (k + 1) y0 y1 y2 y3 y4 y5 y6 y7 y8 y9 y10))
  | 0 => ⟨fun _ _ _ _ _ r h => by simp [cost_Greedy.l0] at h, fun _ _ _ _ r h => by simp [cost_Greedy.l1] at h, fun _ _ _ _ _ _ _ _ _ r h => by simp [cost_Greedy.l2] at h, fun _ _ _ _ _ _ _ _ _ _ _ r h => by simp [cost_Greedy.l3] at h⟩
  | k + 1 => by
    obtain ⟨ih0, ih1, ih2, ih3⟩ := cost_Greedy.mono_l k
    refine ⟨?_, ?_, ?_, ?_⟩
    · intro y0 y1 y2 y3 y4
      unfold cost_Greedy.l0
      exact s7qm0
    · intro y0 y1 y2 y3
      unfold cost_Greedy.l1
      exact s7qm0
    · intro y0 y1 y2 y3 y4 y5 y6 y7 y8
      unfold cost_Greedy.l2
      exact s7qm0
    · intro y0 y1 y2 y3 y4 y5 y6 y7 y8 y9 y10
      unfold cost_Greedy.l3
      exact s7qm0
theorem cost_Greedy.mono : ∀ a0 a1 k, LeO (cost_Greedy.f k a0 a1) (cost_Greedy.f (k + 1) a0 a1) := by
 intro a0 a1 k
 obtain ⟨ih0, ih1, ih2, ih3⟩ := cost_Greedy.mono_l k
 unfold cost_Greedy.f
 repeat' first
  | (with_reducible exact ih0 _ _ _ _ _)
  | (with_reducible exact ih1 _ _ _ _)
  | (with_reducible exact ih2 _ _ _ _ _ _ _ _ _)
  | (with_reducible exact ih3 _ _ _ _ _ _ _ _ _ _ _)
  | (with_reducible exact cost_checkRelations.mono _ _ _)
  | (with_reducible exact cost_joined.mono _ _ _)
  | (with_reducible exact cost_size.mono _ _ _ _)
  | (with_reducible exact LeO.refl _)
  | (with_reducible exact LeO.none _)
  | (with_reducible refine LeO.ite ?_ ?_)
  | (with_reducible refine LeO.bind ?_ (fun _ => ?_))
  | exact ih0 _ _ _ _ _
  | exact ih1 _ _ _ _
  | exact ih2 _ _ _ _ _ _ _ _ _
  | exact ih3 _ _ _ _ _ _ _ _ _ _ _
  | exact cost_checkRelations.mono _ _ _
  | exact cost_joined.mono _ _ _
  | exact cost_size.mono _ _ _ _
  | exact LeO.none _
  | refine LeO.ite ?_ ?_
  | refine LeO.bind ?_ (fun _ => ?_)
def cost_Greedy.T19 : Bool × List (List Nat × List Nat) := (true, [([], []), ([], []), ([], []), ([], []), ([2, 3], [2, 3]), ([4], [4]), ([5], [5]), ([], []), ([], []), ([7, 8], [7, 8]), ([9], [9]), ([10], [10]), ([6, 11], [6, 11]), ([0, 1, 12], [0, 1, 12]), ([13, 13, 0, 1, 2, 3, 4, 5, 6, 7, 8, 9, 10, 11, 12, 13], [13])])
def cost_Greedy.B19 : List Nat := [0, 0, 0, 0, 12, 28, 60, 0, 0, 384, 896, 1920, 4092, 8191, 16383]
theorem cost_Greedy.tab19 : rtab .any (opsOf Tryd.f22 19) = cost_Greedy.T19 := by kernel_rfl
theorem cost_Greedy.bits19 : waitsOk cost_Greedy.T19.2 cost_Greedy.B19 = true := by kernel_rfl
def cost_Greedy.T24 : Bool × List (List Nat × List Nat) := (true, [([], []), ([], []), ([], []), ([], []), ([2, 3], [2, 3]), ([4], [4]), ([5], [5]), ([], []), ([], []), ([7, 8], [7, 8]), ([9], [9]), ([10], [10]), ([6, 11], [6, 11]), ([], []), ([], []), ([13, 14], [13, 14]), ([15], [15]), ([16], [16]), ([], []), ([], []), ([18, 19], [18, 19]), ([20], [20]), ([21], [21]), ([17, 22], [17, 22]), ([12, 23], [12, 23]), ([0, 1, 0, 1, 2, 3, 4, 5, 6, 7, 8, 9, 10, 11, 12, 13, 14, 15, 16, 17, 18, 19, 20, 21, 22, 23, 24], [0, 1]), ([25, 24, 23, 0, 1, 2, 3, 4, 5, 6, 7, 8, 9, 10, 11, 12, 13, 14, 15, 16, 17, 18, 19, 20, 21, 22, 23, 24], [24, 25])])
def cost_Greedy.B24 : List Nat := [0, 0, 0, 0, 12, 28, 60, 0, 0, 384, 896, 1920, 4092, 0, 0, 24576, 57344, 122880, 0, 0, 786432, 1835008, 3932160, 8380416, 16777212, 33554431, 67108863]
theorem cost_Greedy.tab24 : rtab .any (opsOf Tryd.f22 24) = cost_Greedy.T24 := by kernel_rfl
theorem cost_Greedy.bits24 : waitsOk cost_Greedy.T24.2 cost_Greedy.B24 = true := by kernel_rfl
set_option maxHeartbeats 8000000 in
set_option maxRecDepth 100000 in
theorem cost_Greedy.calls (k : Nat) (A0 : Option Addr) (c0 : Nat) (l0 : List Int) (A1 : Option Addr) (c1 : Nat) (l1 : List (S75)) (r1 : List Int) (r2 : Int) (r3 : Int) (w : World) (hr0 : Kd.C (Kd.int .i64) w A0 l0.length l0) (hc0 : l0.length ≤ c0) (hr1 : Kd.C k75 w A1 l1.length l1) (hc1 : l1.length ≤ c1) (h : cost_Greedy.f k l0 l1 = some (r1, r2, r3)) :
    Calls Tryd.prog 22 #[.slice A0 l0.length c0, .slice A1 l1.length c1] w fun e w' => ∃ v0_ : Value, e = .returned (.tuple #[v0_, .int .i64 r2, .int .i64 r3]) ∧ Kd.V (Kd.int .i64) 3 w' w.heap.size (fun k_ => (w.heap.size ≤ k_)) v0_ r1 ∧ Below w.heap.size w w' := by
 have hu89 := Tryd.underlying89
 have HR0 := Aside0.mk hr0
 have HC0 := Aside0.mk hc0
 clear hr0 hc0
 have HR1 := Aside0.mk hr1
 have HC1 := Aside0.mk hc1
 clear hr1 hc1
 have HB := Aside0.mk (Below.refl w.heap.size w)
 have H : ((cost_checkRelations.f k l0 l1).bind fun t225 => (if t225 = 0 then (cost_Greedy.l0 k l0 l1 ([] : List (S89)) (l0.length : Int) 0) else (some (([] : List Int), 0, t225)))) = some (r1, r2, r3) := h
 clear h
 replace H := Option.bind_eq_some_iff.mp H
 obtain ⟨t225, A30, H⟩ := H
 replace H : (if t225 = 0 then (cost_Greedy.l0 k l0 l1 ([] : List (S89)) (l0.length : Int) 0) else (some (([] : List Int), 0, t225))) = some (r1, r2, r3) := H
 have A3 := Aside0.mk A30
 clear A30
 by_cases c4 : t225 = 0
 case neg =>
  rw [if_neg c4] at H
  have c4b0 : (t225 == 0) = false := beq_eq_false_iff_ne.mpr c4
  have c4b1 : (t225 != 0) = true := bne_iff_ne.mpr c4
  simp only [Option.some.injEq, Prod.mk.injEq] at H
  obtain ⟨rfl, rfl, rfl⟩ := H
  go_enter Tryd.func22, Tryd.ntmps22
  go_wp2_with (first | ((with_reducible refine gate_callee (f := 40) rfl ?_); refine goesL_ (some 19) rfl rfl Tryd.func40 s7q1 rfl #[.slice A0 l0.length c0, .slice A1 l1.length c1] rfl s7q8 ?_; (with_reducible refine (cost_checkRelations.calls k _ _ l0 _ _ l1 t225 _ ?side1 ?side2 ?side3 ?side4 A3.out).mono ?_); (case side1 => repeat (first | exact HR0.out | (with_reducible refine Kd.C_alloc ?_ _) | (with_reducible refine Kd.C_drewN ?_ _) | (with_reducible refine Kd.C_drew ?_))); (case side2 => exact HC0.out); (case side3 => repeat (first | exact HR1.out | (with_reducible refine Kd.C_alloc ?_ _) | (with_reducible refine Kd.C_drewN ?_ _) | (with_reducible refine Kd.C_drew ?_))); (case side4 => exact HC1.out); rintro e w45 ⟨rfl, hb⟩; refine ⟨_, rfl, ?_⟩; have n0_ := Aside0.mk (below_step s7q7 hb); clear HB; have HB := n0_; clear n0_; (try clear hb); (try clear hb2); (try clear hk); (try clear hi)))
  go_ret3
  exact ⟨_, by first | rfl | (simp [errW_none, errW_some] <;> rfl) | (simp [*, errW_none, errW_some] <;> rfl), Kd.V_nil _ _ _ _ _, by repeat (first | (with_reducible first | exact HB.out | apply below_alloc | apply pw_below_drewN | apply below_drew1) | exact HB.out)⟩
 rw [if_pos c4] at H
 have c4b0 : (t225 == 0) = true := beq_iff_eq.mpr c4
 have c4b1 : (t225 != 0) = false := bne_eq_false_iff_eq.mpr c4
 clear c4
 have H' := Aside0.mk H
 clear H
 go_enter Tryd.func22, Tryd.ntmps22
 go_wp2_with (first | ((with_reducible refine gate_callee (f := 40) rfl ?_); refine goesL_ (some 19) rfl rfl Tryd.func40 s7q1 rfl #[.slice A0 l0.length c0, .slice A1 l1.length c1] rfl s7q8 ?_; (with_reducible refine (cost_checkRelations.calls k _ _ l0 _ _ l1 t225 _ ?side1 ?side2 ?side3 ?side4 A3.out).mono ?_); (case side1 => repeat (first | exact HR0.out | (with_reducible refine Kd.C_alloc ?_ _) | (with_reducible refine Kd.C_drewN ?_ _) | (with_reducible refine Kd.C_drew ?_))); (case side2 => exact HC0.out); (case side3 => repeat (first | exact HR1.out | (with_reducible refine Kd.C_alloc ?_ _) | (with_reducible refine Kd.C_drewN ?_ _) | (with_reducible refine Kd.C_drew ?_))); (case side4 => exact HC1.out); rintro e w5 ⟨rfl, hb⟩; refine ⟨_, rfl, ?_⟩; have n0_ := Aside0.mk (below_step s7q7 hb); clear HB; have HB := n0_; clear n0_; (try clear hb); (try clear hb2); (try clear hk); (try clear hi)))
 go_loopg [8, 25] k (fun kq v8 v25 w' => ∃ (x8_1 : List (S89)) (x25_1 : Int), v25 = .int .i64 x25_1 ∧ Aside0 (cost_Greedy.l0 kq l0 l1 x8_1 (l0.length : Int) x25_1 = some (r1, r2, r3)) ∧ Aside0 (kq ≤ k) ∧ Aside0 (Kd.N k89 89 w' w.heap.size (fun k_ => (w.heap.size ≤ k_)) v8 x8_1) ∧ Aside0 (Below w.heap.size w w'))
 case atStart => exact ⟨(([] : List (S89))), (0), s7q2, H', ⟨Nat.le_refl _⟩, ⟨by first | exact Kd.S_nil _ _ _ _ _ | exact Kd.N_nil _ _ _ _ _ | exact Kd.V_nil _ _ _ _ _ | exact Kd.Q_nil _ _ _ _ _ | exact Kd.R_nil _ _ _ _ _⟩, ⟨by repeat (first | (with_reducible first | exact HB.out | apply below_alloc | apply pw_below_drewN | apply below_drew1) | exact HB.out)⟩⟩
 clear H'
 try clear c1
 try clear c2
 try clear p2
 try clear c4
 try clear c4b0
 try clear c4b1
 obtain ⟨x8_1, x25_1, rfl, HA, HK1, HO_8, HB⟩ := hrel
 cases gk with
 | zero => exact absurd HA.out (by simp [cost_Greedy.l0])
 | succ k1 => ?_
 have H := HA.out
 clear HA
 simp only [cost_Greedy.l0] at H
 by_cases c6 : x25_1 < (l0.length : Int)
 · rw [if_pos c6] at H
   have c6b0 : decide (x25_1 < (l0.length : Int)) = true := decide_eq_true c6
   clear c6
   by_cases c7 : 0 ≤ x25_1
   case neg =>
    rw [if_neg c7] at H
    exact absurd H (by simp)
   rw [if_pos c7] at H
   have c7b0 := eq_true c7
   have c7b1 : decide (0 ≤ x25_1) = true := decide_eq_true c7
   clear c7
   obtain ⟨ji8, hji8⟩ : ∃ j_ : Int, (shl .i64 1 x25_1) = j_ := ⟨_, rfl⟩
   replace H : (if x8_1.length < 4398046511104 then (cost_Greedy.l0 k1 l0 l1 (x8_1 ++ [(⟨ji8, (([x25_1] : List Int))⟩ : S89)]) (l0.length : Int) (wrap64 (x25_1 + 1))) else (none)) = some (r1, r2, r3) := by first | (rw [hji8] at H; exact H) | (simp only [hji8] at H ⊢; exact H)
   have hji8_ : (IntKind.i64.wrap (1 * 2 ^ min x25_1.toNat 64)) = ji8 := hji8
   have hji8z : x25_1 ≤ 64 → (IntKind.i64.wrap (1 * 2 ^ x25_1.toNat)) = ji8 := shl_small hji8
   have hji8u : (IntKind.i64.wrap (2 ^ min x25_1.toNat 64)) = ji8 := by have h_ := hji8_; rw [Int.one_mul] at h_; exact h_
   have hji8v : x25_1 ≤ 64 → (IntKind.i64.wrap (2 ^ x25_1.toNat)) = ji8 := fun hle_ => by have h_ := hji8z hle_; rw [Int.one_mul] at h_; exact h_
   have hji8y : (wrap64 (1 * 2 ^ min x25_1.toNat 64)) = ji8 := (i64_w _).symm.trans hji8_
   have hji8x : x25_1 ≤ 64 → (wrap64 (1 * 2 ^ x25_1.toNat)) = ji8 := fun h_ => (i64_w _).symm.trans (hji8z h_)
   obtain ⟨y226, hy226⟩ : ∃ y_ : List Int, y_ = (([x25_1] : List Int)) := ⟨_, rfl⟩
   replace H : (if x8_1.length < 4398046511104 then (cost_Greedy.l0 k1 l0 l1 (x8_1 ++ [(⟨ji8, y226⟩ : S89)]) (l0.length : Int) (wrap64 (x25_1 + 1))) else (none)) = some (r1, r2, r3) := sqz hy226 H
   have Ny226 := Aside0.mk hy226
   clear hy226
   by_cases c9 : x8_1.length < 4398046511104
   case neg =>
    rw [if_neg c9] at H
    exact absurd H (by simp)
   rw [if_pos c9] at H
   have LMc9 := Aside0.mk c9
   clear c9
   obtain ⟨y229, hy229⟩ : ∃ y_ : List (S89), y_ = (x8_1 ++ [(⟨ji8, y226⟩ : S89)]) := ⟨_, rfl⟩
   replace H : (cost_Greedy.l0 k1 l0 l1 y229 (l0.length : Int) (wrap64 (x25_1 + 1))) = some (r1, r2, r3) := sqz hy229 H
   have Ny229 := Aside0.mk hy229
   clear hy229
   have H' := Aside0.mk H
   clear H
   go_wp2_with (first | ((with_reducible refine gate_dst (N := 32) rfl ?_); refine Kd.R_lit (Kd.int .i64) _ 3 ?hg (N := 32) ?hd (xs := ([x25_1] : List Int)) (inner := [.int .i64 x25_1]) (ok := fun _ => True) (okp := fun _ => True) ?hr ?hp (fun _ hk => hk) trivial (Below.refl _ _) (Nat.le_refl _) (by simp) ?_; (case hd => rfl); (case hg => rfl); (case hr => first | (go_simp; done) | (go_simp; rfl)); (case hp => exact (Reps.one (show Kd.M (Kd.int .i64) _ _ _ x25_1 [.int .i64 x25_1] from rfl) (Reps.none _ _))); intro v227 w10 ho11 hb hg_ hnew_; clear hg_ hnew_; (first | rw [← Ny226.out] at ho11 | (simp only [Int.reduceToNat] at ho11; rw [← Ny226.out] at ho11)); have n0_ := Aside0.mk (Kd.N_elder' s7q4 (Kd.R_base ho11) hb); have n1_ := Aside0.mk (Kd.R_lower (Kd.R_newM (M := fun k_ => (w.heap.size ≤ k_)) ho11 (below_size s7q7) (fun k_ h_ => h_)) (below_size s7q7)); have n2_ := Aside0.mk (below_step s7q7 hb); clear HO_8; clear HB; have HO_8 := n0_; have HO228 := n1_; have HB := n2_; clear n0_ n1_ n2_; clear hb ho11; obtain ⟨Ao12, co12, eo12⟩ := Kd.R_slice HO228.out; subst eo12) | ((with_reducible refine gate_builtin (b := .append) (xs := #[.tmp 28, .tmp 34]) rfl ?_); at_builtin; refine Kd.N_append k89 (w0 := w) w.heap.size rfl (.tmp 28) (.tmp 34) 87 89 (.agg #[(.int .i64 0), (.slice none 0 0)]) 32 rfl Tryd.underlying87 info89 rfl (by decide) s7q0 u8 x8_1 (⟨ji8, y226⟩ : S89) [.int .i64 ji8, .slice Ao12 y226.length co12] (fun k_ => (w.heap.size ≤ k_)) (fun k_ => ((fun k_ => (w.heap.size ≤ k_))) k_ ∧ some k_ ≠ (u8 : Value).ownBlock) rfl rfl ?aP (fun _ hk => hk) ?aF ?aO ?aB ?aS ?aL ?_; (case aP => exact (k89_mkF _ _ (⟨ji8, y226⟩ : S89) (Kd.R_reads' (Kd.R_mono (ok' := (fun k_ => ((fun k_ => (w.heap.size ≤ k_))) k_ ∧ some k_ ≠ (u8 : Value).ownBlock)) (Kd.R_apart' (HO228.out) (Kd.N_typed HO_8.out) (by decide)) (fun k_ hk => ⟨hk.1.1, hk.2⟩))).2.1 (Kd.R_F (Kd.R_mono (ok' := (fun k_ => ((fun k_ => (w.heap.size ≤ k_))) k_ ∧ some k_ ≠ (u8 : Value).ownBlock)) (Kd.R_apart' (HO228.out) (Kd.N_typed HO_8.out) (by decide)) (fun k_ hk => ⟨hk.1.1, hk.2⟩))))); (case aB => exact s7q7); (case aF => exact (fun k_ hk => (Nat.le_trans (below_size s7q7) hk))); (case aO => exact (by (with_reducible repeat (first | apply Kd.N_alloc | apply Kd.N_drewN | apply Kd.N_drew)); exact Kd.N_mono HO_8.out (fun _ hk => hk.1))); (case aS => exact (below_size s7q7)); (case aL => have := LMc9.out; omega); intro v230 w13 ho hb hg hat; rw [← Ny229.out] at ho; have n0_ := Aside0.mk (hb); have n1_ := Aside0.mk (ho); clear HB; clear HO_8; clear HO228; have HB := n0_; have HO231 := n1_; clear n0_ n1_; clear ho hb hg hat))
   first | go_roundg k1 | (refine Handed.intro k1 ?measure ?_; rotate_left; go_step; (repeat apply Exists.intro); simp only [add_plain]; refine ⟨?rel, rfl⟩)
   case measure => have := HK1.out; omega
   case rel => exact ⟨(y229), (wrap64 (x25_1 + 1)), s7q2, H', ⟨by have := HK1.out; omega⟩, ⟨by (with_reducible repeat (first | apply Kd.N_alloc | apply Kd.N_drewN | apply Kd.N_drew)); exact HO231.out⟩, ⟨by repeat (first | (with_reducible first | exact HB.out | apply below_alloc | apply pw_below_drewN | apply below_drew1) | exact HB.out)⟩⟩
 rw [if_neg c6] at H
 have c6b0 : decide (x25_1 < (l0.length : Int)) = false := decide_eq_false c6
 clear c6
 have H' := Aside0.mk H
 clear H
 go_wp2
 go_loopg [8, 10] k1 (fun kq v8 v10 w' => ∃ (x8_2 : List (S89)) (x10_2 : Int), v10 = .int .i64 x10_2 ∧ Aside0 (cost_Greedy.l1 kq l0 l1 x8_2 x10_2 = some (r1, r2, r3)) ∧ Aside0 (kq ≤ k1) ∧ Aside0 (Kd.N k89 89 w' w.heap.size (fun k_ => (w.heap.size ≤ k_)) v8 x8_2) ∧ Aside0 (Below w.heap.size w w'))
 case atStart => exact ⟨(x8_1), (0), s7q2, H', ⟨Nat.le_refl _⟩, ⟨by (with_reducible repeat (first | apply Kd.N_alloc | apply Kd.N_drewN | apply Kd.N_drew)); exact HO_8.out⟩, ⟨by repeat (first | (with_reducible first | exact HB.out | apply below_alloc | apply pw_below_drewN | apply below_drew1) | exact HB.out)⟩⟩
 clear H'
 try clear c1
 try clear c2
 try clear p2
 try clear c4
 try clear c4b0
 try clear c4b1
 try clear c6
 try clear c6b0
 try clear p6
 try clear c7
 try clear c7b0
 try clear c7b1
 try clear c9
 try clear p2
 obtain ⟨x8_2, x10_2, rfl, HA, HK2, HO_8, HB⟩ := hrel
 cases gk with
 | zero => exact absurd HA.out (by simp [cost_Greedy.l1])
 | succ k2 => ?_
 have H := HA.out
 clear HA
 simp only [cost_Greedy.l1] at H
 by_cases c14 : (x8_2.length : Int) > 1
 case neg =>
  rw [if_neg c14] at H
  have c14b0 : decide (1 < (x8_2.length : Int)) = false := decide_eq_false c14
  have c14b1 : decide (1 < x8_2.length) = false := decide_eq_false s7q0
  clear c14
  by_cases c43 : 0 < (x8_2.length : Int)
  case neg =>
   rw [if_neg c43] at H
   exact absurd H (by simp)
  rw [if_pos c43] at H
  have c43b0 : decide (0 < (x8_2.length : Int)) = true := decide_eq_true c43
  have c43b1 : decide (0 < x8_2.length) = true := decide_eq_true s7q0
  clear c43
  simp only [Option.some.injEq, Prod.mk.injEq] at H
  obtain ⟨rfl, rfl, rfl⟩ := H
  obtain ⟨Ao44, co44, eo44⟩ := Kd.N_slice HO_8.out
  subst eo44
  have p232 : 0 ≤ (0 : Int) := s7q0
  have q232 : 0 < (x8_2.length : Int) := of_decide_eq_true s7q3
  obtain ⟨ad232, A232_1, c232_1, e232, hx232_0, hx232_1, hl232_1, hi232_1⟩ := at_T89 (Kd.N_reads' HO_8.out).2.2 0 p232 q232
  cases e232
  obtain ⟨ce232, hce232, hMe232, hcc232⟩ := Kd.N_get HO_8.out z89 0 p232 (by first | exact q232 | exact of_decide_eq_true s7q3 | (have e_ := (Kd.N_reads' HO_8.out).1; omega))
  obtain ⟨ua232_1, uc232_1, rfl, ul232_1, ge232_1⟩ := k89_openF hMe232
  have hv232_1 := hcc232 1 _ rfl
  rw [add_field _ _ 1 s7q0] at hv232_1
  replace hv232_1 := Option.some.inj (hv232_1.symm.trans hx232_1)
  injection hv232_1 with hva_ hvn_ hvc_
  rw [hva_] at ge232_1
  rw [hvc_] at ul232_1
  have HL232_1 := Aside0.mk (show Kd.V (Kd.int .i64) 3 _ w.heap.size _ _ ((rd_T89 x8_2 0).f1) from Kd.V_mk ul232_1 ge232_1)
  clear hva_ hvn_ hvc_ ge232_1 ul232_1
  clear hcc232 hce232
  have qi232 : (0 < x8_2.length) = True := eq_true s7q0
  (try rw [show ((0 : Int)).toNat = 0 from rfl] at hx232_0)
  (try rw [show 0 * 2 = 0 from rfl] at hx232_0)
  (try rw [Addr.add_zero'] at hx232_0)
  (try rw [show ((0 : Int)).toNat = 0 from rfl] at hx232_1)
  (try rw [show 0 * 2 = 0 from rfl] at hx232_1)
  (try rw [Addr.add_zero'] at hx232_1)
  have HR232_1 := Aside0.mk hi232_1
  have HC232_1 := Aside0.mk hl232_1
  clear hi232_1 hl232_1
  replace p232 := eq_true p232
  replace q232 := eq_true q232
  go_wp2
  go_ret3
  exact ⟨_, by first | rfl | (simp [errW_none, errW_some] <;> rfl) | (simp [*, errW_none, errW_some] <;> rfl), by (with_reducible repeat (first | apply Kd.V_alloc | apply Kd.V_drewN | apply Kd.V_drew)); exact Kd.V_mono HL232_1.out (fun _ hk => hk.1), by repeat (first | (with_reducible first | exact HB.out | apply below_alloc | apply pw_below_drewN | apply below_drew1) | exact HB.out)⟩
 rw [if_pos c14] at H
 have c14b0 : decide (1 < (x8_2.length : Int)) = true := decide_eq_true c14
 have c14b1 : decide (1 < x8_2.length) = true := decide_eq_true s7q0
 clear c14
 have H' := Aside0.mk H
 clear H
 obtain ⟨Ao15, co15, eo15⟩ := Kd.N_slice HO_8.out
 subst eo15
 go_wp2
 go_loopg [11, 12, 13, 42] k2 (fun kq v11 v12 v13 v42 w' => ∃ (x11_3 : Int) (x12_3 : Int) (x13_3 : Int) (x42_3 : Int), v11 = .int .i64 x11_3 ∧ v12 = .int .i64 x12_3 ∧ v13 = .int .i64 x13_3 ∧ v42 = .int .i64 x42_3 ∧ Aside0 (cost_Greedy.l2 kq l0 l1 x8_2 x10_2 x11_3 x12_3 x13_3 (x8_2.length : Int) x42_3 = some (r1, r2, r3)) ∧ Aside0 (kq ≤ k2) ∧ Aside0 (Kd.N k89 89 w' w.heap.size (fun k_ => (w.heap.size ≤ k_)) (.slice Ao15 x8_2.length co15) x8_2) ∧ Aside0 (Below w.heap.size w w'))
 case atStart => exact ⟨(0), (0), (0), (0), s7q2, s7q2, s7q2, s7q2, H', ⟨Nat.le_refl _⟩, ⟨by (with_reducible repeat (first | apply Kd.N_alloc | apply Kd.N_drewN | apply Kd.N_drew)); exact HO_8.out⟩, ⟨by repeat (first | (with_reducible first | exact HB.out | apply below_alloc | apply pw_below_drewN | apply below_drew1) | exact HB.out)⟩⟩
 clear H'
 try clear c1
 try clear c2
 try clear p2
 try clear c4
 try clear c4b0
 try clear c4b1
 try clear c6
 try clear c6b0
 try clear p6
 try clear c7
 try clear c7b0
 try clear c7b1
 try clear c9
 try clear c14
 try clear c14b0
 try clear c14b1
 try clear p2
 try clear p6
 obtain ⟨x11_3, x12_3, x13_3, x42_3, rfl, rfl, rfl, rfl, HA, HK3, HO_8, HB⟩ := hrel
 cases gk with
 | zero => exact absurd HA.out (by simp [cost_Greedy.l2])
 | succ k3 => ?_
 have H := HA.out
 clear HA
 simp only [cost_Greedy.l2] at H
 by_cases c16 : x42_3 < (x8_2.length : Int)
 case neg =>
  rw [if_neg c16] at H
  have c16b0 : decide (x42_3 < (x8_2.length : Int)) = false := decide_eq_false c16
  clear c16
  obtain ⟨ji30, hji30⟩ : ∃ j_ : Int, (mn 1000000000000000 (wrap64 (x10_2 + x13_3))) = j_ := ⟨_, rfl⟩
  replace H : (if 0 ≤ x11_3 then (if x11_3 < (x8_2.length : Int) then (if 0 ≤ x12_3 then (if x12_3 < (x8_2.length : Int) then ((cost_joined.f k3 ((rd_T89 x8_2 x11_3).f1) ((rd_T89 x8_2 x12_3).f1)).bind fun t237 => (cost_Greedy.l1 k3 l0 l1 ((x8_2.set (x11_3 : Int).toNat (⟨Go.bits .or .i64 ((rd_T89 x8_2 x11_3).f0) ((rd_T89 x8_2 x12_3).f0), t237⟩ : S89)).eraseIdx (x12_3 : Int).toNat) ji30)) else (none)) else (none)) else (none)) else (none)) = some (r1, r2, r3) := by first | (rw [hji30] at H; exact H) | (simp only [hji30] at H ⊢; exact H)
  have hji30_ : (if (wrap64 (x10_2 + x13_3)) < 1000000000000000 then (wrap64 (x10_2 + x13_3)) else 1000000000000000) = ji30 := hji30
  by_cases c31 : 0 ≤ x11_3
  case neg =>
   rw [if_neg c31] at H
   exact absurd H (by simp)
  rw [if_pos c31] at H
  have c31b0 : decide (0 ≤ x11_3) = true := decide_eq_true c31
  clear c31
  by_cases c32 : x11_3 < (x8_2.length : Int)
  case neg =>
   rw [if_neg c32] at H
   exact absurd H (by simp)
  rw [if_pos c32] at H
  have c32b0 : decide (x11_3 < (x8_2.length : Int)) = true := decide_eq_true c32
  clear c32
  by_cases c33 : 0 ≤ x12_3
  case neg =>
   rw [if_neg c33] at H
   exact absurd H (by simp)
  rw [if_pos c33] at H
  have c33b0 : decide (0 ≤ x12_3) = true := decide_eq_true c33
  clear c33
  by_cases c34 : x12_3 < (x8_2.length : Int)
  case neg =>
   rw [if_neg c34] at H
   exact absurd H (by simp)
  rw [if_pos c34] at H
  have c34b0 : decide (x12_3 < (x8_2.length : Int)) = true := decide_eq_true c34
  clear c34
  replace H := Option.bind_eq_some_iff.mp H
  obtain ⟨t237, A350, H⟩ := H
  replace H : (cost_Greedy.l1 k3 l0 l1 ((x8_2.set (x11_3 : Int).toNat (⟨Go.bits .or .i64 ((rd_T89 x8_2 x11_3).f0) ((rd_T89 x8_2 x12_3).f0), t237⟩ : S89)).eraseIdx (x12_3 : Int).toNat) ji30) = some (r1, r2, r3) := H
  have A35 := Aside0.mk A350
  clear A350
  obtain ⟨y240, hy240⟩ : ∃ y_ : List (S89), y_ = (x8_2.set (x11_3 : Int).toNat (⟨Go.bits .or .i64 ((rd_T89 x8_2 x11_3).f0) ((rd_T89 x8_2 x12_3).f0), t237⟩ : S89)) := ⟨_, rfl⟩
  replace H : (cost_Greedy.l1 k3 l0 l1 (y240.eraseIdx (x12_3 : Int).toNat) ji30) = some (r1, r2, r3) := sqz hy240 H
  have Ny240 := Aside0.mk hy240
  clear hy240
  obtain ⟨y241, hy241⟩ : ∃ y_ : List (S89), y_ = (y240.eraseIdx (x12_3 : Int).toNat) := ⟨_, rfl⟩
  replace H : (cost_Greedy.l1 k3 l0 l1 y241 ji30) = some (r1, r2, r3) := sqz hy241 H
  have Ny241 := Aside0.mk hy241
  clear hy241
  have H' := Aside0.mk H
  clear H
  try go_wp2
  have n0_ := Aside0.mk (Kd.N_drew HO_8.out)
  have n1_ := Aside0.mk (below_drew1 HB.out)
  clear HO_8
  clear HB
  have HO_8 := n0_
  have HB := n1_
  clear n0_ n1_
  have p233 : 0 ≤ (x11_3 : Int) := of_decide_eq_true s7q3
  have q233 : x11_3 < (x8_2.length : Int) := of_decide_eq_true s7q3
  obtain ⟨ad233, A233_1, c233_1, e233, hx233_0, hx233_1, hl233_1, hi233_1⟩ := at_T89 (Kd.N_reads' HO_8.out).2.2 x11_3 p233 q233
  cases e233
  obtain ⟨ce233, hce233, hMe233, hcc233⟩ := Kd.N_get HO_8.out z89 x11_3 p233 (by first | exact q233 | exact of_decide_eq_true s7q3 | (have e_ := (Kd.N_reads' HO_8.out).1; omega))
  obtain ⟨ua233_1, uc233_1, rfl, ul233_1, ge233_1⟩ := k89_openF hMe233
  have hv233_1 := hcc233 1 _ rfl
  rw [add_field _ _ 1 s7q0] at hv233_1
  replace hv233_1 := Option.some.inj (hv233_1.symm.trans hx233_1)
  injection hv233_1 with hva_ hvn_ hvc_
  rw [hva_] at ge233_1
  rw [hvc_] at ul233_1
  have HL233_1 := Aside0.mk (show Kd.V (Kd.int .i64) 3 _ w.heap.size _ _ ((rd_T89 x8_2 x11_3).f1) from Kd.V_mk ul233_1 ge233_1)
  clear hva_ hvn_ hvc_ ge233_1 ul233_1
  clear hcc233 hce233
  have HR233_1 := Aside0.mk hi233_1
  have HC233_1 := Aside0.mk hl233_1
  clear hi233_1 hl233_1
  replace p233 := eq_true p233
  replace q233 := eq_true q233
  have p234 : 0 ≤ (x12_3 : Int) := of_decide_eq_true s7q3
  have q234 : x12_3 < (x8_2.length : Int) := of_decide_eq_true s7q3
  obtain ⟨ad234, A234_1, c234_1, e234, hx234_0, hx234_1, hl234_1, hi234_1⟩ := at_T89 (Kd.N_reads' HO_8.out).2.2 x12_3 p234 q234
  obtain rfl : ad233 = ad234 := (by injection e234)
  obtain ⟨ce234, hce234, hMe234, hcc234⟩ := Kd.N_get HO_8.out z89 x12_3 p234 (by first | exact q234 | exact of_decide_eq_true s7q3 | (have e_ := (Kd.N_reads' HO_8.out).1; omega))
  obtain ⟨ua234_1, uc234_1, rfl, ul234_1, ge234_1⟩ := k89_openF hMe234
  have hv234_1 := hcc234 1 _ rfl
  rw [add_field _ _ 1 s7q0] at hv234_1
  replace hv234_1 := Option.some.inj (hv234_1.symm.trans hx234_1)
  injection hv234_1 with hva_ hvn_ hvc_
  rw [hva_] at ge234_1
  rw [hvc_] at ul234_1
  have HL234_1 := Aside0.mk (show Kd.V (Kd.int .i64) 3 _ w.heap.size _ _ ((rd_T89 x8_2 x12_3).f1) from Kd.V_mk ul234_1 ge234_1)
  clear hva_ hvn_ hvc_ ge234_1 ul234_1
  clear hcc234 hce234
  have HR234_1 := Aside0.mk hi234_1
  have HC234_1 := Aside0.mk hl234_1
  clear hi234_1 hl234_1
  replace p234 := eq_true p234
  replace q234 := eq_true q234
  have p235 : 0 ≤ (x11_3 : Int) := of_decide_eq_true s7q3
  have q235 : x11_3 < (x8_2.length : Int) := of_decide_eq_true s7q3
  obtain ⟨ad235, A235_1, c235_1, e235, hx235_0, hx235_1, hl235_1, hi235_1⟩ := at_T89 (Kd.N_reads' HO_8.out).2.2 x11_3 p235 q235
  obtain rfl : ad233 = ad235 := (by injection e235)
  obtain ⟨ce235, hce235, hMe235, hcc235⟩ := Kd.N_get HO_8.out z89 x11_3 p235 (by first | exact q235 | exact of_decide_eq_true s7q3 | (have e_ := (Kd.N_reads' HO_8.out).1; omega))
  obtain ⟨ua235_1, uc235_1, rfl, ul235_1, ge235_1⟩ := k89_openF hMe235
  have hv235_1 := hcc235 1 _ rfl
  rw [add_field _ _ 1 s7q0] at hv235_1
  replace hv235_1 := Option.some.inj (hv235_1.symm.trans hx235_1)
  injection hv235_1 with hva_ hvn_ hvc_
  rw [hva_] at ge235_1
  rw [hvc_] at ul235_1
  have HL235_1 := Aside0.mk (show Kd.V (Kd.int .i64) 3 _ w.heap.size _ _ ((rd_T89 x8_2 x11_3).f1) from Kd.V_mk ul235_1 ge235_1)
  clear hva_ hvn_ hvc_ ge235_1 ul235_1
  clear hcc235 hce235
  have HR235_1 := Aside0.mk hi235_1
  have HC235_1 := Aside0.mk hl235_1
  clear hi235_1 hl235_1
  replace p235 := eq_true p235
  replace q235 := eq_true q235
  have ea_ := Option.some.inj (hx233_1.symm.trans hx235_1)
  injection ea_ with ea_ en_ ec_
  subst ea_
  subst ec_
  clear en_
  have p236 : 0 ≤ (x12_3 : Int) := of_decide_eq_true s7q3
  have q236 : x12_3 < (x8_2.length : Int) := of_decide_eq_true s7q3
  obtain ⟨ad236, A236_1, c236_1, e236, hx236_0, hx236_1, hl236_1, hi236_1⟩ := at_T89 (Kd.N_reads' HO_8.out).2.2 x12_3 p236 q236
  obtain rfl : ad233 = ad236 := (by injection e236)
  obtain ⟨ce236, hce236, hMe236, hcc236⟩ := Kd.N_get HO_8.out z89 x12_3 p236 (by first | exact q236 | exact of_decide_eq_true s7q3 | (have e_ := (Kd.N_reads' HO_8.out).1; omega))
  obtain ⟨ua236_1, uc236_1, rfl, ul236_1, ge236_1⟩ := k89_openF hMe236
  have hv236_1 := hcc236 1 _ rfl
  rw [add_field _ _ 1 s7q0] at hv236_1
  replace hv236_1 := Option.some.inj (hv236_1.symm.trans hx236_1)
  injection hv236_1 with hva_ hvn_ hvc_
  rw [hva_] at ge236_1
  rw [hvc_] at ul236_1
  have HL236_1 := Aside0.mk (show Kd.V (Kd.int .i64) 3 _ w.heap.size _ _ ((rd_T89 x8_2 x12_3).f1) from Kd.V_mk ul236_1 ge236_1)
  clear hva_ hvn_ hvc_ ge236_1 ul236_1
  clear hcc236 hce236
  have HR236_1 := Aside0.mk hi236_1
  have HC236_1 := Aside0.mk hl236_1
  clear hi236_1 hl236_1
  replace p236 := eq_true p236
  replace q236 := eq_true q236
  have ea_ := Option.some.inj (hx234_1.symm.trans hx236_1)
  injection ea_ with ea_ en_ ec_
  subst ea_
  subst ec_
  clear en_
  refine start_ (n := 27) (S := fun w' => w'.cell? (ad233.add ((x11_3).toNat * 2)) = some (.int .i64 ((rd_T89 x8_2 x11_3).f0)) ∧ w'.cell? ⟨(ad233.add ((x11_3).toNat * 2)).block, (ad233.add ((x11_3).toNat * 2)).off + 1, none⟩ = some (.slice A233_1 ((rd_T89 x8_2 x11_3).f1).length c233_1) ∧ w'.cell? (ad233.add ((x12_3).toNat * 2)) = some (.int .i64 ((rd_T89 x8_2 x12_3).f0)) ∧ w'.cell? ⟨(ad233.add ((x12_3).toNat * 2)).block, (ad233.add ((x12_3).toNat * 2)).off + 1, none⟩ = some (.slice A234_1 ((rd_T89 x8_2 x12_3).f1).length c234_1) ∧ w'.cell? (ad233.add ((x11_3).toNat * 2)) = some (.int .i64 ((rd_T89 x8_2 x11_3).f0)) ∧ w'.cell? ⟨(ad233.add ((x11_3).toNat * 2)).block, (ad233.add ((x11_3).toNat * 2)).off + 1, none⟩ = some (.slice A233_1 ((rd_T89 x8_2 x11_3).f1).length c233_1) ∧ w'.cell? (ad233.add ((x12_3).toNat * 2)) = some (.int .i64 ((rd_T89 x8_2 x12_3).f0)) ∧ w'.cell? ⟨(ad233.add ((x12_3).toNat * 2)).block, (ad233.add ((x12_3).toNat * 2)).off + 1, none⟩ = some (.slice A234_1 ((rd_T89 x8_2 x12_3).f1).length c234_1)) (ds := [26]) #[false, false, false, false, false, false, false, false, false, false, false, false, false, false, false, false, false, false, false, false, false, false, false, false, false, false, false] s7q1 rfl rfl ⟨hx233_0, hx233_1, hx234_0, hx234_1, hx235_0, hx235_1, hx236_0, hx236_1⟩ (fun hHeld => ?_); refine with_tabW cost_Greedy.tab24 cost_Greedy.bits24 (fun HT_ HW_ => ?_)
  generalize wr.drew = w37 at HO_8 HB HL233_1 HL234_1 HL235_1 HL236_1 HR233_1 HR234_1 HR235_1 HR236_1 hx233_0 hx233_1 hx234_0 hx234_1 hx235_0 hx235_1 hx236_0 hx236_1 hHeld ⊢
  refine pure_ (i := 0) (N := some 82) (v := ?_) (a' := ?_) #[true, false, false, false, false, false, false, false, false, false, false, false, false, false, false, false, false, false, false, false, false, false, false, false, false, false, false] rfl rfl (any_of HT_.out s7q1) (fun _ _ _ h => h) (Or.inl ⟨by rfl, ?_⟩) ?_ ?_
  rotate_left
  · intro w'
    go_simp
    with_reducible rfl
  rotate_left
  · simp only [Act.put, sqa, sqb, sqc, i64_w, i32_w]
    rfl
  refine pure_ (i := 1) (N := some 83) (v := ?_) (a' := ?_) #[true, true, false, false, false, false, false, false, false, false, false, false, false, false, false, false, false, false, false, false, false, false, false, false, false, false, false] rfl rfl (any_of HT_.out s7q1) (fun _ _ _ h => h) (Or.inl ⟨by rfl, ?_⟩) ?_ ?_
  rotate_left
  · intro w'
    go_simp
    with_reducible rfl
  rotate_left
  · simp only [Act.put, sqa, sqb, sqc, i64_w, i32_w]
    rfl
  refine pure_ (i := 2) (N := some 84) (v := ?_) (a' := ?_) #[true, true, true, false, false, false, false, false, false, false, false, false, false, false, false, false, false, false, false, false, false, false, false, false, false, false, false] rfl rfl (any_of HT_.out s7q1) (fun _ _ _ h => h) (Or.inl ⟨by rfl, ?_⟩) ?_ ?_
  rotate_left
  · intro w'
    go_simp
    with_reducible rfl
  rotate_left
  · simp only [Act.put, sqa, sqb, sqc, i64_w, i32_w]
    rfl
  refine pure_ (i := 3) (N := some 85) (v := ?_) (a' := ?_) #[true, true, true, true, false, false, false, false, false, false, false, false, false, false, false, false, false, false, false, false, false, false, false, false, false, false, false] rfl rfl (any_of HT_.out s7q1) (fun _ _ _ h => h) (Or.inl ⟨by rfl, ?_⟩) ?_ ?_
  rotate_left
  · intro w'
    go_simp
    with_reducible rfl
  rotate_left
  · simp only [Act.put, sqa, sqb, sqc, i64_w, i32_w]
    rfl
  refine pure_ (i := 4) (N := some 86) (v := ?_) (a' := ?_) #[true, true, true, true, true, false, false, false, false, false, false, false, false, false, false, false, false, false, false, false, false, false, false, false, false, false, false] rfl rfl (any_of HT_.out s7q1) (fun _ _ _ h => h) (Or.inl ⟨by rfl, ?_⟩) ?_ ?_
  rotate_left
  · intro w'
    go_simp
    with_reducible rfl
  rotate_left
  · simp only [Act.put, sqa, sqb, sqc, i64_w, i32_w]
    rfl
  refine pure_ (i := 5) (N := some 87) (v := ?_) (a' := ?_) #[true, true, true, true, true, true, false, false, false, false, false, false, false, false, false, false, false, false, false, false, false, false, false, false, false, false, false] rfl rfl (any_of HT_.out s7q1) (fun _ _ _ h => h) (Or.inl ⟨by rfl, ?_⟩) ?_ ?_
  rotate_left
  · intro w'
    go_simp
    with_reducible rfl
  rotate_left
  · simp only [Act.put, sqa, sqb, sqc, i64_w, i32_w]
    rfl
  refine pure_ (i := 7) (N := some 89) (v := ?_) (a' := ?_) #[true, true, true, true, true, true, false, true, false, false, false, false, false, false, false, false, false, false, false, false, false, false, false, false, false, false, false] rfl rfl (any_of HT_.out s7q1) (fun _ _ _ h => h) (Or.inl ⟨by rfl, ?_⟩) ?_ ?_
  rotate_left
  · intro w'
    go_simp
    with_reducible rfl
  rotate_left
  · simp only [Act.put, sqa, sqb, sqc, i64_w, i32_w]
    rfl
  refine pure_ (i := 8) (N := some 90) (v := ?_) (a' := ?_) #[true, true, true, true, true, true, false, true, true, false, false, false, false, false, false, false, false, false, false, false, false, false, false, false, false, false, false] rfl rfl (any_of HT_.out s7q1) (fun _ _ _ h => h) (Or.inl ⟨by rfl, ?_⟩) ?_ ?_
  rotate_left
  · intro w'
    go_simp
    with_reducible rfl
  rotate_left
  · simp only [Act.put, sqa, sqb, sqc, i64_w, i32_w]
    rfl
  refine pure_ (i := 9) (N := some 91) (v := ?_) (a' := ?_) #[true, true, true, true, true, true, false, true, true, true, false, false, false, false, false, false, false, false, false, false, false, false, false, false, false, false, false] rfl rfl (any_of HT_.out s7q1) (fun _ _ _ h => h) (Or.inl ⟨by rfl, ?_⟩) ?_ ?_
  rotate_left
  · intro w'
    go_simp
    with_reducible rfl
  rotate_left
  · simp only [Act.put, sqa, sqb, sqc, i64_w, i32_w]
    rfl
  refine pure_ (i := 10) (N := some 92) (v := ?_) (a' := ?_) #[true, true, true, true, true, true, false, true, true, true, true, false, false, false, false, false, false, false, false, false, false, false, false, false, false, false, false] rfl rfl (any_of HT_.out s7q1) (fun _ _ _ h => h) (Or.inl ⟨by rfl, ?_⟩) ?_ ?_
  rotate_left
  · intro w'
    go_simp
    with_reducible rfl
  rotate_left
  · simp only [Act.put, sqa, sqb, sqc, i64_w, i32_w]
    rfl
  refine pure_ (i := 13) (N := some 95) (v := ?_) (a' := ?_) #[true, true, true, true, true, true, false, true, true, true, true, false, false, true, false, false, false, false, false, false, false, false, false, false, false, false, false] rfl rfl (any_of HT_.out s7q1) (fun _ _ _ h => h) (Or.inl ⟨by rfl, ?_⟩) ?_ ?_
  rotate_left
  · intro w'
    go_simp
    with_reducible rfl
  rotate_left
  · simp only [Act.put, sqa, sqb, sqc, i64_w, i32_w]
    rfl
  refine pure_ (i := 14) (N := some 96) (v := ?_) (a' := ?_) #[true, true, true, true, true, true, false, true, true, true, true, false, false, true, true, false, false, false, false, false, false, false, false, false, false, false, false] rfl rfl (any_of HT_.out s7q1) (fun _ _ _ h => h) (Or.inl ⟨by rfl, ?_⟩) ?_ ?_
  rotate_left
  · intro w'
    go_simp
    with_reducible rfl
  rotate_left
  · simp only [Act.put, sqa, sqb, sqc, i64_w, i32_w]
    rfl
  refine pure_ (i := 15) (N := some 97) (v := ?_) (a' := ?_) #[true, true, true, true, true, true, false, true, true, true, true, false, false, true, true, true, false, false, false, false, false, false, false, false, false, false, false] rfl rfl (any_of HT_.out s7q1) (fun _ _ _ h => h) (Or.inl ⟨by rfl, ?_⟩) ?_ ?_
  rotate_left
  · intro w'
    go_simp
    with_reducible rfl
  rotate_left
  · simp only [Act.put, sqa, sqb, sqc, i64_w, i32_w]
    rfl
  refine pure_ (i := 16) (N := some 98) (v := ?_) (a' := ?_) #[true, true, true, true, true, true, false, true, true, true, true, false, false, true, true, true, true, false, false, false, false, false, false, false, false, false, false] rfl rfl (any_of HT_.out s7q1) (fun _ _ _ h => h) (Or.inl ⟨by rfl, ?_⟩) ?_ ?_
  rotate_left
  · intro w'
    go_simp
    with_reducible rfl
  rotate_left
  · simp only [Act.put, sqa, sqb, sqc, i64_w, i32_w]
    rfl
  refine pure_ (i := 18) (N := some 100) (v := ?_) (a' := ?_) #[true, true, true, true, true, true, false, true, true, true, true, false, false, true, true, true, true, false, true, false, false, false, false, false, false, false, false] rfl rfl (any_of HT_.out s7q1) (fun _ _ _ h => h) (Or.inl ⟨by rfl, ?_⟩) ?_ ?_
  rotate_left
  · intro w'
    go_simp
    with_reducible rfl
  rotate_left
  · simp only [Act.put, sqa, sqb, sqc, i64_w, i32_w]
    rfl
  refine pure_ (i := 19) (N := some 101) (v := ?_) (a' := ?_) #[true, true, true, true, true, true, false, true, true, true, true, false, false, true, true, true, true, false, true, true, false, false, false, false, false, false, false] rfl rfl (any_of HT_.out s7q1) (fun _ _ _ h => h) (Or.inl ⟨by rfl, ?_⟩) ?_ ?_
  rotate_left
  · intro w'
    go_simp
    with_reducible rfl
  rotate_left
  · simp only [Act.put, sqa, sqb, sqc, i64_w, i32_w]
    rfl
  refine pure_ (i := 20) (N := some 102) (v := ?_) (a' := ?_) #[true, true, true, true, true, true, false, true, true, true, true, false, false, true, true, true, true, false, true, true, true, false, false, false, false, false, false] rfl rfl (any_of HT_.out s7q1) (fun _ _ _ h => h) (Or.inl ⟨by rfl, ?_⟩) ?_ ?_
  rotate_left
  · intro w'
    go_simp
    with_reducible rfl
  rotate_left
  · simp only [Act.put, sqa, sqb, sqc, i64_w, i32_w]
    rfl
  refine pure_ (i := 21) (N := some 103) (v := ?_) (a' := ?_) #[true, true, true, true, true, true, false, true, true, true, true, false, false, true, true, true, true, false, true, true, true, true, false, false, false, false, false] rfl rfl (any_of HT_.out s7q1) (fun _ _ _ h => h) (Or.inl ⟨by rfl, ?_⟩) ?_ ?_
  rotate_left
  · intro w'
    go_simp
    with_reducible rfl
  rotate_left
  · simp only [Act.put, sqa, sqb, sqc, i64_w, i32_w]
    rfl
  refine take_ (i := 6) (N := some 88) (v := ?_) (a' := ?_) #[true, true, true, true, true, true, true, true, true, true, true, false, false, true, true, true, true, false, true, true, true, true, false, false, false, false, false] rfl rfl (take_ofW HT_.out HW_.out s7q1) (fun _ _ _ h => h) (Or.inl ⟨by rfl, ?_⟩) hHeld ?_ ?_
  rotate_left
  · rintro w' ⟨s0, s1, s2, s3, s4, s5, s6, s7⟩
    go_simp
    with_reducible rfl
  rotate_left
  · simp only [Act.put, sqa, sqb, sqc, i64_w, i32_w]
    rfl
  refine take_ (i := 11) (N := some 93) (v := ?_) (a' := ?_) #[true, true, true, true, true, true, true, true, true, true, true, true, false, true, true, true, true, false, true, true, true, true, false, false, false, false, false] rfl rfl (take_ofW HT_.out HW_.out s7q1) (fun _ _ _ h => h) (Or.inl ⟨by rfl, ?_⟩) hHeld ?_ ?_
  rotate_left
  · rintro w' ⟨s0, s1, s2, s3, s4, s5, s6, s7⟩
    go_simp
    with_reducible rfl
  rotate_left
  · simp only [Act.put, sqa, sqb, sqc, i64_w, i32_w]
    rfl
  refine pure_ (i := 12) (N := some 94) (v := ?_) (a' := ?_) #[true, true, true, true, true, true, true, true, true, true, true, true, true, true, true, true, true, false, true, true, true, true, false, false, false, false, false] rfl rfl (any_of HT_.out s7q1) (fun _ _ _ h => h) (Or.inl ⟨by rfl, ?_⟩) ?_ ?_
  rotate_left
  · intro w'
    go_simp
    with_reducible rfl
  rotate_left
  · simp only [Act.put, sqa, sqb, sqc, i64_w, i32_w]
    rfl
  refine take_ (i := 17) (N := some 99) (v := ?_) (a' := ?_) #[true, true, true, true, true, true, true, true, true, true, true, true, true, true, true, true, true, true, true, true, true, true, false, false, false, false, false] rfl rfl (take_ofW HT_.out HW_.out s7q1) (fun _ _ _ h => h) (Or.inl ⟨by rfl, ?_⟩) hHeld ?_ ?_
  rotate_left
  · rintro w' ⟨s0, s1, s2, s3, s4, s5, s6, s7⟩
    go_simp
    with_reducible rfl
  rotate_left
  · simp only [Act.put, sqa, sqb, sqc, i64_w, i32_w]
    rfl
  refine take_ (i := 22) (N := some 104) (v := ?_) (a' := ?_) #[true, true, true, true, true, true, true, true, true, true, true, true, true, true, true, true, true, true, true, true, true, true, true, false, false, false, false] rfl rfl (take_ofW HT_.out HW_.out s7q1) (fun _ _ _ h => h) (Or.inl ⟨by rfl, ?_⟩) hHeld ?_ ?_
  rotate_left
  · rintro w' ⟨s0, s1, s2, s3, s4, s5, s6, s7⟩
    go_simp
    with_reducible rfl
  rotate_left
  · simp only [Act.put, sqa, sqb, sqc, i64_w, i32_w]
    rfl
  refine one_ (i := 23) (N := some 105) #[true, true, true, true, true, true, true, true, true, true, true, true, true, true, true, true, true, true, true, true, true, true, true, true, false, false, false] rfl rfl (one_of HT_.out s7q1) (by decide) (fun K hK => ?_)
  refine goes_ Tryd.func47 s7q1 rfl #[.slice A233_1 ((rd_T89 x8_2 x11_3).f1).length c233_1, .slice A234_1 ((rd_T89 x8_2 x12_3).f1).length c234_1] (by rfl) rfl rfl s7q8 ?_
  with_reducible refine (cost_joined.calls k3 _ _ ((rd_T89 x8_2 x11_3).f1) _ _ ((rd_T89 x8_2 x12_3).f1) t237 _ ?side1 ?side2 ?side3 ?side4 A35.out).mono ?_
  (case side1 => repeat (first | exact s7q9 | (with_reducible refine Kd.C_alloc ?_ _) | (with_reducible refine Kd.C_drewN ?_ _) | (with_reducible refine Kd.C_drew ?_)))
  (case side2 => exact HC235_1.out)
  (case side3 => repeat (first | exact s7q10 | (with_reducible refine Kd.C_alloc ?_ _) | (with_reducible refine Kd.C_drewN ?_ _) | (with_reducible refine Kd.C_drew ?_)))
  (case side4 => exact HC236_1.out)
  rintro e w38 ⟨v238, rfl, ho0, hb⟩
  have HS0_ := pw_cell_below hb hHeld.1
  have HS1_ := pw_cell_below hb hHeld.2.1
  have HS2_ := pw_cell_below hb hHeld.2.2.1
  have HS3_ := pw_cell_below hb hHeld.2.2.2.1
  have HS4_ := pw_cell_below hb hHeld.2.2.2.2.1
  have HS5_ := pw_cell_below hb hHeld.2.2.2.2.2.1
  have HS6_ := pw_cell_below hb hHeld.2.2.2.2.2.2.1
  have HS7_ := pw_cell_below hb hHeld.2.2.2.2.2.2.2
  refine ⟨_, rfl, ?_⟩
  have n0_ := Aside0.mk (Kd.N_elder' s7q4 (Kd.R_base ho0) hb)
  have n1_ := Aside0.mk (Kd.V_elder' (by (with_reducible repeat (first | apply Kd.V_alloc | apply Kd.V_drewN | apply Kd.V_drew)); exact HL233_1.out) (Kd.R_base ho0) hb)
  have n2_ := Aside0.mk (Kd.V_elder' (by (with_reducible repeat (first | apply Kd.V_alloc | apply Kd.V_drewN | apply Kd.V_drew)); exact HL234_1.out) (Kd.R_base ho0) hb)
  have n3_ := Aside0.mk (Kd.V_elder' (by (with_reducible repeat (first | apply Kd.V_alloc | apply Kd.V_drewN | apply Kd.V_drew)); exact HL235_1.out) (Kd.R_base ho0) hb)
  have n4_ := Aside0.mk (Kd.V_elder' (by (with_reducible repeat (first | apply Kd.V_alloc | apply Kd.V_drewN | apply Kd.V_drew)); exact HL236_1.out) (Kd.R_base ho0) hb)
  have n5_ := Aside0.mk (Kd.R_lower (Kd.R_newM (M := fun k_ => (w.heap.size ≤ k_)) ho0 (below_size s7q7) (fun k_ h_ => h_)) (below_size s7q7))
  have n6_ := Aside0.mk (Kd.C_below (by repeat (first | (with_reducible exact HR233_1.out) | (with_reducible refine Kd.C_alloc ?_ _) | (with_reducible refine Kd.C_drewN ?_ _) | (with_reducible refine Kd.C_drew ?_) | exact HR233_1.out)) hb)
  have n7_ := Aside0.mk (Kd.C_below (by repeat (first | (with_reducible exact HR234_1.out) | (with_reducible refine Kd.C_alloc ?_ _) | (with_reducible refine Kd.C_drewN ?_ _) | (with_reducible refine Kd.C_drew ?_) | exact HR234_1.out)) hb)
  have n8_ := Aside0.mk (Kd.C_below s7q9 hb)
  have n9_ := Aside0.mk (Kd.C_below s7q10 hb)
  have n10_ := Aside0.mk (below_step s7q7 hb)
  clear HO_8
  clear HL233_1
  clear HL234_1
  clear HL235_1
  clear HL236_1
  clear HR233_1
  clear HR234_1
  clear HR235_1
  clear HR236_1
  clear HB
  have HO_8 := n0_
  have HL233_1 := n1_
  have HL234_1 := n2_
  have HL235_1 := n3_
  have HL236_1 := n4_
  have HO239 := n5_
  have HR233_1 := n6_
  have HR234_1 := n7_
  have HR235_1 := n8_
  have HR236_1 := n9_
  have HB := n10_
  clear n0_ n1_ n2_ n3_ n4_ n5_ n6_ n7_ n8_ n9_ n10_
  (try clear hb)
  (try clear hb2)
  (try clear hk)
  (try clear hi)
  (try clear ho0)
  obtain ⟨Ao39, co39, eo39⟩ := Kd.R_slice HO239.out
  (first | subst eo39 | (injection eo39 with f1_ f2_ f3_; have f4_ := f1_.symm; have f5_ := f3_.symm; clear f1_ f2_ f3_; subst f4_; subst f5_))
  have p36 : 0 ≤ (x11_3 : Int) := of_decide_eq_true s7q3
  have q36 : (x11_3 : Int) < ((x8_2.length : Int) : Int) := of_decide_eq_true s7q3
  obtain ⟨go36, co36, eo36, gb36, gl36, cl36, HG36⟩ := Kd.N_form HO_8.out (by first | exact Int.natCast_pos.1 (Int.lt_of_le_of_lt p36 q36) | omega)
  (first | cases eo36 | (injection eo36 with ea_ en_ ec_; (first | subst ea_ | (injection ea_ with ea_; subst ea_)); subst ec_; clear en_))
  have GB36 := Aside0.mk gb36
  have GG36 := Aside0.mk HG36
  clear gb36 gl36 HG36
  (first | simp only [add_plain] at hx233_0 | skip)
  (first | simp only [add_plain] at hx233_1 | skip)
  (first | simp only [add_plain] at hx234_0 | skip)
  (first | simp only [add_plain] at hx234_1 | skip)
  (first | simp only [add_plain] at hx235_0 | skip)
  (first | simp only [add_plain] at hx235_1 | skip)
  (first | simp only [add_plain] at hx236_0 | skip)
  (first | simp only [add_plain] at hx236_1 | skip)
  obtain ⟨ce36, hcl36, hM36, hcc36, hfr36⟩ := Kd.N_elem HO_8.out z89 (x11_3 : Int) p36 q36
  obtain ⟨ua36_1, uc36_1, rfl, ul36_1, ge36_1⟩ := k89_openF hM36
  have hx36_0 : World.cell? _ ⟨go36, (x11_3 : Int).toNat * 2, none⟩ = some (.int .i64 ((rd_T89 x8_2 x11_3).f0)) := hcc36 0 _ rfl
  have hx36_1 : World.cell? _ ⟨go36, (x11_3 : Int).toNat * 2 + 1, none⟩ = some (.slice ua36_1 ((rd_T89 x8_2 x11_3).f1).length uc36_1) := hcc36 1 _ rfl
  have hf36_0 : World.frozen? _ ⟨go36, (x11_3 : Int).toNat * 2, none⟩ = false := hfr36 0
  have hf36_1 : World.frozen? _ ⟨go36, (x11_3 : Int).toNat * 2 + 1, none⟩ = false := hfr36 1
  clear hcl36 hcc36 hfr36 hM36
  replace p36 := eq_true p36
  replace q36 := eq_true q36
  have HX40 := Aside0.mk (show Kd.N k89 89 _ w.heap.size (fun k_ => (w.heap.size ≤ k_) ∧ some k_ ≠ (.slice Ao39 t237.length co39 : Value).ownBlock) (.slice (some ⟨go36, 0, none⟩) x8_2.length co15) x8_2 from (Kd.N_mono (HO_8.out) (fun k_ hk => ⟨hk.1, hk.2⟩)))
  replace HX40 := Aside0.mk (show Kd.N k89 89 _ w.heap.size (fun k_ => (w.heap.size ≤ k_)) (.slice (some ⟨go36, 0, none⟩) x8_2.length co15) x8_2 from Kd.N_mono HX40.out (fun k_ hk => hk.1))
  obtain ⟨ce40, hcl40, hM40, hcc40, hfr40⟩ := Kd.N_elem HX40.out z89 (x11_3 : Int) (of_decide_eq_true s7q3) s7q15
  obtain ⟨ua40_1, uc40_1, rfl, ul40_1, ge40_1⟩ := k89_openF hM40
  have HP40 := (Kd.N_seg HX40.out (x11_3 : Int) (of_decide_eq_true s7q3) s7q15 (seg := [.int .i64 (Go.bits .or .i64 ((rd_T89 x8_2 x11_3).f0) ((rd_T89 x8_2 x12_3).f0)), .slice Ao39 t237.length co39]) (j := 0) hcl40 hcc40 (show 2 ≤ 2 from by decide) (x' := (⟨Go.bits .or .i64 ((rd_T89 x8_2 x11_3).f0) ((rd_T89 x8_2 x12_3).f0), t237⟩ : S89)) (k89_mkF _ _ (⟨Go.bits .or .i64 ((rd_T89 x8_2 x11_3).f0) ((rd_T89 x8_2 x12_3).f0), t237⟩ : S89) (Kd.R_reads' (Kd.R_mono (ok' := (fun k_ => ((fun k_ => (w.heap.size ≤ k_))) k_ ∧ k_ ≠ go36)) (Kd.R_apart' (HO239.out) (Kd.N_typed HO_8.out) (by decide)) (fun k_ hk => ⟨hk.1.1, fun e_ => (hk.2) (by rw [e_]; rfl)⟩))).2.1 (Kd.R_F (Kd.R_mono (ok' := (fun k_ => ((fun k_ => (w.heap.size ≤ k_))) k_ ∧ k_ ≠ go36)) (Kd.R_apart' (HO239.out) (Kd.N_typed HO_8.out) (by decide)) (fun k_ hk => ⟨hk.1.1, fun e_ => (hk.2) (by rw [e_]; rfl)⟩)))) (fun _ hk => hk)).1
  rw [← Ny240.out] at HP40
  have HQ40 := Aside0.mk HP40
  clear hcl40 hcc40 hfr40 hM40 HP40
  refine hK.out _ _ ⟨HS0_, HS1_, HS2_, HS3_, HS4_, HS5_, HS6_, HS7_⟩ (fun hHeld => ?_)
  clear hK K
  refine norm_ (a' := ?_) ?_ ?_
  rotate_left
  · show Act.put _ (some 105) _ = _
    simp only [Act.put, sqa, sqb, sqc, i64_w, i32_w]
    rfl
  refine pure_ (i := 24) (N := some 106) (v := ?_) (a' := ?_) #[true, true, true, true, true, true, true, true, true, true, true, true, true, true, true, true, true, true, true, true, true, true, true, true, true, false, false] rfl rfl (any_of HT_.out s7q1) (fun _ _ _ h => h) (Or.inl ⟨by rfl, ?_⟩) ?_ ?_
  rotate_left
  · intro w'
    go_simp
    with_reducible rfl
  rotate_left
  · simp only [Act.put, sqa, sqb, sqc, i64_w, i32_w]
    rfl
  refine pure_ (i := 25) (N := some 107) (v := ?_) (a' := ?_) #[true, true, true, true, true, true, true, true, true, true, true, true, true, true, true, true, true, true, true, true, true, true, true, true, true, true, false] rfl rfl (any_of HT_.out s7q1) (fun _ _ _ h => h) (Or.inl ⟨by rfl, ?_⟩) ?_ ?_
  rotate_left
  · intro w'
    go_simp
    with_reducible rfl
  rotate_left
  · simp only [Act.put, sqa, sqb, sqc, i64_w, i32_w]
    rfl
  refine last_ (i := 26) (N := none) #[true, true, true, true, true, true, true, true, true, true, true, true, true, true, true, true, true, true, true, true, true, true, true, true, true, true, true] rfl rfl (one_of HT_.out s7q1) (by decide) (fun K hK => ?_)
  refine skip_ (w1 := ?_) (by rfl) rfl ?_ ?_
  rotate_left
  · go_simp
    rfl
  refine hK.out _ _ ?_
  clear hK K
  refine done_ (done_of HT_.out s7q1) ?_
  try go_wp2_with (first | (go_at_call 50; have hj_ : 0 ≤ (x12_3 : Int) := of_decide_eq_true s7q3; have hh_ : (x12_3 : Int) < (x8_2.length : Int) := of_decide_eq_true s7q3; have hb_ := (Kd.N_reads' HO_8.out).2.2.2.1; have hjj_ : (wrap64 (x12_3 + 1) : Int) = (x12_3 : Int) + 1 := (by unfold wrap64; omega); refine (delete50N k89 rfl w.heap.size (by (with_reducible repeat (first | apply Kd.N_alloc | apply Kd.N_drewN | apply Kd.N_drew)); exact HQ40.out) hj_ hh_ hjj_ (by repeat (first | (with_reducible first | exact HB.out | apply below_alloc | apply pw_below_drewN | apply below_drew1 | refine below_set ?_ GB36.out | refine below_set ?_ GB36.out) | exact HB.out))).mono ?_; rintro e w41 ⟨rfl, ho, hb, hg⟩; clear hj_ hh_ hb_ hjj_; rw [← Ny241.out] at ho; have hn_ : x8_2.length - 1 = y241.length := (by have := (Kd.N_reads' ho).1; omega); rw [hn_] at ho; try rw [hn_]; clear hn_; have n0_ := Aside0.mk (ho); have n1_ := Aside0.mk (hb); clear HO_8; clear HB; have HO_8 := n0_; have HB := n1_; clear n0_ n1_; clear ho hb hg))
  first | go_roundg k3 | (refine Handed.intro k3 ?measure ?_; rotate_left; go_step; (repeat apply Exists.intro); simp only [add_plain]; refine ⟨?rel, rfl⟩)
  case measure => have := HK1.out; have := HK2.out; have := HK3.out; omega
  case rel => exact ⟨(y241), (ji30), (by first | rfl | (simp; done) | (simp only [← hji30] <;> (first | rfl | simp)) | (simp [*]; done)), H', ⟨by have := HK1.out; have := HK2.out; have := HK3.out; omega⟩, ⟨by (with_reducible repeat (first | apply Kd.N_alloc | apply Kd.N_drewN | apply Kd.N_drew)); exact HO_8.out⟩, ⟨by repeat (first | (with_reducible first | exact HB.out | apply below_alloc | apply pw_below_drewN | apply below_drew1) | exact HB.out)⟩⟩
 rw [if_pos c16] at H
 have c16b0 : decide (x42_3 < (x8_2.length : Int)) = true := decide_eq_true c16
 clear c16
 have H' := Aside0.mk H
 clear H
 go_wp2
 go_loopg [11, 12, 13, 15] k3 (fun kq v11 v12 v13 v15 w' => ∃ (x11_4 : Int) (x12_4 : Int) (x13_4 : Int) (x15_4 : Int), v11 = .int .i64 x11_4 ∧ v12 = .int .i64 x12_4 ∧ v13 = .int .i64 x13_4 ∧ v15 = .int .i64 x15_4 ∧ Aside0 (cost_Greedy.l3 kq l0 l1 x8_2 x10_2 x11_4 x12_4 x13_4 x42_3 x15_4 (x8_2.length : Int) x42_3 = some (r1, r2, r3)) ∧ Aside0 (kq ≤ k3) ∧ Aside0 (Kd.N k89 89 w' w.heap.size (fun k_ => (w.heap.size ≤ k_)) (.slice Ao15 x8_2.length co15) x8_2) ∧ Aside0 (Below w.heap.size w w'))
 case atStart => exact ⟨(x11_3), (x12_3), (x13_3), (wrap64 (x42_3 + 1)), s7q2, s7q2, s7q2, s7q2, H', ⟨Nat.le_refl _⟩, ⟨by (with_reducible repeat (first | apply Kd.N_alloc | apply Kd.N_drewN | apply Kd.N_drew)); exact HO_8.out⟩, ⟨by repeat (first | (with_reducible first | exact HB.out | apply below_alloc | apply pw_below_drewN | apply below_drew1) | exact HB.out)⟩⟩
 clear H'
 try clear c1
 try clear c2
 try clear p2
 try clear c4
 try clear c4b0
 try clear c4b1
 try clear c6
 try clear c6b0
 try clear p6
 try clear c7
 try clear c7b0
 try clear c7b1
 try clear c9
 try clear c14
 try clear c14b0
 try clear c14b1
 try clear c16
 try clear c16b0
 try clear p2
 try clear p6
 obtain ⟨x11_4, x12_4, x13_4, x15_4, rfl, rfl, rfl, rfl, HA, HK4, HO_8, HB⟩ := hrel
 cases gk with
 | zero => exact absurd HA.out (by simp [cost_Greedy.l3])
 | succ k4 => ?_
 have H := HA.out
 clear HA
 simp only [cost_Greedy.l3] at H
 by_cases c17 : x15_4 < (x8_2.length : Int)
 case neg =>
  rw [if_neg c17] at H
  have c17b0 : decide (x15_4 < (x8_2.length : Int)) = false := decide_eq_false c17
  clear c17
  have H' := Aside0.mk H
  clear H
  go_wp2
  first | go_roundg k4 | (refine Handed.intro k4 ?measure ?_; rotate_left; go_step; (repeat apply Exists.intro); simp only [add_plain]; refine ⟨?rel, rfl⟩)
  case measure => have := HK1.out; have := HK2.out; have := HK3.out; have := HK4.out; omega
  case rel => exact ⟨(x11_4), (x12_4), (x13_4), (wrap64 (x42_3 + 1)), s7q2, s7q2, s7q2, s7q2, H', ⟨by have := HK1.out; have := HK2.out; have := HK3.out; have := HK4.out; omega⟩, ⟨by (with_reducible repeat (first | apply Kd.N_alloc | apply Kd.N_drewN | apply Kd.N_drew)); exact HO_8.out⟩, ⟨by repeat (first | (with_reducible first | exact HB.out | apply below_alloc | apply pw_below_drewN | apply below_drew1) | exact HB.out)⟩⟩
 rw [if_pos c17] at H
 have c17b0 : decide (x15_4 < (x8_2.length : Int)) = true := decide_eq_true c17
 clear c17
 by_cases c18 : 0 ≤ x42_3
 case neg =>
  rw [if_neg c18] at H
  exact absurd H (by simp)
 rw [if_pos c18] at H
 have c18b0 : decide (0 ≤ x42_3) = true := decide_eq_true c18
 clear c18
 by_cases c19 : x42_3 < (x8_2.length : Int)
 case neg =>
  rw [if_neg c19] at H
  exact absurd H (by simp)
 rw [if_pos c19] at H
 have c19b0 : decide (x42_3 < (x8_2.length : Int)) = true := decide_eq_true c19
 clear c19
 by_cases c20 : 0 ≤ x15_4
 case neg =>
  rw [if_neg c20] at H
  exact absurd H (by simp)
 rw [if_pos c20] at H
 have c20b0 : decide (0 ≤ x15_4) = true := decide_eq_true c20
 clear c20
 replace H := Option.bind_eq_some_iff.mp H
 obtain ⟨t246, A210, H⟩ := H
 replace H : (if x12_4 = 0 then (cost_Greedy.l3 k4 l0 l1 x8_2 x10_2 x42_3 x15_4 t246 x42_3 (wrap64 (x15_4 + 1)) (x8_2.length : Int) x42_3) else (if t246 < x13_4 then (cost_Greedy.l3 k4 l0 l1 x8_2 x10_2 x42_3 x15_4 t246 x42_3 (wrap64 (x15_4 + 1)) (x8_2.length : Int) x42_3) else (cost_Greedy.l3 k4 l0 l1 x8_2 x10_2 x11_4 x12_4 x13_4 x42_3 (wrap64 (x15_4 + 1)) (x8_2.length : Int) x42_3))) = some (r1, r2, r3) := H
 have A21 := Aside0.mk A210
 clear A210
 by_cases c22 : x12_4 = 0
 · rw [if_pos c22] at H
   have c22b0 : (x12_4 == 0) = true := beq_iff_eq.mpr c22
   have c22b1 : (x12_4 != 0) = false := bne_eq_false_iff_eq.mpr c22
   clear c22
   have H' := Aside0.mk H
   clear H
   try go_wp2
   have n0_ := Aside0.mk (Kd.N_drew HO_8.out)
   have n1_ := Aside0.mk (below_drew1 HB.out)
   clear HO_8
   clear HB
   have HO_8 := n0_
   have HB := n1_
   clear n0_ n1_
   have p244 : 0 ≤ (x42_3 : Int) := of_decide_eq_true s7q3
   have q244 : x42_3 < (x8_2.length : Int) := of_decide_eq_true s7q3
   obtain ⟨ad244, A244_1, c244_1, e244, hx244_0, hx244_1, hl244_1, hi244_1⟩ := at_T89 (Kd.N_reads' HO_8.out).2.2 x42_3 p244 q244
   cases e244
   obtain ⟨ce244, hce244, hMe244, hcc244⟩ := Kd.N_get HO_8.out z89 x42_3 p244 s7q13
   obtain ⟨ua244_1, uc244_1, rfl, ul244_1, ge244_1⟩ := k89_openF hMe244
   have hv244_1 := hcc244 1 _ rfl
   rw [add_field _ _ 1 s7q0] at hv244_1
   replace hv244_1 := Option.some.inj (hv244_1.symm.trans hx244_1)
   injection hv244_1 with hva_ hvn_ hvc_
   rw [hva_] at ge244_1
   rw [hvc_] at ul244_1
   have HL244_1 := Aside0.mk (show Kd.V (Kd.int .i64) 3 _ w.heap.size _ _ ((rd_T89 x8_2 x42_3).f1) from Kd.V_mk ul244_1 ge244_1)
   clear hva_ hvn_ hvc_ ge244_1 ul244_1
   clear hcc244 hce244
   have HR244_1 := Aside0.mk hi244_1
   have HC244_1 := Aside0.mk hl244_1
   clear hi244_1 hl244_1
   replace p244 := eq_true p244
   replace q244 := eq_true q244
   have p245 : 0 ≤ (x15_4 : Int) := of_decide_eq_true s7q3
   have q245 : x15_4 < (x8_2.length : Int) := of_decide_eq_true s7q3
   obtain ⟨ad245, A245_1, c245_1, e245, hx245_0, hx245_1, hl245_1, hi245_1⟩ := at_T89 (Kd.N_reads' HO_8.out).2.2 x15_4 p245 q245
   obtain rfl : ad244 = ad245 := (by injection e245)
   obtain ⟨ce245, hce245, hMe245, hcc245⟩ := Kd.N_get HO_8.out z89 x15_4 p245 s7q14
   obtain ⟨ua245_1, uc245_1, rfl, ul245_1, ge245_1⟩ := k89_openF hMe245
   have hv245_1 := hcc245 1 _ rfl
   rw [add_field _ _ 1 s7q0] at hv245_1
   replace hv245_1 := Option.some.inj (hv245_1.symm.trans hx245_1)
   injection hv245_1 with hva_ hvn_ hvc_
   rw [hva_] at ge245_1
   rw [hvc_] at ul245_1
   have HL245_1 := Aside0.mk (show Kd.V (Kd.int .i64) 3 _ w.heap.size _ _ ((rd_T89 x8_2 x15_4).f1) from Kd.V_mk ul245_1 ge245_1)
   clear hva_ hvn_ hvc_ ge245_1 ul245_1
   clear hcc245 hce245
   have HR245_1 := Aside0.mk hi245_1
   have HC245_1 := Aside0.mk hl245_1
   clear hi245_1 hl245_1
   replace p245 := eq_true p245
   replace q245 := eq_true q245
   refine start_ (n := 15) (S := fun w' => w'.cell? (ad244.add ((x42_3).toNat * 2)) = some (.int .i64 ((rd_T89 x8_2 x42_3).f0)) ∧ w'.cell? ⟨(ad244.add ((x42_3).toNat * 2)).block, (ad244.add ((x42_3).toNat * 2)).off + 1, none⟩ = some (.slice A244_1 ((rd_T89 x8_2 x42_3).f1).length c244_1) ∧ w'.cell? (ad244.add ((x15_4).toNat * 2)) = some (.int .i64 ((rd_T89 x8_2 x15_4).f0)) ∧ w'.cell? ⟨(ad244.add ((x15_4).toNat * 2)).block, (ad244.add ((x15_4).toNat * 2)).off + 1, none⟩ = some (.slice A245_1 ((rd_T89 x8_2 x15_4).f1).length c245_1)) (ds := []) #[false, false, false, false, false, false, false, false, false, false, false, false, false, false, false] s7q1 rfl rfl ⟨hx244_0, hx244_1, hx245_0, hx245_1⟩ (fun hHeld => ?_); refine with_tabW cost_Greedy.tab19 cost_Greedy.bits19 (fun HT_ HW_ => ?_)
   generalize wr.drew = w23 at HO_8 HB HL244_1 HL245_1 HR244_1 HR245_1 hx244_0 hx244_1 hx245_0 hx245_1 hHeld ⊢
   refine pure_ (i := 0) (N := some 53) (v := ?_) (a' := ?_) #[true, false, false, false, false, false, false, false, false, false, false, false, false, false, false] rfl rfl (any_of HT_.out s7q1) (fun _ _ _ h => h) (Or.inl ⟨by rfl, ?_⟩) ?_ ?_
   rotate_left
   · intro w'
     go_simp
     with_reducible rfl
   rotate_left
   · simp only [Act.put, sqa, sqb, sqc, i64_w, i32_w]
     rfl
   refine pure_ (i := 1) (N := some 54) (v := ?_) (a' := ?_) #[true, true, false, false, false, false, false, false, false, false, false, false, false, false, false] rfl rfl (any_of HT_.out s7q1) (fun _ _ _ h => h) (Or.inl ⟨by rfl, ?_⟩) ?_ ?_
   rotate_left
   · intro w'
     go_simp
     with_reducible rfl
   rotate_left
   · simp only [Act.put, sqa, sqb, sqc, i64_w, i32_w]
     rfl
   refine pure_ (i := 2) (N := some 55) (v := ?_) (a' := ?_) #[true, true, true, false, false, false, false, false, false, false, false, false, false, false, false] rfl rfl (any_of HT_.out s7q1) (fun _ _ _ h => h) (Or.inl ⟨by rfl, ?_⟩) ?_ ?_
   rotate_left
   · intro w'
     go_simp
     with_reducible rfl
   rotate_left
   · simp only [Act.put, sqa, sqb, sqc, i64_w, i32_w]
     rfl
   refine pure_ (i := 3) (N := some 56) (v := ?_) (a' := ?_) #[true, true, true, true, false, false, false, false, false, false, false, false, false, false, false] rfl rfl (any_of HT_.out s7q1) (fun _ _ _ h => h) (Or.inl ⟨by rfl, ?_⟩) ?_ ?_
   rotate_left
   · intro w'
     go_simp
     with_reducible rfl
   rotate_left
   · simp only [Act.put, sqa, sqb, sqc, i64_w, i32_w]
     rfl
   refine pure_ (i := 4) (N := some 57) (v := ?_) (a' := ?_) #[true, true, true, true, true, false, false, false, false, false, false, false, false, false, false] rfl rfl (any_of HT_.out s7q1) (fun _ _ _ h => h) (Or.inl ⟨by rfl, ?_⟩) ?_ ?_
   rotate_left
   · intro w'
     go_simp
     with_reducible rfl
   rotate_left
   · simp only [Act.put, sqa, sqb, sqc, i64_w, i32_w]
     rfl
   refine pure_ (i := 5) (N := some 58) (v := ?_) (a' := ?_) #[true, true, true, true, true, true, false, false, false, false, false, false, false, false, false] rfl rfl (any_of HT_.out s7q1) (fun _ _ _ h => h) (Or.inl ⟨by rfl, ?_⟩) ?_ ?_
   rotate_left
   · intro w'
     go_simp
     with_reducible rfl
   rotate_left
   · simp only [Act.put, sqa, sqb, sqc, i64_w, i32_w]
     rfl
   refine pure_ (i := 7) (N := some 60) (v := ?_) (a' := ?_) #[true, true, true, true, true, true, false, true, false, false, false, false, false, false, false] rfl rfl (any_of HT_.out s7q1) (fun _ _ _ h => h) (Or.inl ⟨by rfl, ?_⟩) ?_ ?_
   rotate_left
   · intro w'
     go_simp
     with_reducible rfl
   rotate_left
   · simp only [Act.put, sqa, sqb, sqc, i64_w, i32_w]
     rfl
   refine pure_ (i := 8) (N := some 61) (v := ?_) (a' := ?_) #[true, true, true, true, true, true, false, true, true, false, false, false, false, false, false] rfl rfl (any_of HT_.out s7q1) (fun _ _ _ h => h) (Or.inl ⟨by rfl, ?_⟩) ?_ ?_
   rotate_left
   · intro w'
     go_simp
     with_reducible rfl
   rotate_left
   · simp only [Act.put, sqa, sqb, sqc, i64_w, i32_w]
     rfl
   refine pure_ (i := 9) (N := some 62) (v := ?_) (a' := ?_) #[true, true, true, true, true, true, false, true, true, true, false, false, false, false, false] rfl rfl (any_of HT_.out s7q1) (fun _ _ _ h => h) (Or.inl ⟨by rfl, ?_⟩) ?_ ?_
   rotate_left
   · intro w'
     go_simp
     with_reducible rfl
   rotate_left
   · simp only [Act.put, sqa, sqb, sqc, i64_w, i32_w]
     rfl
   refine pure_ (i := 10) (N := some 63) (v := ?_) (a' := ?_) #[true, true, true, true, true, true, false, true, true, true, true, false, false, false, false] rfl rfl (any_of HT_.out s7q1) (fun _ _ _ h => h) (Or.inl ⟨by rfl, ?_⟩) ?_ ?_
   rotate_left
   · intro w'
     go_simp
     with_reducible rfl
   rotate_left
   · simp only [Act.put, sqa, sqb, sqc, i64_w, i32_w]
     rfl
   refine take_ (i := 6) (N := some 59) (v := ?_) (a' := ?_) #[true, true, true, true, true, true, true, true, true, true, true, false, false, false, false] rfl rfl (take_ofW HT_.out HW_.out s7q1) (fun _ _ _ h => h) (Or.inl ⟨by rfl, ?_⟩) hHeld ?_ ?_
   rotate_left
   · rintro w' ⟨s0, s1, s2, s3⟩
     go_simp
     with_reducible rfl
   rotate_left
   · simp only [Act.put, sqa, sqb, sqc, i64_w, i32_w]
     rfl
   refine take_ (i := 11) (N := some 64) (v := ?_) (a' := ?_) #[true, true, true, true, true, true, true, true, true, true, true, true, false, false, false] rfl rfl (take_ofW HT_.out HW_.out s7q1) (fun _ _ _ h => h) (Or.inl ⟨by rfl, ?_⟩) hHeld ?_ ?_
   rotate_left
   · rintro w' ⟨s0, s1, s2, s3⟩
     go_simp
     with_reducible rfl
   rotate_left
   · simp only [Act.put, sqa, sqb, sqc, i64_w, i32_w]
     rfl
   refine pure_ (i := 12) (N := some 65) (v := ?_) (a' := ?_) #[true, true, true, true, true, true, true, true, true, true, true, true, true, false, false] rfl rfl (any_of HT_.out s7q1) (fun _ _ _ h => h) (Or.inl ⟨by rfl, ?_⟩) ?_ ?_
   rotate_left
   · intro w'
     go_simp
     with_reducible rfl
   rotate_left
   · simp only [Act.put, sqa, sqb, sqc, i64_w, i32_w]
     rfl
   refine one_ (i := 13) (N := some 66) #[true, true, true, true, true, true, true, true, true, true, true, true, true, true, false] rfl rfl (one_of HT_.out s7q1) (by decide) (fun K hK => ?_)
   refine goes_ Tryd.func42 s7q1 rfl #[.slice A0 l0.length c0, .slice A1 l1.length c1, .int .i64 (Go.bits .or .i64 ((rd_T89 x8_2 x42_3).f0) ((rd_T89 x8_2 x15_4).f0))] (by rfl) rfl rfl s7q8 ?_
   with_reducible refine (cost_size.calls k4 _ _ l0 _ _ l1 (Go.bits .or .i64 ((rd_T89 x8_2 x42_3).f0) ((rd_T89 x8_2 x15_4).f0)) t246 _ ?side1 ?side2 ?side3 ?side4 A21.out).mono ?_
   (case side1 => repeat (first | exact (Kd.C_below HR0.out HB.out) | (with_reducible refine Kd.C_alloc ?_ _) | (with_reducible refine Kd.C_drewN ?_ _) | (with_reducible refine Kd.C_drew ?_)))
   (case side2 => exact HC0.out)
   (case side3 => repeat (first | exact (Kd.C_below HR1.out HB.out) | (with_reducible refine Kd.C_alloc ?_ _) | (with_reducible refine Kd.C_drewN ?_ _) | (with_reducible refine Kd.C_drew ?_)))
   (case side4 => exact HC1.out)
   rintro e w24 ⟨rfl, hb⟩
   have HS0_ := pw_cell_below hb hHeld.1
   have HS1_ := pw_cell_below hb hHeld.2.1
   have HS2_ := pw_cell_below hb hHeld.2.2.1
   have HS3_ := pw_cell_below hb hHeld.2.2.2
   refine ⟨_, rfl, ?_⟩
   have n0_ := Aside0.mk (Kd.N_below s7q4 hb)
   have n1_ := Aside0.mk (Kd.V_below s7q5 hb)
   have n2_ := Aside0.mk (Kd.V_below s7q6 hb)
   have n3_ := Aside0.mk (Kd.C_below s7q11 hb)
   have n4_ := Aside0.mk (Kd.C_below s7q12 hb)
   have n5_ := Aside0.mk (below_step s7q7 hb)
   clear HO_8
   clear HL244_1
   clear HL245_1
   clear HR244_1
   clear HR245_1
   clear HB
   have HO_8 := n0_
   have HL244_1 := n1_
   have HL245_1 := n2_
   have HR244_1 := n3_
   have HR245_1 := n4_
   have HB := n5_
   clear n0_ n1_ n2_ n3_ n4_ n5_
   (try clear hb)
   (try clear hb2)
   (try clear hk)
   (try clear hi)
   refine hK.out _ _ ⟨HS0_, HS1_, HS2_, HS3_⟩ (fun hHeld => ?_)
   clear hK K
   refine norm_ (a' := ?_) ?_ ?_
   rotate_left
   · show Act.put _ (some 66) _ = _
     simp only [Act.put, sqa, sqb, sqc, i64_w, i32_w]
     rfl
   refine pure_ (i := 14) (N := some 16) (v := ?_) (a' := ?_) #[true, true, true, true, true, true, true, true, true, true, true, true, true, true, true] rfl rfl (any_of HT_.out s7q1) (fun _ _ _ h => h) (Or.inl ⟨by rfl, ?_⟩) ?_ ?_
   rotate_left
   · intro w'
     go_simp
     with_reducible rfl
   rotate_left
   · simp only [Act.put, sqa, sqb, sqc, i64_w, i32_w]
     rfl
   refine done_ (done_of HT_.out s7q1) ?_
   try go_wp2
   first | go_roundg k4 | (refine Handed.intro k4 ?measure ?_; rotate_left; go_step; (repeat apply Exists.intro); simp only [add_plain]; refine ⟨?rel, rfl⟩)
   case measure => have := HK1.out; have := HK2.out; have := HK3.out; have := HK4.out; omega
   case rel => exact ⟨(x42_3), (x15_4), (t246), (wrap64 (x15_4 + 1)), s7q2, s7q2, s7q2, s7q2, H', ⟨by have := HK1.out; have := HK2.out; have := HK3.out; have := HK4.out; omega⟩, ⟨by (with_reducible repeat (first | apply Kd.N_alloc | apply Kd.N_drewN | apply Kd.N_drew)); exact HO_8.out⟩, ⟨by repeat (first | (with_reducible first | exact HB.out | apply below_alloc | apply pw_below_drewN | apply below_drew1) | exact HB.out)⟩⟩
 rw [if_neg c22] at H
 have c22b0 : (x12_4 == 0) = false := beq_eq_false_iff_ne.mpr c22
 have c22b1 : (x12_4 != 0) = true := bne_iff_ne.mpr c22
 by_cases c25 : t246 < x13_4
 · rw [if_pos c25] at H
   have c25b0 : decide (t246 < x13_4) = true := decide_eq_true c25
   clear c25
   have H' := Aside0.mk H
   clear H
   try go_wp2
   have n0_ := Aside0.mk (Kd.N_drew HO_8.out)
   have n1_ := Aside0.mk (below_drew1 HB.out)
   clear HO_8
   clear HB
   have HO_8 := n0_
   have HB := n1_
   clear n0_ n1_
   have p244 : 0 ≤ (x42_3 : Int) := of_decide_eq_true s7q3
   have q244 : x42_3 < (x8_2.length : Int) := of_decide_eq_true s7q3
   obtain ⟨ad244, A244_1, c244_1, e244, hx244_0, hx244_1, hl244_1, hi244_1⟩ := at_T89 (Kd.N_reads' HO_8.out).2.2 x42_3 p244 q244
   cases e244
   obtain ⟨ce244, hce244, hMe244, hcc244⟩ := Kd.N_get HO_8.out z89 x42_3 p244 s7q13
   obtain ⟨ua244_1, uc244_1, rfl, ul244_1, ge244_1⟩ := k89_openF hMe244
   have hv244_1 := hcc244 1 _ rfl
   rw [add_field _ _ 1 s7q0] at hv244_1
   replace hv244_1 := Option.some.inj (hv244_1.symm.trans hx244_1)
   injection hv244_1 with hva_ hvn_ hvc_
   rw [hva_] at ge244_1
   rw [hvc_] at ul244_1
   have HL244_1 := Aside0.mk (show Kd.V (Kd.int .i64) 3 _ w.heap.size _ _ ((rd_T89 x8_2 x42_3).f1) from Kd.V_mk ul244_1 ge244_1)
   clear hva_ hvn_ hvc_ ge244_1 ul244_1
   clear hcc244 hce244
   have HR244_1 := Aside0.mk hi244_1
   have HC244_1 := Aside0.mk hl244_1
   clear hi244_1 hl244_1
   replace p244 := eq_true p244
   replace q244 := eq_true q244
   have p245 : 0 ≤ (x15_4 : Int) := of_decide_eq_true s7q3
   have q245 : x15_4 < (x8_2.length : Int) := of_decide_eq_true s7q3
   obtain ⟨ad245, A245_1, c245_1, e245, hx245_0, hx245_1, hl245_1, hi245_1⟩ := at_T89 (Kd.N_reads' HO_8.out).2.2 x15_4 p245 q245
   obtain rfl : ad244 = ad245 := (by injection e245)
   obtain ⟨ce245, hce245, hMe245, hcc245⟩ := Kd.N_get HO_8.out z89 x15_4 p245 s7q14
   obtain ⟨ua245_1, uc245_1, rfl, ul245_1, ge245_1⟩ := k89_openF hMe245
   have hv245_1 := hcc245 1 _ rfl
   rw [add_field _ _ 1 s7q0] at hv245_1
   replace hv245_1 := Option.some.inj (hv245_1.symm.trans hx245_1)
   injection hv245_1 with hva_ hvn_ hvc_
   rw [hva_] at ge245_1
   rw [hvc_] at ul245_1
   have HL245_1 := Aside0.mk (show Kd.V (Kd.int .i64) 3 _ w.heap.size _ _ ((rd_T89 x8_2 x15_4).f1) from Kd.V_mk ul245_1 ge245_1)
   clear hva_ hvn_ hvc_ ge245_1 ul245_1
   clear hcc245 hce245
   have HR245_1 := Aside0.mk hi245_1
   have HC245_1 := Aside0.mk hl245_1
   clear hi245_1 hl245_1
   replace p245 := eq_true p245
   replace q245 := eq_true q245
   refine start_ (n := 15) (S := fun w' => w'.cell? (ad244.add ((x42_3).toNat * 2)) = some (.int .i64 ((rd_T89 x8_2 x42_3).f0)) ∧ w'.cell? ⟨(ad244.add ((x42_3).toNat * 2)).block, (ad244.add ((x42_3).toNat * 2)).off + 1, none⟩ = some (.slice A244_1 ((rd_T89 x8_2 x42_3).f1).length c244_1) ∧ w'.cell? (ad244.add ((x15_4).toNat * 2)) = some (.int .i64 ((rd_T89 x8_2 x15_4).f0)) ∧ w'.cell? ⟨(ad244.add ((x15_4).toNat * 2)).block, (ad244.add ((x15_4).toNat * 2)).off + 1, none⟩ = some (.slice A245_1 ((rd_T89 x8_2 x15_4).f1).length c245_1)) (ds := []) #[false, false, false, false, false, false, false, false, false, false, false, false, false, false, false] s7q1 rfl rfl ⟨hx244_0, hx244_1, hx245_0, hx245_1⟩ (fun hHeld => ?_); refine with_tabW cost_Greedy.tab19 cost_Greedy.bits19 (fun HT_ HW_ => ?_)
   generalize wr.drew = w26 at HO_8 HB HL244_1 HL245_1 HR244_1 HR245_1 hx244_0 hx244_1 hx245_0 hx245_1 hHeld ⊢
   refine pure_ (i := 0) (N := some 53) (v := ?_) (a' := ?_) #[true, false, false, false, false, false, false, false, false, false, false, false, false, false, false] rfl rfl (any_of HT_.out s7q1) (fun _ _ _ h => h) (Or.inl ⟨by rfl, ?_⟩) ?_ ?_
   rotate_left
   · intro w'
     go_simp
     with_reducible rfl
   rotate_left
   · simp only [Act.put, sqa, sqb, sqc, i64_w, i32_w]
     rfl
   refine pure_ (i := 1) (N := some 54) (v := ?_) (a' := ?_) #[true, true, false, false, false, false, false, false, false, false, false, false, false, false, false] rfl rfl (any_of HT_.out s7q1) (fun _ _ _ h => h) (Or.inl ⟨by rfl, ?_⟩) ?_ ?_
   rotate_left
   · intro w'
     go_simp
     with_reducible rfl
   rotate_left
   · simp only [Act.put, sqa, sqb, sqc, i64_w, i32_w]
     rfl
   refine pure_ (i := 2) (N := some 55) (v := ?_) (a' := ?_) #[true, true, true, false, false, false, false, false, false, false, false, false, false, false, false] rfl rfl (any_of HT_.out s7q1) (fun _ _ _ h => h) (Or.inl ⟨by rfl, ?_⟩) ?_ ?_
   rotate_left
   · intro w'
     go_simp
     with_reducible rfl
   rotate_left
   · simp only [Act.put, sqa, sqb, sqc, i64_w, i32_w]
     rfl
   refine pure_ (i := 3) (N := some 56) (v := ?_) (a' := ?_) #[true, true, true, true, false, false, false, false, false, false, false, false, false, false, false] rfl rfl (any_of HT_.out s7q1) (fun _ _ _ h => h) (Or.inl ⟨by rfl, ?_⟩) ?_ ?_
   rotate_left
   · intro w'
     go_simp
     with_reducible rfl
   rotate_left
   · simp only [Act.put, sqa, sqb, sqc, i64_w, i32_w]
     rfl
   refine pure_ (i := 4) (N := some 57) (v := ?_) (a' := ?_) #[true, true, true, true, true, false, false, false, false, false, false, false, false, false, false] rfl rfl (any_of HT_.out s7q1) (fun _ _ _ h => h) (Or.inl ⟨by rfl, ?_⟩) ?_ ?_
   rotate_left
   · intro w'
     go_simp
     with_reducible rfl
   rotate_left
   · simp only [Act.put, sqa, sqb, sqc, i64_w, i32_w]
     rfl
   refine pure_ (i := 5) (N := some 58) (v := ?_) (a' := ?_) #[true, true, true, true, true, true, false, false, false, false, false, false, false, false, false] rfl rfl (any_of HT_.out s7q1) (fun _ _ _ h => h) (Or.inl ⟨by rfl, ?_⟩) ?_ ?_
   rotate_left
   · intro w'
     go_simp
     with_reducible rfl
   rotate_left
   · simp only [Act.put, sqa, sqb, sqc, i64_w, i32_w]
     rfl
   refine pure_ (i := 7) (N := some 60) (v := ?_) (a' := ?_) #[true, true, true, true, true, true, false, true, false, false, false, false, false, false, false] rfl rfl (any_of HT_.out s7q1) (fun _ _ _ h => h) (Or.inl ⟨by rfl, ?_⟩) ?_ ?_
   rotate_left
   · intro w'
     go_simp
     with_reducible rfl
   rotate_left
   · simp only [Act.put, sqa, sqb, sqc, i64_w, i32_w]
     rfl
   refine pure_ (i := 8) (N := some 61) (v := ?_) (a' := ?_) #[true, true, true, true, true, true, false, true, true, false, false, false, false, false, false] rfl rfl (any_of HT_.out s7q1) (fun _ _ _ h => h) (Or.inl ⟨by rfl, ?_⟩) ?_ ?_
   rotate_left
   · intro w'
     go_simp
     with_reducible rfl
   rotate_left
   · simp only [Act.put, sqa, sqb, sqc, i64_w, i32_w]
     rfl
   refine pure_ (i := 9) (N := some 62) (v := ?_) (a' := ?_) #[true, true, true, true, true, true, false, true, true, true, false, false, false, false, false] rfl rfl (any_of HT_.out s7q1) (fun _ _ _ h => h) (Or.inl ⟨by rfl, ?_⟩) ?_ ?_
   rotate_left
   · intro w'
     go_simp
     with_reducible rfl
   rotate_left
   · simp only [Act.put, sqa, sqb, sqc, i64_w, i32_w]
     rfl
   refine pure_ (i := 10) (N := some 63) (v := ?_) (a' := ?_) #[true, true, true, true, true, true, false, true, true, true, true, false, false, false, false] rfl rfl (any_of HT_.out s7q1) (fun _ _ _ h => h) (Or.inl ⟨by rfl, ?_⟩) ?_ ?_
   rotate_left
   · intro w'
     go_simp
     with_reducible rfl
   rotate_left
   · simp only [Act.put, sqa, sqb, sqc, i64_w, i32_w]
     rfl
   refine take_ (i := 6) (N := some 59) (v := ?_) (a' := ?_) #[true, true, true, true, true, true, true, true, true, true, true, false, false, false, false] rfl rfl (take_ofW HT_.out HW_.out s7q1) (fun _ _ _ h => h) (Or.inl ⟨by rfl, ?_⟩) hHeld ?_ ?_
   rotate_left
   · rintro w' ⟨s0, s1, s2, s3⟩
     go_simp
     with_reducible rfl
   rotate_left
   · simp only [Act.put, sqa, sqb, sqc, i64_w, i32_w]
     rfl
   refine take_ (i := 11) (N := some 64) (v := ?_) (a' := ?_) #[true, true, true, true, true, true, true, true, true, true, true, true, false, false, false] rfl rfl (take_ofW HT_.out HW_.out s7q1) (fun _ _ _ h => h) (Or.inl ⟨by rfl, ?_⟩) hHeld ?_ ?_
   rotate_left
   · rintro w' ⟨s0, s1, s2, s3⟩
     go_simp
     with_reducible rfl
   rotate_left
   · simp only [Act.put, sqa, sqb, sqc, i64_w, i32_w]
     rfl
   refine pure_ (i := 12) (N := some 65) (v := ?_) (a' := ?_) #[true, true, true, true, true, true, true, true, true, true, true, true, true, false, false] rfl rfl (any_of HT_.out s7q1) (fun _ _ _ h => h) (Or.inl ⟨by rfl, ?_⟩) ?_ ?_
   rotate_left
   · intro w'
     go_simp
     with_reducible rfl
   rotate_left
   · simp only [Act.put, sqa, sqb, sqc, i64_w, i32_w]
     rfl
   refine one_ (i := 13) (N := some 66) #[true, true, true, true, true, true, true, true, true, true, true, true, true, true, false] rfl rfl (one_of HT_.out s7q1) (by decide) (fun K hK => ?_)
   refine goes_ Tryd.func42 s7q1 rfl #[.slice A0 l0.length c0, .slice A1 l1.length c1, .int .i64 (Go.bits .or .i64 ((rd_T89 x8_2 x42_3).f0) ((rd_T89 x8_2 x15_4).f0))] (by rfl) rfl rfl s7q8 ?_
   with_reducible refine (cost_size.calls k4 _ _ l0 _ _ l1 (Go.bits .or .i64 ((rd_T89 x8_2 x42_3).f0) ((rd_T89 x8_2 x15_4).f0)) t246 _ ?side1 ?side2 ?side3 ?side4 A21.out).mono ?_
   (case side1 => repeat (first | exact (Kd.C_below HR0.out HB.out) | (with_reducible refine Kd.C_alloc ?_ _) | (with_reducible refine Kd.C_drewN ?_ _) | (with_reducible refine Kd.C_drew ?_)))
   (case side2 => exact HC0.out)
   (case side3 => repeat (first | exact (Kd.C_below HR1.out HB.out) | (with_reducible refine Kd.C_alloc ?_ _) | (with_reducible refine Kd.C_drewN ?_ _) | (with_reducible refine Kd.C_drew ?_)))
   (case side4 => exact HC1.out)
   rintro e w27 ⟨rfl, hb⟩
   have HS0_ := pw_cell_below hb hHeld.1
   have HS1_ := pw_cell_below hb hHeld.2.1
   have HS2_ := pw_cell_below hb hHeld.2.2.1
   have HS3_ := pw_cell_below hb hHeld.2.2.2
   refine ⟨_, rfl, ?_⟩
   have n0_ := Aside0.mk (Kd.N_below s7q4 hb)
   have n1_ := Aside0.mk (Kd.V_below s7q5 hb)
   have n2_ := Aside0.mk (Kd.V_below s7q6 hb)
   have n3_ := Aside0.mk (Kd.C_below s7q11 hb)
   have n4_ := Aside0.mk (Kd.C_below s7q12 hb)
   have n5_ := Aside0.mk (below_step s7q7 hb)
   clear HO_8
   clear HL244_1
   clear HL245_1
   clear HR244_1
   clear HR245_1
   clear HB
   have HO_8 := n0_
   have HL244_1 := n1_
   have HL245_1 := n2_
   have HR244_1 := n3_
   have HR245_1 := n4_
   have HB := n5_
   clear n0_ n1_ n2_ n3_ n4_ n5_
   (try clear hb)
   (try clear hb2)
   (try clear hk)
   (try clear hi)
   refine hK.out _ _ ⟨HS0_, HS1_, HS2_, HS3_⟩ (fun hHeld => ?_)
   clear hK K
   refine norm_ (a' := ?_) ?_ ?_
   rotate_left
   · show Act.put _ (some 66) _ = _
     simp only [Act.put, sqa, sqb, sqc, i64_w, i32_w]
     rfl
   refine pure_ (i := 14) (N := some 16) (v := ?_) (a' := ?_) #[true, true, true, true, true, true, true, true, true, true, true, true, true, true, true] rfl rfl (any_of HT_.out s7q1) (fun _ _ _ h => h) (Or.inl ⟨by rfl, ?_⟩) ?_ ?_
   rotate_left
   · intro w'
     go_simp
     with_reducible rfl
   rotate_left
   · simp only [Act.put, sqa, sqb, sqc, i64_w, i32_w]
     rfl
   refine done_ (done_of HT_.out s7q1) ?_
   try go_wp2
   first | go_roundg k4 | (refine Handed.intro k4 ?measure ?_; rotate_left; go_step; (repeat apply Exists.intro); simp only [add_plain]; refine ⟨?rel, rfl⟩)
   case measure => have := HK1.out; have := HK2.out; have := HK3.out; have := HK4.out; omega
   case rel => exact ⟨(x42_3), (x15_4), (t246), (wrap64 (x15_4 + 1)), s7q2, s7q2, s7q2, s7q2, H', ⟨by have := HK1.out; have := HK2.out; have := HK3.out; have := HK4.out; omega⟩, ⟨by (with_reducible repeat (first | apply Kd.N_alloc | apply Kd.N_drewN | apply Kd.N_drew)); exact HO_8.out⟩, ⟨by repeat (first | (with_reducible first | exact HB.out | apply below_alloc | apply pw_below_drewN | apply below_drew1) | exact HB.out)⟩⟩
 rw [if_neg c25] at H
 have c25b0 : decide (t246 < x13_4) = false := decide_eq_false c25
 clear c25
 have H' := Aside0.mk H
 clear H
 try go_wp2
 have n0_ := Aside0.mk (Kd.N_drew HO_8.out)
 have n1_ := Aside0.mk (below_drew1 HB.out)
 clear HO_8
 clear HB
 have HO_8 := n0_
 have HB := n1_
 clear n0_ n1_
 have p244 : 0 ≤ (x42_3 : Int) := of_decide_eq_true s7q3
 have q244 : x42_3 < (x8_2.length : Int) := of_decide_eq_true s7q3
 obtain ⟨ad244, A244_1, c244_1, e244, hx244_0, hx244_1, hl244_1, hi244_1⟩ := at_T89 (Kd.N_reads' HO_8.out).2.2 x42_3 p244 q244
 cases e244
 obtain ⟨ce244, hce244, hMe244, hcc244⟩ := Kd.N_get HO_8.out z89 x42_3 p244 s7q13
 obtain ⟨ua244_1, uc244_1, rfl, ul244_1, ge244_1⟩ := k89_openF hMe244
 have hv244_1 := hcc244 1 _ rfl
 rw [add_field _ _ 1 s7q0] at hv244_1
 replace hv244_1 := Option.some.inj (hv244_1.symm.trans hx244_1)
 injection hv244_1 with hva_ hvn_ hvc_
 rw [hva_] at ge244_1
 rw [hvc_] at ul244_1
 have HL244_1 := Aside0.mk (show Kd.V (Kd.int .i64) 3 _ w.heap.size _ _ ((rd_T89 x8_2 x42_3).f1) from Kd.V_mk ul244_1 ge244_1)
 clear hva_ hvn_ hvc_ ge244_1 ul244_1
 clear hcc244 hce244
 have HR244_1 := Aside0.mk hi244_1
 have HC244_1 := Aside0.mk hl244_1
 clear hi244_1 hl244_1
 replace p244 := eq_true p244
 replace q244 := eq_true q244
 have p245 : 0 ≤ (x15_4 : Int) := of_decide_eq_true s7q3
 have q245 : x15_4 < (x8_2.length : Int) := of_decide_eq_true s7q3
 obtain ⟨ad245, A245_1, c245_1, e245, hx245_0, hx245_1, hl245_1, hi245_1⟩ := at_T89 (Kd.N_reads' HO_8.out).2.2 x15_4 p245 q245
 obtain rfl : ad244 = ad245 := (by injection e245)
 obtain ⟨ce245, hce245, hMe245, hcc245⟩ := Kd.N_get HO_8.out z89 x15_4 p245 s7q14
 obtain ⟨ua245_1, uc245_1, rfl, ul245_1, ge245_1⟩ := k89_openF hMe245
 have hv245_1 := hcc245 1 _ rfl
 rw [add_field _ _ 1 s7q0] at hv245_1
 replace hv245_1 := Option.some.inj (hv245_1.symm.trans hx245_1)
 injection hv245_1 with hva_ hvn_ hvc_
 rw [hva_] at ge245_1
 rw [hvc_] at ul245_1
 have HL245_1 := Aside0.mk (show Kd.V (Kd.int .i64) 3 _ w.heap.size _ _ ((rd_T89 x8_2 x15_4).f1) from Kd.V_mk ul245_1 ge245_1)
 clear hva_ hvn_ hvc_ ge245_1 ul245_1
 clear hcc245 hce245
 have HR245_1 := Aside0.mk hi245_1
 have HC245_1 := Aside0.mk hl245_1
 clear hi245_1 hl245_1
 replace p245 := eq_true p245
 replace q245 := eq_true q245
 refine start_ (n := 15) (S := fun w' => w'.cell? (ad244.add ((x42_3).toNat * 2)) = some (.int .i64 ((rd_T89 x8_2 x42_3).f0)) ∧ w'.cell? ⟨(ad244.add ((x42_3).toNat * 2)).block, (ad244.add ((x42_3).toNat * 2)).off + 1, none⟩ = some (.slice A244_1 ((rd_T89 x8_2 x42_3).f1).length c244_1) ∧ w'.cell? (ad244.add ((x15_4).toNat * 2)) = some (.int .i64 ((rd_T89 x8_2 x15_4).f0)) ∧ w'.cell? ⟨(ad244.add ((x15_4).toNat * 2)).block, (ad244.add ((x15_4).toNat * 2)).off + 1, none⟩ = some (.slice A245_1 ((rd_T89 x8_2 x15_4).f1).length c245_1)) (ds := []) #[false, false, false, false, false, false, false, false, false, false, false, false, false, false, false] s7q1 rfl rfl ⟨hx244_0, hx244_1, hx245_0, hx245_1⟩ (fun hHeld => ?_); refine with_tabW cost_Greedy.tab19 cost_Greedy.bits19 (fun HT_ HW_ => ?_)
 generalize wr.drew = w28 at HO_8 HB HL244_1 HL245_1 HR244_1 HR245_1 hx244_0 hx244_1 hx245_0 hx245_1 hHeld ⊢
 refine pure_ (i := 0) (N := some 53) (v := ?_) (a' := ?_) #[true, false, false, false, false, false, false, false, false, false, false, false, false, false, false] rfl rfl (any_of HT_.out s7q1) (fun _ _ _ h => h) (Or.inl ⟨by rfl, ?_⟩) ?_ ?_
 rotate_left
 · intro w'
   go_simp
   with_reducible rfl
 rotate_left
 · simp only [Act.put, sqa, sqb, sqc, i64_w, i32_w]
   rfl
 refine pure_ (i := 1) (N := some 54) (v := ?_) (a' := ?_) #[true, true, false, false, false, false, false, false, false, false, false, false, false, false, false] rfl rfl (any_of HT_.out s7q1) (fun _ _ _ h => h) (Or.inl ⟨by rfl, ?_⟩) ?_ ?_
 rotate_left
 · intro w'
   go_simp
   with_reducible rfl
 rotate_left
 · simp only [Act.put, sqa, sqb, sqc, i64_w, i32_w]
   rfl
 refine pure_ (i := 2) (N := some 55) (v := ?_) (a' := ?_) #[true, true, true, false, false, false, false, false, false, false, false, false, false, false, false] rfl rfl (any_of HT_.out s7q1) (fun _ _ _ h => h) (Or.inl ⟨by rfl, ?_⟩) ?_ ?_
 rotate_left
 · intro w'
   go_simp
   with_reducible rfl
 rotate_left
 · simp only [Act.put, sqa, sqb, sqc, i64_w, i32_w]
   rfl
 refine pure_ (i := 3) (N := some 56) (v := ?_) (a' := ?_) #[true, true, true, true, false, false, false, false, false, false, false, false, false, false, false] rfl rfl (any_of HT_.out s7q1) (fun _ _ _ h => h) (Or.inl ⟨by rfl, ?_⟩) ?_ ?_
 rotate_left
 · intro w'
   go_simp
   with_reducible rfl
 rotate_left
 · simp only [Act.put, sqa, sqb, sqc, i64_w, i32_w]
   rfl
 refine pure_ (i := 4) (N := some 57) (v := ?_) (a' := ?_) #[true, true, true, true, true, false, false, false, false, false, false, false, false, false, false] rfl rfl (any_of HT_.out s7q1) (fun _ _ _ h => h) (Or.inl ⟨by rfl, ?_⟩) ?_ ?_
 rotate_left
 · intro w'
   go_simp
   with_reducible rfl
 rotate_left
 · simp only [Act.put, sqa, sqb, sqc, i64_w, i32_w]
   rfl
 refine pure_ (i := 5) (N := some 58) (v := ?_) (a' := ?_) #[true, true, true, true, true, true, false, false, false, false, false, false, false, false, false] rfl rfl (any_of HT_.out s7q1) (fun _ _ _ h => h) (Or.inl ⟨by rfl, ?_⟩) ?_ ?_
 rotate_left
 · intro w'
   go_simp
   with_reducible rfl
 rotate_left
 · simp only [Act.put, sqa, sqb, sqc, i64_w, i32_w]
   rfl
 refine pure_ (i := 7) (N := some 60) (v := ?_) (a' := ?_) #[true, true, true, true, true, true, false, true, false, false, false, false, false, false, false] rfl rfl (any_of HT_.out s7q1) (fun _ _ _ h => h) (Or.inl ⟨by rfl, ?_⟩) ?_ ?_
 rotate_left
 · intro w'
   go_simp
   with_reducible rfl
 rotate_left
 · simp only [Act.put, sqa, sqb, sqc, i64_w, i32_w]
   rfl
 refine pure_ (i := 8) (N := some 61) (v := ?_) (a' := ?_) #[true, true, true, true, true, true, false, true, true, false, false, false, false, false, false] rfl rfl (any_of HT_.out s7q1) (fun _ _ _ h => h) (Or.inl ⟨by rfl, ?_⟩) ?_ ?_
 rotate_left
 · intro w'
   go_simp
   with_reducible rfl
 rotate_left
 · simp only [Act.put, sqa, sqb, sqc, i64_w, i32_w]
   rfl
 refine pure_ (i := 9) (N := some 62) (v := ?_) (a' := ?_) #[true, true, true, true, true, true, false, true, true, true, false, false, false, false, false] rfl rfl (any_of HT_.out s7q1) (fun _ _ _ h => h) (Or.inl ⟨by rfl, ?_⟩) ?_ ?_
 rotate_left
 · intro w'
   go_simp
   with_reducible rfl
 rotate_left
 · simp only [Act.put, sqa, sqb, sqc, i64_w, i32_w]
   rfl
 refine pure_ (i := 10) (N := some 63) (v := ?_) (a' := ?_) #[true, true, true, true, true, true, false, true, true, true, true, false, false, false, false] rfl rfl (any_of HT_.out s7q1) (fun _ _ _ h => h) (Or.inl ⟨by rfl, ?_⟩) ?_ ?_
 rotate_left
 · intro w'
   go_simp
   with_reducible rfl
 rotate_left
 · simp only [Act.put, sqa, sqb, sqc, i64_w, i32_w]
   rfl
 refine take_ (i := 6) (N := some 59) (v := ?_) (a' := ?_) #[true, true, true, true, true, true, true, true, true, true, true, false, false, false, false] rfl rfl (take_ofW HT_.out HW_.out s7q1) (fun _ _ _ h => h) (Or.inl ⟨by rfl, ?_⟩) hHeld ?_ ?_
 rotate_left
 · rintro w' ⟨s0, s1, s2, s3⟩
   go_simp
   with_reducible rfl
 rotate_left
 · simp only [Act.put, sqa, sqb, sqc, i64_w, i32_w]
   rfl
 refine take_ (i := 11) (N := some 64) (v := ?_) (a' := ?_) #[true, true, true, true, true, true, true, true, true, true, true, true, false, false, false] rfl rfl (take_ofW HT_.out HW_.out s7q1) (fun _ _ _ h => h) (Or.inl ⟨by rfl, ?_⟩) hHeld ?_ ?_
 rotate_left
 · rintro w' ⟨s0, s1, s2, s3⟩
   go_simp
   with_reducible rfl
 rotate_left
 · simp only [Act.put, sqa, sqb, sqc, i64_w, i32_w]
   rfl
 refine pure_ (i := 12) (N := some 65) (v := ?_) (a' := ?_) #[true, true, true, true, true, true, true, true, true, true, true, true, true, false, false] rfl rfl (any_of HT_.out s7q1) (fun _ _ _ h => h) (Or.inl ⟨by rfl, ?_⟩) ?_ ?_
 rotate_left
 · intro w'
   go_simp
   with_reducible rfl
 rotate_left
 · simp only [Act.put, sqa, sqb, sqc, i64_w, i32_w]
   rfl
 refine one_ (i := 13) (N := some 66) #[true, true, true, true, true, true, true, true, true, true, true, true, true, true, false] rfl rfl (one_of HT_.out s7q1) (by decide) (fun K hK => ?_)
 refine goes_ Tryd.func42 s7q1 rfl #[.slice A0 l0.length c0, .slice A1 l1.length c1, .int .i64 (Go.bits .or .i64 ((rd_T89 x8_2 x42_3).f0) ((rd_T89 x8_2 x15_4).f0))] (by rfl) rfl rfl s7q8 ?_
 with_reducible refine (cost_size.calls k4 _ _ l0 _ _ l1 (Go.bits .or .i64 ((rd_T89 x8_2 x42_3).f0) ((rd_T89 x8_2 x15_4).f0)) t246 _ ?side1 ?side2 ?side3 ?side4 A21.out).mono ?_
 (case side1 => repeat (first | exact (Kd.C_below HR0.out HB.out) | (with_reducible refine Kd.C_alloc ?_ _) | (with_reducible refine Kd.C_drewN ?_ _) | (with_reducible refine Kd.C_drew ?_)))
 (case side2 => exact HC0.out)
 (case side3 => repeat (first | exact (Kd.C_below HR1.out HB.out) | (with_reducible refine Kd.C_alloc ?_ _) | (with_reducible refine Kd.C_drewN ?_ _) | (with_reducible refine Kd.C_drew ?_)))
 (case side4 => exact HC1.out)
 rintro e w29 ⟨rfl, hb⟩
 have HS0_ := pw_cell_below hb hHeld.1
 have HS1_ := pw_cell_below hb hHeld.2.1
 have HS2_ := pw_cell_below hb hHeld.2.2.1
 have HS3_ := pw_cell_below hb hHeld.2.2.2
 refine ⟨_, rfl, ?_⟩
 have n0_ := Aside0.mk (Kd.N_below s7q4 hb)
 have n1_ := Aside0.mk (Kd.V_below s7q5 hb)
 have n2_ := Aside0.mk (Kd.V_below s7q6 hb)
 have n3_ := Aside0.mk (Kd.C_below s7q11 hb)
 have n4_ := Aside0.mk (Kd.C_below s7q12 hb)
 have n5_ := Aside0.mk (below_step s7q7 hb)
 clear HO_8
 clear HL244_1
 clear HL245_1
 clear HR244_1
 clear HR245_1
 clear HB
 have HO_8 := n0_
 have HL244_1 := n1_
 have HL245_1 := n2_
 have HR244_1 := n3_
 have HR245_1 := n4_
 have HB := n5_
 clear n0_ n1_ n2_ n3_ n4_ n5_
 (try clear hb)
 (try clear hb2)
 (try clear hk)
 (try clear hi)
 refine hK.out _ _ ⟨HS0_, HS1_, HS2_, HS3_⟩ (fun hHeld => ?_)
 clear hK K
 refine norm_ (a' := ?_) ?_ ?_
 rotate_left
 · show Act.put _ (some 66) _ = _
   simp only [Act.put, sqa, sqb, sqc, i64_w, i32_w]
   rfl
 refine pure_ (i := 14) (N := some 16) (v := ?_) (a' := ?_) #[true, true, true, true, true, true, true, true, true, true, true, true, true, true, true] rfl rfl (any_of HT_.out s7q1) (fun _ _ _ h => h) (Or.inl ⟨by rfl, ?_⟩) ?_ ?_
 rotate_left
 · intro w'
   go_simp
   with_reducible rfl
 rotate_left
 · simp only [Act.put, sqa, sqb, sqc, i64_w, i32_w]
   rfl
 refine done_ (done_of HT_.out s7q1) ?_
 try go_wp2
 first | go_roundg k4 | (refine Handed.intro k4 ?measure ?_; rotate_left; go_step; (repeat apply Exists.intro); simp only [add_plain]; refine ⟨?rel, rfl⟩)
 case measure => have := HK1.out; have := HK2.out; have := HK3.out; have := HK4.out; omega
 case rel => exact ⟨(x11_4), (x12_4), (x13_4), (wrap64 (x15_4 + 1)), s7q2, s7q2, s7q2, s7q2, H', ⟨by have := HK1.out; have := HK2.out; have := HK3.out; have := HK4.out; omega⟩, ⟨by (with_reducible repeat (first | apply Kd.N_alloc | apply Kd.N_drewN | apply Kd.N_drew)); exact HO_8.out⟩, ⟨by repeat (first | (with_reducible first | exact HB.out | apply below_alloc | apply pw_below_drewN | apply below_drew1) | exact HB.out)⟩⟩
end Go.Proofs.YtgcijejmmhjibaaDoor.B
