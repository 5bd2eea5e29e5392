-- Printed by a program of this session (a patched print).
import Derived.Test.YtgcijejmmhjibaaDoorGx0
import Derived.Test.YtgcijejmmhjibaaDoorGx1
import Derived.Test.YtgcijejmmhjibaaDoorGx2
import Derived.Test.YtgcijejmmhjibaaDoorGx8
namespace Go.Proofs.YtgcijejmmhjibaaDoor.G
open Go.RowKit Go.Proofs.YtgcijejmmhjibaaDoorW.PrintWords Go.Proofs.YtgcijejmmhjibaaDoorW.PrintLast Go.Proofs.YtgcijejmmhjibaaDoorW.PrintMore
attribute [local go_sem] max2_int min2_int max_two min_two max_three min_three max_four min_four   -- for this text's walks alone
set_option linter.unusedVariables false
set_option linter.unusedSimpArgs false

theorem s9qm0 {p : Prop} (h : p := by repeat' first | (with_reducible exact ih0 _ _ _ _ _) | (with_reducible exact ih1 _ _ _ _) | (with_reducible exact ih2 _ _ _ _ _ _ _ _ _) | (with_reducible exact ih3 _ _ _ _ _ _ _ _ _ _ _) | (with_reducible exact cost_checkRelations.mono _ _ _) | (with_reducible exact cost_joined.mono _ _ _) | (with_reducible exact cost_size.mono _ _ _ _) | (with_reducible exact LeO.refl _) | (with_reducible exact LeO.none _) | (with_reducible refine LeO.ite ?_ ?_) | (with_reducible refine LeO.bind ?_ (fun _ => ?_)) | exact ih0 _ _ _ _ _ | exact ih1 _ _ _ _ | exact ih2 _ _ _ _ _ _ _ _ _ | exact ih3 _ _ _ _ _ _ _ _ _ _ _ | exact cost_checkRelations.mono _ _ _ | exact cost_joined.mono _ _ _ | exact cost_size.mono _ _ _ _ | exact LeO.none _ | refine LeO.ite ?_ ?_ | refine LeO.bind ?_ (fun _ => ?_)) : p := h
theorem s9q0 {p : Prop} (h : p := by omega) : p := h
theorem s9q1 {p : Prop} (h : p := by kernel_rfl) : p := h
theorem s9q2 {p : Prop} (h : p := by first | rfl | (simp; done) | (simp [*]; done)) : p := h
theorem s9q3 {p : Prop} (h : p := by first | (with_reducible assumption) | assumption) : p := h
theorem s9q4 {p : Prop} (h : p := by (with_reducible repeat (first | apply Kd.N_alloc | apply Kd.N_drewN | apply Kd.N_drew)); exact HO_8.out) : p := h
theorem s9q5 {p : Prop} (h : p := by (with_reducible repeat (first | apply Kd.V_alloc | apply Kd.V_drewN | apply Kd.V_drew)); exact HL323_1.out) : p := h
theorem s9q6 {p : Prop} (h : p := by (with_reducible repeat (first | apply Kd.V_alloc | apply Kd.V_drewN | apply Kd.V_drew)); exact HL324_1.out) : p := h
theorem s9q7 {p : Prop} (h : p := by repeat (first | (with_reducible first | exact HB.out | apply below_alloc | apply pw_below_drewN | apply below_drew1) | exact HB.out)) : p := h
theorem s9q8 {p : Prop} (h : p := by (try simp only [List.map_toArray, List.map_cons, List.map_nil]); first | done | rfl | (simp only [List.length_drop, List.length_take]; rfl)) : p := h
theorem s9q9 {p : Prop} (h : p := by repeat (first | (with_reducible exact HR314_1.out) | (with_reducible refine Kd.C_alloc ?_ _) | (with_reducible refine Kd.C_drewN ?_ _) | (with_reducible refine Kd.C_drew ?_) | exact HR314_1.out)) : p := h
theorem s9q10 {p : Prop} (h : p := by repeat (first | (with_reducible exact HR315_1.out) | (with_reducible refine Kd.C_alloc ?_ _) | (with_reducible refine Kd.C_drewN ?_ _) | (with_reducible refine Kd.C_drew ?_) | exact HR315_1.out)) : p := h
theorem s9q11 {p : Prop} (h : p := by repeat (first | (with_reducible exact HR323_1.out) | (with_reducible refine Kd.C_alloc ?_ _) | (with_reducible refine Kd.C_drewN ?_ _) | (with_reducible refine Kd.C_drew ?_) | exact HR323_1.out)) : p := h
theorem s9q12 {p : Prop} (h : p := by repeat (first | (with_reducible exact HR324_1.out) | (with_reducible refine Kd.C_alloc ?_ _) | (with_reducible refine Kd.C_drewN ?_ _) | (with_reducible refine Kd.C_drew ?_) | exact HR324_1.out)) : p := h
theorem s9q13 {p : Prop} (h : p := by first | exact q323 | exact of_decide_eq_true s9q3 | (have e_ := (Kd.N_reads' HO_8.out).1; omega)) : p := h
theorem s9q14 {p : Prop} (h : p := by first | exact q324 | exact of_decide_eq_true s9q3 | (have e_ := (Kd.N_reads' HO_8.out).1; omega)) : p := h
theorem s9q15 {p : Prop} (h : p := by have h_ : (x11_3 : Int) < ((x8_2.length : Int) : Int) := of_decide_eq_true s9q3; first | exact h_ | (have e_ := (Kd.N_reads' HO_8.out).1; omega) | simpa using h_) : p := h
/-! ### cost_Greedy: function 22 -/
mutual
def cost_Greedy.l0 : Nat → List Int → List (S75) → List (S89) → Int → Int → Option (List Int × Int × Int)
  | 0, _, _, _, _, _ => none
  | k + 1, x0, x1, x8, x24, x25 => if x25 < x24 then (if 0 ≤ x25 then (if x8.length < 4398046511104 then (cost_Greedy.l0 k x0 x1 (x8 ++ [(⟨shl .i64 1 x25, (([x25] : List Int))⟩ : S89)]) x24 (wrap64 (x25 + 1))) else (none)) else (none)) else (cost_Greedy.l1 k x0 x1 x8 0)
def cost_Greedy.l1 : Nat → List Int → List (S75) → List (S89) → Int → Option (List Int × Int × Int)
  | 0, _, _, _, _ => none
  | k + 1, x0, x1, x8, x10 => if (x8.length : Int) > 1 then (cost_Greedy.l2 k x0 x1 x8 x10 0 0 0 (x8.length : Int) 0) else (if 0 < (x8.length : Int) then (some ((rd_T89 x8 0).f1, x10, 0)) else (none))
def cost_Greedy.l2 : Nat → List Int → List (S75) → List (S89) → Int → Int → Int → Int → Int → Int → Option (List Int × Int × Int)
  | 0, _, _, _, _, _, _, _, _, _ => none
  | k + 1, x0, x1, x8, x10, x11, x12, x13, x41, x42 => if x42 < x41 then (cost_Greedy.l3 k x0 x1 x8 x10 x11 x12 x13 x42 (wrap64 (x42 + 1)) x41 x42) else (if 0 ≤ x11 then (if x11 < (x8.length : Int) then (if 0 ≤ x12 then (if x12 < (x8.length : Int) then ((cost_joined.f k ((rd_T89 x8 x11).f1) ((rd_T89 x8 x12).f1)).bind fun t316 => (cost_Greedy.l1 k x0 x1 ((x8.set (x11 : Int).toNat (⟨Go.bits .or .i64 ((rd_T89 x8 x11).f0) ((rd_T89 x8 x12).f0), t316⟩ : S89)).eraseIdx (x12 : Int).toNat) (mn 1000000000000000 (wrap64 (x10 + x13))))) else (none)) else (none)) else (none)) else (none))
def cost_Greedy.l3 : Nat → List Int → List (S75) → List (S89) → Int → Int → Int → Int → Int → Int → Int → Int → Option (List Int × Int × Int)
  | 0, _, _, _, _, _, _, _, _, _, _, _ => none
  | k + 1, x0, x1, x8, x10, x11, x12, x13, x14, x15, x41, x42 => if x15 < (x8.length : Int) then (if 0 ≤ x14 then (if x14 < (x8.length : Int) then (if 0 ≤ x15 then ((cost_size.f k x0 x1 (Go.bits .or .i64 ((rd_T89 x8 x14).f0) ((rd_T89 x8 x15).f0))).bind fun t325 => (if x12 = 0 then (cost_Greedy.l3 k x0 x1 x8 x10 x14 x15 t325 x14 (wrap64 (x15 + 1)) x41 x42) else (if t325 < x13 then (cost_Greedy.l3 k x0 x1 x8 x10 x14 x15 t325 x14 (wrap64 (x15 + 1)) x41 x42) else (cost_Greedy.l3 k x0 x1 x8 x10 x11 x12 x13 x14 (wrap64 (x15 + 1)) x41 x42)))) else (none)) else (none)) else (none)) else (cost_Greedy.l2 k x0 x1 x8 x10 x11 x12 x13 x41 (wrap64 (x42 + 1)))
end
def cost_Greedy.f (k : Nat) (l0 : List Int) (l1 : List (S75)) : Option (List Int × Int × Int) := (cost_checkRelations.f k l0 l1).bind fun t304 => (if t304 = 0 then (cost_Greedy.l0 k l0 l1 ([] : List (S89)) (l0.length : Int) 0) else (some (([] : List Int), 0, t304)))
theorem cost_Greedy.mono_l : ∀ k, (∀ y0 y1 y2 y3 y4, LeO (cost_Greedy.l0 k y0 y1 y2 y3 y4) (cost_Greedy.l0 (k + 1) y0 y1 y2 y3 y4)) ∧ (∀ y0 y1 y2 y3, LeO (cost_Greedy.l1 k y0 y1 y2 y3) (cost_Greedy.l1 (k + 1) y0 y1 y2 y3)) ∧ (∀ y0 y1 y2 y3 y4 y5 y6 y7 y8, LeO (cost_Greedy.l2 k y0 y1 y2 y3 y4 y5 y6 y7 y8) (cost_Greedy.l2 (k + 1) y0 y1 y2 y3 y4 y5 y6 y7 y8)) ∧ (∀ y0 y1 y2 y3 y4 y5 y6 y7 y8 y9 y10, LeO (cost_Greedy.l3 k y0 y1 y2 y3 y4 y5 y6 y7 y8 y9 y10) (cost_Greedy.l3 (k + 1) y0 y1 y2 y3 y4 y5 y6 y7 y8 y9 y10))
  | 0 => ⟨fun _ _ _ _ _ r h => by simp [cost_Greedy.l0] at h, fun _ _ _ _ r h => by simp [cost_Greedy.l1] at h, fun _ _ _ _ _ _ _ _ _ r h => by simp [cost_Greedy.l2] at h, fun _ _ _ _ _ _ _ _ _ _ _ r h => by simp [cost_Greedy.l3] at h⟩
  | k + 1 => by
    obtain ⟨ih0, ih1, ih2, ih3⟩ := cost_Greedy.mono_l k
    refine ⟨?_, ?_, ?_, ?_⟩
    · intro y0 y1 y2 y3 y4
      unfold cost_Greedy.l0
      exact s9qm0
    · intro y0 y1 y2 y3
      unfold cost_Greedy.l1
      exact s9qm0
    · intro y0 y1 y2 y3 y4 y5 y6 y7 y8
      unfold cost_Greedy.l2
      exact s9qm0
    · intro y0 y1 y2 y3 y4 y5 y6 y7 y8 y9 y10
      unfold cost_Greedy.l3
      exact s9qm0
theorem cost_Greedy.mono : ∀ a0 a1 k, LeO (cost_Greedy.f k a0 a1) (cost_Greedy.f (k + 1) a0 a1) := by
 intro a0 a1 k
 obtain ⟨ih0, ih1, ih2, ih3⟩ := cost_Greedy.mono_l k
 unfold cost_Greedy.f
 repeat' first
  | (with_reducible exact ih0 _ _ _ _ _)
  | (with_reducible exact ih1 _ _ _ _)
  | (with_reducible exact ih2 _ _ _ _ _ _ _ _ _)
  | (with_reducible exact ih3 _ _ _ _ _ _ _ _ _ _ _)
  | (with_reducible exact cost_checkRelations.mono _ _ _)
  | (with_reducible exact cost_joined.mono _ _ _)
  | (with_reducible exact cost_size.mono _ _ _ _)
  | (with_reducible exact LeO.refl _)
  | (with_reducible exact LeO.none _)
  | (with_reducible refine LeO.ite ?_ ?_)
  | (with_reducible refine LeO.bind ?_ (fun _ => ?_))
  | exact ih0 _ _ _ _ _
  | exact ih1 _ _ _ _
  | exact ih2 _ _ _ _ _ _ _ _ _
  | exact ih3 _ _ _ _ _ _ _ _ _ _ _
  | exact cost_checkRelations.mono _ _ _
  | exact cost_joined.mono _ _ _
  | exact cost_size.mono _ _ _ _
  | exact LeO.none _
  | refine LeO.ite ?_ ?_
  | refine LeO.bind ?_ (fun _ => ?_)
def cost_Greedy.T19 : Bool × List (List Nat × List Nat) := (true, [([], []), ([], []), ([], []), ([], []), ([2, 3], [2, 3]), ([4], [4]), ([5], [5]), ([], []), ([], []), ([7, 8], [7, 8]), ([9], [9]), ([10], [10]), ([6, 11], [6, 11]), ([0, 1, 12], [0, 1, 12]), ([13, 13, 0, 1, 2, 3, 4, 5, 6, 7, 8, 9, 10, 11, 12, 13], [13])])
def cost_Greedy.B19 : List Nat := [0, 0, 0, 0, 12, 28, 60, 0, 0, 384, 896, 1920, 4092, 8191, 16383]
theorem cost_Greedy.tab19 : rtab .any (opsOf Tryd.f22 19) = cost_Greedy.T19 := by kernel_rfl
theorem cost_Greedy.bits19 : waitsOk cost_Greedy.T19.2 cost_Greedy.B19 = true := by kernel_rfl
def cost_Greedy.T24 : Bool × List (List Nat × List Nat) := (true, [([], []), ([], []), ([], []), ([], []), ([2, 3], [2, 3]), ([4], [4]), ([5], [5]), ([], []), ([], []), ([7, 8], [7, 8]), ([9], [9]), ([10], [10]), ([6, 11], [6, 11]), ([], []), ([], []), ([13, 14], [13, 14]), ([15], [15]), ([16], [16]), ([], []), ([], []), ([18, 19], [18, 19]), ([20], [20]), ([21], [21]), ([17, 22], [17, 22]), ([12, 23], [12, 23]), ([0, 1, 0, 1, 2, 3, 4, 5, 6, 7, 8, 9, 10, 11, 12, 13, 14, 15, 16, 17, 18, 19, 20, 21, 22, 23, 24], [0, 1]), ([25, 24, 23, 0, 1, 2, 3, 4, 5, 6, 7, 8, 9, 10, 11, 12, 13, 14, 15, 16, 17, 18, 19, 20, 21, 22, 23, 24], [24, 25])])
def cost_Greedy.B24 : List Nat := [0, 0, 0, 0, 12, 28, 60, 0, 0, 384, 896, 1920, 4092, 0, 0, 24576, 57344, 122880, 0, 0, 786432, 1835008, 3932160, 8380416, 16777212, 33554431, 67108863]
theorem cost_Greedy.tab24 : rtab .any (opsOf Tryd.f22 24) = cost_Greedy.T24 := by kernel_rfl
theorem cost_Greedy.bits24 : waitsOk cost_Greedy.T24.2 cost_Greedy.B24 = true := by kernel_rfl
set_option maxHeartbeats 8000000 in
set_option maxRecDepth 100000 in
theorem cost_Greedy.calls (k : Nat) (A0 : Option Addr) (c0 : Nat) (l0 : List Int) (A1 : Option Addr) (c1 : Nat) (l1 : List (S75)) (r1 : List Int) (r2 : Int) (r3 : Int) (w : World) (hr0 : Kd.C (Kd.int .i64) w A0 l0.length l0) (hc0 : l0.length ≤ c0) (hr1 : Kd.C k75 w A1 l1.length l1) (hc1 : l1.length ≤ c1) (h : cost_Greedy.f k l0 l1 = some (r1, r2, r3)) :
    Calls Tryd.prog 22 #[.slice A0 l0.length c0, .slice A1 l1.length c1] w fun e w' => ∃ v0_ : Value, e = .returned (.tuple #[v0_, .int .i64 r2, .int .i64 r3]) ∧ Kd.V (Kd.int .i64) 3 w' w.heap.size (fun k_ => (w.heap.size ≤ k_)) v0_ r1 ∧ Below w.heap.size w w' := by
 have hu89 := Tryd.underlying89
 have HR0 := Aside0.mk hr0
 have HC0 := Aside0.mk hc0
 clear hr0 hc0
 have HR1 := Aside0.mk hr1
 have HC1 := Aside0.mk hc1
 clear hr1 hc1
 have HB := Aside0.mk (Below.refl w.heap.size w)
 have H : ((cost_checkRelations.f k l0 l1).bind fun t304 => (if t304 = 0 then (cost_Greedy.l0 k l0 l1 ([] : List (S89)) (l0.length : Int) 0) else (some (([] : List Int), 0, t304)))) = some (r1, r2, r3) := h
 clear h
 replace H := Option.bind_eq_some_iff.mp H
 obtain ⟨t304, A30, H⟩ := H
 replace H : (if t304 = 0 then (cost_Greedy.l0 k l0 l1 ([] : List (S89)) (l0.length : Int) 0) else (some (([] : List Int), 0, t304))) = some (r1, r2, r3) := H
 have A3 := Aside0.mk A30
 clear A30
 by_cases c4 : t304 = 0
 case neg =>
  rw [if_neg c4] at H
  have c4b0 : (t304 == 0) = false := beq_eq_false_iff_ne.mpr c4
  have c4b1 : (t304 != 0) = true := bne_iff_ne.mpr c4
  simp only [Option.some.injEq, Prod.mk.injEq] at H
  obtain ⟨rfl, rfl, rfl⟩ := H
  go_enter Tryd.func22, Tryd.ntmps22
  go_wp2_with (first | ((with_reducible refine gate_callee (f := 40) rfl ?_); refine goesL_ (some 19) rfl rfl Tryd.func40 s9q1 rfl #[.slice A0 l0.length c0, .slice A1 l1.length c1] rfl s9q8 ?_; (with_reducible refine (cost_checkRelations.calls k _ _ l0 _ _ l1 t304 _ ?side1 ?side2 ?side3 ?side4 A3.out).mono ?_); (case side1 => repeat (first | exact HR0.out | (with_reducible refine Kd.C_alloc ?_ _) | (with_reducible refine Kd.C_drewN ?_ _) | (with_reducible refine Kd.C_drew ?_))); (case side2 => exact HC0.out); (case side3 => repeat (first | exact HR1.out | (with_reducible refine Kd.C_alloc ?_ _) | (with_reducible refine Kd.C_drewN ?_ _) | (with_reducible refine Kd.C_drew ?_))); (case side4 => exact HC1.out); rintro e w45 ⟨rfl, hb⟩; refine ⟨_, rfl, ?_⟩; have n0_ := Aside0.mk (below_step s9q7 hb); clear HB; have HB := n0_; clear n0_; (try clear hb); (try clear hb2); (try clear hk); (try clear hi)))
  go_ret3
  exact ⟨_, by first | rfl | (simp [errW_none, errW_some] <;> rfl) | (simp [*, errW_none, errW_some] <;> rfl), Kd.V_nil _ _ _ _ _, by repeat (first | (with_reducible first | exact HB.out | apply below_alloc | apply pw_below_drewN | apply below_drew1) | exact HB.out)⟩
 rw [if_pos c4] at H
 have c4b0 : (t304 == 0) = true := beq_iff_eq.mpr c4
 have c4b1 : (t304 != 0) = false := bne_eq_false_iff_eq.mpr c4
 clear c4
 have H' := Aside0.mk H
 clear H
 go_enter Tryd.func22, Tryd.ntmps22
 go_wp2_with (first | ((with_reducible refine gate_callee (f := 40) rfl ?_); refine goesL_ (some 19) rfl rfl Tryd.func40 s9q1 rfl #[.slice A0 l0.length c0, .slice A1 l1.length c1] rfl s9q8 ?_; (with_reducible refine (cost_checkRelations.calls k _ _ l0 _ _ l1 t304 _ ?side1 ?side2 ?side3 ?side4 A3.out).mono ?_); (case side1 => repeat (first | exact HR0.out | (with_reducible refine Kd.C_alloc ?_ _) | (with_reducible refine Kd.C_drewN ?_ _) | (with_reducible refine Kd.C_drew ?_))); (case side2 => exact HC0.out); (case side3 => repeat (first | exact HR1.out | (with_reducible refine Kd.C_alloc ?_ _) | (with_reducible refine Kd.C_drewN ?_ _) | (with_reducible refine Kd.C_drew ?_))); (case side4 => exact HC1.out); rintro e w5 ⟨rfl, hb⟩; refine ⟨_, rfl, ?_⟩; have n0_ := Aside0.mk (below_step s9q7 hb); clear HB; have HB := n0_; clear n0_; (try clear hb); (try clear hb2); (try clear hk); (try clear hi)))
 go_loopg [8, 25] k (fun kq v8 v25 w' => ∃ (x8_1 : List (S89)) (x25_1 : Int), v25 = .int .i64 x25_1 ∧ Aside0 (cost_Greedy.l0 kq l0 l1 x8_1 (l0.length : Int) x25_1 = some (r1, r2, r3)) ∧ Aside0 (kq ≤ k) ∧ Aside0 (Kd.N k89 89 w' w.heap.size (fun k_ => (w.heap.size ≤ k_)) v8 x8_1) ∧ Aside0 (Below w.heap.size w w'))
 case atStart => exact ⟨(([] : List (S89))), (0), s9q2, H', ⟨Nat.le_refl _⟩, ⟨by first | exact Kd.S_nil _ _ _ _ _ | exact Kd.N_nil _ _ _ _ _ | exact Kd.V_nil _ _ _ _ _ | exact Kd.Q_nil _ _ _ _ _ | exact Kd.R_nil _ _ _ _ _⟩, ⟨by repeat (first | (with_reducible first | exact HB.out | apply below_alloc | apply pw_below_drewN | apply below_drew1) | exact HB.out)⟩⟩
 clear H'
 try clear c1
 try clear c2
 try clear p2
 try clear c4
 try clear c4b0
 try clear c4b1
 obtain ⟨x8_1, x25_1, rfl, HA, HK1, HO_8, HB⟩ := hrel
 cases gk with
 | zero => exact absurd HA.out (by simp [cost_Greedy.l0])
 | succ k1 => ?_
 have H := HA.out
 clear HA
 simp only [cost_Greedy.l0] at H
 by_cases c6 : x25_1 < (l0.length : Int)
 · rw [if_pos c6] at H
   have c6b0 : decide (x25_1 < (l0.length : Int)) = true := decide_eq_true c6
   clear c6
   by_cases c7 : 0 ≤ x25_1
   case neg =>
    rw [if_neg c7] at H
    exact absurd H (by simp)
   rw [if_pos c7] at H
   have c7b0 := eq_true c7
   have c7b1 : decide (0 ≤ x25_1) = true := decide_eq_true c7
   clear c7
   obtain ⟨ji8, hji8⟩ : ∃ j_ : Int, (shl .i64 1 x25_1) = j_ := ⟨_, rfl⟩
   replace H : (if x8_1.length < 4398046511104 then (cost_Greedy.l0 k1 l0 l1 (x8_1 ++ [(⟨ji8, (([x25_1] : List Int))⟩ : S89)]) (l0.length : Int) (wrap64 (x25_1 + 1))) else (none)) = some (r1, r2, r3) := by first | (rw [hji8] at H; exact H) | (simp only [hji8] at H ⊢; exact H)
   have hji8_ : (IntKind.i64.wrap (1 * 2 ^ min x25_1.toNat 64)) = ji8 := hji8
   have hji8z : x25_1 ≤ 64 → (IntKind.i64.wrap (1 * 2 ^ x25_1.toNat)) = ji8 := shl_small hji8
   have hji8u : (IntKind.i64.wrap (2 ^ min x25_1.toNat 64)) = ji8 := by have h_ := hji8_; rw [Int.one_mul] at h_; exact h_
   have hji8v : x25_1 ≤ 64 → (IntKind.i64.wrap (2 ^ x25_1.toNat)) = ji8 := fun hle_ => by have h_ := hji8z hle_; rw [Int.one_mul] at h_; exact h_
   have hji8y : (wrap64 (1 * 2 ^ min x25_1.toNat 64)) = ji8 := (i64_w _).symm.trans hji8_
   have hji8x : x25_1 ≤ 64 → (wrap64 (1 * 2 ^ x25_1.toNat)) = ji8 := fun h_ => (i64_w _).symm.trans (hji8z h_)
   obtain ⟨y305, hy305⟩ : ∃ y_ : List Int, y_ = (([x25_1] : List Int)) := ⟨_, rfl⟩
   replace H : (if x8_1.length < 4398046511104 then (cost_Greedy.l0 k1 l0 l1 (x8_1 ++ [(⟨ji8, y305⟩ : S89)]) (l0.length : Int) (wrap64 (x25_1 + 1))) else (none)) = some (r1, r2, r3) := sqz hy305 H
   have Ny305 := Aside0.mk hy305
   clear hy305
   by_cases c9 : x8_1.length < 4398046511104
   case neg =>
    rw [if_neg c9] at H
    exact absurd H (by simp)
   rw [if_pos c9] at H
   have LMc9 := Aside0.mk c9
   clear c9
   obtain ⟨y308, hy308⟩ : ∃ y_ : List (S89), y_ = (x8_1 ++ [(⟨ji8, y305⟩ : S89)]) := ⟨_, rfl⟩
   replace H : (cost_Greedy.l0 k1 l0 l1 y308 (l0.length : Int) (wrap64 (x25_1 + 1))) = some (r1, r2, r3) := sqz hy308 H
   have Ny308 := Aside0.mk hy308
   clear hy308
   have H' := Aside0.mk H
   clear H
   go_wp2_with (first | ((with_reducible refine gate_dst (N := 32) rfl ?_); refine Kd.R_lit (Kd.int .i64) _ 3 ?hg (N := 32) ?hd (xs := ([x25_1] : List Int)) (inner := [.int .i64 x25_1]) (ok := fun _ => True) (okp := fun _ => True) ?hr ?hp (fun _ hk => hk) trivial (Below.refl _ _) (Nat.le_refl _) (by simp) ?_; (case hd => rfl); (case hg => rfl); (case hr => first | (go_simp; done) | (go_simp; rfl)); (case hp => exact (Reps.one (show Kd.M (Kd.int .i64) _ _ _ x25_1 [.int .i64 x25_1] from rfl) (Reps.none _ _))); intro v306 w10 ho11 hb hg_ hnew_; clear hg_ hnew_; (first | rw [← Ny305.out] at ho11 | (simp only [Int.reduceToNat] at ho11; rw [← Ny305.out] at ho11)); have n0_ := Aside0.mk (Kd.N_elder' s9q4 (Kd.R_base ho11) hb); have n1_ := Aside0.mk (Kd.R_lower (Kd.R_newM (M := fun k_ => (w.heap.size ≤ k_)) ho11 (below_size s9q7) (fun k_ h_ => h_)) (below_size s9q7)); have n2_ := Aside0.mk (below_step s9q7 hb); clear HO_8; clear HB; have HO_8 := n0_; have HO307 := n1_; have HB := n2_; clear n0_ n1_ n2_; clear hb ho11; obtain ⟨Ao12, co12, eo12⟩ := Kd.R_slice HO307.out; subst eo12) | ((with_reducible refine gate_builtin (b := .append) (xs := #[.tmp 28, .tmp 34]) rfl ?_); at_builtin; refine Kd.N_append k89 (w0 := w) w.heap.size rfl (.tmp 28) (.tmp 34) 87 89 (.agg #[(.int .i64 0), (.slice none 0 0)]) 32 rfl Tryd.underlying87 info89 rfl (by decide) s9q0 u8 x8_1 (⟨ji8, y305⟩ : S89) [.int .i64 ji8, .slice Ao12 y305.length co12] (fun k_ => (w.heap.size ≤ k_)) (fun k_ => ((fun k_ => (w.heap.size ≤ k_))) k_ ∧ some k_ ≠ (u8 : Value).ownBlock) rfl rfl ?aP (fun _ hk => hk) ?aF ?aO ?aB ?aS ?aL ?_; (case aP => exact (k89_mkF _ _ (⟨ji8, y305⟩ : S89) (Kd.R_reads' (Kd.R_mono (ok' := (fun k_ => ((fun k_ => (w.heap.size ≤ k_))) k_ ∧ some k_ ≠ (u8 : Value).ownBlock)) (Kd.R_apart' (HO307.out) (Kd.N_typed HO_8.out) (by decide)) (fun k_ hk => ⟨hk.1.1, hk.2⟩))).2.1 (Kd.R_F (Kd.R_mono (ok' := (fun k_ => ((fun k_ => (w.heap.size ≤ k_))) k_ ∧ some k_ ≠ (u8 : Value).ownBlock)) (Kd.R_apart' (HO307.out) (Kd.N_typed HO_8.out) (by decide)) (fun k_ hk => ⟨hk.1.1, hk.2⟩))))); (case aB => exact s9q7); (case aF => exact (fun k_ hk => (Nat.le_trans (below_size s9q7) hk))); (case aO => exact (by (with_reducible repeat (first | apply Kd.N_alloc | apply Kd.N_drewN | apply Kd.N_drew)); exact Kd.N_mono HO_8.out (fun _ hk => hk.1))); (case aS => exact (below_size s9q7)); (case aL => have := LMc9.out; omega); intro v309 w13 ho hb hg hat; rw [← Ny308.out] at ho; have n0_ := Aside0.mk (hb); have n1_ := Aside0.mk (ho); clear HB; clear HO_8; clear HO307; have HB := n0_; have HO310 := n1_; clear n0_ n1_; clear ho hb hg hat))
   first | go_roundg k1 | (refine Handed.intro k1 ?measure ?_; rotate_left; go_step; (repeat apply Exists.intro); simp only [add_plain]; refine ⟨?rel, rfl⟩)
   case measure => have := HK1.out; omega
   case rel => exact ⟨(y308), (wrap64 (x25_1 + 1)), s9q2, H', ⟨by have := HK1.out; omega⟩, ⟨by (with_reducible repeat (first | apply Kd.N_alloc | apply Kd.N_drewN | apply Kd.N_drew)); exact HO310.out⟩, ⟨by repeat (first | (with_reducible first | exact HB.out | apply below_alloc | apply pw_below_drewN | apply below_drew1) | exact HB.out)⟩⟩
 rw [if_neg c6] at H
 have c6b0 : decide (x25_1 < (l0.length : Int)) = false := decide_eq_false c6
 clear c6
 have H' := Aside0.mk H
 clear H
 go_wp2
 go_loopg [8, 10] k1 (fun kq v8 v10 w' => ∃ (x8_2 : List (S89)) (x10_2 : Int), v10 = .int .i64 x10_2 ∧ Aside0 (cost_Greedy.l1 kq l0 l1 x8_2 x10_2 = some (r1, r2, r3)) ∧ Aside0 (kq ≤ k1) ∧ Aside0 (Kd.N k89 89 w' w.heap.size (fun k_ => (w.heap.size ≤ k_)) v8 x8_2) ∧ Aside0 (Below w.heap.size w w'))
 case atStart => exact ⟨(x8_1), (0), s9q2, H', ⟨Nat.le_refl _⟩, ⟨by (with_reducible repeat (first | apply Kd.N_alloc | apply Kd.N_drewN | apply Kd.N_drew)); exact HO_8.out⟩, ⟨by repeat (first | (with_reducible first | exact HB.out | apply below_alloc | apply pw_below_drewN | apply below_drew1) | exact HB.out)⟩⟩
 clear H'
 try clear c1
 try clear c2
 try clear p2
 try clear c4
 try clear c4b0
 try clear c4b1
 try clear c6
 try clear c6b0
 try clear p6
 try clear c7
 try clear c7b0
 try clear c7b1
 try clear c9
 try clear p2
 obtain ⟨x8_2, x10_2, rfl, HA, HK2, HO_8, HB⟩ := hrel
 cases gk with
 | zero => exact absurd HA.out (by simp [cost_Greedy.l1])
 | succ k2 => ?_
 have H := HA.out
 clear HA
 simp only [cost_Greedy.l1] at H
 by_cases c14 : (x8_2.length : Int) > 1
 case neg =>
  rw [if_neg c14] at H
  have c14b0 : decide (1 < (x8_2.length : Int)) = false := decide_eq_false c14
  have c14b1 : decide (1 < x8_2.length) = false := decide_eq_false s9q0
  clear c14
  by_cases c43 : 0 < (x8_2.length : Int)
  case neg =>
   rw [if_neg c43] at H
   exact absurd H (by simp)
  rw [if_pos c43] at H
  have c43b0 : decide (0 < (x8_2.length : Int)) = true := decide_eq_true c43
  have c43b1 : decide (0 < x8_2.length) = true := decide_eq_true s9q0
  clear c43
  simp only [Option.some.injEq, Prod.mk.injEq] at H
  obtain ⟨rfl, rfl, rfl⟩ := H
  obtain ⟨Ao44, co44, eo44⟩ := Kd.N_slice HO_8.out
  subst eo44
  have p311 : 0 ≤ (0 : Int) := s9q0
  have q311 : 0 < (x8_2.length : Int) := of_decide_eq_true s9q3
  obtain ⟨ad311, A311_1, c311_1, e311, hx311_0, hx311_1, hl311_1, hi311_1⟩ := at_T89 (Kd.N_reads' HO_8.out).2.2 0 p311 q311
  cases e311
  obtain ⟨ce311, hce311, hMe311, hcc311⟩ := Kd.N_get HO_8.out z89 0 p311 (by first | exact q311 | exact of_decide_eq_true s9q3 | (have e_ := (Kd.N_reads' HO_8.out).1; omega))
  obtain ⟨ua311_1, uc311_1, rfl, ul311_1, ge311_1⟩ := k89_openF hMe311
  have hv311_1 := hcc311 1 _ rfl
  rw [add_field _ _ 1 s9q0] at hv311_1
  replace hv311_1 := Option.some.inj (hv311_1.symm.trans hx311_1)
  injection hv311_1 with hva_ hvn_ hvc_
  rw [hva_] at ge311_1
  rw [hvc_] at ul311_1
  have HL311_1 := Aside0.mk (show Kd.V (Kd.int .i64) 3 _ w.heap.size _ _ ((rd_T89 x8_2 0).f1) from Kd.V_mk ul311_1 ge311_1)
  clear hva_ hvn_ hvc_ ge311_1 ul311_1
  clear hcc311 hce311
  have qi311 : (0 < x8_2.length) = True := eq_true s9q0
  (try rw [show ((0 : Int)).toNat = 0 from rfl] at hx311_0)
  (try rw [show 0 * 2 = 0 from rfl] at hx311_0)
  (try rw [Addr.add_zero'] at hx311_0)
  (try rw [show ((0 : Int)).toNat = 0 from rfl] at hx311_1)
  (try rw [show 0 * 2 = 0 from rfl] at hx311_1)
  (try rw [Addr.add_zero'] at hx311_1)
  have HR311_1 := Aside0.mk hi311_1
  have HC311_1 := Aside0.mk hl311_1
  clear hi311_1 hl311_1
  replace p311 := eq_true p311
  replace q311 := eq_true q311
  go_wp2
  go_ret3
  exact ⟨_, by first | rfl | (simp [errW_none, errW_some] <;> rfl) | (simp [*, errW_none, errW_some] <;> rfl), by (with_reducible repeat (first | apply Kd.V_alloc | apply Kd.V_drewN | apply Kd.V_drew)); exact Kd.V_mono HL311_1.out (fun _ hk => hk.1), by repeat (first | (with_reducible first | exact HB.out | apply below_alloc | apply pw_below_drewN | apply below_drew1) | exact HB.out)⟩
 rw [if_pos c14] at H
 have c14b0 : decide (1 < (x8_2.length : Int)) = true := decide_eq_true c14
 have c14b1 : decide (1 < x8_2.length) = true := decide_eq_true s9q0
 clear c14
 have H' := Aside0.mk H
 clear H
 obtain ⟨Ao15, co15, eo15⟩ := Kd.N_slice HO_8.out
 subst eo15
 go_wp2
 go_loopg [11, 12, 13, 42] k2 (fun kq v11 v12 v13 v42 w' => ∃ (x11_3 : Int) (x12_3 : Int) (x13_3 : Int) (x42_3 : Int), v11 = .int .i64 x11_3 ∧ v12 = .int .i64 x12_3 ∧ v13 = .int .i64 x13_3 ∧ v42 = .int .i64 x42_3 ∧ Aside0 (cost_Greedy.l2 kq l0 l1 x8_2 x10_2 x11_3 x12_3 x13_3 (x8_2.length : Int) x42_3 = some (r1, r2, r3)) ∧ Aside0 (kq ≤ k2) ∧ Aside0 (Kd.N k89 89 w' w.heap.size (fun k_ => (w.heap.size ≤ k_)) (.slice Ao15 x8_2.length co15) x8_2) ∧ Aside0 (Below w.heap.size w w'))
 case atStart => exact ⟨(0), (0), (0), (0), s9q2, s9q2, s9q2, s9q2, H', ⟨Nat.le_refl _⟩, ⟨by (with_reducible repeat (first | apply Kd.N_alloc | apply Kd.N_drewN | apply Kd.N_drew)); exact HO_8.out⟩, ⟨by repeat (first | (with_reducible first | exact HB.out | apply below_alloc | apply pw_below_drewN | apply below_drew1) | exact HB.out)⟩⟩
 clear H'
 try clear c1
 try clear c2
 try clear p2
 try clear c4
 try clear c4b0
 try clear c4b1
 try clear c6
 try clear c6b0
 try clear p6
 try clear c7
 try clear c7b0
 try clear c7b1
 try clear c9
 try clear c14
 try clear c14b0
 try clear c14b1
 try clear p2
 try clear p6
 obtain ⟨x11_3, x12_3, x13_3, x42_3, rfl, rfl, rfl, rfl, HA, HK3, HO_8, HB⟩ := hrel
 cases gk with
 | zero => exact absurd HA.out (by simp [cost_Greedy.l2])
 | succ k3 => ?_
 have H := HA.out
 clear HA
 simp only [cost_Greedy.l2] at H
 by_cases c16 : x42_3 < (x8_2.length : Int)
 case neg =>
  rw [if_neg c16] at H
  have c16b0 : decide (x42_3 < (x8_2.length : Int)) = false := decide_eq_false c16
  clear c16
  obtain ⟨ji30, hji30⟩ : ∃ j_ : Int, (mn 1000000000000000 (wrap64 (x10_2 + x13_3))) = j_ := ⟨_, rfl⟩
  replace H : (if 0 ≤ x11_3 then (if x11_3 < (x8_2.length : Int) then (if 0 ≤ x12_3 then (if x12_3 < (x8_2.length : Int) then ((cost_joined.f k3 ((rd_T89 x8_2 x11_3).f1) ((rd_T89 x8_2 x12_3).f1)).bind fun t316 => (cost_Greedy.l1 k3 l0 l1 ((x8_2.set (x11_3 : Int).toNat (⟨Go.bits .or .i64 ((rd_T89 x8_2 x11_3).f0) ((rd_T89 x8_2 x12_3).f0), t316⟩ : S89)).eraseIdx (x12_3 : Int).toNat) ji30)) else (none)) else (none)) else (none)) else (none)) = some (r1, r2, r3) := by first | (rw [hji30] at H; exact H) | (simp only [hji30] at H ⊢; exact H)
  have hji30_ : (if (wrap64 (x10_2 + x13_3)) < 1000000000000000 then (wrap64 (x10_2 + x13_3)) else 1000000000000000) = ji30 := hji30
  by_cases c31 : 0 ≤ x11_3
  case neg =>
   rw [if_neg c31] at H
   exact absurd H (by simp)
  rw [if_pos c31] at H
  have c31b0 : decide (0 ≤ x11_3) = true := decide_eq_true c31
  clear c31
  by_cases c32 : x11_3 < (x8_2.length : Int)
  case neg =>
   rw [if_neg c32] at H
   exact absurd H (by simp)
  rw [if_pos c32] at H
  have c32b0 : decide (x11_3 < (x8_2.length : Int)) = true := decide_eq_true c32
  clear c32
  by_cases c33 : 0 ≤ x12_3
  case neg =>
   rw [if_neg c33] at H
   exact absurd H (by simp)
  rw [if_pos c33] at H
  have c33b0 : decide (0 ≤ x12_3) = true := decide_eq_true c33
  clear c33
  by_cases c34 : x12_3 < (x8_2.length : Int)
  case neg =>
   rw [if_neg c34] at H
   exact absurd H (by simp)
  rw [if_pos c34] at H
  have c34b0 : decide (x12_3 < (x8_2.length : Int)) = true := decide_eq_true c34
  clear c34
  replace H := Option.bind_eq_some_iff.mp H
  obtain ⟨t316, A350, H⟩ := H
  replace H : (cost_Greedy.l1 k3 l0 l1 ((x8_2.set (x11_3 : Int).toNat (⟨Go.bits .or .i64 ((rd_T89 x8_2 x11_3).f0) ((rd_T89 x8_2 x12_3).f0), t316⟩ : S89)).eraseIdx (x12_3 : Int).toNat) ji30) = some (r1, r2, r3) := H
  have A35 := Aside0.mk A350
  clear A350
  obtain ⟨y319, hy319⟩ : ∃ y_ : List (S89), y_ = (x8_2.set (x11_3 : Int).toNat (⟨Go.bits .or .i64 ((rd_T89 x8_2 x11_3).f0) ((rd_T89 x8_2 x12_3).f0), t316⟩ : S89)) := ⟨_, rfl⟩
  replace H : (cost_Greedy.l1 k3 l0 l1 (y319.eraseIdx (x12_3 : Int).toNat) ji30) = some (r1, r2, r3) := sqz hy319 H
  have Ny319 := Aside0.mk hy319
  clear hy319
  obtain ⟨y320, hy320⟩ : ∃ y_ : List (S89), y_ = (y319.eraseIdx (x12_3 : Int).toNat) := ⟨_, rfl⟩
  replace H : (cost_Greedy.l1 k3 l0 l1 y320 ji30) = some (r1, r2, r3) := sqz hy320 H
  have Ny320 := Aside0.mk hy320
  clear hy320
  have H' := Aside0.mk H
  clear H
  try go_wp2
  have n0_ := Aside0.mk (Kd.N_drew HO_8.out)
  have n1_ := Aside0.mk (below_drew1 HB.out)
  clear HO_8
  clear HB
  have HO_8 := n0_
  have HB := n1_
  clear n0_ n1_
  have p312 : 0 ≤ (x11_3 : Int) := of_decide_eq_true s9q3
  have q312 : x11_3 < (x8_2.length : Int) := of_decide_eq_true s9q3
  obtain ⟨ad312, A312_1, c312_1, e312, hx312_0, hx312_1, hl312_1, hi312_1⟩ := at_T89 (Kd.N_reads' HO_8.out).2.2 x11_3 p312 q312
  cases e312
  obtain ⟨ce312, hce312, hMe312, hcc312⟩ := Kd.N_get HO_8.out z89 x11_3 p312 (by first | exact q312 | exact of_decide_eq_true s9q3 | (have e_ := (Kd.N_reads' HO_8.out).1; omega))
  obtain ⟨ua312_1, uc312_1, rfl, ul312_1, ge312_1⟩ := k89_openF hMe312
  have hv312_1 := hcc312 1 _ rfl
  rw [add_field _ _ 1 s9q0] at hv312_1
  replace hv312_1 := Option.some.inj (hv312_1.symm.trans hx312_1)
  injection hv312_1 with hva_ hvn_ hvc_
  rw [hva_] at ge312_1
  rw [hvc_] at ul312_1
  have HL312_1 := Aside0.mk (show Kd.V (Kd.int .i64) 3 _ w.heap.size _ _ ((rd_T89 x8_2 x11_3).f1) from Kd.V_mk ul312_1 ge312_1)
  clear hva_ hvn_ hvc_ ge312_1 ul312_1
  clear hcc312 hce312
  have HR312_1 := Aside0.mk hi312_1
  have HC312_1 := Aside0.mk hl312_1
  clear hi312_1 hl312_1
  replace p312 := eq_true p312
  replace q312 := eq_true q312
  have p313 : 0 ≤ (x12_3 : Int) := of_decide_eq_true s9q3
  have q313 : x12_3 < (x8_2.length : Int) := of_decide_eq_true s9q3
  obtain ⟨ad313, A313_1, c313_1, e313, hx313_0, hx313_1, hl313_1, hi313_1⟩ := at_T89 (Kd.N_reads' HO_8.out).2.2 x12_3 p313 q313
  obtain rfl : ad312 = ad313 := (by injection e313)
  obtain ⟨ce313, hce313, hMe313, hcc313⟩ := Kd.N_get HO_8.out z89 x12_3 p313 (by first | exact q313 | exact of_decide_eq_true s9q3 | (have e_ := (Kd.N_reads' HO_8.out).1; omega))
  obtain ⟨ua313_1, uc313_1, rfl, ul313_1, ge313_1⟩ := k89_openF hMe313
  have hv313_1 := hcc313 1 _ rfl
  rw [add_field _ _ 1 s9q0] at hv313_1
  replace hv313_1 := Option.some.inj (hv313_1.symm.trans hx313_1)
  injection hv313_1 with hva_ hvn_ hvc_
  rw [hva_] at ge313_1
  rw [hvc_] at ul313_1
  have HL313_1 := Aside0.mk (show Kd.V (Kd.int .i64) 3 _ w.heap.size _ _ ((rd_T89 x8_2 x12_3).f1) from Kd.V_mk ul313_1 ge313_1)
  clear hva_ hvn_ hvc_ ge313_1 ul313_1
  clear hcc313 hce313
  have HR313_1 := Aside0.mk hi313_1
  have HC313_1 := Aside0.mk hl313_1
  clear hi313_1 hl313_1
  replace p313 := eq_true p313
  replace q313 := eq_true q313
  have p314 : 0 ≤ (x11_3 : Int) := of_decide_eq_true s9q3
  have q314 : x11_3 < (x8_2.length : Int) := of_decide_eq_true s9q3
  obtain ⟨ad314, A314_1, c314_1, e314, hx314_0, hx314_1, hl314_1, hi314_1⟩ := at_T89 (Kd.N_reads' HO_8.out).2.2 x11_3 p314 q314
  obtain rfl : ad312 = ad314 := (by injection e314)
  obtain ⟨ce314, hce314, hMe314, hcc314⟩ := Kd.N_get HO_8.out z89 x11_3 p314 (by first | exact q314 | exact of_decide_eq_true s9q3 | (have e_ := (Kd.N_reads' HO_8.out).1; omega))
  obtain ⟨ua314_1, uc314_1, rfl, ul314_1, ge314_1⟩ := k89_openF hMe314
  have hv314_1 := hcc314 1 _ rfl
  rw [add_field _ _ 1 s9q0] at hv314_1
  replace hv314_1 := Option.some.inj (hv314_1.symm.trans hx314_1)
  injection hv314_1 with hva_ hvn_ hvc_
  rw [hva_] at ge314_1
  rw [hvc_] at ul314_1
  have HL314_1 := Aside0.mk (show Kd.V (Kd.int .i64) 3 _ w.heap.size _ _ ((rd_T89 x8_2 x11_3).f1) from Kd.V_mk ul314_1 ge314_1)
  clear hva_ hvn_ hvc_ ge314_1 ul314_1
  clear hcc314 hce314
  have HR314_1 := Aside0.mk hi314_1
  have HC314_1 := Aside0.mk hl314_1
  clear hi314_1 hl314_1
  replace p314 := eq_true p314
  replace q314 := eq_true q314
  have ea_ := Option.some.inj (hx312_1.symm.trans hx314_1)
  injection ea_ with ea_ en_ ec_
  subst ea_
  subst ec_
  clear en_
  have p315 : 0 ≤ (x12_3 : Int) := of_decide_eq_true s9q3
  have q315 : x12_3 < (x8_2.length : Int) := of_decide_eq_true s9q3
  obtain ⟨ad315, A315_1, c315_1, e315, hx315_0, hx315_1, hl315_1, hi315_1⟩ := at_T89 (Kd.N_reads' HO_8.out).2.2 x12_3 p315 q315
  obtain rfl : ad312 = ad315 := (by injection e315)
  obtain ⟨ce315, hce315, hMe315, hcc315⟩ := Kd.N_get HO_8.out z89 x12_3 p315 (by first | exact q315 | exact of_decide_eq_true s9q3 | (have e_ := (Kd.N_reads' HO_8.out).1; omega))
  obtain ⟨ua315_1, uc315_1, rfl, ul315_1, ge315_1⟩ := k89_openF hMe315
  have hv315_1 := hcc315 1 _ rfl
  rw [add_field _ _ 1 s9q0] at hv315_1
  replace hv315_1 := Option.some.inj (hv315_1.symm.trans hx315_1)
  injection hv315_1 with hva_ hvn_ hvc_
  rw [hva_] at ge315_1
  rw [hvc_] at ul315_1
  have HL315_1 := Aside0.mk (show Kd.V (Kd.int .i64) 3 _ w.heap.size _ _ ((rd_T89 x8_2 x12_3).f1) from Kd.V_mk ul315_1 ge315_1)
  clear hva_ hvn_ hvc_ ge315_1 ul315_1
  clear hcc315 hce315
  have HR315_1 := Aside0.mk hi315_1
  have HC315_1 := Aside0.mk hl315_1
  clear hi315_1 hl315_1
  replace p315 := eq_true p315
  replace q315 := eq_true q315
  have ea_ := Option.some.inj (hx313_1.symm.trans hx315_1)
  injection ea_ with ea_ en_ ec_
  subst ea_
  subst ec_
  clear en_
  refine start_ (n := 27) (S := fun w' => w'.cell? (ad312.add ((x11_3).toNat * 2)) = some (.int .i64 ((rd_T89 x8_2 x11_3).f0)) ∧ w'.cell? ⟨(ad312.add ((x11_3).toNat * 2)).block, (ad312.add ((x11_3).toNat * 2)).off + 1, none⟩ = some (.slice A312_1 ((rd_T89 x8_2 x11_3).f1).length c312_1) ∧ w'.cell? (ad312.add ((x12_3).toNat * 2)) = some (.int .i64 ((rd_T89 x8_2 x12_3).f0)) ∧ w'.cell? ⟨(ad312.add ((x12_3).toNat * 2)).block, (ad312.add ((x12_3).toNat * 2)).off + 1, none⟩ = some (.slice A313_1 ((rd_T89 x8_2 x12_3).f1).length c313_1) ∧ w'.cell? (ad312.add ((x11_3).toNat * 2)) = some (.int .i64 ((rd_T89 x8_2 x11_3).f0)) ∧ w'.cell? ⟨(ad312.add ((x11_3).toNat * 2)).block, (ad312.add ((x11_3).toNat * 2)).off + 1, none⟩ = some (.slice A312_1 ((rd_T89 x8_2 x11_3).f1).length c312_1) ∧ w'.cell? (ad312.add ((x12_3).toNat * 2)) = some (.int .i64 ((rd_T89 x8_2 x12_3).f0)) ∧ w'.cell? ⟨(ad312.add ((x12_3).toNat * 2)).block, (ad312.add ((x12_3).toNat * 2)).off + 1, none⟩ = some (.slice A313_1 ((rd_T89 x8_2 x12_3).f1).length c313_1)) (ds := [26]) #[false, false, false, false, false, false, false, false, false, false, false, false, false, false, false, false, false, false, false, false, false, false, false, false, false, false, false] s9q1 rfl rfl ⟨hx312_0, hx312_1, hx313_0, hx313_1, hx314_0, hx314_1, hx315_0, hx315_1⟩ (fun hHeld => ?_); refine with_tabW cost_Greedy.tab24 cost_Greedy.bits24 (fun HT_ HW_ => ?_)
  generalize wr.drew = w37 at HO_8 HB HL312_1 HL313_1 HL314_1 HL315_1 HR312_1 HR313_1 HR314_1 HR315_1 hx312_0 hx312_1 hx313_0 hx313_1 hx314_0 hx314_1 hx315_0 hx315_1 hHeld ⊢
  refine pure_ (i := 0) (N := some 82) (v := ?_) (a' := ?_) #[true, false, false, false, false, false, false, false, false, false, false, false, false, false, false, false, false, false, false, false, false, false, false, false, false, false, false] rfl rfl (any_of HT_.out s9q1) (fun _ _ _ h => h) (Or.inl ⟨by rfl, ?_⟩) ?_ ?_
  rotate_left
  · intro w'
    go_simp
    with_reducible rfl
  rotate_left
  · simp only [Act.put, sqa, sqb, sqc, i64_w, i32_w]
    rfl
  refine pure_ (i := 1) (N := some 83) (v := ?_) (a' := ?_) #[true, true, false, false, false, false, false, false, false, false, false, false, false, false, false, false, false, false, false, false, false, false, false, false, false, false, false] rfl rfl (any_of HT_.out s9q1) (fun _ _ _ h => h) (Or.inl ⟨by rfl, ?_⟩) ?_ ?_
  rotate_left
  · intro w'
    go_simp
    with_reducible rfl
  rotate_left
  · simp only [Act.put, sqa, sqb, sqc, i64_w, i32_w]
    rfl
  refine pure_ (i := 2) (N := some 84) (v := ?_) (a' := ?_) #[true, true, true, false, false, false, false, false, false, false, false, false, false, false, false, false, false, false, false, false, false, false, false, false, false, false, false] rfl rfl (any_of HT_.out s9q1) (fun _ _ _ h => h) (Or.inl ⟨by rfl, ?_⟩) ?_ ?_
  rotate_left
  · intro w'
    go_simp
    with_reducible rfl
  rotate_left
  · simp only [Act.put, sqa, sqb, sqc, i64_w, i32_w]
    rfl
  refine pure_ (i := 3) (N := some 85) (v := ?_) (a' := ?_) #[true, true, true, true, false, false, false, false, false, false, false, false, false, false, false, false, false, false, false, false, false, false, false, false, false, false, false] rfl rfl (any_of HT_.out s9q1) (fun _ _ _ h => h) (Or.inl ⟨by rfl, ?_⟩) ?_ ?_
  rotate_left
  · intro w'
    go_simp
    with_reducible rfl
  rotate_left
  · simp only [Act.put, sqa, sqb, sqc, i64_w, i32_w]
    rfl
  refine pure_ (i := 4) (N := some 86) (v := ?_) (a' := ?_) #[true, true, true, true, true, false, false, false, false, false, false, false, false, false, false, false, false, false, false, false, false, false, false, false, false, false, false] rfl rfl (any_of HT_.out s9q1) (fun _ _ _ h => h) (Or.inl ⟨by rfl, ?_⟩) ?_ ?_
  rotate_left
  · intro w'
    go_simp
    with_reducible rfl
  rotate_left
  · simp only [Act.put, sqa, sqb, sqc, i64_w, i32_w]
    rfl
  refine pure_ (i := 5) (N := some 87) (v := ?_) (a' := ?_) #[true, true, true, true, true, true, false, false, false, false, false, false, false, false, false, false, false, false, false, false, false, false, false, false, false, false, false] rfl rfl (any_of HT_.out s9q1) (fun _ _ _ h => h) (Or.inl ⟨by rfl, ?_⟩) ?_ ?_
  rotate_left
  · intro w'
    go_simp
    with_reducible rfl
  rotate_left
  · simp only [Act.put, sqa, sqb, sqc, i64_w, i32_w]
    rfl
  refine pure_ (i := 7) (N := some 89) (v := ?_) (a' := ?_) #[true, true, true, true, true, true, false, true, false, false, false, false, false, false, false, false, false, false, false, false, false, false, false, false, false, false, false] rfl rfl (any_of HT_.out s9q1) (fun _ _ _ h => h) (Or.inl ⟨by rfl, ?_⟩) ?_ ?_
  rotate_left
  · intro w'
    go_simp
    with_reducible rfl
  rotate_left
  · simp only [Act.put, sqa, sqb, sqc, i64_w, i32_w]
    rfl
  refine pure_ (i := 8) (N := some 90) (v := ?_) (a' := ?_) #[true, true, true, true, true, true, false, true, true, false, false, false, false, false, false, false, false, false, false, false, false, false, false, false, false, false, false] rfl rfl (any_of HT_.out s9q1) (fun _ _ _ h => h) (Or.inl ⟨by rfl, ?_⟩) ?_ ?_
  rotate_left
  · intro w'
    go_simp
    with_reducible rfl
  rotate_left
  · simp only [Act.put, sqa, sqb, sqc, i64_w, i32_w]
    rfl
  refine pure_ (i := 9) (N := some 91) (v := ?_) (a' := ?_) #[true, true, true, true, true, true, false, true, true, true, false, false, false, false, false, false, false, false, false, false, false, false, false, false, false, false, false] rfl rfl (any_of HT_.out s9q1) (fun _ _ _ h => h) (Or.inl ⟨by rfl, ?_⟩) ?_ ?_
  rotate_left
  · intro w'
    go_simp
    with_reducible rfl
  rotate_left
  · simp only [Act.put, sqa, sqb, sqc, i64_w, i32_w]
    rfl
  refine pure_ (i := 10) (N := some 92) (v := ?_) (a' := ?_) #[true, true, true, true, true, true, false, true, true, true, true, false, false, false, false, false, false, false, false, false, false, false, false, false, false, false, false] rfl rfl (any_of HT_.out s9q1) (fun _ _ _ h => h) (Or.inl ⟨by rfl, ?_⟩) ?_ ?_
  rotate_left
  · intro w'
    go_simp
    with_reducible rfl
  rotate_left
  · simp only [Act.put, sqa, sqb, sqc, i64_w, i32_w]
    rfl
  refine pure_ (i := 13) (N := some 95) (v := ?_) (a' := ?_) #[true, true, true, true, true, true, false, true, true, true, true, false, false, true, false, false, false, false, false, false, false, false, false, false, false, false, false] rfl rfl (any_of HT_.out s9q1) (fun _ _ _ h => h) (Or.inl ⟨by rfl, ?_⟩) ?_ ?_
  rotate_left
  · intro w'
    go_simp
    with_reducible rfl
  rotate_left
  · simp only [Act.put, sqa, sqb, sqc, i64_w, i32_w]
    rfl
  refine pure_ (i := 14) (N := some 96) (v := ?_) (a' := ?_) #[true, true, true, true, true, true, false, true, true, true, true, false, false, true, true, false, false, false, false, false, false, false, false, false, false, false, false] rfl rfl (any_of HT_.out s9q1) (fun _ _ _ h => h) (Or.inl ⟨by rfl, ?_⟩) ?_ ?_
  rotate_left
  · intro w'
    go_simp
    with_reducible rfl
  rotate_left
  · simp only [Act.put, sqa, sqb, sqc, i64_w, i32_w]
    rfl
  refine pure_ (i := 15) (N := some 97) (v := ?_) (a' := ?_) #[true, true, true, true, true, true, false, true, true, true, true, false, false, true, true, true, false, false, false, false, false, false, false, false, false, false, false] rfl rfl (any_of HT_.out s9q1) (fun _ _ _ h => h) (Or.inl ⟨by rfl, ?_⟩) ?_ ?_
  rotate_left
  · intro w'
    go_simp
    with_reducible rfl
  rotate_left
  · simp only [Act.put, sqa, sqb, sqc, i64_w, i32_w]
    rfl
  refine pure_ (i := 16) (N := some 98) (v := ?_) (a' := ?_) #[true, true, true, true, true, true, false, true, true, true, true, false, false, true, true, true, true, false, false, false, false, false, false, false, false, false, false] rfl rfl (any_of HT_.out s9q1) (fun _ _ _ h => h) (Or.inl ⟨by rfl, ?_⟩) ?_ ?_
  rotate_left
  · intro w'
    go_simp
    with_reducible rfl
  rotate_left
  · simp only [Act.put, sqa, sqb, sqc, i64_w, i32_w]
    rfl
  refine pure_ (i := 18) (N := some 100) (v := ?_) (a' := ?_) #[true, true, true, true, true, true, false, true, true, true, true, false, false, true, true, true, true, false, true, false, false, false, false, false, false, false, false] rfl rfl (any_of HT_.out s9q1) (fun _ _ _ h => h) (Or.inl ⟨by rfl, ?_⟩) ?_ ?_
  rotate_left
  · intro w'
    go_simp
    with_reducible rfl
  rotate_left
  · simp only [Act.put, sqa, sqb, sqc, i64_w, i32_w]
    rfl
  refine pure_ (i := 19) (N := some 101) (v := ?_) (a' := ?_) #[true, true, true, true, true, true, false, true, true, true, true, false, false, true, true, true, true, false, true, true, false, false, false, false, false, false, false] rfl rfl (any_of HT_.out s9q1) (fun _ _ _ h => h) (Or.inl ⟨by rfl, ?_⟩) ?_ ?_
  rotate_left
  · intro w'
    go_simp
    with_reducible rfl
  rotate_left
  · simp only [Act.put, sqa, sqb, sqc, i64_w, i32_w]
    rfl
  refine pure_ (i := 20) (N := some 102) (v := ?_) (a' := ?_) #[true, true, true, true, true, true, false, true, true, true, true, false, false, true, true, true, true, false, true, true, true, false, false, false, false, false, false] rfl rfl (any_of HT_.out s9q1) (fun _ _ _ h => h) (Or.inl ⟨by rfl, ?_⟩) ?_ ?_
  rotate_left
  · intro w'
    go_simp
    with_reducible rfl
  rotate_left
  · simp only [Act.put, sqa, sqb, sqc, i64_w, i32_w]
    rfl
  refine pure_ (i := 21) (N := some 103) (v := ?_) (a' := ?_) #[true, true, true, true, true, true, false, true, true, true, true, false, false, true, true, true, true, false, true, true, true, true, false, false, false, false, false] rfl rfl (any_of HT_.out s9q1) (fun _ _ _ h => h) (Or.inl ⟨by rfl, ?_⟩) ?_ ?_
  rotate_left
  · intro w'
    go_simp
    with_reducible rfl
  rotate_left
  · simp only [Act.put, sqa, sqb, sqc, i64_w, i32_w]
    rfl
  refine take_ (i := 6) (N := some 88) (v := ?_) (a' := ?_) #[true, true, true, true, true, true, true, true, true, true, true, false, false, true, true, true, true, false, true, true, true, true, false, false, false, false, false] rfl rfl (take_ofW HT_.out HW_.out s9q1) (fun _ _ _ h => h) (Or.inl ⟨by rfl, ?_⟩) hHeld ?_ ?_
  rotate_left
  · rintro w' ⟨s0, s1, s2, s3, s4, s5, s6, s7⟩
    go_simp
    with_reducible rfl
  rotate_left
  · simp only [Act.put, sqa, sqb, sqc, i64_w, i32_w]
    rfl
  refine take_ (i := 11) (N := some 93) (v := ?_) (a' := ?_) #[true, true, true, true, true, true, true, true, true, true, true, true, false, true, true, true, true, false, true, true, true, true, false, false, false, false, false] rfl rfl (take_ofW HT_.out HW_.out s9q1) (fun _ _ _ h => h) (Or.inl ⟨by rfl, ?_⟩) hHeld ?_ ?_
  rotate_left
  · rintro w' ⟨s0, s1, s2, s3, s4, s5, s6, s7⟩
    go_simp
    with_reducible rfl
  rotate_left
  · simp only [Act.put, sqa, sqb, sqc, i64_w, i32_w]
    rfl
  refine pure_ (i := 12) (N := some 94) (v := ?_) (a' := ?_) #[true, true, true, true, true, true, true, true, true, true, true, true, true, true, true, true, true, false, true, true, true, true, false, false, false, false, false] rfl rfl (any_of HT_.out s9q1) (fun _ _ _ h => h) (Or.inl ⟨by rfl, ?_⟩) ?_ ?_
  rotate_left
  · intro w'
    go_simp
    with_reducible rfl
  rotate_left
  · simp only [Act.put, sqa, sqb, sqc, i64_w, i32_w]
    rfl
  refine take_ (i := 17) (N := some 99) (v := ?_) (a' := ?_) #[true, true, true, true, true, true, true, true, true, true, true, true, true, true, true, true, true, true, true, true, true, true, false, false, false, false, false] rfl rfl (take_ofW HT_.out HW_.out s9q1) (fun _ _ _ h => h) (Or.inl ⟨by rfl, ?_⟩) hHeld ?_ ?_
  rotate_left
  · rintro w' ⟨s0, s1, s2, s3, s4, s5, s6, s7⟩
    go_simp
    with_reducible rfl
  rotate_left
  · simp only [Act.put, sqa, sqb, sqc, i64_w, i32_w]
    rfl
  refine take_ (i := 22) (N := some 104) (v := ?_) (a' := ?_) #[true, true, true, true, true, true, true, true, true, true, true, true, true, true, true, true, true, true, true, true, true, true, true, false, false, false, false] rfl rfl (take_ofW HT_.out HW_.out s9q1) (fun _ _ _ h => h) (Or.inl ⟨by rfl, ?_⟩) hHeld ?_ ?_
  rotate_left
  · rintro w' ⟨s0, s1, s2, s3, s4, s5, s6, s7⟩
    go_simp
    with_reducible rfl
  rotate_left
  · simp only [Act.put, sqa, sqb, sqc, i64_w, i32_w]
    rfl
  refine one_ (i := 23) (N := some 105) #[true, true, true, true, true, true, true, true, true, true, true, true, true, true, true, true, true, true, true, true, true, true, true, true, false, false, false] rfl rfl (one_of HT_.out s9q1) (by decide) (fun K hK => ?_)
  refine goes_ Tryd.func47 s9q1 rfl #[.slice A312_1 ((rd_T89 x8_2 x11_3).f1).length c312_1, .slice A313_1 ((rd_T89 x8_2 x12_3).f1).length c313_1] (by rfl) rfl rfl s9q8 ?_
  with_reducible refine (cost_joined.calls k3 _ _ ((rd_T89 x8_2 x11_3).f1) _ _ ((rd_T89 x8_2 x12_3).f1) t316 _ ?side1 ?side2 ?side3 ?side4 A35.out).mono ?_
  (case side1 => repeat (first | exact s9q9 | (with_reducible refine Kd.C_alloc ?_ _) | (with_reducible refine Kd.C_drewN ?_ _) | (with_reducible refine Kd.C_drew ?_)))
  (case side2 => exact HC314_1.out)
  (case side3 => repeat (first | exact s9q10 | (with_reducible refine Kd.C_alloc ?_ _) | (with_reducible refine Kd.C_drewN ?_ _) | (with_reducible refine Kd.C_drew ?_)))
  (case side4 => exact HC315_1.out)
  rintro e w38 ⟨v317, rfl, ho0, hb⟩
  have HS0_ := pw_cell_below hb hHeld.1
  have HS1_ := pw_cell_below hb hHeld.2.1
  have HS2_ := pw_cell_below hb hHeld.2.2.1
  have HS3_ := pw_cell_below hb hHeld.2.2.2.1
  have HS4_ := pw_cell_below hb hHeld.2.2.2.2.1
  have HS5_ := pw_cell_below hb hHeld.2.2.2.2.2.1
  have HS6_ := pw_cell_below hb hHeld.2.2.2.2.2.2.1
  have HS7_ := pw_cell_below hb hHeld.2.2.2.2.2.2.2
  refine ⟨_, rfl, ?_⟩
  have n0_ := Aside0.mk (Kd.N_elder' s9q4 (Kd.R_base ho0) hb)
  have n1_ := Aside0.mk (Kd.V_elder' (by (with_reducible repeat (first | apply Kd.V_alloc | apply Kd.V_drewN | apply Kd.V_drew)); exact HL312_1.out) (Kd.R_base ho0) hb)
  have n2_ := Aside0.mk (Kd.V_elder' (by (with_reducible repeat (first | apply Kd.V_alloc | apply Kd.V_drewN | apply Kd.V_drew)); exact HL313_1.out) (Kd.R_base ho0) hb)
  have n3_ := Aside0.mk (Kd.V_elder' (by (with_reducible repeat (first | apply Kd.V_alloc | apply Kd.V_drewN | apply Kd.V_drew)); exact HL314_1.out) (Kd.R_base ho0) hb)
  have n4_ := Aside0.mk (Kd.V_elder' (by (with_reducible repeat (first | apply Kd.V_alloc | apply Kd.V_drewN | apply Kd.V_drew)); exact HL315_1.out) (Kd.R_base ho0) hb)
  have n5_ := Aside0.mk (Kd.R_lower (Kd.R_newM (M := fun k_ => (w.heap.size ≤ k_)) ho0 (below_size s9q7) (fun k_ h_ => h_)) (below_size s9q7))
  have n6_ := Aside0.mk (Kd.C_below (by repeat (first | (with_reducible exact HR312_1.out) | (with_reducible refine Kd.C_alloc ?_ _) | (with_reducible refine Kd.C_drewN ?_ _) | (with_reducible refine Kd.C_drew ?_) | exact HR312_1.out)) hb)
  have n7_ := Aside0.mk (Kd.C_below (by repeat (first | (with_reducible exact HR313_1.out) | (with_reducible refine Kd.C_alloc ?_ _) | (with_reducible refine Kd.C_drewN ?_ _) | (with_reducible refine Kd.C_drew ?_) | exact HR313_1.out)) hb)
  have n8_ := Aside0.mk (Kd.C_below s9q9 hb)
  have n9_ := Aside0.mk (Kd.C_below s9q10 hb)
  have n10_ := Aside0.mk (below_step s9q7 hb)
  clear HO_8
  clear HL312_1
  clear HL313_1
  clear HL314_1
  clear HL315_1
  clear HR312_1
  clear HR313_1
  clear HR314_1
  clear HR315_1
  clear HB
  have HO_8 := n0_
  have HL312_1 := n1_
  have HL313_1 := n2_
  have HL314_1 := n3_
  have HL315_1 := n4_
  have HO318 := n5_
  have HR312_1 := n6_
  have HR313_1 := n7_
  have HR314_1 := n8_
  have HR315_1 := n9_
  have HB := n10_
  clear n0_ n1_ n2_ n3_ n4_ n5_ n6_ n7_ n8_ n9_ n10_
  (try clear hb)
  (try clear hb2)
  (try clear hk)
  (try clear hi)
  (try clear ho0)
  obtain ⟨Ao39, co39, eo39⟩ := Kd.R_slice HO318.out
  (first | subst eo39 | (injection eo39 with f1_ f2_ f3_; have f4_ := f1_.symm; have f5_ := f3_.symm; clear f1_ f2_ f3_; subst f4_; subst f5_))
  have p36 : 0 ≤ (x11_3 : Int) := of_decide_eq_true s9q3
  have q36 : (x11_3 : Int) < ((x8_2.length : Int) : Int) := of_decide_eq_true s9q3
  obtain ⟨go36, co36, eo36, gb36, gl36, cl36, HG36⟩ := Kd.N_form HO_8.out (by first | exact Int.natCast_pos.1 (Int.lt_of_le_of_lt p36 q36) | omega)
  (first | cases eo36 | (injection eo36 with ea_ en_ ec_; (first | subst ea_ | (injection ea_ with ea_; subst ea_)); subst ec_; clear en_))
  have GB36 := Aside0.mk gb36
  have GG36 := Aside0.mk HG36
  clear gb36 gl36 HG36
  (first | simp only [add_plain] at hx312_0 | skip)
  (first | simp only [add_plain] at hx312_1 | skip)
  (first | simp only [add_plain] at hx313_0 | skip)
  (first | simp only [add_plain] at hx313_1 | skip)
  (first | simp only [add_plain] at hx314_0 | skip)
  (first | simp only [add_plain] at hx314_1 | skip)
  (first | simp only [add_plain] at hx315_0 | skip)
  (first | simp only [add_plain] at hx315_1 | skip)
  obtain ⟨ce36, hcl36, hM36, hcc36, hfr36⟩ := Kd.N_elem HO_8.out z89 (x11_3 : Int) p36 q36
  obtain ⟨ua36_1, uc36_1, rfl, ul36_1, ge36_1⟩ := k89_openF hM36
  have hx36_0 : World.cell? _ ⟨go36, (x11_3 : Int).toNat * 2, none⟩ = some (.int .i64 ((rd_T89 x8_2 x11_3).f0)) := hcc36 0 _ rfl
  have hx36_1 : World.cell? _ ⟨go36, (x11_3 : Int).toNat * 2 + 1, none⟩ = some (.slice ua36_1 ((rd_T89 x8_2 x11_3).f1).length uc36_1) := hcc36 1 _ rfl
  have hf36_0 : World.frozen? _ ⟨go36, (x11_3 : Int).toNat * 2, none⟩ = false := hfr36 0
  have hf36_1 : World.frozen? _ ⟨go36, (x11_3 : Int).toNat * 2 + 1, none⟩ = false := hfr36 1
  clear hcl36 hcc36 hfr36 hM36
  replace p36 := eq_true p36
  replace q36 := eq_true q36
  have HX40 := Aside0.mk (show Kd.N k89 89 _ w.heap.size (fun k_ => (w.heap.size ≤ k_) ∧ some k_ ≠ (.slice Ao39 t316.length co39 : Value).ownBlock) (.slice (some ⟨go36, 0, none⟩) x8_2.length co15) x8_2 from (Kd.N_mono (HO_8.out) (fun k_ hk => ⟨hk.1, hk.2⟩)))
  replace HX40 := Aside0.mk (show Kd.N k89 89 _ w.heap.size (fun k_ => (w.heap.size ≤ k_)) (.slice (some ⟨go36, 0, none⟩) x8_2.length co15) x8_2 from Kd.N_mono HX40.out (fun k_ hk => hk.1))
  obtain ⟨ce40, hcl40, hM40, hcc40, hfr40⟩ := Kd.N_elem HX40.out z89 (x11_3 : Int) (of_decide_eq_true s9q3) s9q15
  obtain ⟨ua40_1, uc40_1, rfl, ul40_1, ge40_1⟩ := k89_openF hM40
  have HP40 := (Kd.N_seg HX40.out (x11_3 : Int) (of_decide_eq_true s9q3) s9q15 (seg := [.int .i64 (Go.bits .or .i64 ((rd_T89 x8_2 x11_3).f0) ((rd_T89 x8_2 x12_3).f0)), .slice Ao39 t316.length co39]) (j := 0) hcl40 hcc40 (show 2 ≤ 2 from by decide) (x' := (⟨Go.bits .or .i64 ((rd_T89 x8_2 x11_3).f0) ((rd_T89 x8_2 x12_3).f0), t316⟩ : S89)) (k89_mkF _ _ (⟨Go.bits .or .i64 ((rd_T89 x8_2 x11_3).f0) ((rd_T89 x8_2 x12_3).f0), t316⟩ : S89) (Kd.R_reads' (Kd.R_mono (ok' := (fun k_ => ((fun k_ => (w.heap.size ≤ k_))) k_ ∧ k_ ≠ go36)) (Kd.R_apart' (HO318.out) (Kd.N_typed HO_8.out) (by decide)) (fun k_ hk => ⟨hk.1.1, fun e_ => (hk.2) (by rw [e_]; rfl)⟩))).2.1 (Kd.R_F (Kd.R_mono (ok' := (fun k_ => ((fun k_ => (w.heap.size ≤ k_))) k_ ∧ k_ ≠ go36)) (Kd.R_apart' (HO318.out) (Kd.N_typed HO_8.out) (by decide)) (fun k_ hk => ⟨hk.1.1, fun e_ => (hk.2) (by rw [e_]; rfl)⟩)))) (fun _ hk => hk)).1
  rw [← Ny319.out] at HP40
  have HQ40 := Aside0.mk HP40
  clear hcl40 hcc40 hfr40 hM40 HP40
  refine hK.out _ _ ⟨HS0_, HS1_, HS2_, HS3_, HS4_, HS5_, HS6_, HS7_⟩ (fun hHeld => ?_)
  clear hK K
  refine norm_ (a' := ?_) ?_ ?_
  rotate_left
  · show Act.put _ (some 105) _ = _
    simp only [Act.put, sqa, sqb, sqc, i64_w, i32_w]
    rfl
  refine pure_ (i := 24) (N := some 106) (v := ?_) (a' := ?_) #[true, true, true, true, true, true, true, true, true, true, true, true, true, true, true, true, true, true, true, true, true, true, true, true, true, false, false] rfl rfl (any_of HT_.out s9q1) (fun _ _ _ h => h) (Or.inl ⟨by rfl, ?_⟩) ?_ ?_
  rotate_left
  · intro w'
    go_simp
    with_reducible rfl
  rotate_left
  · simp only [Act.put, sqa, sqb, sqc, i64_w, i32_w]
    rfl
  refine pure_ (i := 25) (N := some 107) (v := ?_) (a' := ?_) #[true, true, true, true, true, true, true, true, true, true, true, true, true, true, true, true, true, true, true, true, true, true, true, true, true, true, false] rfl rfl (any_of HT_.out s9q1) (fun _ _ _ h => h) (Or.inl ⟨by rfl, ?_⟩) ?_ ?_
  rotate_left
  · intro w'
    go_simp
    with_reducible rfl
  rotate_left
  · simp only [Act.put, sqa, sqb, sqc, i64_w, i32_w]
    rfl
  refine last_ (i := 26) (N := none) #[true, true, true, true, true, true, true, true, true, true, true, true, true, true, true, true, true, true, true, true, true, true, true, true, true, true, true] rfl rfl (one_of HT_.out s9q1) (by decide) (fun K hK => ?_)
  refine skip_ (w1 := ?_) (by rfl) rfl ?_ ?_
  rotate_left
  · go_simp
    rfl
  refine hK.out _ _ ?_
  clear hK K
  refine done_ (done_of HT_.out s9q1) ?_
  try go_wp2_with (first | (go_at_call 50; have hj_ : 0 ≤ (x12_3 : Int) := of_decide_eq_true s9q3; have hh_ : (x12_3 : Int) < (x8_2.length : Int) := of_decide_eq_true s9q3; have hb_ := (Kd.N_reads' HO_8.out).2.2.2.1; have hjj_ : (wrap64 (x12_3 + 1) : Int) = (x12_3 : Int) + 1 := (by unfold wrap64; omega); refine (delete50N k89 rfl w.heap.size (by (with_reducible repeat (first | apply Kd.N_alloc | apply Kd.N_drewN | apply Kd.N_drew)); exact HQ40.out) hj_ hh_ hjj_ (by repeat (first | (with_reducible first | exact HB.out | apply below_alloc | apply pw_below_drewN | apply below_drew1 | refine below_set ?_ GB36.out | refine below_set ?_ GB36.out) | exact HB.out))).mono ?_; rintro e w41 ⟨rfl, ho, hb, hg⟩; clear hj_ hh_ hb_ hjj_; rw [← Ny320.out] at ho; have hn_ : x8_2.length - 1 = y320.length := (by have := (Kd.N_reads' ho).1; omega); rw [hn_] at ho; try rw [hn_]; clear hn_; have n0_ := Aside0.mk (ho); have n1_ := Aside0.mk (hb); clear HO_8; clear HB; have HO_8 := n0_; have HB := n1_; clear n0_ n1_; clear ho hb hg))
  first | go_roundg k3 | (refine Handed.intro k3 ?measure ?_; rotate_left; go_step; (repeat apply Exists.intro); simp only [add_plain]; refine ⟨?rel, rfl⟩)
  case measure => have := HK1.out; have := HK2.out; have := HK3.out; omega
  case rel => exact ⟨(y320), (ji30), (by first | rfl | (simp; done) | (simp only [← hji30] <;> (first | rfl | simp)) | (simp [*]; done)), H', ⟨by have := HK1.out; have := HK2.out; have := HK3.out; omega⟩, ⟨by (with_reducible repeat (first | apply Kd.N_alloc | apply Kd.N_drewN | apply Kd.N_drew)); exact HO_8.out⟩, ⟨by repeat (first | (with_reducible first | exact HB.out | apply below_alloc | apply pw_below_drewN | apply below_drew1) | exact HB.out)⟩⟩
 rw [if_pos c16] at H
 have c16b0 : decide (x42_3 < (x8_2.length : Int)) = true := decide_eq_true c16
 clear c16
 have H' := Aside0.mk H
 clear H
 go_wp2
 go_loopg [11, 12, 13, 15] k3 (fun kq v11 v12 v13 v15 w' => ∃ (x11_4 : Int) (x12_4 : Int) (x13_4 : Int) (x15_4 : Int), v11 = .int .i64 x11_4 ∧ v12 = .int .i64 x12_4 ∧ v13 = .int .i64 x13_4 ∧ v15 = .int .i64 x15_4 ∧ Aside0 (cost_Greedy.l3 kq l0 l1 x8_2 x10_2 x11_4 x12_4 x13_4 x42_3 x15_4 (x8_2.length : Int) x42_3 = some (r1, r2, r3)) ∧ Aside0 (kq ≤ k3) ∧ Aside0 (Kd.N k89 89 w' w.heap.size (fun k_ => (w.heap.size ≤ k_)) (.slice Ao15 x8_2.length co15) x8_2) ∧ Aside0 (Below w.heap.size w w'))
 case atStart => exact ⟨(x11_3), (x12_3), (x13_3), (wrap64 (x42_3 + 1)), s9q2, s9q2, s9q2, s9q2, H', ⟨Nat.le_refl _⟩, ⟨by (with_reducible repeat (first | apply Kd.N_alloc | apply Kd.N_drewN | apply Kd.N_drew)); exact HO_8.out⟩, ⟨by repeat (first | (with_reducible first | exact HB.out | apply below_alloc | apply pw_below_drewN | apply below_drew1) | exact HB.out)⟩⟩
 clear H'
 try clear c1
 try clear c2
 try clear p2
 try clear c4
 try clear c4b0
 try clear c4b1
 try clear c6
 try clear c6b0
 try clear p6
 try clear c7
 try clear c7b0
 try clear c7b1
 try clear c9
 try clear c14
 try clear c14b0
 try clear c14b1
 try clear c16
 try clear c16b0
 try clear p2
 try clear p6
 obtain ⟨x11_4, x12_4, x13_4, x15_4, rfl, rfl, rfl, rfl, HA, HK4, HO_8, HB⟩ := hrel
 cases gk with
 | zero => exact absurd HA.out (by simp [cost_Greedy.l3])
 | succ k4 => ?_
 have H := HA.out
 clear HA
 simp only [cost_Greedy.l3] at H
 by_cases c17 : x15_4 < (x8_2.length : Int)
 case neg =>
  rw [if_neg c17] at H
  have c17b0 : decide (x15_4 < (x8_2.length : Int)) = false := decide_eq_false c17
  clear c17
  have H' := Aside0.mk H
  clear H
  go_wp2
  first | go_roundg k4 | (refine Handed.intro k4 ?measure ?_; rotate_left; go_step; (repeat apply Exists.intro); simp only [add_plain]; refine ⟨?rel, rfl⟩)
  case measure => have := HK1.out; have := HK2.out; have := HK3.out; have := HK4.out; omega
  case rel => exact ⟨(x11_4), (x12_4), (x13_4), (wrap64 (x42_3 + 1)), s9q2, s9q2, s9q2, s9q2, H', ⟨by have := HK1.out; have := HK2.out; have := HK3.out; have := HK4.out; omega⟩, ⟨by (with_reducible repeat (first | apply Kd.N_alloc | apply Kd.N_drewN | apply Kd.N_drew)); exact HO_8.out⟩, ⟨by repeat (first | (with_reducible first | exact HB.out | apply below_alloc | apply pw_below_drewN | apply below_drew1) | exact HB.out)⟩⟩
 rw [if_pos c17] at H
 have c17b0 : decide (x15_4 < (x8_2.length : Int)) = true := decide_eq_true c17
 clear c17
 by_cases c18 : 0 ≤ x42_3
 case neg =>
  rw [if_neg c18] at H
  exact absurd H (by simp)
 rw [if_pos c18] at H
 have c18b0 : decide (0 ≤ x42_3) = true := decide_eq_true c18
 clear c18
 by_cases c19 : x42_3 < (x8_2.length : Int)
 case neg =>
  rw [if_neg c19] at H
  exact absurd H (by simp)
 rw [if_pos c19] at H
 have c19b0 : decide (x42_3 < (x8_2.length : Int)) = true := decide_eq_true c19
 clear c19
 by_cases c20 : 0 ≤ x15_4
 case neg =>
  rw [if_neg c20] at H
  exact absurd H (by simp)
 rw [if_pos c20] at H
 have c20b0 : decide (0 ≤ x15_4) = true := decide_eq_true c20
 clear c20
 replace H := Option.bind_eq_some_iff.mp H
 obtain ⟨t325, A210, H⟩ := H
 replace H : (if x12_4 = 0 then (cost_Greedy.l3 k4 l0 l1 x8_2 x10_2 x42_3 x15_4 t325 x42_3 (wrap64 (x15_4 + 1)) (x8_2.length : Int) x42_3) else (if t325 < x13_4 then (cost_Greedy.l3 k4 l0 l1 x8_2 x10_2 x42_3 x15_4 t325 x42_3 (wrap64 (x15_4 + 1)) (x8_2.length : Int) x42_3) else (cost_Greedy.l3 k4 l0 l1 x8_2 x10_2 x11_4 x12_4 x13_4 x42_3 (wrap64 (x15_4 + 1)) (x8_2.length : Int) x42_3))) = some (r1, r2, r3) := H
 have A21 := Aside0.mk A210
 clear A210
 by_cases c22 : x12_4 = 0
 · rw [if_pos c22] at H
   have c22b0 : (x12_4 == 0) = true := beq_iff_eq.mpr c22
   have c22b1 : (x12_4 != 0) = false := bne_eq_false_iff_eq.mpr c22
   clear c22
   have H' := Aside0.mk H
   clear H
   try go_wp2
   have n0_ := Aside0.mk (Kd.N_drew HO_8.out)
   have n1_ := Aside0.mk (below_drew1 HB.out)
   clear HO_8
   clear HB
   have HO_8 := n0_
   have HB := n1_
   clear n0_ n1_
   have p323 : 0 ≤ (x42_3 : Int) := of_decide_eq_true s9q3
   have q323 : x42_3 < (x8_2.length : Int) := of_decide_eq_true s9q3
   obtain ⟨ad323, A323_1, c323_1, e323, hx323_0, hx323_1, hl323_1, hi323_1⟩ := at_T89 (Kd.N_reads' HO_8.out).2.2 x42_3 p323 q323
   cases e323
   obtain ⟨ce323, hce323, hMe323, hcc323⟩ := Kd.N_get HO_8.out z89 x42_3 p323 s9q13
   obtain ⟨ua323_1, uc323_1, rfl, ul323_1, ge323_1⟩ := k89_openF hMe323
   have hv323_1 := hcc323 1 _ rfl
   rw [add_field _ _ 1 s9q0] at hv323_1
   replace hv323_1 := Option.some.inj (hv323_1.symm.trans hx323_1)
   injection hv323_1 with hva_ hvn_ hvc_
   rw [hva_] at ge323_1
   rw [hvc_] at ul323_1
   have HL323_1 := Aside0.mk (show Kd.V (Kd.int .i64) 3 _ w.heap.size _ _ ((rd_T89 x8_2 x42_3).f1) from Kd.V_mk ul323_1 ge323_1)
   clear hva_ hvn_ hvc_ ge323_1 ul323_1
   clear hcc323 hce323
   have HR323_1 := Aside0.mk hi323_1
   have HC323_1 := Aside0.mk hl323_1
   clear hi323_1 hl323_1
   replace p323 := eq_true p323
   replace q323 := eq_true q323
   have p324 : 0 ≤ (x15_4 : Int) := of_decide_eq_true s9q3
   have q324 : x15_4 < (x8_2.length : Int) := of_decide_eq_true s9q3
   obtain ⟨ad324, A324_1, c324_1, e324, hx324_0, hx324_1, hl324_1, hi324_1⟩ := at_T89 (Kd.N_reads' HO_8.out).2.2 x15_4 p324 q324
   obtain rfl : ad323 = ad324 := (by injection e324)
   obtain ⟨ce324, hce324, hMe324, hcc324⟩ := Kd.N_get HO_8.out z89 x15_4 p324 s9q14
   obtain ⟨ua324_1, uc324_1, rfl, ul324_1, ge324_1⟩ := k89_openF hMe324
   have hv324_1 := hcc324 1 _ rfl
   rw [add_field _ _ 1 s9q0] at hv324_1
   replace hv324_1 := Option.some.inj (hv324_1.symm.trans hx324_1)
   injection hv324_1 with hva_ hvn_ hvc_
   rw [hva_] at ge324_1
   rw [hvc_] at ul324_1
   have HL324_1 := Aside0.mk (show Kd.V (Kd.int .i64) 3 _ w.heap.size _ _ ((rd_T89 x8_2 x15_4).f1) from Kd.V_mk ul324_1 ge324_1)
   clear hva_ hvn_ hvc_ ge324_1 ul324_1
   clear hcc324 hce324
   have HR324_1 := Aside0.mk hi324_1
   have HC324_1 := Aside0.mk hl324_1
   clear hi324_1 hl324_1
   replace p324 := eq_true p324
   replace q324 := eq_true q324
   refine start_ (n := 15) (S := fun w' => w'.cell? (ad323.add ((x42_3).toNat * 2)) = some (.int .i64 ((rd_T89 x8_2 x42_3).f0)) ∧ w'.cell? ⟨(ad323.add ((x42_3).toNat * 2)).block, (ad323.add ((x42_3).toNat * 2)).off + 1, none⟩ = some (.slice A323_1 ((rd_T89 x8_2 x42_3).f1).length c323_1) ∧ w'.cell? (ad323.add ((x15_4).toNat * 2)) = some (.int .i64 ((rd_T89 x8_2 x15_4).f0)) ∧ w'.cell? ⟨(ad323.add ((x15_4).toNat * 2)).block, (ad323.add ((x15_4).toNat * 2)).off + 1, none⟩ = some (.slice A324_1 ((rd_T89 x8_2 x15_4).f1).length c324_1)) (ds := []) #[false, false, false, false, false, false, false, false, false, false, false, false, false, false, false] s9q1 rfl rfl ⟨hx323_0, hx323_1, hx324_0, hx324_1⟩ (fun hHeld => ?_); refine with_tabW cost_Greedy.tab19 cost_Greedy.bits19 (fun HT_ HW_ => ?_)
   generalize wr.drew = w23 at HO_8 HB HL323_1 HL324_1 HR323_1 HR324_1 hx323_0 hx323_1 hx324_0 hx324_1 hHeld ⊢
   refine pure_ (i := 0) (N := some 53) (v := ?_) (a' := ?_) #[true, false, false, false, false, false, false, false, false, false, false, false, false, false, false] rfl rfl (any_of HT_.out s9q1) (fun _ _ _ h => h) (Or.inl ⟨by rfl, ?_⟩) ?_ ?_
   rotate_left
   · intro w'
     go_simp
     with_reducible rfl
   rotate_left
   · simp only [Act.put, sqa, sqb, sqc, i64_w, i32_w]
     rfl
   refine pure_ (i := 1) (N := some 54) (v := ?_) (a' := ?_) #[true, true, false, false, false, false, false, false, false, false, false, false, false, false, false] rfl rfl (any_of HT_.out s9q1) (fun _ _ _ h => h) (Or.inl ⟨by rfl, ?_⟩) ?_ ?_
   rotate_left
   · intro w'
     go_simp
     with_reducible rfl
   rotate_left
   · simp only [Act.put, sqa, sqb, sqc, i64_w, i32_w]
     rfl
   refine pure_ (i := 2) (N := some 55) (v := ?_) (a' := ?_) #[true, true, true, false, false, false, false, false, false, false, false, false, false, false, false] rfl rfl (any_of HT_.out s9q1) (fun _ _ _ h => h) (Or.inl ⟨by rfl, ?_⟩) ?_ ?_
   rotate_left
   · intro w'
     go_simp
     with_reducible rfl
   rotate_left
   · simp only [Act.put, sqa, sqb, sqc, i64_w, i32_w]
     rfl
   refine pure_ (i := 3) (N := some 56) (v := ?_) (a' := ?_) #[true, true, true, true, false, false, false, false, false, false, false, false, false, false, false] rfl rfl (any_of HT_.out s9q1) (fun _ _ _ h => h) (Or.inl ⟨by rfl, ?_⟩) ?_ ?_
   rotate_left
   · intro w'
     go_simp
     with_reducible rfl
   rotate_left
   · simp only [Act.put, sqa, sqb, sqc, i64_w, i32_w]
     rfl
   refine pure_ (i := 4) (N := some 57) (v := ?_) (a' := ?_) #[true, true, true, true, true, false, false, false, false, false, false, false, false, false, false] rfl rfl (any_of HT_.out s9q1) (fun _ _ _ h => h) (Or.inl ⟨by rfl, ?_⟩) ?_ ?_
   rotate_left
   · intro w'
     go_simp
     with_reducible rfl
   rotate_left
   · simp only [Act.put, sqa, sqb, sqc, i64_w, i32_w]
     rfl
   refine pure_ (i := 5) (N := some 58) (v := ?_) (a' := ?_) #[true, true, true, true, true, true, false, false, false, false, false, false, false, false, false] rfl rfl (any_of HT_.out s9q1) (fun _ _ _ h => h) (Or.inl ⟨by rfl, ?_⟩) ?_ ?_
   rotate_left
   · intro w'
     go_simp
     with_reducible rfl
   rotate_left
   · simp only [Act.put, sqa, sqb, sqc, i64_w, i32_w]
     rfl
   refine pure_ (i := 7) (N := some 60) (v := ?_) (a' := ?_) #[true, true, true, true, true, true, false, true, false, false, false, false, false, false, false] rfl rfl (any_of HT_.out s9q1) (fun _ _ _ h => h) (Or.inl ⟨by rfl, ?_⟩) ?_ ?_
   rotate_left
   · intro w'
     go_simp
     with_reducible rfl
   rotate_left
   · simp only [Act.put, sqa, sqb, sqc, i64_w, i32_w]
     rfl
   refine pure_ (i := 8) (N := some 61) (v := ?_) (a' := ?_) #[true, true, true, true, true, true, false, true, true, false, false, false, false, false, false] rfl rfl (any_of HT_.out s9q1) (fun _ _ _ h => h) (Or.inl ⟨by rfl, ?_⟩) ?_ ?_
   rotate_left
   · intro w'
     go_simp
     with_reducible rfl
   rotate_left
   · simp only [Act.put, sqa, sqb, sqc, i64_w, i32_w]
     rfl
   refine pure_ (i := 9) (N := some 62) (v := ?_) (a' := ?_) #[true, true, true, true, true, true, false, true, true, true, false, false, false, false, false] rfl rfl (any_of HT_.out s9q1) (fun _ _ _ h => h) (Or.inl ⟨by rfl, ?_⟩) ?_ ?_
   rotate_left
   · intro w'
     go_simp
     with_reducible rfl
   rotate_left
   · simp only [Act.put, sqa, sqb, sqc, i64_w, i32_w]
     rfl
   refine pure_ (i := 10) (N := some 63) (v := ?_) (a' := ?_) #[true, true, true, true, true, true, false, true, true, true, true, false, false, false, false] rfl rfl (any_of HT_.out s9q1) (fun _ _ _ h => h) (Or.inl ⟨by rfl, ?_⟩) ?_ ?_
   rotate_left
   · intro w'
     go_simp
     with_reducible rfl
   rotate_left
   · simp only [Act.put, sqa, sqb, sqc, i64_w, i32_w]
     rfl
   refine take_ (i := 6) (N := some 59) (v := ?_) (a' := ?_) #[true, true, true, true, true, true, true, true, true, true, true, false, false, false, false] rfl rfl (take_ofW HT_.out HW_.out s9q1) (fun _ _ _ h => h) (Or.inl ⟨by rfl, ?_⟩) hHeld ?_ ?_
   rotate_left
   · rintro w' ⟨s0, s1, s2, s3⟩
     go_simp
     with_reducible rfl
   rotate_left
   · simp only [Act.put, sqa, sqb, sqc, i64_w, i32_w]
     rfl
   refine take_ (i := 11) (N := some 64) (v := ?_) (a' := ?_) #[true, true, true, true, true, true, true, true, true, true, true, true, false, false, false] rfl rfl (take_ofW HT_.out HW_.out s9q1) (fun _ _ _ h => h) (Or.inl ⟨by rfl, ?_⟩) hHeld ?_ ?_
   rotate_left
   · rintro w' ⟨s0, s1, s2, s3⟩
     go_simp
     with_reducible rfl
   rotate_left
   · simp only [Act.put, sqa, sqb, sqc, i64_w, i32_w]
     rfl
   refine pure_ (i := 12) (N := some 65) (v := ?_) (a' := ?_) #[true, true, true, true, true, true, true, true, true, true, true, true, true, false, false] rfl rfl (any_of HT_.out s9q1) (fun _ _ _ h => h) (Or.inl ⟨by rfl, ?_⟩) ?_ ?_
   rotate_left
   · intro w'
     go_simp
     with_reducible rfl
   rotate_left
   · simp only [Act.put, sqa, sqb, sqc, i64_w, i32_w]
     rfl
   refine one_ (i := 13) (N := some 66) #[true, true, true, true, true, true, true, true, true, true, true, true, true, true, false] rfl rfl (one_of HT_.out s9q1) (by decide) (fun K hK => ?_)
   refine goes_ Tryd.func42 s9q1 rfl #[.slice A0 l0.length c0, .slice A1 l1.length c1, .int .i64 (Go.bits .or .i64 ((rd_T89 x8_2 x42_3).f0) ((rd_T89 x8_2 x15_4).f0))] (by rfl) rfl rfl s9q8 ?_
   with_reducible refine (cost_size.calls k4 _ _ l0 _ _ l1 (Go.bits .or .i64 ((rd_T89 x8_2 x42_3).f0) ((rd_T89 x8_2 x15_4).f0)) t325 _ ?side1 ?side2 ?side3 ?side4 A21.out).mono ?_
   (case side1 => repeat (first | exact (Kd.C_below HR0.out HB.out) | (with_reducible refine Kd.C_alloc ?_ _) | (with_reducible refine Kd.C_drewN ?_ _) | (with_reducible refine Kd.C_drew ?_)))
   (case side2 => exact HC0.out)
   (case side3 => repeat (first | exact (Kd.C_below HR1.out HB.out) | (with_reducible refine Kd.C_alloc ?_ _) | (with_reducible refine Kd.C_drewN ?_ _) | (with_reducible refine Kd.C_drew ?_)))
   (case side4 => exact HC1.out)
   rintro e w24 ⟨rfl, hb⟩
   have HS0_ := pw_cell_below hb hHeld.1
   have HS1_ := pw_cell_below hb hHeld.2.1
   have HS2_ := pw_cell_below hb hHeld.2.2.1
   have HS3_ := pw_cell_below hb hHeld.2.2.2
   refine ⟨_, rfl, ?_⟩
   have n0_ := Aside0.mk (Kd.N_below s9q4 hb)
   have n1_ := Aside0.mk (Kd.V_below s9q5 hb)
   have n2_ := Aside0.mk (Kd.V_below s9q6 hb)
   have n3_ := Aside0.mk (Kd.C_below s9q11 hb)
   have n4_ := Aside0.mk (Kd.C_below s9q12 hb)
   have n5_ := Aside0.mk (below_step s9q7 hb)
   clear HO_8
   clear HL323_1
   clear HL324_1
   clear HR323_1
   clear HR324_1
   clear HB
   have HO_8 := n0_
   have HL323_1 := n1_
   have HL324_1 := n2_
   have HR323_1 := n3_
   have HR324_1 := n4_
   have HB := n5_
   clear n0_ n1_ n2_ n3_ n4_ n5_
   (try clear hb)
   (try clear hb2)
   (try clear hk)
   (try clear hi)
   refine hK.out _ _ ⟨HS0_, HS1_, HS2_, HS3_⟩ (fun hHeld => ?_)
   clear hK K
   refine norm_ (a' := ?_) ?_ ?_
   rotate_left
   · show Act.put _ (some 66) _ = _
     simp only [Act.put, sqa, sqb, sqc, i64_w, i32_w]
     rfl
   refine pure_ (i := 14) (N := some 16) (v := ?_) (a' := ?_) #[true, true, true, true, true, true, true, true, true, true, true, true, true, true, true] rfl rfl (any_of HT_.out s9q1) (fun _ _ _ h => h) (Or.inl ⟨by rfl, ?_⟩) ?_ ?_
   rotate_left
   · intro w'
     go_simp
     with_reducible rfl
   rotate_left
   · simp only [Act.put, sqa, sqb, sqc, i64_w, i32_w]
     rfl
   refine done_ (done_of HT_.out s9q1) ?_
   try go_wp2
   first | go_roundg k4 | (refine Handed.intro k4 ?measure ?_; rotate_left; go_step; (repeat apply Exists.intro); simp only [add_plain]; refine ⟨?rel, rfl⟩)
   case measure => have := HK1.out; have := HK2.out; have := HK3.out; have := HK4.out; omega
   case rel => exact ⟨(x42_3), (x15_4), (t325), (wrap64 (x15_4 + 1)), s9q2, s9q2, s9q2, s9q2, H', ⟨by have := HK1.out; have := HK2.out; have := HK3.out; have := HK4.out; omega⟩, ⟨by (with_reducible repeat (first | apply Kd.N_alloc | apply Kd.N_drewN | apply Kd.N_drew)); exact HO_8.out⟩, ⟨by repeat (first | (with_reducible first | exact HB.out | apply below_alloc | apply pw_below_drewN | apply below_drew1) | exact HB.out)⟩⟩
 rw [if_neg c22] at H
 have c22b0 : (x12_4 == 0) = false := beq_eq_false_iff_ne.mpr c22
 have c22b1 : (x12_4 != 0) = true := bne_iff_ne.mpr c22
 by_cases c25 : t325 < x13_4
 · rw [if_pos c25] at H
   have c25b0 : decide (t325 < x13_4) = true := decide_eq_true c25
   clear c25
   have H' := Aside0.mk H
   clear H
   try go_wp2
   have n0_ := Aside0.mk (Kd.N_drew HO_8.out)
   have n1_ := Aside0.mk (below_drew1 HB.out)
   clear HO_8
   clear HB
   have HO_8 := n0_
   have HB := n1_
   clear n0_ n1_
   have p323 : 0 ≤ (x42_3 : Int) := of_decide_eq_true s9q3
   have q323 : x42_3 < (x8_2.length : Int) := of_decide_eq_true s9q3
   obtain ⟨ad323, A323_1, c323_1, e323, hx323_0, hx323_1, hl323_1, hi323_1⟩ := at_T89 (Kd.N_reads' HO_8.out).2.2 x42_3 p323 q323
   cases e323
   obtain ⟨ce323, hce323, hMe323, hcc323⟩ := Kd.N_get HO_8.out z89 x42_3 p323 s9q13
   obtain ⟨ua323_1, uc323_1, rfl, ul323_1, ge323_1⟩ := k89_openF hMe323
   have hv323_1 := hcc323 1 _ rfl
   rw [add_field _ _ 1 s9q0] at hv323_1
   replace hv323_1 := Option.some.inj (hv323_1.symm.trans hx323_1)
   injection hv323_1 with hva_ hvn_ hvc_
   rw [hva_] at ge323_1
   rw [hvc_] at ul323_1
   have HL323_1 := Aside0.mk (show Kd.V (Kd.int .i64) 3 _ w.heap.size _ _ ((rd_T89 x8_2 x42_3).f1) from Kd.V_mk ul323_1 ge323_1)
   clear hva_ hvn_ hvc_ ge323_1 ul323_1
   clear hcc323 hce323
   have HR323_1 := Aside0.mk hi323_1
   have HC323_1 := Aside0.mk hl323_1
   clear hi323_1 hl323_1
   replace p323 := eq_true p323
   replace q323 := eq_true q323
   have p324 : 0 ≤ (x15_4 : Int) := of_decide_eq_true s9q3
   have q324 : x15_4 < (x8_2.length : Int) := of_decide_eq_true s9q3
   obtain ⟨ad324, A324_1, c324_1, e324, hx324_0, hx324_1, hl324_1, hi324_1⟩ := at_T89 (Kd.N_reads' HO_8.out).2.2 x15_4 p324 q324
   obtain rfl : ad323 = ad324 := (by injection e324)
   obtain ⟨ce324, hce324, hMe324, hcc324⟩ := Kd.N_get HO_8.out z89 x15_4 p324 s9q14
   obtain ⟨ua324_1, uc324_1, rfl, ul324_1, ge324_1⟩ := k89_openF hMe324
   have hv324_1 := hcc324 1 _ rfl
   rw [add_field _ _ 1 s9q0] at hv324_1
   replace hv324_1 := Option.some.inj (hv324_1.symm.trans hx324_1)
   injection hv324_1 with hva_ hvn_ hvc_
   rw [hva_] at ge324_1
   rw [hvc_] at ul324_1
   have HL324_1 := Aside0.mk (show Kd.V (Kd.int .i64) 3 _ w.heap.size _ _ ((rd_T89 x8_2 x15_4).f1) from Kd.V_mk ul324_1 ge324_1)
   clear hva_ hvn_ hvc_ ge324_1 ul324_1
   clear hcc324 hce324
   have HR324_1 := Aside0.mk hi324_1
   have HC324_1 := Aside0.mk hl324_1
   clear hi324_1 hl324_1
   replace p324 := eq_true p324
   replace q324 := eq_true q324
   refine start_ (n := 15) (S := fun w' => w'.cell? (ad323.add ((x42_3).toNat * 2)) = some (.int .i64 ((rd_T89 x8_2 x42_3).f0)) ∧ w'.cell? ⟨(ad323.add ((x42_3).toNat * 2)).block, (ad323.add ((x42_3).toNat * 2)).off + 1, none⟩ = some (.slice A323_1 ((rd_T89 x8_2 x42_3).f1).length c323_1) ∧ w'.cell? (ad323.add ((x15_4).toNat * 2)) = some (.int .i64 ((rd_T89 x8_2 x15_4).f0)) ∧ w'.cell? ⟨(ad323.add ((x15_4).toNat * 2)).block, (ad323.add ((x15_4).toNat * 2)).off + 1, none⟩ = some (.slice A324_1 ((rd_T89 x8_2 x15_4).f1).length c324_1)) (ds := []) #[false, false, false, false, false, false, false, false, false, false, false, false, false, false, false] s9q1 rfl rfl ⟨hx323_0, hx323_1, hx324_0, hx324_1⟩ (fun hHeld => ?_); refine with_tabW cost_Greedy.tab19 cost_Greedy.bits19 (fun HT_ HW_ => ?_)
   generalize wr.drew = w26 at HO_8 HB HL323_1 HL324_1 HR323_1 HR324_1 hx323_0 hx323_1 hx324_0 hx324_1 hHeld ⊢
   refine pure_ (i := 0) (N := some 53) (v := ?_) (a' := ?_) #[true, false, false, false, false, false, false, false, false, false, false, false, false, false, false] rfl rfl (any_of HT_.out s9q1) (fun _ _ _ h => h) (Or.inl ⟨by rfl, ?_⟩) ?_ ?_
   rotate_left
   · intro w'
     go_simp
     with_reducible rfl
   rotate_left
   · simp only [Act.put, sqa, sqb, sqc, i64_w, i32_w]
     rfl
   refine pure_ (i := 1) (N := some 54) (v := ?_) (a' := ?_) #[true, true, false, false, false, false, false, false, false, false, false, false, false, false, false] rfl rfl (any_of HT_.out s9q1) (fun _ _ _ h => h) (Or.inl ⟨by rfl, ?_⟩) ?_ ?_
   rotate_left
   · intro w'
     go_simp
     with_reducible rfl
   rotate_left
   · simp only [Act.put, sqa, sqb, sqc, i64_w, i32_w]
     rfl
   refine pure_ (i := 2) (N := some 55) (v := ?_) (a' := ?_) #[true, true, true, false, false, false, false, false, false, false, false, false, false, false, false] rfl rfl (any_of HT_.out s9q1) (fun _ _ _ h => h) (Or.inl ⟨by rfl, ?_⟩) ?_ ?_
   rotate_left
   · intro w'
     go_simp
     with_reducible rfl
   rotate_left
   · simp only [Act.put, sqa, sqb, sqc, i64_w, i32_w]
     rfl
   refine pure_ (i := 3) (N := some 56) (v := ?_) (a' := ?_) #[true, true, true, true, false, false, false, false, false, false, false, false, false, false, false] rfl rfl (any_of HT_.out s9q1) (fun _ _ _ h => h) (Or.inl ⟨by rfl, ?_⟩) ?_ ?_
   rotate_left
   · intro w'
     go_simp
     with_reducible rfl
   rotate_left
   · simp only [Act.put, sqa, sqb, sqc, i64_w, i32_w]
     rfl
   refine pure_ (i := 4) (N := some 57) (v := ?_) (a' := ?_) #[true, true, true, true, true, false, false, false, false, false, false, false, false, false, false] rfl rfl (any_of HT_.out s9q1) (fun _ _ _ h => h) (Or.inl ⟨by rfl, ?_⟩) ?_ ?_
   rotate_left
   · intro w'
     go_simp
     with_reducible rfl
   rotate_left
   · simp only [Act.put, sqa, sqb, sqc, i64_w, i32_w]
     rfl
   refine pure_ (i := 5) (N := some 58) (v := ?_) (a' := ?_) #[true, true, true, true, true, true, false, false, false, false, false, false, false, false, false] rfl rfl (any_of HT_.out s9q1) (fun _ _ _ h => h) (Or.inl ⟨by rfl, ?_⟩) ?_ ?_
   rotate_left
   · intro w'
     go_simp
     with_reducible rfl
   rotate_left
   · simp only [Act.put, sqa, sqb, sqc, i64_w, i32_w]
     rfl
   refine pure_ (i := 7) (N := some 60) (v := ?_) (a' := ?_) #[true, true, true, true, true, true, false, true, false, false, false, false, false, false, false] rfl rfl (any_of HT_.out s9q1) (fun _ _ _ h => h) (Or.inl ⟨by rfl, ?_⟩) ?_ ?_
   rotate_left
   · intro w'
     go_simp
     with_reducible rfl
   rotate_left
   · simp only [Act.put, sqa, sqb, sqc, i64_w, i32_w]
     rfl
   refine pure_ (i := 8) (N := some 61) (v := ?_) (a' := ?_) #[true, true, true, true, true, true, false, true, true, false, false, false, false, false, false] rfl rfl (any_of HT_.out s9q1) (fun _ _ _ h => h) (Or.inl ⟨by rfl, ?_⟩) ?_ ?_
   rotate_left
   · intro w'
     go_simp
     with_reducible rfl
   rotate_left
   · simp only [Act.put, sqa, sqb, sqc, i64_w, i32_w]
     rfl
   refine pure_ (i := 9) (N := some 62) (v := ?_) (a' := ?_) #[true, true, true, true, true, true, false, true, true, true, false, false, false, false, false] rfl rfl (any_of HT_.out s9q1) (fun _ _ _ h => h) (Or.inl ⟨by rfl, ?_⟩) ?_ ?_
   rotate_left
   · intro w'
     go_simp
     with_reducible rfl
   rotate_left
   · simp only [Act.put, sqa, sqb, sqc, i64_w, i32_w]
     rfl
   refine pure_ (i := 10) (N := some 63) (v := ?_) (a' := ?_) #[true, true, true, true, true, true, false, true, true, true, true, false, false, false, false] rfl rfl (any_of HT_.out s9q1) (fun _ _ _ h => h) (Or.inl ⟨by rfl, ?_⟩) ?_ ?_
   rotate_left
   · intro w'
     go_simp
     with_reducible rfl
   rotate_left
   · simp only [Act.put, sqa, sqb, sqc, i64_w, i32_w]
     rfl
   refine take_ (i := 6) (N := some 59) (v := ?_) (a' := ?_) #[true, true, true, true, true, true, true, true, true, true, true, false, false, false, false] rfl rfl (take_ofW HT_.out HW_.out s9q1) (fun _ _ _ h => h) (Or.inl ⟨by rfl, ?_⟩) hHeld ?_ ?_
   rotate_left
   · rintro w' ⟨s0, s1, s2, s3⟩
     go_simp
     with_reducible rfl
   rotate_left
   · simp only [Act.put, sqa, sqb, sqc, i64_w, i32_w]
     rfl
   refine take_ (i := 11) (N := some 64) (v := ?_) (a' := ?_) #[true, true, true, true, true, true, true, true, true, true, true, true, false, false, false] rfl rfl (take_ofW HT_.out HW_.out s9q1) (fun _ _ _ h => h) (Or.inl ⟨by rfl, ?_⟩) hHeld ?_ ?_
   rotate_left
   · rintro w' ⟨s0, s1, s2, s3⟩
     go_simp
     with_reducible rfl
   rotate_left
   · simp only [Act.put, sqa, sqb, sqc, i64_w, i32_w]
     rfl
   refine pure_ (i := 12) (N := some 65) (v := ?_) (a' := ?_) #[true, true, true, true, true, true, true, true, true, true, true, true, true, false, false] rfl rfl (any_of HT_.out s9q1) (fun _ _ _ h => h) (Or.inl ⟨by rfl, ?_⟩) ?_ ?_
   rotate_left
   · intro w'
     go_simp
     with_reducible rfl
   rotate_left
   · simp only [Act.put, sqa, sqb, sqc, i64_w, i32_w]
     rfl
   refine one_ (i := 13) (N := some 66) #[true, true, true, true, true, true, true, true, true, true, true, true, true, true, false] rfl rfl (one_of HT_.out s9q1) (by decide) (fun K hK => ?_)
   refine goes_ Tryd.func42 s9q1 rfl #[.slice A0 l0.length c0, .slice A1 l1.length c1, .int .i64 (Go.bits .or .i64 ((rd_T89 x8_2 x42_3).f0) ((rd_T89 x8_2 x15_4).f0))] (by rfl) rfl rfl s9q8 ?_
   with_reducible refine (cost_size.calls k4 _ _ l0 _ _ l1 (Go.bits .or .i64 ((rd_T89 x8_2 x42_3).f0) ((rd_T89 x8_2 x15_4).f0)) t325 _ ?side1 ?side2 ?side3 ?side4 A21.out).mono ?_
   (case side1 => repeat (first | exact (Kd.C_below HR0.out HB.out) | (with_reducible refine Kd.C_alloc ?_ _) | (with_reducible refine Kd.C_drewN ?_ _) | (with_reducible refine Kd.C_drew ?_)))
   (case side2 => exact HC0.out)
   (case side3 => repeat (first | exact (Kd.C_below HR1.out HB.out) | (with_reducible refine Kd.C_alloc ?_ _) | (with_reducible refine Kd.C_drewN ?_ _) | (with_reducible refine Kd.C_drew ?_)))
   (case side4 => exact HC1.out)
   rintro e w27 ⟨rfl, hb⟩
   have HS0_ := pw_cell_below hb hHeld.1
   have HS1_ := pw_cell_below hb hHeld.2.1
   have HS2_ := pw_cell_below hb hHeld.2.2.1
   have HS3_ := pw_cell_below hb hHeld.2.2.2
   refine ⟨_, rfl, ?_⟩
   have n0_ := Aside0.mk (Kd.N_below s9q4 hb)
   have n1_ := Aside0.mk (Kd.V_below s9q5 hb)
   have n2_ := Aside0.mk (Kd.V_below s9q6 hb)
   have n3_ := Aside0.mk (Kd.C_below s9q11 hb)
   have n4_ := Aside0.mk (Kd.C_below s9q12 hb)
   have n5_ := Aside0.mk (below_step s9q7 hb)
   clear HO_8
   clear HL323_1
   clear HL324_1
   clear HR323_1
   clear HR324_1
   clear HB
   have HO_8 := n0_
   have HL323_1 := n1_
   have HL324_1 := n2_
   have HR323_1 := n3_
   have HR324_1 := n4_
   have HB := n5_
   clear n0_ n1_ n2_ n3_ n4_ n5_
   (try clear hb)
   (try clear hb2)
   (try clear hk)
   (try clear hi)
   refine hK.out _ _ ⟨HS0_, HS1_, HS2_, HS3_⟩ (fun hHeld => ?_)
   clear hK K
   refine norm_ (a' := ?_) ?_ ?_
   rotate_left
   · show Act.put _ (some 66) _ = _
     simp only [Act.put, sqa, sqb, sqc, i64_w, i32_w]
     rfl
   refine pure_ (i := 14) (N := some 16) (v := ?_) (a' := ?_) #[true, true, true, true, true, true, true, true, true, true, true, true, true, true, true] rfl rfl (any_of HT_.out s9q1) (fun _ _ _ h => h) (Or.inl ⟨by rfl, ?_⟩) ?_ ?_
   rotate_left
   · intro w'
     go_simp
     with_reducible rfl
   rotate_left
   · simp only [Act.put, sqa, sqb, sqc, i64_w, i32_w]
     rfl
   refine done_ (done_of HT_.out s9q1) ?_
   try go_wp2
   first | go_roundg k4 | (refine Handed.intro k4 ?measure ?_; rotate_left; go_step; (repeat apply Exists.intro); simp only [add_plain]; refine ⟨?rel, rfl⟩)
   case measure => have := HK1.out; have := HK2.out; have := HK3.out; have := HK4.out; omega
   case rel => exact ⟨(x42_3), (x15_4), (t325), (wrap64 (x15_4 + 1)), s9q2, s9q2, s9q2, s9q2, H', ⟨by have := HK1.out; have := HK2.out; have := HK3.out; have := HK4.out; omega⟩, ⟨by (with_reducible repeat (first | apply Kd.N_alloc | apply Kd.N_drewN | apply Kd.N_drew)); exact HO_8.out⟩, ⟨by repeat (first | (with_reducible first | exact HB.out | apply below_alloc | apply pw_below_drewN | apply below_drew1) | exact HB.out)⟩⟩
 rw [if_neg c25] at H
 have c25b0 : decide (t325 < x13_4) = false := decide_eq_false c25
 clear c25
 have H' := Aside0.mk H
 clear H
 try go_wp2
 have n0_ := Aside0.mk (Kd.N_drew HO_8.out)
 have n1_ := Aside0.mk (below_drew1 HB.out)
 clear HO_8
 clear HB
 have HO_8 := n0_
 have HB := n1_
 clear n0_ n1_
 have p323 : 0 ≤ (x42_3 : Int) := of_decide_eq_true s9q3
 have q323 : x42_3 < (x8_2.length : Int) := of_decide_eq_true s9q3
 obtain ⟨ad323, A323_1, c323_1, e323, hx323_0, hx323_1, hl323_1, hi323_1⟩ := at_T89 (Kd.N_reads' HO_8.out).2.2 x42_3 p323 q323
 cases e323
 obtain ⟨ce323, hce323, hMe323, hcc323⟩ := Kd.N_get HO_8.out z89 x42_3 p323 s9q13
 obtain ⟨ua323_1, uc323_1, rfl, ul323_1, ge323_1⟩ := k89_openF hMe323
 have hv323_1 := hcc323 1 _ rfl
 rw [add_field _ _ 1 s9q0] at hv323_1
 replace hv323_1 := Option.some.inj (hv323_1.symm.trans hx323_1)
 injection hv323_1 with hva_ hvn_ hvc_
 rw [hva_] at ge323_1
 rw [hvc_] at ul323_1
 have HL323_1 := Aside0.mk (show Kd.V (Kd.int .i64) 3 _ w.heap.size _ _ ((rd_T89 x8_2 x42_3).f1) from Kd.V_mk ul323_1 ge323_1)
 clear hva_ hvn_ hvc_ ge323_1 ul323_1
 clear hcc323 hce323
 have HR323_1 := Aside0.mk hi323_1
 have HC323_1 := Aside0.mk hl323_1
 clear hi323_1 hl323_1
 replace p323 := eq_true p323
 replace q323 := eq_true q323
 have p324 : 0 ≤ (x15_4 : Int) := of_decide_eq_true s9q3
 have q324 : x15_4 < (x8_2.length : Int) := of_decide_eq_true s9q3
 obtain ⟨ad324, A324_1, c324_1, e324, hx324_0, hx324_1, hl324_1, hi324_1⟩ := at_T89 (Kd.N_reads' HO_8.out).2.2 x15_4 p324 q324
 obtain rfl : ad323 = ad324 := (by injection e324)
 obtain ⟨ce324, hce324, hMe324, hcc324⟩ := Kd.N_get HO_8.out z89 x15_4 p324 s9q14
 obtain ⟨ua324_1, uc324_1, rfl, ul324_1, ge324_1⟩ := k89_openF hMe324
 have hv324_1 := hcc324 1 _ rfl
 rw [add_field _ _ 1 s9q0] at hv324_1
 replace hv324_1 := Option.some.inj (hv324_1.symm.trans hx324_1)
 injection hv324_1 with hva_ hvn_ hvc_
 rw [hva_] at ge324_1
 rw [hvc_] at ul324_1
 have HL324_1 := Aside0.mk (show Kd.V (Kd.int .i64) 3 _ w.heap.size _ _ ((rd_T89 x8_2 x15_4).f1) from Kd.V_mk ul324_1 ge324_1)
 clear hva_ hvn_ hvc_ ge324_1 ul324_1
 clear hcc324 hce324
 have HR324_1 := Aside0.mk hi324_1
 have HC324_1 := Aside0.mk hl324_1
 clear hi324_1 hl324_1
 replace p324 := eq_true p324
 replace q324 := eq_true q324
 refine start_ (n := 15) (S := fun w' => w'.cell? (ad323.add ((x42_3).toNat * 2)) = some (.int .i64 ((rd_T89 x8_2 x42_3).f0)) ∧ w'.cell? ⟨(ad323.add ((x42_3).toNat * 2)).block, (ad323.add ((x42_3).toNat * 2)).off + 1, none⟩ = some (.slice A323_1 ((rd_T89 x8_2 x42_3).f1).length c323_1) ∧ w'.cell? (ad323.add ((x15_4).toNat * 2)) = some (.int .i64 ((rd_T89 x8_2 x15_4).f0)) ∧ w'.cell? ⟨(ad323.add ((x15_4).toNat * 2)).block, (ad323.add ((x15_4).toNat * 2)).off + 1, none⟩ = some (.slice A324_1 ((rd_T89 x8_2 x15_4).f1).length c324_1)) (ds := []) #[false, false, false, false, false, false, false, false, false, false, false, false, false, false, false] s9q1 rfl rfl ⟨hx323_0, hx323_1, hx324_0, hx324_1⟩ (fun hHeld => ?_); refine with_tabW cost_Greedy.tab19 cost_Greedy.bits19 (fun HT_ HW_ => ?_)
 generalize wr.drew = w28 at HO_8 HB HL323_1 HL324_1 HR323_1 HR324_1 hx323_0 hx323_1 hx324_0 hx324_1 hHeld ⊢
 refine pure_ (i := 0) (N := some 53) (v := ?_) (a' := ?_) #[true, false, false, false, false, false, false, false, false, false, false, false, false, false, false] rfl rfl (any_of HT_.out s9q1) (fun _ _ _ h => h) (Or.inl ⟨by rfl, ?_⟩) ?_ ?_
 rotate_left
 · intro w'
   go_simp
   with_reducible rfl
 rotate_left
 · simp only [Act.put, sqa, sqb, sqc, i64_w, i32_w]
   rfl
 refine pure_ (i := 1) (N := some 54) (v := ?_) (a' := ?_) #[true, true, false, false, false, false, false, false, false, false, false, false, false, false, false] rfl rfl (any_of HT_.out s9q1) (fun _ _ _ h => h) (Or.inl ⟨by rfl, ?_⟩) ?_ ?_
 rotate_left
 · intro w'
   go_simp
   with_reducible rfl
 rotate_left
 · simp only [Act.put, sqa, sqb, sqc, i64_w, i32_w]
   rfl
 refine pure_ (i := 2) (N := some 55) (v := ?_) (a' := ?_) #[true, true, true, false, false, false, false, false, false, false, false, false, false, false, false] rfl rfl (any_of HT_.out s9q1) (fun _ _ _ h => h) (Or.inl ⟨by rfl, ?_⟩) ?_ ?_
 rotate_left
 · intro w'
   go_simp
   with_reducible rfl
 rotate_left
 · simp only [Act.put, sqa, sqb, sqc, i64_w, i32_w]
   rfl
 refine pure_ (i := 3) (N := some 56) (v := ?_) (a' := ?_) #[true, true, true, true, false, false, false, false, false, false, false, false, false, false, false] rfl rfl (any_of HT_.out s9q1) (fun _ _ _ h => h) (Or.inl ⟨by rfl, ?_⟩) ?_ ?_
 rotate_left
 · intro w'
   go_simp
   with_reducible rfl
 rotate_left
 · simp only [Act.put, sqa, sqb, sqc, i64_w, i32_w]
   rfl
 refine pure_ (i := 4) (N := some 57) (v := ?_) (a' := ?_) #[true, true, true, true, true, false, false, false, false, false, false, false, false, false, false] rfl rfl (any_of HT_.out s9q1) (fun _ _ _ h => h) (Or.inl ⟨by rfl, ?_⟩) ?_ ?_
 rotate_left
 · intro w'
   go_simp
   with_reducible rfl
 rotate_left
 · simp only [Act.put, sqa, sqb, sqc, i64_w, i32_w]
   rfl
 refine pure_ (i := 5) (N := some 58) (v := ?_) (a' := ?_) #[true, true, true, true, true, true, false, false, false, false, false, false, false, false, false] rfl rfl (any_of HT_.out s9q1) (fun _ _ _ h => h) (Or.inl ⟨by rfl, ?_⟩) ?_ ?_
 rotate_left
 · intro w'
   go_simp
   with_reducible rfl
 rotate_left
 · simp only [Act.put, sqa, sqb, sqc, i64_w, i32_w]
   rfl
 refine pure_ (i := 7) (N := some 60) (v := ?_) (a' := ?_) #[true, true, true, true, true, true, false, true, false, false, false, false, false, false, false] rfl rfl (any_of HT_.out s9q1) (fun _ _ _ h => h) (Or.inl ⟨by rfl, ?_⟩) ?_ ?_
 rotate_left
 · intro w'
   go_simp
   with_reducible rfl
 rotate_left
 · simp only [Act.put, sqa, sqb, sqc, i64_w, i32_w]
   rfl
 refine pure_ (i := 8) (N := some 61) (v := ?_) (a' := ?_) #[true, true, true, true, true, true, false, true, true, false, false, false, false, false, false] rfl rfl (any_of HT_.out s9q1) (fun _ _ _ h => h) (Or.inl ⟨by rfl, ?_⟩) ?_ ?_
 rotate_left
 · intro w'
   go_simp
   with_reducible rfl
 rotate_left
 · simp only [Act.put, sqa, sqb, sqc, i64_w, i32_w]
   rfl
 refine pure_ (i := 9) (N := some 62) (v := ?_) (a' := ?_) #[true, true, true, true, true, true, false, true, true, true, false, false, false, false, false] rfl rfl (any_of HT_.out s9q1) (fun _ _ _ h => h) (Or.inl ⟨by rfl, ?_⟩) ?_ ?_
 rotate_left
 · intro w'
   go_simp
   with_reducible rfl
 rotate_left
 · simp only [Act.put, sqa, sqb, sqc, i64_w, i32_w]
   rfl
 refine pure_ (i := 10) (N := some 63) (v := ?_) (a' := ?_) #[true, true, true, true, true, true, false, true, true, true, true, false, false, false, false] rfl rfl (any_of HT_.out s9q1) (fun _ _ _ h => h) (Or.inl ⟨by rfl, ?_⟩) ?_ ?_
 rotate_left
 · intro w'
   go_simp
   with_reducible rfl
 rotate_left
 · simp only [Act.put, sqa, sqb, sqc, i64_w, i32_w]
   rfl
 refine take_ (i := 6) (N := some 59) (v := ?_) (a' := ?_) #[true, true, true, true, true, true, true, true, true, true, true, false, false, false, false] rfl rfl (take_ofW HT_.out HW_.out s9q1) (fun _ _ _ h => h) (Or.inl ⟨by rfl, ?_⟩) hHeld ?_ ?_
 rotate_left
 · rintro w' ⟨s0, s1, s2, s3⟩
   go_simp
   with_reducible rfl
 rotate_left
 · simp only [Act.put, sqa, sqb, sqc, i64_w, i32_w]
   rfl
 refine take_ (i := 11) (N := some 64) (v := ?_) (a' := ?_) #[true, true, true, true, true, true, true, true, true, true, true, true, false, false, false] rfl rfl (take_ofW HT_.out HW_.out s9q1) (fun _ _ _ h => h) (Or.inl ⟨by rfl, ?_⟩) hHeld ?_ ?_
 rotate_left
 · rintro w' ⟨s0, s1, s2, s3⟩
   go_simp
   with_reducible rfl
 rotate_left
 · simp only [Act.put, sqa, sqb, sqc, i64_w, i32_w]
   rfl
 refine pure_ (i := 12) (N := some 65) (v := ?_) (a' := ?_) #[true, true, true, true, true, true, true, true, true, true, true, true, true, false, false] rfl rfl (any_of HT_.out s9q1) (fun _ _ _ h => h) (Or.inl ⟨by rfl, ?_⟩) ?_ ?_
 rotate_left
 · intro w'
   go_simp
   with_reducible rfl
 rotate_left
 · simp only [Act.put, sqa, sqb, sqc, i64_w, i32_w]
   rfl
 refine one_ (i := 13) (N := some 66) #[true, true, true, true, true, true, true, true, true, true, true, true, true, true, false] rfl rfl (one_of HT_.out s9q1) (by decide) (fun K hK => ?_)
 refine goes_ Tryd.func42 s9q1 rfl #[.slice A0 l0.length c0, .slice A1 l1.length c1, .int .i64 (Go.bits .or .i64 ((rd_T89 x8_2 x42_3).f0) ((rd_T89 x8_2 x15_4).f0))] (by rfl) rfl rfl s9q8 ?_
 with_reducible refine (cost_size.calls k4 _ _ l0 _ _ l1 (Go.bits .or .i64 ((rd_T89 x8_2 x42_3).f0) ((rd_T89 x8_2 x15_4).f0)) t325 _ ?side1 ?side2 ?side3 ?side4 A21.out).mono ?_
 (case side1 => repeat (first | exact (Kd.C_below HR0.out HB.out) | (with_reducible refine Kd.C_alloc ?_ _) | (with_reducible refine Kd.C_drewN ?_ _) | (with_reducible refine Kd.C_drew ?_)))
 (case side2 => exact HC0.out)
 (case side3 => repeat (first | exact (Kd.C_below HR1.out HB.out) | (with_reducible refine Kd.C_alloc ?_ _) | (with_reducible refine Kd.C_drewN ?_ _) | (with_reducible refine Kd.C_drew ?_)))
 (case side4 => exact HC1.out)
 rintro e w29 ⟨rfl, hb⟩
 have HS0_ := pw_cell_below hb hHeld.1
 have HS1_ := pw_cell_below hb hHeld.2.1
 have HS2_ := pw_cell_below hb hHeld.2.2.1
 have HS3_ := pw_cell_below hb hHeld.2.2.2
 refine ⟨_, rfl, ?_⟩
 have n0_ := Aside0.mk (Kd.N_below s9q4 hb)
 have n1_ := Aside0.mk (Kd.V_below s9q5 hb)
 have n2_ := Aside0.mk (Kd.V_below s9q6 hb)
 have n3_ := Aside0.mk (Kd.C_below s9q11 hb)
 have n4_ := Aside0.mk (Kd.C_below s9q12 hb)
 have n5_ := Aside0.mk (below_step s9q7 hb)
 clear HO_8
 clear HL323_1
 clear HL324_1
 clear HR323_1
 clear HR324_1
 clear HB
 have HO_8 := n0_
 have HL323_1 := n1_
 have HL324_1 := n2_
 have HR323_1 := n3_
 have HR324_1 := n4_
 have HB := n5_
 clear n0_ n1_ n2_ n3_ n4_ n5_
 (try clear hb)
 (try clear hb2)
 (try clear hk)
 (try clear hi)
 refine hK.out _ _ ⟨HS0_, HS1_, HS2_, HS3_⟩ (fun hHeld => ?_)
 clear hK K
 refine norm_ (a' := ?_) ?_ ?_
 rotate_left
 · show Act.put _ (some 66) _ = _
   simp only [Act.put, sqa, sqb, sqc, i64_w, i32_w]
   rfl
 refine pure_ (i := 14) (N := some 16) (v := ?_) (a' := ?_) #[true, true, true, true, true, true, true, true, true, true, true, true, true, true, true] rfl rfl (any_of HT_.out s9q1) (fun _ _ _ h => h) (Or.inl ⟨by rfl, ?_⟩) ?_ ?_
 rotate_left
 · intro w'
   go_simp
   with_reducible rfl
 rotate_left
 · simp only [Act.put, sqa, sqb, sqc, i64_w, i32_w]
   rfl
 refine done_ (done_of HT_.out s9q1) ?_
 try go_wp2
 first | go_roundg k4 | (refine Handed.intro k4 ?measure ?_; rotate_left; go_step; (repeat apply Exists.intro); simp only [add_plain]; refine ⟨?rel, rfl⟩)
 case measure => have := HK1.out; have := HK2.out; have := HK3.out; have := HK4.out; omega
 case rel => exact ⟨(x11_4), (x12_4), (x13_4), (wrap64 (x15_4 + 1)), s9q2, s9q2, s9q2, s9q2, H', ⟨by have := HK1.out; have := HK2.out; have := HK3.out; have := HK4.out; omega⟩, ⟨by (with_reducible repeat (first | apply Kd.N_alloc | apply Kd.N_drewN | apply Kd.N_drew)); exact HO_8.out⟩, ⟨by repeat (first | (with_reducible first | exact HB.out | apply below_alloc | apply pw_below_drewN | apply below_drew1) | exact HB.out)⟩⟩
end Go.Proofs.YtgcijejmmhjibaaDoor.G
