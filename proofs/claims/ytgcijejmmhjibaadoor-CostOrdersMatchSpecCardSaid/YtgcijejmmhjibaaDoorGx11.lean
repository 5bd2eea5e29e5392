-- Printed by a program of this session (a patched print).
import Derived.Test.YtgcijejmmhjibaaDoorGx0
import Derived.Test.YtgcijejmmhjibaaDoorGx2
import Derived.Test.YtgcijejmmhjibaaDoorGx4
import Derived.Test.YtgcijejmmhjibaaDoorGx5
import Derived.Test.YtgcijejmmhjibaaDoorGx10
namespace Go.Proofs.YtgcijejmmhjibaaDoor.G
open Go.RowKit Go.Proofs.YtgcijejmmhjibaaDoorW.PrintWords Go.Proofs.YtgcijejmmhjibaaDoorW.PrintLast Go.Proofs.YtgcijejmmhjibaaDoorW.PrintMore
attribute [local go_sem] max2_int min2_int max_two min_two max_three min_three max_four min_four   -- for this text's walks alone
set_option linter.unusedVariables false
set_option linter.unusedSimpArgs false

theorem s11qm0 {p : Prop} (h : p := by repeat' first | (with_reducible exact ih0 _ _ _ _ _) | (with_reducible exact ih1 _ _ _ _) | (with_reducible exact ih2 _ _ _ _ _ _ _ _ _) | (with_reducible exact ih3 _ _ _ _ _ _ _ _ _ _ _) | (with_reducible exact peristyleref10_checkGraph.mono _ _ _) | (with_reducible exact peristyleref10_size.mono _ _ _ _) | (with_reducible exact slices_Concat_int_int.mono _ _) | (with_reducible exact LeO.refl _) | (with_reducible exact LeO.none _) | (with_reducible refine LeO.ite ?_ ?_) | (with_reducible refine LeO.bind ?_ (fun _ => ?_)) | exact ih0 _ _ _ _ _ | exact ih1 _ _ _ _ | exact ih2 _ _ _ _ _ _ _ _ _ | exact ih3 _ _ _ _ _ _ _ _ _ _ _ | exact peristyleref10_checkGraph.mono _ _ _ | exact peristyleref10_size.mono _ _ _ _ | exact slices_Concat_int_int.mono _ _ | exact LeO.none _ | refine LeO.ite ?_ ?_ | refine LeO.bind ?_ (fun _ => ?_)) : p := h
theorem s11q0 {p : Prop} (h : p := by decide) : p := h
theorem s11q1 {p : Prop} (h : p := by kernel_rfl) : p := h
theorem s11q2 {p : Prop} (h : p := by simp only [putAll, Act.put, sqa, sqb, sqc]) : p := h
theorem s11q3 {p : Prop} (h : p := by first | rfl | (simp; done) | (simp [*]; done)) : p := h
theorem s11q4 {p : Prop} (h : p := by first | (with_reducible assumption) | assumption) : p := h
theorem s11q5 {p : Prop} (h : p := by (with_reducible repeat (first | apply Kd.N_alloc | apply Kd.N_drewN | apply Kd.N_drew)); exact HO_8.out) : p := h
theorem s11q6 {p : Prop} (h : p := by (with_reducible repeat (first | apply Kd.N_alloc | apply Kd.N_drewN | apply Kd.N_drew)); exact HO343.out) : p := h
theorem s11q7 {p : Prop} (h : p := by (with_reducible repeat (first | apply Kd.R_alloc | apply Kd.R_drewN | apply Kd.R_drew)); exact HO346.out) : p := h
theorem s11q8 {p : Prop} (h : p := by (with_reducible repeat (first | apply Kd.R_alloc | apply Kd.R_drewN | apply Kd.R_drew)); exact HO349.out) : p := h
theorem s11q9 {p : Prop} (h : p := by (with_reducible repeat (first | apply Kd.V_alloc | apply Kd.V_drewN | apply Kd.V_drew)); exact HL337_1.out) : p := h
theorem s11q10 {p : Prop} (h : p := by (with_reducible repeat (first | apply Kd.V_alloc | apply Kd.V_drewN | apply Kd.V_drew)); exact HL338_1.out) : p := h
theorem s11q11 {p : Prop} (h : p := by (with_reducible repeat (first | apply Kd.V_alloc | apply Kd.V_drewN | apply Kd.V_drew)); exact HL339_1.out) : p := h
theorem s11q12 {p : Prop} (h : p := by (with_reducible repeat (first | apply Kd.V_alloc | apply Kd.V_drewN | apply Kd.V_drew)); exact HL340_1.out) : p := h
theorem s11q13 {p : Prop} (h : p := by (with_reducible repeat (first | apply Kd.V_alloc | apply Kd.V_drewN | apply Kd.V_drew)); exact HL357_1.out) : p := h
theorem s11q14 {p : Prop} (h : p := by (with_reducible repeat (first | apply Kd.V_alloc | apply Kd.V_drewN | apply Kd.V_drew)); exact HL358_1.out) : p := h
theorem s11q15 {p : Prop} (h : p := by repeat (first | (with_reducible first | exact HB.out | apply below_alloc | apply pw_below_drewN | apply below_drew1) | exact HB.out)) : p := h
theorem s11q16 {p : Prop} (h : p := by (try simp only [List.map_toArray, List.map_cons, List.map_nil]); first | done | rfl | (simp only [List.length_drop, List.length_take]; rfl)) : p := h
theorem s11q17 {p : Prop} (h : p := by (with_reducible repeat (first | apply Kd.R_alloc | apply Kd.R_drewN | apply Kd.R_drew)); exact Kd.R_mono HO346.out (fun _ hk => ⟨hk.1.1, hk.2⟩)) : p := h
theorem s11q18 {p : Prop} (h : p := by (with_reducible repeat (first | apply Kd.R_alloc | apply Kd.R_drewN | apply Kd.R_drew)); exact Kd.R_mono HO349.out (fun _ hk => ⟨hk.1.1, hk.2⟩)) : p := h
theorem s11q19 {p : Prop} (h : p := by repeat (first | (with_reducible exact HR337_1.out) | (with_reducible refine Kd.C_alloc ?_ _) | (with_reducible refine Kd.C_drewN ?_ _) | (with_reducible refine Kd.C_drew ?_) | exact HR337_1.out)) : p := h
theorem s11q20 {p : Prop} (h : p := by repeat (first | (with_reducible exact HR338_1.out) | (with_reducible refine Kd.C_alloc ?_ _) | (with_reducible refine Kd.C_drewN ?_ _) | (with_reducible refine Kd.C_drew ?_) | exact HR338_1.out)) : p := h
theorem s11q21 {p : Prop} (h : p := by repeat (first | (with_reducible exact HR339_1.out) | (with_reducible refine Kd.C_alloc ?_ _) | (with_reducible refine Kd.C_drewN ?_ _) | (with_reducible refine Kd.C_drew ?_) | exact HR339_1.out)) : p := h
theorem s11q22 {p : Prop} (h : p := by repeat (first | (with_reducible exact HR340_1.out) | (with_reducible refine Kd.C_alloc ?_ _) | (with_reducible refine Kd.C_drewN ?_ _) | (with_reducible refine Kd.C_drew ?_) | exact HR340_1.out)) : p := h
theorem s11q23 {p : Prop} (h : p := by repeat (first | (with_reducible exact HR357_1.out) | (with_reducible refine Kd.C_alloc ?_ _) | (with_reducible refine Kd.C_drewN ?_ _) | (with_reducible refine Kd.C_drew ?_) | exact HR357_1.out)) : p := h
theorem s11q24 {p : Prop} (h : p := by repeat (first | (with_reducible exact HR358_1.out) | (with_reducible refine Kd.C_alloc ?_ _) | (with_reducible refine Kd.C_drewN ?_ _) | (with_reducible refine Kd.C_drew ?_) | exact HR358_1.out)) : p := h
theorem s11q25 {p : Prop} (h : p := by first | exact q357 | exact of_decide_eq_true s11q4 | (have e_ := (Kd.N_reads' HO_8.out).1; omega)) : p := h
theorem s11q26 {p : Prop} (h : p := by first | exact q358 | exact of_decide_eq_true s11q4 | (have e_ := (Kd.N_reads' HO_8.out).1; omega)) : p := h
theorem s11q27 {p : Prop} (h : p := by have h_ : (x11_3 : Int) < ((x8_2.length : Int) : Int) := of_decide_eq_true s11q4; first | exact h_ | (have e_ := (Kd.N_reads' HO_8.out).1; omega) | simpa using h_) : p := h
theorem s11q28 {p : Prop} (h : p := by first | (rw [add_block]; exact (fun e_ => ((Kd.R_apart' HO346.out (Kd.N_typed HO_8.out) s11q0).1 _ e_.symm).2 rfl)) | (show some (Addr.add _ _).block ≠ _; rw [add_block]; exact (fun e_ => ((Kd.R_apart' HO346.out (Kd.N_typed HO_8.out) s11q0).1 _ e_.symm).2 rfl)) | exact (fun e_ => ((Kd.R_apart' HO346.out (Kd.N_typed HO_8.out) s11q0).1 _ e_.symm).2 rfl)) : p := h
/-! ### peristyleref10_Greedy: function 23 -/
mutual
def peristyleref10_Greedy.l0 : Nat → List Int → List (S75) → List (S93) → Int → Int → Option (List Int × Int × Int)
  | 0, _, _, _, _, _ => none
  | k + 1, x0, x1, x8, x24, x25 => if x25 < x24 then (if 0 ≤ x25 then ((some (([(⟨shl .i64 1 x25, (([x25] : List Int))⟩ : S93)] : List (S93)) : List (S93))).bind fun y330 => (if x8.length + y330.length < 4398046511104 then (peristyleref10_Greedy.l0 k x0 x1 (x8 ++ y330) x24 (wrap64 (x25 + 1))) else (none))) else (none)) else (peristyleref10_Greedy.l1 k x0 x1 x8 0)
def peristyleref10_Greedy.l1 : Nat → List Int → List (S75) → List (S93) → Int → Option (List Int × Int × Int)
  | 0, _, _, _, _ => none
  | k + 1, x0, x1, x8, x10 => if (x8.length : Int) > 1 then (peristyleref10_Greedy.l2 k x0 x1 x8 x10 0 1 (-1) (x8.length : Int) 0) else (if 0 < (x8.length : Int) then (some ((rd_T93 x8 0).f1, x10, 0)) else (none))
def peristyleref10_Greedy.l2 : Nat → List Int → List (S75) → List (S93) → Int → Int → Int → Int → Int → Int → Option (List Int × Int × Int)
  | 0, _, _, _, _, _, _, _, _, _ => none
  | k + 1, x0, x1, x8, x10, x11, x12, x13, x41, x42 => if x42 < x41 then (peristyleref10_Greedy.l3 k x0 x1 x8 x10 x11 x12 x13 x42 (wrap64 (x42 + 1)) x41 x42) else (if 0 ≤ x11 then (if x11 < (x8.length : Int) then (if 0 ≤ x12 then (if x12 < (x8.length : Int) then ((slices_Concat_int_int.f k (([(rd_T93 x8 x11).f1, (rd_T93 x8 x12).f1] : List (List Int)))).bind fun t344 => ((some (([(-1)] : List Int) : List Int)).bind fun y347 => (if t344.length + y347.length < 17592186044416 then (peristyleref10_Greedy.l1 k x0 x1 ((x8.set (x11 : Int).toNat (⟨Go.bits .or .i64 ((rd_T93 x8 x11).f0) ((rd_T93 x8 x12).f0), (t344 ++ y347)⟩ : S93)).eraseIdx (x12 : Int).toNat) (mn 1000000000000000 (wrap64 (x10 + x13)))) else (none)))) else (none)) else (none)) else (none)) else (none))
def peristyleref10_Greedy.l3 : Nat → List Int → List (S75) → List (S93) → Int → Int → Int → Int → Int → Int → Int → Int → Option (List Int × Int × Int)
  | 0, _, _, _, _, _, _, _, _, _, _, _ => none
  | k + 1, x0, x1, x8, x10, x11, x12, x13, x14, x15, x41, x42 => if x15 < (x8.length : Int) then (if 0 ≤ x14 then (if x14 < (x8.length : Int) then (if 0 ≤ x15 then ((peristyleref10_size.f k x0 x1 (Go.bits .or .i64 ((rd_T93 x8 x14).f0) ((rd_T93 x8 x15).f0))).bind fun t359 => (if x13 < 0 then (peristyleref10_Greedy.l3 k x0 x1 x8 x10 x14 x15 t359 x14 (wrap64 (x15 + 1)) x41 x42) else (if t359 < x13 then (peristyleref10_Greedy.l3 k x0 x1 x8 x10 x14 x15 t359 x14 (wrap64 (x15 + 1)) x41 x42) else (peristyleref10_Greedy.l3 k x0 x1 x8 x10 x11 x12 x13 x14 (wrap64 (x15 + 1)) x41 x42)))) else (none)) else (none)) else (none)) else (peristyleref10_Greedy.l2 k x0 x1 x8 x10 x11 x12 x13 x41 (wrap64 (x42 + 1)))
end
def peristyleref10_Greedy.f (k : Nat) (l0 : List Int) (l1 : List (S75)) : Option (List Int × Int × Int) := (peristyleref10_checkGraph.f k l0 l1).bind fun t326 => (if t326 = 0 then (peristyleref10_Greedy.l0 k l0 l1 ([] : List (S93)) (l0.length : Int) 0) else (some (([] : List Int), 0, t326)))
theorem peristyleref10_Greedy.mono_l : ∀ k, (∀ y0 y1 y2 y3 y4, LeO (peristyleref10_Greedy.l0 k y0 y1 y2 y3 y4) (peristyleref10_Greedy.l0 (k + 1) y0 y1 y2 y3 y4)) ∧ (∀ y0 y1 y2 y3, LeO (peristyleref10_Greedy.l1 k y0 y1 y2 y3) (peristyleref10_Greedy.l1 (k + 1) y0 y1 y2 y3)) ∧ (∀ y0 y1 y2 y3 y4 y5 y6 y7 y8, LeO (peristyleref10_Greedy.l2 k y0 y1 y2 y3 y4 y5 y6 y7 y8) (peristyleref10_Greedy.l2 (k + 1) y0 y1 y2 y3 y4 y5 y6 y7 y8)) ∧ (∀ y0 y1 y2 y3 y4 y5 y6 y7 y8 y9 y10, LeO (peristyleref10_Greedy.l3 k y0 y1 y2 y3 y4 y5 y6 y7 y8 y9 y10) (peristyleref10_Greedy.l3 (k + 1) y0 y1 y2 y3 y4 y5 y6 y7 y8 y9 y10))
  | 0 => ⟨fun _ _ _ _ _ r h => by simp [peristyleref10_Greedy.l0] at h, fun _ _ _ _ r h => by simp [peristyleref10_Greedy.l1] at h, fun _ _ _ _ _ _ _ _ _ r h => by simp [peristyleref10_Greedy.l2] at h, fun _ _ _ _ _ _ _ _ _ _ _ r h => by simp [peristyleref10_Greedy.l3] at h⟩
  | k + 1 => by
    obtain ⟨ih0, ih1, ih2, ih3⟩ := peristyleref10_Greedy.mono_l k
    refine ⟨?_, ?_, ?_, ?_⟩
    · intro y0 y1 y2 y3 y4
      unfold peristyleref10_Greedy.l0
      exact s11qm0
    · intro y0 y1 y2 y3
      unfold peristyleref10_Greedy.l1
      exact s11qm0
    · intro y0 y1 y2 y3 y4 y5 y6 y7 y8
      unfold peristyleref10_Greedy.l2
      exact s11qm0
    · intro y0 y1 y2 y3 y4 y5 y6 y7 y8 y9 y10
      unfold peristyleref10_Greedy.l3
      exact s11qm0
theorem peristyleref10_Greedy.mono : ∀ a0 a1 k, LeO (peristyleref10_Greedy.f k a0 a1) (peristyleref10_Greedy.f (k + 1) a0 a1) := by
 intro a0 a1 k
 obtain ⟨ih0, ih1, ih2, ih3⟩ := peristyleref10_Greedy.mono_l k
 unfold peristyleref10_Greedy.f
 repeat' first
  | (with_reducible exact ih0 _ _ _ _ _)
  | (with_reducible exact ih1 _ _ _ _)
  | (with_reducible exact ih2 _ _ _ _ _ _ _ _ _)
  | (with_reducible exact ih3 _ _ _ _ _ _ _ _ _ _ _)
  | (with_reducible exact peristyleref10_checkGraph.mono _ _ _)
  | (with_reducible exact peristyleref10_size.mono _ _ _ _)
  | (with_reducible exact slices_Concat_int_int.mono _ _)
  | (with_reducible exact LeO.refl _)
  | (with_reducible exact LeO.none _)
  | (with_reducible refine LeO.ite ?_ ?_)
  | (with_reducible refine LeO.bind ?_ (fun _ => ?_))
  | exact ih0 _ _ _ _ _
  | exact ih1 _ _ _ _
  | exact ih2 _ _ _ _ _ _ _ _ _
  | exact ih3 _ _ _ _ _ _ _ _ _ _ _
  | exact peristyleref10_checkGraph.mono _ _ _
  | exact peristyleref10_size.mono _ _ _ _
  | exact slices_Concat_int_int.mono _ _
  | exact LeO.none _
  | refine LeO.ite ?_ ?_
  | refine LeO.bind ?_ (fun _ => ?_)
def peristyleref10_Greedy.T19 : Bool × List (List Nat × List Nat) := (true, [([], []), ([], []), ([], []), ([], []), ([2, 3], [2, 3]), ([4], [4]), ([5], [5]), ([], []), ([], []), ([7, 8], [7, 8]), ([9], [9]), ([10], [10]), ([6, 11], [6, 11]), ([0, 1, 12], [0, 1, 12]), ([13, 13, 0, 1, 2, 3, 4, 5, 6, 7, 8, 9, 10, 11, 12, 13], [13])])
def peristyleref10_Greedy.B19 : List Nat := [0, 0, 0, 0, 12, 28, 60, 0, 0, 384, 896, 1920, 4092, 8191, 16383]
theorem peristyleref10_Greedy.tab19 : rtab .any (opsOf Tryd.f23 19) = peristyleref10_Greedy.T19 := by kernel_rfl
theorem peristyleref10_Greedy.bits19 : waitsOk peristyleref10_Greedy.T19.2 peristyleref10_Greedy.B19 = true := by kernel_rfl
def peristyleref10_Greedy.T23 : Bool × List (List Nat × List Nat) := (true, [([], []), ([], []), ([], []), ([], []), ([2, 3], [2, 3]), ([4], [4]), ([5], [5]), ([], []), ([], []), ([7, 8], [7, 8]), ([9], [9]), ([10], [10]), ([6, 11], [6, 11]), ([], []), ([], []), ([13, 14], [13, 14]), ([15], [15]), ([16], [16]), ([], []), ([], []), ([18, 19], [18, 19]), ([20], [20]), ([21], [21]), ([17, 22], [17, 22]), ([23], [23]), ([], []), ([24, 25, 24], [24, 25]), ([12, 26], [12, 26]), ([0, 1, 0, 1, 2, 3, 4, 5, 6, 7, 8, 9, 10, 11, 12, 13, 14, 15, 16, 17, 18, 19, 20, 21, 22, 23, 24, 25, 26, 27], [0, 1]), ([28, 27, 26, 0, 1, 2, 3, 4, 5, 6, 7, 8, 9, 10, 11, 12, 13, 14, 15, 16, 17, 18, 19, 20, 21, 22, 23, 24, 25, 26, 27], [27, 28])])
def peristyleref10_Greedy.B23 : List Nat := [0, 0, 0, 0, 12, 28, 60, 0, 0, 384, 896, 1920, 4092, 0, 0, 24576, 57344, 122880, 0, 0, 786432, 1835008, 3932160, 8380416, 16769024, 0, 67100672, 134217724, 268435455, 536870911]
theorem peristyleref10_Greedy.tab23 : rtab .any (opsOf Tryd.f23 23) = peristyleref10_Greedy.T23 := by kernel_rfl
theorem peristyleref10_Greedy.bits23 : waitsOk peristyleref10_Greedy.T23.2 peristyleref10_Greedy.B23 = true := by kernel_rfl
set_option maxHeartbeats 8000000 in
set_option maxRecDepth 100000 in
theorem peristyleref10_Greedy.calls (k : Nat) (A0 : Option Addr) (c0 : Nat) (l0 : List Int) (A1 : Option Addr) (c1 : Nat) (l1 : List (S75)) (r1 : List Int) (r2 : Int) (r3 : Int) (w : World) (hr0 : Kd.C (Kd.int .i64) w A0 l0.length l0) (hc0 : l0.length ≤ c0) (hr1 : Kd.C k75 w A1 l1.length l1) (hc1 : l1.length ≤ c1) (h : peristyleref10_Greedy.f k l0 l1 = some (r1, r2, r3)) :
    Calls Tryd.prog 23 #[.slice A0 l0.length c0, .slice A1 l1.length c1] w fun e w' => ∃ v0_ : Value, e = .returned (.tuple #[v0_, .int .i64 r2, .int .i64 r3]) ∧ Kd.V (Kd.int .i64) 3 w' w.heap.size (fun k_ => (w.heap.size ≤ k_)) v0_ r1 ∧ Below w.heap.size w w' := by
 have hu93 := Tryd.underlying93
 have HR0 := Aside0.mk hr0
 have HC0 := Aside0.mk hc0
 clear hr0 hc0
 have HR1 := Aside0.mk hr1
 have HC1 := Aside0.mk hc1
 clear hr1 hc1
 have HB := Aside0.mk (Below.refl w.heap.size w)
 have H : ((peristyleref10_checkGraph.f k l0 l1).bind fun t326 => (if t326 = 0 then (peristyleref10_Greedy.l0 k l0 l1 ([] : List (S93)) (l0.length : Int) 0) else (some (([] : List Int), 0, t326)))) = some (r1, r2, r3) := h
 clear h
 replace H := Option.bind_eq_some_iff.mp H
 obtain ⟨t326, A30, H⟩ := H
 replace H : (if t326 = 0 then (peristyleref10_Greedy.l0 k l0 l1 ([] : List (S93)) (l0.length : Int) 0) else (some (([] : List Int), 0, t326))) = some (r1, r2, r3) := H
 have A3 := Aside0.mk A30
 clear A30
 by_cases c4 : t326 = 0
 case neg =>
  rw [if_neg c4] at H
  have c4b0 : (t326 == 0) = false := beq_eq_false_iff_ne.mpr c4
  have c4b1 : (t326 != 0) = true := bne_iff_ne.mpr c4
  simp only [Option.some.injEq, Prod.mk.injEq] at H
  obtain ⟨rfl, rfl, rfl⟩ := H
  go_enter Tryd.func23, Tryd.ntmps23
  go_wp2_with (first | ((with_reducible refine gate_callee (f := 43) rfl ?_); refine goesL_ (some 19) rfl rfl Tryd.func43 s11q1 rfl #[.slice A0 l0.length c0, .slice A1 l1.length c1] rfl s11q16 ?_; (with_reducible refine (peristyleref10_checkGraph.calls k _ _ l0 _ _ l1 t326 _ ?side1 ?side2 ?side3 ?side4 A3.out).mono ?_); (case side1 => repeat (first | exact HR0.out | (with_reducible refine Kd.C_alloc ?_ _) | (with_reducible refine Kd.C_drewN ?_ _) | (with_reducible refine Kd.C_drew ?_))); (case side2 => exact HC0.out); (case side3 => repeat (first | exact HR1.out | (with_reducible refine Kd.C_alloc ?_ _) | (with_reducible refine Kd.C_drewN ?_ _) | (with_reducible refine Kd.C_drew ?_))); (case side4 => exact HC1.out); rintro e w57 ⟨rfl, hb⟩; refine ⟨_, rfl, ?_⟩; have n0_ := Aside0.mk (below_step s11q15 hb); clear HB; have HB := n0_; clear n0_; (try clear hb); (try clear hb2); (try clear hk); (try clear hi)))
  go_ret3
  exact ⟨_, by first | rfl | (simp [errW_none, errW_some] <;> rfl) | (simp [*, errW_none, errW_some] <;> rfl), Kd.V_nil _ _ _ _ _, by repeat (first | (with_reducible first | exact HB.out | apply below_alloc | apply pw_below_drewN | apply below_drew1) | exact HB.out)⟩
 rw [if_pos c4] at H
 have c4b0 : (t326 == 0) = true := beq_iff_eq.mpr c4
 have c4b1 : (t326 != 0) = false := bne_eq_false_iff_eq.mpr c4
 clear c4
 have H' := Aside0.mk H
 clear H
 go_enter Tryd.func23, Tryd.ntmps23
 go_wp2_with (first | ((with_reducible refine gate_callee (f := 43) rfl ?_); refine goesL_ (some 19) rfl rfl Tryd.func43 s11q1 rfl #[.slice A0 l0.length c0, .slice A1 l1.length c1] rfl s11q16 ?_; (with_reducible refine (peristyleref10_checkGraph.calls k _ _ l0 _ _ l1 t326 _ ?side1 ?side2 ?side3 ?side4 A3.out).mono ?_); (case side1 => repeat (first | exact HR0.out | (with_reducible refine Kd.C_alloc ?_ _) | (with_reducible refine Kd.C_drewN ?_ _) | (with_reducible refine Kd.C_drew ?_))); (case side2 => exact HC0.out); (case side3 => repeat (first | exact HR1.out | (with_reducible refine Kd.C_alloc ?_ _) | (with_reducible refine Kd.C_drewN ?_ _) | (with_reducible refine Kd.C_drew ?_))); (case side4 => exact HC1.out); rintro e w5 ⟨rfl, hb⟩; refine ⟨_, rfl, ?_⟩; have n0_ := Aside0.mk (below_step s11q15 hb); clear HB; have HB := n0_; clear n0_; (try clear hb); (try clear hb2); (try clear hk); (try clear hi)))
 go_loopg [8, 25] k (fun kq v8 v25 w' => ∃ (x8_1 : List (S93)) (x25_1 : Int), v25 = .int .i64 x25_1 ∧ Aside0 (peristyleref10_Greedy.l0 kq l0 l1 x8_1 (l0.length : Int) x25_1 = some (r1, r2, r3)) ∧ Aside0 (kq ≤ k) ∧ Aside0 (Kd.N k93 93 w' w.heap.size (fun k_ => (w.heap.size ≤ k_)) v8 x8_1) ∧ Aside0 (Below w.heap.size w w'))
 case atStart => exact ⟨(([] : List (S93))), (0), s11q3, H', ⟨Nat.le_refl _⟩, ⟨by first | exact Kd.S_nil _ _ _ _ _ | exact Kd.N_nil _ _ _ _ _ | exact Kd.V_nil _ _ _ _ _ | exact Kd.Q_nil _ _ _ _ _ | exact Kd.R_nil _ _ _ _ _⟩, ⟨by repeat (first | (with_reducible first | exact HB.out | apply below_alloc | apply pw_below_drewN | apply below_drew1) | exact HB.out)⟩⟩
 clear H'
 try clear c1
 try clear c2
 try clear p2
 try clear c4
 try clear c4b0
 try clear c4b1
 obtain ⟨x8_1, x25_1, rfl, HA, HK1, HO_8, HB⟩ := hrel
 cases gk with
 | zero => exact absurd HA.out (by simp [peristyleref10_Greedy.l0])
 | succ k1 => ?_
 have H := HA.out
 clear HA
 simp only [peristyleref10_Greedy.l0] at H
 by_cases c6 : x25_1 < (l0.length : Int)
 · rw [if_pos c6] at H
   have c6b0 : decide (x25_1 < (l0.length : Int)) = true := decide_eq_true c6
   clear c6
   by_cases c7 : 0 ≤ x25_1
   case neg =>
    rw [if_neg c7] at H
    exact absurd H (by simp)
   rw [if_pos c7] at H
   have c7b0 := eq_true c7
   have c7b1 : decide (0 ≤ x25_1) = true := decide_eq_true c7
   clear c7
   obtain ⟨ji8, hji8⟩ : ∃ j_ : Int, (shl .i64 1 x25_1) = j_ := ⟨_, rfl⟩
   replace H : ((some (([(⟨ji8, (([x25_1] : List Int))⟩ : S93)] : List (S93)) : List (S93))).bind fun y330 => (if x8_1.length + y330.length < 4398046511104 then (peristyleref10_Greedy.l0 k1 l0 l1 (x8_1 ++ y330) (l0.length : Int) (wrap64 (x25_1 + 1))) else (none))) = some (r1, r2, r3) := by first | (rw [hji8] at H; exact H) | (simp only [hji8] at H ⊢; exact H)
   have hji8_ : (IntKind.i64.wrap (1 * 2 ^ min x25_1.toNat 64)) = ji8 := hji8
   have hji8z : x25_1 ≤ 64 → (IntKind.i64.wrap (1 * 2 ^ x25_1.toNat)) = ji8 := shl_small hji8
   have hji8u : (IntKind.i64.wrap (2 ^ min x25_1.toNat 64)) = ji8 := by have h_ := hji8_; rw [Int.one_mul] at h_; exact h_
   have hji8v : x25_1 ≤ 64 → (IntKind.i64.wrap (2 ^ x25_1.toNat)) = ji8 := fun hle_ => by have h_ := hji8z hle_; rw [Int.one_mul] at h_; exact h_
   have hji8y : (wrap64 (1 * 2 ^ min x25_1.toNat 64)) = ji8 := (i64_w _).symm.trans hji8_
   have hji8x : x25_1 ≤ 64 → (wrap64 (1 * 2 ^ x25_1.toNat)) = ji8 := fun h_ => (i64_w _).symm.trans (hji8z h_)
   obtain ⟨y327, hy327⟩ : ∃ y_ : List Int, y_ = (([x25_1] : List Int)) := ⟨_, rfl⟩
   replace H : ((some (([(⟨ji8, y327⟩ : S93)] : List (S93)) : List (S93))).bind fun y330 => (if x8_1.length + y330.length < 4398046511104 then (peristyleref10_Greedy.l0 k1 l0 l1 (x8_1 ++ y330) (l0.length : Int) (wrap64 (x25_1 + 1))) else (none))) = some (r1, r2, r3) := sqz hy327 H
   have Ny327 := Aside0.mk hy327
   clear hy327
   obtain ⟨y330, hy330⟩ : ∃ y_ : List (S93), y_ = (([(⟨ji8, y327⟩ : S93)] : List (S93))) := ⟨_, rfl⟩
   replace H : (if x8_1.length + y330.length < 4398046511104 then (peristyleref10_Greedy.l0 k1 l0 l1 (x8_1 ++ y330) (l0.length : Int) (wrap64 (x25_1 + 1))) else (none)) = some (r1, r2, r3) := sqz hy330 H
   have Ny330 := Aside0.mk hy330
   clear hy330
   by_cases c9 : x8_1.length + y330.length < 4398046511104
   case neg =>
    rw [if_neg c9] at H
    exact absurd H (by simp)
   rw [if_pos c9] at H
   have LMc9 := Aside0.mk c9
   clear c9
   obtain ⟨y333, hy333⟩ : ∃ y_ : List (S93), y_ = (x8_1 ++ y330) := ⟨_, rfl⟩
   replace H : (peristyleref10_Greedy.l0 k1 l0 l1 y333 (l0.length : Int) (wrap64 (x25_1 + 1))) = some (r1, r2, r3) := sqz hy333 H
   have Ny333 := Aside0.mk hy333
   clear hy333
   have H' := Aside0.mk H
   clear H
   go_wp2_with (first | ((with_reducible refine gate_dst (N := 32) rfl ?_); refine Kd.R_lit (Kd.int .i64) _ 3 ?hg (N := 32) ?hd (xs := ([x25_1] : List Int)) (inner := [.int .i64 x25_1]) (ok := fun _ => True) (okp := fun _ => True) ?hr ?hp (fun _ hk => hk) trivial (Below.refl _ _) (Nat.le_refl _) (by simp) ?_; (case hd => rfl); (case hg => rfl); (case hr => first | (go_simp; done) | (go_simp; rfl)); (case hp => exact (Reps.one (show Kd.M (Kd.int .i64) _ _ _ x25_1 [.int .i64 x25_1] from rfl) (Reps.none _ _))); intro v328 w10 ho11 hb hg_ hnew_; clear hg_ hnew_; (first | rw [← Ny327.out] at ho11 | (simp only [Int.reduceToNat] at ho11; rw [← Ny327.out] at ho11)); have n0_ := Aside0.mk (Kd.N_elder' s11q5 (Kd.R_base ho11) hb); have n1_ := Aside0.mk (Kd.R_lower (Kd.R_newM (M := fun k_ => (w.heap.size ≤ k_)) ho11 (below_size s11q15) (fun k_ h_ => h_)) (below_size s11q15)); have n2_ := Aside0.mk (below_step s11q15 hb); clear HO_8; clear HB; have HO_8 := n0_; have HO329 := n1_; have HB := n2_; clear n0_ n1_ n2_; clear hb ho11; obtain ⟨Ao12, co12, eo12⟩ := Kd.R_slice HO329.out; subst eo12) | ((with_reducible refine gate_dst (N := 34) rfl ?_); refine Kd.N_lit k93 _ 93 ?hg (N' := 34) ?hd (xs := ([(⟨ji8, y327⟩ : S93)] : List (S93))) (inner := [.int .i64 ji8, .slice Ao12 y327.length co12]) (ok := (fun k_ => (w.heap.size ≤ k_) ∧ some k_ ≠ (u8 : Value).ownBlock)) (okp := (fun k_ => (w.heap.size ≤ k_) ∧ some k_ ≠ (u8 : Value).ownBlock)) ?hr ?hp (fun _ hk => hk) ((show ∀ k_, w10.heap.size ≤ k_ → (fun k_ => (w.heap.size ≤ k_) ∧ some k_ ≠ (u8 : Value).ownBlock) k_ from fun k_ hk => ⟨(Nat.le_trans (below_size s11q15) hk), Kd.fresh' (Kd.N_lt s11q5) k_ hk⟩) _ (Nat.le_refl _)) (Below.refl _ _) (Nat.le_refl _) (by simp) ?_; (case hd => rfl); (case hg => rfl); (case hr => first | (go_simp; done) | (go_simp; rfl)); (case hp => exact (Reps.c2 (show Kd.FK k93 _ _ (⟨ji8, y327⟩ : S93) [.int .i64 ji8, .slice Ao12 y327.length co12] from (k93_mkF _ _ (⟨ji8, y327⟩ : S93) (Kd.R_reads' (Kd.R_mono (ok' := (fun k_ => (w.heap.size ≤ k_) ∧ some k_ ≠ (u8 : Value).ownBlock)) (Kd.R_apart' (HO329.out) (Kd.N_typed HO_8.out) s11q0) (fun k_ hk => ⟨hk.1.1, hk.2⟩))).2.1 (Kd.R_F (Kd.R_mono (ok' := (fun k_ => (w.heap.size ≤ k_) ∧ some k_ ≠ (u8 : Value).ownBlock)) (Kd.R_apart' (HO329.out) (Kd.N_typed HO_8.out) s11q0) (fun k_ hk => ⟨hk.1.1, hk.2⟩))))) (Reps.none _ _))); intro v331 w13 ho14 hb hg_ hnew_; clear hg_ hnew_; (first | rw [← Ny330.out] at ho14 | (simp only [Int.reduceToNat] at ho14; rw [← Ny330.out] at ho14)); have n0_ := Aside0.mk (Kd.N_elder' s11q5 (Kd.N_base ho14) hb); have n1_ := Aside0.mk (Kd.N_lower ho14 (below_size s11q15)); have n2_ := Aside0.mk (below_step s11q15 hb); clear HO_8; clear HB; clear HO329; have HO_8 := n0_; have HO332 := n1_; have HB := n2_; clear n0_ n1_ n2_; clear hb ho14; obtain ⟨Ao16, co16, eo16⟩ := Kd.N_slice HO332.out; subst eo16) | ((with_reducible refine gate_builtin (b := .append) (xs := #[.tmp 28, .tmp 34]) rfl ?_); at_builtin; refine Kd.N_append_rows k93 (w0 := w) w.heap.size rfl (.tmp 28) (.tmp 34) 91 93 (.agg #[(.int .i64 0), (.slice none 0 0)]) 32 rfl Tryd.underlying91 info93 rfl s11q0 (by omega) u8 x8_1 y330 _ _ _ (fun k_ => (w.heap.size ≤ k_)) (fun k_ => ((fun k_ => (w.heap.size ≤ k_))) k_ ∧ some k_ ≠ (u8 : Value).ownBlock) rfl rfl ?aO ?aR (fun _ hk => hk) ?aF ?aB ?aS ?aL ?_; (case aR => exact (by skip; exact Kd.N_F (Kd.N_mono (ok' := (fun k_ => ((fun k_ => (w.heap.size ≤ k_))) k_ ∧ some k_ ≠ (u8 : Value).ownBlock)) (HO332.out) (fun k_ hk => ⟨hk.1, hk.2⟩)))); (case aB => exact s11q15); (case aF => exact (fun k_ hk => (Nat.le_trans (below_size s11q15) hk))); (case aO => exact (by (with_reducible repeat (first | apply Kd.N_alloc | apply Kd.N_drewN | apply Kd.N_drew)); exact Kd.N_mono HO_8.out (fun _ hk => hk.1.1))); (case aS => exact (below_size s11q15)); (case aL => have := LMc9.out; omega); intro v334 w15 ho hb hg hat; rw [← Ny333.out] at ho; have n0_ := Aside0.mk (Kd.N_afterv (ok := (fun k_ => (w.heap.size ≤ k_))) (by (with_reducible repeat (first | apply Kd.N_alloc | apply Kd.N_drewN | apply Kd.N_drew)); exact HO332.out) hg hat); have n1_ := Aside0.mk (hb); have n2_ := Aside0.mk (ho); clear HO332; clear HB; clear HO_8; have HO332 := n0_; have HB := n1_; have HO335 := n2_; clear n0_ n1_ n2_; clear ho hb hg hat))
   first | go_roundg k1 | (refine Handed.intro k1 ?measure ?_; rotate_left; go_step; (repeat apply Exists.intro); simp only [add_plain]; refine ⟨?rel, rfl⟩)
   case measure => have := HK1.out; omega
   case rel => exact ⟨(y333), (wrap64 (x25_1 + 1)), s11q3, H', ⟨by have := HK1.out; omega⟩, ⟨by (with_reducible repeat (first | apply Kd.N_alloc | apply Kd.N_drewN | apply Kd.N_drew)); exact HO335.out⟩, ⟨by repeat (first | (with_reducible first | exact HB.out | apply below_alloc | apply pw_below_drewN | apply below_drew1) | exact HB.out)⟩⟩
 rw [if_neg c6] at H
 have c6b0 : decide (x25_1 < (l0.length : Int)) = false := decide_eq_false c6
 clear c6
 have H' := Aside0.mk H
 clear H
 go_wp2
 go_loopg [8, 10] k1 (fun kq v8 v10 w' => ∃ (x8_2 : List (S93)) (x10_2 : Int), v10 = .int .i64 x10_2 ∧ Aside0 (peristyleref10_Greedy.l1 kq l0 l1 x8_2 x10_2 = some (r1, r2, r3)) ∧ Aside0 (kq ≤ k1) ∧ Aside0 (Kd.N k93 93 w' w.heap.size (fun k_ => (w.heap.size ≤ k_)) v8 x8_2) ∧ Aside0 (Below w.heap.size w w'))
 case atStart => exact ⟨(x8_1), (0), s11q3, H', ⟨Nat.le_refl _⟩, ⟨by (with_reducible repeat (first | apply Kd.N_alloc | apply Kd.N_drewN | apply Kd.N_drew)); exact HO_8.out⟩, ⟨by repeat (first | (with_reducible first | exact HB.out | apply below_alloc | apply pw_below_drewN | apply below_drew1) | exact HB.out)⟩⟩
 clear H'
 try clear c1
 try clear c2
 try clear p2
 try clear c4
 try clear c4b0
 try clear c4b1
 try clear c6
 try clear c6b0
 try clear p6
 try clear c7
 try clear c7b0
 try clear c7b1
 try clear c9
 try clear p2
 obtain ⟨x8_2, x10_2, rfl, HA, HK2, HO_8, HB⟩ := hrel
 cases gk with
 | zero => exact absurd HA.out (by simp [peristyleref10_Greedy.l1])
 | succ k2 => ?_
 have H := HA.out
 clear HA
 simp only [peristyleref10_Greedy.l1] at H
 by_cases c17 : (x8_2.length : Int) > 1
 case neg =>
  rw [if_neg c17] at H
  have c17b0 : decide (1 < (x8_2.length : Int)) = false := decide_eq_false c17
  have c17b1 : decide (1 < x8_2.length) = false := decide_eq_false (by omega)
  clear c17
  by_cases c55 : 0 < (x8_2.length : Int)
  case neg =>
   rw [if_neg c55] at H
   exact absurd H (by simp)
  rw [if_pos c55] at H
  have c55b0 : decide (0 < (x8_2.length : Int)) = true := decide_eq_true c55
  have c55b1 : decide (0 < x8_2.length) = true := decide_eq_true (by omega)
  clear c55
  simp only [Option.some.injEq, Prod.mk.injEq] at H
  obtain ⟨rfl, rfl, rfl⟩ := H
  obtain ⟨Ao56, co56, eo56⟩ := Kd.N_slice HO_8.out
  subst eo56
  have p336 : 0 ≤ (0 : Int) := (by omega)
  have q336 : 0 < (x8_2.length : Int) := of_decide_eq_true s11q4
  obtain ⟨ad336, A336_1, c336_1, e336, hx336_0, hx336_1, hl336_1, hi336_1⟩ := at_T93 (Kd.N_reads' HO_8.out).2.2 0 p336 q336
  cases e336
  obtain ⟨ce336, hce336, hMe336, hcc336⟩ := Kd.N_get HO_8.out z93 0 p336 (by first | exact q336 | exact of_decide_eq_true s11q4 | (have e_ := (Kd.N_reads' HO_8.out).1; omega))
  obtain ⟨ua336_1, uc336_1, rfl, ul336_1, ge336_1⟩ := k93_openF hMe336
  have hv336_1 := hcc336 1 _ rfl
  rw [add_field _ _ 1 (by omega)] at hv336_1
  replace hv336_1 := Option.some.inj (hv336_1.symm.trans hx336_1)
  injection hv336_1 with hva_ hvn_ hvc_
  rw [hva_] at ge336_1
  rw [hvc_] at ul336_1
  have HL336_1 := Aside0.mk (show Kd.V (Kd.int .i64) 3 _ w.heap.size _ _ ((rd_T93 x8_2 0).f1) from Kd.V_mk ul336_1 ge336_1)
  clear hva_ hvn_ hvc_ ge336_1 ul336_1
  clear hcc336 hce336
  have qi336 : (0 < x8_2.length) = True := eq_true (by omega)
  (try rw [show ((0 : Int)).toNat = 0 from rfl] at hx336_0)
  (try rw [show 0 * 2 = 0 from rfl] at hx336_0)
  (try rw [Addr.add_zero'] at hx336_0)
  (try rw [show ((0 : Int)).toNat = 0 from rfl] at hx336_1)
  (try rw [show 0 * 2 = 0 from rfl] at hx336_1)
  (try rw [Addr.add_zero'] at hx336_1)
  have HR336_1 := Aside0.mk hi336_1
  have HC336_1 := Aside0.mk hl336_1
  clear hi336_1 hl336_1
  replace p336 := eq_true p336
  replace q336 := eq_true q336
  go_wp2
  go_ret3
  exact ⟨_, by first | rfl | (simp [errW_none, errW_some] <;> rfl) | (simp [*, errW_none, errW_some] <;> rfl), by (with_reducible repeat (first | apply Kd.V_alloc | apply Kd.V_drewN | apply Kd.V_drew)); exact Kd.V_mono HL336_1.out (fun _ hk => hk.1), by repeat (first | (with_reducible first | exact HB.out | apply below_alloc | apply pw_below_drewN | apply below_drew1) | exact HB.out)⟩
 rw [if_pos c17] at H
 have c17b0 : decide (1 < (x8_2.length : Int)) = true := decide_eq_true c17
 have c17b1 : decide (1 < x8_2.length) = true := decide_eq_true (by omega)
 clear c17
 have H' := Aside0.mk H
 clear H
 obtain ⟨Ao18, co18, eo18⟩ := Kd.N_slice HO_8.out
 subst eo18
 go_wp2
 go_loopg [11, 12, 13, 42] k2 (fun kq v11 v12 v13 v42 w' => ∃ (x11_3 : Int) (x12_3 : Int) (x13_3 : Int) (x42_3 : Int), v11 = .int .i64 x11_3 ∧ v12 = .int .i64 x12_3 ∧ v13 = .int .i64 x13_3 ∧ v42 = .int .i64 x42_3 ∧ Aside0 (peristyleref10_Greedy.l2 kq l0 l1 x8_2 x10_2 x11_3 x12_3 x13_3 (x8_2.length : Int) x42_3 = some (r1, r2, r3)) ∧ Aside0 (kq ≤ k2) ∧ Aside0 (Kd.N k93 93 w' w.heap.size (fun k_ => (w.heap.size ≤ k_)) (.slice Ao18 x8_2.length co18) x8_2) ∧ Aside0 (Below w.heap.size w w'))
 case atStart => exact ⟨(0), (1), ((-1)), (0), s11q3, s11q3, s11q3, s11q3, H', ⟨Nat.le_refl _⟩, ⟨by (with_reducible repeat (first | apply Kd.N_alloc | apply Kd.N_drewN | apply Kd.N_drew)); exact HO_8.out⟩, ⟨by repeat (first | (with_reducible first | exact HB.out | apply below_alloc | apply pw_below_drewN | apply below_drew1) | exact HB.out)⟩⟩
 clear H'
 try clear c1
 try clear c2
 try clear p2
 try clear c4
 try clear c4b0
 try clear c4b1
 try clear c6
 try clear c6b0
 try clear p6
 try clear c7
 try clear c7b0
 try clear c7b1
 try clear c9
 try clear c17
 try clear c17b0
 try clear c17b1
 try clear p2
 try clear p6
 obtain ⟨x11_3, x12_3, x13_3, x42_3, rfl, rfl, rfl, rfl, HA, HK3, HO_8, HB⟩ := hrel
 cases gk with
 | zero => exact absurd HA.out (by simp [peristyleref10_Greedy.l2])
 | succ k3 => ?_
 have H := HA.out
 clear HA
 simp only [peristyleref10_Greedy.l2] at H
 by_cases c19 : x42_3 < (x8_2.length : Int)
 · rw [if_pos c19] at H
   have c19b0 : decide (x42_3 < (x8_2.length : Int)) = true := decide_eq_true c19
   clear c19
   have H' := Aside0.mk H
   clear H
   go_wp2
   go_loopg [11, 12, 13, 15] k3 (fun kq v11 v12 v13 v15 w' => ∃ (x11_4 : Int) (x12_4 : Int) (x13_4 : Int) (x15_4 : Int), v11 = .int .i64 x11_4 ∧ v12 = .int .i64 x12_4 ∧ v13 = .int .i64 x13_4 ∧ v15 = .int .i64 x15_4 ∧ Aside0 (peristyleref10_Greedy.l3 kq l0 l1 x8_2 x10_2 x11_4 x12_4 x13_4 x42_3 x15_4 (x8_2.length : Int) x42_3 = some (r1, r2, r3)) ∧ Aside0 (kq ≤ k3) ∧ Aside0 (Kd.N k93 93 w' w.heap.size (fun k_ => (w.heap.size ≤ k_)) (.slice Ao18 x8_2.length co18) x8_2) ∧ Aside0 (Below w.heap.size w w'))
   case atStart => exact ⟨(x11_3), (x12_3), (x13_3), (wrap64 (x42_3 + 1)), s11q3, s11q3, s11q3, s11q3, H', ⟨Nat.le_refl _⟩, ⟨by (with_reducible repeat (first | apply Kd.N_alloc | apply Kd.N_drewN | apply Kd.N_drew)); exact HO_8.out⟩, ⟨by repeat (first | (with_reducible first | exact HB.out | apply below_alloc | apply pw_below_drewN | apply below_drew1) | exact HB.out)⟩⟩
   clear H'
   try clear c1
   try clear c2
   try clear p2
   try clear c4
   try clear c4b0
   try clear c4b1
   try clear c6
   try clear c6b0
   try clear p6
   try clear c7
   try clear c7b0
   try clear c7b1
   try clear c9
   try clear c17
   try clear c17b0
   try clear c17b1
   try clear c19
   try clear c19b0
   try clear p2
   try clear p6
   obtain ⟨x11_4, x12_4, x13_4, x15_4, rfl, rfl, rfl, rfl, HA, HK4, HO_8, HB⟩ := hrel
   cases gk with
   | zero => exact absurd HA.out (by simp [peristyleref10_Greedy.l3])
   | succ k4 => ?_
   have H := HA.out
   clear HA
   simp only [peristyleref10_Greedy.l3] at H
   by_cases c20 : x15_4 < (x8_2.length : Int)
   case neg =>
    rw [if_neg c20] at H
    have c20b0 : decide (x15_4 < (x8_2.length : Int)) = false := decide_eq_false c20
    clear c20
    have H' := Aside0.mk H
    clear H
    go_wp2
    first | go_roundg k4 | (refine Handed.intro k4 ?measure ?_; rotate_left; go_step; (repeat apply Exists.intro); simp only [add_plain]; refine ⟨?rel, rfl⟩)
    case measure => have := HK1.out; have := HK2.out; have := HK3.out; have := HK4.out; omega
    case rel => exact ⟨(x11_4), (x12_4), (x13_4), (wrap64 (x42_3 + 1)), s11q3, s11q3, s11q3, s11q3, H', ⟨by have := HK1.out; have := HK2.out; have := HK3.out; have := HK4.out; omega⟩, ⟨by (with_reducible repeat (first | apply Kd.N_alloc | apply Kd.N_drewN | apply Kd.N_drew)); exact HO_8.out⟩, ⟨by repeat (first | (with_reducible first | exact HB.out | apply below_alloc | apply pw_below_drewN | apply below_drew1) | exact HB.out)⟩⟩
   rw [if_pos c20] at H
   have c20b0 : decide (x15_4 < (x8_2.length : Int)) = true := decide_eq_true c20
   clear c20
   by_cases c21 : 0 ≤ x42_3
   case neg =>
    rw [if_neg c21] at H
    exact absurd H (by simp)
   rw [if_pos c21] at H
   have c21b0 : decide (0 ≤ x42_3) = true := decide_eq_true c21
   clear c21
   by_cases c22 : x42_3 < (x8_2.length : Int)
   case neg =>
    rw [if_neg c22] at H
    exact absurd H (by simp)
   rw [if_pos c22] at H
   have c22b0 : decide (x42_3 < (x8_2.length : Int)) = true := decide_eq_true c22
   clear c22
   by_cases c23 : 0 ≤ x15_4
   case neg =>
    rw [if_neg c23] at H
    exact absurd H (by simp)
   rw [if_pos c23] at H
   have c23b0 : decide (0 ≤ x15_4) = true := decide_eq_true c23
   clear c23
   replace H := Option.bind_eq_some_iff.mp H
   obtain ⟨t359, A240, H⟩ := H
   replace H : (if x13_4 < 0 then (peristyleref10_Greedy.l3 k4 l0 l1 x8_2 x10_2 x42_3 x15_4 t359 x42_3 (wrap64 (x15_4 + 1)) (x8_2.length : Int) x42_3) else (if t359 < x13_4 then (peristyleref10_Greedy.l3 k4 l0 l1 x8_2 x10_2 x42_3 x15_4 t359 x42_3 (wrap64 (x15_4 + 1)) (x8_2.length : Int) x42_3) else (peristyleref10_Greedy.l3 k4 l0 l1 x8_2 x10_2 x11_4 x12_4 x13_4 x42_3 (wrap64 (x15_4 + 1)) (x8_2.length : Int) x42_3))) = some (r1, r2, r3) := H
   have A24 := Aside0.mk A240
   clear A240
   by_cases c25 : x13_4 < 0
   · rw [if_pos c25] at H
     have c25b0 : decide (x13_4 < 0) = true := decide_eq_true c25
     clear c25
     have H' := Aside0.mk H
     clear H
     try go_wp2
     have n0_ := Aside0.mk (Kd.N_drew HO_8.out)
     have n1_ := Aside0.mk (below_drew1 HB.out)
     clear HO_8
     clear HB
     have HO_8 := n0_
     have HB := n1_
     clear n0_ n1_
     have p357 : 0 ≤ (x42_3 : Int) := of_decide_eq_true s11q4
     have q357 : x42_3 < (x8_2.length : Int) := of_decide_eq_true s11q4
     obtain ⟨ad357, A357_1, c357_1, e357, hx357_0, hx357_1, hl357_1, hi357_1⟩ := at_T93 (Kd.N_reads' HO_8.out).2.2 x42_3 p357 q357
     cases e357
     obtain ⟨ce357, hce357, hMe357, hcc357⟩ := Kd.N_get HO_8.out z93 x42_3 p357 s11q25
     obtain ⟨ua357_1, uc357_1, rfl, ul357_1, ge357_1⟩ := k93_openF hMe357
     have hv357_1 := hcc357 1 _ rfl
     rw [add_field _ _ 1 (by omega)] at hv357_1
     replace hv357_1 := Option.some.inj (hv357_1.symm.trans hx357_1)
     injection hv357_1 with hva_ hvn_ hvc_
     rw [hva_] at ge357_1
     rw [hvc_] at ul357_1
     have HL357_1 := Aside0.mk (show Kd.V (Kd.int .i64) 3 _ w.heap.size _ _ ((rd_T93 x8_2 x42_3).f1) from Kd.V_mk ul357_1 ge357_1)
     clear hva_ hvn_ hvc_ ge357_1 ul357_1
     clear hcc357 hce357
     have HR357_1 := Aside0.mk hi357_1
     have HC357_1 := Aside0.mk hl357_1
     clear hi357_1 hl357_1
     replace p357 := eq_true p357
     replace q357 := eq_true q357
     have p358 : 0 ≤ (x15_4 : Int) := of_decide_eq_true s11q4
     have q358 : x15_4 < (x8_2.length : Int) := of_decide_eq_true s11q4
     obtain ⟨ad358, A358_1, c358_1, e358, hx358_0, hx358_1, hl358_1, hi358_1⟩ := at_T93 (Kd.N_reads' HO_8.out).2.2 x15_4 p358 q358
     obtain rfl : ad357 = ad358 := (by injection e358)
     obtain ⟨ce358, hce358, hMe358, hcc358⟩ := Kd.N_get HO_8.out z93 x15_4 p358 s11q26
     obtain ⟨ua358_1, uc358_1, rfl, ul358_1, ge358_1⟩ := k93_openF hMe358
     have hv358_1 := hcc358 1 _ rfl
     rw [add_field _ _ 1 (by omega)] at hv358_1
     replace hv358_1 := Option.some.inj (hv358_1.symm.trans hx358_1)
     injection hv358_1 with hva_ hvn_ hvc_
     rw [hva_] at ge358_1
     rw [hvc_] at ul358_1
     have HL358_1 := Aside0.mk (show Kd.V (Kd.int .i64) 3 _ w.heap.size _ _ ((rd_T93 x8_2 x15_4).f1) from Kd.V_mk ul358_1 ge358_1)
     clear hva_ hvn_ hvc_ ge358_1 ul358_1
     clear hcc358 hce358
     have HR358_1 := Aside0.mk hi358_1
     have HC358_1 := Aside0.mk hl358_1
     clear hi358_1 hl358_1
     replace p358 := eq_true p358
     replace q358 := eq_true q358
     refine start_ (n := 15) (S := fun w' => w'.cell? (ad357.add ((x42_3).toNat * 2)) = some (.int .i64 ((rd_T93 x8_2 x42_3).f0)) ∧ w'.cell? ⟨(ad357.add ((x42_3).toNat * 2)).block, (ad357.add ((x42_3).toNat * 2)).off + 1, none⟩ = some (.slice A357_1 ((rd_T93 x8_2 x42_3).f1).length c357_1) ∧ w'.cell? (ad357.add ((x15_4).toNat * 2)) = some (.int .i64 ((rd_T93 x8_2 x15_4).f0)) ∧ w'.cell? ⟨(ad357.add ((x15_4).toNat * 2)).block, (ad357.add ((x15_4).toNat * 2)).off + 1, none⟩ = some (.slice A358_1 ((rd_T93 x8_2 x15_4).f1).length c358_1)) (ds := []) #[false, false, false, false, false, false, false, false, false, false, false, false, false, false, false] s11q1 rfl rfl ⟨hx357_0, hx357_1, hx358_0, hx358_1⟩ (fun hHeld => ?_); refine with_tabW peristyleref10_Greedy.tab19 peristyleref10_Greedy.bits19 (fun HT_ HW_ => ?_)
     generalize wr.drew = w26 at HO_8 HB HL357_1 HL358_1 HR357_1 HR358_1 hx357_0 hx357_1 hx358_0 hx358_1 hHeld ⊢
     refine pure_ (i := 0) (N := some 53) (v := ?_) (a' := ?_) #[true, false, false, false, false, false, false, false, false, false, false, false, false, false, false] rfl rfl (any_of HT_.out s11q1) (fun _ _ _ h => h) (Or.inl ⟨by rfl, ?_⟩) ?_ ?_
     rotate_left
     · intro w'
       go_simp
       with_reducible rfl
     rotate_left
     · simp only [Act.put, sqa, sqb, sqc, i64_w, i32_w]
       rfl
     refine pure_ (i := 1) (N := some 54) (v := ?_) (a' := ?_) #[true, true, false, false, false, false, false, false, false, false, false, false, false, false, false] rfl rfl (any_of HT_.out s11q1) (fun _ _ _ h => h) (Or.inl ⟨by rfl, ?_⟩) ?_ ?_
     rotate_left
     · intro w'
       go_simp
       with_reducible rfl
     rotate_left
     · simp only [Act.put, sqa, sqb, sqc, i64_w, i32_w]
       rfl
     refine pure_ (i := 2) (N := some 55) (v := ?_) (a' := ?_) #[true, true, true, false, false, false, false, false, false, false, false, false, false, false, false] rfl rfl (any_of HT_.out s11q1) (fun _ _ _ h => h) (Or.inl ⟨by rfl, ?_⟩) ?_ ?_
     rotate_left
     · intro w'
       go_simp
       with_reducible rfl
     rotate_left
     · simp only [Act.put, sqa, sqb, sqc, i64_w, i32_w]
       rfl
     refine pure_ (i := 3) (N := some 56) (v := ?_) (a' := ?_) #[true, true, true, true, false, false, false, false, false, false, false, false, false, false, false] rfl rfl (any_of HT_.out s11q1) (fun _ _ _ h => h) (Or.inl ⟨by rfl, ?_⟩) ?_ ?_
     rotate_left
     · intro w'
       go_simp
       with_reducible rfl
     rotate_left
     · simp only [Act.put, sqa, sqb, sqc, i64_w, i32_w]
       rfl
     refine pure_ (i := 4) (N := some 57) (v := ?_) (a' := ?_) #[true, true, true, true, true, false, false, false, false, false, false, false, false, false, false] rfl rfl (any_of HT_.out s11q1) (fun _ _ _ h => h) (Or.inl ⟨by rfl, ?_⟩) ?_ ?_
     rotate_left
     · intro w'
       go_simp
       with_reducible rfl
     rotate_left
     · simp only [Act.put, sqa, sqb, sqc, i64_w, i32_w]
       rfl
     refine pure_ (i := 5) (N := some 58) (v := ?_) (a' := ?_) #[true, true, true, true, true, true, false, false, false, false, false, false, false, false, false] rfl rfl (any_of HT_.out s11q1) (fun _ _ _ h => h) (Or.inl ⟨by rfl, ?_⟩) ?_ ?_
     rotate_left
     · intro w'
       go_simp
       with_reducible rfl
     rotate_left
     · simp only [Act.put, sqa, sqb, sqc, i64_w, i32_w]
       rfl
     refine pure_ (i := 7) (N := some 60) (v := ?_) (a' := ?_) #[true, true, true, true, true, true, false, true, false, false, false, false, false, false, false] rfl rfl (any_of HT_.out s11q1) (fun _ _ _ h => h) (Or.inl ⟨by rfl, ?_⟩) ?_ ?_
     rotate_left
     · intro w'
       go_simp
       with_reducible rfl
     rotate_left
     · simp only [Act.put, sqa, sqb, sqc, i64_w, i32_w]
       rfl
     refine pure_ (i := 8) (N := some 61) (v := ?_) (a' := ?_) #[true, true, true, true, true, true, false, true, true, false, false, false, false, false, false] rfl rfl (any_of HT_.out s11q1) (fun _ _ _ h => h) (Or.inl ⟨by rfl, ?_⟩) ?_ ?_
     rotate_left
     · intro w'
       go_simp
       with_reducible rfl
     rotate_left
     · simp only [Act.put, sqa, sqb, sqc, i64_w, i32_w]
       rfl
     refine pure_ (i := 9) (N := some 62) (v := ?_) (a' := ?_) #[true, true, true, true, true, true, false, true, true, true, false, false, false, false, false] rfl rfl (any_of HT_.out s11q1) (fun _ _ _ h => h) (Or.inl ⟨by rfl, ?_⟩) ?_ ?_
     rotate_left
     · intro w'
       go_simp
       with_reducible rfl
     rotate_left
     · simp only [Act.put, sqa, sqb, sqc, i64_w, i32_w]
       rfl
     refine pure_ (i := 10) (N := some 63) (v := ?_) (a' := ?_) #[true, true, true, true, true, true, false, true, true, true, true, false, false, false, false] rfl rfl (any_of HT_.out s11q1) (fun _ _ _ h => h) (Or.inl ⟨by rfl, ?_⟩) ?_ ?_
     rotate_left
     · intro w'
       go_simp
       with_reducible rfl
     rotate_left
     · simp only [Act.put, sqa, sqb, sqc, i64_w, i32_w]
       rfl
     refine take_ (i := 6) (N := some 59) (v := ?_) (a' := ?_) #[true, true, true, true, true, true, true, true, true, true, true, false, false, false, false] rfl rfl (take_ofW HT_.out HW_.out s11q1) (fun _ _ _ h => h) (Or.inl ⟨by rfl, ?_⟩) hHeld ?_ ?_
     rotate_left
     · rintro w' ⟨s0, s1, s2, s3⟩
       go_simp
       with_reducible rfl
     rotate_left
     · simp only [Act.put, sqa, sqb, sqc, i64_w, i32_w]
       rfl
     refine take_ (i := 11) (N := some 64) (v := ?_) (a' := ?_) #[true, true, true, true, true, true, true, true, true, true, true, true, false, false, false] rfl rfl (take_ofW HT_.out HW_.out s11q1) (fun _ _ _ h => h) (Or.inl ⟨by rfl, ?_⟩) hHeld ?_ ?_
     rotate_left
     · rintro w' ⟨s0, s1, s2, s3⟩
       go_simp
       with_reducible rfl
     rotate_left
     · simp only [Act.put, sqa, sqb, sqc, i64_w, i32_w]
       rfl
     refine pure_ (i := 12) (N := some 65) (v := ?_) (a' := ?_) #[true, true, true, true, true, true, true, true, true, true, true, true, true, false, false] rfl rfl (any_of HT_.out s11q1) (fun _ _ _ h => h) (Or.inl ⟨by rfl, ?_⟩) ?_ ?_
     rotate_left
     · intro w'
       go_simp
       with_reducible rfl
     rotate_left
     · simp only [Act.put, sqa, sqb, sqc, i64_w, i32_w]
       rfl
     refine one_ (i := 13) (N := some 66) #[true, true, true, true, true, true, true, true, true, true, true, true, true, true, false] rfl rfl (one_of HT_.out s11q1) s11q0 (fun K hK => ?_)
     refine goes_ Tryd.func45 s11q1 rfl #[.slice A0 l0.length c0, .slice A1 l1.length c1, .int .i64 (Go.bits .or .i64 ((rd_T93 x8_2 x42_3).f0) ((rd_T93 x8_2 x15_4).f0))] (by rfl) rfl rfl s11q16 ?_
     with_reducible refine (peristyleref10_size.calls k4 _ _ l0 _ _ l1 (Go.bits .or .i64 ((rd_T93 x8_2 x42_3).f0) ((rd_T93 x8_2 x15_4).f0)) t359 _ ?side1 ?side2 ?side3 ?side4 A24.out).mono ?_
     (case side1 => repeat (first | exact (Kd.C_below HR0.out HB.out) | (with_reducible refine Kd.C_alloc ?_ _) | (with_reducible refine Kd.C_drewN ?_ _) | (with_reducible refine Kd.C_drew ?_)))
     (case side2 => exact HC0.out)
     (case side3 => repeat (first | exact (Kd.C_below HR1.out HB.out) | (with_reducible refine Kd.C_alloc ?_ _) | (with_reducible refine Kd.C_drewN ?_ _) | (with_reducible refine Kd.C_drew ?_)))
     (case side4 => exact HC1.out)
     rintro e w27 ⟨rfl, hb⟩
     have HS0_ := pw_cell_below hb hHeld.1
     have HS1_ := pw_cell_below hb hHeld.2.1
     have HS2_ := pw_cell_below hb hHeld.2.2.1
     have HS3_ := pw_cell_below hb hHeld.2.2.2
     refine ⟨_, rfl, ?_⟩
     have n0_ := Aside0.mk (Kd.N_below s11q5 hb)
     have n1_ := Aside0.mk (Kd.V_below s11q13 hb)
     have n2_ := Aside0.mk (Kd.V_below s11q14 hb)
     have n3_ := Aside0.mk (Kd.C_below s11q23 hb)
     have n4_ := Aside0.mk (Kd.C_below s11q24 hb)
     have n5_ := Aside0.mk (below_step s11q15 hb)
     clear HO_8
     clear HL357_1
     clear HL358_1
     clear HR357_1
     clear HR358_1
     clear HB
     have HO_8 := n0_
     have HL357_1 := n1_
     have HL358_1 := n2_
     have HR357_1 := n3_
     have HR358_1 := n4_
     have HB := n5_
     clear n0_ n1_ n2_ n3_ n4_ n5_
     (try clear hb)
     (try clear hb2)
     (try clear hk)
     (try clear hi)
     refine hK.out _ _ ⟨HS0_, HS1_, HS2_, HS3_⟩ (fun hHeld => ?_)
     clear hK K
     refine norm_ (a' := ?_) ?_ ?_
     rotate_left
     · show Act.put _ (some 66) _ = _
       simp only [Act.put, sqa, sqb, sqc, i64_w, i32_w]
       rfl
     refine pure_ (i := 14) (N := some 16) (v := ?_) (a' := ?_) #[true, true, true, true, true, true, true, true, true, true, true, true, true, true, true] rfl rfl (any_of HT_.out s11q1) (fun _ _ _ h => h) (Or.inl ⟨by rfl, ?_⟩) ?_ ?_
     rotate_left
     · intro w'
       go_simp
       with_reducible rfl
     rotate_left
     · simp only [Act.put, sqa, sqb, sqc, i64_w, i32_w]
       rfl
     refine done_ (done_of HT_.out s11q1) ?_
     try go_wp2
     first | go_roundg k4 | (refine Handed.intro k4 ?measure ?_; rotate_left; go_step; (repeat apply Exists.intro); simp only [add_plain]; refine ⟨?rel, rfl⟩)
     case measure => have := HK1.out; have := HK2.out; have := HK3.out; have := HK4.out; omega
     case rel => exact ⟨(x42_3), (x15_4), (t359), (wrap64 (x15_4 + 1)), s11q3, s11q3, s11q3, s11q3, H', ⟨by have := HK1.out; have := HK2.out; have := HK3.out; have := HK4.out; omega⟩, ⟨by (with_reducible repeat (first | apply Kd.N_alloc | apply Kd.N_drewN | apply Kd.N_drew)); exact HO_8.out⟩, ⟨by repeat (first | (with_reducible first | exact HB.out | apply below_alloc | apply pw_below_drewN | apply below_drew1) | exact HB.out)⟩⟩
   rw [if_neg c25] at H
   have c25b0 : decide (x13_4 < 0) = false := decide_eq_false c25
   clear c25
   by_cases c28 : t359 < x13_4
   · rw [if_pos c28] at H
     have c28b0 : decide (t359 < x13_4) = true := decide_eq_true c28
     clear c28
     have H' := Aside0.mk H
     clear H
     try go_wp2
     have n0_ := Aside0.mk (Kd.N_drew HO_8.out)
     have n1_ := Aside0.mk (below_drew1 HB.out)
     clear HO_8
     clear HB
     have HO_8 := n0_
     have HB := n1_
     clear n0_ n1_
     have p357 : 0 ≤ (x42_3 : Int) := of_decide_eq_true s11q4
     have q357 : x42_3 < (x8_2.length : Int) := of_decide_eq_true s11q4
     obtain ⟨ad357, A357_1, c357_1, e357, hx357_0, hx357_1, hl357_1, hi357_1⟩ := at_T93 (Kd.N_reads' HO_8.out).2.2 x42_3 p357 q357
     cases e357
     obtain ⟨ce357, hce357, hMe357, hcc357⟩ := Kd.N_get HO_8.out z93 x42_3 p357 s11q25
     obtain ⟨ua357_1, uc357_1, rfl, ul357_1, ge357_1⟩ := k93_openF hMe357
     have hv357_1 := hcc357 1 _ rfl
     rw [add_field _ _ 1 (by omega)] at hv357_1
     replace hv357_1 := Option.some.inj (hv357_1.symm.trans hx357_1)
     injection hv357_1 with hva_ hvn_ hvc_
     rw [hva_] at ge357_1
     rw [hvc_] at ul357_1
     have HL357_1 := Aside0.mk (show Kd.V (Kd.int .i64) 3 _ w.heap.size _ _ ((rd_T93 x8_2 x42_3).f1) from Kd.V_mk ul357_1 ge357_1)
     clear hva_ hvn_ hvc_ ge357_1 ul357_1
     clear hcc357 hce357
     have HR357_1 := Aside0.mk hi357_1
     have HC357_1 := Aside0.mk hl357_1
     clear hi357_1 hl357_1
     replace p357 := eq_true p357
     replace q357 := eq_true q357
     have p358 : 0 ≤ (x15_4 : Int) := of_decide_eq_true s11q4
     have q358 : x15_4 < (x8_2.length : Int) := of_decide_eq_true s11q4
     obtain ⟨ad358, A358_1, c358_1, e358, hx358_0, hx358_1, hl358_1, hi358_1⟩ := at_T93 (Kd.N_reads' HO_8.out).2.2 x15_4 p358 q358
     obtain rfl : ad357 = ad358 := (by injection e358)
     obtain ⟨ce358, hce358, hMe358, hcc358⟩ := Kd.N_get HO_8.out z93 x15_4 p358 s11q26
     obtain ⟨ua358_1, uc358_1, rfl, ul358_1, ge358_1⟩ := k93_openF hMe358
     have hv358_1 := hcc358 1 _ rfl
     rw [add_field _ _ 1 (by omega)] at hv358_1
     replace hv358_1 := Option.some.inj (hv358_1.symm.trans hx358_1)
     injection hv358_1 with hva_ hvn_ hvc_
     rw [hva_] at ge358_1
     rw [hvc_] at ul358_1
     have HL358_1 := Aside0.mk (show Kd.V (Kd.int .i64) 3 _ w.heap.size _ _ ((rd_T93 x8_2 x15_4).f1) from Kd.V_mk ul358_1 ge358_1)
     clear hva_ hvn_ hvc_ ge358_1 ul358_1
     clear hcc358 hce358
     have HR358_1 := Aside0.mk hi358_1
     have HC358_1 := Aside0.mk hl358_1
     clear hi358_1 hl358_1
     replace p358 := eq_true p358
     replace q358 := eq_true q358
     refine start_ (n := 15) (S := fun w' => w'.cell? (ad357.add ((x42_3).toNat * 2)) = some (.int .i64 ((rd_T93 x8_2 x42_3).f0)) ∧ w'.cell? ⟨(ad357.add ((x42_3).toNat * 2)).block, (ad357.add ((x42_3).toNat * 2)).off + 1, none⟩ = some (.slice A357_1 ((rd_T93 x8_2 x42_3).f1).length c357_1) ∧ w'.cell? (ad357.add ((x15_4).toNat * 2)) = some (.int .i64 ((rd_T93 x8_2 x15_4).f0)) ∧ w'.cell? ⟨(ad357.add ((x15_4).toNat * 2)).block, (ad357.add ((x15_4).toNat * 2)).off + 1, none⟩ = some (.slice A358_1 ((rd_T93 x8_2 x15_4).f1).length c358_1)) (ds := []) #[false, false, false, false, false, false, false, false, false, false, false, false, false, false, false] s11q1 rfl rfl ⟨hx357_0, hx357_1, hx358_0, hx358_1⟩ (fun hHeld => ?_); refine with_tabW peristyleref10_Greedy.tab19 peristyleref10_Greedy.bits19 (fun HT_ HW_ => ?_)
     generalize wr.drew = w29 at HO_8 HB HL357_1 HL358_1 HR357_1 HR358_1 hx357_0 hx357_1 hx358_0 hx358_1 hHeld ⊢
     refine pure_ (i := 0) (N := some 53) (v := ?_) (a' := ?_) #[true, false, false, false, false, false, false, false, false, false, false, false, false, false, false] rfl rfl (any_of HT_.out s11q1) (fun _ _ _ h => h) (Or.inl ⟨by rfl, ?_⟩) ?_ ?_
     rotate_left
     · intro w'
       go_simp
       with_reducible rfl
     rotate_left
     · simp only [Act.put, sqa, sqb, sqc, i64_w, i32_w]
       rfl
     refine pure_ (i := 1) (N := some 54) (v := ?_) (a' := ?_) #[true, true, false, false, false, false, false, false, false, false, false, false, false, false, false] rfl rfl (any_of HT_.out s11q1) (fun _ _ _ h => h) (Or.inl ⟨by rfl, ?_⟩) ?_ ?_
     rotate_left
     · intro w'
       go_simp
       with_reducible rfl
     rotate_left
     · simp only [Act.put, sqa, sqb, sqc, i64_w, i32_w]
       rfl
     refine pure_ (i := 2) (N := some 55) (v := ?_) (a' := ?_) #[true, true, true, false, false, false, false, false, false, false, false, false, false, false, false] rfl rfl (any_of HT_.out s11q1) (fun _ _ _ h => h) (Or.inl ⟨by rfl, ?_⟩) ?_ ?_
     rotate_left
     · intro w'
       go_simp
       with_reducible rfl
     rotate_left
     · simp only [Act.put, sqa, sqb, sqc, i64_w, i32_w]
       rfl
     refine pure_ (i := 3) (N := some 56) (v := ?_) (a' := ?_) #[true, true, true, true, false, false, false, false, false, false, false, false, false, false, false] rfl rfl (any_of HT_.out s11q1) (fun _ _ _ h => h) (Or.inl ⟨by rfl, ?_⟩) ?_ ?_
     rotate_left
     · intro w'
       go_simp
       with_reducible rfl
     rotate_left
     · simp only [Act.put, sqa, sqb, sqc, i64_w, i32_w]
       rfl
     refine pure_ (i := 4) (N := some 57) (v := ?_) (a' := ?_) #[true, true, true, true, true, false, false, false, false, false, false, false, false, false, false] rfl rfl (any_of HT_.out s11q1) (fun _ _ _ h => h) (Or.inl ⟨by rfl, ?_⟩) ?_ ?_
     rotate_left
     · intro w'
       go_simp
       with_reducible rfl
     rotate_left
     · simp only [Act.put, sqa, sqb, sqc, i64_w, i32_w]
       rfl
     refine pure_ (i := 5) (N := some 58) (v := ?_) (a' := ?_) #[true, true, true, true, true, true, false, false, false, false, false, false, false, false, false] rfl rfl (any_of HT_.out s11q1) (fun _ _ _ h => h) (Or.inl ⟨by rfl, ?_⟩) ?_ ?_
     rotate_left
     · intro w'
       go_simp
       with_reducible rfl
     rotate_left
     · simp only [Act.put, sqa, sqb, sqc, i64_w, i32_w]
       rfl
     refine pure_ (i := 7) (N := some 60) (v := ?_) (a' := ?_) #[true, true, true, true, true, true, false, true, false, false, false, false, false, false, false] rfl rfl (any_of HT_.out s11q1) (fun _ _ _ h => h) (Or.inl ⟨by rfl, ?_⟩) ?_ ?_
     rotate_left
     · intro w'
       go_simp
       with_reducible rfl
     rotate_left
     · simp only [Act.put, sqa, sqb, sqc, i64_w, i32_w]
       rfl
     refine pure_ (i := 8) (N := some 61) (v := ?_) (a' := ?_) #[true, true, true, true, true, true, false, true, true, false, false, false, false, false, false] rfl rfl (any_of HT_.out s11q1) (fun _ _ _ h => h) (Or.inl ⟨by rfl, ?_⟩) ?_ ?_
     rotate_left
     · intro w'
       go_simp
       with_reducible rfl
     rotate_left
     · simp only [Act.put, sqa, sqb, sqc, i64_w, i32_w]
       rfl
     refine pure_ (i := 9) (N := some 62) (v := ?_) (a' := ?_) #[true, true, true, true, true, true, false, true, true, true, false, false, false, false, false] rfl rfl (any_of HT_.out s11q1) (fun _ _ _ h => h) (Or.inl ⟨by rfl, ?_⟩) ?_ ?_
     rotate_left
     · intro w'
       go_simp
       with_reducible rfl
     rotate_left
     · simp only [Act.put, sqa, sqb, sqc, i64_w, i32_w]
       rfl
     refine pure_ (i := 10) (N := some 63) (v := ?_) (a' := ?_) #[true, true, true, true, true, true, false, true, true, true, true, false, false, false, false] rfl rfl (any_of HT_.out s11q1) (fun _ _ _ h => h) (Or.inl ⟨by rfl, ?_⟩) ?_ ?_
     rotate_left
     · intro w'
       go_simp
       with_reducible rfl
     rotate_left
     · simp only [Act.put, sqa, sqb, sqc, i64_w, i32_w]
       rfl
     refine take_ (i := 6) (N := some 59) (v := ?_) (a' := ?_) #[true, true, true, true, true, true, true, true, true, true, true, false, false, false, false] rfl rfl (take_ofW HT_.out HW_.out s11q1) (fun _ _ _ h => h) (Or.inl ⟨by rfl, ?_⟩) hHeld ?_ ?_
     rotate_left
     · rintro w' ⟨s0, s1, s2, s3⟩
       go_simp
       with_reducible rfl
     rotate_left
     · simp only [Act.put, sqa, sqb, sqc, i64_w, i32_w]
       rfl
     refine take_ (i := 11) (N := some 64) (v := ?_) (a' := ?_) #[true, true, true, true, true, true, true, true, true, true, true, true, false, false, false] rfl rfl (take_ofW HT_.out HW_.out s11q1) (fun _ _ _ h => h) (Or.inl ⟨by rfl, ?_⟩) hHeld ?_ ?_
     rotate_left
     · rintro w' ⟨s0, s1, s2, s3⟩
       go_simp
       with_reducible rfl
     rotate_left
     · simp only [Act.put, sqa, sqb, sqc, i64_w, i32_w]
       rfl
     refine pure_ (i := 12) (N := some 65) (v := ?_) (a' := ?_) #[true, true, true, true, true, true, true, true, true, true, true, true, true, false, false] rfl rfl (any_of HT_.out s11q1) (fun _ _ _ h => h) (Or.inl ⟨by rfl, ?_⟩) ?_ ?_
     rotate_left
     · intro w'
       go_simp
       with_reducible rfl
     rotate_left
     · simp only [Act.put, sqa, sqb, sqc, i64_w, i32_w]
       rfl
     refine one_ (i := 13) (N := some 66) #[true, true, true, true, true, true, true, true, true, true, true, true, true, true, false] rfl rfl (one_of HT_.out s11q1) s11q0 (fun K hK => ?_)
     refine goes_ Tryd.func45 s11q1 rfl #[.slice A0 l0.length c0, .slice A1 l1.length c1, .int .i64 (Go.bits .or .i64 ((rd_T93 x8_2 x42_3).f0) ((rd_T93 x8_2 x15_4).f0))] (by rfl) rfl rfl s11q16 ?_
     with_reducible refine (peristyleref10_size.calls k4 _ _ l0 _ _ l1 (Go.bits .or .i64 ((rd_T93 x8_2 x42_3).f0) ((rd_T93 x8_2 x15_4).f0)) t359 _ ?side1 ?side2 ?side3 ?side4 A24.out).mono ?_
     (case side1 => repeat (first | exact (Kd.C_below HR0.out HB.out) | (with_reducible refine Kd.C_alloc ?_ _) | (with_reducible refine Kd.C_drewN ?_ _) | (with_reducible refine Kd.C_drew ?_)))
     (case side2 => exact HC0.out)
     (case side3 => repeat (first | exact (Kd.C_below HR1.out HB.out) | (with_reducible refine Kd.C_alloc ?_ _) | (with_reducible refine Kd.C_drewN ?_ _) | (with_reducible refine Kd.C_drew ?_)))
     (case side4 => exact HC1.out)
     rintro e w30 ⟨rfl, hb⟩
     have HS0_ := pw_cell_below hb hHeld.1
     have HS1_ := pw_cell_below hb hHeld.2.1
     have HS2_ := pw_cell_below hb hHeld.2.2.1
     have HS3_ := pw_cell_below hb hHeld.2.2.2
     refine ⟨_, rfl, ?_⟩
     have n0_ := Aside0.mk (Kd.N_below s11q5 hb)
     have n1_ := Aside0.mk (Kd.V_below s11q13 hb)
     have n2_ := Aside0.mk (Kd.V_below s11q14 hb)
     have n3_ := Aside0.mk (Kd.C_below s11q23 hb)
     have n4_ := Aside0.mk (Kd.C_below s11q24 hb)
     have n5_ := Aside0.mk (below_step s11q15 hb)
     clear HO_8
     clear HL357_1
     clear HL358_1
     clear HR357_1
     clear HR358_1
     clear HB
     have HO_8 := n0_
     have HL357_1 := n1_
     have HL358_1 := n2_
     have HR357_1 := n3_
     have HR358_1 := n4_
     have HB := n5_
     clear n0_ n1_ n2_ n3_ n4_ n5_
     (try clear hb)
     (try clear hb2)
     (try clear hk)
     (try clear hi)
     refine hK.out _ _ ⟨HS0_, HS1_, HS2_, HS3_⟩ (fun hHeld => ?_)
     clear hK K
     refine norm_ (a' := ?_) ?_ ?_
     rotate_left
     · show Act.put _ (some 66) _ = _
       simp only [Act.put, sqa, sqb, sqc, i64_w, i32_w]
       rfl
     refine pure_ (i := 14) (N := some 16) (v := ?_) (a' := ?_) #[true, true, true, true, true, true, true, true, true, true, true, true, true, true, true] rfl rfl (any_of HT_.out s11q1) (fun _ _ _ h => h) (Or.inl ⟨by rfl, ?_⟩) ?_ ?_
     rotate_left
     · intro w'
       go_simp
       with_reducible rfl
     rotate_left
     · simp only [Act.put, sqa, sqb, sqc, i64_w, i32_w]
       rfl
     refine done_ (done_of HT_.out s11q1) ?_
     try go_wp2
     first | go_roundg k4 | (refine Handed.intro k4 ?measure ?_; rotate_left; go_step; (repeat apply Exists.intro); simp only [add_plain]; refine ⟨?rel, rfl⟩)
     case measure => have := HK1.out; have := HK2.out; have := HK3.out; have := HK4.out; omega
     case rel => exact ⟨(x42_3), (x15_4), (t359), (wrap64 (x15_4 + 1)), s11q3, s11q3, s11q3, s11q3, H', ⟨by have := HK1.out; have := HK2.out; have := HK3.out; have := HK4.out; omega⟩, ⟨by (with_reducible repeat (first | apply Kd.N_alloc | apply Kd.N_drewN | apply Kd.N_drew)); exact HO_8.out⟩, ⟨by repeat (first | (with_reducible first | exact HB.out | apply below_alloc | apply pw_below_drewN | apply below_drew1) | exact HB.out)⟩⟩
   rw [if_neg c28] at H
   have c28b0 : decide (t359 < x13_4) = false := decide_eq_false c28
   clear c28
   have H' := Aside0.mk H
   clear H
   try go_wp2
   have n0_ := Aside0.mk (Kd.N_drew HO_8.out)
   have n1_ := Aside0.mk (below_drew1 HB.out)
   clear HO_8
   clear HB
   have HO_8 := n0_
   have HB := n1_
   clear n0_ n1_
   have p357 : 0 ≤ (x42_3 : Int) := of_decide_eq_true s11q4
   have q357 : x42_3 < (x8_2.length : Int) := of_decide_eq_true s11q4
   obtain ⟨ad357, A357_1, c357_1, e357, hx357_0, hx357_1, hl357_1, hi357_1⟩ := at_T93 (Kd.N_reads' HO_8.out).2.2 x42_3 p357 q357
   cases e357
   obtain ⟨ce357, hce357, hMe357, hcc357⟩ := Kd.N_get HO_8.out z93 x42_3 p357 s11q25
   obtain ⟨ua357_1, uc357_1, rfl, ul357_1, ge357_1⟩ := k93_openF hMe357
   have hv357_1 := hcc357 1 _ rfl
   rw [add_field _ _ 1 (by omega)] at hv357_1
   replace hv357_1 := Option.some.inj (hv357_1.symm.trans hx357_1)
   injection hv357_1 with hva_ hvn_ hvc_
   rw [hva_] at ge357_1
   rw [hvc_] at ul357_1
   have HL357_1 := Aside0.mk (show Kd.V (Kd.int .i64) 3 _ w.heap.size _ _ ((rd_T93 x8_2 x42_3).f1) from Kd.V_mk ul357_1 ge357_1)
   clear hva_ hvn_ hvc_ ge357_1 ul357_1
   clear hcc357 hce357
   have HR357_1 := Aside0.mk hi357_1
   have HC357_1 := Aside0.mk hl357_1
   clear hi357_1 hl357_1
   replace p357 := eq_true p357
   replace q357 := eq_true q357
   have p358 : 0 ≤ (x15_4 : Int) := of_decide_eq_true s11q4
   have q358 : x15_4 < (x8_2.length : Int) := of_decide_eq_true s11q4
   obtain ⟨ad358, A358_1, c358_1, e358, hx358_0, hx358_1, hl358_1, hi358_1⟩ := at_T93 (Kd.N_reads' HO_8.out).2.2 x15_4 p358 q358
   obtain rfl : ad357 = ad358 := (by injection e358)
   obtain ⟨ce358, hce358, hMe358, hcc358⟩ := Kd.N_get HO_8.out z93 x15_4 p358 s11q26
   obtain ⟨ua358_1, uc358_1, rfl, ul358_1, ge358_1⟩ := k93_openF hMe358
   have hv358_1 := hcc358 1 _ rfl
   rw [add_field _ _ 1 (by omega)] at hv358_1
   replace hv358_1 := Option.some.inj (hv358_1.symm.trans hx358_1)
   injection hv358_1 with hva_ hvn_ hvc_
   rw [hva_] at ge358_1
   rw [hvc_] at ul358_1
   have HL358_1 := Aside0.mk (show Kd.V (Kd.int .i64) 3 _ w.heap.size _ _ ((rd_T93 x8_2 x15_4).f1) from Kd.V_mk ul358_1 ge358_1)
   clear hva_ hvn_ hvc_ ge358_1 ul358_1
   clear hcc358 hce358
   have HR358_1 := Aside0.mk hi358_1
   have HC358_1 := Aside0.mk hl358_1
   clear hi358_1 hl358_1
   replace p358 := eq_true p358
   replace q358 := eq_true q358
   refine start_ (n := 15) (S := fun w' => w'.cell? (ad357.add ((x42_3).toNat * 2)) = some (.int .i64 ((rd_T93 x8_2 x42_3).f0)) ∧ w'.cell? ⟨(ad357.add ((x42_3).toNat * 2)).block, (ad357.add ((x42_3).toNat * 2)).off + 1, none⟩ = some (.slice A357_1 ((rd_T93 x8_2 x42_3).f1).length c357_1) ∧ w'.cell? (ad357.add ((x15_4).toNat * 2)) = some (.int .i64 ((rd_T93 x8_2 x15_4).f0)) ∧ w'.cell? ⟨(ad357.add ((x15_4).toNat * 2)).block, (ad357.add ((x15_4).toNat * 2)).off + 1, none⟩ = some (.slice A358_1 ((rd_T93 x8_2 x15_4).f1).length c358_1)) (ds := []) #[false, false, false, false, false, false, false, false, false, false, false, false, false, false, false] s11q1 rfl rfl ⟨hx357_0, hx357_1, hx358_0, hx358_1⟩ (fun hHeld => ?_); refine with_tabW peristyleref10_Greedy.tab19 peristyleref10_Greedy.bits19 (fun HT_ HW_ => ?_)
   generalize wr.drew = w31 at HO_8 HB HL357_1 HL358_1 HR357_1 HR358_1 hx357_0 hx357_1 hx358_0 hx358_1 hHeld ⊢
   refine pure_ (i := 0) (N := some 53) (v := ?_) (a' := ?_) #[true, false, false, false, false, false, false, false, false, false, false, false, false, false, false] rfl rfl (any_of HT_.out s11q1) (fun _ _ _ h => h) (Or.inl ⟨by rfl, ?_⟩) ?_ ?_
   rotate_left
   · intro w'
     go_simp
     with_reducible rfl
   rotate_left
   · simp only [Act.put, sqa, sqb, sqc, i64_w, i32_w]
     rfl
   refine pure_ (i := 1) (N := some 54) (v := ?_) (a' := ?_) #[true, true, false, false, false, false, false, false, false, false, false, false, false, false, false] rfl rfl (any_of HT_.out s11q1) (fun _ _ _ h => h) (Or.inl ⟨by rfl, ?_⟩) ?_ ?_
   rotate_left
   · intro w'
     go_simp
     with_reducible rfl
   rotate_left
   · simp only [Act.put, sqa, sqb, sqc, i64_w, i32_w]
     rfl
   refine pure_ (i := 2) (N := some 55) (v := ?_) (a' := ?_) #[true, true, true, false, false, false, false, false, false, false, false, false, false, false, false] rfl rfl (any_of HT_.out s11q1) (fun _ _ _ h => h) (Or.inl ⟨by rfl, ?_⟩) ?_ ?_
   rotate_left
   · intro w'
     go_simp
     with_reducible rfl
   rotate_left
   · simp only [Act.put, sqa, sqb, sqc, i64_w, i32_w]
     rfl
   refine pure_ (i := 3) (N := some 56) (v := ?_) (a' := ?_) #[true, true, true, true, false, false, false, false, false, false, false, false, false, false, false] rfl rfl (any_of HT_.out s11q1) (fun _ _ _ h => h) (Or.inl ⟨by rfl, ?_⟩) ?_ ?_
   rotate_left
   · intro w'
     go_simp
     with_reducible rfl
   rotate_left
   · simp only [Act.put, sqa, sqb, sqc, i64_w, i32_w]
     rfl
   refine pure_ (i := 4) (N := some 57) (v := ?_) (a' := ?_) #[true, true, true, true, true, false, false, false, false, false, false, false, false, false, false] rfl rfl (any_of HT_.out s11q1) (fun _ _ _ h => h) (Or.inl ⟨by rfl, ?_⟩) ?_ ?_
   rotate_left
   · intro w'
     go_simp
     with_reducible rfl
   rotate_left
   · simp only [Act.put, sqa, sqb, sqc, i64_w, i32_w]
     rfl
   refine pure_ (i := 5) (N := some 58) (v := ?_) (a' := ?_) #[true, true, true, true, true, true, false, false, false, false, false, false, false, false, false] rfl rfl (any_of HT_.out s11q1) (fun _ _ _ h => h) (Or.inl ⟨by rfl, ?_⟩) ?_ ?_
   rotate_left
   · intro w'
     go_simp
     with_reducible rfl
   rotate_left
   · simp only [Act.put, sqa, sqb, sqc, i64_w, i32_w]
     rfl
   refine pure_ (i := 7) (N := some 60) (v := ?_) (a' := ?_) #[true, true, true, true, true, true, false, true, false, false, false, false, false, false, false] rfl rfl (any_of HT_.out s11q1) (fun _ _ _ h => h) (Or.inl ⟨by rfl, ?_⟩) ?_ ?_
   rotate_left
   · intro w'
     go_simp
     with_reducible rfl
   rotate_left
   · simp only [Act.put, sqa, sqb, sqc, i64_w, i32_w]
     rfl
   refine pure_ (i := 8) (N := some 61) (v := ?_) (a' := ?_) #[true, true, true, true, true, true, false, true, true, false, false, false, false, false, false] rfl rfl (any_of HT_.out s11q1) (fun _ _ _ h => h) (Or.inl ⟨by rfl, ?_⟩) ?_ ?_
   rotate_left
   · intro w'
     go_simp
     with_reducible rfl
   rotate_left
   · simp only [Act.put, sqa, sqb, sqc, i64_w, i32_w]
     rfl
   refine pure_ (i := 9) (N := some 62) (v := ?_) (a' := ?_) #[true, true, true, true, true, true, false, true, true, true, false, false, false, false, false] rfl rfl (any_of HT_.out s11q1) (fun _ _ _ h => h) (Or.inl ⟨by rfl, ?_⟩) ?_ ?_
   rotate_left
   · intro w'
     go_simp
     with_reducible rfl
   rotate_left
   · simp only [Act.put, sqa, sqb, sqc, i64_w, i32_w]
     rfl
   refine pure_ (i := 10) (N := some 63) (v := ?_) (a' := ?_) #[true, true, true, true, true, true, false, true, true, true, true, false, false, false, false] rfl rfl (any_of HT_.out s11q1) (fun _ _ _ h => h) (Or.inl ⟨by rfl, ?_⟩) ?_ ?_
   rotate_left
   · intro w'
     go_simp
     with_reducible rfl
   rotate_left
   · simp only [Act.put, sqa, sqb, sqc, i64_w, i32_w]
     rfl
   refine take_ (i := 6) (N := some 59) (v := ?_) (a' := ?_) #[true, true, true, true, true, true, true, true, true, true, true, false, false, false, false] rfl rfl (take_ofW HT_.out HW_.out s11q1) (fun _ _ _ h => h) (Or.inl ⟨by rfl, ?_⟩) hHeld ?_ ?_
   rotate_left
   · rintro w' ⟨s0, s1, s2, s3⟩
     go_simp
     with_reducible rfl
   rotate_left
   · simp only [Act.put, sqa, sqb, sqc, i64_w, i32_w]
     rfl
   refine take_ (i := 11) (N := some 64) (v := ?_) (a' := ?_) #[true, true, true, true, true, true, true, true, true, true, true, true, false, false, false] rfl rfl (take_ofW HT_.out HW_.out s11q1) (fun _ _ _ h => h) (Or.inl ⟨by rfl, ?_⟩) hHeld ?_ ?_
   rotate_left
   · rintro w' ⟨s0, s1, s2, s3⟩
     go_simp
     with_reducible rfl
   rotate_left
   · simp only [Act.put, sqa, sqb, sqc, i64_w, i32_w]
     rfl
   refine pure_ (i := 12) (N := some 65) (v := ?_) (a' := ?_) #[true, true, true, true, true, true, true, true, true, true, true, true, true, false, false] rfl rfl (any_of HT_.out s11q1) (fun _ _ _ h => h) (Or.inl ⟨by rfl, ?_⟩) ?_ ?_
   rotate_left
   · intro w'
     go_simp
     with_reducible rfl
   rotate_left
   · simp only [Act.put, sqa, sqb, sqc, i64_w, i32_w]
     rfl
   refine one_ (i := 13) (N := some 66) #[true, true, true, true, true, true, true, true, true, true, true, true, true, true, false] rfl rfl (one_of HT_.out s11q1) s11q0 (fun K hK => ?_)
   refine goes_ Tryd.func45 s11q1 rfl #[.slice A0 l0.length c0, .slice A1 l1.length c1, .int .i64 (Go.bits .or .i64 ((rd_T93 x8_2 x42_3).f0) ((rd_T93 x8_2 x15_4).f0))] (by rfl) rfl rfl s11q16 ?_
   with_reducible refine (peristyleref10_size.calls k4 _ _ l0 _ _ l1 (Go.bits .or .i64 ((rd_T93 x8_2 x42_3).f0) ((rd_T93 x8_2 x15_4).f0)) t359 _ ?side1 ?side2 ?side3 ?side4 A24.out).mono ?_
   (case side1 => repeat (first | exact (Kd.C_below HR0.out HB.out) | (with_reducible refine Kd.C_alloc ?_ _) | (with_reducible refine Kd.C_drewN ?_ _) | (with_reducible refine Kd.C_drew ?_)))
   (case side2 => exact HC0.out)
   (case side3 => repeat (first | exact (Kd.C_below HR1.out HB.out) | (with_reducible refine Kd.C_alloc ?_ _) | (with_reducible refine Kd.C_drewN ?_ _) | (with_reducible refine Kd.C_drew ?_)))
   (case side4 => exact HC1.out)
   rintro e w32 ⟨rfl, hb⟩
   have HS0_ := pw_cell_below hb hHeld.1
   have HS1_ := pw_cell_below hb hHeld.2.1
   have HS2_ := pw_cell_below hb hHeld.2.2.1
   have HS3_ := pw_cell_below hb hHeld.2.2.2
   refine ⟨_, rfl, ?_⟩
   have n0_ := Aside0.mk (Kd.N_below s11q5 hb)
   have n1_ := Aside0.mk (Kd.V_below s11q13 hb)
   have n2_ := Aside0.mk (Kd.V_below s11q14 hb)
   have n3_ := Aside0.mk (Kd.C_below s11q23 hb)
   have n4_ := Aside0.mk (Kd.C_below s11q24 hb)
   have n5_ := Aside0.mk (below_step s11q15 hb)
   clear HO_8
   clear HL357_1
   clear HL358_1
   clear HR357_1
   clear HR358_1
   clear HB
   have HO_8 := n0_
   have HL357_1 := n1_
   have HL358_1 := n2_
   have HR357_1 := n3_
   have HR358_1 := n4_
   have HB := n5_
   clear n0_ n1_ n2_ n3_ n4_ n5_
   (try clear hb)
   (try clear hb2)
   (try clear hk)
   (try clear hi)
   refine hK.out _ _ ⟨HS0_, HS1_, HS2_, HS3_⟩ (fun hHeld => ?_)
   clear hK K
   refine norm_ (a' := ?_) ?_ ?_
   rotate_left
   · show Act.put _ (some 66) _ = _
     simp only [Act.put, sqa, sqb, sqc, i64_w, i32_w]
     rfl
   refine pure_ (i := 14) (N := some 16) (v := ?_) (a' := ?_) #[true, true, true, true, true, true, true, true, true, true, true, true, true, true, true] rfl rfl (any_of HT_.out s11q1) (fun _ _ _ h => h) (Or.inl ⟨by rfl, ?_⟩) ?_ ?_
   rotate_left
   · intro w'
     go_simp
     with_reducible rfl
   rotate_left
   · simp only [Act.put, sqa, sqb, sqc, i64_w, i32_w]
     rfl
   refine done_ (done_of HT_.out s11q1) ?_
   try go_wp2
   first | go_roundg k4 | (refine Handed.intro k4 ?measure ?_; rotate_left; go_step; (repeat apply Exists.intro); simp only [add_plain]; refine ⟨?rel, rfl⟩)
   case measure => have := HK1.out; have := HK2.out; have := HK3.out; have := HK4.out; omega
   case rel => exact ⟨(x11_4), (x12_4), (x13_4), (wrap64 (x15_4 + 1)), s11q3, s11q3, s11q3, s11q3, H', ⟨by have := HK1.out; have := HK2.out; have := HK3.out; have := HK4.out; omega⟩, ⟨by (with_reducible repeat (first | apply Kd.N_alloc | apply Kd.N_drewN | apply Kd.N_drew)); exact HO_8.out⟩, ⟨by repeat (first | (with_reducible first | exact HB.out | apply below_alloc | apply pw_below_drewN | apply below_drew1) | exact HB.out)⟩⟩
 rw [if_neg c19] at H
 have c19b0 : decide (x42_3 < (x8_2.length : Int)) = false := decide_eq_false c19
 clear c19
 by_cases c33 : 0 ≤ x11_3
 case neg =>
  rw [if_neg c33] at H
  exact absurd H (by simp)
 rw [if_pos c33] at H
 have c33b0 : decide (0 ≤ x11_3) = true := decide_eq_true c33
 clear c33
 by_cases c34 : x11_3 < (x8_2.length : Int)
 case neg =>
  rw [if_neg c34] at H
  exact absurd H (by simp)
 rw [if_pos c34] at H
 have c34b0 : decide (x11_3 < (x8_2.length : Int)) = true := decide_eq_true c34
 clear c34
 by_cases c35 : 0 ≤ x12_3
 case neg =>
  rw [if_neg c35] at H
  exact absurd H (by simp)
 rw [if_pos c35] at H
 have c35b0 : decide (0 ≤ x12_3) = true := decide_eq_true c35
 clear c35
 by_cases c36 : x12_3 < (x8_2.length : Int)
 case neg =>
  rw [if_neg c36] at H
  exact absurd H (by simp)
 rw [if_pos c36] at H
 have c36b0 : decide (x12_3 < (x8_2.length : Int)) = true := decide_eq_true c36
 clear c36
 obtain ⟨y341, hy341⟩ : ∃ y_ : List (List Int), y_ = (([(rd_T93 x8_2 x11_3).f1, (rd_T93 x8_2 x12_3).f1] : List (List Int))) := ⟨_, rfl⟩
 replace H : ((slices_Concat_int_int.f k3 y341).bind fun t344 => ((some (([(-1)] : List Int) : List Int)).bind fun y347 => (if t344.length + y347.length < 17592186044416 then (peristyleref10_Greedy.l1 k3 l0 l1 ((x8_2.set (x11_3 : Int).toNat (⟨Go.bits .or .i64 ((rd_T93 x8_2 x11_3).f0) ((rd_T93 x8_2 x12_3).f0), (t344 ++ y347)⟩ : S93)).eraseIdx (x12_3 : Int).toNat) (mn 1000000000000000 (wrap64 (x10_2 + x13_3)))) else (none)))) = some (r1, r2, r3) := sqz hy341 H
 have Ny341 := Aside0.mk hy341
 clear hy341
 replace H := Option.bind_eq_some_iff.mp H
 obtain ⟨t344, A370, H⟩ := H
 replace H : ((some (([(-1)] : List Int) : List Int)).bind fun y347 => (if t344.length + y347.length < 17592186044416 then (peristyleref10_Greedy.l1 k3 l0 l1 ((x8_2.set (x11_3 : Int).toNat (⟨Go.bits .or .i64 ((rd_T93 x8_2 x11_3).f0) ((rd_T93 x8_2 x12_3).f0), (t344 ++ y347)⟩ : S93)).eraseIdx (x12_3 : Int).toNat) (mn 1000000000000000 (wrap64 (x10_2 + x13_3)))) else (none))) = some (r1, r2, r3) := H
 have A37 := Aside0.mk A370
 clear A370
 obtain ⟨y347, hy347⟩ : ∃ y_ : List Int, y_ = (([(-1)] : List Int)) := ⟨_, rfl⟩
 replace H : (if t344.length + y347.length < 17592186044416 then (peristyleref10_Greedy.l1 k3 l0 l1 ((x8_2.set (x11_3 : Int).toNat (⟨Go.bits .or .i64 ((rd_T93 x8_2 x11_3).f0) ((rd_T93 x8_2 x12_3).f0), (t344 ++ y347)⟩ : S93)).eraseIdx (x12_3 : Int).toNat) (mn 1000000000000000 (wrap64 (x10_2 + x13_3)))) else (none)) = some (r1, r2, r3) := sqz hy347 H
 have Ny347 := Aside0.mk hy347
 clear hy347
 by_cases c38 : t344.length + y347.length < 17592186044416
 case neg =>
  rw [if_neg c38] at H
  exact absurd H (by simp)
 rw [if_pos c38] at H
 have LMc38 := Aside0.mk c38
 clear c38
 obtain ⟨y350, hy350⟩ : ∃ y_ : List Int, y_ = (t344 ++ y347) := ⟨_, rfl⟩
 replace H : (peristyleref10_Greedy.l1 k3 l0 l1 ((x8_2.set (x11_3 : Int).toNat (⟨Go.bits .or .i64 ((rd_T93 x8_2 x11_3).f0) ((rd_T93 x8_2 x12_3).f0), y350⟩ : S93)).eraseIdx (x12_3 : Int).toNat) (mn 1000000000000000 (wrap64 (x10_2 + x13_3)))) = some (r1, r2, r3) := sqz hy350 H
 have Ny350 := Aside0.mk hy350
 clear hy350
 obtain ⟨y353, hy353⟩ : ∃ y_ : List (S93), y_ = (x8_2.set (x11_3 : Int).toNat (⟨Go.bits .or .i64 ((rd_T93 x8_2 x11_3).f0) ((rd_T93 x8_2 x12_3).f0), y350⟩ : S93)) := ⟨_, rfl⟩
 replace H : (peristyleref10_Greedy.l1 k3 l0 l1 (y353.eraseIdx (x12_3 : Int).toNat) (mn 1000000000000000 (wrap64 (x10_2 + x13_3)))) = some (r1, r2, r3) := sqz hy353 H
 have Ny353 := Aside0.mk hy353
 clear hy353
 obtain ⟨y354, hy354⟩ : ∃ y_ : List (S93), y_ = (y353.eraseIdx (x12_3 : Int).toNat) := ⟨_, rfl⟩
 replace H : (peristyleref10_Greedy.l1 k3 l0 l1 y354 (mn 1000000000000000 (wrap64 (x10_2 + x13_3)))) = some (r1, r2, r3) := sqz hy354 H
 have Ny354 := Aside0.mk hy354
 clear hy354
 obtain ⟨ji40, hji40⟩ : ∃ j_ : Int, (mn 1000000000000000 (wrap64 (x10_2 + x13_3))) = j_ := ⟨_, rfl⟩
 replace H : (peristyleref10_Greedy.l1 k3 l0 l1 y354 ji40) = some (r1, r2, r3) := by first | (rw [hji40] at H; exact H) | (simp only [hji40] at H ⊢; exact H)
 (try rw [hji40] at A37)
 have hji40_ : (if (wrap64 (x10_2 + x13_3)) < 1000000000000000 then (wrap64 (x10_2 + x13_3)) else 1000000000000000) = ji40 := hji40
 have H' := Aside0.mk H
 clear H
 try go_wp2
 have n0_ := Aside0.mk (Kd.N_drew HO_8.out)
 have n1_ := Aside0.mk (below_drew1 HB.out)
 clear HO_8
 clear HB
 have HO_8 := n0_
 have HB := n1_
 clear n0_ n1_
 have p337 : 0 ≤ (x11_3 : Int) := of_decide_eq_true s11q4
 have q337 : x11_3 < (x8_2.length : Int) := of_decide_eq_true s11q4
 obtain ⟨ad337, A337_1, c337_1, e337, hx337_0, hx337_1, hl337_1, hi337_1⟩ := at_T93 (Kd.N_reads' HO_8.out).2.2 x11_3 p337 q337
 cases e337
 obtain ⟨ce337, hce337, hMe337, hcc337⟩ := Kd.N_get HO_8.out z93 x11_3 p337 (by first | exact q337 | exact of_decide_eq_true s11q4 | (have e_ := (Kd.N_reads' HO_8.out).1; omega))
 obtain ⟨ua337_1, uc337_1, rfl, ul337_1, ge337_1⟩ := k93_openF hMe337
 have hv337_1 := hcc337 1 _ rfl
 rw [add_field _ _ 1 (by omega)] at hv337_1
 replace hv337_1 := Option.some.inj (hv337_1.symm.trans hx337_1)
 injection hv337_1 with hva_ hvn_ hvc_
 rw [hva_] at ge337_1
 rw [hvc_] at ul337_1
 have HL337_1 := Aside0.mk (show Kd.V (Kd.int .i64) 3 _ w.heap.size _ _ ((rd_T93 x8_2 x11_3).f1) from Kd.V_mk ul337_1 ge337_1)
 clear hva_ hvn_ hvc_ ge337_1 ul337_1
 clear hcc337 hce337
 have HR337_1 := Aside0.mk hi337_1
 have HC337_1 := Aside0.mk hl337_1
 clear hi337_1 hl337_1
 replace p337 := eq_true p337
 replace q337 := eq_true q337
 have p338 : 0 ≤ (x12_3 : Int) := of_decide_eq_true s11q4
 have q338 : x12_3 < (x8_2.length : Int) := of_decide_eq_true s11q4
 obtain ⟨ad338, A338_1, c338_1, e338, hx338_0, hx338_1, hl338_1, hi338_1⟩ := at_T93 (Kd.N_reads' HO_8.out).2.2 x12_3 p338 q338
 obtain rfl : ad337 = ad338 := (by injection e338)
 obtain ⟨ce338, hce338, hMe338, hcc338⟩ := Kd.N_get HO_8.out z93 x12_3 p338 (by first | exact q338 | exact of_decide_eq_true s11q4 | (have e_ := (Kd.N_reads' HO_8.out).1; omega))
 obtain ⟨ua338_1, uc338_1, rfl, ul338_1, ge338_1⟩ := k93_openF hMe338
 have hv338_1 := hcc338 1 _ rfl
 rw [add_field _ _ 1 (by omega)] at hv338_1
 replace hv338_1 := Option.some.inj (hv338_1.symm.trans hx338_1)
 injection hv338_1 with hva_ hvn_ hvc_
 rw [hva_] at ge338_1
 rw [hvc_] at ul338_1
 have HL338_1 := Aside0.mk (show Kd.V (Kd.int .i64) 3 _ w.heap.size _ _ ((rd_T93 x8_2 x12_3).f1) from Kd.V_mk ul338_1 ge338_1)
 clear hva_ hvn_ hvc_ ge338_1 ul338_1
 clear hcc338 hce338
 have HR338_1 := Aside0.mk hi338_1
 have HC338_1 := Aside0.mk hl338_1
 clear hi338_1 hl338_1
 replace p338 := eq_true p338
 replace q338 := eq_true q338
 have p339 : 0 ≤ (x11_3 : Int) := of_decide_eq_true s11q4
 have q339 : x11_3 < (x8_2.length : Int) := of_decide_eq_true s11q4
 obtain ⟨ad339, A339_1, c339_1, e339, hx339_0, hx339_1, hl339_1, hi339_1⟩ := at_T93 (Kd.N_reads' HO_8.out).2.2 x11_3 p339 q339
 obtain rfl : ad337 = ad339 := (by injection e339)
 obtain ⟨ce339, hce339, hMe339, hcc339⟩ := Kd.N_get HO_8.out z93 x11_3 p339 (by first | exact q339 | exact of_decide_eq_true s11q4 | (have e_ := (Kd.N_reads' HO_8.out).1; omega))
 obtain ⟨ua339_1, uc339_1, rfl, ul339_1, ge339_1⟩ := k93_openF hMe339
 have hv339_1 := hcc339 1 _ rfl
 rw [add_field _ _ 1 (by omega)] at hv339_1
 replace hv339_1 := Option.some.inj (hv339_1.symm.trans hx339_1)
 injection hv339_1 with hva_ hvn_ hvc_
 rw [hva_] at ge339_1
 rw [hvc_] at ul339_1
 have HL339_1 := Aside0.mk (show Kd.V (Kd.int .i64) 3 _ w.heap.size _ _ ((rd_T93 x8_2 x11_3).f1) from Kd.V_mk ul339_1 ge339_1)
 clear hva_ hvn_ hvc_ ge339_1 ul339_1
 clear hcc339 hce339
 have HR339_1 := Aside0.mk hi339_1
 have HC339_1 := Aside0.mk hl339_1
 clear hi339_1 hl339_1
 replace p339 := eq_true p339
 replace q339 := eq_true q339
 have ea_ := Option.some.inj (hx337_1.symm.trans hx339_1)
 injection ea_ with ea_ en_ ec_
 subst ea_
 subst ec_
 clear en_
 have p340 : 0 ≤ (x12_3 : Int) := of_decide_eq_true s11q4
 have q340 : x12_3 < (x8_2.length : Int) := of_decide_eq_true s11q4
 obtain ⟨ad340, A340_1, c340_1, e340, hx340_0, hx340_1, hl340_1, hi340_1⟩ := at_T93 (Kd.N_reads' HO_8.out).2.2 x12_3 p340 q340
 obtain rfl : ad337 = ad340 := (by injection e340)
 obtain ⟨ce340, hce340, hMe340, hcc340⟩ := Kd.N_get HO_8.out z93 x12_3 p340 (by first | exact q340 | exact of_decide_eq_true s11q4 | (have e_ := (Kd.N_reads' HO_8.out).1; omega))
 obtain ⟨ua340_1, uc340_1, rfl, ul340_1, ge340_1⟩ := k93_openF hMe340
 have hv340_1 := hcc340 1 _ rfl
 rw [add_field _ _ 1 (by omega)] at hv340_1
 replace hv340_1 := Option.some.inj (hv340_1.symm.trans hx340_1)
 injection hv340_1 with hva_ hvn_ hvc_
 rw [hva_] at ge340_1
 rw [hvc_] at ul340_1
 have HL340_1 := Aside0.mk (show Kd.V (Kd.int .i64) 3 _ w.heap.size _ _ ((rd_T93 x8_2 x12_3).f1) from Kd.V_mk ul340_1 ge340_1)
 clear hva_ hvn_ hvc_ ge340_1 ul340_1
 clear hcc340 hce340
 have HR340_1 := Aside0.mk hi340_1
 have HC340_1 := Aside0.mk hl340_1
 clear hi340_1 hl340_1
 replace p340 := eq_true p340
 replace q340 := eq_true q340
 have ea_ := Option.some.inj (hx338_1.symm.trans hx340_1)
 injection ea_ with ea_ en_ ec_
 subst ea_
 subst ec_
 clear en_
 refine start_ (n := 30) (S := fun w' => w'.cell? (ad337.add ((x11_3).toNat * 2)) = some (.int .i64 ((rd_T93 x8_2 x11_3).f0)) ∧ w'.cell? ⟨(ad337.add ((x11_3).toNat * 2)).block, (ad337.add ((x11_3).toNat * 2)).off + 1, none⟩ = some (.slice A337_1 ((rd_T93 x8_2 x11_3).f1).length c337_1) ∧ w'.cell? (ad337.add ((x12_3).toNat * 2)) = some (.int .i64 ((rd_T93 x8_2 x12_3).f0)) ∧ w'.cell? ⟨(ad337.add ((x12_3).toNat * 2)).block, (ad337.add ((x12_3).toNat * 2)).off + 1, none⟩ = some (.slice A338_1 ((rd_T93 x8_2 x12_3).f1).length c338_1) ∧ w'.cell? (ad337.add ((x11_3).toNat * 2)) = some (.int .i64 ((rd_T93 x8_2 x11_3).f0)) ∧ w'.cell? ⟨(ad337.add ((x11_3).toNat * 2)).block, (ad337.add ((x11_3).toNat * 2)).off + 1, none⟩ = some (.slice A337_1 ((rd_T93 x8_2 x11_3).f1).length c337_1) ∧ w'.cell? (ad337.add ((x12_3).toNat * 2)) = some (.int .i64 ((rd_T93 x8_2 x12_3).f0)) ∧ w'.cell? ⟨(ad337.add ((x12_3).toNat * 2)).block, (ad337.add ((x12_3).toNat * 2)).off + 1, none⟩ = some (.slice A338_1 ((rd_T93 x8_2 x12_3).f1).length c338_1)) (ds := [29]) #[false, false, false, false, false, false, false, false, false, false, false, false, false, false, false, false, false, false, false, false, false, false, false, false, false, false, false, false, false, false] s11q1 rfl rfl ⟨hx337_0, hx337_1, hx338_0, hx338_1, hx339_0, hx339_1, hx340_0, hx340_1⟩ (fun hHeld => ?_); refine with_tabW peristyleref10_Greedy.tab23 peristyleref10_Greedy.bits23 (fun HT_ HW_ => ?_)
 generalize wr.drew = w41 at HO_8 HB HL337_1 HL338_1 HL339_1 HL340_1 HR337_1 HR338_1 HR339_1 HR340_1 hx337_0 hx337_1 hx338_0 hx338_1 hx339_0 hx339_1 hx340_0 hx340_1 hHeld ⊢
 refine pure_ (i := 0) (N := some 78) (v := ?_) (a' := ?_) #[true, false, false, false, false, false, false, false, false, false, false, false, false, false, false, false, false, false, false, false, false, false, false, false, false, false, false, false, false, false] rfl rfl (any_of HT_.out s11q1) (fun _ _ _ h => h) (Or.inl ⟨by rfl, ?_⟩) ?_ ?_
 rotate_left
 · intro w'
   go_simp
   with_reducible rfl
 rotate_left
 · simp only [Act.put, sqa, sqb, sqc, i64_w, i32_w]
   rfl
 refine pure_ (i := 1) (N := some 79) (v := ?_) (a' := ?_) #[true, true, false, false, false, false, false, false, false, false, false, false, false, false, false, false, false, false, false, false, false, false, false, false, false, false, false, false, false, false] rfl rfl (any_of HT_.out s11q1) (fun _ _ _ h => h) (Or.inl ⟨by rfl, ?_⟩) ?_ ?_
 rotate_left
 · intro w'
   go_simp
   with_reducible rfl
 rotate_left
 · simp only [Act.put, sqa, sqb, sqc, i64_w, i32_w]
   rfl
 refine pure_ (i := 2) (N := some 80) (v := ?_) (a' := ?_) #[true, true, true, false, false, false, false, false, false, false, false, false, false, false, false, false, false, false, false, false, false, false, false, false, false, false, false, false, false, false] rfl rfl (any_of HT_.out s11q1) (fun _ _ _ h => h) (Or.inl ⟨by rfl, ?_⟩) ?_ ?_
 rotate_left
 · intro w'
   go_simp
   with_reducible rfl
 rotate_left
 · simp only [Act.put, sqa, sqb, sqc, i64_w, i32_w]
   rfl
 refine pure_ (i := 3) (N := some 81) (v := ?_) (a' := ?_) #[true, true, true, true, false, false, false, false, false, false, false, false, false, false, false, false, false, false, false, false, false, false, false, false, false, false, false, false, false, false] rfl rfl (any_of HT_.out s11q1) (fun _ _ _ h => h) (Or.inl ⟨by rfl, ?_⟩) ?_ ?_
 rotate_left
 · intro w'
   go_simp
   with_reducible rfl
 rotate_left
 · simp only [Act.put, sqa, sqb, sqc, i64_w, i32_w]
   rfl
 refine pure_ (i := 4) (N := some 82) (v := ?_) (a' := ?_) #[true, true, true, true, true, false, false, false, false, false, false, false, false, false, false, false, false, false, false, false, false, false, false, false, false, false, false, false, false, false] rfl rfl (any_of HT_.out s11q1) (fun _ _ _ h => h) (Or.inl ⟨by rfl, ?_⟩) ?_ ?_
 rotate_left
 · intro w'
   go_simp
   with_reducible rfl
 rotate_left
 · simp only [Act.put, sqa, sqb, sqc, i64_w, i32_w]
   rfl
 refine pure_ (i := 5) (N := some 83) (v := ?_) (a' := ?_) #[true, true, true, true, true, true, false, false, false, false, false, false, false, false, false, false, false, false, false, false, false, false, false, false, false, false, false, false, false, false] rfl rfl (any_of HT_.out s11q1) (fun _ _ _ h => h) (Or.inl ⟨by rfl, ?_⟩) ?_ ?_
 rotate_left
 · intro w'
   go_simp
   with_reducible rfl
 rotate_left
 · simp only [Act.put, sqa, sqb, sqc, i64_w, i32_w]
   rfl
 refine pure_ (i := 7) (N := some 85) (v := ?_) (a' := ?_) #[true, true, true, true, true, true, false, true, false, false, false, false, false, false, false, false, false, false, false, false, false, false, false, false, false, false, false, false, false, false] rfl rfl (any_of HT_.out s11q1) (fun _ _ _ h => h) (Or.inl ⟨by rfl, ?_⟩) ?_ ?_
 rotate_left
 · intro w'
   go_simp
   with_reducible rfl
 rotate_left
 · simp only [Act.put, sqa, sqb, sqc, i64_w, i32_w]
   rfl
 refine pure_ (i := 8) (N := some 86) (v := ?_) (a' := ?_) #[true, true, true, true, true, true, false, true, true, false, false, false, false, false, false, false, false, false, false, false, false, false, false, false, false, false, false, false, false, false] rfl rfl (any_of HT_.out s11q1) (fun _ _ _ h => h) (Or.inl ⟨by rfl, ?_⟩) ?_ ?_
 rotate_left
 · intro w'
   go_simp
   with_reducible rfl
 rotate_left
 · simp only [Act.put, sqa, sqb, sqc, i64_w, i32_w]
   rfl
 refine pure_ (i := 9) (N := some 87) (v := ?_) (a' := ?_) #[true, true, true, true, true, true, false, true, true, true, false, false, false, false, false, false, false, false, false, false, false, false, false, false, false, false, false, false, false, false] rfl rfl (any_of HT_.out s11q1) (fun _ _ _ h => h) (Or.inl ⟨by rfl, ?_⟩) ?_ ?_
 rotate_left
 · intro w'
   go_simp
   with_reducible rfl
 rotate_left
 · simp only [Act.put, sqa, sqb, sqc, i64_w, i32_w]
   rfl
 refine pure_ (i := 10) (N := some 88) (v := ?_) (a' := ?_) #[true, true, true, true, true, true, false, true, true, true, true, false, false, false, false, false, false, false, false, false, false, false, false, false, false, false, false, false, false, false] rfl rfl (any_of HT_.out s11q1) (fun _ _ _ h => h) (Or.inl ⟨by rfl, ?_⟩) ?_ ?_
 rotate_left
 · intro w'
   go_simp
   with_reducible rfl
 rotate_left
 · simp only [Act.put, sqa, sqb, sqc, i64_w, i32_w]
   rfl
 refine pure_ (i := 13) (N := some 91) (v := ?_) (a' := ?_) #[true, true, true, true, true, true, false, true, true, true, true, false, false, true, false, false, false, false, false, false, false, false, false, false, false, false, false, false, false, false] rfl rfl (any_of HT_.out s11q1) (fun _ _ _ h => h) (Or.inl ⟨by rfl, ?_⟩) ?_ ?_
 rotate_left
 · intro w'
   go_simp
   with_reducible rfl
 rotate_left
 · simp only [Act.put, sqa, sqb, sqc, i64_w, i32_w]
   rfl
 refine pure_ (i := 14) (N := some 92) (v := ?_) (a' := ?_) #[true, true, true, true, true, true, false, true, true, true, true, false, false, true, true, false, false, false, false, false, false, false, false, false, false, false, false, false, false, false] rfl rfl (any_of HT_.out s11q1) (fun _ _ _ h => h) (Or.inl ⟨by rfl, ?_⟩) ?_ ?_
 rotate_left
 · intro w'
   go_simp
   with_reducible rfl
 rotate_left
 · simp only [Act.put, sqa, sqb, sqc, i64_w, i32_w]
   rfl
 refine pure_ (i := 15) (N := some 93) (v := ?_) (a' := ?_) #[true, true, true, true, true, true, false, true, true, true, true, false, false, true, true, true, false, false, false, false, false, false, false, false, false, false, false, false, false, false] rfl rfl (any_of HT_.out s11q1) (fun _ _ _ h => h) (Or.inl ⟨by rfl, ?_⟩) ?_ ?_
 rotate_left
 · intro w'
   go_simp
   with_reducible rfl
 rotate_left
 · simp only [Act.put, sqa, sqb, sqc, i64_w, i32_w]
   rfl
 refine pure_ (i := 16) (N := some 94) (v := ?_) (a' := ?_) #[true, true, true, true, true, true, false, true, true, true, true, false, false, true, true, true, true, false, false, false, false, false, false, false, false, false, false, false, false, false] rfl rfl (any_of HT_.out s11q1) (fun _ _ _ h => h) (Or.inl ⟨by rfl, ?_⟩) ?_ ?_
 rotate_left
 · intro w'
   go_simp
   with_reducible rfl
 rotate_left
 · simp only [Act.put, sqa, sqb, sqc, i64_w, i32_w]
   rfl
 refine pure_ (i := 18) (N := some 96) (v := ?_) (a' := ?_) #[true, true, true, true, true, true, false, true, true, true, true, false, false, true, true, true, true, false, true, false, false, false, false, false, false, false, false, false, false, false] rfl rfl (any_of HT_.out s11q1) (fun _ _ _ h => h) (Or.inl ⟨by rfl, ?_⟩) ?_ ?_
 rotate_left
 · intro w'
   go_simp
   with_reducible rfl
 rotate_left
 · simp only [Act.put, sqa, sqb, sqc, i64_w, i32_w]
   rfl
 refine pure_ (i := 19) (N := some 97) (v := ?_) (a' := ?_) #[true, true, true, true, true, true, false, true, true, true, true, false, false, true, true, true, true, false, true, true, false, false, false, false, false, false, false, false, false, false] rfl rfl (any_of HT_.out s11q1) (fun _ _ _ h => h) (Or.inl ⟨by rfl, ?_⟩) ?_ ?_
 rotate_left
 · intro w'
   go_simp
   with_reducible rfl
 rotate_left
 · simp only [Act.put, sqa, sqb, sqc, i64_w, i32_w]
   rfl
 refine pure_ (i := 20) (N := some 98) (v := ?_) (a' := ?_) #[true, true, true, true, true, true, false, true, true, true, true, false, false, true, true, true, true, false, true, true, true, false, false, false, false, false, false, false, false, false] rfl rfl (any_of HT_.out s11q1) (fun _ _ _ h => h) (Or.inl ⟨by rfl, ?_⟩) ?_ ?_
 rotate_left
 · intro w'
   go_simp
   with_reducible rfl
 rotate_left
 · simp only [Act.put, sqa, sqb, sqc, i64_w, i32_w]
   rfl
 refine pure_ (i := 21) (N := some 99) (v := ?_) (a' := ?_) #[true, true, true, true, true, true, false, true, true, true, true, false, false, true, true, true, true, false, true, true, true, true, false, false, false, false, false, false, false, false] rfl rfl (any_of HT_.out s11q1) (fun _ _ _ h => h) (Or.inl ⟨by rfl, ?_⟩) ?_ ?_
 rotate_left
 · intro w'
   go_simp
   with_reducible rfl
 rotate_left
 · simp only [Act.put, sqa, sqb, sqc, i64_w, i32_w]
   rfl
 refine take_ (i := 6) (N := some 84) (v := ?_) (a' := ?_) #[true, true, true, true, true, true, true, true, true, true, true, false, false, true, true, true, true, false, true, true, true, true, false, false, false, false, false, false, false, false] rfl rfl (take_ofW HT_.out HW_.out s11q1) (fun _ _ _ h => h) (Or.inl ⟨by rfl, ?_⟩) hHeld ?_ ?_
 rotate_left
 · rintro w' ⟨s0, s1, s2, s3, s4, s5, s6, s7⟩
   go_simp
   with_reducible rfl
 rotate_left
 · simp only [Act.put, sqa, sqb, sqc, i64_w, i32_w]
   rfl
 refine take_ (i := 11) (N := some 89) (v := ?_) (a' := ?_) #[true, true, true, true, true, true, true, true, true, true, true, true, false, true, true, true, true, false, true, true, true, true, false, false, false, false, false, false, false, false] rfl rfl (take_ofW HT_.out HW_.out s11q1) (fun _ _ _ h => h) (Or.inl ⟨by rfl, ?_⟩) hHeld ?_ ?_
 rotate_left
 · rintro w' ⟨s0, s1, s2, s3, s4, s5, s6, s7⟩
   go_simp
   with_reducible rfl
 rotate_left
 · simp only [Act.put, sqa, sqb, sqc, i64_w, i32_w]
   rfl
 refine pure_ (i := 12) (N := some 90) (v := ?_) (a' := ?_) #[true, true, true, true, true, true, true, true, true, true, true, true, true, true, true, true, true, false, true, true, true, true, false, false, false, false, false, false, false, false] rfl rfl (any_of HT_.out s11q1) (fun _ _ _ h => h) (Or.inl ⟨by rfl, ?_⟩) ?_ ?_
 rotate_left
 · intro w'
   go_simp
   with_reducible rfl
 rotate_left
 · simp only [Act.put, sqa, sqb, sqc, i64_w, i32_w]
   rfl
 refine take_ (i := 17) (N := some 95) (v := ?_) (a' := ?_) #[true, true, true, true, true, true, true, true, true, true, true, true, true, true, true, true, true, true, true, true, true, true, false, false, false, false, false, false, false, false] rfl rfl (take_ofW HT_.out HW_.out s11q1) (fun _ _ _ h => h) (Or.inl ⟨by rfl, ?_⟩) hHeld ?_ ?_
 rotate_left
 · rintro w' ⟨s0, s1, s2, s3, s4, s5, s6, s7⟩
   go_simp
   with_reducible rfl
 rotate_left
 · simp only [Act.put, sqa, sqb, sqc, i64_w, i32_w]
   rfl
 refine take_ (i := 22) (N := some 100) (v := ?_) (a' := ?_) #[true, true, true, true, true, true, true, true, true, true, true, true, true, true, true, true, true, true, true, true, true, true, true, false, false, false, false, false, false, false] rfl rfl (take_ofW HT_.out HW_.out s11q1) (fun _ _ _ h => h) (Or.inl ⟨by rfl, ?_⟩) hHeld ?_ ?_
 rotate_left
 · rintro w' ⟨s0, s1, s2, s3, s4, s5, s6, s7⟩
   go_simp
   with_reducible rfl
 rotate_left
 · simp only [Act.put, sqa, sqb, sqc, i64_w, i32_w]
   rfl
 refine join_ (σ := Value × Value × Value) 4 #[true, true, true, true, true, true, true, true, true, true, true, true, true, true, true, true, true, true, true, true, true, true, true, true, true, true, false, false, false, false] (fun s_ => [(101, s_.1), (102, s_.2.1), (103, s_.2.2)]) (fun s_ w' => (w'.cell? (ad337.add ((x11_3).toNat * 2)) = some (.int .i64 ((rd_T93 x8_2 x11_3).f0)) ∧ w'.cell? ⟨(ad337.add ((x11_3).toNat * 2)).block, (ad337.add ((x11_3).toNat * 2)).off + 1, none⟩ = some (.slice A337_1 ((rd_T93 x8_2 x11_3).f1).length c337_1) ∧ w'.cell? (ad337.add ((x12_3).toNat * 2)) = some (.int .i64 ((rd_T93 x8_2 x12_3).f0)) ∧ w'.cell? ⟨(ad337.add ((x12_3).toNat * 2)).block, (ad337.add ((x12_3).toNat * 2)).off + 1, none⟩ = some (.slice A338_1 ((rd_T93 x8_2 x12_3).f1).length c338_1) ∧ w'.cell? (ad337.add ((x11_3).toNat * 2)) = some (.int .i64 ((rd_T93 x8_2 x11_3).f0)) ∧ w'.cell? ⟨(ad337.add ((x11_3).toNat * 2)).block, (ad337.add ((x11_3).toNat * 2)).off + 1, none⟩ = some (.slice A337_1 ((rd_T93 x8_2 x11_3).f1).length c337_1) ∧ w'.cell? (ad337.add ((x12_3).toNat * 2)) = some (.int .i64 ((rd_T93 x8_2 x12_3).f0)) ∧ w'.cell? ⟨(ad337.add ((x12_3).toNat * 2)).block, (ad337.add ((x12_3).toNat * 2)).off + 1, none⟩ = some (.slice A338_1 ((rd_T93 x8_2 x12_3).f1).length c338_1)) ∧ (Kd.V (Kd.int .i64) 3 w' w.heap.size (fun k_ => (w.heap.size ≤ k_) ∧ some k_ ≠ (s_.1 : Value).ownBlock ∧ some k_ ≠ (s_.2.1 : Value).ownBlock ∧ some k_ ≠ (s_.2.2 : Value).ownBlock ∧ some k_ ≠ (.slice (some ad337) x8_2.length co18 : Value).ownBlock) (.slice A337_1 ((rd_T93 x8_2 x11_3).f1).length c337_1) ((rd_T93 x8_2 x11_3).f1)) ∧ (Kd.V (Kd.int .i64) 3 w' w.heap.size (fun k_ => (w.heap.size ≤ k_) ∧ some k_ ≠ (s_.1 : Value).ownBlock ∧ some k_ ≠ (s_.2.1 : Value).ownBlock ∧ some k_ ≠ (s_.2.2 : Value).ownBlock ∧ some k_ ≠ (.slice (some ad337) x8_2.length co18 : Value).ownBlock) (.slice A338_1 ((rd_T93 x8_2 x12_3).f1).length c338_1) ((rd_T93 x8_2 x12_3).f1)) ∧ (Kd.V (Kd.int .i64) 3 w' w.heap.size (fun k_ => (w.heap.size ≤ k_) ∧ some k_ ≠ (s_.1 : Value).ownBlock ∧ some k_ ≠ (s_.2.1 : Value).ownBlock ∧ some k_ ≠ (s_.2.2 : Value).ownBlock ∧ some k_ ≠ (.slice (some ad337) x8_2.length co18 : Value).ownBlock) (.slice A337_1 ((rd_T93 x8_2 x11_3).f1).length c337_1) ((rd_T93 x8_2 x11_3).f1)) ∧ (Kd.V (Kd.int .i64) 3 w' w.heap.size (fun k_ => (w.heap.size ≤ k_) ∧ some k_ ≠ (s_.1 : Value).ownBlock ∧ some k_ ≠ (s_.2.1 : Value).ownBlock ∧ some k_ ≠ (s_.2.2 : Value).ownBlock ∧ some k_ ≠ (.slice (some ad337) x8_2.length co18 : Value).ownBlock) (.slice A338_1 ((rd_T93 x8_2 x12_3).f1).length c338_1) ((rd_T93 x8_2 x12_3).f1)) ∧ (Kd.N (Kd.slice 3 (Kd.int .i64)) 22 w' w.heap.size (fun k_ => (w.heap.size ≤ k_) ∧ some k_ ≠ (s_.2.1 : Value).ownBlock ∧ some k_ ≠ (s_.2.2 : Value).ownBlock ∧ some k_ ≠ (.slice (some ad337) x8_2.length co18 : Value).ownBlock) s_.1 y341) ∧ (Kd.R (Kd.int .i64) 3 w' w.heap.size (fun k_ => (w.heap.size ≤ k_) ∧ some k_ ≠ (s_.2.2 : Value).ownBlock) s_.2.1 t344) ∧ (Kd.R (Kd.int .i64) 3 w' w.heap.size (fun k_ => (w.heap.size ≤ k_) ∧ some k_ ≠ (s_.2.1 : Value).ownBlock) s_.2.2 y347) ∧ (Kd.N k93 93 w' w.heap.size (fun k_ => (w.heap.size ≤ k_) ∧ some k_ ≠ (s_.1 : Value).ownBlock ∧ some k_ ≠ (s_.2.1 : Value).ownBlock ∧ some k_ ≠ (s_.2.2 : Value).ownBlock) (.slice (some ad337) x8_2.length co18) x8_2) ∧ (Below w.heap.size w w')) ?_ ?_
 rotate_left
 · intro hCont
   refine two_ (i := 23) (j := 25) (Ni := some 101) (Nj := some 103) #[true, true, true, true, true, true, true, true, true, true, true, true, true, true, true, true, true, true, true, true, true, true, true, true, false, false, false, false, false, false] #[true, true, true, true, true, true, true, true, true, true, true, true, true, true, true, true, true, true, true, true, true, true, true, false, false, true, false, false, false, false] rfl rfl rfl rfl (two_of HT_.out s11q1) s11q0 s11q0 (fun K hK => ?_) (fun K hK => ?_)
   · skip
     refine Kd.N_lit_step (Kd.slice 3 (Kd.int .i64)) _ 22 ?hg (N' := 101) ?hd (xs := ([(rd_T93 x8_2 x11_3).f1, (rd_T93 x8_2 x12_3).f1] : List (List Int))) (inner := [.slice A337_1 ((rd_T93 x8_2 x11_3).f1).length c337_1, .slice A338_1 ((rd_T93 x8_2 x12_3).f1).length c338_1]) (ok := (fun k_ => (w.heap.size ≤ k_) ∧ some k_ ≠ (.slice (some ad337) x8_2.length co18 : Value).ownBlock)) (okp := (fun k_ => (w.heap.size ≤ k_) ∧ some k_ ≠ (.slice (some ad337) x8_2.length co18 : Value).ownBlock)) ?hr ?hp (fun _ hk => hk) ((show ∀ k_, w41.heap.size ≤ k_ → (fun k_ => (w.heap.size ≤ k_) ∧ some k_ ≠ (.slice (some ad337) x8_2.length co18 : Value).ownBlock) k_ from fun k_ hk => ⟨(Nat.le_trans (below_size s11q15) hk), Kd.fresh' (Kd.N_lt s11q5) k_ hk⟩) _ (Nat.le_refl _)) (Below.refl _ _) (Nat.le_refl _) (by simp) ?_; (case hd => rfl); (case hg => rfl); (case hr => first | (go_simp; done) | (go_simp; rfl)); (case hp => exact (Reps.one (show Kd.FK (Kd.slice 3 (Kd.int .i64)) _ _ ((rd_T93 x8_2 x11_3).f1) [.slice A337_1 ((rd_T93 x8_2 x11_3).f1).length c337_1] from (Kd.FK_slice_mk (Kd.V_reads' (Kd.V_mono (ok' := (fun k_ => (w.heap.size ≤ k_) ∧ some k_ ≠ (.slice (some ad337) x8_2.length co18 : Value).ownBlock)) (HL339_1.out) (fun k_ hk => ⟨hk.1, hk.2⟩))).2.1 (Kd.V_F (Kd.V_mono (ok' := (fun k_ => (w.heap.size ≤ k_) ∧ some k_ ≠ (.slice (some ad337) x8_2.length co18 : Value).ownBlock)) (HL339_1.out) (fun k_ hk => ⟨hk.1, hk.2⟩))))) (Reps.one (show Kd.FK (Kd.slice 3 (Kd.int .i64)) _ _ ((rd_T93 x8_2 x12_3).f1) [.slice A338_1 ((rd_T93 x8_2 x12_3).f1).length c338_1] from (Kd.FK_slice_mk (Kd.V_reads' (Kd.V_mono (ok' := (fun k_ => (w.heap.size ≤ k_) ∧ some k_ ≠ (.slice (some ad337) x8_2.length co18 : Value).ownBlock)) (HL340_1.out) (fun k_ hk => ⟨hk.1, hk.2⟩))).2.1 (Kd.V_F (Kd.V_mono (ok' := (fun k_ => (w.heap.size ≤ k_) ∧ some k_ ≠ (.slice (some ad337) x8_2.length co18 : Value).ownBlock)) (HL340_1.out) (fun k_ hk => ⟨hk.1, hk.2⟩))))) (Reps.none _ _))))
     intro v342 w42 ho43 hb hg_ hnew_
     have HS0_ := pw_cell_below hb hHeld.1
     have HS1_ := pw_cell_below hb hHeld.2.1
     have HS2_ := pw_cell_below hb hHeld.2.2.1
     have HS3_ := pw_cell_below hb hHeld.2.2.2.1
     have HS4_ := pw_cell_below hb hHeld.2.2.2.2.1
     have HS5_ := pw_cell_below hb hHeld.2.2.2.2.2.1
     have HS6_ := pw_cell_below hb hHeld.2.2.2.2.2.2.1
     have HS7_ := pw_cell_below hb hHeld.2.2.2.2.2.2.2
     clear hg_ hnew_
     (first | rw [← Ny341.out] at ho43 | (simp only [Int.reduceToNat] at ho43; rw [← Ny341.out] at ho43))
     have n0_ := Aside0.mk (Kd.N_elder' s11q5 (Kd.N_base ho43) hb)
     have n1_ := Aside0.mk (Kd.V_elder' s11q9 (Kd.N_base ho43) hb)
     have n2_ := Aside0.mk (Kd.V_elder' s11q10 (Kd.N_base ho43) hb)
     have n3_ := Aside0.mk (Kd.V_elder' s11q11 (Kd.N_base ho43) hb)
     have n4_ := Aside0.mk (Kd.V_elder' s11q12 (Kd.N_base ho43) hb)
     have n5_ := Aside0.mk (Kd.N_lower ho43 (below_size s11q15))
     have n6_ := Aside0.mk (Kd.C_below s11q19 hb)
     have n7_ := Aside0.mk (Kd.C_below s11q20 hb)
     have n8_ := Aside0.mk (Kd.C_below s11q21 hb)
     have n9_ := Aside0.mk (Kd.C_below s11q22 hb)
     have n10_ := Aside0.mk (below_step s11q15 hb)
     clear HO_8
     clear HL337_1
     clear HL338_1
     clear HL339_1
     clear HL340_1
     clear HR337_1
     clear HR338_1
     clear HR339_1
     clear HR340_1
     clear HB
     have HO_8 := n0_
     have HL337_1 := n1_
     have HL338_1 := n2_
     have HL339_1 := n3_
     have HL340_1 := n4_
     have HO343 := n5_
     have HR337_1 := n6_
     have HR338_1 := n7_
     have HR339_1 := n8_
     have HR340_1 := n9_
     have HB := n10_
     clear n0_ n1_ n2_ n3_ n4_ n5_ n6_ n7_ n8_ n9_ n10_
     clear hb ho43
     obtain ⟨Ao44, co44, eo44⟩ := Kd.N_slice HO343.out
     (first | subst eo44 | (injection eo44 with f1_ f2_ f3_; have f4_ := f1_.symm; have f5_ := f3_.symm; clear f1_ f2_ f3_; subst f4_; subst f5_))
     refine hK.out _ _ ⟨HS0_, HS1_, HS2_, HS3_, HS4_, HS5_, HS6_, HS7_⟩ (fun hHeld => ?_)
     clear hK K
     refine norm_ (a' := ?_) ?_ ?_
     rotate_left
     · show Act.put _ (some 101) _ = _
       simp only [Act.put, sqa, sqb, sqc, i64_w, i32_w]
       rfl
     refine two_ (i := 24) (j := 25) (Ni := some 102) (Nj := some 103) #[true, true, true, true, true, true, true, true, true, true, true, true, true, true, true, true, true, true, true, true, true, true, true, true, true, false, false, false, false, false] #[true, true, true, true, true, true, true, true, true, true, true, true, true, true, true, true, true, true, true, true, true, true, true, true, false, true, false, false, false, false] rfl rfl rfl rfl (two_of HT_.out s11q1) s11q0 s11q0 (fun K hK => ?_) (fun K hK => ?_)
     · skip
       refine goes_ Tryd.func51 s11q1 rfl #[.slice Ao44 y341.length co44] (by rfl) rfl rfl s11q16 ?_
       with_reducible refine (slices_Concat_int_int.calls k3 _ _ y341 t344 _ ?side1 ?side2 A37.out).mono ?_
       (case side1 => repeat (first | exact (Kd.N_reads' HO343.out).2.2 | (with_reducible refine Kd.C_alloc ?_ _) | (with_reducible refine Kd.C_drewN ?_ _) | (with_reducible refine Kd.C_drew ?_)))
       (case side2 => exact (Kd.N_reads' HO343.out).2.1)
       rintro e w45 ⟨v345, rfl, ho0, hb⟩
       have HS0_ := pw_cell_below hb hHeld.1
       have HS1_ := pw_cell_below hb hHeld.2.1
       have HS2_ := pw_cell_below hb hHeld.2.2.1
       have HS3_ := pw_cell_below hb hHeld.2.2.2.1
       have HS4_ := pw_cell_below hb hHeld.2.2.2.2.1
       have HS5_ := pw_cell_below hb hHeld.2.2.2.2.2.1
       have HS6_ := pw_cell_below hb hHeld.2.2.2.2.2.2.1
       have HS7_ := pw_cell_below hb hHeld.2.2.2.2.2.2.2
       refine ⟨_, rfl, ?_⟩
       have n0_ := Aside0.mk (Kd.N_elder' s11q5 (Kd.R_base ho0) hb)
       have n1_ := Aside0.mk (Kd.V_elder' s11q9 (Kd.R_base ho0) hb)
       have n2_ := Aside0.mk (Kd.V_elder' s11q10 (Kd.R_base ho0) hb)
       have n3_ := Aside0.mk (Kd.V_elder' s11q11 (Kd.R_base ho0) hb)
       have n4_ := Aside0.mk (Kd.V_elder' s11q12 (Kd.R_base ho0) hb)
       have n5_ := Aside0.mk (Kd.N_elder' s11q6 (Kd.R_base ho0) hb)
       have n6_ := Aside0.mk (Kd.R_lower (Kd.R_newM (M := fun k_ => (w.heap.size ≤ k_)) ho0 (below_size s11q15) (fun k_ h_ => h_)) (below_size s11q15))
       have n7_ := Aside0.mk (Kd.C_below s11q19 hb)
       have n8_ := Aside0.mk (Kd.C_below s11q20 hb)
       have n9_ := Aside0.mk (Kd.C_below s11q21 hb)
       have n10_ := Aside0.mk (Kd.C_below s11q22 hb)
       have n11_ := Aside0.mk (below_step s11q15 hb)
       clear HO_8
       clear HL337_1
       clear HL338_1
       clear HL339_1
       clear HL340_1
       clear HO343
       clear HR337_1
       clear HR338_1
       clear HR339_1
       clear HR340_1
       clear HB
       have HO_8 := n0_
       have HL337_1 := n1_
       have HL338_1 := n2_
       have HL339_1 := n3_
       have HL340_1 := n4_
       have HO343 := n5_
       have HO346 := n6_
       have HR337_1 := n7_
       have HR338_1 := n8_
       have HR339_1 := n9_
       have HR340_1 := n10_
       have HB := n11_
       clear n0_ n1_ n2_ n3_ n4_ n5_ n6_ n7_ n8_ n9_ n10_ n11_
       (try clear hb)
       (try clear hb2)
       (try clear hk)
       (try clear hi)
       (try clear ho0)
       refine hK.out _ _ ⟨HS0_, HS1_, HS2_, HS3_, HS4_, HS5_, HS6_, HS7_⟩ (fun hHeld => ?_)
       clear hK K
       refine norm_ (a' := ?_) ?_ ?_
       rotate_left
       · show Act.put _ (some 102) _ = _
         simp only [Act.put, sqa, sqb, sqc, i64_w, i32_w]
         rfl
       refine one_ (i := 25) (N := some 103) #[true, true, true, true, true, true, true, true, true, true, true, true, true, true, true, true, true, true, true, true, true, true, true, true, true, true, false, false, false, false] rfl rfl (one_of HT_.out s11q1) s11q0 (fun K hK => ?_)
       refine Kd.R_lit_step (Kd.int .i64) _ 3 ?hg (N := 103) ?hd (xs := ([(-1)] : List Int)) (inner := [.int .i64 (-1)]) (ok := fun _ => True) (okp := fun _ => True) ?hr ?hp (fun _ hk => hk) trivial (Below.refl _ _) (Nat.le_refl _) (by simp) ?_; (case hd => rfl); (case hg => rfl); (case hr => first | (go_simp; done) | (go_simp; rfl)); (case hp => exact (Reps.one (show Kd.M (Kd.int .i64) _ _ _ (-1) [.int .i64 (-1)] from rfl) (Reps.none _ _)))
       intro v348 w46 ho47 hb hg_ hnew_
       have HS0_ := pw_cell_below hb hHeld.1
       have HS1_ := pw_cell_below hb hHeld.2.1
       have HS2_ := pw_cell_below hb hHeld.2.2.1
       have HS3_ := pw_cell_below hb hHeld.2.2.2.1
       have HS4_ := pw_cell_below hb hHeld.2.2.2.2.1
       have HS5_ := pw_cell_below hb hHeld.2.2.2.2.2.1
       have HS6_ := pw_cell_below hb hHeld.2.2.2.2.2.2.1
       have HS7_ := pw_cell_below hb hHeld.2.2.2.2.2.2.2
       clear hg_ hnew_
       (first | rw [← Ny347.out] at ho47 | (simp only [Int.reduceToNat] at ho47; rw [← Ny347.out] at ho47))
       have n0_ := Aside0.mk (Kd.N_elder' s11q5 (Kd.R_base ho47) hb)
       have n1_ := Aside0.mk (Kd.V_elder' s11q9 (Kd.R_base ho47) hb)
       have n2_ := Aside0.mk (Kd.V_elder' s11q10 (Kd.R_base ho47) hb)
       have n3_ := Aside0.mk (Kd.V_elder' s11q11 (Kd.R_base ho47) hb)
       have n4_ := Aside0.mk (Kd.V_elder' s11q12 (Kd.R_base ho47) hb)
       have n5_ := Aside0.mk (Kd.N_elder' s11q6 (Kd.R_base ho47) hb)
       have n6_ := Aside0.mk (Kd.R_elder' s11q7 (Kd.R_base ho47) hb)
       have n7_ := Aside0.mk (Kd.R_lower (Kd.R_new' (Kd.R_newM (M := fun k_ => (w.heap.size ≤ k_)) ho47 (below_size s11q15) (fun k_ h_ => h_)) (Kd.R_lt s11q7)) (below_size s11q15))
       have n8_ := Aside0.mk (Kd.C_below s11q19 hb)
       have n9_ := Aside0.mk (Kd.C_below s11q20 hb)
       have n10_ := Aside0.mk (Kd.C_below s11q21 hb)
       have n11_ := Aside0.mk (Kd.C_below s11q22 hb)
       have n12_ := Aside0.mk (below_step s11q15 hb)
       clear HO_8
       clear HL337_1
       clear HL338_1
       clear HL339_1
       clear HL340_1
       clear HO343
       clear HO346
       clear HR337_1
       clear HR338_1
       clear HR339_1
       clear HR340_1
       clear HB
       have HO_8 := n0_
       have HL337_1 := n1_
       have HL338_1 := n2_
       have HL339_1 := n3_
       have HL340_1 := n4_
       have HO343 := n5_
       have HO346 := n6_
       have HO349 := n7_
       have HR337_1 := n8_
       have HR338_1 := n9_
       have HR339_1 := n10_
       have HR340_1 := n11_
       have HB := n12_
       clear n0_ n1_ n2_ n3_ n4_ n5_ n6_ n7_ n8_ n9_ n10_ n11_ n12_
       clear hb ho47
       refine hK.out _ _ ⟨HS0_, HS1_, HS2_, HS3_, HS4_, HS5_, HS6_, HS7_⟩ (fun hHeld => ?_)
       clear hK K
       refine norm_ (a' := ?_) ?_ ?_
       rotate_left
       · show Act.put _ (some 103) _ = _
         simp only [Act.put, sqa, sqb, sqc, i64_w, i32_w]
         rfl
       exact norm_ s11q2 (hCont (.slice Ao44 y341.length co44, v345, v348) _ ⟨hHeld, (by (with_reducible repeat (first | apply Kd.V_alloc | apply Kd.V_drewN | apply Kd.V_drew)); exact Kd.V_mono HL337_1.out (fun _ hk => ⟨hk.1.1.1.1, ⟨hk.1.1.2, ⟨hk.1.2, ⟨hk.2, hk.1.1.1.2⟩⟩⟩⟩)), (by (with_reducible repeat (first | apply Kd.V_alloc | apply Kd.V_drewN | apply Kd.V_drew)); exact Kd.V_mono HL338_1.out (fun _ hk => ⟨hk.1.1.1.1, ⟨hk.1.1.2, ⟨hk.1.2, ⟨hk.2, hk.1.1.1.2⟩⟩⟩⟩)), (by (with_reducible repeat (first | apply Kd.V_alloc | apply Kd.V_drewN | apply Kd.V_drew)); exact Kd.V_mono HL339_1.out (fun _ hk => ⟨hk.1.1.1.1, ⟨hk.1.1.2, ⟨hk.1.2, ⟨hk.2, hk.1.1.1.2⟩⟩⟩⟩)), (by (with_reducible repeat (first | apply Kd.V_alloc | apply Kd.V_drewN | apply Kd.V_drew)); exact Kd.V_mono HL340_1.out (fun _ hk => ⟨hk.1.1.1.1, ⟨hk.1.1.2, ⟨hk.1.2, ⟨hk.2, hk.1.1.1.2⟩⟩⟩⟩)), (by (with_reducible repeat (first | apply Kd.N_alloc | apply Kd.N_drewN | apply Kd.N_drew)); exact Kd.N_mono HO343.out (fun _ hk => ⟨hk.1.1.1, ⟨hk.1.2, ⟨hk.2, hk.1.1.2⟩⟩⟩)), s11q17, s11q18, (by (with_reducible repeat (first | apply Kd.N_alloc | apply Kd.N_drewN | apply Kd.N_drew)); exact Kd.N_mono HO_8.out (fun _ hk => ⟨hk.1.1.1, ⟨hk.1.1.2, ⟨hk.1.2, hk.2⟩⟩⟩)), s11q15⟩)
     skip
     refine Kd.R_lit_step (Kd.int .i64) _ 3 ?hg (N := 103) ?hd (xs := ([(-1)] : List Int)) (inner := [.int .i64 (-1)]) (ok := fun _ => True) (okp := fun _ => True) ?hr ?hp (fun _ hk => hk) trivial (Below.refl _ _) (Nat.le_refl _) (by simp) ?_; (case hd => rfl); (case hg => rfl); (case hr => first | (go_simp; done) | (go_simp; rfl)); (case hp => exact (Reps.one (show Kd.M (Kd.int .i64) _ _ _ (-1) [.int .i64 (-1)] from rfl) (Reps.none _ _)))
     intro v348 w44 ho45 hb hg_ hnew_
     have HS0_ := pw_cell_below hb hHeld.1
     have HS1_ := pw_cell_below hb hHeld.2.1
     have HS2_ := pw_cell_below hb hHeld.2.2.1
     have HS3_ := pw_cell_below hb hHeld.2.2.2.1
     have HS4_ := pw_cell_below hb hHeld.2.2.2.2.1
     have HS5_ := pw_cell_below hb hHeld.2.2.2.2.2.1
     have HS6_ := pw_cell_below hb hHeld.2.2.2.2.2.2.1
     have HS7_ := pw_cell_below hb hHeld.2.2.2.2.2.2.2
     clear hg_ hnew_
     (first | rw [← Ny347.out] at ho45 | (simp only [Int.reduceToNat] at ho45; rw [← Ny347.out] at ho45))
     have n0_ := Aside0.mk (Kd.N_elder' s11q5 (Kd.R_base ho45) hb)
     have n1_ := Aside0.mk (Kd.V_elder' s11q9 (Kd.R_base ho45) hb)
     have n2_ := Aside0.mk (Kd.V_elder' s11q10 (Kd.R_base ho45) hb)
     have n3_ := Aside0.mk (Kd.V_elder' s11q11 (Kd.R_base ho45) hb)
     have n4_ := Aside0.mk (Kd.V_elder' s11q12 (Kd.R_base ho45) hb)
     have n5_ := Aside0.mk (Kd.N_elder' s11q6 (Kd.R_base ho45) hb)
     have n6_ := Aside0.mk (Kd.R_lower (Kd.R_newM (M := fun k_ => (w.heap.size ≤ k_)) ho45 (below_size s11q15) (fun k_ h_ => h_)) (below_size s11q15))
     have n7_ := Aside0.mk (Kd.C_below s11q19 hb)
     have n8_ := Aside0.mk (Kd.C_below s11q20 hb)
     have n9_ := Aside0.mk (Kd.C_below s11q21 hb)
     have n10_ := Aside0.mk (Kd.C_below s11q22 hb)
     have n11_ := Aside0.mk (below_step s11q15 hb)
     clear HO_8
     clear HL337_1
     clear HL338_1
     clear HL339_1
     clear HL340_1
     clear HO343
     clear HR337_1
     clear HR338_1
     clear HR339_1
     clear HR340_1
     clear HB
     have HO_8 := n0_
     have HL337_1 := n1_
     have HL338_1 := n2_
     have HL339_1 := n3_
     have HL340_1 := n4_
     have HO343 := n5_
     have HO349 := n6_
     have HR337_1 := n7_
     have HR338_1 := n8_
     have HR339_1 := n9_
     have HR340_1 := n10_
     have HB := n11_
     clear n0_ n1_ n2_ n3_ n4_ n5_ n6_ n7_ n8_ n9_ n10_ n11_
     clear hb ho45
     obtain ⟨Ao46, co46, eo46⟩ := Kd.N_slice HO343.out
     (first | subst eo46 | (injection eo46 with f1_ f2_ f3_; have f4_ := f1_.symm; have f5_ := f3_.symm; clear f1_ f2_ f3_; subst f4_; subst f5_))
     refine hK.out _ _ ⟨HS0_, HS1_, HS2_, HS3_, HS4_, HS5_, HS6_, HS7_⟩ (fun hHeld => ?_)
     clear hK K
     refine norm_ (a' := ?_) ?_ ?_
     rotate_left
     · show Act.put _ (some 103) _ = _
       simp only [Act.put, sqa, sqb, sqc, i64_w, i32_w]
       rfl
     refine one_ (i := 24) (N := some 102) #[true, true, true, true, true, true, true, true, true, true, true, true, true, true, true, true, true, true, true, true, true, true, true, true, true, true, false, false, false, false] rfl rfl (one_of HT_.out s11q1) s11q0 (fun K hK => ?_)
     refine goes_ Tryd.func51 s11q1 rfl #[.slice Ao46 y341.length co46] (by rfl) rfl rfl s11q16 ?_
     with_reducible refine (slices_Concat_int_int.calls k3 _ _ y341 t344 _ ?side1 ?side2 A37.out).mono ?_
     (case side1 => repeat (first | exact (Kd.N_reads' HO343.out).2.2 | (with_reducible refine Kd.C_alloc ?_ _) | (with_reducible refine Kd.C_drewN ?_ _) | (with_reducible refine Kd.C_drew ?_)))
     (case side2 => exact (Kd.N_reads' HO343.out).2.1)
     rintro e w47 ⟨v345, rfl, ho0, hb⟩
     have HS0_ := pw_cell_below hb hHeld.1
     have HS1_ := pw_cell_below hb hHeld.2.1
     have HS2_ := pw_cell_below hb hHeld.2.2.1
     have HS3_ := pw_cell_below hb hHeld.2.2.2.1
     have HS4_ := pw_cell_below hb hHeld.2.2.2.2.1
     have HS5_ := pw_cell_below hb hHeld.2.2.2.2.2.1
     have HS6_ := pw_cell_below hb hHeld.2.2.2.2.2.2.1
     have HS7_ := pw_cell_below hb hHeld.2.2.2.2.2.2.2
     refine ⟨_, rfl, ?_⟩
     have n0_ := Aside0.mk (Kd.N_elder' s11q5 (Kd.R_base ho0) hb)
     have n1_ := Aside0.mk (Kd.V_elder' s11q9 (Kd.R_base ho0) hb)
     have n2_ := Aside0.mk (Kd.V_elder' s11q10 (Kd.R_base ho0) hb)
     have n3_ := Aside0.mk (Kd.V_elder' s11q11 (Kd.R_base ho0) hb)
     have n4_ := Aside0.mk (Kd.V_elder' s11q12 (Kd.R_base ho0) hb)
     have n5_ := Aside0.mk (Kd.N_elder' s11q6 (Kd.R_base ho0) hb)
     have n6_ := Aside0.mk (Kd.R_elder' s11q8 (Kd.R_base ho0) hb)
     have n7_ := Aside0.mk (Kd.R_lower (Kd.R_new' (Kd.R_newM (M := fun k_ => (w.heap.size ≤ k_)) ho0 (below_size s11q15) (fun k_ h_ => h_)) (Kd.R_lt s11q8)) (below_size s11q15))
     have n8_ := Aside0.mk (Kd.C_below s11q19 hb)
     have n9_ := Aside0.mk (Kd.C_below s11q20 hb)
     have n10_ := Aside0.mk (Kd.C_below s11q21 hb)
     have n11_ := Aside0.mk (Kd.C_below s11q22 hb)
     have n12_ := Aside0.mk (below_step s11q15 hb)
     clear HO_8
     clear HL337_1
     clear HL338_1
     clear HL339_1
     clear HL340_1
     clear HO343
     clear HO349
     clear HR337_1
     clear HR338_1
     clear HR339_1
     clear HR340_1
     clear HB
     have HO_8 := n0_
     have HL337_1 := n1_
     have HL338_1 := n2_
     have HL339_1 := n3_
     have HL340_1 := n4_
     have HO343 := n5_
     have HO349 := n6_
     have HO346 := n7_
     have HR337_1 := n8_
     have HR338_1 := n9_
     have HR339_1 := n10_
     have HR340_1 := n11_
     have HB := n12_
     clear n0_ n1_ n2_ n3_ n4_ n5_ n6_ n7_ n8_ n9_ n10_ n11_ n12_
     (try clear hb)
     (try clear hb2)
     (try clear hk)
     (try clear hi)
     (try clear ho0)
     refine hK.out _ _ ⟨HS0_, HS1_, HS2_, HS3_, HS4_, HS5_, HS6_, HS7_⟩ (fun hHeld => ?_)
     clear hK K
     refine norm_ (a' := ?_) ?_ ?_
     rotate_left
     · show Act.put _ (some 102) _ = _
       simp only [Act.put, sqa, sqb, sqc, i64_w, i32_w]
       rfl
     exact norm_ s11q2 (hCont (.slice Ao46 y341.length co46, v345, v348) _ ⟨hHeld, (by (with_reducible repeat (first | apply Kd.V_alloc | apply Kd.V_drewN | apply Kd.V_drew)); exact Kd.V_mono HL337_1.out (fun _ hk => ⟨hk.1.1.1.1, ⟨hk.1.1.2, ⟨hk.2, ⟨hk.1.2, hk.1.1.1.2⟩⟩⟩⟩)), (by (with_reducible repeat (first | apply Kd.V_alloc | apply Kd.V_drewN | apply Kd.V_drew)); exact Kd.V_mono HL338_1.out (fun _ hk => ⟨hk.1.1.1.1, ⟨hk.1.1.2, ⟨hk.2, ⟨hk.1.2, hk.1.1.1.2⟩⟩⟩⟩)), (by (with_reducible repeat (first | apply Kd.V_alloc | apply Kd.V_drewN | apply Kd.V_drew)); exact Kd.V_mono HL339_1.out (fun _ hk => ⟨hk.1.1.1.1, ⟨hk.1.1.2, ⟨hk.2, ⟨hk.1.2, hk.1.1.1.2⟩⟩⟩⟩)), (by (with_reducible repeat (first | apply Kd.V_alloc | apply Kd.V_drewN | apply Kd.V_drew)); exact Kd.V_mono HL340_1.out (fun _ hk => ⟨hk.1.1.1.1, ⟨hk.1.1.2, ⟨hk.2, ⟨hk.1.2, hk.1.1.1.2⟩⟩⟩⟩)), (by (with_reducible repeat (first | apply Kd.N_alloc | apply Kd.N_drewN | apply Kd.N_drew)); exact Kd.N_mono HO343.out (fun _ hk => ⟨hk.1.1.1, ⟨hk.2, ⟨hk.1.2, hk.1.1.2⟩⟩⟩)), s11q17, s11q18, (by (with_reducible repeat (first | apply Kd.N_alloc | apply Kd.N_drewN | apply Kd.N_drew)); exact Kd.N_mono HO_8.out (fun _ hk => ⟨hk.1.1.1, ⟨hk.1.1.2, ⟨hk.2, hk.1.2⟩⟩⟩)), s11q15⟩)
   skip
   refine Kd.R_lit_step (Kd.int .i64) _ 3 ?hg (N := 103) ?hd (xs := ([(-1)] : List Int)) (inner := [.int .i64 (-1)]) (ok := fun _ => True) (okp := fun _ => True) ?hr ?hp (fun _ hk => hk) trivial (Below.refl _ _) (Nat.le_refl _) (by simp) ?_; (case hd => rfl); (case hg => rfl); (case hr => first | (go_simp; done) | (go_simp; rfl)); (case hp => exact (Reps.one (show Kd.M (Kd.int .i64) _ _ _ (-1) [.int .i64 (-1)] from rfl) (Reps.none _ _)))
   intro v348 w42 ho43 hb hg_ hnew_
   have HS0_ := pw_cell_below hb hHeld.1
   have HS1_ := pw_cell_below hb hHeld.2.1
   have HS2_ := pw_cell_below hb hHeld.2.2.1
   have HS3_ := pw_cell_below hb hHeld.2.2.2.1
   have HS4_ := pw_cell_below hb hHeld.2.2.2.2.1
   have HS5_ := pw_cell_below hb hHeld.2.2.2.2.2.1
   have HS6_ := pw_cell_below hb hHeld.2.2.2.2.2.2.1
   have HS7_ := pw_cell_below hb hHeld.2.2.2.2.2.2.2
   clear hg_ hnew_
   (first | rw [← Ny347.out] at ho43 | (simp only [Int.reduceToNat] at ho43; rw [← Ny347.out] at ho43))
   have n0_ := Aside0.mk (Kd.N_elder' s11q5 (Kd.R_base ho43) hb)
   have n1_ := Aside0.mk (Kd.V_elder' s11q9 (Kd.R_base ho43) hb)
   have n2_ := Aside0.mk (Kd.V_elder' s11q10 (Kd.R_base ho43) hb)
   have n3_ := Aside0.mk (Kd.V_elder' s11q11 (Kd.R_base ho43) hb)
   have n4_ := Aside0.mk (Kd.V_elder' s11q12 (Kd.R_base ho43) hb)
   have n5_ := Aside0.mk (Kd.R_lower (Kd.R_newM (M := fun k_ => (w.heap.size ≤ k_)) ho43 (below_size s11q15) (fun k_ h_ => h_)) (below_size s11q15))
   have n6_ := Aside0.mk (Kd.C_below s11q19 hb)
   have n7_ := Aside0.mk (Kd.C_below s11q20 hb)
   have n8_ := Aside0.mk (Kd.C_below s11q21 hb)
   have n9_ := Aside0.mk (Kd.C_below s11q22 hb)
   have n10_ := Aside0.mk (below_step s11q15 hb)
   clear HO_8
   clear HL337_1
   clear HL338_1
   clear HL339_1
   clear HL340_1
   clear HR337_1
   clear HR338_1
   clear HR339_1
   clear HR340_1
   clear HB
   have HO_8 := n0_
   have HL337_1 := n1_
   have HL338_1 := n2_
   have HL339_1 := n3_
   have HL340_1 := n4_
   have HO349 := n5_
   have HR337_1 := n6_
   have HR338_1 := n7_
   have HR339_1 := n8_
   have HR340_1 := n9_
   have HB := n10_
   clear n0_ n1_ n2_ n3_ n4_ n5_ n6_ n7_ n8_ n9_ n10_
   clear hb ho43
   refine hK.out _ _ ⟨HS0_, HS1_, HS2_, HS3_, HS4_, HS5_, HS6_, HS7_⟩ (fun hHeld => ?_)
   clear hK K
   refine norm_ (a' := ?_) ?_ ?_
   rotate_left
   · show Act.put _ (some 103) _ = _
     simp only [Act.put, sqa, sqb, sqc, i64_w, i32_w]
     rfl
   refine one_ (i := 23) (N := some 101) #[true, true, true, true, true, true, true, true, true, true, true, true, true, true, true, true, true, true, true, true, true, true, true, true, false, true, false, false, false, false] rfl rfl (one_of HT_.out s11q1) s11q0 (fun K hK => ?_)
   refine Kd.N_lit_step (Kd.slice 3 (Kd.int .i64)) _ 22 ?hg (N' := 101) ?hd (xs := ([(rd_T93 x8_2 x11_3).f1, (rd_T93 x8_2 x12_3).f1] : List (List Int))) (inner := [.slice A337_1 ((rd_T93 x8_2 x11_3).f1).length c337_1, .slice A338_1 ((rd_T93 x8_2 x12_3).f1).length c338_1]) (ok := (fun k_ => (w.heap.size ≤ k_) ∧ some k_ ≠ (.slice (some ad337) x8_2.length co18 : Value).ownBlock ∧ some k_ ≠ (v348 : Value).ownBlock)) (okp := (fun k_ => (w.heap.size ≤ k_) ∧ some k_ ≠ (.slice (some ad337) x8_2.length co18 : Value).ownBlock ∧ some k_ ≠ (v348 : Value).ownBlock)) ?hr ?hp (fun _ hk => hk) ((show ∀ k_, w42.heap.size ≤ k_ → (fun k_ => (w.heap.size ≤ k_) ∧ some k_ ≠ (.slice (some ad337) x8_2.length co18 : Value).ownBlock ∧ some k_ ≠ (v348 : Value).ownBlock) k_ from fun k_ hk => ⟨(Nat.le_trans (below_size s11q15) hk), Kd.fresh' (Kd.N_lt s11q5) k_ hk, Kd.fresh' (Kd.R_lt s11q8) k_ hk⟩) _ (Nat.le_refl _)) (Below.refl _ _) (Nat.le_refl _) (by simp) ?_; (case hd => rfl); (case hg => rfl); (case hr => first | (go_simp; done) | (go_simp; rfl)); (case hp => exact (Reps.one (show Kd.FK (Kd.slice 3 (Kd.int .i64)) _ _ ((rd_T93 x8_2 x11_3).f1) [.slice A337_1 ((rd_T93 x8_2 x11_3).f1).length c337_1] from (Kd.FK_slice_mk (Kd.V_reads' (Kd.V_mono (ok' := (fun k_ => (w.heap.size ≤ k_) ∧ some k_ ≠ (.slice (some ad337) x8_2.length co18 : Value).ownBlock ∧ some k_ ≠ (v348 : Value).ownBlock)) (HL339_1.out) (fun k_ hk => ⟨hk.1.1, ⟨hk.1.2, hk.2⟩⟩))).2.1 (Kd.V_F (Kd.V_mono (ok' := (fun k_ => (w.heap.size ≤ k_) ∧ some k_ ≠ (.slice (some ad337) x8_2.length co18 : Value).ownBlock ∧ some k_ ≠ (v348 : Value).ownBlock)) (HL339_1.out) (fun k_ hk => ⟨hk.1.1, ⟨hk.1.2, hk.2⟩⟩))))) (Reps.one (show Kd.FK (Kd.slice 3 (Kd.int .i64)) _ _ ((rd_T93 x8_2 x12_3).f1) [.slice A338_1 ((rd_T93 x8_2 x12_3).f1).length c338_1] from (Kd.FK_slice_mk (Kd.V_reads' (Kd.V_mono (ok' := (fun k_ => (w.heap.size ≤ k_) ∧ some k_ ≠ (.slice (some ad337) x8_2.length co18 : Value).ownBlock ∧ some k_ ≠ (v348 : Value).ownBlock)) (HL340_1.out) (fun k_ hk => ⟨hk.1.1, ⟨hk.1.2, hk.2⟩⟩))).2.1 (Kd.V_F (Kd.V_mono (ok' := (fun k_ => (w.heap.size ≤ k_) ∧ some k_ ≠ (.slice (some ad337) x8_2.length co18 : Value).ownBlock ∧ some k_ ≠ (v348 : Value).ownBlock)) (HL340_1.out) (fun k_ hk => ⟨hk.1.1, ⟨hk.1.2, hk.2⟩⟩))))) (Reps.none _ _))))
   intro v342 w44 ho45 hb hg_ hnew_
   have HS0_ := pw_cell_below hb hHeld.1
   have HS1_ := pw_cell_below hb hHeld.2.1
   have HS2_ := pw_cell_below hb hHeld.2.2.1
   have HS3_ := pw_cell_below hb hHeld.2.2.2.1
   have HS4_ := pw_cell_below hb hHeld.2.2.2.2.1
   have HS5_ := pw_cell_below hb hHeld.2.2.2.2.2.1
   have HS6_ := pw_cell_below hb hHeld.2.2.2.2.2.2.1
   have HS7_ := pw_cell_below hb hHeld.2.2.2.2.2.2.2
   clear hg_ hnew_
   (first | rw [← Ny341.out] at ho45 | (simp only [Int.reduceToNat] at ho45; rw [← Ny341.out] at ho45))
   have n0_ := Aside0.mk (Kd.N_elder' s11q5 (Kd.N_base ho45) hb)
   have n1_ := Aside0.mk (Kd.V_elder' s11q9 (Kd.N_base ho45) hb)
   have n2_ := Aside0.mk (Kd.V_elder' s11q10 (Kd.N_base ho45) hb)
   have n3_ := Aside0.mk (Kd.V_elder' s11q11 (Kd.N_base ho45) hb)
   have n4_ := Aside0.mk (Kd.V_elder' s11q12 (Kd.N_base ho45) hb)
   have n5_ := Aside0.mk (Kd.R_below s11q8 hb)
   have n6_ := Aside0.mk (Kd.N_lower ho45 (below_size s11q15))
   have n7_ := Aside0.mk (Kd.C_below s11q19 hb)
   have n8_ := Aside0.mk (Kd.C_below s11q20 hb)
   have n9_ := Aside0.mk (Kd.C_below s11q21 hb)
   have n10_ := Aside0.mk (Kd.C_below s11q22 hb)
   have n11_ := Aside0.mk (below_step s11q15 hb)
   clear HO_8
   clear HL337_1
   clear HL338_1
   clear HL339_1
   clear HL340_1
   clear HO349
   clear HR337_1
   clear HR338_1
   clear HR339_1
   clear HR340_1
   clear HB
   have HO_8 := n0_
   have HL337_1 := n1_
   have HL338_1 := n2_
   have HL339_1 := n3_
   have HL340_1 := n4_
   have HO349 := n5_
   have HO343 := n6_
   have HR337_1 := n7_
   have HR338_1 := n8_
   have HR339_1 := n9_
   have HR340_1 := n10_
   have HB := n11_
   clear n0_ n1_ n2_ n3_ n4_ n5_ n6_ n7_ n8_ n9_ n10_ n11_
   clear hb ho45
   obtain ⟨Ao46, co46, eo46⟩ := Kd.N_slice HO343.out
   (first | subst eo46 | (injection eo46 with f1_ f2_ f3_; have f4_ := f1_.symm; have f5_ := f3_.symm; clear f1_ f2_ f3_; subst f4_; subst f5_))
   refine hK.out _ _ ⟨HS0_, HS1_, HS2_, HS3_, HS4_, HS5_, HS6_, HS7_⟩ (fun hHeld => ?_)
   clear hK K
   refine norm_ (a' := ?_) ?_ ?_
   rotate_left
   · show Act.put _ (some 101) _ = _
     simp only [Act.put, sqa, sqb, sqc, i64_w, i32_w]
     rfl
   refine one_ (i := 24) (N := some 102) #[true, true, true, true, true, true, true, true, true, true, true, true, true, true, true, true, true, true, true, true, true, true, true, true, true, true, false, false, false, false] rfl rfl (one_of HT_.out s11q1) s11q0 (fun K hK => ?_)
   refine goes_ Tryd.func51 s11q1 rfl #[.slice Ao46 y341.length co46] (by rfl) rfl rfl s11q16 ?_
   with_reducible refine (slices_Concat_int_int.calls k3 _ _ y341 t344 _ ?side1 ?side2 A37.out).mono ?_
   (case side1 => repeat (first | exact (Kd.N_reads' HO343.out).2.2 | (with_reducible refine Kd.C_alloc ?_ _) | (with_reducible refine Kd.C_drewN ?_ _) | (with_reducible refine Kd.C_drew ?_)))
   (case side2 => exact (Kd.N_reads' HO343.out).2.1)
   rintro e w47 ⟨v345, rfl, ho0, hb⟩
   have HS0_ := pw_cell_below hb hHeld.1
   have HS1_ := pw_cell_below hb hHeld.2.1
   have HS2_ := pw_cell_below hb hHeld.2.2.1
   have HS3_ := pw_cell_below hb hHeld.2.2.2.1
   have HS4_ := pw_cell_below hb hHeld.2.2.2.2.1
   have HS5_ := pw_cell_below hb hHeld.2.2.2.2.2.1
   have HS6_ := pw_cell_below hb hHeld.2.2.2.2.2.2.1
   have HS7_ := pw_cell_below hb hHeld.2.2.2.2.2.2.2
   refine ⟨_, rfl, ?_⟩
   have n0_ := Aside0.mk (Kd.N_elder' s11q5 (Kd.R_base ho0) hb)
   have n1_ := Aside0.mk (Kd.V_elder' s11q9 (Kd.R_base ho0) hb)
   have n2_ := Aside0.mk (Kd.V_elder' s11q10 (Kd.R_base ho0) hb)
   have n3_ := Aside0.mk (Kd.V_elder' s11q11 (Kd.R_base ho0) hb)
   have n4_ := Aside0.mk (Kd.V_elder' s11q12 (Kd.R_base ho0) hb)
   have n5_ := Aside0.mk (Kd.R_elder' s11q8 (Kd.R_base ho0) hb)
   have n6_ := Aside0.mk (Kd.N_elder' s11q6 (Kd.R_base ho0) hb)
   have n7_ := Aside0.mk (Kd.R_lower (Kd.R_new' (Kd.R_newM (M := fun k_ => (w.heap.size ≤ k_)) ho0 (below_size s11q15) (fun k_ h_ => h_)) (Kd.R_lt s11q8)) (below_size s11q15))
   have n8_ := Aside0.mk (Kd.C_below s11q19 hb)
   have n9_ := Aside0.mk (Kd.C_below s11q20 hb)
   have n10_ := Aside0.mk (Kd.C_below s11q21 hb)
   have n11_ := Aside0.mk (Kd.C_below s11q22 hb)
   have n12_ := Aside0.mk (below_step s11q15 hb)
   clear HO_8
   clear HL337_1
   clear HL338_1
   clear HL339_1
   clear HL340_1
   clear HO349
   clear HO343
   clear HR337_1
   clear HR338_1
   clear HR339_1
   clear HR340_1
   clear HB
   have HO_8 := n0_
   have HL337_1 := n1_
   have HL338_1 := n2_
   have HL339_1 := n3_
   have HL340_1 := n4_
   have HO349 := n5_
   have HO343 := n6_
   have HO346 := n7_
   have HR337_1 := n8_
   have HR338_1 := n9_
   have HR339_1 := n10_
   have HR340_1 := n11_
   have HB := n12_
   clear n0_ n1_ n2_ n3_ n4_ n5_ n6_ n7_ n8_ n9_ n10_ n11_ n12_
   (try clear hb)
   (try clear hb2)
   (try clear hk)
   (try clear hi)
   (try clear ho0)
   refine hK.out _ _ ⟨HS0_, HS1_, HS2_, HS3_, HS4_, HS5_, HS6_, HS7_⟩ (fun hHeld => ?_)
   clear hK K
   refine norm_ (a' := ?_) ?_ ?_
   rotate_left
   · show Act.put _ (some 102) _ = _
     simp only [Act.put, sqa, sqb, sqc, i64_w, i32_w]
     rfl
   exact norm_ s11q2 (hCont (.slice Ao46 y341.length co46, v345, v348) _ ⟨hHeld, (by (with_reducible repeat (first | apply Kd.V_alloc | apply Kd.V_drewN | apply Kd.V_drew)); exact Kd.V_mono HL337_1.out (fun _ hk => ⟨hk.1.1.1.1, ⟨hk.1.2, ⟨hk.2, ⟨hk.1.1.2, hk.1.1.1.2⟩⟩⟩⟩)), (by (with_reducible repeat (first | apply Kd.V_alloc | apply Kd.V_drewN | apply Kd.V_drew)); exact Kd.V_mono HL338_1.out (fun _ hk => ⟨hk.1.1.1.1, ⟨hk.1.2, ⟨hk.2, ⟨hk.1.1.2, hk.1.1.1.2⟩⟩⟩⟩)), (by (with_reducible repeat (first | apply Kd.V_alloc | apply Kd.V_drewN | apply Kd.V_drew)); exact Kd.V_mono HL339_1.out (fun _ hk => ⟨hk.1.1.1.1, ⟨hk.1.2, ⟨hk.2, ⟨hk.1.1.2, hk.1.1.1.2⟩⟩⟩⟩)), (by (with_reducible repeat (first | apply Kd.V_alloc | apply Kd.V_drewN | apply Kd.V_drew)); exact Kd.V_mono HL340_1.out (fun _ hk => ⟨hk.1.1.1.1, ⟨hk.1.2, ⟨hk.2, ⟨hk.1.1.2, hk.1.1.1.2⟩⟩⟩⟩)), (by (with_reducible repeat (first | apply Kd.N_alloc | apply Kd.N_drewN | apply Kd.N_drew)); exact Kd.N_mono HO343.out (fun _ hk => ⟨hk.1.1, ⟨hk.2, ⟨hk.1.2.2, hk.1.2.1⟩⟩⟩)), s11q17, s11q18, (by (with_reducible repeat (first | apply Kd.N_alloc | apply Kd.N_drewN | apply Kd.N_drew)); exact Kd.N_mono HO_8.out (fun _ hk => ⟨hk.1.1.1, ⟨hk.1.2, ⟨hk.2, hk.1.1.2⟩⟩⟩)), s11q15⟩)
 rintro ⟨v342, v345, v348⟩ w48 ⟨hS_, h0_, h1_, h2_, h3_, h4_, h5_, h6_, h7_, h8_⟩
 have n0_ : Aside0 (Kd.V (Kd.int .i64) 3 w48 w.heap.size (fun k_ => (w.heap.size ≤ k_) ∧ some k_ ≠ (v342 : Value).ownBlock ∧ some k_ ≠ (v345 : Value).ownBlock ∧ some k_ ≠ (v348 : Value).ownBlock ∧ some k_ ≠ (.slice (some ad337) x8_2.length co18 : Value).ownBlock) (.slice A337_1 ((rd_T93 x8_2 x11_3).f1).length c337_1) ((rd_T93 x8_2 x11_3).f1)) := ⟨h0_⟩
 have n1_ : Aside0 (Kd.V (Kd.int .i64) 3 w48 w.heap.size (fun k_ => (w.heap.size ≤ k_) ∧ some k_ ≠ (v342 : Value).ownBlock ∧ some k_ ≠ (v345 : Value).ownBlock ∧ some k_ ≠ (v348 : Value).ownBlock ∧ some k_ ≠ (.slice (some ad337) x8_2.length co18 : Value).ownBlock) (.slice A338_1 ((rd_T93 x8_2 x12_3).f1).length c338_1) ((rd_T93 x8_2 x12_3).f1)) := ⟨h1_⟩
 have n2_ : Aside0 (Kd.V (Kd.int .i64) 3 w48 w.heap.size (fun k_ => (w.heap.size ≤ k_) ∧ some k_ ≠ (v342 : Value).ownBlock ∧ some k_ ≠ (v345 : Value).ownBlock ∧ some k_ ≠ (v348 : Value).ownBlock ∧ some k_ ≠ (.slice (some ad337) x8_2.length co18 : Value).ownBlock) (.slice A337_1 ((rd_T93 x8_2 x11_3).f1).length c337_1) ((rd_T93 x8_2 x11_3).f1)) := ⟨h2_⟩
 have n3_ : Aside0 (Kd.V (Kd.int .i64) 3 w48 w.heap.size (fun k_ => (w.heap.size ≤ k_) ∧ some k_ ≠ (v342 : Value).ownBlock ∧ some k_ ≠ (v345 : Value).ownBlock ∧ some k_ ≠ (v348 : Value).ownBlock ∧ some k_ ≠ (.slice (some ad337) x8_2.length co18 : Value).ownBlock) (.slice A338_1 ((rd_T93 x8_2 x12_3).f1).length c338_1) ((rd_T93 x8_2 x12_3).f1)) := ⟨h3_⟩
 have n4_ : Aside0 (Kd.N (Kd.slice 3 (Kd.int .i64)) 22 w48 w.heap.size (fun k_ => (w.heap.size ≤ k_) ∧ some k_ ≠ (v345 : Value).ownBlock ∧ some k_ ≠ (v348 : Value).ownBlock ∧ some k_ ≠ (.slice (some ad337) x8_2.length co18 : Value).ownBlock) v342 y341) := ⟨h4_⟩
 have n5_ : Aside0 (Kd.R (Kd.int .i64) 3 w48 w.heap.size (fun k_ => (w.heap.size ≤ k_) ∧ some k_ ≠ (v348 : Value).ownBlock) v345 t344) := ⟨h5_⟩
 have n6_ : Aside0 (Kd.R (Kd.int .i64) 3 w48 w.heap.size (fun k_ => (w.heap.size ≤ k_) ∧ some k_ ≠ (v345 : Value).ownBlock) v348 y347) := ⟨h6_⟩
 have n7_ : Aside0 (Kd.N k93 93 w48 w.heap.size (fun k_ => (w.heap.size ≤ k_) ∧ some k_ ≠ (v342 : Value).ownBlock ∧ some k_ ≠ (v345 : Value).ownBlock ∧ some k_ ≠ (v348 : Value).ownBlock) (.slice (some ad337) x8_2.length co18) x8_2) := ⟨h7_⟩
 have n8_ : Aside0 (Below w.heap.size w w48) := ⟨h8_⟩
 clear HO_8
 clear HB
 clear h0_ h1_ h2_ h3_ h4_ h5_ h6_ h7_ h8_
 have HL337_1 := n0_
 have HL338_1 := n1_
 have HL339_1 := n2_
 have HL340_1 := n3_
 have HO343 := n4_
 have HO346 := n5_
 have HO349 := n6_
 have HO_8 := n7_
 have HB := n8_
 clear n0_ n1_ n2_ n3_ n4_ n5_ n6_ n7_ n8_
 have hHeld : w48.cell? (ad337.add ((x11_3).toNat * 2)) = some (.int .i64 ((rd_T93 x8_2 x11_3).f0)) ∧ w48.cell? ⟨(ad337.add ((x11_3).toNat * 2)).block, (ad337.add ((x11_3).toNat * 2)).off + 1, none⟩ = some (.slice A337_1 ((rd_T93 x8_2 x11_3).f1).length c337_1) ∧ w48.cell? (ad337.add ((x12_3).toNat * 2)) = some (.int .i64 ((rd_T93 x8_2 x12_3).f0)) ∧ w48.cell? ⟨(ad337.add ((x12_3).toNat * 2)).block, (ad337.add ((x12_3).toNat * 2)).off + 1, none⟩ = some (.slice A338_1 ((rd_T93 x8_2 x12_3).f1).length c338_1) ∧ w48.cell? (ad337.add ((x11_3).toNat * 2)) = some (.int .i64 ((rd_T93 x8_2 x11_3).f0)) ∧ w48.cell? ⟨(ad337.add ((x11_3).toNat * 2)).block, (ad337.add ((x11_3).toNat * 2)).off + 1, none⟩ = some (.slice A337_1 ((rd_T93 x8_2 x11_3).f1).length c337_1) ∧ w48.cell? (ad337.add ((x12_3).toNat * 2)) = some (.int .i64 ((rd_T93 x8_2 x12_3).f0)) ∧ w48.cell? ⟨(ad337.add ((x12_3).toNat * 2)).block, (ad337.add ((x12_3).toNat * 2)).off + 1, none⟩ = some (.slice A338_1 ((rd_T93 x8_2 x12_3).f1).length c338_1) := hS_
 obtain ⟨Ao50, co50, eo50⟩ := Kd.R_slice HO349.out
 (first | subst eo50 | (injection eo50 with f1_ f2_ f3_; have f4_ := f1_.symm; have f5_ := f3_.symm; clear f1_ f2_ f3_; subst f4_; subst f5_))
 refine norm_ (a' := ?_) ?_ ?_
 rotate_left
 · simp only [putAll, Act.put, sqa, sqb, sqc]
   rfl
 refine one_ (i := 26) (N := some 104) #[true, true, true, true, true, true, true, true, true, true, true, true, true, true, true, true, true, true, true, true, true, true, true, true, true, true, true, false, false, false] rfl rfl (one_of HT_.out s11q1) s11q0 (fun K hK => ?_)
 refine Kd.R_append_rows_step (Kd.int .i64) (w0 := w) w.heap.size (by rfl) (.tmp 102) (.tmp 103) 22 3 (.int .i64 0) 8 rfl Tryd.underlying22 info3 rfl s11q0 (by omega) v345 t344 y347 _ _ _ (fun k_ => (w.heap.size ≤ k_) ∧ some k_ ≠ (.slice Ao50 y347.length co50 : Value).ownBlock) (fun _ => False) rfl rfl ?aO ?aR (fun _ _ h => h) (fun _ h => h.elim) ?aF ?aB ?aS ?aL ?_
 (case aR => repeat (first | exact (Kd.R_reads' HO349.out).2.2 | (with_reducible refine Kd.C_alloc ?_ _) | (with_reducible refine Kd.C_drewN ?_ _) | (with_reducible refine Kd.C_drew ?_)))
 (case aB => exact s11q15)
 (case aF => exact (fun k_ hk => ⟨(Nat.le_trans (below_size s11q15) hk), Kd.fresh' (Kd.R_lt s11q8) k_ hk⟩))
 (case aO => exact s11q7)
 (case aS => exact (below_size s11q15))
 (case aL => have := LMc38.out; omega)
 intro v351 w49 ho hb hg hat
 have HS0_ := cell_grown hg (hHeld.1) s11q28
 have HS1_ := cell_grown hg (hHeld.2.1) s11q28
 have HS2_ := cell_grown hg (hHeld.2.2.1) s11q28
 have HS3_ := cell_grown hg (hHeld.2.2.2.1) s11q28
 have HS4_ := cell_grown hg (hHeld.2.2.2.2.1) s11q28
 have HS5_ := cell_grown hg (hHeld.2.2.2.2.2.1) s11q28
 have HS6_ := cell_grown hg (hHeld.2.2.2.2.2.2.1) s11q28
 have HS7_ := cell_grown hg (hHeld.2.2.2.2.2.2.2) s11q28
 rw [← Ny350.out] at ho
 have n0_ := Aside0.mk (Kd.N_afterv (ok := (fun k_ => (w.heap.size ≤ k_) ∧ some k_ ≠ (v342 : Value).ownBlock ∧ some k_ ≠ (.slice Ao50 y347.length co50 : Value).ownBlock)) (by (with_reducible repeat (first | apply Kd.N_alloc | apply Kd.N_drewN | apply Kd.N_drew)); exact Kd.N_mono HO_8.out (fun _ hk => ⟨⟨hk.1, ⟨hk.2.1, hk.2.2.2⟩⟩, hk.2.2.1⟩)) hg hat)
 have n1_ := Aside0.mk (Kd.V_afterv (ok := (fun k_ => (w.heap.size ≤ k_) ∧ some k_ ≠ (.slice (some ad337) x8_2.length co18 : Value).ownBlock ∧ some k_ ≠ (v342 : Value).ownBlock ∧ some k_ ≠ (.slice Ao50 y347.length co50 : Value).ownBlock)) (by (with_reducible repeat (first | apply Kd.V_alloc | apply Kd.V_drewN | apply Kd.V_drew)); exact Kd.V_mono HL337_1.out (fun _ hk => ⟨⟨hk.1, ⟨hk.2.2.2.2, ⟨hk.2.1, hk.2.2.2.1⟩⟩⟩, hk.2.2.1⟩)) hg hat)
 have n2_ := Aside0.mk (Kd.V_afterv (ok := (fun k_ => (w.heap.size ≤ k_) ∧ some k_ ≠ (.slice (some ad337) x8_2.length co18 : Value).ownBlock ∧ some k_ ≠ (v342 : Value).ownBlock ∧ some k_ ≠ (.slice Ao50 y347.length co50 : Value).ownBlock)) (by (with_reducible repeat (first | apply Kd.V_alloc | apply Kd.V_drewN | apply Kd.V_drew)); exact Kd.V_mono HL338_1.out (fun _ hk => ⟨⟨hk.1, ⟨hk.2.2.2.2, ⟨hk.2.1, hk.2.2.2.1⟩⟩⟩, hk.2.2.1⟩)) hg hat)
 have n3_ := Aside0.mk (Kd.V_afterv (ok := (fun k_ => (w.heap.size ≤ k_) ∧ some k_ ≠ (.slice (some ad337) x8_2.length co18 : Value).ownBlock ∧ some k_ ≠ (v342 : Value).ownBlock ∧ some k_ ≠ (.slice Ao50 y347.length co50 : Value).ownBlock)) (by (with_reducible repeat (first | apply Kd.V_alloc | apply Kd.V_drewN | apply Kd.V_drew)); exact Kd.V_mono HL339_1.out (fun _ hk => ⟨⟨hk.1, ⟨hk.2.2.2.2, ⟨hk.2.1, hk.2.2.2.1⟩⟩⟩, hk.2.2.1⟩)) hg hat)
 have n4_ := Aside0.mk (Kd.V_afterv (ok := (fun k_ => (w.heap.size ≤ k_) ∧ some k_ ≠ (.slice (some ad337) x8_2.length co18 : Value).ownBlock ∧ some k_ ≠ (v342 : Value).ownBlock ∧ some k_ ≠ (.slice Ao50 y347.length co50 : Value).ownBlock)) (by (with_reducible repeat (first | apply Kd.V_alloc | apply Kd.V_drewN | apply Kd.V_drew)); exact Kd.V_mono HL340_1.out (fun _ hk => ⟨⟨hk.1, ⟨hk.2.2.2.2, ⟨hk.2.1, hk.2.2.2.1⟩⟩⟩, hk.2.2.1⟩)) hg hat)
 have n5_ := Aside0.mk (Kd.N_afterv (ok := (fun k_ => (w.heap.size ≤ k_) ∧ some k_ ≠ (.slice (some ad337) x8_2.length co18 : Value).ownBlock ∧ some k_ ≠ (.slice Ao50 y347.length co50 : Value).ownBlock)) (by (with_reducible repeat (first | apply Kd.N_alloc | apply Kd.N_drewN | apply Kd.N_drew)); exact Kd.N_mono HO343.out (fun _ hk => ⟨⟨hk.1, ⟨hk.2.2.2, hk.2.2.1⟩⟩, hk.2.1⟩)) hg hat)
 have n6_ := Aside0.mk (Kd.R_after (ok := (fun k_ => (w.heap.size ≤ k_))) s11q8 hg hat)
 have n7_ := Aside0.mk (hb)
 have n8_ := Aside0.mk (ho)
 clear HO_8
 clear HL337_1
 clear HL338_1
 clear HL339_1
 clear HL340_1
 clear HO343
 clear HO349
 clear HB
 clear HO346
 have HO_8 := n0_
 have HL337_1 := n1_
 have HL338_1 := n2_
 have HL339_1 := n3_
 have HL340_1 := n4_
 have HO343 := n5_
 have HO349 := n6_
 have HB := n7_
 have HO352 := n8_
 clear n0_ n1_ n2_ n3_ n4_ n5_ n6_ n7_ n8_
 clear ho hb hg hat
 obtain ⟨Ao51, co51, eo51⟩ := Kd.R_slice HO352.out
 (first | subst eo51 | (injection eo51 with f1_ f2_ f3_; have f4_ := f1_.symm; have f5_ := f3_.symm; clear f1_ f2_ f3_; subst f4_; subst f5_))
 have p39 : 0 ≤ (x11_3 : Int) := of_decide_eq_true s11q4
 have q39 : (x11_3 : Int) < ((x8_2.length : Int) : Int) := of_decide_eq_true s11q4
 obtain ⟨go39, co39, eo39, gb39, gl39, cl39, HG39⟩ := Kd.N_form HO_8.out (by first | exact Int.natCast_pos.1 (Int.lt_of_le_of_lt p39 q39) | omega)
 (first | cases eo39 | (injection eo39 with ea_ en_ ec_; (first | subst ea_ | (injection ea_ with ea_; subst ea_)); subst ec_; clear en_))
 have GB39 := Aside0.mk gb39
 have GG39 := Aside0.mk HG39
 clear gb39 gl39 HG39
 (first | simp only [add_plain] at hx337_0 | skip)
 (first | simp only [add_plain] at hx337_1 | skip)
 (first | simp only [add_plain] at hx338_0 | skip)
 (first | simp only [add_plain] at hx338_1 | skip)
 (first | simp only [add_plain] at hx339_0 | skip)
 (first | simp only [add_plain] at hx339_1 | skip)
 (first | simp only [add_plain] at hx340_0 | skip)
 (first | simp only [add_plain] at hx340_1 | skip)
 obtain ⟨ce39, hcl39, hM39, hcc39, hfr39⟩ := Kd.N_elem HO_8.out z93 (x11_3 : Int) p39 q39
 obtain ⟨ua39_1, uc39_1, rfl, ul39_1, ge39_1⟩ := k93_openF hM39
 have hx39_0 : World.cell? _ ⟨go39, (x11_3 : Int).toNat * 2, none⟩ = some (.int .i64 ((rd_T93 x8_2 x11_3).f0)) := hcc39 0 _ rfl
 have hx39_1 : World.cell? _ ⟨go39, (x11_3 : Int).toNat * 2 + 1, none⟩ = some (.slice ua39_1 ((rd_T93 x8_2 x11_3).f1).length uc39_1) := hcc39 1 _ rfl
 have hf39_0 : World.frozen? _ ⟨go39, (x11_3 : Int).toNat * 2, none⟩ = false := hfr39 0
 have hf39_1 : World.frozen? _ ⟨go39, (x11_3 : Int).toNat * 2 + 1, none⟩ = false := hfr39 1
 clear hcl39 hcc39 hfr39 hM39
 replace p39 := eq_true p39
 replace q39 := eq_true q39
 have HX52 := Aside0.mk (show Kd.N k93 93 _ w.heap.size (fun k_ => (w.heap.size ≤ k_) ∧ some k_ ≠ (v342 : Value).ownBlock ∧ some k_ ≠ (.slice Ao50 y347.length co50 : Value).ownBlock ∧ some k_ ≠ (.slice Ao51 y350.length co51 : Value).ownBlock) (.slice (some ⟨go39, 0, none⟩) x8_2.length co18) x8_2 from (Kd.N_mono (HO_8.out) (fun k_ hk => ⟨hk.1.1, ⟨hk.1.2.1, ⟨hk.1.2.2, hk.2⟩⟩⟩)))
 replace HX52 := Aside0.mk (show Kd.N k93 93 _ w.heap.size (fun k_ => (w.heap.size ≤ k_) ∧ some k_ ≠ (v342 : Value).ownBlock ∧ some k_ ≠ (.slice Ao50 y347.length co50 : Value).ownBlock) (.slice (some ⟨go39, 0, none⟩) x8_2.length co18) x8_2 from Kd.N_mono HX52.out (fun k_ hk => ⟨hk.1, ⟨hk.2.1, hk.2.2.1⟩⟩))
 obtain ⟨ce52, hcl52, hM52, hcc52, hfr52⟩ := Kd.N_elem HX52.out z93 (x11_3 : Int) (of_decide_eq_true s11q4) s11q27
 obtain ⟨ua52_1, uc52_1, rfl, ul52_1, ge52_1⟩ := k93_openF hM52
 have HP52 := (Kd.N_seg HX52.out (x11_3 : Int) (of_decide_eq_true s11q4) s11q27 (seg := [.int .i64 (Go.bits .or .i64 ((rd_T93 x8_2 x11_3).f0) ((rd_T93 x8_2 x12_3).f0)), .slice Ao51 y350.length co51]) (j := 0) hcl52 hcc52 (show 2 ≤ 2 from by decide) (x' := (⟨Go.bits .or .i64 ((rd_T93 x8_2 x11_3).f0) ((rd_T93 x8_2 x12_3).f0), y350⟩ : S93)) (k93_mkF _ _ (⟨Go.bits .or .i64 ((rd_T93 x8_2 x11_3).f0) ((rd_T93 x8_2 x12_3).f0), y350⟩ : S93) (Kd.R_reads' (Kd.R_mono (ok' := (fun k_ => ((fun k_ => (w.heap.size ≤ k_) ∧ some k_ ≠ (v342 : Value).ownBlock ∧ some k_ ≠ (.slice Ao50 y347.length co50 : Value).ownBlock)) k_ ∧ k_ ≠ go39)) (Kd.R_apart' (Kd.R_apart' (HO352.out) (Kd.N_typed HO343.out) s11q0) (Kd.N_typed HO_8.out) s11q0) (fun k_ hk => ⟨⟨hk.1.1.1, ⟨hk.1.2, hk.1.1.2⟩⟩, fun e_ => (hk.2) (by rw [e_]; rfl)⟩))).2.1 (Kd.R_F (Kd.R_mono (ok' := (fun k_ => ((fun k_ => (w.heap.size ≤ k_) ∧ some k_ ≠ (v342 : Value).ownBlock ∧ some k_ ≠ (.slice Ao50 y347.length co50 : Value).ownBlock)) k_ ∧ k_ ≠ go39)) (Kd.R_apart' (Kd.R_apart' (HO352.out) (Kd.N_typed HO343.out) s11q0) (Kd.N_typed HO_8.out) s11q0) (fun k_ hk => ⟨⟨hk.1.1.1, ⟨hk.1.2, hk.1.1.2⟩⟩, fun e_ => (hk.2) (by rw [e_]; rfl)⟩)))) (fun _ hk => hk)).1
 rw [← Ny353.out] at HP52
 have HQ52 := Aside0.mk HP52
 clear hcl52 hcc52 hfr52 hM52 HP52
 refine hK.out _ _ ⟨HS0_, HS1_, HS2_, HS3_, HS4_, HS5_, HS6_, HS7_⟩ (fun hHeld => ?_)
 clear hK K
 refine norm_ (a' := ?_) ?_ ?_
 rotate_left
 · show Act.put _ (some 104) _ = _
   simp only [Act.put, sqa, sqb, sqc, i64_w, i32_w]
   rfl
 refine pure_ (i := 27) (N := some 105) (v := ?_) (a' := ?_) #[true, true, true, true, true, true, true, true, true, true, true, true, true, true, true, true, true, true, true, true, true, true, true, true, true, true, true, true, false, false] rfl rfl (any_of HT_.out s11q1) (fun _ _ _ h => h) (Or.inl ⟨by rfl, ?_⟩) ?_ ?_
 rotate_left
 · intro w'
   go_simp
   with_reducible rfl
 rotate_left
 · simp only [Act.put, sqa, sqb, sqc, i64_w, i32_w]
   rfl
 refine pure_ (i := 28) (N := some 106) (v := ?_) (a' := ?_) #[true, true, true, true, true, true, true, true, true, true, true, true, true, true, true, true, true, true, true, true, true, true, true, true, true, true, true, true, true, false] rfl rfl (any_of HT_.out s11q1) (fun _ _ _ h => h) (Or.inl ⟨by rfl, ?_⟩) ?_ ?_
 rotate_left
 · intro w'
   go_simp
   with_reducible rfl
 rotate_left
 · simp only [Act.put, sqa, sqb, sqc, i64_w, i32_w]
   rfl
 refine last_ (i := 29) (N := none) #[true, true, true, true, true, true, true, true, true, true, true, true, true, true, true, true, true, true, true, true, true, true, true, true, true, true, true, true, true, true] rfl rfl (one_of HT_.out s11q1) s11q0 (fun K hK => ?_)
 refine skip_ (w1 := ?_) (by rfl) rfl ?_ ?_
 rotate_left
 · go_simp
   rfl
 refine hK.out _ _ ?_
 clear hK K
 refine done_ (done_of HT_.out s11q1) ?_
 try go_wp2_with (first | (go_at_call 52; have hj_ : 0 ≤ (x12_3 : Int) := of_decide_eq_true s11q4; have hh_ : (x12_3 : Int) < (x8_2.length : Int) := of_decide_eq_true s11q4; have hb_ := (Kd.N_reads' HO_8.out).2.2.2.1; have hjj_ : (wrap64 (x12_3 + 1) : Int) = (x12_3 : Int) + 1 := (by unfold wrap64; omega); refine (delete52N k93 rfl w.heap.size (by (with_reducible repeat (first | apply Kd.N_alloc | apply Kd.N_drewN | apply Kd.N_drew)); exact HQ52.out) hj_ hh_ hjj_ (by repeat (first | (with_reducible first | exact HB.out | apply below_alloc | apply pw_below_drewN | apply below_drew1 | refine below_set ?_ GB39.out | refine below_set ?_ GB39.out) | exact HB.out))).mono ?_; rintro e w53 ⟨rfl, ho, hb, hg⟩; clear hj_ hh_ hb_ hjj_; rw [← Ny354.out] at ho; have hn_ : x8_2.length - 1 = y354.length := (by have := (Kd.N_reads' ho).1; omega); rw [hn_] at ho; try rw [hn_]; clear hn_; have n0_ := Aside0.mk (ho); have n1_ := Aside0.mk (hb); clear HO_8; clear HB; have HO_8 := n0_; have HB := n1_; clear n0_ n1_; clear ho hb hg))
 first | go_roundg k3 | (refine Handed.intro k3 ?measure ?_; rotate_left; go_step; (repeat apply Exists.intro); simp only [add_plain]; refine ⟨?rel, rfl⟩)
 case measure => have := HK1.out; have := HK2.out; have := HK3.out; omega
 case rel => exact ⟨(y354), (ji40), (by first | rfl | (simp; done) | (simp only [← hji40] <;> (first | rfl | simp)) | (simp [*]; done)), H', ⟨by have := HK1.out; have := HK2.out; have := HK3.out; omega⟩, ⟨by (with_reducible repeat (first | apply Kd.N_alloc | apply Kd.N_drewN | apply Kd.N_drew)); exact Kd.N_mono HO_8.out (fun _ hk => hk.1)⟩, ⟨by repeat (first | (with_reducible first | exact HB.out | apply below_alloc | apply pw_below_drewN | apply below_drew1) | exact HB.out)⟩⟩
end Go.Proofs.YtgcijejmmhjibaaDoor.G
