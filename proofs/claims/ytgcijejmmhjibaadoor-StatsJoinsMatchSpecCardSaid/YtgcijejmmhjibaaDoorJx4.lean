-- Printed by a program of this session (a patched print).
import Derived.Test.YtgcijejmmhjibaaDoorJx0
import Derived.Test.YtgcijejmmhjibaaDoorJx2
import Derived.Test.YtgcijejmmhjibaaDoorJx3
namespace Go.Proofs.YtgcijejmmhjibaaDoor.J
open Go.RowKit Go.Proofs.YtgcijejmmhjibaaDoorW.PrintWords Go.Proofs.YtgcijejmmhjibaaDoorW.PrintLast Go.Proofs.YtgcijejmmhjibaaDoorW.PrintMore
attribute [local go_sem] max2_int min2_int max_two min_two max_three min_three max_four min_four   -- for this text's walks alone
set_option linter.unusedVariables false
set_option linter.unusedSimpArgs false

theorem s4z2 {p : Prop} (h : p := by repeat (first | (with_reducible first | exact HB.out | apply below_alloc | apply pw_below_drewN | apply below_drew1 | refine below_set ?_ GE141.out) | exact HB.out)) : p := h
theorem s4qm0 {p : Prop} (h : p := by repeat' first | (with_reducible exact ih0 _ _ _ _) | (with_reducible exact ih1 _ _ _ _ _ _ _) | (with_reducible exact ih2 _ _ _ _ _ _ _ _) | (with_reducible exact cost_checkRelations.mono _ _ _) | (with_reducible exact cost_joined.mono _ _ _) | (with_reducible exact cost_size.mono _ _ _ _) | (with_reducible exact LeO.refl _) | (with_reducible exact LeO.none _) | (with_reducible refine LeO.ite ?_ ?_) | (with_reducible refine LeO.bind ?_ (fun _ => ?_)) | exact ih0 _ _ _ _ | exact ih1 _ _ _ _ _ _ _ | exact ih2 _ _ _ _ _ _ _ _ | exact cost_checkRelations.mono _ _ _ | exact cost_joined.mono _ _ _ | exact cost_size.mono _ _ _ _ | exact LeO.none _ | refine LeO.ite ?_ ?_ | refine LeO.bind ?_ (fun _ => ?_)) : p := h
theorem s4q0 {p : Prop} (h : p := by decide) : p := h
theorem s4q2 {p : Prop} (h : p := by rw [e_]; rfl) : p := h
theorem s4q3 {p : Prop} (h : p := by simp only [putAll, Act.put, sqa, sqb, sqc]) : p := h
theorem s4q6 {p : Prop} (h : p := by (with_reducible repeat (first | apply Kd.S_alloc | apply Kd.S_drewN | apply Kd.S_drew)); exact HO_8.out) : p := h
theorem s4q7 {p : Prop} (h : p := by (with_reducible repeat (first | apply Kd.R_alloc | apply Kd.R_drewN | apply Kd.R_drew)); exact HL148_0.out) : p := h
theorem s4q8 {p : Prop} (h : p := by (with_reducible repeat (first | apply Kd.R_alloc | apply Kd.R_drewN | apply Kd.R_drew)); exact HL149_0.out) : p := h
theorem s4q9 {p : Prop} (h : p := by (with_reducible repeat (first | apply Kd.R_alloc | apply Kd.R_drewN | apply Kd.R_drew)); exact HL152_0.out) : p := h
theorem s4q10 {p : Prop} (h : p := by (with_reducible repeat (first | apply Kd.R_alloc | apply Kd.R_drewN | apply Kd.R_drew)); exact HL157_0.out) : p := h
theorem s4q14 {p : Prop} (h : p := by (with_reducible repeat (first | apply Kd.R_alloc | apply Kd.R_drewN | apply Kd.R_drew)); exact Kd.R_mono HL148_0.out (fun _ hk => hk.2)) : p := h
theorem s4q15 {p : Prop} (h : p := by (with_reducible repeat (first | apply Kd.R_alloc | apply Kd.R_drewN | apply Kd.R_drew)); exact Kd.R_mono HL149_0.out (fun _ hk => hk.2)) : p := h
theorem s4q17 {p : Prop} (h : p := by (with_reducible repeat (first | apply Kd.S_alloc | apply Kd.S_drewN | apply Kd.S_drew)); exact Kd.S_mono HO_8.out (fun _ hk => ⟨hk.1.2, hk.2⟩)) : p := h
theorem s4q18 {p : Prop} (h : p := by (with_reducible repeat (first | apply Kd.S_alloc | apply Kd.S_drewN | apply Kd.S_drew)); exact Kd.S_mono HO_8.out (fun _ hk => ⟨hk.2, hk.1.2⟩)) : p := h
theorem s4q19 {p : Prop} (h : p := by (with_reducible repeat (first | apply Kd.R_alloc | apply Kd.R_drewN | apply Kd.R_drew)); exact Kd.R_mono HL148_0.out (fun _ hk => ⟨hk.2, hk.1⟩)) : p := h
theorem s4q20 {p : Prop} (h : p := by (with_reducible repeat (first | apply Kd.R_alloc | apply Kd.R_drewN | apply Kd.R_drew)); exact Kd.R_mono HL149_0.out (fun _ hk => ⟨hk.2, hk.1⟩)) : p := h
theorem s4q21 {p : Prop} (h : p := by repeat (first | (with_reducible first | exact HB.out | apply below_alloc | apply pw_below_drewN | apply below_drew1 | refine below_set ?_ GE150.out) | exact HB.out)) : p := h
theorem s4q22 {p : Prop} (h : p := by repeat (first | (with_reducible first | exact HB.out | apply below_alloc | apply pw_below_drewN | apply below_drew1 | refine below_set ?_ GE151.out) | exact HB.out)) : p := h
theorem s4q23 {p : Prop} (h : p := by (with_reducible repeat (first | apply Kd.S_alloc | apply Kd.S_drewN | apply Kd.S_drew)); exact Kd.S_mono HO_8.out (fun k_ hk => ⟨⟨hk.2.1, hk.2.2⟩, fun e_ => hk.1 e_⟩)) : p := h
theorem s4q24 {p : Prop} (h : p := by (with_reducible repeat (first | apply Kd.R_alloc | apply Kd.R_drewN | apply Kd.R_drew)); exact Kd.R_mono HL152_0.out (fun _ hk => ⟨⟨hk.2, ⟨hk.1.1.1, hk.1.1.2⟩⟩, hk.1.2⟩)) : p := h
theorem s4q25 {p : Prop} (h : p := by repeat (first | (with_reducible exact HR148_0.out) | (with_reducible refine Kd.C_alloc ?_ _) | (with_reducible refine Kd.C_drewN ?_ _) | (with_reducible refine Kd.C_drew ?_) | exact HR148_0.out)) : p := h
theorem s4q26 {p : Prop} (h : p := by repeat (first | (with_reducible exact HR149_0.out) | (with_reducible refine Kd.C_alloc ?_ _) | (with_reducible refine Kd.C_drewN ?_ _) | (with_reducible refine Kd.C_drew ?_) | exact HR149_0.out)) : p := h
theorem s4q27 {p : Prop} (h : p := by repeat (first | (with_reducible exact HR152_0.out) | (with_reducible refine Kd.C_alloc ?_ _) | (with_reducible refine Kd.C_drewN ?_ _) | (with_reducible refine Kd.C_drew ?_) | exact HR152_0.out)) : p := h
theorem s4q28 {p : Prop} (h : p := by repeat (first | (with_reducible first | exact HB.out | apply below_alloc | apply pw_below_drewN | apply below_drew1 | refine below_set ?_ GE150.out | refine below_set ?_ GE151.out) | exact HB.out)) : p := h
theorem s4q29 {p : Prop} (h : p := by repeat (first | (with_reducible first | exact HB.out | apply below_alloc | apply pw_below_drewN | apply below_drew1 | refine below_set ?_ GE151.out | refine below_set ?_ GE150.out) | exact HB.out)) : p := h
theorem s4q30 {p : Prop} (h : p := by first | exact Kd.own_blk (Kd.S_away HO_8.out (fun _ hk => hk.1)) | (rw [add_block]; exact Kd.own_blk (Kd.S_away HO_8.out (fun _ hk => hk.1))) | (show (Addr.add _ _).block ≠ _; rw [add_block]; exact Kd.own_blk (Kd.S_away HO_8.out (fun _ hk => hk.1))) | (dsimp only; exact Kd.own_blk (Kd.S_away HO_8.out (fun _ hk => hk.1)))) : p := h
theorem s4q31 {p : Prop} (h : p := by first | exact Kd.own_blk (Kd.S_away HO_8.out (fun _ hk => hk.2)) | (rw [add_block]; exact Kd.own_blk (Kd.S_away HO_8.out (fun _ hk => hk.2))) | (show (Addr.add _ _).block ≠ _; rw [add_block]; exact Kd.own_blk (Kd.S_away HO_8.out (fun _ hk => hk.2))) | (dsimp only; exact Kd.own_blk (Kd.S_away HO_8.out (fun _ hk => hk.2)))) : p := h
theorem s4q32 {p : Prop} (h : p := by first | exact q148 | exact of_decide_eq_true q3_ | (have e_ := (Kd.S_reads' HO_8.out).1; omega)) : p := h
theorem s4q33 {p : Prop} (h : p := by first | exact q149 | exact of_decide_eq_true q3_ | (have e_ := (Kd.S_reads' HO_8.out).1; omega)) : p := h
theorem s4q34 {p : Prop} (h : p := by first | exact q152 | exact of_decide_eq_true q3_ | (have e_ := (Kd.S_reads' HO_8.out).1; omega)) : p := h
theorem s4q35 {p : Prop} (h : p := by first | exact q157 | exact of_decide_eq_true q3_ | (have e_ := (Kd.S_reads' HO_8.out).1; omega)) : p := h
theorem s4q36 {p : Prop} (h : p := by have h_ : (x9_1 : Int) < ((x8_1.length : Int) : Int) := of_decide_eq_true q3_; first | exact h_ | (have e_ := (Kd.S_reads' HO_8.out).1; omega) | simpa using h_) : p := h
theorem s4q37 {p : Prop} (h : p := by have h_ : (x9_1 : Int) < ((x8_2.length : Int) : Int) := of_decide_eq_true q3_; first | exact h_ | (have e_ := (Kd.S_reads' HO_8.out).1; omega) | simpa using h_) : p := h
theorem s4q38 {p : Prop} (h : p := by rw [hg]; exact (below_size q1_)) : p := h
theorem s4q39 {p : Prop} (h : p := by rw [hg]; exact (below_size s4q21)) : p := h
theorem s4q40 {p : Prop} (h : p := by rw [hg]; exact (below_size s4q22)) : p := h
theorem s4q41 {p : Prop} (h : p := by rw [hg]; exact Nat.ne_of_gt (blk_lt (g := gb150) (o := .cells #[.slice none 0 0, .int .i64 0] 80 (0, 0)) (blkR BK150.out))) : p := h
theorem s4q42 {p : Prop} (h : p := by rw [hg]; exact Nat.ne_of_gt (blk_lt (g := gb151) (o := .cells #[.slice none 0 0, .int .i64 0] 80 (0, 0)) (blkR BK151.out))) : p := h
theorem s4q43 {p : Prop} (h : p := by rw [hg]; exact Nat.ne_of_lt (blk_lt (g := gb150) (o := .cells #[.slice none 0 0, .int .i64 0] 80 (0, 0)) (blkR BK150.out))) : p := h
theorem s4q44 {p : Prop} (h : p := by rw [hg]; exact Nat.ne_of_lt (blk_lt (g := gb151) (o := .cells #[.slice none 0 0, .int .i64 0] 80 (0, 0)) (blkR BK151.out))) : p := h
/-! ### cost_Best: function 17 -/
mutual
def cost_Best.l0 : Nat → List Int → List (S75) → List (S80) → Int → Option (List Int × Int × Int)
  | 0, _, _, _, _ => none
  | k + 1, x0, x1, x8, x9 => if x9 < (x8.length : Int) then (if (Go.bits .and .i64 x9 (wrap64 (x9 - 1))) = 0 then ((bits_TrailingZeros.f (IntKind.u64.wrap (x9))).bind fun t142 => ((some (([t142] : List Int) : List Int)).bind fun y143 => (if 0 ≤ x9 then (if (y143.length : Int) = 0 then (none) else (cost_Best.l0 k x0 x1 (x8.set (x9 : Int).toNat (⟨y143, (rd_T80 x8 x9).f1⟩ : S80)) (wrap64 (x9 + 1)))) else (none)))) else ((cost_size.f k x0 x1 x9).bind fun t147 => (cost_Best.l1 k x0 x1 x8 x9 t147 (Go.bits .and .i64 x9 (wrap64 (-x9))) 1))) else (if 0 ≤ (wrap64 ((x8.length : Int) - 1)) then (if (wrap64 ((x8.length : Int) - 1)) < (x8.length : Int) then (some ((rd_T80 x8 (wrap64 ((x8.length : Int) - 1))).f0, (rd_T80 x8 (wrap64 ((x8.length : Int) - 1))).f1, 0)) else (none)) else (none))
def cost_Best.l1 : Nat → List Int → List (S75) → List (S80) → Int → Int → Int → Int → Option (List Int × Int × Int)
  | 0, _, _, _, _, _, _, _ => none
  | k + 1, x0, x1, x8, x9, x10, x11, x12 => if x12 < x9 then (if (Go.bits .andNot .i64 x12 x9) = 0 then (cost_Best.j2 k x0 x1 x8 x9 x10 x11 x12 ((Go.bits .and .i64 x12 x11) == 0)) else (cost_Best.j2 k x0 x1 x8 x9 x10 x11 x12 true)) else (cost_Best.l0 k x0 x1 x8 (wrap64 (x9 + 1)))
def cost_Best.j2 : Nat → List Int → List (S75) → List (S80) → Int → Int → Int → Int → Bool → Option (List Int × Int × Int)
  | 0, _, _, _, _, _, _, _, _ => none
  | k + 1, x0, x1, x8, x9, x10, x11, x12, x68 => if x68 = true then (cost_Best.l1 k x0 x1 x8 x9 x10 x11 (wrap64 (x12 + 1))) else (if 0 ≤ x12 then (if x12 < (x8.length : Int) then (if 0 ≤ (Go.bits .andNot .i64 x9 x12) then (if (Go.bits .andNot .i64 x9 x12) < (x8.length : Int) then (if 0 ≤ x9 then (if x9 < (x8.length : Int) then (if (((rd_T80 x8 x9).f0).length : Int) = 0 then ((cost_joined.f k ((rd_T80 x8 x12).f0) ((rd_T80 x8 (Go.bits .andNot .i64 x9 x12)).f0)).bind fun t153 => (if (t153.length : Int) = 0 then (none) else (cost_Best.l1 k x0 x1 (x8.set (x9 : Int).toNat (⟨t153, mn 1000000000000000 (wrap64 ((wrap64 (((rd_T80 x8 x12).f1) + ((rd_T80 x8 (Go.bits .andNot .i64 x9 x12)).f1))) + x10))⟩ : S80)) x9 x10 x11 (wrap64 (x12 + 1))))) else (if (mn 1000000000000000 (wrap64 ((wrap64 (((rd_T80 x8 x12).f1) + ((rd_T80 x8 (Go.bits .andNot .i64 x9 x12)).f1))) + x10))) < ((rd_T80 x8 x9).f1) then ((cost_joined.f k ((rd_T80 x8 x12).f0) ((rd_T80 x8 (Go.bits .andNot .i64 x9 x12)).f0)).bind fun t158 => (if (t158.length : Int) = 0 then (none) else (cost_Best.l1 k x0 x1 (x8.set (x9 : Int).toNat (⟨t158, mn 1000000000000000 (wrap64 ((wrap64 (((rd_T80 x8 x12).f1) + ((rd_T80 x8 (Go.bits .andNot .i64 x9 x12)).f1))) + x10))⟩ : S80)) x9 x10 x11 (wrap64 (x12 + 1))))) else (cost_Best.l1 k x0 x1 x8 x9 x10 x11 (wrap64 (x12 + 1))))) else (none)) else (none)) else (none)) else (none)) else (none)) else (none))
end
def cost_Best.f (k : Nat) (l0 : List Int) (l1 : List (S75)) : Option (List Int × Int × Int) := (cost_checkRelations.f k l0 l1).bind fun t136 => (if t136 = 0 then (if 0 ≤ (shl .i64 1 (l0.length : Int)) then (if (shl .i64 1 (l0.length : Int) : Int).toNat ≤ 8796093022208 then (cost_Best.l0 k l0 l1 (List.replicate (shl .i64 1 (l0.length : Int) : Int).toNat z80) 1) else (none)) else (none)) else (some (([] : List Int), 0, t136)))
theorem cost_Best.mono_l : ∀ k, (∀ y0 y1 y2 y3, LeO (cost_Best.l0 k y0 y1 y2 y3) (cost_Best.l0 (k + 1) y0 y1 y2 y3)) ∧ (∀ y0 y1 y2 y3 y4 y5 y6, LeO (cost_Best.l1 k y0 y1 y2 y3 y4 y5 y6) (cost_Best.l1 (k + 1) y0 y1 y2 y3 y4 y5 y6)) ∧ (∀ y0 y1 y2 y3 y4 y5 y6 y7, LeO (cost_Best.j2 k y0 y1 y2 y3 y4 y5 y6 y7) (cost_Best.j2 (k + 1) y0 y1 y2 y3 y4 y5 y6 y7))
  | 0 => ⟨fun _ _ _ _ r h => by simp [cost_Best.l0] at h, fun _ _ _ _ _ _ _ r h => by simp [cost_Best.l1] at h, fun _ _ _ _ _ _ _ _ r h => by simp [cost_Best.j2] at h⟩
  | k + 1 => by
    obtain ⟨ih0, ih1, ih2⟩ := cost_Best.mono_l k
    refine ⟨?_, ?_, ?_⟩
    · intro y0 y1 y2 y3
      unfold cost_Best.l0
      exact s4qm0
    · intro y0 y1 y2 y3 y4 y5 y6
      unfold cost_Best.l1
      exact s4qm0
    · intro y0 y1 y2 y3 y4 y5 y6 y7
      unfold cost_Best.j2
      exact s4qm0
theorem cost_Best.mono : ∀ a0 a1 k, LeO (cost_Best.f k a0 a1) (cost_Best.f (k + 1) a0 a1) := by
 intro a0 a1 k
 obtain ⟨ih0, ih1, ih2⟩ := cost_Best.mono_l k
 unfold cost_Best.f
 repeat' first
  | (with_reducible exact ih0 _ _ _ _)
  | (with_reducible exact ih1 _ _ _ _ _ _ _)
  | (with_reducible exact ih2 _ _ _ _ _ _ _ _)
  | (with_reducible exact cost_checkRelations.mono _ _ _)
  | (with_reducible exact cost_joined.mono _ _ _)
  | (with_reducible exact cost_size.mono _ _ _ _)
  | (with_reducible exact LeO.refl _)
  | (with_reducible exact LeO.none _)
  | (with_reducible refine LeO.ite ?_ ?_)
  | (with_reducible refine LeO.bind ?_ (fun _ => ?_))
  | exact ih0 _ _ _ _
  | exact ih1 _ _ _ _ _ _ _
  | exact ih2 _ _ _ _ _ _ _ _
  | exact cost_checkRelations.mono _ _ _
  | exact cost_joined.mono _ _ _
  | exact cost_size.mono _ _ _ _
  | exact LeO.none _
  | refine LeO.ite ?_ ?_
  | refine LeO.bind ?_ (fun _ => ?_)
def cost_Best.T16 : Bool × List (List Nat × List Nat) := (true, [([], []), ([], []), ([0, 1], [0, 1]), ([2], [2]), ([], []), ([], []), ([], []), ([5, 6], [5, 6]), ([4, 7], [4, 7]), ([8], [8]), ([], []), ([], []), ([10, 3, 0, 1, 2, 3, 10, 11], [3, 10]), ([11, 9, 12, 0, 1, 2, 3, 4, 5, 6, 7, 8, 9, 10, 11, 12], [9, 11])])
def cost_Best.B16 : List Nat := [0, 0, 3, 7, 0, 0, 0, 96, 240, 496, 0, 0, 3087, 8191]
theorem cost_Best.tab16 : rtab .any (opsOf Tryd.f17 16) = cost_Best.T16 := by kernel_rfl
theorem cost_Best.bits16 : waitsOk cost_Best.T16.2 cost_Best.B16 = true := by kernel_rfl
set_option maxHeartbeats 8000000 in
set_option maxRecDepth 100000 in
theorem cost_Best.calls (k : Nat) (A0 : Option Addr) (c0 : Nat) (l0 : List Int) (A1 : Option Addr) (c1 : Nat) (l1 : List (S75)) (r1 : List Int) (r2 : Int) (r3 : Int) (w : World) (hr0 : Kd.C (Kd.int .i64) w A0 l0.length l0) (hc0 : l0.length ≤ c0) (hr1 : Kd.C k75 w A1 l1.length l1) (hc1 : l1.length ≤ c1) (hG : Glob w) (h : cost_Best.f k l0 l1 = some (r1, r2, r3)) :
    Calls Tryd.prog 17 #[.slice A0 l0.length c0, .slice A1 l1.length c1] w fun e w' => ∃ v0_ : Value, e = .returned (.tuple #[v0_, .int .i64 r2, .int .i64 r3]) ∧ Kd.R (Kd.int .i64) 3 w' w.heap.size (fun _ => True) v0_ r1 ∧ Below w.heap.size w w' := by
 have hnileql22 := fun (W : World) (a : Option Addr) (n c : Nat) => run_eql_nil (P := Tryd.prog) W 22 3 a n c Tryd.underlying22
 have hu80 := Tryd.underlying80
 have HG := aM hG
 clear hG
 have HR0 := aM hr0
 have HC0 := aM hc0
 clear hr0 hc0
 have HR1 := aM hr1
 have HC1 := aM hc1
 clear hr1 hc1
 have HB := aM (Below.refl w.heap.size w)
 have H : ((cost_checkRelations.f k l0 l1).bind fun t136 => (if t136 = 0 then (if 0 ≤ (shl .i64 1 (l0.length : Int)) then (if (shl .i64 1 (l0.length : Int) : Int).toNat ≤ 8796093022208 then (cost_Best.l0 k l0 l1 (List.replicate (shl .i64 1 (l0.length : Int) : Int).toNat z80) 1) else (none)) else (none)) else (some (([] : List Int), 0, t136)))) = some (r1, r2, r3) := h
 clear h
 replace H := Option.bind_eq_some_iff.mp H
 obtain ⟨t136, A30, H⟩ := H
 replace H : (if t136 = 0 then (if 0 ≤ (shl .i64 1 (l0.length : Int)) then (if (shl .i64 1 (l0.length : Int) : Int).toNat ≤ 8796093022208 then (cost_Best.l0 k l0 l1 (List.replicate (shl .i64 1 (l0.length : Int) : Int).toNat z80) 1) else (none)) else (none)) else (some (([] : List Int), 0, t136))) = some (r1, r2, r3) := H
 have A3 := aM A30
 clear A30
 by_cases c4 : t136 = 0
 case neg =>
  rw [if_neg c4] at H
  have c4b0 : (t136 == 0) = false := beq_eq_false_iff_ne.mpr c4
  have c4b1 : (t136 != 0) = true := bne_iff_ne.mpr c4
  simp only [Option.some.injEq, Prod.mk.injEq] at H
  obtain ⟨rfl, rfl, rfl⟩ := H
  go_enter Tryd.func17, Tryd.ntmps17
  go_wp2_with (first | ((with_reducible refine gate_callee (f := 40) rfl ?_); refine goesL_ (some 19) rfl rfl Tryd.func40 q5_ rfl #[.slice A0 l0.length c0, .slice A1 l1.length c1] rfl q2_ ?_; (with_reducible refine (cost_checkRelations.calls k _ _ l0 _ _ l1 t136 _ ?side1 ?side2 ?side3 ?side4 A3.out).mono ?_); (case side1 => repeat (first | exact HR0.out | (with_reducible refine Kd.C_alloc ?_ _) | (with_reducible refine Kd.C_drewN ?_ _) | (with_reducible refine Kd.C_drew ?_))); (case side2 => exact HC0.out); (case side3 => repeat (first | exact HR1.out | (with_reducible refine Kd.C_alloc ?_ _) | (with_reducible refine Kd.C_drewN ?_ _) | (with_reducible refine Kd.C_drew ?_))); (case side4 => exact HC1.out); rintro e w97 ⟨rfl, hb⟩; refine ⟨_, rfl, ?_⟩; replace HB := aM (below_step q1_ hb); (try clear hb); (try clear hb2); (try clear hk); (try clear hi)))
  go_ret3
  exact ⟨_, eqR, by first | exact Kd.R_nil _ _ _ _ _ | exact Kd.N_nil _ _ _ _ _ | exact Kd.V_nil _ _ _ _ _ | exact Kd.Q_nil _ _ _ _ _ | exact Kd.S_nil _ _ _ _ _, q1_⟩
 rw [if_pos c4] at H
 have c4b0 : (t136 == 0) = true := beq_iff_eq.mpr c4
 have c4b1 : (t136 != 0) = false := bne_eq_false_iff_eq.mpr c4
 clear c4
 obtain ⟨ji5, hji5⟩ : ∃ j_ : Int, (shl .i64 1 (l0.length : Int)) = j_ := ⟨_, rfl⟩
 replace H : (if 0 ≤ (ji5) then (if (ji5 : Int).toNat ≤ 8796093022208 then (cost_Best.l0 k l0 l1 (List.replicate (ji5 : Int).toNat z80) 1) else (none)) else (none)) = some (r1, r2, r3) := by first | (rw [hji5] at H; exact H) | (simp only [hji5] at H ⊢; exact H)
 (try rw [hji5] at A3)
 have hji5_ : (IntKind.i64.wrap (1 * 2 ^ min (l0.length : Int).toNat 64)) = ji5 := hji5
 have hji5z : (l0.length : Int) ≤ 64 → (IntKind.i64.wrap (1 * 2 ^ (l0.length : Int).toNat)) = ji5 := shl_small hji5
 have hji5p : (IntKind.i64.wrap (1 * 2 ^ min l0.length 64)) = ji5 := hji5_
 have hji5q : (l0.length : Int) ≤ 64 → (IntKind.i64.wrap (1 * 2 ^ l0.length)) = ji5 := hji5z
 have hji5r : (IntKind.i64.wrap (2 ^ min l0.length 64)) = ji5 := by have h_ := hji5p; rw [Int.one_mul] at h_; exact h_
 have hji5s : (l0.length : Int) ≤ 64 → (IntKind.i64.wrap (2 ^ l0.length)) = ji5 := fun hle_ => by have h_ := hji5q hle_; rw [Int.one_mul] at h_; exact h_
 have hji5u : (IntKind.i64.wrap (2 ^ min (l0.length : Int).toNat 64)) = ji5 := by have h_ := hji5_; rw [Int.one_mul] at h_; exact h_
 have hji5v : (l0.length : Int) ≤ 64 → (IntKind.i64.wrap (2 ^ (l0.length : Int).toNat)) = ji5 := fun hle_ => by have h_ := hji5z hle_; rw [Int.one_mul] at h_; exact h_
 have hji5y : (wrap64 (1 * 2 ^ min (l0.length : Int).toNat 64)) = ji5 := (i64_w _).symm.trans hji5_
 have hji5x : (l0.length : Int) ≤ 64 → (wrap64 (1 * 2 ^ (l0.length : Int).toNat)) = ji5 := fun h_ => (i64_w _).symm.trans (hji5z h_)
 by_cases c6 : 0 ≤ (ji5)
 case neg =>
  rw [if_neg c6] at H
  exact absurd H (by simp)
 rw [if_pos c6] at H
 have c6b0 := eq_true c6
 have c6b1 : decide (0 ≤ (ji5)) = true := decide_eq_true c6
 clear c6
 by_cases c7 : (ji5 : Int).toNat ≤ 8796093022208
 case neg =>
  rw [if_neg c7] at H
  exact absurd H (by simp)
 rw [if_pos c7] at H
 have c7b0 := eq_true c7
 have c7b1 : decide ((ji5 : Int).toNat ≤ 8796093022208) = true := decide_eq_true c7
 clear c7
 obtain ⟨y137, hy137⟩ : ∃ y_ : List (S80), y_ = (List.replicate (ji5 : Int).toNat z80) := ⟨_, rfl⟩
 replace H : (cost_Best.l0 k l0 l1 y137 1) = some (r1, r2, r3) := sqz hy137 H
 have Ny137 := aM hy137
 clear hy137
 have H' := aM H
 clear H
 go_enter Tryd.func17, Tryd.ntmps17
 go_wp2_with (first | ((with_reducible refine gate_callee (f := 40) rfl ?_); refine goesL_ (some 19) rfl rfl Tryd.func40 q5_ rfl #[.slice A0 l0.length c0, .slice A1 l1.length c1] rfl q2_ ?_; (with_reducible refine (cost_checkRelations.calls k _ _ l0 _ _ l1 t136 _ ?side1 ?side2 ?side3 ?side4 A3.out).mono ?_); (case side1 => repeat (first | exact HR0.out | (with_reducible refine Kd.C_alloc ?_ _) | (with_reducible refine Kd.C_drewN ?_ _) | (with_reducible refine Kd.C_drew ?_))); (case side2 => exact HC0.out); (case side3 => repeat (first | exact HR1.out | (with_reducible refine Kd.C_alloc ?_ _) | (with_reducible refine Kd.C_drewN ?_ _) | (with_reducible refine Kd.C_drew ?_))); (case side4 => exact HC1.out); rintro e w8 ⟨rfl, hb⟩; refine ⟨_, rfl, ?_⟩; replace HB := aM (below_step q1_ hb); (try clear hb); (try clear hb2); (try clear hk); (try clear hi)) | ((with_reducible refine gate_dst (N := 26) rfl ?_); refine Kd.S_make k80 _ 80 rfl (N := 26) rfl 76 _ _ rfl ji5 rfl rfl Tryd.underlying76 (.agg #[(.slice none 0 0), (.int .i64 0)]) 32 info80 rfl s4q0 (by omega) z80 (ok := fun _ => True) (okp := fun _ => True) (k80_mkM _ _ _ z80 (Kd.R_nil _ _ _ _ _)) (fun _ hk => hk) trivial (of_decide_eq_true q3_) (Nat.le_trans (Nat.mul_le_mul_right _ (of_decide_eq_true q3_ : ji5.toNat ≤ 8796093022208)) (by omega)) (Below.refl _ _) (Nat.le_refl _) ?_; intro v138 w9 ho10 hb hg_ hnew_; clear hg_ hnew_; (first | rw [← Ny137.out] at ho10 | (simp only [Int.reduceToNat] at ho10; rw [← Ny137.out] at ho10)); have HO139 := aM (Kd.S_lower ho10 (below_size q1_)); replace HB := aM (below_step q1_ hb); clear hb ho10))
 go_loopg [9] k (fun kq v9 w' => ∃ (x8_1 : List (S80)) (x9_1 : Int), v9 = .int .i64 x9_1 ∧ Aside0 (cost_Best.l0 kq l0 l1 x8_1 x9_1 = some (r1, r2, r3)) ∧ Aside0 (kq ≤ k) ∧ Aside0 (Kd.S k80 80 w' w.heap.size (fun _ => True) v138 x8_1) ∧ Aside0 (Below w.heap.size w w'))
 case atStart => exact ⟨(y137), (1), q4_, H', ⟨Nat.le_refl _⟩, ⟨by (with_reducible repeat (first | apply Kd.S_alloc | apply Kd.S_drewN | apply Kd.S_drew)); exact HO139.out⟩, ⟨q1_⟩⟩
 clear H'
 try clear c1
 try clear p2
 try clear c4
 try clear c4b0
 try clear c4b1
 try clear c6
 try clear c6b0
 try clear c6b1
 try clear p6
 try clear c7
 try clear c7b0
 try clear c7b1
 obtain ⟨x8_1, x9_1, rfl, HA, HK1, HO_8, HB⟩ := hrel
 cases gk with
 | zero => exact absurd HA.out (by simp [cost_Best.l0])
 | succ k1 => ?_
 have H := HA.out
 clear HA
 simp only [cost_Best.l0] at H
 by_cases c11 : x9_1 < (x8_1.length : Int)
 case neg =>
  rw [if_neg c11] at H
  have c11b0 : decide (x9_1 < (x8_1.length : Int)) = false := decide_eq_false c11
  clear c11
  obtain ⟨ji89, hji89⟩ : ∃ j_ : Int, (wrap64 ((x8_1.length : Int) - 1)) = j_ := ⟨_, rfl⟩
  replace H : (if 0 ≤ (ji89) then (if (ji89) < (x8_1.length : Int) then (some ((rd_T80 x8_1 (ji89)).f0, (rd_T80 x8_1 (ji89)).f1, 0)) else (none)) else (none)) = some (r1, r2, r3) := by first | (rw [hji89] at H; exact H) | (simp only [hji89] at H ⊢; exact H)
  have hji89w : (IntKind.i64.wrap ((x8_1.length : Int) - 1)) = ji89 := (i64_w _).trans hji89
  by_cases c90 : 0 ≤ (ji89)
  case neg =>
   rw [if_neg c90] at H
   exact absurd H (by simp)
  rw [if_pos c90] at H
  have c90b0 : decide (0 ≤ (ji89)) = true := decide_eq_true c90
  clear c90
  by_cases c91 : (ji89) < (x8_1.length : Int)
  case neg =>
   rw [if_neg c91] at H
   exact absurd H (by simp)
  rw [if_pos c91] at H
  have c91b0 : decide ((ji89) < (x8_1.length : Int)) = true := decide_eq_true c91
  clear c91
  simp only [Option.some.injEq, Prod.mk.injEq] at H
  obtain ⟨rfl, rfl, rfl⟩ := H
  obtain ⟨Ao92, co92, eo92⟩ := Kd.S_slice HO_8.out
  subst eo92
  have p140 : 0 ≤ ((ji89) : Int) := of_decide_eq_true q3_
  have q140 : (ji89) < (x8_1.length : Int) := of_decide_eq_true q3_
  obtain ⟨ad140, A140_0, c140_0, e140, hx140_0, hx140_1, hl140_0, hi140_0⟩ := at_T80 (Kd.S_reads' HO_8.out).2.2 (ji89) p140 q140
  have hnl140_0 := at_T80_nil0 (Kd.S_reads' HO_8.out).2.2 (ji89) p140 q140 e140 hx140_0
  cases e140
  obtain ⟨ce140, hce140, hMe140, hcc140⟩ := Kd.S_get HO_8.out z80 (ji89) p140 (by first | exact q140 | exact of_decide_eq_true q3_ | (have e_ := (Kd.S_reads' HO_8.out).1; omega))
  obtain ⟨ve140_0, rfl, ge140_0⟩ := k80_openM hMe140
  have hv140_0 := hcc140 0 _ rfl
  rw [Nat.add_zero] at hv140_0
  replace hv140_0 := Option.some.inj (hv140_0.symm.trans hx140_0)
  rw [hv140_0] at ge140_0
  have HL140_0 := aM (show Kd.R (Kd.int .i64) 3 _ _ _ _ ((rd_T80 x8_1 (ji89)).f0) from ge140_0)
  clear hv140_0 ge140_0
  clear hcc140 hce140
  have HR140_0 := aM hi140_0
  have HC140_0 := aM hl140_0
  clear hi140_0 hl140_0
  replace p140 := eq_true p140
  replace q140 := eq_true q140
  try go_wp2_with (first | ((with_reducible refine gate_dst (N := 16) rfl ?_); refine box_event ?hg (N := 16) ?hd (cs := #[.slice none 0 0, .int .i64 0]) (t := 80) ?hr ?_; (case hd => rfl); (case hg => rfl); (case hr => first | (go_simp; done) | (go_simp; rfl)); intro gb141 hg w93 hbox hb; have BK141 := aM hbox; have GW141 := aM (s4q38 : w.heap.size ≤ gb141); have GE141 := GW141; replace HO_8 := aM (Kd.S_below (Kd.S_elderB s4q6 gb141 (Nat.le_of_eq hg.symm)) hb); replace HL140_0 := aM (Kd.R_below (by (with_reducible repeat (first | apply Kd.R_alloc | apply Kd.R_drewN | apply Kd.R_drew)); exact HL140_0.out) hb); replace HR140_0 := aM (Kd.C_below (by repeat (first | (with_reducible exact HR140_0.out) | (with_reducible refine Kd.C_alloc ?_ _) | (with_reducible refine Kd.C_drewN ?_ _) | (with_reducible refine Kd.C_drew ?_) | exact HR140_0.out)) hb); replace HB := aM (below_step q1_ hb); clear hb hbox hg; obtain ⟨hcz94_0, hcz94_1, hfz94_0, hfz94_1⟩ := cells2 BK141.out))
  have n0_ : Aside0 (Kd.S k80 80 ((w93.setCell ⟨gb141, 0, none⟩ (.slice A140_0 ((rd_T80 x8_1 (ji89)).f0).length c140_0)).setCell ⟨gb141, 1, none⟩ (.int .i64 ((rd_T80 x8_1 (ji89)).f1))) w.heap.size (fun k_ => k_ ≠ gb141) (.slice (some ad140) x8_1.length co92) x8_1) := ⟨by (with_reducible repeat (first | apply Kd.S_alloc | apply Kd.S_drewN | apply Kd.S_drew)); exact Kd.S_mono (Kd.S_far (p := ⟨gb141, 1, none⟩) (Kd.S_far (p := ⟨gb141, 0, none⟩) (Kd.S_mono HO_8.out (fun k_ hk => (⟨hk, hk.2⟩ : _ ∧ k_ ≠ gb141))) (fun _ hk => hk.2) (.slice A140_0 ((rd_T80 x8_1 (ji89)).f0).length c140_0)) (fun _ hk => hk.2) (.int .i64 ((rd_T80 x8_1 (ji89)).f1))) (fun _ hk => hk.1.2)⟩
  have n1_ : Aside0 (Kd.R (Kd.int .i64) 3 ((w93.setCell ⟨gb141, 0, none⟩ (.slice A140_0 ((rd_T80 x8_1 (ji89)).f0).length c140_0)).setCell ⟨gb141, 1, none⟩ (.int .i64 ((rd_T80 x8_1 (ji89)).f1))) w.heap.size (fun k_ => some k_ ≠ (.slice (some ad140) x8_1.length co92 : Value).ownBlock) (.slice A140_0 ((rd_T80 x8_1 (ji89)).f0).length c140_0) ((rd_T80 x8_1 (ji89)).f0)) := ⟨by (with_reducible repeat (first | apply Kd.R_alloc | apply Kd.R_drewN | apply Kd.R_drew)); exact Kd.R_mono (Kd.R_far (p := ⟨gb141, 1, none⟩) (Kd.R_far (p := ⟨gb141, 0, none⟩) (Kd.R_types HL140_0.out BK141.out s4q0) (fun _ hk => hk.2) (.slice A140_0 ((rd_T80 x8_1 (ji89)).f0).length c140_0)) (fun _ hk => hk.2) (.int .i64 ((rd_T80 x8_1 (ji89)).f1))) (fun _ hk => hk.1.2)⟩
  have n2_ : Aside0 (((w93.setCell ⟨gb141, 0, none⟩ (.slice A140_0 ((rd_T80 x8_1 (ji89)).f0).length c140_0)).setCell ⟨gb141, 1, none⟩ (.int .i64 ((rd_T80 x8_1 (ji89)).f1))).heap[gb141]? = some (.cells #[.slice A140_0 ((rd_T80 x8_1 (ji89)).f0).length c140_0, .int .i64 ((rd_T80 x8_1 (ji89)).f1)] 80 (0, 0))) := ⟨by (with_reducible repeat (first | refine blk_drewN ?_ _ | refine blk_drew ?_ | refine blk_alloc ?_ _)); refine blk_put (cs := #[.slice A140_0 ((rd_T80 x8_1 (ji89)).f0).length c140_0, .int .i64 0]) ?_ 1 _ rfl; (with_reducible repeat (first | refine blk_drewN ?_ _ | refine blk_drew ?_ | refine blk_alloc ?_ _)); refine blk_put (cs := #[.slice none 0 0, .int .i64 0]) ?_ 0 _ rfl; (with_reducible repeat (first | refine blk_drewN ?_ _ | refine blk_drew ?_ | refine blk_alloc ?_ _)); exact BK141.out⟩
  have n3_ : Aside0 (Below w.heap.size w ((w93.setCell ⟨gb141, 0, none⟩ (.slice A140_0 ((rd_T80 x8_1 (ji89)).f0).length c140_0)).setCell ⟨gb141, 1, none⟩ (.int .i64 ((rd_T80 x8_1 (ji89)).f1)))) := ⟨s4z2⟩
  (try clear HO_8)
  (try clear HL140_0)
  (try clear BK141)
  (try clear HB)
  generalize ((w93.setCell ⟨gb141, 0, none⟩ (.slice A140_0 ((rd_T80 x8_1 (ji89)).f0).length c140_0)).setCell ⟨gb141, 1, none⟩ (.int .i64 ((rd_T80 x8_1 (ji89)).f1))) = w95 at n0_ n1_ n2_ n3_ ⊢
  have HO_8 := n0_
  have HL140_0 := n1_
  have BK141 := n2_
  have HB := n3_
  clear n0_ n1_ n2_ n3_
  have n0_ := aM (Kd.S_drew HO_8.out)
  have n1_ := aM (Kd.R_drew HL140_0.out)
  have n2_ := aM (blk_drew BK141.out)
  have n3_ := aM (below_drew1 HB.out)
  clear HO_8
  clear HL140_0
  clear BK141
  clear HB
  have HO_8 := n0_
  have HL140_0 := n1_
  have BK141 := n2_
  have HB := n3_
  clear n0_ n1_ n2_ n3_
  refine start_ (n := 7) (S := fun w' => w'.cell? ⟨gb141, 0, none⟩ = some (.slice A140_0 ((rd_T80 x8_1 (ji89)).f0).length c140_0) ∧ w'.cell? ⟨gb141, 1, none⟩ = some (.int .i64 ((rd_T80 x8_1 (ji89)).f1))) (ds := []) #[fF, fF, fF, fF, fF, fF, fF] q5_ rfl rfl ⟨(blk_cell BK141.out 0).trans rfl, (blk_cell BK141.out 1).trans rfl⟩ (fun hHeld => ?_)
  generalize w95.drew = w96 at HO_8 HL140_0 BK141 HB hHeld ⊢
  refine pure_ (i := 0) (N := some 118) (v := ?_) (a' := ?_) #[tT, fF, fF, fF, fF, fF, fF] rfl rfl q5_ (fun _ _ _ h => h) (Or.inl ⟨by rfl, ?_⟩) ?_ ?_
  rotate_left
  · intro w'
    go_simp
    with_reducible rfl
  rotate_left
  · simp only [Act.put, sqa, sqb, sqc, i64_w, i32_w]
    rfl
  refine pure_ (i := 2) (N := some 120) (v := ?_) (a' := ?_) #[tT, fF, tT, fF, fF, fF, fF] rfl rfl q5_ (fun _ _ _ h => h) (Or.inl ⟨by rfl, ?_⟩) ?_ ?_
  rotate_left
  · intro w'
    go_simp
    with_reducible rfl
  rotate_left
  · simp only [Act.put, sqa, sqb, sqc, i64_w, i32_w]
    rfl
  refine take_ (i := 1) (N := some 119) (v := ?_) (a' := ?_) #[tT, tT, tT, fF, fF, fF, fF] rfl rfl q5_ (fun _ _ _ h => h) (Or.inl ⟨by rfl, ?_⟩) hHeld ?_ ?_
  rotate_left
  · rintro w' ⟨s0, s1⟩
    go_simp
    with_reducible rfl
  rotate_left
  · simp only [Act.put, sqa, sqb, sqc, i64_w, i32_w]
    rfl
  refine pure_ (i := 4) (N := some 4) (v := ?_) (a' := ?_) #[tT, tT, tT, fF, tT, fF, fF] rfl rfl q5_ (fun _ _ _ h => h) (Or.inl ⟨by rfl, ?_⟩) ?_ ?_
  rotate_left
  · intro w'
    go_simp
    with_reducible rfl
  rotate_left
  · simp only [Act.put, sqa, sqb, sqc, i64_w, i32_w]
    rfl
  refine take_ (i := 3) (N := some 121) (v := ?_) (a' := ?_) #[tT, tT, tT, tT, tT, fF, fF] rfl rfl q5_ (fun _ _ _ h => h) (Or.inl ⟨by rfl, ?_⟩) hHeld ?_ ?_
  rotate_left
  · rintro w' ⟨s0, s1⟩
    go_simp
    with_reducible rfl
  rotate_left
  · simp only [Act.put, sqa, sqb, sqc, i64_w, i32_w]
    rfl
  refine pure_ (i := 5) (N := some 5) (v := ?_) (a' := ?_) #[tT, tT, tT, tT, tT, tT, fF] rfl rfl q5_ (fun _ _ _ h => h) (Or.inl ⟨by rfl, ?_⟩) ?_ ?_
  rotate_left
  · intro w'
    go_simp
    with_reducible rfl
  rotate_left
  · simp only [Act.put, sqa, sqb, sqc, i64_w, i32_w]
    rfl
  refine pure_ (i := 6) (N := some 6) (v := ?_) (a' := ?_) #[tT, tT, tT, tT, tT, tT, tT] rfl rfl q5_ (fun _ _ _ h => h) (Or.inl ⟨by rfl, ?_⟩) ?_ ?_
  rotate_left
  · intro w'
    go_simp
    with_reducible rfl
  rotate_left
  · simp only [Act.put, sqa, sqb, sqc, i64_w, i32_w]
    rfl
  refine done_ q5_ ?_
  try go_wp2
  go_ret3
  exact ⟨_, by first | rfl | (simp [errW_none, errW_some] <;> rfl) | (simp only [← hji5, ← hji89]; first | rfl | (simp [errW_none, errW_some] <;> rfl)) | (simp [*, errW_none, errW_some] <;> rfl), by (with_reducible repeat (first | apply Kd.R_alloc | apply Kd.R_drewN | apply Kd.R_drew)); exact Kd.R_mono HL140_0.out (fun _ hk => trivial), s4z2⟩
 rw [if_pos c11] at H
 have c11b0 : decide (x9_1 < (x8_1.length : Int)) = true := decide_eq_true c11
 clear c11
 by_cases c12 : (Go.bits .and .i64 x9_1 (wrap64 (x9_1 - 1))) = 0
 · rw [if_pos c12] at H
   have c12b0 : ((Go.bits .and .i64 x9_1 (wrap64 (x9_1 - 1))) == 0) = true := beq_iff_eq.mpr c12
   have c12b1 : ((Go.bits .and .i64 x9_1 (wrap64 (x9_1 - 1))) != 0) = false := bne_eq_false_iff_eq.mpr c12
   clear c12
   replace H := Option.bind_eq_some_iff.mp H
   obtain ⟨t142, A130, H⟩ := H
   replace H : ((some (([t142] : List Int) : List Int)).bind fun y143 => (if 0 ≤ x9_1 then (if (y143.length : Int) = 0 then (none) else (cost_Best.l0 k1 l0 l1 (x8_1.set (x9_1 : Int).toNat (⟨y143, (rd_T80 x8_1 x9_1).f1⟩ : S80)) (wrap64 (x9_1 + 1)))) else (none))) = some (r1, r2, r3) := H
   have A13 := aM A130
   clear A130
   obtain ⟨y143, hy143⟩ : ∃ y_ : List Int, y_ = (([t142] : List Int)) := ⟨_, rfl⟩
   replace H : (if 0 ≤ x9_1 then (if (y143.length : Int) = 0 then (none) else (cost_Best.l0 k1 l0 l1 (x8_1.set (x9_1 : Int).toNat (⟨y143, (rd_T80 x8_1 x9_1).f1⟩ : S80)) (wrap64 (x9_1 + 1)))) else (none)) = some (r1, r2, r3) := sqz hy143 H
   have Ny143 := aM hy143
   clear hy143
   by_cases c14 : 0 ≤ x9_1
   case neg =>
    rw [if_neg c14] at H
    exact absurd H (by simp)
   rw [if_pos c14] at H
   have c14b0 : decide (0 ≤ x9_1) = true := decide_eq_true c14
   clear c14
   by_cases c16 : (y143.length : Int) = 0
   · rw [if_pos c16] at H
     exact absurd H (by simp)
   rw [if_neg c16] at H
   have c16b0 : ((y143.length : Int) == 0) = false := beq_eq_false_iff_ne.mpr c16
   have c16b1 : ((y143.length : Int) != 0) = true := bne_iff_ne.mpr c16
   have c16b2 : ¬ (y143 = []) := fun h_ => c16 (by rw [h_]; rfl)
   obtain ⟨y146, hy146⟩ : ∃ y_ : List (S80), y_ = (x8_1.set (x9_1 : Int).toNat (⟨y143, (rd_T80 x8_1 x9_1).f1⟩ : S80)) := ⟨_, rfl⟩
   replace H : (cost_Best.l0 k1 l0 l1 y146 (wrap64 (x9_1 + 1))) = some (r1, r2, r3) := sqz hy146 H
   have Ny146 := aM hy146
   clear hy146
   have H' := aM H
   clear H
   obtain ⟨Ao17, co17, eo17⟩ := Kd.S_slice HO_8.out
   subst eo17
   go_wp2_with (first | ((with_reducible refine gate_callee (f := 46) rfl ?_); refine goesL_ (some 42) rfl rfl Tryd.func46 q5_ rfl #[.int .u64 (IntKind.u64.wrap (x9_1))] rfl q2_ ?_; (with_reducible refine (bits_TrailingZeros.calls (IntKind.u64.wrap (x9_1)) t142 _ ?side1 A13.out).mono ?_); (case side1 => exact Glob_below HG.out q1_); rintro e w' ⟨rfl, ⟨nd, rfl⟩⟩; refine ⟨_, rfl, ?_⟩; (try (rw [drewN_self wr]; generalize hq_ : World.drewN wr _ = wr; have n0_ : Aside0 (Kd.S k80 80 wr w.heap.size (fun _ => True) (.slice Ao17 x8_1.length co17) x8_1) := ⟨by rw [← hq_]; exact s4q6⟩; have n1_ : Aside0 (Below w.heap.size w wr) := ⟨by rw [← hq_]; exact q1_⟩; clear HO_8 HB hq_; have HO_8 := n0_; have HB := n1_; clear n0_ n1_))) | ((with_reducible refine gate_dst (N := 43) rfl ?_); refine Kd.R_lit (Kd.int .i64) _ 3 ?hg (N := 43) ?hd (xs := ([t142] : List Int)) (inner := [.int .i64 t142]) (ok := fun _ => True) (okp := fun _ => True) ?hr ?hp (fun _ hk => hk) trivial (Below.refl _ _) (Nat.le_refl _) (by simp) ?_; (case hd => rfl); (case hg => rfl); (case hr => first | (go_simp; done) | (go_simp; rfl)); (case hp => exact (Reps.one (show Kd.M (Kd.int .i64) _ _ _ t142 [.int .i64 t142] from rfl) (Reps.none _ _))); intro v144 w18 ho19 hb hg_ hnew_; clear hg_ hnew_; (first | rw [← Ny143.out] at ho19 | (simp only [Int.reduceToNat] at ho19; rw [← Ny143.out] at ho19)); have HO145 := aM (Kd.R_lower ho19 (below_size q1_)); replace HO_8 := aM (Kd.S_elder' s4q6 (Kd.R_base ho19) hb); replace HB := aM (below_step q1_ hb); clear hb ho19; have p15 : 0 ≤ (x9_1 : Int) := of_decide_eq_true q3_; have q15 : (x9_1 : Int) < ((x8_1.length : Int) : Int) := of_decide_eq_true q3_; obtain ⟨go15, co15, eo15, gb15, gl15, cl15, HG15⟩ := Kd.S_form HO_8.out (by first | exact Int.natCast_pos.1 (Int.lt_of_le_of_lt p15 q15) | omega); (first | cases eo15 | (injection eo15 with ea_ en_ ec_; (first | subst ea_ | (injection ea_ with ea_; subst ea_)); subst ec_; clear en_)); have GB15 := aM gb15; have GG15 := aM HG15; clear gb15 gl15 HG15; obtain ⟨_, ce15, hcl15, hM15, hcc15, hfr15, _, _⟩ := Kd.S_elem HO_8.out z80 (x9_1 : Int) p15 q15; obtain ⟨ve15_0, rfl, ge15_0⟩ := k80_openM hM15; have hx15_0 : w18.cell? ⟨go15, (x9_1 : Int).toNat * 2, none⟩ = some (ve15_0) := hcc15 0 _ rfl; have hx15_1 : w18.cell? ⟨go15, (x9_1 : Int).toNat * 2 + 1, none⟩ = some (.int .i64 ((rd_T80 x8_1 x9_1).f1)) := hcc15 1 _ rfl; have hf15_0 : w18.frozen? ⟨go15, (x9_1 : Int).toNat * 2, none⟩ = false := hfr15 0; have hf15_1 : w18.frozen? ⟨go15, (x9_1 : Int).toNat * 2 + 1, none⟩ = false := hfr15 1; clear hcl15 hcc15 hfr15 hM15; replace p15 := eq_true p15; replace q15 := eq_true q15; obtain ⟨Ao20, co20, eo20⟩ := Kd.R_slice HO145.out; subst eo20; have n_ := aM (Kd.S_mono (ok' := (fun k_ => some k_ ≠ (.slice Ao20 y143.length co20 : Value).ownBlock)) HO_8.out (fun k_ hk => hk.2)); clear HO_8; have HO_8 := n_; clear n_; have HX21 := aM (show Kd.S k80 80 w18 w.heap.size (fun k_ => ((fun _ => True)) k_ ∧ ¬ ((fun k_ => some k_ = (.slice Ao20 y143.length co20 : Value).ownBlock)) k_) (.slice (some ⟨go15, 0, none⟩) x8_1.length co17) x8_1 from (by (with_reducible repeat (first | apply Kd.S_alloc | apply Kd.S_drewN | apply Kd.S_drew)); exact Kd.S_mono HO_8.out (fun k_ hk => ⟨trivial, fun e_ => hk e_⟩))); obtain ⟨oki21, ce21, hcl21, hM21, hcc21, hfr21, hoki21, hH21⟩ := Kd.S_elem HX21.out z80 (x9_1 : Int) (of_decide_eq_true q3_) s4q36; obtain ⟨ve21_0, rfl, ge21_0⟩ := k80_openM hM21; have HP21 := Kd.S_seg hH21 (of_decide_eq_true q3_) s4q36 (seg := [.slice Ao20 y143.length co20]) (j := 0) (show 1 ≤ 2 from by decide) (x' := (⟨y143, (rd_T80 x8_1 x9_1).f1⟩ : S80)) (k80_mkM _ _ _ (⟨y143, (rd_T80 x8_1 x9_1).f1⟩ : S80) (Kd.R_mono (Kd.R_tight rfl (Kd.R_mono (ok' := fun k_ => ((fun _ => True)) k_ ∧ k_ ≠ go15) (Kd.R_apart' (HO145.out) (Kd.S_typed HO_8.out) s4q0) (fun k_ hk => ⟨trivial, fun e_ => (hk.2) s4q2⟩))) (fun _ h_ => Or.inr (h_)))) (fun _ hk => hk) (fun k_ hk_ => ((Kd.R_mono (ok' := fun k_ => ((fun _ => True)) k_ ∧ k_ ≠ go15) (Kd.R_apart' (HO145.out) (Kd.S_typed HO_8.out) s4q0) (fun k_ hk => ⟨trivial, fun e_ => (hk.2) s4q2⟩))).1 k_ hk_.symm); have hx21_0 := hcc21 0 _ rfl; (try simp only [show (k80).sz = 2 from rfl, Nat.mul_one, Nat.add_zero] at hx21_0); have hf21_0 := hfr21 0; (try simp only [show (k80).sz = 2 from rfl, Nat.mul_one, Nat.add_zero] at hf21_0); clear hcl21 hcc21 hfr21 hM21 hoki21 hH21) | ((with_reducible refine gate_store (t := 22) (p := 45) rfl ?_); refine store_event (t := 22) (p := 45) (v := ?vo_w22) (w1 := (w18.setCell ⟨go15, (x9_1 : Int).toNat * 2, none⟩ (.slice Ao20 y143.length co20))) ?hg ?ho ?hn ?hr ?_; (case ho => rfl); (case hg => rfl); (case hn => rfl); (case hr => first | (go_simp; done) | (go_simp; rfl)); intro w22 hw; have hg : w18.grownBy w22 (some go15) := (by rw [hw]; exact HP21.2); have hp_ : Kd.S k80 80 w22 w.heap.size (fun _ => True) (.slice (some ⟨go15, 0, none⟩) x8_1.length co17) y146 := (by rw [hw, Ny146.out]; exact HP21.1); clear HP21; have n0_ := aM hp_; have n1_ := aM ((by rw [hw]; exact below_set (HB.out) GB15.out : Below w.heap.size w w22)); clear HO_8; clear HB; clear HO145; have HO_8 := n0_; have HB := n1_; clear n0_ n1_; clear hg hw hp_))
   first | go_roundg k1 | (refine Handed.intro k1 ?measure ?_; rotate_left; go_step; (repeat apply Exists.intro); simp only [add_plain]; refine ⟨?rel, rfl⟩)
   case measure => have := HK1.out; omega
   case rel => exact ⟨(y146), (wrap64 (x9_1 + 1)), q4_, H', ⟨by have := HK1.out; omega⟩, ⟨by (with_reducible repeat (first | apply Kd.S_alloc | apply Kd.S_drewN | apply Kd.S_drew)); exact HO_8.out⟩, ⟨q1_⟩⟩
 rw [if_neg c12] at H
 have c12b0 : ((Go.bits .and .i64 x9_1 (wrap64 (x9_1 - 1))) == 0) = false := beq_eq_false_iff_ne.mpr c12
 have c12b1 : ((Go.bits .and .i64 x9_1 (wrap64 (x9_1 - 1))) != 0) = true := bne_iff_ne.mpr c12
 replace H := Option.bind_eq_some_iff.mp H
 obtain ⟨t147, A230, H⟩ := H
 replace H : (cost_Best.l1 k1 l0 l1 x8_1 x9_1 t147 (Go.bits .and .i64 x9_1 (wrap64 (-x9_1))) 1) = some (r1, r2, r3) := H
 have A23 := aM A230
 clear A230
 have H' := aM H
 clear H
 obtain ⟨Ao24, co24, eo24⟩ := Kd.S_slice HO_8.out
 subst eo24
 go_wp2_with (first | ((with_reducible refine gate_callee (f := 42) rfl ?_); refine goesL_ (some 49) rfl rfl Tryd.func42 q5_ rfl #[.slice A0 l0.length c0, .slice A1 l1.length c1, .int .i64 x9_1] rfl q2_ ?_; (with_reducible refine (cost_size.calls k1 _ _ l0 _ _ l1 x9_1 t147 _ ?side1 ?side2 ?side3 ?side4 A23.out).mono ?_); (case side1 => repeat (first | exact (Kd.C_below HR0.out HB.out) | (with_reducible refine Kd.C_alloc ?_ _) | (with_reducible refine Kd.C_drewN ?_ _) | (with_reducible refine Kd.C_drew ?_))); (case side2 => exact HC0.out); (case side3 => repeat (first | exact (Kd.C_below HR1.out HB.out) | (with_reducible refine Kd.C_alloc ?_ _) | (with_reducible refine Kd.C_drewN ?_ _) | (with_reducible refine Kd.C_drew ?_))); (case side4 => exact HC1.out); rintro e w25 ⟨rfl, hb⟩; refine ⟨_, rfl, ?_⟩; replace HO_8 := aM (Kd.S_below s4q6 hb); replace HB := aM (below_step q1_ hb); (try clear hb); (try clear hb2); (try clear hk); (try clear hi)))
 go_loopg [12] k1 (fun kq v12 w' => ∃ (x8_2 : List (S80)) (x12_2 : Int), v12 = .int .i64 x12_2 ∧ Aside0 (cost_Best.l1 kq l0 l1 x8_2 x9_1 t147 (Go.bits .and .i64 x9_1 (wrap64 (-x9_1))) x12_2 = some (r1, r2, r3)) ∧ Aside0 (kq ≤ k1) ∧ Aside0 (Kd.S k80 80 w' w.heap.size (fun _ => True) (.slice Ao24 x8_1.length co24) x8_2) ∧ Aside0 (Below w.heap.size w w'))
 case atStart => exact ⟨(x8_1), (1), q4_, H', ⟨Nat.le_refl _⟩, ⟨by (with_reducible repeat (first | apply Kd.S_alloc | apply Kd.S_drewN | apply Kd.S_drew)); exact HO_8.out⟩, ⟨q1_⟩⟩
 clear H'
 try clear c1
 try clear p1
 try clear q1
 try clear hx1
 try clear c2
 try clear p2
 try clear hx2
 try clear hf2
 try clear c4
 try clear c4b0
 try clear c4b1
 try clear c6
 try clear c6b0
 try clear c6b1
 try clear p6
 try clear c7
 try clear c7b0
 try clear c7b1
 try clear c11
 try clear c11b0
 try clear c12
 try clear c12b0
 try clear c12b1
 try clear c14
 try clear c14b0
 try clear c15
 try clear p15
 try clear q15
 try clear hx15
 try clear hf15
 try clear c16
 try clear c16b0
 try clear c16b1
 try clear c16b2
 try clear c17
 try clear c21
 try clear hx21
 try clear hf21
 try clear hx15_0
 try clear hx15_1
 try clear hx21_0
 try clear p15
 try clear p2
 try clear p6
 try clear q15
 obtain ⟨x8_2, x12_2, rfl, HA, HK2, HO_8, HB⟩ := hrel
 have hl8_2 := (Kd.S_reads' HO_8.out).1
 rw [hl8_2] at HO_8
 (try simp only [hl8_2])
 cases gk with
 | zero => exact absurd HA.out (by simp [cost_Best.l1])
 | succ k2 => ?_
 have H := HA.out
 clear HA
 simp only [cost_Best.l1] at H
 by_cases c26 : x12_2 < x9_1
 case neg =>
  rw [if_neg c26] at H
  have c26b0 : decide (x12_2 < x9_1) = false := decide_eq_false c26
  clear c26
  have H' := aM H
  clear H
  go_wp2
  (try simp only [← hl8_2])
  first | go_roundg k2 | (refine Handed.intro k2 ?measure ?_; rotate_left; go_step; (repeat apply Exists.intro); simp only [add_plain]; refine ⟨?rel, rfl⟩)
  case measure => have := HK1.out; have := HK2.out; omega
  case rel => exact ⟨(x8_2), (wrap64 (x9_1 + 1)), q4_, H', ⟨by have := HK1.out; have := HK2.out; omega⟩, ⟨by (try simp only [hl8_2]); (with_reducible repeat (first | apply Kd.S_alloc | apply Kd.S_drewN | apply Kd.S_drew)); exact HO_8.out⟩, ⟨q1_⟩⟩
 rw [if_pos c26] at H
 have c26b0 : decide (x12_2 < x9_1) = true := decide_eq_true c26
 clear c26
 have HC27 := aM H
 clear H
 go_upto_region 15 with (fail)
 go_cut [68] (fun v68 wc => ∃ (kq : Nat) (x68_26 : Bool), v68 = .bool x68_26 ∧ Aside0 (cost_Best.j2 kq l0 l1 x8_2 x9_1 t147 (Go.bits .and .i64 x9_1 (wrap64 (-x9_1))) x12_2 x68_26 = some (r1, r2, r3)) ∧ Aside0 (kq ≤ k2) ∧ Aside0 (Kd.S k80 80 wc w.heap.size (fun _ => True) (.slice Ao24 x8_2.length co24) x8_2) ∧ Aside0 (Below w.heap.size w wc))
 case first =>
  have H := HC27.out
  clear HC27
  by_cases c28 : (Go.bits .andNot .i64 x12_2 x9_1) = 0
  case neg =>
   rw [if_neg c28] at H
   have c28b0 : ((Go.bits .andNot .i64 x12_2 x9_1) == 0) = false := beq_eq_false_iff_ne.mpr c28
   have c28b1 : ((Go.bits .andNot .i64 x12_2 x9_1) != 0) = true := bne_iff_ne.mpr c28
   (first | rw [c28b0] | (simp only [i64_w, i32_w]; rw [c28b0]) | skip)
   have H' := aM H
   clear H
   go_wp2
   go_meet
   case rel => exact ⟨_, (true), q4_, H', ⟨by have := HK1.out; have := HK2.out; first | omega | exact Nat.le_refl _⟩, ⟨by (try simp only [hl8_2]); (with_reducible repeat (first | apply Kd.S_alloc | apply Kd.S_drewN | apply Kd.S_drew)); exact HO_8.out⟩, ⟨q1_⟩⟩
  rw [if_pos c28] at H
  have c28b0 : ((Go.bits .andNot .i64 x12_2 x9_1) == 0) = true := beq_iff_eq.mpr c28
  have c28b1 : ((Go.bits .andNot .i64 x12_2 x9_1) != 0) = false := bne_eq_false_iff_eq.mpr c28
  clear c28
  (first | rw [c28b0] | (simp only [i64_w, i32_w]; rw [c28b0]) | skip)
  have H' := aM H
  clear H
  go_wp2
  go_meet
  case rel => exact ⟨_, (((Go.bits .and .i64 x12_2 (Go.bits .and .i64 x9_1 (wrap64 (-x9_1)))) == 0)), q4_, H', ⟨by have := HK1.out; have := HK2.out; first | omega | exact Nat.le_refl _⟩, ⟨by (try simp only [hl8_2]); (with_reducible repeat (first | apply Kd.S_alloc | apply Kd.S_drewN | apply Kd.S_drew)); exact HO_8.out⟩, ⟨q1_⟩⟩
 clear HC27
 try clear c1
 try clear p1
 try clear q1
 try clear hx1
 try clear c2
 try clear p2
 try clear hx2
 try clear hf2
 try clear c4
 try clear c4b0
 try clear c4b1
 try clear c6
 try clear c6b0
 try clear c6b1
 try clear p6
 try clear c7
 try clear c7b0
 try clear c7b1
 try clear c11
 try clear c11b0
 try clear c12
 try clear c12b0
 try clear c12b1
 try clear c14
 try clear c14b0
 try clear c15
 try clear p15
 try clear q15
 try clear hx15
 try clear hf15
 try clear c16
 try clear c16b0
 try clear c16b1
 try clear c16b2
 try clear c17
 try clear c21
 try clear hx21
 try clear hf21
 try clear c26
 try clear c26b0
 try clear c28
 try clear c28b0
 try clear c28b1
 try clear hx15_0
 try clear hx15_1
 try clear hx21_0
 try clear p1
 try clear p15
 try clear p2
 try clear p6
 try clear q1
 try clear q15
 obtain ⟨kq, x68_26, rfl, HA, HJ26, HO_8, HB⟩ := hcut
 cases kq with
 | zero => exact absurd HA.out (by simp [cost_Best.j2])
 | succ kj26 => ?_
 have H := HA.out
 clear HA
 simp only [cost_Best.j2] at H
 by_cases c29 : x68_26 = true
 · subst c29
   have H1 : (cost_Best.l1 kj26 l0 l1 x8_2 x9_1 t147 (Go.bits .and .i64 x9_1 (wrap64 (-x9_1))) (wrap64 (x12_2 + 1))) = some (r1, r2, r3) := by rw [if_pos rfl] at H; exact H
   clear H
   have H := H1
   clear H1
   have H' := aM H
   clear H
   go_wp2
   (try simp only [← hl8_2])
   first | go_roundg kj26 | (refine Handed.intro kj26 ?measure ?_; rotate_left; go_step; (repeat apply Exists.intro); simp only [add_plain]; refine ⟨?rel, rfl⟩)
   case measure => have := HK1.out; have := HK2.out; have := HJ26.out; omega
   case rel => exact ⟨(x8_2), (wrap64 (x12_2 + 1)), q4_, H', ⟨by have := HK1.out; have := HK2.out; have := HJ26.out; omega⟩, ⟨by (try simp only [hl8_2]); (with_reducible repeat (first | apply Kd.S_alloc | apply Kd.S_drewN | apply Kd.S_drew)); exact HO_8.out⟩, ⟨q1_⟩⟩
 replace c29 := Bool.eq_false_iff.mpr c29
 subst c29
 have H1 : (if 0 ≤ x12_2 then (if x12_2 < (x8_2.length : Int) then (if 0 ≤ (Go.bits .andNot .i64 x9_1 x12_2) then (if (Go.bits .andNot .i64 x9_1 x12_2) < (x8_2.length : Int) then (if 0 ≤ x9_1 then (if x9_1 < (x8_2.length : Int) then (if (((rd_T80 x8_2 x9_1).f0).length : Int) = 0 then ((cost_joined.f kj26 ((rd_T80 x8_2 x12_2).f0) ((rd_T80 x8_2 (Go.bits .andNot .i64 x9_1 x12_2)).f0)).bind fun t153 => (if (t153.length : Int) = 0 then (none) else (cost_Best.l1 kj26 l0 l1 (x8_2.set (x9_1 : Int).toNat (⟨t153, mn 1000000000000000 (wrap64 ((wrap64 (((rd_T80 x8_2 x12_2).f1) + ((rd_T80 x8_2 (Go.bits .andNot .i64 x9_1 x12_2)).f1))) + t147))⟩ : S80)) x9_1 t147 (Go.bits .and .i64 x9_1 (wrap64 (-x9_1))) (wrap64 (x12_2 + 1))))) else (if (mn 1000000000000000 (wrap64 ((wrap64 (((rd_T80 x8_2 x12_2).f1) + ((rd_T80 x8_2 (Go.bits .andNot .i64 x9_1 x12_2)).f1))) + t147))) < ((rd_T80 x8_2 x9_1).f1) then ((cost_joined.f kj26 ((rd_T80 x8_2 x12_2).f0) ((rd_T80 x8_2 (Go.bits .andNot .i64 x9_1 x12_2)).f0)).bind fun t158 => (if (t158.length : Int) = 0 then (none) else (cost_Best.l1 kj26 l0 l1 (x8_2.set (x9_1 : Int).toNat (⟨t158, mn 1000000000000000 (wrap64 ((wrap64 (((rd_T80 x8_2 x12_2).f1) + ((rd_T80 x8_2 (Go.bits .andNot .i64 x9_1 x12_2)).f1))) + t147))⟩ : S80)) x9_1 t147 (Go.bits .and .i64 x9_1 (wrap64 (-x9_1))) (wrap64 (x12_2 + 1))))) else (cost_Best.l1 kj26 l0 l1 x8_2 x9_1 t147 (Go.bits .and .i64 x9_1 (wrap64 (-x9_1))) (wrap64 (x12_2 + 1))))) else (none)) else (none)) else (none)) else (none)) else (none)) else (none)) = some (r1, r2, r3) := by rw [if_neg (show ¬ (false = true) by decide)] at H; exact H
 clear H
 have H := H1
 clear H1
 by_cases c30 : 0 ≤ x12_2
 case neg =>
  rw [if_neg c30] at H
  exact absurd H (by simp)
 rw [if_pos c30] at H
 have c30b0 : decide (0 ≤ x12_2) = true := decide_eq_true c30
 clear c30
 by_cases c31 : x12_2 < (x8_2.length : Int)
 case neg =>
  rw [if_neg c31] at H
  exact absurd H (by simp)
 rw [if_pos c31] at H
 have c31b0 : decide (x12_2 < (x8_2.length : Int)) = true := decide_eq_true c31
 clear c31
 by_cases c32 : 0 ≤ (Go.bits .andNot .i64 x9_1 x12_2)
 case neg =>
  rw [if_neg c32] at H
  exact absurd H (by simp)
 rw [if_pos c32] at H
 have c32b0 : decide (0 ≤ (Go.bits .andNot .i64 x9_1 x12_2)) = true := decide_eq_true c32
 clear c32
 by_cases c33 : (Go.bits .andNot .i64 x9_1 x12_2) < (x8_2.length : Int)
 case neg =>
  rw [if_neg c33] at H
  exact absurd H (by simp)
 rw [if_pos c33] at H
 have c33b0 : decide ((Go.bits .andNot .i64 x9_1 x12_2) < (x8_2.length : Int)) = true := decide_eq_true c33
 clear c33
 obtain ⟨ji34, hji34⟩ : ∃ j_ : Int, (mn 1000000000000000 (wrap64 ((wrap64 (((rd_T80 x8_2 x12_2).f1) + ((rd_T80 x8_2 (Go.bits .andNot .i64 x9_1 x12_2)).f1))) + t147))) = j_ := ⟨_, rfl⟩
 replace H : (if 0 ≤ x9_1 then (if x9_1 < (x8_2.length : Int) then (if (((rd_T80 x8_2 x9_1).f0).length : Int) = 0 then ((cost_joined.f kj26 ((rd_T80 x8_2 x12_2).f0) ((rd_T80 x8_2 (Go.bits .andNot .i64 x9_1 x12_2)).f0)).bind fun t153 => (if (t153.length : Int) = 0 then (none) else (cost_Best.l1 kj26 l0 l1 (x8_2.set (x9_1 : Int).toNat (⟨t153, ji34⟩ : S80)) x9_1 t147 (Go.bits .and .i64 x9_1 (wrap64 (-x9_1))) (wrap64 (x12_2 + 1))))) else (if (ji34) < ((rd_T80 x8_2 x9_1).f1) then ((cost_joined.f kj26 ((rd_T80 x8_2 x12_2).f0) ((rd_T80 x8_2 (Go.bits .andNot .i64 x9_1 x12_2)).f0)).bind fun t158 => (if (t158.length : Int) = 0 then (none) else (cost_Best.l1 kj26 l0 l1 (x8_2.set (x9_1 : Int).toNat (⟨t158, ji34⟩ : S80)) x9_1 t147 (Go.bits .and .i64 x9_1 (wrap64 (-x9_1))) (wrap64 (x12_2 + 1))))) else (cost_Best.l1 kj26 l0 l1 x8_2 x9_1 t147 (Go.bits .and .i64 x9_1 (wrap64 (-x9_1))) (wrap64 (x12_2 + 1))))) else (none)) else (none)) = some (r1, r2, r3) := by first | (rw [hji34] at H; exact H) | (simp only [hji34] at H ⊢; exact H)
 have hji34_ : (if (wrap64 ((wrap64 (((rd_T80 x8_2 x12_2).f1) + ((rd_T80 x8_2 (Go.bits .andNot .i64 x9_1 x12_2)).f1))) + t147)) < 1000000000000000 then (wrap64 ((wrap64 (((rd_T80 x8_2 x12_2).f1) + ((rd_T80 x8_2 (Go.bits .andNot .i64 x9_1 x12_2)).f1))) + t147)) else 1000000000000000) = ji34 := hji34
 by_cases c35 : 0 ≤ x9_1
 case neg =>
  rw [if_neg c35] at H
  exact absurd H (by simp)
 rw [if_pos c35] at H
 have c35b0 : decide (0 ≤ x9_1) = true := decide_eq_true c35
 clear c35
 by_cases c36 : x9_1 < (x8_2.length : Int)
 case neg =>
  rw [if_neg c36] at H
  exact absurd H (by simp)
 rw [if_pos c36] at H
 have c36b0 : decide (x9_1 < (x8_2.length : Int)) = true := decide_eq_true c36
 clear c36
 by_cases c37 : (((rd_T80 x8_2 x9_1).f0).length : Int) = 0
 · rw [if_pos c37] at H
   have c37e : (((rd_T80 x8_2 x9_1).f0)).isEmpty = true := List.isEmpty_iff.mpr (List.eq_nil_of_length_eq_zero (by omega))
   have c37b0 : ((((rd_T80 x8_2 x9_1).f0).length : Int) == 0) = true := beq_iff_eq.mpr c37
   have c37b1 : ((((rd_T80 x8_2 x9_1).f0).length : Int) != 0) = false := bne_eq_false_iff_eq.mpr c37
   clear c37
   replace H := Option.bind_eq_some_iff.mp H
   obtain ⟨t153, A380, H⟩ := H
   replace H : (if (t153.length : Int) = 0 then (none) else (cost_Best.l1 kj26 l0 l1 (x8_2.set (x9_1 : Int).toNat (⟨t153, ji34⟩ : S80)) x9_1 t147 (Go.bits .and .i64 x9_1 (wrap64 (-x9_1))) (wrap64 (x12_2 + 1)))) = some (r1, r2, r3) := H
   have A38 := aM A380
   clear A380
   by_cases c40 : (t153.length : Int) = 0
   · rw [if_pos c40] at H
     exact absurd H (by simp)
   rw [if_neg c40] at H
   have c40b0 : ((t153.length : Int) == 0) = false := beq_eq_false_iff_ne.mpr c40
   have c40b1 : ((t153.length : Int) != 0) = true := bne_iff_ne.mpr c40
   have c40b2 : ¬ (t153 = []) := fun h_ => c40 (by rw [h_]; rfl)
   obtain ⟨y156, hy156⟩ : ∃ y_ : List (S80), y_ = (x8_2.set (x9_1 : Int).toNat (⟨t153, ji34⟩ : S80)) := ⟨_, rfl⟩
   replace H : (cost_Best.l1 kj26 l0 l1 y156 x9_1 t147 (Go.bits .and .i64 x9_1 (wrap64 (-x9_1))) (wrap64 (x12_2 + 1))) = some (r1, r2, r3) := sqz hy156 H
   have Ny156 := aM hy156
   clear hy156
   have H' := aM H
   clear H
   try go_wp2
   have n0_ := aM (Kd.S_drew HO_8.out)
   have n1_ := aM (below_drew1 HB.out)
   clear HO_8
   clear HB
   have HO_8 := n0_
   have HB := n1_
   clear n0_ n1_
   have p148 : 0 ≤ (x12_2 : Int) := of_decide_eq_true q3_
   have q148 : x12_2 < (x8_2.length : Int) := of_decide_eq_true q3_
   obtain ⟨ad148, A148_0, c148_0, e148, hx148_0, hx148_1, hl148_0, hi148_0⟩ := at_T80 (Kd.S_reads' HO_8.out).2.2 x12_2 p148 q148
   have hnl148_0 := at_T80_nil0 (Kd.S_reads' HO_8.out).2.2 x12_2 p148 q148 e148 hx148_0
   cases e148
   obtain ⟨ce148, hce148, hMe148, hcc148⟩ := Kd.S_get HO_8.out z80 x12_2 p148 s4q32
   obtain ⟨ve148_0, rfl, ge148_0⟩ := k80_openM hMe148
   have hv148_0 := hcc148 0 _ rfl
   rw [Nat.add_zero] at hv148_0
   replace hv148_0 := Option.some.inj (hv148_0.symm.trans hx148_0)
   rw [hv148_0] at ge148_0
   have HL148_0 := aM (show Kd.R (Kd.int .i64) 3 _ _ _ _ ((rd_T80 x8_2 x12_2).f0) from ge148_0)
   clear hv148_0 ge148_0
   clear hcc148 hce148
   have HR148_0 := aM hi148_0
   have HC148_0 := aM hl148_0
   clear hi148_0 hl148_0
   replace p148 := eq_true p148
   replace q148 := eq_true q148
   have p149 : 0 ≤ ((Go.bits .andNot .i64 x9_1 x12_2) : Int) := of_decide_eq_true q3_
   have q149 : (Go.bits .andNot .i64 x9_1 x12_2) < (x8_2.length : Int) := of_decide_eq_true q3_
   obtain ⟨ad149, A149_0, c149_0, e149, hx149_0, hx149_1, hl149_0, hi149_0⟩ := at_T80 (Kd.S_reads' HO_8.out).2.2 (Go.bits .andNot .i64 x9_1 x12_2) p149 q149
   have hnl149_0 := at_T80_nil0 (Kd.S_reads' HO_8.out).2.2 (Go.bits .andNot .i64 x9_1 x12_2) p149 q149 e149 hx149_0
   obtain rfl : ad148 = ad149 := (by injection e149)
   obtain ⟨ce149, hce149, hMe149, hcc149⟩ := Kd.S_get HO_8.out z80 (Go.bits .andNot .i64 x9_1 x12_2) p149 s4q33
   obtain ⟨ve149_0, rfl, ge149_0⟩ := k80_openM hMe149
   have hv149_0 := hcc149 0 _ rfl
   rw [Nat.add_zero] at hv149_0
   replace hv149_0 := Option.some.inj (hv149_0.symm.trans hx149_0)
   rw [hv149_0] at ge149_0
   have HL149_0 := aM (show Kd.R (Kd.int .i64) 3 _ _ _ _ ((rd_T80 x8_2 (Go.bits .andNot .i64 x9_1 x12_2)).f0) from ge149_0)
   clear hv149_0 ge149_0
   clear hcc149 hce149
   have HR149_0 := aM hi149_0
   have HC149_0 := aM hl149_0
   clear hi149_0 hl149_0
   replace p149 := eq_true p149
   replace q149 := eq_true q149
   refine start_ (n := 14) (S := fun w' => w'.cell? (ad148.add ((x12_2).toNat * 2)) = some (.slice A148_0 ((rd_T80 x8_2 x12_2).f0).length c148_0) ∧ w'.cell? ⟨(ad148.add ((x12_2).toNat * 2)).block, (ad148.add ((x12_2).toNat * 2)).off + 1, none⟩ = some (.int .i64 ((rd_T80 x8_2 x12_2).f1)) ∧ w'.cell? (ad148.add (((Go.bits .andNot .i64 x9_1 x12_2)).toNat * 2)) = some (.slice A149_0 ((rd_T80 x8_2 (Go.bits .andNot .i64 x9_1 x12_2)).f0).length c149_0) ∧ w'.cell? ⟨(ad148.add (((Go.bits .andNot .i64 x9_1 x12_2)).toNat * 2)).block, (ad148.add (((Go.bits .andNot .i64 x9_1 x12_2)).toNat * 2)).off + 1, none⟩ = some (.int .i64 ((rd_T80 x8_2 (Go.bits .andNot .i64 x9_1 x12_2)).f1))) (ds := []) #[fF, fF, fF, fF, fF, fF, fF, fF, fF, fF, fF, fF, fF, fF] q5_ rfl rfl ⟨hx148_0, hx148_1, hx149_0, hx149_1⟩ (fun hHeld => ?_); refine with_tabW cost_Best.tab16 cost_Best.bits16 (fun HT_ HW_ => ?_)
   generalize wc.drew = w41 at HO_8 HB HL148_0 HL149_0 HR148_0 HR149_0 hx148_0 hx148_1 hx149_0 hx149_1 hHeld ⊢
   refine pure_ (i := 0) (N := some 69) (v := ?_) (a' := ?_) #[tT, fF, fF, fF, fF, fF, fF, fF, fF, fF, fF, fF, fF, fF] rfl rfl (any_of HT_.out q5_) (fun _ _ _ h => h) (Or.inl ⟨by rfl, ?_⟩) ?_ ?_
   rotate_left
   · intro w'
     go_simp
     with_reducible rfl
   rotate_left
   · simp only [Act.put, sqa, sqb, sqc, i64_w, i32_w]
     rfl
   refine pure_ (i := 1) (N := some 70) (v := ?_) (a' := ?_) #[tT, tT, fF, fF, fF, fF, fF, fF, fF, fF, fF, fF, fF, fF] rfl rfl (any_of HT_.out q5_) (fun _ _ _ h => h) (Or.inl ⟨by rfl, ?_⟩) ?_ ?_
   rotate_left
   · intro w'
     go_simp
     with_reducible rfl
   rotate_left
   · simp only [Act.put, sqa, sqb, sqc, i64_w, i32_w]
     rfl
   refine pure_ (i := 2) (N := some 71) (v := ?_) (a' := ?_) #[tT, tT, tT, fF, fF, fF, fF, fF, fF, fF, fF, fF, fF, fF] rfl rfl (any_of HT_.out q5_) (fun _ _ _ h => h) (Or.inl ⟨by rfl, ?_⟩) ?_ ?_
   rotate_left
   · intro w'
     go_simp
     with_reducible rfl
   rotate_left
   · simp only [Act.put, sqa, sqb, sqc, i64_w, i32_w]
     rfl
   refine pure_ (i := 4) (N := some 73) (v := ?_) (a' := ?_) #[tT, tT, tT, fF, tT, fF, fF, fF, fF, fF, fF, fF, fF, fF] rfl rfl (any_of HT_.out q5_) (fun _ _ _ h => h) (Or.inl ⟨by rfl, ?_⟩) ?_ ?_
   rotate_left
   · intro w'
     go_simp
     with_reducible rfl
   rotate_left
   · simp only [Act.put, sqa, sqb, sqc, i64_w, i32_w]
     rfl
   refine pure_ (i := 5) (N := some 74) (v := ?_) (a' := ?_) #[tT, tT, tT, fF, tT, tT, fF, fF, fF, fF, fF, fF, fF, fF] rfl rfl (any_of HT_.out q5_) (fun _ _ _ h => h) (Or.inl ⟨by rfl, ?_⟩) ?_ ?_
   rotate_left
   · intro w'
     go_simp
     with_reducible rfl
   rotate_left
   · simp only [Act.put, sqa, sqb, sqc, i64_w, i32_w]
     rfl
   refine pure_ (i := 6) (N := some 75) (v := ?_) (a' := ?_) #[tT, tT, tT, fF, tT, tT, tT, fF, fF, fF, fF, fF, fF, fF] rfl rfl (any_of HT_.out q5_) (fun _ _ _ h => h) (Or.inl ⟨by rfl, ?_⟩) ?_ ?_
   rotate_left
   · intro w'
     go_simp
     with_reducible rfl
   rotate_left
   · simp only [Act.put, sqa, sqb, sqc, i64_w, i32_w]
     rfl
   refine pure_ (i := 7) (N := some 76) (v := ?_) (a' := ?_) #[tT, tT, tT, fF, tT, tT, tT, tT, fF, fF, fF, fF, fF, fF] rfl rfl (any_of HT_.out q5_) (fun _ _ _ h => h) (Or.inl ⟨by rfl, ?_⟩) ?_ ?_
   rotate_left
   · intro w'
     go_simp
     with_reducible rfl
   rotate_left
   · simp only [Act.put, sqa, sqb, sqc, i64_w, i32_w]
     rfl
   refine pure_ (i := 8) (N := some 77) (v := ?_) (a' := ?_) #[tT, tT, tT, fF, tT, tT, tT, tT, tT, fF, fF, fF, fF, fF] rfl rfl (any_of HT_.out q5_) (fun _ _ _ h => h) (Or.inl ⟨by rfl, ?_⟩) ?_ ?_
   rotate_left
   · intro w'
     go_simp
     with_reducible rfl
   rotate_left
   · simp only [Act.put, sqa, sqb, sqc, i64_w, i32_w]
     rfl
   refine take_ (i := 3) (N := some 72) (v := ?_) (a' := ?_) #[tT, tT, tT, tT, tT, tT, tT, tT, tT, fF, fF, fF, fF, fF] rfl rfl (take_ofW HT_.out HW_.out q5_) (fun _ _ _ h => h) (Or.inl ⟨by rfl, ?_⟩) hHeld ?_ ?_
   rotate_left
   · rintro w' ⟨s0, s1, s2, s3⟩
     go_simp
     with_reducible rfl
   rotate_left
   · simp only [Act.put, sqa, sqb, sqc, i64_w, i32_w]
     rfl
   refine take_ (i := 9) (N := some 78) (v := ?_) (a' := ?_) #[tT, tT, tT, tT, tT, tT, tT, tT, tT, tT, fF, fF, fF, fF] rfl rfl (take_ofW HT_.out HW_.out q5_) (fun _ _ _ h => h) (Or.inl ⟨by rfl, ?_⟩) hHeld ?_ ?_
   rotate_left
   · rintro w' ⟨s0, s1, s2, s3⟩
     go_simp
     with_reducible rfl
   rotate_left
   · simp only [Act.put, sqa, sqb, sqc, i64_w, i32_w]
     rfl
   refine join_ (σ := Nat × Nat) 2 #[tT, tT, tT, tT, tT, tT, tT, tT, tT, tT, tT, tT, fF, fF] (fun s_ => [(13, .pointer (some ⟨s_.1, 0, none⟩)), (14, .pointer (some ⟨s_.2, 0, none⟩))]) (fun s_ w' => (w'.cell? (ad148.add ((x12_2).toNat * 2)) = some (.slice A148_0 ((rd_T80 x8_2 x12_2).f0).length c148_0) ∧ w'.cell? ⟨(ad148.add ((x12_2).toNat * 2)).block, (ad148.add ((x12_2).toNat * 2)).off + 1, none⟩ = some (.int .i64 ((rd_T80 x8_2 x12_2).f1)) ∧ w'.cell? (ad148.add (((Go.bits .andNot .i64 x9_1 x12_2)).toNat * 2)) = some (.slice A149_0 ((rd_T80 x8_2 (Go.bits .andNot .i64 x9_1 x12_2)).f0).length c149_0) ∧ w'.cell? ⟨(ad148.add (((Go.bits .andNot .i64 x9_1 x12_2)).toNat * 2)).block, (ad148.add (((Go.bits .andNot .i64 x9_1 x12_2)).toNat * 2)).off + 1, none⟩ = some (.int .i64 ((rd_T80 x8_2 (Go.bits .andNot .i64 x9_1 x12_2)).f1))) ∧ (Kd.R (Kd.int .i64) 3 w' w.heap.size (fun k_ => some k_ ≠ (.slice (some ad148) x8_2.length co24 : Value).ownBlock) (.slice A148_0 ((rd_T80 x8_2 x12_2).f0).length c148_0) ((rd_T80 x8_2 x12_2).f0)) ∧ (Kd.R (Kd.int .i64) 3 w' w.heap.size (fun k_ => some k_ ≠ (.slice (some ad148) x8_2.length co24 : Value).ownBlock) (.slice A149_0 ((rd_T80 x8_2 (Go.bits .andNot .i64 x9_1 x12_2)).f0).length c149_0) ((rd_T80 x8_2 (Go.bits .andNot .i64 x9_1 x12_2)).f0)) ∧ (Kd.S k80 80 w' w.heap.size (fun k_ => k_ ≠ s_.1 ∧ k_ ≠ s_.2) (.slice (some ad148) x8_2.length co24) x8_2) ∧ (w'.heap[s_.1]? = some (.cells #[.slice none 0 0, .int .i64 0] 80 (0, 0))) ∧ (w'.heap[s_.2]? = some (.cells #[.slice none 0 0, .int .i64 0] 80 (0, 0))) ∧ (w.heap.size ≤ s_.1) ∧ (w.heap.size ≤ s_.1) ∧ (s_.2 ≠ s_.1) ∧ (s_.1 ≠ s_.2) ∧ (w.heap.size ≤ s_.2) ∧ (w.heap.size ≤ s_.2) ∧ (Below w.heap.size w w')) ?_ ?_
   rotate_left
   · intro hCont
     refine two_ (i := 10) (j := 11) (Ni := some 13) (Nj := some 14) #[tT, tT, tT, tT, tT, tT, tT, tT, tT, tT, tT, fF, fF, fF] #[tT, tT, tT, tT, tT, tT, tT, tT, tT, tT, fF, tT, fF, fF] rfl rfl rfl rfl (two_of HT_.out q5_) s4q0 s4q0 (fun K hK => ?_) (fun K hK => ?_)
     · skip
       refine box_step ?hg (N := 13) ?hd (cs := #[.slice none 0 0, .int .i64 0]) (t := 80) ?hr ?_; (case hd => rfl); (case hg => rfl); (case hr => first | (go_simp; done) | (go_simp; rfl))
       intro gb150 hg w42 hbox hb
       have HS0_ := pw_cell_below hb hHeld.1
       have HS1_ := pw_cell_below hb hHeld.2.1
       have HS2_ := pw_cell_below hb hHeld.2.2.1
       have HS3_ := pw_cell_below hb hHeld.2.2.2
       have n0_ := aM (Kd.S_below (Kd.S_elderB s4q6 gb150 (Nat.le_of_eq hg.symm)) hb)
       have n1_ := aM (Kd.R_below s4q7 hb)
       have n2_ := aM (Kd.R_below s4q8 hb)
       have n3_ := aM (Kd.C_below s4q25 hb)
       have n4_ := aM (Kd.C_below s4q26 hb)
       have n5_ := aM (below_step q1_ hb)
       have n6_ := aM hbox
       have n7_ := aM (s4q38 : w.heap.size ≤ gb150)
       have n8_ := aM (s4q38 : w.heap.size ≤ gb150)
       clear HO_8
       clear HL148_0
       clear HL149_0
       clear HR148_0
       clear HR149_0
       clear HB
       have HO_8 := n0_
       have HL148_0 := n1_
       have HL149_0 := n2_
       have HR148_0 := n3_
       have HR149_0 := n4_
       have HB := n5_
       have BK150 := n6_
       have GW150 := n7_
       have GE150 := n8_
       clear n0_ n1_ n2_ n3_ n4_ n5_ n6_ n7_ n8_
       clear hb hbox hg
       refine hK.out _ _ ⟨HS0_, HS1_, HS2_, HS3_⟩ (fun hHeld => ?_)
       clear hK K
       refine norm_ (a' := ?_) ?_ ?_
       rotate_left
       · show Act.put _ (some 13) _ = _
         simp only [Act.put, sqa, sqb, sqc, i64_w, i32_w]
         rfl
       refine one_ (i := 11) (N := some 14) #[tT, tT, tT, tT, tT, tT, tT, tT, tT, tT, tT, tT, fF, fF] rfl rfl (one_of HT_.out q5_) s4q0 (fun K hK => ?_)
       refine box_step ?hg (N := 14) ?hd (cs := #[.slice none 0 0, .int .i64 0]) (t := 80) ?hr ?_; (case hd => rfl); (case hg => rfl); (case hr => first | (go_simp; done) | (go_simp; rfl))
       intro gb151 hg w43 hbox hb
       have HS0_ := pw_cell_below hb hHeld.1
       have HS1_ := pw_cell_below hb hHeld.2.1
       have HS2_ := pw_cell_below hb hHeld.2.2.1
       have HS3_ := pw_cell_below hb hHeld.2.2.2
       have n0_ := aM (Kd.S_below (Kd.S_elderB s4q6 gb151 (Nat.le_of_eq hg.symm)) hb)
       have n1_ := aM (Kd.R_below s4q7 hb)
       have n2_ := aM (Kd.R_below s4q8 hb)
       have n3_ := aM (Kd.C_below s4q25 hb)
       have n4_ := aM (Kd.C_below s4q26 hb)
       have n5_ := aM (bbR BK150.out hb)
       have n6_ := aM (below_step s4q21 hb)
       have n7_ := aM hbox
       have n8_ := aM (s4q39 : w.heap.size ≤ gb151)
       have n9_ := aM (s4q39 : w.heap.size ≤ gb151)
       have n10_ := aM (s4q43 : gb150 ≠ gb151)
       have n11_ := aM (s4q41 : gb151 ≠ gb150)
       clear HO_8
       clear HL148_0
       clear HL149_0
       clear HR148_0
       clear HR149_0
       clear BK150
       clear HB
       have HO_8 := n0_
       have HL148_0 := n1_
       have HL149_0 := n2_
       have HR148_0 := n3_
       have HR149_0 := n4_
       have BK150 := n5_
       have HB := n6_
       have BK151 := n7_
       have GW151 := n8_
       have GE151 := n9_
       have NB150_151 := n10_
       have NB151_150 := n11_
       clear n0_ n1_ n2_ n3_ n4_ n5_ n6_ n7_ n8_ n9_ n10_ n11_
       clear hb hbox hg
       refine hK.out _ _ ⟨HS0_, HS1_, HS2_, HS3_⟩ (fun hHeld => ?_)
       clear hK K
       refine norm_ (a' := ?_) ?_ ?_
       rotate_left
       · show Act.put _ (some 14) _ = _
         simp only [Act.put, sqa, sqb, sqc, i64_w, i32_w]
         rfl
       exact norm_ s4q3 (hCont (gb150, gb151) _ ⟨hHeld, s4q14, s4q15, s4q17, (blkR BK150.out), (blkR BK151.out), GW150.out, GE150.out, NB151_150.out, NB150_151.out, GW151.out, GE151.out, s4q28⟩)
     skip
     refine box_step ?hg (N := 14) ?hd (cs := #[.slice none 0 0, .int .i64 0]) (t := 80) ?hr ?_; (case hd => rfl); (case hg => rfl); (case hr => first | (go_simp; done) | (go_simp; rfl))
     intro gb151 hg w42 hbox hb
     have HS0_ := pw_cell_below hb hHeld.1
     have HS1_ := pw_cell_below hb hHeld.2.1
     have HS2_ := pw_cell_below hb hHeld.2.2.1
     have HS3_ := pw_cell_below hb hHeld.2.2.2
     have n0_ := aM (Kd.S_below (Kd.S_elderB s4q6 gb151 (Nat.le_of_eq hg.symm)) hb)
     have n1_ := aM (Kd.R_below s4q7 hb)
     have n2_ := aM (Kd.R_below s4q8 hb)
     have n3_ := aM (Kd.C_below s4q25 hb)
     have n4_ := aM (Kd.C_below s4q26 hb)
     have n5_ := aM (below_step q1_ hb)
     have n6_ := aM hbox
     have n7_ := aM (s4q38 : w.heap.size ≤ gb151)
     have n8_ := aM (s4q38 : w.heap.size ≤ gb151)
     clear HO_8
     clear HL148_0
     clear HL149_0
     clear HR148_0
     clear HR149_0
     clear HB
     have HO_8 := n0_
     have HL148_0 := n1_
     have HL149_0 := n2_
     have HR148_0 := n3_
     have HR149_0 := n4_
     have HB := n5_
     have BK151 := n6_
     have GW151 := n7_
     have GE151 := n8_
     clear n0_ n1_ n2_ n3_ n4_ n5_ n6_ n7_ n8_
     clear hb hbox hg
     refine hK.out _ _ ⟨HS0_, HS1_, HS2_, HS3_⟩ (fun hHeld => ?_)
     clear hK K
     refine norm_ (a' := ?_) ?_ ?_
     rotate_left
     · show Act.put _ (some 14) _ = _
       simp only [Act.put, sqa, sqb, sqc, i64_w, i32_w]
       rfl
     refine one_ (i := 10) (N := some 13) #[tT, tT, tT, tT, tT, tT, tT, tT, tT, tT, tT, tT, fF, fF] rfl rfl (one_of HT_.out q5_) s4q0 (fun K hK => ?_)
     refine box_step ?hg (N := 13) ?hd (cs := #[.slice none 0 0, .int .i64 0]) (t := 80) ?hr ?_; (case hd => rfl); (case hg => rfl); (case hr => first | (go_simp; done) | (go_simp; rfl))
     intro gb150 hg w43 hbox hb
     have HS0_ := pw_cell_below hb hHeld.1
     have HS1_ := pw_cell_below hb hHeld.2.1
     have HS2_ := pw_cell_below hb hHeld.2.2.1
     have HS3_ := pw_cell_below hb hHeld.2.2.2
     have n0_ := aM (Kd.S_below (Kd.S_elderB s4q6 gb150 (Nat.le_of_eq hg.symm)) hb)
     have n1_ := aM (Kd.R_below s4q7 hb)
     have n2_ := aM (Kd.R_below s4q8 hb)
     have n3_ := aM (Kd.C_below s4q25 hb)
     have n4_ := aM (Kd.C_below s4q26 hb)
     have n5_ := aM (bbR BK151.out hb)
     have n6_ := aM (below_step s4q22 hb)
     have n7_ := aM hbox
     have n8_ := aM (s4q40 : w.heap.size ≤ gb150)
     have n9_ := aM (s4q40 : w.heap.size ≤ gb150)
     have n10_ := aM (s4q44 : gb151 ≠ gb150)
     have n11_ := aM (s4q42 : gb150 ≠ gb151)
     clear HO_8
     clear HL148_0
     clear HL149_0
     clear HR148_0
     clear HR149_0
     clear BK151
     clear HB
     have HO_8 := n0_
     have HL148_0 := n1_
     have HL149_0 := n2_
     have HR148_0 := n3_
     have HR149_0 := n4_
     have BK151 := n5_
     have HB := n6_
     have BK150 := n7_
     have GW150 := n8_
     have GE150 := n9_
     have NB151_150 := n10_
     have NB150_151 := n11_
     clear n0_ n1_ n2_ n3_ n4_ n5_ n6_ n7_ n8_ n9_ n10_ n11_
     clear hb hbox hg
     refine hK.out _ _ ⟨HS0_, HS1_, HS2_, HS3_⟩ (fun hHeld => ?_)
     clear hK K
     refine norm_ (a' := ?_) ?_ ?_
     rotate_left
     · show Act.put _ (some 13) _ = _
       simp only [Act.put, sqa, sqb, sqc, i64_w, i32_w]
       rfl
     exact norm_ s4q3 (hCont (gb150, gb151) _ ⟨hHeld, s4q14, s4q15, s4q18, (blkR BK150.out), (blkR BK151.out), GW150.out, GE150.out, NB151_150.out, NB150_151.out, GW151.out, GE151.out, s4q29⟩)
   rintro ⟨gb150, gb151⟩ w44 ⟨hS_, h0_, h1_, h2_, h3_, h4_, h5_, h6_, h7_, h8_, h9_, h10_, h11_⟩
   have n0_ : Aside0 (Kd.R (Kd.int .i64) 3 w44 w.heap.size (fun k_ => some k_ ≠ (.slice (some ad148) x8_2.length co24 : Value).ownBlock) (.slice A148_0 ((rd_T80 x8_2 x12_2).f0).length c148_0) ((rd_T80 x8_2 x12_2).f0)) := ⟨h0_⟩
   have n1_ : Aside0 (Kd.R (Kd.int .i64) 3 w44 w.heap.size (fun k_ => some k_ ≠ (.slice (some ad148) x8_2.length co24 : Value).ownBlock) (.slice A149_0 ((rd_T80 x8_2 (Go.bits .andNot .i64 x9_1 x12_2)).f0).length c149_0) ((rd_T80 x8_2 (Go.bits .andNot .i64 x9_1 x12_2)).f0)) := ⟨h1_⟩
   have n2_ : Aside0 (Kd.S k80 80 w44 w.heap.size (fun k_ => k_ ≠ gb150 ∧ k_ ≠ gb151) (.slice (some ad148) x8_2.length co24) x8_2) := ⟨h2_⟩
   have n3_ : Aside0 (w44.heap[gb150]? = some (.cells #[.slice none 0 0, .int .i64 0] 80 (0, 0))) := ⟨h3_⟩
   have n4_ : Aside0 (w44.heap[gb151]? = some (.cells #[.slice none 0 0, .int .i64 0] 80 (0, 0))) := ⟨h4_⟩
   have n5_ : Aside0 (w.heap.size ≤ gb150) := ⟨h5_⟩
   have n6_ : Aside0 (w.heap.size ≤ gb150) := ⟨h6_⟩
   have n7_ : Aside0 (gb151 ≠ gb150) := ⟨h7_⟩
   have n8_ : Aside0 (gb150 ≠ gb151) := ⟨h8_⟩
   have n9_ : Aside0 (w.heap.size ≤ gb151) := ⟨h9_⟩
   have n10_ : Aside0 (w.heap.size ≤ gb151) := ⟨h10_⟩
   have n11_ : Aside0 (Below w.heap.size w w44) := ⟨h11_⟩
   clear HO_8
   clear HB
   clear h0_ h1_ h2_ h3_ h4_ h5_ h6_ h7_ h8_ h9_ h10_ h11_
   have HL148_0 := n0_
   have HL149_0 := n1_
   have HO_8 := n2_
   have BK150 := n3_
   have BK151 := n4_
   have GW150 := n5_
   have GE150 := n6_
   have NB151_150 := n7_
   have NB150_151 := n8_
   have GW151 := n9_
   have GE151 := n10_
   have HB := n11_
   clear n0_ n1_ n2_ n3_ n4_ n5_ n6_ n7_ n8_ n9_ n10_ n11_
   have hHeld : w44.cell? (ad148.add ((x12_2).toNat * 2)) = some (.slice A148_0 ((rd_T80 x8_2 x12_2).f0).length c148_0) ∧ w44.cell? ⟨(ad148.add ((x12_2).toNat * 2)).block, (ad148.add ((x12_2).toNat * 2)).off + 1, none⟩ = some (.int .i64 ((rd_T80 x8_2 x12_2).f1)) ∧ w44.cell? (ad148.add (((Go.bits .andNot .i64 x9_1 x12_2)).toNat * 2)) = some (.slice A149_0 ((rd_T80 x8_2 (Go.bits .andNot .i64 x9_1 x12_2)).f0).length c149_0) ∧ w44.cell? ⟨(ad148.add (((Go.bits .andNot .i64 x9_1 x12_2)).toNat * 2)).block, (ad148.add (((Go.bits .andNot .i64 x9_1 x12_2)).toNat * 2)).off + 1, none⟩ = some (.int .i64 ((rd_T80 x8_2 (Go.bits .andNot .i64 x9_1 x12_2)).f1)) := hS_
   refine norm_ (a' := ?_) ?_ ?_
   rotate_left
   · simp only [putAll, Act.put, sqa, sqb, sqc]
     rfl
   refine one_ (i := 12) (N := none) #[tT, tT, tT, tT, tT, tT, tT, tT, tT, tT, tT, tT, tT, fF] rfl rfl (one_of HT_.out q5_) s4q0 (fun K hK => ?_)
   have hs45 : w44.cell? ⟨gb150, 0, none⟩ = some (.slice none 0 0) := (blk_cell BK150.out 0).trans rfl
   have hfs45 := blk_frozen BK150.out 0
   have hns45_1 := NB151_150.out
   have hms45_1 := NB150_151.out
   have hs46 : w44.cell? ⟨gb150, 1, none⟩ = some (.int .i64 0) := (blk_cell BK150.out 1).trans rfl
   have hfs46 := blk_frozen BK150.out 1
   have hns46_1 := NB151_150.out
   have hms46_1 := NB150_151.out
   refine skip_ (w1 := ?_) (by rfl) rfl ?_ ?_
   rotate_left
   · go_simp
     rfl
   refine hK.out _ _ ⟨((cell_far (p := ⟨gb150, _, none⟩) s4q30 _).trans (((cell_far (p := ⟨gb150, _, none⟩) s4q30 _).trans (hHeld.1)))), ((cell_far (p := ⟨gb150, _, none⟩) s4q30 _).trans (((cell_far (p := ⟨gb150, _, none⟩) s4q30 _).trans (hHeld.2.1)))), ((cell_far (p := ⟨gb150, _, none⟩) s4q30 _).trans (((cell_far (p := ⟨gb150, _, none⟩) s4q30 _).trans (hHeld.2.2.1)))), ((cell_far (p := ⟨gb150, _, none⟩) s4q30 _).trans (((cell_far (p := ⟨gb150, _, none⟩) s4q30 _).trans (hHeld.2.2.2))))⟩ (fun hHeld => ?_)
   clear hK K
   refine one_ (i := 13) (N := none) #[tT, tT, tT, tT, tT, tT, tT, tT, tT, tT, tT, tT, tT, tT] rfl rfl (one_of HT_.out q5_) s4q0 (fun K hK => ?_)
   have hs47 : w44.cell? ⟨gb151, 0, none⟩ = some (.slice none 0 0) := (blk_cell BK151.out 0).trans rfl
   have hfs47 := blk_frozen BK151.out 0
   have hns47_0 := NB150_151.out
   have hms47_0 := NB151_150.out
   have hs48 : w44.cell? ⟨gb151, 1, none⟩ = some (.int .i64 0) := (blk_cell BK151.out 1).trans rfl
   have hfs48 := blk_frozen BK151.out 1
   have hns48_0 := NB150_151.out
   have hms48_0 := NB151_150.out
   refine skip_ (w1 := ?_) (by rfl) rfl ?_ ?_
   rotate_left
   · go_simp
     rfl
   refine hK.out _ _ ⟨((cell_far (p := ⟨gb151, _, none⟩) s4q31 _).trans (((cell_far (p := ⟨gb151, _, none⟩) s4q31 _).trans (hHeld.1)))), ((cell_far (p := ⟨gb151, _, none⟩) s4q31 _).trans (((cell_far (p := ⟨gb151, _, none⟩) s4q31 _).trans (hHeld.2.1)))), ((cell_far (p := ⟨gb151, _, none⟩) s4q31 _).trans (((cell_far (p := ⟨gb151, _, none⟩) s4q31 _).trans (hHeld.2.2.1)))), ((cell_far (p := ⟨gb151, _, none⟩) s4q31 _).trans (((cell_far (p := ⟨gb151, _, none⟩) s4q31 _).trans (hHeld.2.2.2))))⟩ (fun hHeld => ?_)
   clear hK K
   refine done_ (done_of HT_.out q5_) ?_
   have n0_ : Aside0 (Kd.S k80 80 ((((w44.setCell ⟨gb150, 0, none⟩ (.slice A148_0 ((rd_T80 x8_2 x12_2).f0).length c148_0)).setCell ⟨gb150, 1, none⟩ (.int .i64 ((rd_T80 x8_2 x12_2).f1))).setCell ⟨gb151, 0, none⟩ (.slice A149_0 ((rd_T80 x8_2 (Go.bits .andNot .i64 x9_1 x12_2)).f0).length c149_0)).setCell ⟨gb151, 1, none⟩ (.int .i64 ((rd_T80 x8_2 (Go.bits .andNot .i64 x9_1 x12_2)).f1))) w.heap.size (fun k_ => k_ ≠ gb150 ∧ k_ ≠ gb151) (.slice (some ad148) x8_2.length co24) x8_2) := ⟨by (with_reducible repeat (first | apply Kd.S_alloc | apply Kd.S_drewN | apply Kd.S_drew)); exact Kd.S_mono (Kd.S_far (p := ⟨gb151, 1, none⟩) (Kd.S_far (p := ⟨gb151, 0, none⟩) (Kd.S_far (p := ⟨gb150, 1, none⟩) (Kd.S_far (p := ⟨gb150, 0, none⟩) (Kd.S_mono (Kd.S_mono HO_8.out (fun k_ hk => (⟨hk, hk.1⟩ : _ ∧ k_ ≠ gb150))) (fun k_ hk => (⟨hk, hk.1.2⟩ : _ ∧ k_ ≠ gb151))) (fun _ hk => hk.1.2) (.slice A148_0 ((rd_T80 x8_2 x12_2).f0).length c148_0)) (fun _ hk => hk.1.2) (.int .i64 ((rd_T80 x8_2 x12_2).f1))) (fun _ hk => hk.2) (.slice A149_0 ((rd_T80 x8_2 (Go.bits .andNot .i64 x9_1 x12_2)).f0).length c149_0)) (fun _ hk => hk.2) (.int .i64 ((rd_T80 x8_2 (Go.bits .andNot .i64 x9_1 x12_2)).f1))) (fun _ hk => ⟨hk.1.1.1, hk.1.1.2⟩)⟩
   have n1_ : Aside0 (Kd.R (Kd.int .i64) 3 ((((w44.setCell ⟨gb150, 0, none⟩ (.slice A148_0 ((rd_T80 x8_2 x12_2).f0).length c148_0)).setCell ⟨gb150, 1, none⟩ (.int .i64 ((rd_T80 x8_2 x12_2).f1))).setCell ⟨gb151, 0, none⟩ (.slice A149_0 ((rd_T80 x8_2 (Go.bits .andNot .i64 x9_1 x12_2)).f0).length c149_0)).setCell ⟨gb151, 1, none⟩ (.int .i64 ((rd_T80 x8_2 (Go.bits .andNot .i64 x9_1 x12_2)).f1))) w.heap.size (fun k_ => some k_ ≠ (.slice (some ad148) x8_2.length co24 : Value).ownBlock) (.slice A148_0 ((rd_T80 x8_2 x12_2).f0).length c148_0) ((rd_T80 x8_2 x12_2).f0)) := ⟨by (with_reducible repeat (first | apply Kd.R_alloc | apply Kd.R_drewN | apply Kd.R_drew)); exact Kd.R_mono (Kd.R_far (p := ⟨gb151, 1, none⟩) (Kd.R_far (p := ⟨gb151, 0, none⟩) (Kd.R_far (p := ⟨gb150, 1, none⟩) (Kd.R_far (p := ⟨gb150, 0, none⟩) (Kd.R_types (Kd.R_types HL148_0.out BK150.out s4q0) BK151.out s4q0) (fun _ hk => hk.1.2) (.slice A148_0 ((rd_T80 x8_2 x12_2).f0).length c148_0)) (fun _ hk => hk.1.2) (.int .i64 ((rd_T80 x8_2 x12_2).f1))) (fun _ hk => hk.2) (.slice A149_0 ((rd_T80 x8_2 (Go.bits .andNot .i64 x9_1 x12_2)).f0).length c149_0)) (fun _ hk => hk.2) (.int .i64 ((rd_T80 x8_2 (Go.bits .andNot .i64 x9_1 x12_2)).f1))) (fun _ hk => hk.1.1)⟩
   have n2_ : Aside0 (Kd.R (Kd.int .i64) 3 ((((w44.setCell ⟨gb150, 0, none⟩ (.slice A148_0 ((rd_T80 x8_2 x12_2).f0).length c148_0)).setCell ⟨gb150, 1, none⟩ (.int .i64 ((rd_T80 x8_2 x12_2).f1))).setCell ⟨gb151, 0, none⟩ (.slice A149_0 ((rd_T80 x8_2 (Go.bits .andNot .i64 x9_1 x12_2)).f0).length c149_0)).setCell ⟨gb151, 1, none⟩ (.int .i64 ((rd_T80 x8_2 (Go.bits .andNot .i64 x9_1 x12_2)).f1))) w.heap.size (fun k_ => some k_ ≠ (.slice (some ad148) x8_2.length co24 : Value).ownBlock) (.slice A149_0 ((rd_T80 x8_2 (Go.bits .andNot .i64 x9_1 x12_2)).f0).length c149_0) ((rd_T80 x8_2 (Go.bits .andNot .i64 x9_1 x12_2)).f0)) := ⟨by (with_reducible repeat (first | apply Kd.R_alloc | apply Kd.R_drewN | apply Kd.R_drew)); exact Kd.R_mono (Kd.R_far (p := ⟨gb151, 1, none⟩) (Kd.R_far (p := ⟨gb151, 0, none⟩) (Kd.R_far (p := ⟨gb150, 1, none⟩) (Kd.R_far (p := ⟨gb150, 0, none⟩) (Kd.R_types (Kd.R_types HL149_0.out BK150.out s4q0) BK151.out s4q0) (fun _ hk => hk.1.2) (.slice A148_0 ((rd_T80 x8_2 x12_2).f0).length c148_0)) (fun _ hk => hk.1.2) (.int .i64 ((rd_T80 x8_2 x12_2).f1))) (fun _ hk => hk.2) (.slice A149_0 ((rd_T80 x8_2 (Go.bits .andNot .i64 x9_1 x12_2)).f0).length c149_0)) (fun _ hk => hk.2) (.int .i64 ((rd_T80 x8_2 (Go.bits .andNot .i64 x9_1 x12_2)).f1))) (fun _ hk => hk.1.1)⟩
   have n3_ : Aside0 (((((w44.setCell ⟨gb150, 0, none⟩ (.slice A148_0 ((rd_T80 x8_2 x12_2).f0).length c148_0)).setCell ⟨gb150, 1, none⟩ (.int .i64 ((rd_T80 x8_2 x12_2).f1))).setCell ⟨gb151, 0, none⟩ (.slice A149_0 ((rd_T80 x8_2 (Go.bits .andNot .i64 x9_1 x12_2)).f0).length c149_0)).setCell ⟨gb151, 1, none⟩ (.int .i64 ((rd_T80 x8_2 (Go.bits .andNot .i64 x9_1 x12_2)).f1))).heap[gb150]? = some (.cells #[.slice A148_0 ((rd_T80 x8_2 x12_2).f0).length c148_0, .int .i64 ((rd_T80 x8_2 x12_2).f1)] 80 (0, 0))) := ⟨by (with_reducible repeat (first | refine blk_drewN ?_ _ | refine blk_drew ?_ | refine blk_alloc ?_ _)); refine blk_far ?_ NB150_151.out _; (with_reducible repeat (first | refine blk_drewN ?_ _ | refine blk_drew ?_ | refine blk_alloc ?_ _)); refine blk_far ?_ NB150_151.out _; (with_reducible repeat (first | refine blk_drewN ?_ _ | refine blk_drew ?_ | refine blk_alloc ?_ _)); refine blk_put (cs := #[.slice A148_0 ((rd_T80 x8_2 x12_2).f0).length c148_0, .int .i64 0]) ?_ 1 _ rfl; (with_reducible repeat (first | refine blk_drewN ?_ _ | refine blk_drew ?_ | refine blk_alloc ?_ _)); refine blk_put (cs := #[.slice none 0 0, .int .i64 0]) ?_ 0 _ rfl; (with_reducible repeat (first | refine blk_drewN ?_ _ | refine blk_drew ?_ | refine blk_alloc ?_ _)); exact BK150.out⟩
   have n4_ : Aside0 (((((w44.setCell ⟨gb150, 0, none⟩ (.slice A148_0 ((rd_T80 x8_2 x12_2).f0).length c148_0)).setCell ⟨gb150, 1, none⟩ (.int .i64 ((rd_T80 x8_2 x12_2).f1))).setCell ⟨gb151, 0, none⟩ (.slice A149_0 ((rd_T80 x8_2 (Go.bits .andNot .i64 x9_1 x12_2)).f0).length c149_0)).setCell ⟨gb151, 1, none⟩ (.int .i64 ((rd_T80 x8_2 (Go.bits .andNot .i64 x9_1 x12_2)).f1))).heap[gb151]? = some (.cells #[.slice A149_0 ((rd_T80 x8_2 (Go.bits .andNot .i64 x9_1 x12_2)).f0).length c149_0, .int .i64 ((rd_T80 x8_2 (Go.bits .andNot .i64 x9_1 x12_2)).f1)] 80 (0, 0))) := ⟨by (with_reducible repeat (first | refine blk_drewN ?_ _ | refine blk_drew ?_ | refine blk_alloc ?_ _)); refine blk_put (cs := #[.slice A149_0 ((rd_T80 x8_2 (Go.bits .andNot .i64 x9_1 x12_2)).f0).length c149_0, .int .i64 0]) ?_ 1 _ rfl; (with_reducible repeat (first | refine blk_drewN ?_ _ | refine blk_drew ?_ | refine blk_alloc ?_ _)); refine blk_put (cs := #[.slice none 0 0, .int .i64 0]) ?_ 0 _ rfl; (with_reducible repeat (first | refine blk_drewN ?_ _ | refine blk_drew ?_ | refine blk_alloc ?_ _)); refine blk_far ?_ NB151_150.out _; (with_reducible repeat (first | refine blk_drewN ?_ _ | refine blk_drew ?_ | refine blk_alloc ?_ _)); refine blk_far ?_ NB151_150.out _; (with_reducible repeat (first | refine blk_drewN ?_ _ | refine blk_drew ?_ | refine blk_alloc ?_ _)); exact BK151.out⟩
   have n5_ : Aside0 (Below w.heap.size w ((((w44.setCell ⟨gb150, 0, none⟩ (.slice A148_0 ((rd_T80 x8_2 x12_2).f0).length c148_0)).setCell ⟨gb150, 1, none⟩ (.int .i64 ((rd_T80 x8_2 x12_2).f1))).setCell ⟨gb151, 0, none⟩ (.slice A149_0 ((rd_T80 x8_2 (Go.bits .andNot .i64 x9_1 x12_2)).f0).length c149_0)).setCell ⟨gb151, 1, none⟩ (.int .i64 ((rd_T80 x8_2 (Go.bits .andNot .i64 x9_1 x12_2)).f1)))) := ⟨s4q28⟩
   (try clear HO_8)
   (try clear HL148_0)
   (try clear HL149_0)
   (try clear BK150)
   (try clear BK151)
   (try clear HB)
   generalize ((((w44.setCell ⟨gb150, 0, none⟩ (.slice A148_0 ((rd_T80 x8_2 x12_2).f0).length c148_0)).setCell ⟨gb150, 1, none⟩ (.int .i64 ((rd_T80 x8_2 x12_2).f1))).setCell ⟨gb151, 0, none⟩ (.slice A149_0 ((rd_T80 x8_2 (Go.bits .andNot .i64 x9_1 x12_2)).f0).length c149_0)).setCell ⟨gb151, 1, none⟩ (.int .i64 ((rd_T80 x8_2 (Go.bits .andNot .i64 x9_1 x12_2)).f1))) = w49 at n0_ n1_ n2_ n3_ n4_ n5_ ⊢
   have HO_8 := n0_
   have HL148_0 := n1_
   have HL149_0 := n2_
   have BK150 := n3_
   have BK151 := n4_
   have HB := n5_
   clear n0_ n1_ n2_ n3_ n4_ n5_
   have hnb50 := NB150_151.out
   have hnc50 := NB151_150.out
   obtain ⟨hcz51_0, hcz51_1, hfz51_0, hfz51_1⟩ := cells2 BK150.out
   obtain ⟨hcz52_0, hcz52_1, hfz52_0, hfz52_1⟩ := cells2 BK151.out
   have p152 : 0 ≤ (x9_1 : Int) := of_decide_eq_true q3_
   have q152 : x9_1 < (x8_2.length : Int) := of_decide_eq_true q3_
   obtain ⟨ad152, A152_0, c152_0, e152, hx152_0, hx152_1, hl152_0, hi152_0⟩ := at_T80 (Kd.S_reads' HO_8.out).2.2 x9_1 p152 q152
   have hnl152_0 := at_T80_nil0 (Kd.S_reads' HO_8.out).2.2 x9_1 p152 q152 e152 hx152_0
   obtain rfl : ad148 = ad152 := (by injection e152)
   obtain ⟨ce152, hce152, hMe152, hcc152⟩ := Kd.S_get HO_8.out z80 x9_1 p152 s4q34
   obtain ⟨ve152_0, rfl, ge152_0⟩ := k80_openM hMe152
   have hv152_0 := hcc152 0 _ rfl
   rw [Nat.add_zero] at hv152_0
   replace hv152_0 := Option.some.inj (hv152_0.symm.trans hx152_0)
   rw [hv152_0] at ge152_0
   have HL152_0 := aM (show Kd.R (Kd.int .i64) 3 _ _ _ _ ((rd_T80 x8_2 x9_1).f0) from ge152_0)
   clear hv152_0 ge152_0
   clear hcc152 hce152
   have HR152_0 := aM hi152_0
   have HC152_0 := aM hl152_0
   clear hi152_0 hl152_0
   replace p152 := eq_true p152
   replace q152 := eq_true q152
   try go_wp2_with (first | ((with_reducible refine gate_callee (f := 47) rfl ?_); refine goesL_ (some 108) rfl rfl Tryd.func47 q5_ rfl #[.slice A148_0 ((rd_T80 x8_2 x12_2).f0).length c148_0, .slice A149_0 ((rd_T80 x8_2 (Go.bits .andNot .i64 x9_1 x12_2)).f0).length c149_0] rfl q2_ ?_; (with_reducible refine (cost_joined.calls kj26 _ _ ((rd_T80 x8_2 x12_2).f0) _ _ ((rd_T80 x8_2 (Go.bits .andNot .i64 x9_1 x12_2)).f0) t153 _ ?side1 ?side2 ?side3 ?side4 A38.out).mono ?_); (case side1 => repeat (first | exact ((Kd.R_reads' s4q7).2.2) | (with_reducible refine Kd.C_alloc ?_ _) | (with_reducible refine Kd.C_drewN ?_ _) | (with_reducible refine Kd.C_drew ?_))); (case side2 => exact HC148_0.out); (case side3 => repeat (first | exact ((Kd.R_reads' s4q8).2.2) | (with_reducible refine Kd.C_alloc ?_ _) | (with_reducible refine Kd.C_drewN ?_ _) | (with_reducible refine Kd.C_drew ?_))); (case side4 => exact HC149_0.out); rintro e w53 ⟨v154, rfl, ho0, hb⟩; refine ⟨_, rfl, ?_⟩; have HO155 := aM (Kd.R_lower (Kd.R_new' (Kd.R_new' (Kd.R_new' ho0 (Kd.R_lt s4q7)) (Kd.R_lt s4q8)) (Kd.R_lt s4q9)) (below_size s4q28)); replace HO_8 := aM (Kd.S_elder' s4q6 (Kd.R_base ho0) hb); replace HL148_0 := aM (Kd.R_elder' s4q7 (Kd.R_base ho0) hb); replace HL149_0 := aM (Kd.R_elder' s4q8 (Kd.R_base ho0) hb); replace HL152_0 := aM (Kd.R_elder' s4q9 (Kd.R_base ho0) hb); replace BK150 := aM (bbR BK150.out hb); replace BK151 := aM (bbR BK151.out hb); replace HR152_0 := aM (Kd.C_below s4q27 hb); replace HB := aM (below_step s4q28 hb); (try clear hb); (try clear hb2); (try clear hk); (try clear hi); (try clear ho0); obtain ⟨Ao54, co54, eo54⟩ := Kd.R_slice HO155.out; subst eo54; have p39 : 0 ≤ (x9_1 : Int) := of_decide_eq_true q3_; have q39 : (x9_1 : Int) < ((x8_2.length : Int) : Int) := of_decide_eq_true q3_; obtain ⟨go39, co39, eo39, gb39, gl39, cl39, HG39⟩ := Kd.S_form HO_8.out (by first | exact Int.natCast_pos.1 (Int.lt_of_le_of_lt p39 q39) | omega); (first | cases eo39 | (injection eo39 with ea_ en_ ec_; (first | subst ea_ | (injection ea_ with ea_; subst ea_)); subst ec_; clear en_)); have GB39 := aM gb39; have GG39 := aM HG39; clear gb39 gl39 HG39; (first | simp only [add_plain] at hx148_0 | skip); (first | simp only [add_plain] at hx148_1 | skip); (first | simp only [add_plain] at hx149_0 | skip); (first | simp only [add_plain] at hx149_1 | skip); (first | simp only [add_plain] at hx152_0 | skip); (first | simp only [add_plain] at hx152_1 | skip); obtain ⟨_, ce39, hcl39, hM39, hcc39, hfr39, _, _⟩ := Kd.S_elem HO_8.out z80 (x9_1 : Int) p39 q39; obtain ⟨ve39_0, rfl, ge39_0⟩ := k80_openM hM39; have hx39_0 : w53.cell? ⟨go39, (x9_1 : Int).toNat * 2, none⟩ = some (ve39_0) := hcc39 0 _ rfl; have hx39_1 : w53.cell? ⟨go39, (x9_1 : Int).toNat * 2 + 1, none⟩ = some (.int .i64 ((rd_T80 x8_2 x9_1).f1)) := hcc39 1 _ rfl; have hf39_0 : w53.frozen? ⟨go39, (x9_1 : Int).toNat * 2, none⟩ = false := hfr39 0; have hf39_1 : w53.frozen? ⟨go39, (x9_1 : Int).toNat * 2 + 1, none⟩ = false := hfr39 1; clear hcl39 hcc39 hfr39 hM39; replace p39 := eq_true p39; replace q39 := eq_true q39; have n_ := aM (Kd.S_mono (ok' := (fun k_ => some k_ ≠ (.slice Ao54 t153.length co54 : Value).ownBlock ∧ k_ ≠ gb150 ∧ k_ ≠ gb151)) HO_8.out (fun k_ hk => ⟨hk.2, ⟨hk.1.1, hk.1.2⟩⟩)); clear HO_8; have HO_8 := n_; clear n_; have HX55 := aM (show Kd.S k80 80 w53 w.heap.size (fun k_ => ((fun k_ => k_ ≠ gb150 ∧ k_ ≠ gb151)) k_ ∧ ¬ ((fun k_ => some k_ = (.slice Ao54 t153.length co54 : Value).ownBlock)) k_) (.slice (some ⟨go39, 0, none⟩) x8_2.length co24) x8_2 from s4q23); obtain ⟨oki55, ce55, hcl55, hM55, hcc55, hfr55, hoki55, hH55⟩ := Kd.S_elem HX55.out z80 (x9_1 : Int) (of_decide_eq_true q3_) s4q37; obtain ⟨ve55_0, rfl, ge55_0⟩ := k80_openM hM55; have HP55 := Kd.S_seg hH55 (of_decide_eq_true q3_) s4q37 (seg := [.slice Ao54 t153.length co54, .int .i64 ji34]) (j := 0) (show 2 ≤ 2 from by decide) (x' := (⟨t153, ji34⟩ : S80)) (k80_mkM _ _ _ (⟨t153, ji34⟩ : S80) (Kd.R_mono (Kd.R_tight rfl (Kd.R_mono (ok' := fun k_ => ((fun k_ => k_ ≠ gb150 ∧ k_ ≠ gb151)) k_ ∧ k_ ≠ go39) (Kd.R_types (Kd.R_types (Kd.R_apart' (HO155.out) (Kd.S_typed HO_8.out) s4q0) BK150.out s4q0) BK151.out s4q0) (fun k_ hk => ⟨⟨hk.1.2, hk.2⟩, fun e_ => (hk.1.1.2) s4q2⟩))) (fun _ h_ => Or.inr (h_)))) (fun _ hk => hk) (fun k_ hk_ => ((Kd.R_mono (ok' := fun k_ => ((fun k_ => k_ ≠ gb150 ∧ k_ ≠ gb151)) k_ ∧ k_ ≠ go39) (Kd.R_types (Kd.R_types (Kd.R_apart' (HO155.out) (Kd.S_typed HO_8.out) s4q0) BK150.out s4q0) BK151.out s4q0) (fun k_ hk => ⟨⟨hk.1.2, hk.2⟩, fun e_ => (hk.1.1.2) s4q2⟩))).1 k_ hk_.symm); have hx55_0 := hcc55 0 _ rfl; (try simp only [show (k80).sz = 2 from rfl, Nat.mul_one, Nat.add_zero] at hx55_0); have hf55_0 := hfr55 0; (try simp only [show (k80).sz = 2 from rfl, Nat.mul_one, Nat.add_zero] at hf55_0); have hx55_1 := hcc55 1 _ rfl; (try simp only [show (k80).sz = 2 from rfl, Nat.mul_one, Nat.add_zero] at hx55_1); have hf55_1 := hfr55 1; (try simp only [show (k80).sz = 2 from rfl, Nat.mul_one, Nat.add_zero] at hf55_1); clear hcl55 hcc55 hfr55 hM55 hoki55 hH55) | ((with_reducible refine gate_store (t := 80) (p := 111) rfl ?_); refine store_event (t := 80) (p := 111) (v := ?vo_w56) (w1 := ((w53.setCell ⟨go39, (x9_1 : Int).toNat * 2, none⟩ (.slice Ao54 t153.length co54)).setCell ⟨go39, (x9_1 : Int).toNat * 2 + 1, none⟩ (.int .i64 ji34))) ?hg ?ho ?hn ?hr ?_; (case ho => rfl); (case hg => rfl); (case hn => rfl); (case hr => first | (go_simp; done) | (go_simp; rfl)); intro w56 hw; have hg : w53.grownBy w56 (some go39) := (by rw [hw]; exact HP55.2); have hp_ : Kd.S k80 80 w56 w.heap.size (fun k_ => k_ ≠ gb150 ∧ k_ ≠ gb151) (.slice (some ⟨go39, 0, none⟩) x8_2.length co24) y156 := (by rw [hw, Ny156.out]; exact HP55.1); clear HP55; have n0_ := aM hp_; have n1_ := aM (Kd.R_after (v := (.slice (some ⟨go39, 0, none⟩) x8_2.length co24)) (v1 := (.slice (some ⟨go39, 0, none⟩) x8_2.length co24)) (ok := (fun k_ => some k_ ≠ (.slice Ao54 t153.length co54 : Value).ownBlock)) s4q19 hg (.inl rfl)); have n2_ := aM (Kd.R_after (v := (.slice (some ⟨go39, 0, none⟩) x8_2.length co24)) (v1 := (.slice (some ⟨go39, 0, none⟩) x8_2.length co24)) (ok := (fun k_ => some k_ ≠ (.slice Ao54 t153.length co54 : Value).ownBlock)) s4q20 hg (.inl rfl)); have n3_ := aM (blk_grown (g := gb150) (o := .cells #[.slice A148_0 ((rd_T80 x8_2 x12_2).f0).length c148_0, .int .i64 ((rd_T80 x8_2 x12_2).f1)] 80 (0, 0)) (blkR BK150.out) hg (Kd.S_away HO_8.out (fun _ hk => hk.2.1))); have n4_ := aM (blk_grown (g := gb151) (o := .cells #[.slice A149_0 ((rd_T80 x8_2 (Go.bits .andNot .i64 x9_1 x12_2)).f0).length c149_0, .int .i64 ((rd_T80 x8_2 (Go.bits .andNot .i64 x9_1 x12_2)).f1)] 80 (0, 0)) (blkR BK151.out) hg (Kd.S_away HO_8.out (fun _ hk => hk.2.2))); have n5_ := aM (Kd.R_after (v := (.slice (some ⟨go39, 0, none⟩) x8_2.length co24)) (v1 := (.slice (some ⟨go39, 0, none⟩) x8_2.length co24)) (ok := (fun k_ => some k_ ≠ (.slice Ao54 t153.length co54 : Value).ownBlock ∧ k_ ≠ gb150 ∧ k_ ≠ gb151)) s4q24 hg (.inl rfl)); have n6_ := aM ((by rw [hw]; exact below_set (below_set (HB.out) GB39.out) GB39.out : Below w.heap.size w w56)); clear HO_8; clear HL148_0; clear HL149_0; clear BK150; clear BK151; clear HL152_0; clear HB; clear HO155; have HO_8 := n0_; have HL148_0 := n1_; have HL149_0 := n2_; have BK150 := n3_; have BK151 := n4_; have HL152_0 := n5_; have HB := n6_; clear n0_ n1_ n2_ n3_ n4_ n5_ n6_; clear hg hw hp_))
   (try simp only [← hl8_2])
   first | go_roundg kj26 | (refine Handed.intro kj26 ?measure ?_; rotate_left; go_step; (repeat apply Exists.intro); simp only [add_plain]; refine ⟨?rel, rfl⟩)
   case measure => have := HK1.out; have := HK2.out; have := HJ26.out; omega
   case rel => exact ⟨(y156), (wrap64 (x12_2 + 1)), q4_, H', ⟨by have := HK1.out; have := HK2.out; have := HJ26.out; omega⟩, ⟨by (try simp only [hl8_2]); (with_reducible repeat (first | apply Kd.S_alloc | apply Kd.S_drewN | apply Kd.S_drew)); exact Kd.S_mono HO_8.out (fun _ hk => trivial)⟩, ⟨s4q28⟩⟩
 rw [if_neg c37] at H
 have c37e : (((rd_T80 x8_2 x9_1).f0)).isEmpty = false := isEmpty_false (by omega)
 have c37b0 : ((((rd_T80 x8_2 x9_1).f0).length : Int) == 0) = false := beq_eq_false_iff_ne.mpr c37
 have c37b1 : ((((rd_T80 x8_2 x9_1).f0).length : Int) != 0) = true := bne_iff_ne.mpr c37
 have c37b2 : ¬ (((rd_T80 x8_2 x9_1).f0) = []) := fun h_ => c37 (by rw [h_]; rfl)
 by_cases c57 : (ji34) < ((rd_T80 x8_2 x9_1).f1)
 case neg =>
  rw [if_neg c57] at H
  have c57b0 : decide ((ji34) < ((rd_T80 x8_2 x9_1).f1)) = false := decide_eq_false c57
  clear c57
  have H' := aM H
  clear H
  try go_wp2
  have n0_ := aM (Kd.S_drew HO_8.out)
  have n1_ := aM (below_drew1 HB.out)
  clear HO_8
  clear HB
  have HO_8 := n0_
  have HB := n1_
  clear n0_ n1_
  have p148 : 0 ≤ (x12_2 : Int) := of_decide_eq_true q3_
  have q148 : x12_2 < (x8_2.length : Int) := of_decide_eq_true q3_
  obtain ⟨ad148, A148_0, c148_0, e148, hx148_0, hx148_1, hl148_0, hi148_0⟩ := at_T80 (Kd.S_reads' HO_8.out).2.2 x12_2 p148 q148
  have hnl148_0 := at_T80_nil0 (Kd.S_reads' HO_8.out).2.2 x12_2 p148 q148 e148 hx148_0
  cases e148
  obtain ⟨ce148, hce148, hMe148, hcc148⟩ := Kd.S_get HO_8.out z80 x12_2 p148 s4q32
  obtain ⟨ve148_0, rfl, ge148_0⟩ := k80_openM hMe148
  have hv148_0 := hcc148 0 _ rfl
  rw [Nat.add_zero] at hv148_0
  replace hv148_0 := Option.some.inj (hv148_0.symm.trans hx148_0)
  rw [hv148_0] at ge148_0
  have HL148_0 := aM (show Kd.R (Kd.int .i64) 3 _ _ _ _ ((rd_T80 x8_2 x12_2).f0) from ge148_0)
  clear hv148_0 ge148_0
  clear hcc148 hce148
  have HR148_0 := aM hi148_0
  have HC148_0 := aM hl148_0
  clear hi148_0 hl148_0
  replace p148 := eq_true p148
  replace q148 := eq_true q148
  have p149 : 0 ≤ ((Go.bits .andNot .i64 x9_1 x12_2) : Int) := of_decide_eq_true q3_
  have q149 : (Go.bits .andNot .i64 x9_1 x12_2) < (x8_2.length : Int) := of_decide_eq_true q3_
  obtain ⟨ad149, A149_0, c149_0, e149, hx149_0, hx149_1, hl149_0, hi149_0⟩ := at_T80 (Kd.S_reads' HO_8.out).2.2 (Go.bits .andNot .i64 x9_1 x12_2) p149 q149
  have hnl149_0 := at_T80_nil0 (Kd.S_reads' HO_8.out).2.2 (Go.bits .andNot .i64 x9_1 x12_2) p149 q149 e149 hx149_0
  obtain rfl : ad148 = ad149 := (by injection e149)
  obtain ⟨ce149, hce149, hMe149, hcc149⟩ := Kd.S_get HO_8.out z80 (Go.bits .andNot .i64 x9_1 x12_2) p149 s4q33
  obtain ⟨ve149_0, rfl, ge149_0⟩ := k80_openM hMe149
  have hv149_0 := hcc149 0 _ rfl
  rw [Nat.add_zero] at hv149_0
  replace hv149_0 := Option.some.inj (hv149_0.symm.trans hx149_0)
  rw [hv149_0] at ge149_0
  have HL149_0 := aM (show Kd.R (Kd.int .i64) 3 _ _ _ _ ((rd_T80 x8_2 (Go.bits .andNot .i64 x9_1 x12_2)).f0) from ge149_0)
  clear hv149_0 ge149_0
  clear hcc149 hce149
  have HR149_0 := aM hi149_0
  have HC149_0 := aM hl149_0
  clear hi149_0 hl149_0
  replace p149 := eq_true p149
  replace q149 := eq_true q149
  refine start_ (n := 14) (S := fun w' => w'.cell? (ad148.add ((x12_2).toNat * 2)) = some (.slice A148_0 ((rd_T80 x8_2 x12_2).f0).length c148_0) ∧ w'.cell? ⟨(ad148.add ((x12_2).toNat * 2)).block, (ad148.add ((x12_2).toNat * 2)).off + 1, none⟩ = some (.int .i64 ((rd_T80 x8_2 x12_2).f1)) ∧ w'.cell? (ad148.add (((Go.bits .andNot .i64 x9_1 x12_2)).toNat * 2)) = some (.slice A149_0 ((rd_T80 x8_2 (Go.bits .andNot .i64 x9_1 x12_2)).f0).length c149_0) ∧ w'.cell? ⟨(ad148.add (((Go.bits .andNot .i64 x9_1 x12_2)).toNat * 2)).block, (ad148.add (((Go.bits .andNot .i64 x9_1 x12_2)).toNat * 2)).off + 1, none⟩ = some (.int .i64 ((rd_T80 x8_2 (Go.bits .andNot .i64 x9_1 x12_2)).f1))) (ds := []) #[fF, fF, fF, fF, fF, fF, fF, fF, fF, fF, fF, fF, fF, fF] q5_ rfl rfl ⟨hx148_0, hx148_1, hx149_0, hx149_1⟩ (fun hHeld => ?_); refine with_tabW cost_Best.tab16 cost_Best.bits16 (fun HT_ HW_ => ?_)
  generalize wc.drew = w77 at HO_8 HB HL148_0 HL149_0 HR148_0 HR149_0 hx148_0 hx148_1 hx149_0 hx149_1 hHeld ⊢
  refine pure_ (i := 0) (N := some 69) (v := ?_) (a' := ?_) #[tT, fF, fF, fF, fF, fF, fF, fF, fF, fF, fF, fF, fF, fF] rfl rfl (any_of HT_.out q5_) (fun _ _ _ h => h) (Or.inl ⟨by rfl, ?_⟩) ?_ ?_
  rotate_left
  · intro w'
    go_simp
    with_reducible rfl
  rotate_left
  · simp only [Act.put, sqa, sqb, sqc, i64_w, i32_w]
    rfl
  refine pure_ (i := 1) (N := some 70) (v := ?_) (a' := ?_) #[tT, tT, fF, fF, fF, fF, fF, fF, fF, fF, fF, fF, fF, fF] rfl rfl (any_of HT_.out q5_) (fun _ _ _ h => h) (Or.inl ⟨by rfl, ?_⟩) ?_ ?_
  rotate_left
  · intro w'
    go_simp
    with_reducible rfl
  rotate_left
  · simp only [Act.put, sqa, sqb, sqc, i64_w, i32_w]
    rfl
  refine pure_ (i := 2) (N := some 71) (v := ?_) (a' := ?_) #[tT, tT, tT, fF, fF, fF, fF, fF, fF, fF, fF, fF, fF, fF] rfl rfl (any_of HT_.out q5_) (fun _ _ _ h => h) (Or.inl ⟨by rfl, ?_⟩) ?_ ?_
  rotate_left
  · intro w'
    go_simp
    with_reducible rfl
  rotate_left
  · simp only [Act.put, sqa, sqb, sqc, i64_w, i32_w]
    rfl
  refine pure_ (i := 4) (N := some 73) (v := ?_) (a' := ?_) #[tT, tT, tT, fF, tT, fF, fF, fF, fF, fF, fF, fF, fF, fF] rfl rfl (any_of HT_.out q5_) (fun _ _ _ h => h) (Or.inl ⟨by rfl, ?_⟩) ?_ ?_
  rotate_left
  · intro w'
    go_simp
    with_reducible rfl
  rotate_left
  · simp only [Act.put, sqa, sqb, sqc, i64_w, i32_w]
    rfl
  refine pure_ (i := 5) (N := some 74) (v := ?_) (a' := ?_) #[tT, tT, tT, fF, tT, tT, fF, fF, fF, fF, fF, fF, fF, fF] rfl rfl (any_of HT_.out q5_) (fun _ _ _ h => h) (Or.inl ⟨by rfl, ?_⟩) ?_ ?_
  rotate_left
  · intro w'
    go_simp
    with_reducible rfl
  rotate_left
  · simp only [Act.put, sqa, sqb, sqc, i64_w, i32_w]
    rfl
  refine pure_ (i := 6) (N := some 75) (v := ?_) (a' := ?_) #[tT, tT, tT, fF, tT, tT, tT, fF, fF, fF, fF, fF, fF, fF] rfl rfl (any_of HT_.out q5_) (fun _ _ _ h => h) (Or.inl ⟨by rfl, ?_⟩) ?_ ?_
  rotate_left
  · intro w'
    go_simp
    with_reducible rfl
  rotate_left
  · simp only [Act.put, sqa, sqb, sqc, i64_w, i32_w]
    rfl
  refine pure_ (i := 7) (N := some 76) (v := ?_) (a' := ?_) #[tT, tT, tT, fF, tT, tT, tT, tT, fF, fF, fF, fF, fF, fF] rfl rfl (any_of HT_.out q5_) (fun _ _ _ h => h) (Or.inl ⟨by rfl, ?_⟩) ?_ ?_
  rotate_left
  · intro w'
    go_simp
    with_reducible rfl
  rotate_left
  · simp only [Act.put, sqa, sqb, sqc, i64_w, i32_w]
    rfl
  refine pure_ (i := 8) (N := some 77) (v := ?_) (a' := ?_) #[tT, tT, tT, fF, tT, tT, tT, tT, tT, fF, fF, fF, fF, fF] rfl rfl (any_of HT_.out q5_) (fun _ _ _ h => h) (Or.inl ⟨by rfl, ?_⟩) ?_ ?_
  rotate_left
  · intro w'
    go_simp
    with_reducible rfl
  rotate_left
  · simp only [Act.put, sqa, sqb, sqc, i64_w, i32_w]
    rfl
  refine take_ (i := 3) (N := some 72) (v := ?_) (a' := ?_) #[tT, tT, tT, tT, tT, tT, tT, tT, tT, fF, fF, fF, fF, fF] rfl rfl (take_ofW HT_.out HW_.out q5_) (fun _ _ _ h => h) (Or.inl ⟨by rfl, ?_⟩) hHeld ?_ ?_
  rotate_left
  · rintro w' ⟨s0, s1, s2, s3⟩
    go_simp
    with_reducible rfl
  rotate_left
  · simp only [Act.put, sqa, sqb, sqc, i64_w, i32_w]
    rfl
  refine take_ (i := 9) (N := some 78) (v := ?_) (a' := ?_) #[tT, tT, tT, tT, tT, tT, tT, tT, tT, tT, fF, fF, fF, fF] rfl rfl (take_ofW HT_.out HW_.out q5_) (fun _ _ _ h => h) (Or.inl ⟨by rfl, ?_⟩) hHeld ?_ ?_
  rotate_left
  · rintro w' ⟨s0, s1, s2, s3⟩
    go_simp
    with_reducible rfl
  rotate_left
  · simp only [Act.put, sqa, sqb, sqc, i64_w, i32_w]
    rfl
  refine join_ (σ := Nat × Nat) 2 #[tT, tT, tT, tT, tT, tT, tT, tT, tT, tT, tT, tT, fF, fF] (fun s_ => [(13, .pointer (some ⟨s_.1, 0, none⟩)), (14, .pointer (some ⟨s_.2, 0, none⟩))]) (fun s_ w' => (w'.cell? (ad148.add ((x12_2).toNat * 2)) = some (.slice A148_0 ((rd_T80 x8_2 x12_2).f0).length c148_0) ∧ w'.cell? ⟨(ad148.add ((x12_2).toNat * 2)).block, (ad148.add ((x12_2).toNat * 2)).off + 1, none⟩ = some (.int .i64 ((rd_T80 x8_2 x12_2).f1)) ∧ w'.cell? (ad148.add (((Go.bits .andNot .i64 x9_1 x12_2)).toNat * 2)) = some (.slice A149_0 ((rd_T80 x8_2 (Go.bits .andNot .i64 x9_1 x12_2)).f0).length c149_0) ∧ w'.cell? ⟨(ad148.add (((Go.bits .andNot .i64 x9_1 x12_2)).toNat * 2)).block, (ad148.add (((Go.bits .andNot .i64 x9_1 x12_2)).toNat * 2)).off + 1, none⟩ = some (.int .i64 ((rd_T80 x8_2 (Go.bits .andNot .i64 x9_1 x12_2)).f1))) ∧ (Kd.R (Kd.int .i64) 3 w' w.heap.size (fun k_ => some k_ ≠ (.slice (some ad148) x8_2.length co24 : Value).ownBlock) (.slice A148_0 ((rd_T80 x8_2 x12_2).f0).length c148_0) ((rd_T80 x8_2 x12_2).f0)) ∧ (Kd.R (Kd.int .i64) 3 w' w.heap.size (fun k_ => some k_ ≠ (.slice (some ad148) x8_2.length co24 : Value).ownBlock) (.slice A149_0 ((rd_T80 x8_2 (Go.bits .andNot .i64 x9_1 x12_2)).f0).length c149_0) ((rd_T80 x8_2 (Go.bits .andNot .i64 x9_1 x12_2)).f0)) ∧ (Kd.S k80 80 w' w.heap.size (fun k_ => k_ ≠ s_.1 ∧ k_ ≠ s_.2) (.slice (some ad148) x8_2.length co24) x8_2) ∧ (w'.heap[s_.1]? = some (.cells #[.slice none 0 0, .int .i64 0] 80 (0, 0))) ∧ (w'.heap[s_.2]? = some (.cells #[.slice none 0 0, .int .i64 0] 80 (0, 0))) ∧ (w.heap.size ≤ s_.1) ∧ (w.heap.size ≤ s_.1) ∧ (s_.2 ≠ s_.1) ∧ (s_.1 ≠ s_.2) ∧ (w.heap.size ≤ s_.2) ∧ (w.heap.size ≤ s_.2) ∧ (Below w.heap.size w w')) ?_ ?_
  rotate_left
  · intro hCont
    refine two_ (i := 10) (j := 11) (Ni := some 13) (Nj := some 14) #[tT, tT, tT, tT, tT, tT, tT, tT, tT, tT, tT, fF, fF, fF] #[tT, tT, tT, tT, tT, tT, tT, tT, tT, tT, fF, tT, fF, fF] rfl rfl rfl rfl (two_of HT_.out q5_) s4q0 s4q0 (fun K hK => ?_) (fun K hK => ?_)
    · skip
      refine box_step ?hg (N := 13) ?hd (cs := #[.slice none 0 0, .int .i64 0]) (t := 80) ?hr ?_; (case hd => rfl); (case hg => rfl); (case hr => first | (go_simp; done) | (go_simp; rfl))
      intro gb150 hg w78 hbox hb
      have HS0_ := pw_cell_below hb hHeld.1
      have HS1_ := pw_cell_below hb hHeld.2.1
      have HS2_ := pw_cell_below hb hHeld.2.2.1
      have HS3_ := pw_cell_below hb hHeld.2.2.2
      have n0_ := aM (Kd.S_below (Kd.S_elderB s4q6 gb150 (Nat.le_of_eq hg.symm)) hb)
      have n1_ := aM (Kd.R_below s4q7 hb)
      have n2_ := aM (Kd.R_below s4q8 hb)
      have n3_ := aM (Kd.C_below s4q25 hb)
      have n4_ := aM (Kd.C_below s4q26 hb)
      have n5_ := aM (below_step q1_ hb)
      have n6_ := aM hbox
      have n7_ := aM (s4q38 : w.heap.size ≤ gb150)
      have n8_ := aM (s4q38 : w.heap.size ≤ gb150)
      clear HO_8
      clear HL148_0
      clear HL149_0
      clear HR148_0
      clear HR149_0
      clear HB
      have HO_8 := n0_
      have HL148_0 := n1_
      have HL149_0 := n2_
      have HR148_0 := n3_
      have HR149_0 := n4_
      have HB := n5_
      have BK150 := n6_
      have GW150 := n7_
      have GE150 := n8_
      clear n0_ n1_ n2_ n3_ n4_ n5_ n6_ n7_ n8_
      clear hb hbox hg
      refine hK.out _ _ ⟨HS0_, HS1_, HS2_, HS3_⟩ (fun hHeld => ?_)
      clear hK K
      refine norm_ (a' := ?_) ?_ ?_
      rotate_left
      · show Act.put _ (some 13) _ = _
        simp only [Act.put, sqa, sqb, sqc, i64_w, i32_w]
        rfl
      refine one_ (i := 11) (N := some 14) #[tT, tT, tT, tT, tT, tT, tT, tT, tT, tT, tT, tT, fF, fF] rfl rfl (one_of HT_.out q5_) s4q0 (fun K hK => ?_)
      refine box_step ?hg (N := 14) ?hd (cs := #[.slice none 0 0, .int .i64 0]) (t := 80) ?hr ?_; (case hd => rfl); (case hg => rfl); (case hr => first | (go_simp; done) | (go_simp; rfl))
      intro gb151 hg w79 hbox hb
      have HS0_ := pw_cell_below hb hHeld.1
      have HS1_ := pw_cell_below hb hHeld.2.1
      have HS2_ := pw_cell_below hb hHeld.2.2.1
      have HS3_ := pw_cell_below hb hHeld.2.2.2
      have n0_ := aM (Kd.S_below (Kd.S_elderB s4q6 gb151 (Nat.le_of_eq hg.symm)) hb)
      have n1_ := aM (Kd.R_below s4q7 hb)
      have n2_ := aM (Kd.R_below s4q8 hb)
      have n3_ := aM (Kd.C_below s4q25 hb)
      have n4_ := aM (Kd.C_below s4q26 hb)
      have n5_ := aM (bbR BK150.out hb)
      have n6_ := aM (below_step s4q21 hb)
      have n7_ := aM hbox
      have n8_ := aM (s4q39 : w.heap.size ≤ gb151)
      have n9_ := aM (s4q39 : w.heap.size ≤ gb151)
      have n10_ := aM (s4q43 : gb150 ≠ gb151)
      have n11_ := aM (s4q41 : gb151 ≠ gb150)
      clear HO_8
      clear HL148_0
      clear HL149_0
      clear HR148_0
      clear HR149_0
      clear BK150
      clear HB
      have HO_8 := n0_
      have HL148_0 := n1_
      have HL149_0 := n2_
      have HR148_0 := n3_
      have HR149_0 := n4_
      have BK150 := n5_
      have HB := n6_
      have BK151 := n7_
      have GW151 := n8_
      have GE151 := n9_
      have NB150_151 := n10_
      have NB151_150 := n11_
      clear n0_ n1_ n2_ n3_ n4_ n5_ n6_ n7_ n8_ n9_ n10_ n11_
      clear hb hbox hg
      refine hK.out _ _ ⟨HS0_, HS1_, HS2_, HS3_⟩ (fun hHeld => ?_)
      clear hK K
      refine norm_ (a' := ?_) ?_ ?_
      rotate_left
      · show Act.put _ (some 14) _ = _
        simp only [Act.put, sqa, sqb, sqc, i64_w, i32_w]
        rfl
      exact norm_ s4q3 (hCont (gb150, gb151) _ ⟨hHeld, s4q14, s4q15, s4q17, (blkR BK150.out), (blkR BK151.out), GW150.out, GE150.out, NB151_150.out, NB150_151.out, GW151.out, GE151.out, s4q28⟩)
    skip
    refine box_step ?hg (N := 14) ?hd (cs := #[.slice none 0 0, .int .i64 0]) (t := 80) ?hr ?_; (case hd => rfl); (case hg => rfl); (case hr => first | (go_simp; done) | (go_simp; rfl))
    intro gb151 hg w78 hbox hb
    have HS0_ := pw_cell_below hb hHeld.1
    have HS1_ := pw_cell_below hb hHeld.2.1
    have HS2_ := pw_cell_below hb hHeld.2.2.1
    have HS3_ := pw_cell_below hb hHeld.2.2.2
    have n0_ := aM (Kd.S_below (Kd.S_elderB s4q6 gb151 (Nat.le_of_eq hg.symm)) hb)
    have n1_ := aM (Kd.R_below s4q7 hb)
    have n2_ := aM (Kd.R_below s4q8 hb)
    have n3_ := aM (Kd.C_below s4q25 hb)
    have n4_ := aM (Kd.C_below s4q26 hb)
    have n5_ := aM (below_step q1_ hb)
    have n6_ := aM hbox
    have n7_ := aM (s4q38 : w.heap.size ≤ gb151)
    have n8_ := aM (s4q38 : w.heap.size ≤ gb151)
    clear HO_8
    clear HL148_0
    clear HL149_0
    clear HR148_0
    clear HR149_0
    clear HB
    have HO_8 := n0_
    have HL148_0 := n1_
    have HL149_0 := n2_
    have HR148_0 := n3_
    have HR149_0 := n4_
    have HB := n5_
    have BK151 := n6_
    have GW151 := n7_
    have GE151 := n8_
    clear n0_ n1_ n2_ n3_ n4_ n5_ n6_ n7_ n8_
    clear hb hbox hg
    refine hK.out _ _ ⟨HS0_, HS1_, HS2_, HS3_⟩ (fun hHeld => ?_)
    clear hK K
    refine norm_ (a' := ?_) ?_ ?_
    rotate_left
    · show Act.put _ (some 14) _ = _
      simp only [Act.put, sqa, sqb, sqc, i64_w, i32_w]
      rfl
    refine one_ (i := 10) (N := some 13) #[tT, tT, tT, tT, tT, tT, tT, tT, tT, tT, tT, tT, fF, fF] rfl rfl (one_of HT_.out q5_) s4q0 (fun K hK => ?_)
    refine box_step ?hg (N := 13) ?hd (cs := #[.slice none 0 0, .int .i64 0]) (t := 80) ?hr ?_; (case hd => rfl); (case hg => rfl); (case hr => first | (go_simp; done) | (go_simp; rfl))
    intro gb150 hg w79 hbox hb
    have HS0_ := pw_cell_below hb hHeld.1
    have HS1_ := pw_cell_below hb hHeld.2.1
    have HS2_ := pw_cell_below hb hHeld.2.2.1
    have HS3_ := pw_cell_below hb hHeld.2.2.2
    have n0_ := aM (Kd.S_below (Kd.S_elderB s4q6 gb150 (Nat.le_of_eq hg.symm)) hb)
    have n1_ := aM (Kd.R_below s4q7 hb)
    have n2_ := aM (Kd.R_below s4q8 hb)
    have n3_ := aM (Kd.C_below s4q25 hb)
    have n4_ := aM (Kd.C_below s4q26 hb)
    have n5_ := aM (bbR BK151.out hb)
    have n6_ := aM (below_step s4q22 hb)
    have n7_ := aM hbox
    have n8_ := aM (s4q40 : w.heap.size ≤ gb150)
    have n9_ := aM (s4q40 : w.heap.size ≤ gb150)
    have n10_ := aM (s4q44 : gb151 ≠ gb150)
    have n11_ := aM (s4q42 : gb150 ≠ gb151)
    clear HO_8
    clear HL148_0
    clear HL149_0
    clear HR148_0
    clear HR149_0
    clear BK151
    clear HB
    have HO_8 := n0_
    have HL148_0 := n1_
    have HL149_0 := n2_
    have HR148_0 := n3_
    have HR149_0 := n4_
    have BK151 := n5_
    have HB := n6_
    have BK150 := n7_
    have GW150 := n8_
    have GE150 := n9_
    have NB151_150 := n10_
    have NB150_151 := n11_
    clear n0_ n1_ n2_ n3_ n4_ n5_ n6_ n7_ n8_ n9_ n10_ n11_
    clear hb hbox hg
    refine hK.out _ _ ⟨HS0_, HS1_, HS2_, HS3_⟩ (fun hHeld => ?_)
    clear hK K
    refine norm_ (a' := ?_) ?_ ?_
    rotate_left
    · show Act.put _ (some 13) _ = _
      simp only [Act.put, sqa, sqb, sqc, i64_w, i32_w]
      rfl
    exact norm_ s4q3 (hCont (gb150, gb151) _ ⟨hHeld, s4q14, s4q15, s4q18, (blkR BK150.out), (blkR BK151.out), GW150.out, GE150.out, NB151_150.out, NB150_151.out, GW151.out, GE151.out, s4q29⟩)
  rintro ⟨gb150, gb151⟩ w80 ⟨hS_, h0_, h1_, h2_, h3_, h4_, h5_, h6_, h7_, h8_, h9_, h10_, h11_⟩
  have n0_ : Aside0 (Kd.R (Kd.int .i64) 3 w80 w.heap.size (fun k_ => some k_ ≠ (.slice (some ad148) x8_2.length co24 : Value).ownBlock) (.slice A148_0 ((rd_T80 x8_2 x12_2).f0).length c148_0) ((rd_T80 x8_2 x12_2).f0)) := ⟨h0_⟩
  have n1_ : Aside0 (Kd.R (Kd.int .i64) 3 w80 w.heap.size (fun k_ => some k_ ≠ (.slice (some ad148) x8_2.length co24 : Value).ownBlock) (.slice A149_0 ((rd_T80 x8_2 (Go.bits .andNot .i64 x9_1 x12_2)).f0).length c149_0) ((rd_T80 x8_2 (Go.bits .andNot .i64 x9_1 x12_2)).f0)) := ⟨h1_⟩
  have n2_ : Aside0 (Kd.S k80 80 w80 w.heap.size (fun k_ => k_ ≠ gb150 ∧ k_ ≠ gb151) (.slice (some ad148) x8_2.length co24) x8_2) := ⟨h2_⟩
  have n3_ : Aside0 (w80.heap[gb150]? = some (.cells #[.slice none 0 0, .int .i64 0] 80 (0, 0))) := ⟨h3_⟩
  have n4_ : Aside0 (w80.heap[gb151]? = some (.cells #[.slice none 0 0, .int .i64 0] 80 (0, 0))) := ⟨h4_⟩
  have n5_ : Aside0 (w.heap.size ≤ gb150) := ⟨h5_⟩
  have n6_ : Aside0 (w.heap.size ≤ gb150) := ⟨h6_⟩
  have n7_ : Aside0 (gb151 ≠ gb150) := ⟨h7_⟩
  have n8_ : Aside0 (gb150 ≠ gb151) := ⟨h8_⟩
  have n9_ : Aside0 (w.heap.size ≤ gb151) := ⟨h9_⟩
  have n10_ : Aside0 (w.heap.size ≤ gb151) := ⟨h10_⟩
  have n11_ : Aside0 (Below w.heap.size w w80) := ⟨h11_⟩
  clear HO_8
  clear HB
  clear h0_ h1_ h2_ h3_ h4_ h5_ h6_ h7_ h8_ h9_ h10_ h11_
  have HL148_0 := n0_
  have HL149_0 := n1_
  have HO_8 := n2_
  have BK150 := n3_
  have BK151 := n4_
  have GW150 := n5_
  have GE150 := n6_
  have NB151_150 := n7_
  have NB150_151 := n8_
  have GW151 := n9_
  have GE151 := n10_
  have HB := n11_
  clear n0_ n1_ n2_ n3_ n4_ n5_ n6_ n7_ n8_ n9_ n10_ n11_
  have hHeld : w80.cell? (ad148.add ((x12_2).toNat * 2)) = some (.slice A148_0 ((rd_T80 x8_2 x12_2).f0).length c148_0) ∧ w80.cell? ⟨(ad148.add ((x12_2).toNat * 2)).block, (ad148.add ((x12_2).toNat * 2)).off + 1, none⟩ = some (.int .i64 ((rd_T80 x8_2 x12_2).f1)) ∧ w80.cell? (ad148.add (((Go.bits .andNot .i64 x9_1 x12_2)).toNat * 2)) = some (.slice A149_0 ((rd_T80 x8_2 (Go.bits .andNot .i64 x9_1 x12_2)).f0).length c149_0) ∧ w80.cell? ⟨(ad148.add (((Go.bits .andNot .i64 x9_1 x12_2)).toNat * 2)).block, (ad148.add (((Go.bits .andNot .i64 x9_1 x12_2)).toNat * 2)).off + 1, none⟩ = some (.int .i64 ((rd_T80 x8_2 (Go.bits .andNot .i64 x9_1 x12_2)).f1)) := hS_
  refine norm_ (a' := ?_) ?_ ?_
  rotate_left
  · simp only [putAll, Act.put, sqa, sqb, sqc]
    rfl
  refine one_ (i := 12) (N := none) #[tT, tT, tT, tT, tT, tT, tT, tT, tT, tT, tT, tT, tT, fF] rfl rfl (one_of HT_.out q5_) s4q0 (fun K hK => ?_)
  have hs81 : w80.cell? ⟨gb150, 0, none⟩ = some (.slice none 0 0) := (blk_cell BK150.out 0).trans rfl
  have hfs81 := blk_frozen BK150.out 0
  have hns81_1 := NB151_150.out
  have hms81_1 := NB150_151.out
  have hs82 : w80.cell? ⟨gb150, 1, none⟩ = some (.int .i64 0) := (blk_cell BK150.out 1).trans rfl
  have hfs82 := blk_frozen BK150.out 1
  have hns82_1 := NB151_150.out
  have hms82_1 := NB150_151.out
  refine skip_ (w1 := ?_) (by rfl) rfl ?_ ?_
  rotate_left
  · go_simp
    rfl
  refine hK.out _ _ ⟨((cell_far (p := ⟨gb150, _, none⟩) s4q30 _).trans (((cell_far (p := ⟨gb150, _, none⟩) s4q30 _).trans (hHeld.1)))), ((cell_far (p := ⟨gb150, _, none⟩) s4q30 _).trans (((cell_far (p := ⟨gb150, _, none⟩) s4q30 _).trans (hHeld.2.1)))), ((cell_far (p := ⟨gb150, _, none⟩) s4q30 _).trans (((cell_far (p := ⟨gb150, _, none⟩) s4q30 _).trans (hHeld.2.2.1)))), ((cell_far (p := ⟨gb150, _, none⟩) s4q30 _).trans (((cell_far (p := ⟨gb150, _, none⟩) s4q30 _).trans (hHeld.2.2.2))))⟩ (fun hHeld => ?_)
  clear hK K
  refine one_ (i := 13) (N := none) #[tT, tT, tT, tT, tT, tT, tT, tT, tT, tT, tT, tT, tT, tT] rfl rfl (one_of HT_.out q5_) s4q0 (fun K hK => ?_)
  have hs83 : w80.cell? ⟨gb151, 0, none⟩ = some (.slice none 0 0) := (blk_cell BK151.out 0).trans rfl
  have hfs83 := blk_frozen BK151.out 0
  have hns83_0 := NB150_151.out
  have hms83_0 := NB151_150.out
  have hs84 : w80.cell? ⟨gb151, 1, none⟩ = some (.int .i64 0) := (blk_cell BK151.out 1).trans rfl
  have hfs84 := blk_frozen BK151.out 1
  have hns84_0 := NB150_151.out
  have hms84_0 := NB151_150.out
  refine skip_ (w1 := ?_) (by rfl) rfl ?_ ?_
  rotate_left
  · go_simp
    rfl
  refine hK.out _ _ ⟨((cell_far (p := ⟨gb151, _, none⟩) s4q31 _).trans (((cell_far (p := ⟨gb151, _, none⟩) s4q31 _).trans (hHeld.1)))), ((cell_far (p := ⟨gb151, _, none⟩) s4q31 _).trans (((cell_far (p := ⟨gb151, _, none⟩) s4q31 _).trans (hHeld.2.1)))), ((cell_far (p := ⟨gb151, _, none⟩) s4q31 _).trans (((cell_far (p := ⟨gb151, _, none⟩) s4q31 _).trans (hHeld.2.2.1)))), ((cell_far (p := ⟨gb151, _, none⟩) s4q31 _).trans (((cell_far (p := ⟨gb151, _, none⟩) s4q31 _).trans (hHeld.2.2.2))))⟩ (fun hHeld => ?_)
  clear hK K
  refine done_ (done_of HT_.out q5_) ?_
  have n0_ : Aside0 (Kd.S k80 80 ((((w80.setCell ⟨gb150, 0, none⟩ (.slice A148_0 ((rd_T80 x8_2 x12_2).f0).length c148_0)).setCell ⟨gb150, 1, none⟩ (.int .i64 ((rd_T80 x8_2 x12_2).f1))).setCell ⟨gb151, 0, none⟩ (.slice A149_0 ((rd_T80 x8_2 (Go.bits .andNot .i64 x9_1 x12_2)).f0).length c149_0)).setCell ⟨gb151, 1, none⟩ (.int .i64 ((rd_T80 x8_2 (Go.bits .andNot .i64 x9_1 x12_2)).f1))) w.heap.size (fun k_ => k_ ≠ gb150 ∧ k_ ≠ gb151) (.slice (some ad148) x8_2.length co24) x8_2) := ⟨by (with_reducible repeat (first | apply Kd.S_alloc | apply Kd.S_drewN | apply Kd.S_drew)); exact Kd.S_mono (Kd.S_far (p := ⟨gb151, 1, none⟩) (Kd.S_far (p := ⟨gb151, 0, none⟩) (Kd.S_far (p := ⟨gb150, 1, none⟩) (Kd.S_far (p := ⟨gb150, 0, none⟩) (Kd.S_mono (Kd.S_mono HO_8.out (fun k_ hk => (⟨hk, hk.1⟩ : _ ∧ k_ ≠ gb150))) (fun k_ hk => (⟨hk, hk.1.2⟩ : _ ∧ k_ ≠ gb151))) (fun _ hk => hk.1.2) (.slice A148_0 ((rd_T80 x8_2 x12_2).f0).length c148_0)) (fun _ hk => hk.1.2) (.int .i64 ((rd_T80 x8_2 x12_2).f1))) (fun _ hk => hk.2) (.slice A149_0 ((rd_T80 x8_2 (Go.bits .andNot .i64 x9_1 x12_2)).f0).length c149_0)) (fun _ hk => hk.2) (.int .i64 ((rd_T80 x8_2 (Go.bits .andNot .i64 x9_1 x12_2)).f1))) (fun _ hk => ⟨hk.1.1.1, hk.1.1.2⟩)⟩
  have n1_ : Aside0 (Kd.R (Kd.int .i64) 3 ((((w80.setCell ⟨gb150, 0, none⟩ (.slice A148_0 ((rd_T80 x8_2 x12_2).f0).length c148_0)).setCell ⟨gb150, 1, none⟩ (.int .i64 ((rd_T80 x8_2 x12_2).f1))).setCell ⟨gb151, 0, none⟩ (.slice A149_0 ((rd_T80 x8_2 (Go.bits .andNot .i64 x9_1 x12_2)).f0).length c149_0)).setCell ⟨gb151, 1, none⟩ (.int .i64 ((rd_T80 x8_2 (Go.bits .andNot .i64 x9_1 x12_2)).f1))) w.heap.size (fun k_ => some k_ ≠ (.slice (some ad148) x8_2.length co24 : Value).ownBlock) (.slice A148_0 ((rd_T80 x8_2 x12_2).f0).length c148_0) ((rd_T80 x8_2 x12_2).f0)) := ⟨by (with_reducible repeat (first | apply Kd.R_alloc | apply Kd.R_drewN | apply Kd.R_drew)); exact Kd.R_mono (Kd.R_far (p := ⟨gb151, 1, none⟩) (Kd.R_far (p := ⟨gb151, 0, none⟩) (Kd.R_far (p := ⟨gb150, 1, none⟩) (Kd.R_far (p := ⟨gb150, 0, none⟩) (Kd.R_types (Kd.R_types HL148_0.out BK150.out s4q0) BK151.out s4q0) (fun _ hk => hk.1.2) (.slice A148_0 ((rd_T80 x8_2 x12_2).f0).length c148_0)) (fun _ hk => hk.1.2) (.int .i64 ((rd_T80 x8_2 x12_2).f1))) (fun _ hk => hk.2) (.slice A149_0 ((rd_T80 x8_2 (Go.bits .andNot .i64 x9_1 x12_2)).f0).length c149_0)) (fun _ hk => hk.2) (.int .i64 ((rd_T80 x8_2 (Go.bits .andNot .i64 x9_1 x12_2)).f1))) (fun _ hk => hk.1.1)⟩
  have n2_ : Aside0 (Kd.R (Kd.int .i64) 3 ((((w80.setCell ⟨gb150, 0, none⟩ (.slice A148_0 ((rd_T80 x8_2 x12_2).f0).length c148_0)).setCell ⟨gb150, 1, none⟩ (.int .i64 ((rd_T80 x8_2 x12_2).f1))).setCell ⟨gb151, 0, none⟩ (.slice A149_0 ((rd_T80 x8_2 (Go.bits .andNot .i64 x9_1 x12_2)).f0).length c149_0)).setCell ⟨gb151, 1, none⟩ (.int .i64 ((rd_T80 x8_2 (Go.bits .andNot .i64 x9_1 x12_2)).f1))) w.heap.size (fun k_ => some k_ ≠ (.slice (some ad148) x8_2.length co24 : Value).ownBlock) (.slice A149_0 ((rd_T80 x8_2 (Go.bits .andNot .i64 x9_1 x12_2)).f0).length c149_0) ((rd_T80 x8_2 (Go.bits .andNot .i64 x9_1 x12_2)).f0)) := ⟨by (with_reducible repeat (first | apply Kd.R_alloc | apply Kd.R_drewN | apply Kd.R_drew)); exact Kd.R_mono (Kd.R_far (p := ⟨gb151, 1, none⟩) (Kd.R_far (p := ⟨gb151, 0, none⟩) (Kd.R_far (p := ⟨gb150, 1, none⟩) (Kd.R_far (p := ⟨gb150, 0, none⟩) (Kd.R_types (Kd.R_types HL149_0.out BK150.out s4q0) BK151.out s4q0) (fun _ hk => hk.1.2) (.slice A148_0 ((rd_T80 x8_2 x12_2).f0).length c148_0)) (fun _ hk => hk.1.2) (.int .i64 ((rd_T80 x8_2 x12_2).f1))) (fun _ hk => hk.2) (.slice A149_0 ((rd_T80 x8_2 (Go.bits .andNot .i64 x9_1 x12_2)).f0).length c149_0)) (fun _ hk => hk.2) (.int .i64 ((rd_T80 x8_2 (Go.bits .andNot .i64 x9_1 x12_2)).f1))) (fun _ hk => hk.1.1)⟩
  have n3_ : Aside0 (((((w80.setCell ⟨gb150, 0, none⟩ (.slice A148_0 ((rd_T80 x8_2 x12_2).f0).length c148_0)).setCell ⟨gb150, 1, none⟩ (.int .i64 ((rd_T80 x8_2 x12_2).f1))).setCell ⟨gb151, 0, none⟩ (.slice A149_0 ((rd_T80 x8_2 (Go.bits .andNot .i64 x9_1 x12_2)).f0).length c149_0)).setCell ⟨gb151, 1, none⟩ (.int .i64 ((rd_T80 x8_2 (Go.bits .andNot .i64 x9_1 x12_2)).f1))).heap[gb150]? = some (.cells #[.slice A148_0 ((rd_T80 x8_2 x12_2).f0).length c148_0, .int .i64 ((rd_T80 x8_2 x12_2).f1)] 80 (0, 0))) := ⟨by (with_reducible repeat (first | refine blk_drewN ?_ _ | refine blk_drew ?_ | refine blk_alloc ?_ _)); refine blk_far ?_ NB150_151.out _; (with_reducible repeat (first | refine blk_drewN ?_ _ | refine blk_drew ?_ | refine blk_alloc ?_ _)); refine blk_far ?_ NB150_151.out _; (with_reducible repeat (first | refine blk_drewN ?_ _ | refine blk_drew ?_ | refine blk_alloc ?_ _)); refine blk_put (cs := #[.slice A148_0 ((rd_T80 x8_2 x12_2).f0).length c148_0, .int .i64 0]) ?_ 1 _ rfl; (with_reducible repeat (first | refine blk_drewN ?_ _ | refine blk_drew ?_ | refine blk_alloc ?_ _)); refine blk_put (cs := #[.slice none 0 0, .int .i64 0]) ?_ 0 _ rfl; (with_reducible repeat (first | refine blk_drewN ?_ _ | refine blk_drew ?_ | refine blk_alloc ?_ _)); exact BK150.out⟩
  have n4_ : Aside0 (((((w80.setCell ⟨gb150, 0, none⟩ (.slice A148_0 ((rd_T80 x8_2 x12_2).f0).length c148_0)).setCell ⟨gb150, 1, none⟩ (.int .i64 ((rd_T80 x8_2 x12_2).f1))).setCell ⟨gb151, 0, none⟩ (.slice A149_0 ((rd_T80 x8_2 (Go.bits .andNot .i64 x9_1 x12_2)).f0).length c149_0)).setCell ⟨gb151, 1, none⟩ (.int .i64 ((rd_T80 x8_2 (Go.bits .andNot .i64 x9_1 x12_2)).f1))).heap[gb151]? = some (.cells #[.slice A149_0 ((rd_T80 x8_2 (Go.bits .andNot .i64 x9_1 x12_2)).f0).length c149_0, .int .i64 ((rd_T80 x8_2 (Go.bits .andNot .i64 x9_1 x12_2)).f1)] 80 (0, 0))) := ⟨by (with_reducible repeat (first | refine blk_drewN ?_ _ | refine blk_drew ?_ | refine blk_alloc ?_ _)); refine blk_put (cs := #[.slice A149_0 ((rd_T80 x8_2 (Go.bits .andNot .i64 x9_1 x12_2)).f0).length c149_0, .int .i64 0]) ?_ 1 _ rfl; (with_reducible repeat (first | refine blk_drewN ?_ _ | refine blk_drew ?_ | refine blk_alloc ?_ _)); refine blk_put (cs := #[.slice none 0 0, .int .i64 0]) ?_ 0 _ rfl; (with_reducible repeat (first | refine blk_drewN ?_ _ | refine blk_drew ?_ | refine blk_alloc ?_ _)); refine blk_far ?_ NB151_150.out _; (with_reducible repeat (first | refine blk_drewN ?_ _ | refine blk_drew ?_ | refine blk_alloc ?_ _)); refine blk_far ?_ NB151_150.out _; (with_reducible repeat (first | refine blk_drewN ?_ _ | refine blk_drew ?_ | refine blk_alloc ?_ _)); exact BK151.out⟩
  have n5_ : Aside0 (Below w.heap.size w ((((w80.setCell ⟨gb150, 0, none⟩ (.slice A148_0 ((rd_T80 x8_2 x12_2).f0).length c148_0)).setCell ⟨gb150, 1, none⟩ (.int .i64 ((rd_T80 x8_2 x12_2).f1))).setCell ⟨gb151, 0, none⟩ (.slice A149_0 ((rd_T80 x8_2 (Go.bits .andNot .i64 x9_1 x12_2)).f0).length c149_0)).setCell ⟨gb151, 1, none⟩ (.int .i64 ((rd_T80 x8_2 (Go.bits .andNot .i64 x9_1 x12_2)).f1)))) := ⟨s4q28⟩
  (try clear HO_8)
  (try clear HL148_0)
  (try clear HL149_0)
  (try clear BK150)
  (try clear BK151)
  (try clear HB)
  generalize ((((w80.setCell ⟨gb150, 0, none⟩ (.slice A148_0 ((rd_T80 x8_2 x12_2).f0).length c148_0)).setCell ⟨gb150, 1, none⟩ (.int .i64 ((rd_T80 x8_2 x12_2).f1))).setCell ⟨gb151, 0, none⟩ (.slice A149_0 ((rd_T80 x8_2 (Go.bits .andNot .i64 x9_1 x12_2)).f0).length c149_0)).setCell ⟨gb151, 1, none⟩ (.int .i64 ((rd_T80 x8_2 (Go.bits .andNot .i64 x9_1 x12_2)).f1))) = w85 at n0_ n1_ n2_ n3_ n4_ n5_ ⊢
  have HO_8 := n0_
  have HL148_0 := n1_
  have HL149_0 := n2_
  have BK150 := n3_
  have BK151 := n4_
  have HB := n5_
  clear n0_ n1_ n2_ n3_ n4_ n5_
  have hnb86 := NB150_151.out
  have hnc86 := NB151_150.out
  obtain ⟨hcz87_0, hcz87_1, hfz87_0, hfz87_1⟩ := cells2 BK150.out
  obtain ⟨hcz88_0, hcz88_1, hfz88_0, hfz88_1⟩ := cells2 BK151.out
  have p152 : 0 ≤ (x9_1 : Int) := of_decide_eq_true q3_
  have q152 : x9_1 < (x8_2.length : Int) := of_decide_eq_true q3_
  obtain ⟨ad152, A152_0, c152_0, e152, hx152_0, hx152_1, hl152_0, hi152_0⟩ := at_T80 (Kd.S_reads' HO_8.out).2.2 x9_1 p152 q152
  have hnl152_0 := at_T80_nil0 (Kd.S_reads' HO_8.out).2.2 x9_1 p152 q152 e152 hx152_0
  obtain rfl : ad148 = ad152 := (by injection e152)
  obtain ⟨ce152, hce152, hMe152, hcc152⟩ := Kd.S_get HO_8.out z80 x9_1 p152 s4q34
  obtain ⟨ve152_0, rfl, ge152_0⟩ := k80_openM hMe152
  have hv152_0 := hcc152 0 _ rfl
  rw [Nat.add_zero] at hv152_0
  replace hv152_0 := Option.some.inj (hv152_0.symm.trans hx152_0)
  rw [hv152_0] at ge152_0
  have HL152_0 := aM (show Kd.R (Kd.int .i64) 3 _ _ _ _ ((rd_T80 x8_2 x9_1).f0) from ge152_0)
  clear hv152_0 ge152_0
  clear hcc152 hce152
  have HR152_0 := aM hi152_0
  have HC152_0 := aM hl152_0
  clear hi152_0 hl152_0
  replace p152 := eq_true p152
  replace q152 := eq_true q152
  have p157 : 0 ≤ (x9_1 : Int) := of_decide_eq_true q3_
  have q157 : x9_1 < (x8_2.length : Int) := of_decide_eq_true q3_
  obtain ⟨ad157, A157_0, c157_0, e157, hx157_0, hx157_1, hl157_0, hi157_0⟩ := at_T80 (Kd.S_reads' HO_8.out).2.2 x9_1 p157 q157
  have hnl157_0 := at_T80_nil0 (Kd.S_reads' HO_8.out).2.2 x9_1 p157 q157 e157 hx157_0
  obtain rfl : ad148 = ad157 := (by injection e157)
  obtain ⟨ce157, hce157, hMe157, hcc157⟩ := Kd.S_get HO_8.out z80 x9_1 p157 s4q35
  obtain ⟨ve157_0, rfl, ge157_0⟩ := k80_openM hMe157
  have hv157_0 := hcc157 0 _ rfl
  rw [Nat.add_zero] at hv157_0
  replace hv157_0 := Option.some.inj (hv157_0.symm.trans hx157_0)
  rw [hv157_0] at ge157_0
  have HL157_0 := aM (show Kd.R (Kd.int .i64) 3 _ _ _ _ ((rd_T80 x8_2 x9_1).f0) from ge157_0)
  clear hv157_0 ge157_0
  clear hcc157 hce157
  have HR157_0 := aM hi157_0
  have HC157_0 := aM hl157_0
  clear hi157_0 hl157_0
  replace p157 := eq_true p157
  replace q157 := eq_true q157
  have ea_ := Option.some.inj (hx152_0.symm.trans hx157_0)
  injection ea_ with ea_ en_ ec_
  subst ea_
  subst ec_
  clear en_
  try go_wp2
  (try simp only [← hl8_2])
  first | go_roundg kj26 | (refine Handed.intro kj26 ?measure ?_; rotate_left; go_step; (repeat apply Exists.intro); simp only [add_plain]; refine ⟨?rel, rfl⟩)
  case measure => have := HK1.out; have := HK2.out; have := HJ26.out; omega
  case rel => exact ⟨(x8_2), (wrap64 (x12_2 + 1)), q4_, H', ⟨by have := HK1.out; have := HK2.out; have := HJ26.out; omega⟩, ⟨by (try simp only [hl8_2]); (with_reducible repeat (first | apply Kd.S_alloc | apply Kd.S_drewN | apply Kd.S_drew)); exact Kd.S_mono HO_8.out (fun _ hk => trivial)⟩, ⟨s4q28⟩⟩
 rw [if_pos c57] at H
 have c57b0 : decide ((ji34) < ((rd_T80 x8_2 x9_1).f1)) = true := decide_eq_true c57
 clear c57
 replace H := Option.bind_eq_some_iff.mp H
 obtain ⟨t158, A580, H⟩ := H
 replace H : (if (t158.length : Int) = 0 then (none) else (cost_Best.l1 kj26 l0 l1 (x8_2.set (x9_1 : Int).toNat (⟨t158, ji34⟩ : S80)) x9_1 t147 (Go.bits .and .i64 x9_1 (wrap64 (-x9_1))) (wrap64 (x12_2 + 1)))) = some (r1, r2, r3) := H
 have A58 := aM A580
 clear A580
 by_cases c60 : (t158.length : Int) = 0
 · rw [if_pos c60] at H
   exact absurd H (by simp)
 rw [if_neg c60] at H
 have c60b0 : ((t158.length : Int) == 0) = false := beq_eq_false_iff_ne.mpr c60
 have c60b1 : ((t158.length : Int) != 0) = true := bne_iff_ne.mpr c60
 have c60b2 : ¬ (t158 = []) := fun h_ => c60 (by rw [h_]; rfl)
 obtain ⟨y161, hy161⟩ : ∃ y_ : List (S80), y_ = (x8_2.set (x9_1 : Int).toNat (⟨t158, ji34⟩ : S80)) := ⟨_, rfl⟩
 replace H : (cost_Best.l1 kj26 l0 l1 y161 x9_1 t147 (Go.bits .and .i64 x9_1 (wrap64 (-x9_1))) (wrap64 (x12_2 + 1))) = some (r1, r2, r3) := sqz hy161 H
 have Ny161 := aM hy161
 clear hy161
 have H' := aM H
 clear H
 try go_wp2
 have n0_ := aM (Kd.S_drew HO_8.out)
 have n1_ := aM (below_drew1 HB.out)
 clear HO_8
 clear HB
 have HO_8 := n0_
 have HB := n1_
 clear n0_ n1_
 have p148 : 0 ≤ (x12_2 : Int) := of_decide_eq_true q3_
 have q148 : x12_2 < (x8_2.length : Int) := of_decide_eq_true q3_
 obtain ⟨ad148, A148_0, c148_0, e148, hx148_0, hx148_1, hl148_0, hi148_0⟩ := at_T80 (Kd.S_reads' HO_8.out).2.2 x12_2 p148 q148
 have hnl148_0 := at_T80_nil0 (Kd.S_reads' HO_8.out).2.2 x12_2 p148 q148 e148 hx148_0
 cases e148
 obtain ⟨ce148, hce148, hMe148, hcc148⟩ := Kd.S_get HO_8.out z80 x12_2 p148 s4q32
 obtain ⟨ve148_0, rfl, ge148_0⟩ := k80_openM hMe148
 have hv148_0 := hcc148 0 _ rfl
 rw [Nat.add_zero] at hv148_0
 replace hv148_0 := Option.some.inj (hv148_0.symm.trans hx148_0)
 rw [hv148_0] at ge148_0
 have HL148_0 := aM (show Kd.R (Kd.int .i64) 3 _ _ _ _ ((rd_T80 x8_2 x12_2).f0) from ge148_0)
 clear hv148_0 ge148_0
 clear hcc148 hce148
 have HR148_0 := aM hi148_0
 have HC148_0 := aM hl148_0
 clear hi148_0 hl148_0
 replace p148 := eq_true p148
 replace q148 := eq_true q148
 have p149 : 0 ≤ ((Go.bits .andNot .i64 x9_1 x12_2) : Int) := of_decide_eq_true q3_
 have q149 : (Go.bits .andNot .i64 x9_1 x12_2) < (x8_2.length : Int) := of_decide_eq_true q3_
 obtain ⟨ad149, A149_0, c149_0, e149, hx149_0, hx149_1, hl149_0, hi149_0⟩ := at_T80 (Kd.S_reads' HO_8.out).2.2 (Go.bits .andNot .i64 x9_1 x12_2) p149 q149
 have hnl149_0 := at_T80_nil0 (Kd.S_reads' HO_8.out).2.2 (Go.bits .andNot .i64 x9_1 x12_2) p149 q149 e149 hx149_0
 obtain rfl : ad148 = ad149 := (by injection e149)
 obtain ⟨ce149, hce149, hMe149, hcc149⟩ := Kd.S_get HO_8.out z80 (Go.bits .andNot .i64 x9_1 x12_2) p149 s4q33
 obtain ⟨ve149_0, rfl, ge149_0⟩ := k80_openM hMe149
 have hv149_0 := hcc149 0 _ rfl
 rw [Nat.add_zero] at hv149_0
 replace hv149_0 := Option.some.inj (hv149_0.symm.trans hx149_0)
 rw [hv149_0] at ge149_0
 have HL149_0 := aM (show Kd.R (Kd.int .i64) 3 _ _ _ _ ((rd_T80 x8_2 (Go.bits .andNot .i64 x9_1 x12_2)).f0) from ge149_0)
 clear hv149_0 ge149_0
 clear hcc149 hce149
 have HR149_0 := aM hi149_0
 have HC149_0 := aM hl149_0
 clear hi149_0 hl149_0
 replace p149 := eq_true p149
 replace q149 := eq_true q149
 refine start_ (n := 14) (S := fun w' => w'.cell? (ad148.add ((x12_2).toNat * 2)) = some (.slice A148_0 ((rd_T80 x8_2 x12_2).f0).length c148_0) ∧ w'.cell? ⟨(ad148.add ((x12_2).toNat * 2)).block, (ad148.add ((x12_2).toNat * 2)).off + 1, none⟩ = some (.int .i64 ((rd_T80 x8_2 x12_2).f1)) ∧ w'.cell? (ad148.add (((Go.bits .andNot .i64 x9_1 x12_2)).toNat * 2)) = some (.slice A149_0 ((rd_T80 x8_2 (Go.bits .andNot .i64 x9_1 x12_2)).f0).length c149_0) ∧ w'.cell? ⟨(ad148.add (((Go.bits .andNot .i64 x9_1 x12_2)).toNat * 2)).block, (ad148.add (((Go.bits .andNot .i64 x9_1 x12_2)).toNat * 2)).off + 1, none⟩ = some (.int .i64 ((rd_T80 x8_2 (Go.bits .andNot .i64 x9_1 x12_2)).f1))) (ds := []) #[fF, fF, fF, fF, fF, fF, fF, fF, fF, fF, fF, fF, fF, fF] q5_ rfl rfl ⟨hx148_0, hx148_1, hx149_0, hx149_1⟩ (fun hHeld => ?_); refine with_tabW cost_Best.tab16 cost_Best.bits16 (fun HT_ HW_ => ?_)
 generalize wc.drew = w61 at HO_8 HB HL148_0 HL149_0 HR148_0 HR149_0 hx148_0 hx148_1 hx149_0 hx149_1 hHeld ⊢
 refine pure_ (i := 0) (N := some 69) (v := ?_) (a' := ?_) #[tT, fF, fF, fF, fF, fF, fF, fF, fF, fF, fF, fF, fF, fF] rfl rfl (any_of HT_.out q5_) (fun _ _ _ h => h) (Or.inl ⟨by rfl, ?_⟩) ?_ ?_
 rotate_left
 · intro w'
   go_simp
   with_reducible rfl
 rotate_left
 · simp only [Act.put, sqa, sqb, sqc, i64_w, i32_w]
   rfl
 refine pure_ (i := 1) (N := some 70) (v := ?_) (a' := ?_) #[tT, tT, fF, fF, fF, fF, fF, fF, fF, fF, fF, fF, fF, fF] rfl rfl (any_of HT_.out q5_) (fun _ _ _ h => h) (Or.inl ⟨by rfl, ?_⟩) ?_ ?_
 rotate_left
 · intro w'
   go_simp
   with_reducible rfl
 rotate_left
 · simp only [Act.put, sqa, sqb, sqc, i64_w, i32_w]
   rfl
 refine pure_ (i := 2) (N := some 71) (v := ?_) (a' := ?_) #[tT, tT, tT, fF, fF, fF, fF, fF, fF, fF, fF, fF, fF, fF] rfl rfl (any_of HT_.out q5_) (fun _ _ _ h => h) (Or.inl ⟨by rfl, ?_⟩) ?_ ?_
 rotate_left
 · intro w'
   go_simp
   with_reducible rfl
 rotate_left
 · simp only [Act.put, sqa, sqb, sqc, i64_w, i32_w]
   rfl
 refine pure_ (i := 4) (N := some 73) (v := ?_) (a' := ?_) #[tT, tT, tT, fF, tT, fF, fF, fF, fF, fF, fF, fF, fF, fF] rfl rfl (any_of HT_.out q5_) (fun _ _ _ h => h) (Or.inl ⟨by rfl, ?_⟩) ?_ ?_
 rotate_left
 · intro w'
   go_simp
   with_reducible rfl
 rotate_left
 · simp only [Act.put, sqa, sqb, sqc, i64_w, i32_w]
   rfl
 refine pure_ (i := 5) (N := some 74) (v := ?_) (a' := ?_) #[tT, tT, tT, fF, tT, tT, fF, fF, fF, fF, fF, fF, fF, fF] rfl rfl (any_of HT_.out q5_) (fun _ _ _ h => h) (Or.inl ⟨by rfl, ?_⟩) ?_ ?_
 rotate_left
 · intro w'
   go_simp
   with_reducible rfl
 rotate_left
 · simp only [Act.put, sqa, sqb, sqc, i64_w, i32_w]
   rfl
 refine pure_ (i := 6) (N := some 75) (v := ?_) (a' := ?_) #[tT, tT, tT, fF, tT, tT, tT, fF, fF, fF, fF, fF, fF, fF] rfl rfl (any_of HT_.out q5_) (fun _ _ _ h => h) (Or.inl ⟨by rfl, ?_⟩) ?_ ?_
 rotate_left
 · intro w'
   go_simp
   with_reducible rfl
 rotate_left
 · simp only [Act.put, sqa, sqb, sqc, i64_w, i32_w]
   rfl
 refine pure_ (i := 7) (N := some 76) (v := ?_) (a' := ?_) #[tT, tT, tT, fF, tT, tT, tT, tT, fF, fF, fF, fF, fF, fF] rfl rfl (any_of HT_.out q5_) (fun _ _ _ h => h) (Or.inl ⟨by rfl, ?_⟩) ?_ ?_
 rotate_left
 · intro w'
   go_simp
   with_reducible rfl
 rotate_left
 · simp only [Act.put, sqa, sqb, sqc, i64_w, i32_w]
   rfl
 refine pure_ (i := 8) (N := some 77) (v := ?_) (a' := ?_) #[tT, tT, tT, fF, tT, tT, tT, tT, tT, fF, fF, fF, fF, fF] rfl rfl (any_of HT_.out q5_) (fun _ _ _ h => h) (Or.inl ⟨by rfl, ?_⟩) ?_ ?_
 rotate_left
 · intro w'
   go_simp
   with_reducible rfl
 rotate_left
 · simp only [Act.put, sqa, sqb, sqc, i64_w, i32_w]
   rfl
 refine take_ (i := 3) (N := some 72) (v := ?_) (a' := ?_) #[tT, tT, tT, tT, tT, tT, tT, tT, tT, fF, fF, fF, fF, fF] rfl rfl (take_ofW HT_.out HW_.out q5_) (fun _ _ _ h => h) (Or.inl ⟨by rfl, ?_⟩) hHeld ?_ ?_
 rotate_left
 · rintro w' ⟨s0, s1, s2, s3⟩
   go_simp
   with_reducible rfl
 rotate_left
 · simp only [Act.put, sqa, sqb, sqc, i64_w, i32_w]
   rfl
 refine take_ (i := 9) (N := some 78) (v := ?_) (a' := ?_) #[tT, tT, tT, tT, tT, tT, tT, tT, tT, tT, fF, fF, fF, fF] rfl rfl (take_ofW HT_.out HW_.out q5_) (fun _ _ _ h => h) (Or.inl ⟨by rfl, ?_⟩) hHeld ?_ ?_
 rotate_left
 · rintro w' ⟨s0, s1, s2, s3⟩
   go_simp
   with_reducible rfl
 rotate_left
 · simp only [Act.put, sqa, sqb, sqc, i64_w, i32_w]
   rfl
 refine join_ (σ := Nat × Nat) 2 #[tT, tT, tT, tT, tT, tT, tT, tT, tT, tT, tT, tT, fF, fF] (fun s_ => [(13, .pointer (some ⟨s_.1, 0, none⟩)), (14, .pointer (some ⟨s_.2, 0, none⟩))]) (fun s_ w' => (w'.cell? (ad148.add ((x12_2).toNat * 2)) = some (.slice A148_0 ((rd_T80 x8_2 x12_2).f0).length c148_0) ∧ w'.cell? ⟨(ad148.add ((x12_2).toNat * 2)).block, (ad148.add ((x12_2).toNat * 2)).off + 1, none⟩ = some (.int .i64 ((rd_T80 x8_2 x12_2).f1)) ∧ w'.cell? (ad148.add (((Go.bits .andNot .i64 x9_1 x12_2)).toNat * 2)) = some (.slice A149_0 ((rd_T80 x8_2 (Go.bits .andNot .i64 x9_1 x12_2)).f0).length c149_0) ∧ w'.cell? ⟨(ad148.add (((Go.bits .andNot .i64 x9_1 x12_2)).toNat * 2)).block, (ad148.add (((Go.bits .andNot .i64 x9_1 x12_2)).toNat * 2)).off + 1, none⟩ = some (.int .i64 ((rd_T80 x8_2 (Go.bits .andNot .i64 x9_1 x12_2)).f1))) ∧ (Kd.R (Kd.int .i64) 3 w' w.heap.size (fun k_ => some k_ ≠ (.slice (some ad148) x8_2.length co24 : Value).ownBlock) (.slice A148_0 ((rd_T80 x8_2 x12_2).f0).length c148_0) ((rd_T80 x8_2 x12_2).f0)) ∧ (Kd.R (Kd.int .i64) 3 w' w.heap.size (fun k_ => some k_ ≠ (.slice (some ad148) x8_2.length co24 : Value).ownBlock) (.slice A149_0 ((rd_T80 x8_2 (Go.bits .andNot .i64 x9_1 x12_2)).f0).length c149_0) ((rd_T80 x8_2 (Go.bits .andNot .i64 x9_1 x12_2)).f0)) ∧ (Kd.S k80 80 w' w.heap.size (fun k_ => k_ ≠ s_.1 ∧ k_ ≠ s_.2) (.slice (some ad148) x8_2.length co24) x8_2) ∧ (w'.heap[s_.1]? = some (.cells #[.slice none 0 0, .int .i64 0] 80 (0, 0))) ∧ (w'.heap[s_.2]? = some (.cells #[.slice none 0 0, .int .i64 0] 80 (0, 0))) ∧ (w.heap.size ≤ s_.1) ∧ (w.heap.size ≤ s_.1) ∧ (s_.2 ≠ s_.1) ∧ (s_.1 ≠ s_.2) ∧ (w.heap.size ≤ s_.2) ∧ (w.heap.size ≤ s_.2) ∧ (Below w.heap.size w w')) ?_ ?_
 rotate_left
 · intro hCont
   refine two_ (i := 10) (j := 11) (Ni := some 13) (Nj := some 14) #[tT, tT, tT, tT, tT, tT, tT, tT, tT, tT, tT, fF, fF, fF] #[tT, tT, tT, tT, tT, tT, tT, tT, tT, tT, fF, tT, fF, fF] rfl rfl rfl rfl (two_of HT_.out q5_) s4q0 s4q0 (fun K hK => ?_) (fun K hK => ?_)
   · skip
     refine box_step ?hg (N := 13) ?hd (cs := #[.slice none 0 0, .int .i64 0]) (t := 80) ?hr ?_; (case hd => rfl); (case hg => rfl); (case hr => first | (go_simp; done) | (go_simp; rfl))
     intro gb150 hg w62 hbox hb
     have HS0_ := pw_cell_below hb hHeld.1
     have HS1_ := pw_cell_below hb hHeld.2.1
     have HS2_ := pw_cell_below hb hHeld.2.2.1
     have HS3_ := pw_cell_below hb hHeld.2.2.2
     have n0_ := aM (Kd.S_below (Kd.S_elderB s4q6 gb150 (Nat.le_of_eq hg.symm)) hb)
     have n1_ := aM (Kd.R_below s4q7 hb)
     have n2_ := aM (Kd.R_below s4q8 hb)
     have n3_ := aM (Kd.C_below s4q25 hb)
     have n4_ := aM (Kd.C_below s4q26 hb)
     have n5_ := aM (below_step q1_ hb)
     have n6_ := aM hbox
     have n7_ := aM (s4q38 : w.heap.size ≤ gb150)
     have n8_ := aM (s4q38 : w.heap.size ≤ gb150)
     clear HO_8
     clear HL148_0
     clear HL149_0
     clear HR148_0
     clear HR149_0
     clear HB
     have HO_8 := n0_
     have HL148_0 := n1_
     have HL149_0 := n2_
     have HR148_0 := n3_
     have HR149_0 := n4_
     have HB := n5_
     have BK150 := n6_
     have GW150 := n7_
     have GE150 := n8_
     clear n0_ n1_ n2_ n3_ n4_ n5_ n6_ n7_ n8_
     clear hb hbox hg
     refine hK.out _ _ ⟨HS0_, HS1_, HS2_, HS3_⟩ (fun hHeld => ?_)
     clear hK K
     refine norm_ (a' := ?_) ?_ ?_
     rotate_left
     · show Act.put _ (some 13) _ = _
       simp only [Act.put, sqa, sqb, sqc, i64_w, i32_w]
       rfl
     refine one_ (i := 11) (N := some 14) #[tT, tT, tT, tT, tT, tT, tT, tT, tT, tT, tT, tT, fF, fF] rfl rfl (one_of HT_.out q5_) s4q0 (fun K hK => ?_)
     refine box_step ?hg (N := 14) ?hd (cs := #[.slice none 0 0, .int .i64 0]) (t := 80) ?hr ?_; (case hd => rfl); (case hg => rfl); (case hr => first | (go_simp; done) | (go_simp; rfl))
     intro gb151 hg w63 hbox hb
     have HS0_ := pw_cell_below hb hHeld.1
     have HS1_ := pw_cell_below hb hHeld.2.1
     have HS2_ := pw_cell_below hb hHeld.2.2.1
     have HS3_ := pw_cell_below hb hHeld.2.2.2
     have n0_ := aM (Kd.S_below (Kd.S_elderB s4q6 gb151 (Nat.le_of_eq hg.symm)) hb)
     have n1_ := aM (Kd.R_below s4q7 hb)
     have n2_ := aM (Kd.R_below s4q8 hb)
     have n3_ := aM (Kd.C_below s4q25 hb)
     have n4_ := aM (Kd.C_below s4q26 hb)
     have n5_ := aM (bbR BK150.out hb)
     have n6_ := aM (below_step s4q21 hb)
     have n7_ := aM hbox
     have n8_ := aM (s4q39 : w.heap.size ≤ gb151)
     have n9_ := aM (s4q39 : w.heap.size ≤ gb151)
     have n10_ := aM (s4q43 : gb150 ≠ gb151)
     have n11_ := aM (s4q41 : gb151 ≠ gb150)
     clear HO_8
     clear HL148_0
     clear HL149_0
     clear HR148_0
     clear HR149_0
     clear BK150
     clear HB
     have HO_8 := n0_
     have HL148_0 := n1_
     have HL149_0 := n2_
     have HR148_0 := n3_
     have HR149_0 := n4_
     have BK150 := n5_
     have HB := n6_
     have BK151 := n7_
     have GW151 := n8_
     have GE151 := n9_
     have NB150_151 := n10_
     have NB151_150 := n11_
     clear n0_ n1_ n2_ n3_ n4_ n5_ n6_ n7_ n8_ n9_ n10_ n11_
     clear hb hbox hg
     refine hK.out _ _ ⟨HS0_, HS1_, HS2_, HS3_⟩ (fun hHeld => ?_)
     clear hK K
     refine norm_ (a' := ?_) ?_ ?_
     rotate_left
     · show Act.put _ (some 14) _ = _
       simp only [Act.put, sqa, sqb, sqc, i64_w, i32_w]
       rfl
     exact norm_ s4q3 (hCont (gb150, gb151) _ ⟨hHeld, s4q14, s4q15, s4q17, (blkR BK150.out), (blkR BK151.out), GW150.out, GE150.out, NB151_150.out, NB150_151.out, GW151.out, GE151.out, s4q28⟩)
   skip
   refine box_step ?hg (N := 14) ?hd (cs := #[.slice none 0 0, .int .i64 0]) (t := 80) ?hr ?_; (case hd => rfl); (case hg => rfl); (case hr => first | (go_simp; done) | (go_simp; rfl))
   intro gb151 hg w62 hbox hb
   have HS0_ := pw_cell_below hb hHeld.1
   have HS1_ := pw_cell_below hb hHeld.2.1
   have HS2_ := pw_cell_below hb hHeld.2.2.1
   have HS3_ := pw_cell_below hb hHeld.2.2.2
   have n0_ := aM (Kd.S_below (Kd.S_elderB s4q6 gb151 (Nat.le_of_eq hg.symm)) hb)
   have n1_ := aM (Kd.R_below s4q7 hb)
   have n2_ := aM (Kd.R_below s4q8 hb)
   have n3_ := aM (Kd.C_below s4q25 hb)
   have n4_ := aM (Kd.C_below s4q26 hb)
   have n5_ := aM (below_step q1_ hb)
   have n6_ := aM hbox
   have n7_ := aM (s4q38 : w.heap.size ≤ gb151)
   have n8_ := aM (s4q38 : w.heap.size ≤ gb151)
   clear HO_8
   clear HL148_0
   clear HL149_0
   clear HR148_0
   clear HR149_0
   clear HB
   have HO_8 := n0_
   have HL148_0 := n1_
   have HL149_0 := n2_
   have HR148_0 := n3_
   have HR149_0 := n4_
   have HB := n5_
   have BK151 := n6_
   have GW151 := n7_
   have GE151 := n8_
   clear n0_ n1_ n2_ n3_ n4_ n5_ n6_ n7_ n8_
   clear hb hbox hg
   refine hK.out _ _ ⟨HS0_, HS1_, HS2_, HS3_⟩ (fun hHeld => ?_)
   clear hK K
   refine norm_ (a' := ?_) ?_ ?_
   rotate_left
   · show Act.put _ (some 14) _ = _
     simp only [Act.put, sqa, sqb, sqc, i64_w, i32_w]
     rfl
   refine one_ (i := 10) (N := some 13) #[tT, tT, tT, tT, tT, tT, tT, tT, tT, tT, tT, tT, fF, fF] rfl rfl (one_of HT_.out q5_) s4q0 (fun K hK => ?_)
   refine box_step ?hg (N := 13) ?hd (cs := #[.slice none 0 0, .int .i64 0]) (t := 80) ?hr ?_; (case hd => rfl); (case hg => rfl); (case hr => first | (go_simp; done) | (go_simp; rfl))
   intro gb150 hg w63 hbox hb
   have HS0_ := pw_cell_below hb hHeld.1
   have HS1_ := pw_cell_below hb hHeld.2.1
   have HS2_ := pw_cell_below hb hHeld.2.2.1
   have HS3_ := pw_cell_below hb hHeld.2.2.2
   have n0_ := aM (Kd.S_below (Kd.S_elderB s4q6 gb150 (Nat.le_of_eq hg.symm)) hb)
   have n1_ := aM (Kd.R_below s4q7 hb)
   have n2_ := aM (Kd.R_below s4q8 hb)
   have n3_ := aM (Kd.C_below s4q25 hb)
   have n4_ := aM (Kd.C_below s4q26 hb)
   have n5_ := aM (bbR BK151.out hb)
   have n6_ := aM (below_step s4q22 hb)
   have n7_ := aM hbox
   have n8_ := aM (s4q40 : w.heap.size ≤ gb150)
   have n9_ := aM (s4q40 : w.heap.size ≤ gb150)
   have n10_ := aM (s4q44 : gb151 ≠ gb150)
   have n11_ := aM (s4q42 : gb150 ≠ gb151)
   clear HO_8
   clear HL148_0
   clear HL149_0
   clear HR148_0
   clear HR149_0
   clear BK151
   clear HB
   have HO_8 := n0_
   have HL148_0 := n1_
   have HL149_0 := n2_
   have HR148_0 := n3_
   have HR149_0 := n4_
   have BK151 := n5_
   have HB := n6_
   have BK150 := n7_
   have GW150 := n8_
   have GE150 := n9_
   have NB151_150 := n10_
   have NB150_151 := n11_
   clear n0_ n1_ n2_ n3_ n4_ n5_ n6_ n7_ n8_ n9_ n10_ n11_
   clear hb hbox hg
   refine hK.out _ _ ⟨HS0_, HS1_, HS2_, HS3_⟩ (fun hHeld => ?_)
   clear hK K
   refine norm_ (a' := ?_) ?_ ?_
   rotate_left
   · show Act.put _ (some 13) _ = _
     simp only [Act.put, sqa, sqb, sqc, i64_w, i32_w]
     rfl
   exact norm_ s4q3 (hCont (gb150, gb151) _ ⟨hHeld, s4q14, s4q15, s4q18, (blkR BK150.out), (blkR BK151.out), GW150.out, GE150.out, NB151_150.out, NB150_151.out, GW151.out, GE151.out, s4q29⟩)
 rintro ⟨gb150, gb151⟩ w64 ⟨hS_, h0_, h1_, h2_, h3_, h4_, h5_, h6_, h7_, h8_, h9_, h10_, h11_⟩
 have n0_ : Aside0 (Kd.R (Kd.int .i64) 3 w64 w.heap.size (fun k_ => some k_ ≠ (.slice (some ad148) x8_2.length co24 : Value).ownBlock) (.slice A148_0 ((rd_T80 x8_2 x12_2).f0).length c148_0) ((rd_T80 x8_2 x12_2).f0)) := ⟨h0_⟩
 have n1_ : Aside0 (Kd.R (Kd.int .i64) 3 w64 w.heap.size (fun k_ => some k_ ≠ (.slice (some ad148) x8_2.length co24 : Value).ownBlock) (.slice A149_0 ((rd_T80 x8_2 (Go.bits .andNot .i64 x9_1 x12_2)).f0).length c149_0) ((rd_T80 x8_2 (Go.bits .andNot .i64 x9_1 x12_2)).f0)) := ⟨h1_⟩
 have n2_ : Aside0 (Kd.S k80 80 w64 w.heap.size (fun k_ => k_ ≠ gb150 ∧ k_ ≠ gb151) (.slice (some ad148) x8_2.length co24) x8_2) := ⟨h2_⟩
 have n3_ : Aside0 (w64.heap[gb150]? = some (.cells #[.slice none 0 0, .int .i64 0] 80 (0, 0))) := ⟨h3_⟩
 have n4_ : Aside0 (w64.heap[gb151]? = some (.cells #[.slice none 0 0, .int .i64 0] 80 (0, 0))) := ⟨h4_⟩
 have n5_ : Aside0 (w.heap.size ≤ gb150) := ⟨h5_⟩
 have n6_ : Aside0 (w.heap.size ≤ gb150) := ⟨h6_⟩
 have n7_ : Aside0 (gb151 ≠ gb150) := ⟨h7_⟩
 have n8_ : Aside0 (gb150 ≠ gb151) := ⟨h8_⟩
 have n9_ : Aside0 (w.heap.size ≤ gb151) := ⟨h9_⟩
 have n10_ : Aside0 (w.heap.size ≤ gb151) := ⟨h10_⟩
 have n11_ : Aside0 (Below w.heap.size w w64) := ⟨h11_⟩
 clear HO_8
 clear HB
 clear h0_ h1_ h2_ h3_ h4_ h5_ h6_ h7_ h8_ h9_ h10_ h11_
 have HL148_0 := n0_
 have HL149_0 := n1_
 have HO_8 := n2_
 have BK150 := n3_
 have BK151 := n4_
 have GW150 := n5_
 have GE150 := n6_
 have NB151_150 := n7_
 have NB150_151 := n8_
 have GW151 := n9_
 have GE151 := n10_
 have HB := n11_
 clear n0_ n1_ n2_ n3_ n4_ n5_ n6_ n7_ n8_ n9_ n10_ n11_
 have hHeld : w64.cell? (ad148.add ((x12_2).toNat * 2)) = some (.slice A148_0 ((rd_T80 x8_2 x12_2).f0).length c148_0) ∧ w64.cell? ⟨(ad148.add ((x12_2).toNat * 2)).block, (ad148.add ((x12_2).toNat * 2)).off + 1, none⟩ = some (.int .i64 ((rd_T80 x8_2 x12_2).f1)) ∧ w64.cell? (ad148.add (((Go.bits .andNot .i64 x9_1 x12_2)).toNat * 2)) = some (.slice A149_0 ((rd_T80 x8_2 (Go.bits .andNot .i64 x9_1 x12_2)).f0).length c149_0) ∧ w64.cell? ⟨(ad148.add (((Go.bits .andNot .i64 x9_1 x12_2)).toNat * 2)).block, (ad148.add (((Go.bits .andNot .i64 x9_1 x12_2)).toNat * 2)).off + 1, none⟩ = some (.int .i64 ((rd_T80 x8_2 (Go.bits .andNot .i64 x9_1 x12_2)).f1)) := hS_
 refine norm_ (a' := ?_) ?_ ?_
 rotate_left
 · simp only [putAll, Act.put, sqa, sqb, sqc]
   rfl
 refine one_ (i := 12) (N := none) #[tT, tT, tT, tT, tT, tT, tT, tT, tT, tT, tT, tT, tT, fF] rfl rfl (one_of HT_.out q5_) s4q0 (fun K hK => ?_)
 have hs65 : w64.cell? ⟨gb150, 0, none⟩ = some (.slice none 0 0) := (blk_cell BK150.out 0).trans rfl
 have hfs65 := blk_frozen BK150.out 0
 have hns65_1 := NB151_150.out
 have hms65_1 := NB150_151.out
 have hs66 : w64.cell? ⟨gb150, 1, none⟩ = some (.int .i64 0) := (blk_cell BK150.out 1).trans rfl
 have hfs66 := blk_frozen BK150.out 1
 have hns66_1 := NB151_150.out
 have hms66_1 := NB150_151.out
 refine skip_ (w1 := ?_) (by rfl) rfl ?_ ?_
 rotate_left
 · go_simp
   rfl
 refine hK.out _ _ ⟨((cell_far (p := ⟨gb150, _, none⟩) s4q30 _).trans (((cell_far (p := ⟨gb150, _, none⟩) s4q30 _).trans (hHeld.1)))), ((cell_far (p := ⟨gb150, _, none⟩) s4q30 _).trans (((cell_far (p := ⟨gb150, _, none⟩) s4q30 _).trans (hHeld.2.1)))), ((cell_far (p := ⟨gb150, _, none⟩) s4q30 _).trans (((cell_far (p := ⟨gb150, _, none⟩) s4q30 _).trans (hHeld.2.2.1)))), ((cell_far (p := ⟨gb150, _, none⟩) s4q30 _).trans (((cell_far (p := ⟨gb150, _, none⟩) s4q30 _).trans (hHeld.2.2.2))))⟩ (fun hHeld => ?_)
 clear hK K
 refine one_ (i := 13) (N := none) #[tT, tT, tT, tT, tT, tT, tT, tT, tT, tT, tT, tT, tT, tT] rfl rfl (one_of HT_.out q5_) s4q0 (fun K hK => ?_)
 have hs67 : w64.cell? ⟨gb151, 0, none⟩ = some (.slice none 0 0) := (blk_cell BK151.out 0).trans rfl
 have hfs67 := blk_frozen BK151.out 0
 have hns67_0 := NB150_151.out
 have hms67_0 := NB151_150.out
 have hs68 : w64.cell? ⟨gb151, 1, none⟩ = some (.int .i64 0) := (blk_cell BK151.out 1).trans rfl
 have hfs68 := blk_frozen BK151.out 1
 have hns68_0 := NB150_151.out
 have hms68_0 := NB151_150.out
 refine skip_ (w1 := ?_) (by rfl) rfl ?_ ?_
 rotate_left
 · go_simp
   rfl
 refine hK.out _ _ ⟨((cell_far (p := ⟨gb151, _, none⟩) s4q31 _).trans (((cell_far (p := ⟨gb151, _, none⟩) s4q31 _).trans (hHeld.1)))), ((cell_far (p := ⟨gb151, _, none⟩) s4q31 _).trans (((cell_far (p := ⟨gb151, _, none⟩) s4q31 _).trans (hHeld.2.1)))), ((cell_far (p := ⟨gb151, _, none⟩) s4q31 _).trans (((cell_far (p := ⟨gb151, _, none⟩) s4q31 _).trans (hHeld.2.2.1)))), ((cell_far (p := ⟨gb151, _, none⟩) s4q31 _).trans (((cell_far (p := ⟨gb151, _, none⟩) s4q31 _).trans (hHeld.2.2.2))))⟩ (fun hHeld => ?_)
 clear hK K
 refine done_ (done_of HT_.out q5_) ?_
 have n0_ : Aside0 (Kd.S k80 80 ((((w64.setCell ⟨gb150, 0, none⟩ (.slice A148_0 ((rd_T80 x8_2 x12_2).f0).length c148_0)).setCell ⟨gb150, 1, none⟩ (.int .i64 ((rd_T80 x8_2 x12_2).f1))).setCell ⟨gb151, 0, none⟩ (.slice A149_0 ((rd_T80 x8_2 (Go.bits .andNot .i64 x9_1 x12_2)).f0).length c149_0)).setCell ⟨gb151, 1, none⟩ (.int .i64 ((rd_T80 x8_2 (Go.bits .andNot .i64 x9_1 x12_2)).f1))) w.heap.size (fun k_ => k_ ≠ gb150 ∧ k_ ≠ gb151) (.slice (some ad148) x8_2.length co24) x8_2) := ⟨by (with_reducible repeat (first | apply Kd.S_alloc | apply Kd.S_drewN | apply Kd.S_drew)); exact Kd.S_mono (Kd.S_far (p := ⟨gb151, 1, none⟩) (Kd.S_far (p := ⟨gb151, 0, none⟩) (Kd.S_far (p := ⟨gb150, 1, none⟩) (Kd.S_far (p := ⟨gb150, 0, none⟩) (Kd.S_mono (Kd.S_mono HO_8.out (fun k_ hk => (⟨hk, hk.1⟩ : _ ∧ k_ ≠ gb150))) (fun k_ hk => (⟨hk, hk.1.2⟩ : _ ∧ k_ ≠ gb151))) (fun _ hk => hk.1.2) (.slice A148_0 ((rd_T80 x8_2 x12_2).f0).length c148_0)) (fun _ hk => hk.1.2) (.int .i64 ((rd_T80 x8_2 x12_2).f1))) (fun _ hk => hk.2) (.slice A149_0 ((rd_T80 x8_2 (Go.bits .andNot .i64 x9_1 x12_2)).f0).length c149_0)) (fun _ hk => hk.2) (.int .i64 ((rd_T80 x8_2 (Go.bits .andNot .i64 x9_1 x12_2)).f1))) (fun _ hk => ⟨hk.1.1.1, hk.1.1.2⟩)⟩
 have n1_ : Aside0 (Kd.R (Kd.int .i64) 3 ((((w64.setCell ⟨gb150, 0, none⟩ (.slice A148_0 ((rd_T80 x8_2 x12_2).f0).length c148_0)).setCell ⟨gb150, 1, none⟩ (.int .i64 ((rd_T80 x8_2 x12_2).f1))).setCell ⟨gb151, 0, none⟩ (.slice A149_0 ((rd_T80 x8_2 (Go.bits .andNot .i64 x9_1 x12_2)).f0).length c149_0)).setCell ⟨gb151, 1, none⟩ (.int .i64 ((rd_T80 x8_2 (Go.bits .andNot .i64 x9_1 x12_2)).f1))) w.heap.size (fun k_ => some k_ ≠ (.slice (some ad148) x8_2.length co24 : Value).ownBlock) (.slice A148_0 ((rd_T80 x8_2 x12_2).f0).length c148_0) ((rd_T80 x8_2 x12_2).f0)) := ⟨by (with_reducible repeat (first | apply Kd.R_alloc | apply Kd.R_drewN | apply Kd.R_drew)); exact Kd.R_mono (Kd.R_far (p := ⟨gb151, 1, none⟩) (Kd.R_far (p := ⟨gb151, 0, none⟩) (Kd.R_far (p := ⟨gb150, 1, none⟩) (Kd.R_far (p := ⟨gb150, 0, none⟩) (Kd.R_types (Kd.R_types HL148_0.out BK150.out s4q0) BK151.out s4q0) (fun _ hk => hk.1.2) (.slice A148_0 ((rd_T80 x8_2 x12_2).f0).length c148_0)) (fun _ hk => hk.1.2) (.int .i64 ((rd_T80 x8_2 x12_2).f1))) (fun _ hk => hk.2) (.slice A149_0 ((rd_T80 x8_2 (Go.bits .andNot .i64 x9_1 x12_2)).f0).length c149_0)) (fun _ hk => hk.2) (.int .i64 ((rd_T80 x8_2 (Go.bits .andNot .i64 x9_1 x12_2)).f1))) (fun _ hk => hk.1.1)⟩
 have n2_ : Aside0 (Kd.R (Kd.int .i64) 3 ((((w64.setCell ⟨gb150, 0, none⟩ (.slice A148_0 ((rd_T80 x8_2 x12_2).f0).length c148_0)).setCell ⟨gb150, 1, none⟩ (.int .i64 ((rd_T80 x8_2 x12_2).f1))).setCell ⟨gb151, 0, none⟩ (.slice A149_0 ((rd_T80 x8_2 (Go.bits .andNot .i64 x9_1 x12_2)).f0).length c149_0)).setCell ⟨gb151, 1, none⟩ (.int .i64 ((rd_T80 x8_2 (Go.bits .andNot .i64 x9_1 x12_2)).f1))) w.heap.size (fun k_ => some k_ ≠ (.slice (some ad148) x8_2.length co24 : Value).ownBlock) (.slice A149_0 ((rd_T80 x8_2 (Go.bits .andNot .i64 x9_1 x12_2)).f0).length c149_0) ((rd_T80 x8_2 (Go.bits .andNot .i64 x9_1 x12_2)).f0)) := ⟨by (with_reducible repeat (first | apply Kd.R_alloc | apply Kd.R_drewN | apply Kd.R_drew)); exact Kd.R_mono (Kd.R_far (p := ⟨gb151, 1, none⟩) (Kd.R_far (p := ⟨gb151, 0, none⟩) (Kd.R_far (p := ⟨gb150, 1, none⟩) (Kd.R_far (p := ⟨gb150, 0, none⟩) (Kd.R_types (Kd.R_types HL149_0.out BK150.out s4q0) BK151.out s4q0) (fun _ hk => hk.1.2) (.slice A148_0 ((rd_T80 x8_2 x12_2).f0).length c148_0)) (fun _ hk => hk.1.2) (.int .i64 ((rd_T80 x8_2 x12_2).f1))) (fun _ hk => hk.2) (.slice A149_0 ((rd_T80 x8_2 (Go.bits .andNot .i64 x9_1 x12_2)).f0).length c149_0)) (fun _ hk => hk.2) (.int .i64 ((rd_T80 x8_2 (Go.bits .andNot .i64 x9_1 x12_2)).f1))) (fun _ hk => hk.1.1)⟩
 have n3_ : Aside0 (((((w64.setCell ⟨gb150, 0, none⟩ (.slice A148_0 ((rd_T80 x8_2 x12_2).f0).length c148_0)).setCell ⟨gb150, 1, none⟩ (.int .i64 ((rd_T80 x8_2 x12_2).f1))).setCell ⟨gb151, 0, none⟩ (.slice A149_0 ((rd_T80 x8_2 (Go.bits .andNot .i64 x9_1 x12_2)).f0).length c149_0)).setCell ⟨gb151, 1, none⟩ (.int .i64 ((rd_T80 x8_2 (Go.bits .andNot .i64 x9_1 x12_2)).f1))).heap[gb150]? = some (.cells #[.slice A148_0 ((rd_T80 x8_2 x12_2).f0).length c148_0, .int .i64 ((rd_T80 x8_2 x12_2).f1)] 80 (0, 0))) := ⟨by (with_reducible repeat (first | refine blk_drewN ?_ _ | refine blk_drew ?_ | refine blk_alloc ?_ _)); refine blk_far ?_ NB150_151.out _; (with_reducible repeat (first | refine blk_drewN ?_ _ | refine blk_drew ?_ | refine blk_alloc ?_ _)); refine blk_far ?_ NB150_151.out _; (with_reducible repeat (first | refine blk_drewN ?_ _ | refine blk_drew ?_ | refine blk_alloc ?_ _)); refine blk_put (cs := #[.slice A148_0 ((rd_T80 x8_2 x12_2).f0).length c148_0, .int .i64 0]) ?_ 1 _ rfl; (with_reducible repeat (first | refine blk_drewN ?_ _ | refine blk_drew ?_ | refine blk_alloc ?_ _)); refine blk_put (cs := #[.slice none 0 0, .int .i64 0]) ?_ 0 _ rfl; (with_reducible repeat (first | refine blk_drewN ?_ _ | refine blk_drew ?_ | refine blk_alloc ?_ _)); exact BK150.out⟩
 have n4_ : Aside0 (((((w64.setCell ⟨gb150, 0, none⟩ (.slice A148_0 ((rd_T80 x8_2 x12_2).f0).length c148_0)).setCell ⟨gb150, 1, none⟩ (.int .i64 ((rd_T80 x8_2 x12_2).f1))).setCell ⟨gb151, 0, none⟩ (.slice A149_0 ((rd_T80 x8_2 (Go.bits .andNot .i64 x9_1 x12_2)).f0).length c149_0)).setCell ⟨gb151, 1, none⟩ (.int .i64 ((rd_T80 x8_2 (Go.bits .andNot .i64 x9_1 x12_2)).f1))).heap[gb151]? = some (.cells #[.slice A149_0 ((rd_T80 x8_2 (Go.bits .andNot .i64 x9_1 x12_2)).f0).length c149_0, .int .i64 ((rd_T80 x8_2 (Go.bits .andNot .i64 x9_1 x12_2)).f1)] 80 (0, 0))) := ⟨by (with_reducible repeat (first | refine blk_drewN ?_ _ | refine blk_drew ?_ | refine blk_alloc ?_ _)); refine blk_put (cs := #[.slice A149_0 ((rd_T80 x8_2 (Go.bits .andNot .i64 x9_1 x12_2)).f0).length c149_0, .int .i64 0]) ?_ 1 _ rfl; (with_reducible repeat (first | refine blk_drewN ?_ _ | refine blk_drew ?_ | refine blk_alloc ?_ _)); refine blk_put (cs := #[.slice none 0 0, .int .i64 0]) ?_ 0 _ rfl; (with_reducible repeat (first | refine blk_drewN ?_ _ | refine blk_drew ?_ | refine blk_alloc ?_ _)); refine blk_far ?_ NB151_150.out _; (with_reducible repeat (first | refine blk_drewN ?_ _ | refine blk_drew ?_ | refine blk_alloc ?_ _)); refine blk_far ?_ NB151_150.out _; (with_reducible repeat (first | refine blk_drewN ?_ _ | refine blk_drew ?_ | refine blk_alloc ?_ _)); exact BK151.out⟩
 have n5_ : Aside0 (Below w.heap.size w ((((w64.setCell ⟨gb150, 0, none⟩ (.slice A148_0 ((rd_T80 x8_2 x12_2).f0).length c148_0)).setCell ⟨gb150, 1, none⟩ (.int .i64 ((rd_T80 x8_2 x12_2).f1))).setCell ⟨gb151, 0, none⟩ (.slice A149_0 ((rd_T80 x8_2 (Go.bits .andNot .i64 x9_1 x12_2)).f0).length c149_0)).setCell ⟨gb151, 1, none⟩ (.int .i64 ((rd_T80 x8_2 (Go.bits .andNot .i64 x9_1 x12_2)).f1)))) := ⟨s4q28⟩
 (try clear HO_8)
 (try clear HL148_0)
 (try clear HL149_0)
 (try clear BK150)
 (try clear BK151)
 (try clear HB)
 generalize ((((w64.setCell ⟨gb150, 0, none⟩ (.slice A148_0 ((rd_T80 x8_2 x12_2).f0).length c148_0)).setCell ⟨gb150, 1, none⟩ (.int .i64 ((rd_T80 x8_2 x12_2).f1))).setCell ⟨gb151, 0, none⟩ (.slice A149_0 ((rd_T80 x8_2 (Go.bits .andNot .i64 x9_1 x12_2)).f0).length c149_0)).setCell ⟨gb151, 1, none⟩ (.int .i64 ((rd_T80 x8_2 (Go.bits .andNot .i64 x9_1 x12_2)).f1))) = w69 at n0_ n1_ n2_ n3_ n4_ n5_ ⊢
 have HO_8 := n0_
 have HL148_0 := n1_
 have HL149_0 := n2_
 have BK150 := n3_
 have BK151 := n4_
 have HB := n5_
 clear n0_ n1_ n2_ n3_ n4_ n5_
 have hnb70 := NB150_151.out
 have hnc70 := NB151_150.out
 obtain ⟨hcz71_0, hcz71_1, hfz71_0, hfz71_1⟩ := cells2 BK150.out
 obtain ⟨hcz72_0, hcz72_1, hfz72_0, hfz72_1⟩ := cells2 BK151.out
 have p152 : 0 ≤ (x9_1 : Int) := of_decide_eq_true q3_
 have q152 : x9_1 < (x8_2.length : Int) := of_decide_eq_true q3_
 obtain ⟨ad152, A152_0, c152_0, e152, hx152_0, hx152_1, hl152_0, hi152_0⟩ := at_T80 (Kd.S_reads' HO_8.out).2.2 x9_1 p152 q152
 have hnl152_0 := at_T80_nil0 (Kd.S_reads' HO_8.out).2.2 x9_1 p152 q152 e152 hx152_0
 obtain rfl : ad148 = ad152 := (by injection e152)
 obtain ⟨ce152, hce152, hMe152, hcc152⟩ := Kd.S_get HO_8.out z80 x9_1 p152 s4q34
 obtain ⟨ve152_0, rfl, ge152_0⟩ := k80_openM hMe152
 have hv152_0 := hcc152 0 _ rfl
 rw [Nat.add_zero] at hv152_0
 replace hv152_0 := Option.some.inj (hv152_0.symm.trans hx152_0)
 rw [hv152_0] at ge152_0
 have HL152_0 := aM (show Kd.R (Kd.int .i64) 3 _ _ _ _ ((rd_T80 x8_2 x9_1).f0) from ge152_0)
 clear hv152_0 ge152_0
 clear hcc152 hce152
 have HR152_0 := aM hi152_0
 have HC152_0 := aM hl152_0
 clear hi152_0 hl152_0
 replace p152 := eq_true p152
 replace q152 := eq_true q152
 have p157 : 0 ≤ (x9_1 : Int) := of_decide_eq_true q3_
 have q157 : x9_1 < (x8_2.length : Int) := of_decide_eq_true q3_
 obtain ⟨ad157, A157_0, c157_0, e157, hx157_0, hx157_1, hl157_0, hi157_0⟩ := at_T80 (Kd.S_reads' HO_8.out).2.2 x9_1 p157 q157
 have hnl157_0 := at_T80_nil0 (Kd.S_reads' HO_8.out).2.2 x9_1 p157 q157 e157 hx157_0
 obtain rfl : ad148 = ad157 := (by injection e157)
 obtain ⟨ce157, hce157, hMe157, hcc157⟩ := Kd.S_get HO_8.out z80 x9_1 p157 s4q35
 obtain ⟨ve157_0, rfl, ge157_0⟩ := k80_openM hMe157
 have hv157_0 := hcc157 0 _ rfl
 rw [Nat.add_zero] at hv157_0
 replace hv157_0 := Option.some.inj (hv157_0.symm.trans hx157_0)
 rw [hv157_0] at ge157_0
 have HL157_0 := aM (show Kd.R (Kd.int .i64) 3 _ _ _ _ ((rd_T80 x8_2 x9_1).f0) from ge157_0)
 clear hv157_0 ge157_0
 clear hcc157 hce157
 have HR157_0 := aM hi157_0
 have HC157_0 := aM hl157_0
 clear hi157_0 hl157_0
 replace p157 := eq_true p157
 replace q157 := eq_true q157
 have ea_ := Option.some.inj (hx152_0.symm.trans hx157_0)
 injection ea_ with ea_ en_ ec_
 subst ea_
 subst ec_
 clear en_
 try go_wp2_with (first | ((with_reducible refine gate_callee (f := 47) rfl ?_); refine goesL_ (some 108) rfl rfl Tryd.func47 q5_ rfl #[.slice A148_0 ((rd_T80 x8_2 x12_2).f0).length c148_0, .slice A149_0 ((rd_T80 x8_2 (Go.bits .andNot .i64 x9_1 x12_2)).f0).length c149_0] rfl q2_ ?_; (with_reducible refine (cost_joined.calls kj26 _ _ ((rd_T80 x8_2 x12_2).f0) _ _ ((rd_T80 x8_2 (Go.bits .andNot .i64 x9_1 x12_2)).f0) t158 _ ?side1 ?side2 ?side3 ?side4 A58.out).mono ?_); (case side1 => repeat (first | exact ((Kd.R_reads' s4q7).2.2) | (with_reducible refine Kd.C_alloc ?_ _) | (with_reducible refine Kd.C_drewN ?_ _) | (with_reducible refine Kd.C_drew ?_))); (case side2 => exact HC148_0.out); (case side3 => repeat (first | exact ((Kd.R_reads' s4q8).2.2) | (with_reducible refine Kd.C_alloc ?_ _) | (with_reducible refine Kd.C_drewN ?_ _) | (with_reducible refine Kd.C_drew ?_))); (case side4 => exact HC149_0.out); rintro e w73 ⟨v159, rfl, ho0, hb⟩; refine ⟨_, rfl, ?_⟩; have HO160 := aM (Kd.R_lower (Kd.R_new' (Kd.R_new' (Kd.R_new' (Kd.R_new' ho0 (Kd.R_lt s4q7)) (Kd.R_lt s4q8)) (Kd.R_lt s4q9)) (Kd.R_lt s4q10)) (below_size s4q28)); replace HO_8 := aM (Kd.S_elder' s4q6 (Kd.R_base ho0) hb); replace HL148_0 := aM (Kd.R_elder' s4q7 (Kd.R_base ho0) hb); replace HL149_0 := aM (Kd.R_elder' s4q8 (Kd.R_base ho0) hb); replace HL152_0 := aM (Kd.R_elder' s4q9 (Kd.R_base ho0) hb); replace HL157_0 := aM (Kd.R_elder' s4q10 (Kd.R_base ho0) hb); replace BK150 := aM (bbR BK150.out hb); replace BK151 := aM (bbR BK151.out hb); replace HR152_0 := aM (Kd.C_below s4q27 hb); replace HR157_0 := aM (Kd.C_below (by repeat (first | (with_reducible exact HR157_0.out) | (with_reducible refine Kd.C_alloc ?_ _) | (with_reducible refine Kd.C_drewN ?_ _) | (with_reducible refine Kd.C_drew ?_) | exact HR157_0.out)) hb); replace HB := aM (below_step s4q28 hb); (try clear hb); (try clear hb2); (try clear hk); (try clear hi); (try clear ho0); obtain ⟨Ao74, co74, eo74⟩ := Kd.R_slice HO160.out; subst eo74; have p59 : 0 ≤ (x9_1 : Int) := of_decide_eq_true q3_; have q59 : (x9_1 : Int) < ((x8_2.length : Int) : Int) := of_decide_eq_true q3_; obtain ⟨go59, co59, eo59, gb59, gl59, cl59, HG59⟩ := Kd.S_form HO_8.out (by first | exact Int.natCast_pos.1 (Int.lt_of_le_of_lt p59 q59) | omega); (first | cases eo59 | (injection eo59 with ea_ en_ ec_; (first | subst ea_ | (injection ea_ with ea_; subst ea_)); subst ec_; clear en_)); have GB59 := aM gb59; have GG59 := aM HG59; clear gb59 gl59 HG59; (first | simp only [add_plain] at hx148_0 | skip); (first | simp only [add_plain] at hx148_1 | skip); (first | simp only [add_plain] at hx149_0 | skip); (first | simp only [add_plain] at hx149_1 | skip); (first | simp only [add_plain] at hx152_0 | skip); (first | simp only [add_plain] at hx152_1 | skip); (first | simp only [add_plain] at hx157_0 | skip); (first | simp only [add_plain] at hx157_1 | skip); obtain ⟨_, ce59, hcl59, hM59, hcc59, hfr59, _, _⟩ := Kd.S_elem HO_8.out z80 (x9_1 : Int) p59 q59; obtain ⟨ve59_0, rfl, ge59_0⟩ := k80_openM hM59; have hx59_0 : w73.cell? ⟨go59, (x9_1 : Int).toNat * 2, none⟩ = some (ve59_0) := hcc59 0 _ rfl; have hx59_1 : w73.cell? ⟨go59, (x9_1 : Int).toNat * 2 + 1, none⟩ = some (.int .i64 ((rd_T80 x8_2 x9_1).f1)) := hcc59 1 _ rfl; have hf59_0 : w73.frozen? ⟨go59, (x9_1 : Int).toNat * 2, none⟩ = false := hfr59 0; have hf59_1 : w73.frozen? ⟨go59, (x9_1 : Int).toNat * 2 + 1, none⟩ = false := hfr59 1; clear hcl59 hcc59 hfr59 hM59; replace p59 := eq_true p59; replace q59 := eq_true q59; have n_ := aM (Kd.S_mono (ok' := (fun k_ => some k_ ≠ (.slice Ao74 t158.length co74 : Value).ownBlock ∧ k_ ≠ gb150 ∧ k_ ≠ gb151)) HO_8.out (fun k_ hk => ⟨hk.2, ⟨hk.1.1, hk.1.2⟩⟩)); clear HO_8; have HO_8 := n_; clear n_; have HX75 := aM (show Kd.S k80 80 w73 w.heap.size (fun k_ => ((fun k_ => k_ ≠ gb150 ∧ k_ ≠ gb151)) k_ ∧ ¬ ((fun k_ => some k_ = (.slice Ao74 t158.length co74 : Value).ownBlock)) k_) (.slice (some ⟨go59, 0, none⟩) x8_2.length co24) x8_2 from s4q23); obtain ⟨oki75, ce75, hcl75, hM75, hcc75, hfr75, hoki75, hH75⟩ := Kd.S_elem HX75.out z80 (x9_1 : Int) (of_decide_eq_true q3_) s4q37; obtain ⟨ve75_0, rfl, ge75_0⟩ := k80_openM hM75; have HP75 := Kd.S_seg hH75 (of_decide_eq_true q3_) s4q37 (seg := [.slice Ao74 t158.length co74, .int .i64 ji34]) (j := 0) (show 2 ≤ 2 from by decide) (x' := (⟨t158, ji34⟩ : S80)) (k80_mkM _ _ _ (⟨t158, ji34⟩ : S80) (Kd.R_mono (Kd.R_tight rfl (Kd.R_mono (ok' := fun k_ => ((fun k_ => k_ ≠ gb150 ∧ k_ ≠ gb151)) k_ ∧ k_ ≠ go59) (Kd.R_types (Kd.R_types (Kd.R_apart' (HO160.out) (Kd.S_typed HO_8.out) s4q0) BK150.out s4q0) BK151.out s4q0) (fun k_ hk => ⟨⟨hk.1.2, hk.2⟩, fun e_ => (hk.1.1.2) s4q2⟩))) (fun _ h_ => Or.inr (h_)))) (fun _ hk => hk) (fun k_ hk_ => ((Kd.R_mono (ok' := fun k_ => ((fun k_ => k_ ≠ gb150 ∧ k_ ≠ gb151)) k_ ∧ k_ ≠ go59) (Kd.R_types (Kd.R_types (Kd.R_apart' (HO160.out) (Kd.S_typed HO_8.out) s4q0) BK150.out s4q0) BK151.out s4q0) (fun k_ hk => ⟨⟨hk.1.2, hk.2⟩, fun e_ => (hk.1.1.2) s4q2⟩))).1 k_ hk_.symm); have hx75_0 := hcc75 0 _ rfl; (try simp only [show (k80).sz = 2 from rfl, Nat.mul_one, Nat.add_zero] at hx75_0); have hf75_0 := hfr75 0; (try simp only [show (k80).sz = 2 from rfl, Nat.mul_one, Nat.add_zero] at hf75_0); have hx75_1 := hcc75 1 _ rfl; (try simp only [show (k80).sz = 2 from rfl, Nat.mul_one, Nat.add_zero] at hx75_1); have hf75_1 := hfr75 1; (try simp only [show (k80).sz = 2 from rfl, Nat.mul_one, Nat.add_zero] at hf75_1); clear hcl75 hcc75 hfr75 hM75 hoki75 hH75) | ((with_reducible refine gate_store (t := 80) (p := 111) rfl ?_); refine store_event (t := 80) (p := 111) (v := ?vo_w76) (w1 := ((w73.setCell ⟨go59, (x9_1 : Int).toNat * 2, none⟩ (.slice Ao74 t158.length co74)).setCell ⟨go59, (x9_1 : Int).toNat * 2 + 1, none⟩ (.int .i64 ji34))) ?hg ?ho ?hn ?hr ?_; (case ho => rfl); (case hg => rfl); (case hn => rfl); (case hr => first | (go_simp; done) | (go_simp; rfl)); intro w76 hw; have hg : w73.grownBy w76 (some go59) := (by rw [hw]; exact HP75.2); have hp_ : Kd.S k80 80 w76 w.heap.size (fun k_ => k_ ≠ gb150 ∧ k_ ≠ gb151) (.slice (some ⟨go59, 0, none⟩) x8_2.length co24) y161 := (by rw [hw, Ny161.out]; exact HP75.1); clear HP75; have n0_ := aM hp_; have n1_ := aM (Kd.R_after (v := (.slice (some ⟨go59, 0, none⟩) x8_2.length co24)) (v1 := (.slice (some ⟨go59, 0, none⟩) x8_2.length co24)) (ok := (fun k_ => some k_ ≠ (.slice Ao74 t158.length co74 : Value).ownBlock)) s4q19 hg (.inl rfl)); have n2_ := aM (Kd.R_after (v := (.slice (some ⟨go59, 0, none⟩) x8_2.length co24)) (v1 := (.slice (some ⟨go59, 0, none⟩) x8_2.length co24)) (ok := (fun k_ => some k_ ≠ (.slice Ao74 t158.length co74 : Value).ownBlock)) s4q20 hg (.inl rfl)); have n3_ := aM (blk_grown (g := gb150) (o := .cells #[.slice A148_0 ((rd_T80 x8_2 x12_2).f0).length c148_0, .int .i64 ((rd_T80 x8_2 x12_2).f1)] 80 (0, 0)) (blkR BK150.out) hg (Kd.S_away HO_8.out (fun _ hk => hk.2.1))); have n4_ := aM (blk_grown (g := gb151) (o := .cells #[.slice A149_0 ((rd_T80 x8_2 (Go.bits .andNot .i64 x9_1 x12_2)).f0).length c149_0, .int .i64 ((rd_T80 x8_2 (Go.bits .andNot .i64 x9_1 x12_2)).f1)] 80 (0, 0)) (blkR BK151.out) hg (Kd.S_away HO_8.out (fun _ hk => hk.2.2))); have n5_ := aM (Kd.R_after (v := (.slice (some ⟨go59, 0, none⟩) x8_2.length co24)) (v1 := (.slice (some ⟨go59, 0, none⟩) x8_2.length co24)) (ok := (fun k_ => some k_ ≠ (.slice Ao74 t158.length co74 : Value).ownBlock ∧ k_ ≠ gb150 ∧ k_ ≠ gb151)) s4q24 hg (.inl rfl)); have n6_ := aM (Kd.R_after (v := (.slice (some ⟨go59, 0, none⟩) x8_2.length co24)) (v1 := (.slice (some ⟨go59, 0, none⟩) x8_2.length co24)) (ok := (fun k_ => some k_ ≠ (.slice Ao74 t158.length co74 : Value).ownBlock ∧ k_ ≠ gb150 ∧ k_ ≠ gb151)) (by (with_reducible repeat (first | apply Kd.R_alloc | apply Kd.R_drewN | apply Kd.R_drew)); exact Kd.R_mono HL157_0.out (fun _ hk => ⟨⟨hk.2, ⟨hk.1.1.1, hk.1.1.2⟩⟩, hk.1.2⟩)) hg (.inl rfl)); have n7_ := aM ((by rw [hw]; exact below_set (below_set (HB.out) GB59.out) GB59.out : Below w.heap.size w w76)); clear HO_8; clear HL148_0; clear HL149_0; clear BK150; clear BK151; clear HL152_0; clear HL157_0; clear HB; clear HO160; have HO_8 := n0_; have HL148_0 := n1_; have HL149_0 := n2_; have BK150 := n3_; have BK151 := n4_; have HL152_0 := n5_; have HL157_0 := n6_; have HB := n7_; clear n0_ n1_ n2_ n3_ n4_ n5_ n6_ n7_; clear hg hw hp_))
 (try simp only [← hl8_2])
 first | go_roundg kj26 | (refine Handed.intro kj26 ?measure ?_; rotate_left; go_step; (repeat apply Exists.intro); simp only [add_plain]; refine ⟨?rel, rfl⟩)
 case measure => have := HK1.out; have := HK2.out; have := HJ26.out; omega
 case rel => exact ⟨(y161), (wrap64 (x12_2 + 1)), q4_, H', ⟨by have := HK1.out; have := HK2.out; have := HJ26.out; omega⟩, ⟨by (try simp only [hl8_2]); (with_reducible repeat (first | apply Kd.S_alloc | apply Kd.S_drewN | apply Kd.S_drew)); exact Kd.S_mono HO_8.out (fun _ hk => trivial)⟩, ⟨s4q28⟩⟩
end Go.Proofs.YtgcijejmmhjibaaDoor.J
