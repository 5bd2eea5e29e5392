-- Printed by a program of this session (a patched print).
import Derived.Test.YtgcijejmmhjibaaDoorJx0
import Derived.Test.YtgcijejmmhjibaaDoorJx2
import Derived.Test.YtgcijejmmhjibaaDoorJx5
import Derived.Test.YtgcijejmmhjibaaDoorJx6
namespace Go.Proofs.YtgcijejmmhjibaaDoor.J
open Go.RowKit Go.Proofs.YtgcijejmmhjibaaDoorW.PrintWords Go.Proofs.YtgcijejmmhjibaaDoorW.PrintLast Go.Proofs.YtgcijejmmhjibaaDoorW.PrintMore
attribute [local go_sem] max2_int min2_int max_two min_two max_three min_three max_four min_four   -- for this text's walks alone
set_option linter.unusedVariables false
set_option linter.unusedSimpArgs false

theorem s7qm0 {p : Prop} (h : p := by repeat' first | (with_reducible exact ih0 _ _ _ _ _) | (with_reducible exact ih1 _ _ _ _ _ _ _ _ _ _ _ _ _ _ _) | (with_reducible exact ih2 _ _ _ _ _ _ _ _ _ _ _ _ _ _ _) | (with_reducible exact ih3 _ _ _ _ _ _ _ _ _ _ _ _ _ _ _) | (with_reducible exact kit_First.mono _ _) | (with_reducible exact value_CheckValue.mono _ _ _ _) | (with_reducible exact LeO.refl _) | (with_reducible exact LeO.none _) | (with_reducible refine LeO.ite ?_ ?_) | (with_reducible refine LeO.bind ?_ (fun _ => ?_)) | exact ih0 _ _ _ _ _ | exact ih1 _ _ _ _ _ _ _ _ _ _ _ _ _ _ _ | exact ih2 _ _ _ _ _ _ _ _ _ _ _ _ _ _ _ | exact ih3 _ _ _ _ _ _ _ _ _ _ _ _ _ _ _ | exact kit_First.mono _ _ | exact value_CheckValue.mono _ _ _ _ | exact LeO.none _ | refine LeO.ite ?_ ?_ | refine LeO.bind ?_ (fun _ => ?_)) : p := h
theorem s7q6 {p : Prop} (h : p := by repeat (first | (with_reducible first | exact HB.out | apply below_alloc | apply pw_below_drewN | apply below_drew1 | refine below_set ?_ GE199.out) | exact HB.out)) : p := h
theorem s7q7 {p : Prop} (h : p := by rw [hg]; exact (below_size q1_)) : p := h
/-! ### cost_checkBuckets: function 77 -/
mutual
def cost_checkBuckets.l0 : Nat → Int → List (S105) → List (S105) → Int → Int → Option (Int)
  | 0, _, _, _, _, _ => none
  | k + 1, x0, x1, x9, x10, x11 => if x11 < x10 then (if 0 ≤ x11 then (if x11 < (x9.length : Int) then ((value_CheckValue.f k ((rd_T105 x9 x11).f0.f0) ((rd_T105 x9 x11).f0.f1) ((rd_T105 x9 x11).f0.f2)).bind fun t200 => ((value_CheckValue.f k ((rd_T105 x9 x11).f1.f0) ((rd_T105 x9 x11).f1.f1) ((rd_T105 x9 x11).f1.f2)).bind fun t201 => ((kit_First.f k (([t200, t201] : List Int))).bind fun t205 => (if t205 = 0 then (if ((rd_T105 x9 x11).f0.f0) = x0 then (cost_checkBuckets.j1 k x0 x1 x11 x9 x10 x11 (((rd_T105 x9 x11).f1.f0) != x0) ((rd_T105 x9 x11).f0.f0) ((rd_T105 x9 x11).f0.f1) ((rd_T105 x9 x11).f0.f2) ((rd_T105 x9 x11).f1.f0) ((rd_T105 x9 x11).f1.f1) ((rd_T105 x9 x11).f1.f2) ((rd_T105 x9 x11).f2) ((rd_T105 x9 x11).f3)) else (cost_checkBuckets.j1 k x0 x1 x11 x9 x10 x11 true ((rd_T105 x9 x11).f0.f0) ((rd_T105 x9 x11).f0.f1) ((rd_T105 x9 x11).f0.f2) ((rd_T105 x9 x11).f1.f0) ((rd_T105 x9 x11).f1.f1) ((rd_T105 x9 x11).f1.f2) ((rd_T105 x9 x11).f2) ((rd_T105 x9 x11).f3))) else (some t205))))) else (none)) else (none)) else (some 0)
def cost_checkBuckets.j1 : Nat → Int → List (S105) → Int → List (S105) → Int → Int → Bool → Int → Int → ByteArray → Int → Int → ByteArray → Int → Int → Option (Int)
  | 0, _, _, _, _, _, _, _, _, _, _, _, _, _, _, _ => none
  | k + 1, x0, x1, x5, x9, x10, x11, x38, x200000, x200001, x200002, x200003, x200004, x200005, x200006, x200007 => if x38 = true then (some 10) else ((kit_In.f x200006 1 2000).bind fun t206 => (if t206 = true then ((kit_In.f x200007 1 x200006).bind fun t207 => (cost_checkBuckets.j2 k x0 x1 x5 x9 x10 x11 (!t207) x200000 x200001 x200002 x200003 x200004 x200005 x200006 x200007)) else (cost_checkBuckets.j2 k x0 x1 x5 x9 x10 x11 true x200000 x200001 x200002 x200003 x200004 x200005 x200006 x200007)))
def cost_checkBuckets.j2 : Nat → Int → List (S105) → Int → List (S105) → Int → Int → Bool → Int → Int → ByteArray → Int → Int → ByteArray → Int → Int → Option (Int)
  | 0, _, _, _, _, _, _, _, _, _, _, _, _, _, _, _ => none
  | k + 1, x0, x1, x5, x9, x10, x11, x50, x200000, x200001, x200002, x200003, x200004, x200005, x200006, x200007 => if x50 = true then (some 1) else ((kit_Compare.f x200000 x200001 x200002 x200003 x200004 x200005).bind fun t208 => (if t208 > 0 then (cost_checkBuckets.j3 k x0 x1 t208 x9 x10 x11 true x200000 x200001 x200002 x200003 x200004 x200005 x200006 x200007) else (if x5 > 0 then (if 0 ≤ (wrap64 (x5 - 1)) then (if (wrap64 (x5 - 1)) < (x1.length : Int) then ((kit_Compare.f ((rd_T105 x1 (wrap64 (x5 - 1))).f1.f0) ((rd_T105 x1 (wrap64 (x5 - 1))).f1.f1) ((rd_T105 x1 (wrap64 (x5 - 1))).f1.f2) x200000 x200001 x200002).bind fun t210 => (cost_checkBuckets.j3 k x0 x1 t208 x9 x10 x11 (decide (t210 ≥ 0)) x200000 x200001 x200002 x200003 x200004 x200005 x200006 x200007)) else (none)) else (none)) else (cost_checkBuckets.j3 k x0 x1 t208 x9 x10 x11 false x200000 x200001 x200002 x200003 x200004 x200005 x200006 x200007))))
def cost_checkBuckets.j3 : Nat → Int → List (S105) → Int → List (S105) → Int → Int → Bool → Int → Int → ByteArray → Int → Int → ByteArray → Int → Int → Option (Int)
  | 0, _, _, _, _, _, _, _, _, _, _, _, _, _, _, _ => none
  | k + 1, x0, x1, x8, x9, x10, x11, x73, x200000, x200001, x200002, x200003, x200004, x200005, x200006, x200007 => if x73 = true then (some 8) else (if ((x200007 == 1) != (x8 == 0)) = true then (some 3) else (cost_checkBuckets.l0 k x0 x1 x9 x10 (wrap64 (x11 + 1))))
end
def cost_checkBuckets.f (k : Nat) (a0 : Int) (l1 : List (S105)) : Option (Int) := cost_checkBuckets.l0 k a0 l1 l1 (l1.length : Int) 0
theorem cost_checkBuckets.mono_l : ∀ k, (∀ y0 y1 y2 y3 y4, LeO (cost_checkBuckets.l0 k y0 y1 y2 y3 y4) (cost_checkBuckets.l0 (k + 1) y0 y1 y2 y3 y4)) ∧ (∀ y0 y1 y2 y3 y4 y5 y6 y7 y8 y9 y10 y11 y12 y13 y14, LeO (cost_checkBuckets.j1 k y0 y1 y2 y3 y4 y5 y6 y7 y8 y9 y10 y11 y12 y13 y14) (cost_checkBuckets.j1 (k + 1) y0 y1 y2 y3 y4 y5 y6 y7 y8 y9 y10 y11 y12 y13 y14)) ∧ (∀ y0 y1 y2 y3 y4 y5 y6 y7 y8 y9 y10 y11 y12 y13 y14, LeO (cost_checkBuckets.j2 k y0 y1 y2 y3 y4 y5 y6 y7 y8 y9 y10 y11 y12 y13 y14) (cost_checkBuckets.j2 (k + 1) y0 y1 y2 y3 y4 y5 y6 y7 y8 y9 y10 y11 y12 y13 y14)) ∧ (∀ y0 y1 y2 y3 y4 y5 y6 y7 y8 y9 y10 y11 y12 y13 y14, LeO (cost_checkBuckets.j3 k y0 y1 y2 y3 y4 y5 y6 y7 y8 y9 y10 y11 y12 y13 y14) (cost_checkBuckets.j3 (k + 1) y0 y1 y2 y3 y4 y5 y6 y7 y8 y9 y10 y11 y12 y13 y14))
  | 0 => ⟨fun _ _ _ _ _ r h => by simp [cost_checkBuckets.l0] at h, fun _ _ _ _ _ _ _ _ _ _ _ _ _ _ _ r h => by simp [cost_checkBuckets.j1] at h, fun _ _ _ _ _ _ _ _ _ _ _ _ _ _ _ r h => by simp [cost_checkBuckets.j2] at h, fun _ _ _ _ _ _ _ _ _ _ _ _ _ _ _ r h => by simp [cost_checkBuckets.j3] at h⟩
  | k + 1 => by
    obtain ⟨ih0, ih1, ih2, ih3⟩ := cost_checkBuckets.mono_l k
    refine ⟨?_, ?_, ?_, ?_⟩
    · intro y0 y1 y2 y3 y4
      unfold cost_checkBuckets.l0
      exact s7qm0
    · intro y0 y1 y2 y3 y4 y5 y6 y7 y8 y9 y10 y11 y12 y13 y14
      unfold cost_checkBuckets.j1
      exact s7qm0
    · intro y0 y1 y2 y3 y4 y5 y6 y7 y8 y9 y10 y11 y12 y13 y14
      unfold cost_checkBuckets.j2
      exact s7qm0
    · intro y0 y1 y2 y3 y4 y5 y6 y7 y8 y9 y10 y11 y12 y13 y14
      unfold cost_checkBuckets.j3
      exact s7qm0
theorem cost_checkBuckets.mono : ∀ a0 a1 k, LeO (cost_checkBuckets.f k a0 a1) (cost_checkBuckets.f (k + 1) a0 a1) := by
 intro a0 a1 k
 obtain ⟨ih0, ih1, ih2, ih3⟩ := cost_checkBuckets.mono_l k
 unfold cost_checkBuckets.f
 repeat' first
  | (with_reducible exact ih0 _ _ _ _ _)
  | (with_reducible exact ih1 _ _ _ _ _ _ _ _ _ _ _ _ _ _ _)
  | (with_reducible exact ih2 _ _ _ _ _ _ _ _ _ _ _ _ _ _ _)
  | (with_reducible exact ih3 _ _ _ _ _ _ _ _ _ _ _ _ _ _ _)
  | (with_reducible exact kit_First.mono _ _)
  | (with_reducible exact value_CheckValue.mono _ _ _ _)
  | (with_reducible exact LeO.refl _)
  | (with_reducible exact LeO.none _)
  | (with_reducible refine LeO.ite ?_ ?_)
  | (with_reducible refine LeO.bind ?_ (fun _ => ?_))
  | exact ih0 _ _ _ _ _
  | exact ih1 _ _ _ _ _ _ _ _ _ _ _ _ _ _ _
  | exact ih2 _ _ _ _ _ _ _ _ _ _ _ _ _ _ _
  | exact ih3 _ _ _ _ _ _ _ _ _ _ _ _ _ _ _
  | exact kit_First.mono _ _
  | exact value_CheckValue.mono _ _ _ _
  | exact LeO.none _
  | refine LeO.ite ?_ ?_
  | refine LeO.bind ?_ (fun _ => ?_)
def cost_checkBuckets.T4 : Bool × List (List Nat × List Nat) := (true, [([], []), ([0], [0]), ([1], [1]), ([], []), ([3], [3]), ([4, 2], [4]), ([2, 5], [2, 5]), ([6, 5], [6]), ([7, 7, 0, 1, 2, 3, 4, 5, 6, 7], [7])])
def cost_checkBuckets.B4 : List Nat := [0, 1, 3, 0, 8, 31, 63, 127, 255]
theorem cost_checkBuckets.tab4 : rtab .any (opsOf Tryd.f77 4) = cost_checkBuckets.T4 := by kernel_rfl
theorem cost_checkBuckets.bits4 : waitsOk cost_checkBuckets.T4.2 cost_checkBuckets.B4 = true := by kernel_rfl
def cost_checkBuckets.T12 : Bool × List (List Nat × List Nat) := (true, [([], []), ([0], [0]), ([1], [1]), ([2], [2]), ([3, 2], [2, 3]), ([4, 2, 2], [2, 4]), ([5], [5]), ([5], [5]), ([7, 5], [5, 7]), ([6, 8, 5], [5, 6, 8]), ([9, 5], [5, 9]), ([10, 5], [5, 10]), ([5], [5]), ([12, 5], [5, 12]), ([11, 13, 5, 5], [5, 11, 13]), ([14, 5], [5, 14]), ([5, 15, 2], [2, 5, 15]), ([2, 16], [2, 16])])
def cost_checkBuckets.B12 : List Nat := [0, 1, 3, 7, 15, 31, 63, 63, 191, 511, 1023, 2047, 63, 4159, 16383, 32767, 65535, 131071]
theorem cost_checkBuckets.tab12 : rtab .any (opsOf Tryd.f77 12) = cost_checkBuckets.T12 := by kernel_rfl
theorem cost_checkBuckets.bits12 : waitsOk cost_checkBuckets.T12.2 cost_checkBuckets.B12 = true := by kernel_rfl
set_option maxHeartbeats 8000000 in
set_option maxRecDepth 100000 in
theorem cost_checkBuckets.calls (k : Nat) (a0 : Int) (A1 : Option Addr) (c1 : Nat) (l1 : List (S105)) (r : Int) (w : World) (hr1 : Kd.C k105 w A1 l1.length l1) (hc1 : l1.length ≤ c1) (h : cost_checkBuckets.f k a0 l1 = some r) :
    Calls Tryd.prog 77 #[.int .i64 a0, .slice A1 l1.length c1] w fun e w' => e = .returned (.int .i64 r) ∧ Below w.heap.size w w' := by
 have hu105 := Tryd.underlying105
 have hu48 := Tryd.underlying48
 have HR1 := aM hr1
 have HC1 := aM hc1
 clear hr1 hc1
 have HB := aM (Below.refl w.heap.size w)
 have H : (cost_checkBuckets.l0 k a0 l1 l1 (l1.length : Int) 0) = some r := h
 clear h
 have H' := aM H
 clear H
 go_enter Tryd.func77, Tryd.ntmps77
 go_wp2
 go_loopg [11] k (fun kq v11 w' => ∃ (x11_1 : Int), v11 = .int .i64 x11_1 ∧ Aside0 (cost_checkBuckets.l0 kq a0 l1 l1 (l1.length : Int) x11_1 = some r) ∧ Aside0 (kq ≤ k) ∧ Aside0 (Below w.heap.size w w'))
 case atStart => exact ⟨(0), q4_, H', ⟨Nat.le_refl _⟩, ⟨q1_⟩⟩
 clear H'
 try clear c1
 try clear p2
 obtain ⟨x11_1, rfl, HA, HK1, HB⟩ := hrel
 cases gk with
 | zero => exact absurd HA.out (by simp [cost_checkBuckets.l0])
 | succ k1 => ?_
 have H := HA.out
 clear HA
 simp only [cost_checkBuckets.l0] at H
 by_cases c3 : x11_1 < (l1.length : Int)
 case neg =>
  rw [if_neg c3] at H
  have c3b0 : decide (x11_1 < (l1.length : Int)) = false := decide_eq_false c3
  clear c3
  obtain rfl := Option.some.inj H
  go_wp2
  go_ret
  exact ⟨eqR, q1_⟩
 rw [if_pos c3] at H
 have c3b0 : decide (x11_1 < (l1.length : Int)) = true := decide_eq_true c3
 clear c3
 by_cases c4 : 0 ≤ x11_1
 case neg =>
  rw [if_neg c4] at H
  exact absurd H (by simp)
 rw [if_pos c4] at H
 have c4b0 : decide (0 ≤ x11_1) = true := decide_eq_true c4
 clear c4
 by_cases c5 : x11_1 < (l1.length : Int)
 case neg =>
  rw [if_neg c5] at H
  exact absurd H (by simp)
 rw [if_pos c5] at H
 have c5b0 : decide (x11_1 < (l1.length : Int)) = true := decide_eq_true c5
 clear c5
 replace H := Option.bind_eq_some_iff.mp H
 obtain ⟨t200, A60, H⟩ := H
 replace H : ((value_CheckValue.f k1 ((rd_T105 l1 x11_1).f1.f0) ((rd_T105 l1 x11_1).f1.f1) ((rd_T105 l1 x11_1).f1.f2)).bind fun t201 => ((kit_First.f k1 (([t200, t201] : List Int))).bind fun t205 => (if t205 = 0 then (if ((rd_T105 l1 x11_1).f0.f0) = a0 then (cost_checkBuckets.j1 k1 a0 l1 x11_1 l1 (l1.length : Int) x11_1 (((rd_T105 l1 x11_1).f1.f0) != a0) ((rd_T105 l1 x11_1).f0.f0) ((rd_T105 l1 x11_1).f0.f1) ((rd_T105 l1 x11_1).f0.f2) ((rd_T105 l1 x11_1).f1.f0) ((rd_T105 l1 x11_1).f1.f1) ((rd_T105 l1 x11_1).f1.f2) ((rd_T105 l1 x11_1).f2) ((rd_T105 l1 x11_1).f3)) else (cost_checkBuckets.j1 k1 a0 l1 x11_1 l1 (l1.length : Int) x11_1 true ((rd_T105 l1 x11_1).f0.f0) ((rd_T105 l1 x11_1).f0.f1) ((rd_T105 l1 x11_1).f0.f2) ((rd_T105 l1 x11_1).f1.f0) ((rd_T105 l1 x11_1).f1.f1) ((rd_T105 l1 x11_1).f1.f2) ((rd_T105 l1 x11_1).f2) ((rd_T105 l1 x11_1).f3))) else (some t205)))) = some r := H
 have A6 := aM A60
 clear A60
 replace H := Option.bind_eq_some_iff.mp H
 obtain ⟨t201, A70, H⟩ := H
 replace H : ((kit_First.f k1 (([t200, t201] : List Int))).bind fun t205 => (if t205 = 0 then (if ((rd_T105 l1 x11_1).f0.f0) = a0 then (cost_checkBuckets.j1 k1 a0 l1 x11_1 l1 (l1.length : Int) x11_1 (((rd_T105 l1 x11_1).f1.f0) != a0) ((rd_T105 l1 x11_1).f0.f0) ((rd_T105 l1 x11_1).f0.f1) ((rd_T105 l1 x11_1).f0.f2) ((rd_T105 l1 x11_1).f1.f0) ((rd_T105 l1 x11_1).f1.f1) ((rd_T105 l1 x11_1).f1.f2) ((rd_T105 l1 x11_1).f2) ((rd_T105 l1 x11_1).f3)) else (cost_checkBuckets.j1 k1 a0 l1 x11_1 l1 (l1.length : Int) x11_1 true ((rd_T105 l1 x11_1).f0.f0) ((rd_T105 l1 x11_1).f0.f1) ((rd_T105 l1 x11_1).f0.f2) ((rd_T105 l1 x11_1).f1.f0) ((rd_T105 l1 x11_1).f1.f1) ((rd_T105 l1 x11_1).f1.f2) ((rd_T105 l1 x11_1).f2) ((rd_T105 l1 x11_1).f3))) else (some t205))) = some r := H
 have A7 := aM A70
 clear A70
 obtain ⟨y202, hy202⟩ : ∃ y_ : List Int, y_ = (([t200, t201] : List Int)) := ⟨_, rfl⟩
 replace H : ((kit_First.f k1 y202).bind fun t205 => (if t205 = 0 then (if ((rd_T105 l1 x11_1).f0.f0) = a0 then (cost_checkBuckets.j1 k1 a0 l1 x11_1 l1 (l1.length : Int) x11_1 (((rd_T105 l1 x11_1).f1.f0) != a0) ((rd_T105 l1 x11_1).f0.f0) ((rd_T105 l1 x11_1).f0.f1) ((rd_T105 l1 x11_1).f0.f2) ((rd_T105 l1 x11_1).f1.f0) ((rd_T105 l1 x11_1).f1.f1) ((rd_T105 l1 x11_1).f1.f2) ((rd_T105 l1 x11_1).f2) ((rd_T105 l1 x11_1).f3)) else (cost_checkBuckets.j1 k1 a0 l1 x11_1 l1 (l1.length : Int) x11_1 true ((rd_T105 l1 x11_1).f0.f0) ((rd_T105 l1 x11_1).f0.f1) ((rd_T105 l1 x11_1).f0.f2) ((rd_T105 l1 x11_1).f1.f0) ((rd_T105 l1 x11_1).f1.f1) ((rd_T105 l1 x11_1).f1.f2) ((rd_T105 l1 x11_1).f2) ((rd_T105 l1 x11_1).f3))) else (some t205))) = some r := sqz hy202 H
 have Ny202 := aM hy202
 clear hy202
 replace H := Option.bind_eq_some_iff.mp H
 obtain ⟨t205, A80, H⟩ := H
 replace H : (if t205 = 0 then (if ((rd_T105 l1 x11_1).f0.f0) = a0 then (cost_checkBuckets.j1 k1 a0 l1 x11_1 l1 (l1.length : Int) x11_1 (((rd_T105 l1 x11_1).f1.f0) != a0) ((rd_T105 l1 x11_1).f0.f0) ((rd_T105 l1 x11_1).f0.f1) ((rd_T105 l1 x11_1).f0.f2) ((rd_T105 l1 x11_1).f1.f0) ((rd_T105 l1 x11_1).f1.f1) ((rd_T105 l1 x11_1).f1.f2) ((rd_T105 l1 x11_1).f2) ((rd_T105 l1 x11_1).f3)) else (cost_checkBuckets.j1 k1 a0 l1 x11_1 l1 (l1.length : Int) x11_1 true ((rd_T105 l1 x11_1).f0.f0) ((rd_T105 l1 x11_1).f0.f1) ((rd_T105 l1 x11_1).f0.f2) ((rd_T105 l1 x11_1).f1.f0) ((rd_T105 l1 x11_1).f1.f1) ((rd_T105 l1 x11_1).f1.f2) ((rd_T105 l1 x11_1).f2) ((rd_T105 l1 x11_1).f3))) else (some t205)) = some r := H
 have A8 := aM A80
 clear A80
 by_cases c9 : t205 = 0
 case neg =>
  rw [if_neg c9] at H
  have c9b0 : (t205 == 0) = false := beq_eq_false_iff_ne.mpr c9
  have c9b1 : (t205 != 0) = true := bne_iff_ne.mpr c9
  obtain rfl := Option.some.inj H
  have p198 : 0 ≤ (x11_1 : Int) := of_decide_eq_true q3_
  have q198 : x11_1 < (l1.length : Int) := of_decide_eq_true q3_
  obtain ⟨ad198, e198, hx198_0, hx198_1, hx198_2, hx198_3, hx198_4, hx198_5, hx198_6, hx198_7⟩ := at_T105 HR1.out x11_1 p198 q198
  cases e198
  replace hx198_0 := up_ HB.out hx198_0
  replace hx198_1 := up_ HB.out hx198_1
  replace hx198_2 := up_ HB.out hx198_2
  replace hx198_3 := up_ HB.out hx198_3
  replace hx198_4 := up_ HB.out hx198_4
  replace hx198_5 := up_ HB.out hx198_5
  replace hx198_6 := up_ HB.out hx198_6
  replace hx198_7 := up_ HB.out hx198_7
  replace p198 := eq_true p198
  replace q198 := eq_true q198
  try go_wp2_with (first | ((with_reducible refine gate_dst (N := 6) rfl ?_); refine box_event ?hg (N := 6) ?hd (cs := #[.int .i64 0, .int .i64 0, .string (⟨#[]⟩ : ByteArray), .int .i64 0, .int .i64 0, .string (⟨#[]⟩ : ByteArray), .int .i64 0, .int .i64 0]) (t := 105) ?hr ?_; (case hd => rfl); (case hg => rfl); (case hr => first | (go_simp; done) | (go_simp; rfl)); intro gb199 hg w49 hbox hb; have BK199 := aM hbox; have GW199 := aM (s7q7 : w.heap.size ≤ gb199); have GE199 := GW199; replace HB := aM (below_step q1_ hb); clear hb hbox hg; obtain ⟨hcz50_0, hcz50_1, hcz50_2, hcz50_3, hcz50_4, hcz50_5, hcz50_6, hcz50_7, hfz50_0, hfz50_1, hfz50_2, hfz50_3, hfz50_4, hfz50_5, hfz50_6, hfz50_7⟩ := cells8 BK199.out))
  have n0_ : Aside0 (((((((((w49.setCell ⟨gb199, 0, none⟩ (.int .i64 ((rd_T105 l1 x11_1).f0.f0))).setCell ⟨gb199, 1, none⟩ (.int .i64 ((rd_T105 l1 x11_1).f0.f1))).setCell ⟨gb199, 2, none⟩ (.string ((rd_T105 l1 x11_1).f0.f2))).setCell ⟨gb199, 3, none⟩ (.int .i64 ((rd_T105 l1 x11_1).f1.f0))).setCell ⟨gb199, 4, none⟩ (.int .i64 ((rd_T105 l1 x11_1).f1.f1))).setCell ⟨gb199, 5, none⟩ (.string ((rd_T105 l1 x11_1).f1.f2))).setCell ⟨gb199, 6, none⟩ (.int .i64 ((rd_T105 l1 x11_1).f2))).setCell ⟨gb199, 7, none⟩ (.int .i64 ((rd_T105 l1 x11_1).f3))).heap[gb199]? = some (.cells #[.int .i64 ((rd_T105 l1 x11_1).f0.f0), .int .i64 ((rd_T105 l1 x11_1).f0.f1), .string ((rd_T105 l1 x11_1).f0.f2), .int .i64 ((rd_T105 l1 x11_1).f1.f0), .int .i64 ((rd_T105 l1 x11_1).f1.f1), .string ((rd_T105 l1 x11_1).f1.f2), .int .i64 ((rd_T105 l1 x11_1).f2), .int .i64 ((rd_T105 l1 x11_1).f3)] 105 (0, 0))) := ⟨by (with_reducible repeat (first | refine blk_drewN ?_ _ | refine blk_drew ?_ | refine blk_alloc ?_ _)); refine blk_put (cs := #[.int .i64 ((rd_T105 l1 x11_1).f0.f0), .int .i64 ((rd_T105 l1 x11_1).f0.f1), .string ((rd_T105 l1 x11_1).f0.f2), .int .i64 ((rd_T105 l1 x11_1).f1.f0), .int .i64 ((rd_T105 l1 x11_1).f1.f1), .string ((rd_T105 l1 x11_1).f1.f2), .int .i64 ((rd_T105 l1 x11_1).f2), .int .i64 0]) ?_ 7 _ rfl; (with_reducible repeat (first | refine blk_drewN ?_ _ | refine blk_drew ?_ | refine blk_alloc ?_ _)); refine blk_put (cs := #[.int .i64 ((rd_T105 l1 x11_1).f0.f0), .int .i64 ((rd_T105 l1 x11_1).f0.f1), .string ((rd_T105 l1 x11_1).f0.f2), .int .i64 ((rd_T105 l1 x11_1).f1.f0), .int .i64 ((rd_T105 l1 x11_1).f1.f1), .string ((rd_T105 l1 x11_1).f1.f2), .int .i64 0, .int .i64 0]) ?_ 6 _ rfl; (with_reducible repeat (first | refine blk_drewN ?_ _ | refine blk_drew ?_ | refine blk_alloc ?_ _)); refine blk_put (cs := #[.int .i64 ((rd_T105 l1 x11_1).f0.f0), .int .i64 ((rd_T105 l1 x11_1).f0.f1), .string ((rd_T105 l1 x11_1).f0.f2), .int .i64 ((rd_T105 l1 x11_1).f1.f0), .int .i64 ((rd_T105 l1 x11_1).f1.f1), .string (⟨#[]⟩ : ByteArray), .int .i64 0, .int .i64 0]) ?_ 5 _ rfl; (with_reducible repeat (first | refine blk_drewN ?_ _ | refine blk_drew ?_ | refine blk_alloc ?_ _)); refine blk_put (cs := #[.int .i64 ((rd_T105 l1 x11_1).f0.f0), .int .i64 ((rd_T105 l1 x11_1).f0.f1), .string ((rd_T105 l1 x11_1).f0.f2), .int .i64 ((rd_T105 l1 x11_1).f1.f0), .int .i64 0, .string (⟨#[]⟩ : ByteArray), .int .i64 0, .int .i64 0]) ?_ 4 _ rfl; (with_reducible repeat (first | refine blk_drewN ?_ _ | refine blk_drew ?_ | refine blk_alloc ?_ _)); refine blk_put (cs := #[.int .i64 ((rd_T105 l1 x11_1).f0.f0), .int .i64 ((rd_T105 l1 x11_1).f0.f1), .string ((rd_T105 l1 x11_1).f0.f2), .int .i64 0, .int .i64 0, .string (⟨#[]⟩ : ByteArray), .int .i64 0, .int .i64 0]) ?_ 3 _ rfl; (with_reducible repeat (first | refine blk_drewN ?_ _ | refine blk_drew ?_ | refine blk_alloc ?_ _)); refine blk_put (cs := #[.int .i64 ((rd_T105 l1 x11_1).f0.f0), .int .i64 ((rd_T105 l1 x11_1).f0.f1), .string (⟨#[]⟩ : ByteArray), .int .i64 0, .int .i64 0, .string (⟨#[]⟩ : ByteArray), .int .i64 0, .int .i64 0]) ?_ 2 _ rfl; (with_reducible repeat (first | refine blk_drewN ?_ _ | refine blk_drew ?_ | refine blk_alloc ?_ _)); refine blk_put (cs := #[.int .i64 ((rd_T105 l1 x11_1).f0.f0), .int .i64 0, .string (⟨#[]⟩ : ByteArray), .int .i64 0, .int .i64 0, .string (⟨#[]⟩ : ByteArray), .int .i64 0, .int .i64 0]) ?_ 1 _ rfl; (with_reducible repeat (first | refine blk_drewN ?_ _ | refine blk_drew ?_ | refine blk_alloc ?_ _)); refine blk_put (cs := #[.int .i64 0, .int .i64 0, .string (⟨#[]⟩ : ByteArray), .int .i64 0, .int .i64 0, .string (⟨#[]⟩ : ByteArray), .int .i64 0, .int .i64 0]) ?_ 0 _ rfl; (with_reducible repeat (first | refine blk_drewN ?_ _ | refine blk_drew ?_ | refine blk_alloc ?_ _)); exact BK199.out⟩
  have n1_ : Aside0 (Below w.heap.size w ((((((((w49.setCell ⟨gb199, 0, none⟩ (.int .i64 ((rd_T105 l1 x11_1).f0.f0))).setCell ⟨gb199, 1, none⟩ (.int .i64 ((rd_T105 l1 x11_1).f0.f1))).setCell ⟨gb199, 2, none⟩ (.string ((rd_T105 l1 x11_1).f0.f2))).setCell ⟨gb199, 3, none⟩ (.int .i64 ((rd_T105 l1 x11_1).f1.f0))).setCell ⟨gb199, 4, none⟩ (.int .i64 ((rd_T105 l1 x11_1).f1.f1))).setCell ⟨gb199, 5, none⟩ (.string ((rd_T105 l1 x11_1).f1.f2))).setCell ⟨gb199, 6, none⟩ (.int .i64 ((rd_T105 l1 x11_1).f2))).setCell ⟨gb199, 7, none⟩ (.int .i64 ((rd_T105 l1 x11_1).f3)))) := ⟨s7q6⟩
  (try clear BK199)
  (try clear HB)
  generalize ((((((((w49.setCell ⟨gb199, 0, none⟩ (.int .i64 ((rd_T105 l1 x11_1).f0.f0))).setCell ⟨gb199, 1, none⟩ (.int .i64 ((rd_T105 l1 x11_1).f0.f1))).setCell ⟨gb199, 2, none⟩ (.string ((rd_T105 l1 x11_1).f0.f2))).setCell ⟨gb199, 3, none⟩ (.int .i64 ((rd_T105 l1 x11_1).f1.f0))).setCell ⟨gb199, 4, none⟩ (.int .i64 ((rd_T105 l1 x11_1).f1.f1))).setCell ⟨gb199, 5, none⟩ (.string ((rd_T105 l1 x11_1).f1.f2))).setCell ⟨gb199, 6, none⟩ (.int .i64 ((rd_T105 l1 x11_1).f2))).setCell ⟨gb199, 7, none⟩ (.int .i64 ((rd_T105 l1 x11_1).f3))) = w51 at n0_ n1_ ⊢
  have BK199 := n0_
  have HB := n1_
  clear n0_ n1_
  have n0_ := aM (blk_drew BK199.out)
  have n1_ := aM (below_drew1 HB.out)
  clear BK199
  clear HB
  have BK199 := n0_
  have HB := n1_
  clear n0_ n1_
  refine start_ (n := 9) (S := fun w' => w'.cell? ⟨gb199, 0, none⟩ = some (.int .i64 ((rd_T105 l1 x11_1).f0.f0)) ∧ w'.cell? ⟨gb199, 1, none⟩ = some (.int .i64 ((rd_T105 l1 x11_1).f0.f1)) ∧ w'.cell? ⟨gb199, 2, none⟩ = some (.string ((rd_T105 l1 x11_1).f0.f2)) ∧ w'.cell? ⟨gb199, 3, none⟩ = some (.int .i64 ((rd_T105 l1 x11_1).f1.f0)) ∧ w'.cell? ⟨gb199, 4, none⟩ = some (.int .i64 ((rd_T105 l1 x11_1).f1.f1)) ∧ w'.cell? ⟨gb199, 5, none⟩ = some (.string ((rd_T105 l1 x11_1).f1.f2)) ∧ w'.cell? ⟨gb199, 6, none⟩ = some (.int .i64 ((rd_T105 l1 x11_1).f2)) ∧ w'.cell? ⟨gb199, 7, none⟩ = some (.int .i64 ((rd_T105 l1 x11_1).f3))) (ds := []) #[fF, fF, fF, fF, fF, fF, fF, fF, fF] q5_ rfl rfl ⟨(blk_cell BK199.out 0).trans rfl, (blk_cell BK199.out 1).trans rfl, (blk_cell BK199.out 2).trans rfl, (blk_cell BK199.out 3).trans rfl, (blk_cell BK199.out 4).trans rfl, (blk_cell BK199.out 5).trans rfl, (blk_cell BK199.out 6).trans rfl, (blk_cell BK199.out 7).trans rfl⟩ (fun hHeld => ?_); refine with_tabW cost_checkBuckets.tab4 cost_checkBuckets.bits4 (fun HT_ HW_ => ?_)
  generalize w51.drew = w52 at BK199 HB hHeld ⊢
  refine pure_ (i := 0) (N := some 16) (v := ?_) (a' := ?_) #[tT, fF, fF, fF, fF, fF, fF, fF, fF] rfl rfl (any_of HT_.out q5_) (fun _ _ _ h => h) (Or.inl ⟨by rfl, ?_⟩) ?_ ?_
  rotate_left
  · intro w'
    go_simp
    with_reducible rfl
  rotate_left
  · simp only [Act.put, sqa, sqb, sqc, i64_w, i32_w]
    rfl
  refine pure_ (i := 3) (N := some 19) (v := ?_) (a' := ?_) #[tT, fF, fF, tT, fF, fF, fF, fF, fF] rfl rfl (any_of HT_.out q5_) (fun _ _ _ h => h) (Or.inl ⟨by rfl, ?_⟩) ?_ ?_
  rotate_left
  · intro w'
    go_simp
    with_reducible rfl
  rotate_left
  · simp only [Act.put, sqa, sqb, sqc, i64_w, i32_w]
    rfl
  refine take_ (i := 1) (N := some 17) (v := ?_) (a' := ?_) #[tT, tT, fF, tT, fF, fF, fF, fF, fF] rfl rfl (take_ofW HT_.out HW_.out q5_) (fun _ _ _ h => h) (Or.inl ⟨by rfl, ?_⟩) hHeld ?_ ?_
  rotate_left
  · rintro w' ⟨s0, s1, s2, s3, s4, s5, s6, s7⟩
    go_simp
    with_reducible rfl
  rotate_left
  · simp only [Act.put, sqa, sqb, sqc, i64_w, i32_w]
    rfl
  refine take_ (i := 4) (N := some 20) (v := ?_) (a' := ?_) #[tT, tT, fF, tT, tT, fF, fF, fF, fF] rfl rfl (take_ofW HT_.out HW_.out q5_) (fun _ _ _ h => h) (Or.inl ⟨by rfl, ?_⟩) hHeld ?_ ?_
  rotate_left
  · rintro w' ⟨s0, s1, s2, s3, s4, s5, s6, s7⟩
    go_simp
    with_reducible rfl
  rotate_left
  · simp only [Act.put, sqa, sqb, sqc, i64_w, i32_w]
    rfl
  refine one_ (i := 2) (N := some 18) #[tT, tT, tT, tT, tT, fF, fF, fF, fF] rfl rfl (one_of HT_.out q5_) (by decide) (fun K hK => ?_)
  refine goes_ Tryd.func111 q5_ rfl #[.agg #[.int .i64 ((rd_T105 l1 x11_1).f0.f0), .int .i64 ((rd_T105 l1 x11_1).f0.f1), .string ((rd_T105 l1 x11_1).f0.f2)]] (by rfl) rfl rfl q2_ ?_
  with_reducible refine (value_CheckValue.calls k1 ((rd_T105 l1 x11_1).f0.f0) ((rd_T105 l1 x11_1).f0.f1) ((rd_T105 l1 x11_1).f0.f2) t200 _ A6.out).mono ?_
  rintro e w53 ⟨rfl, hb⟩
  refine ⟨_, rfl, ?_⟩
  have n0_ := aM (bbR BK199.out hb)
  have n1_ := aM (below_step s7q6 hb)
  clear BK199
  clear HB
  have BK199 := n0_
  have HB := n1_
  clear n0_ n1_
  (try clear hb)
  (try clear hb2)
  (try clear hk)
  (try clear hi)
  refine hK.out _ _ ⟨(blk_cell BK199.out 0).trans rfl, (blk_cell BK199.out 1).trans rfl, (blk_cell BK199.out 2).trans rfl, (blk_cell BK199.out 3).trans rfl, (blk_cell BK199.out 4).trans rfl, (blk_cell BK199.out 5).trans rfl, (blk_cell BK199.out 6).trans rfl, (blk_cell BK199.out 7).trans rfl⟩ (fun hHeld => ?_)
  clear hK K
  refine norm_ (a' := ?_) ?_ ?_
  rotate_left
  · show Act.put _ (some 18) _ = _
    simp only [Act.put, sqa, sqb, sqc, i64_w, i32_w]
    rfl
  refine one_ (i := 5) (N := some 21) #[tT, tT, tT, tT, tT, tT, fF, fF, fF] rfl rfl (one_of HT_.out q5_) (by decide) (fun K hK => ?_)
  refine goes_ Tryd.func111 q5_ rfl #[.agg #[.int .i64 ((rd_T105 l1 x11_1).f1.f0), .int .i64 ((rd_T105 l1 x11_1).f1.f1), .string ((rd_T105 l1 x11_1).f1.f2)]] (by rfl) rfl rfl q2_ ?_
  with_reducible refine (value_CheckValue.calls k1 ((rd_T105 l1 x11_1).f1.f0) ((rd_T105 l1 x11_1).f1.f1) ((rd_T105 l1 x11_1).f1.f2) t201 _ A7.out).mono ?_
  rintro e w54 ⟨rfl, hb⟩
  refine ⟨_, rfl, ?_⟩
  have n0_ := aM (bbR BK199.out hb)
  have n1_ := aM (below_step s7q6 hb)
  clear BK199
  clear HB
  have BK199 := n0_
  have HB := n1_
  clear n0_ n1_
  (try clear hb)
  (try clear hb2)
  (try clear hk)
  (try clear hi)
  refine hK.out _ _ ⟨(blk_cell BK199.out 0).trans rfl, (blk_cell BK199.out 1).trans rfl, (blk_cell BK199.out 2).trans rfl, (blk_cell BK199.out 3).trans rfl, (blk_cell BK199.out 4).trans rfl, (blk_cell BK199.out 5).trans rfl, (blk_cell BK199.out 6).trans rfl, (blk_cell BK199.out 7).trans rfl⟩ (fun hHeld => ?_)
  clear hK K
  refine norm_ (a' := ?_) ?_ ?_
  rotate_left
  · show Act.put _ (some 21) _ = _
    simp only [Act.put, sqa, sqb, sqc, i64_w, i32_w]
    rfl
  refine one_ (i := 6) (N := some 22) #[tT, tT, tT, tT, tT, tT, tT, fF, fF] rfl rfl (one_of HT_.out q5_) (by decide) (fun K hK => ?_)
  refine Kd.R_lit_step (Kd.int .i64) _ 24 ?hg (N := 22) ?hd (xs := ([t200, t201] : List Int)) (inner := [.int .i64 t200, .int .i64 t201]) (ok := fun _ => True) (okp := fun _ => True) ?hr ?hp (fun _ hk => hk) trivial (Below.refl _ _) (Nat.le_refl _) (by simp) ?_; (case hd => rfl); (case hg => rfl); (case hr => first | (go_simp; done) | (go_simp; rfl)); (case hp => exact (Reps.one (show Kd.M (Kd.int .i64) _ _ _ t200 [.int .i64 t200] from rfl) (Reps.one (show Kd.M (Kd.int .i64) _ _ _ t201 [.int .i64 t201] from rfl) (Reps.none _ _))))
  intro v203 w55 ho56 hb hg_ hnew_
  clear hg_ hnew_
  (first | rw [← Ny202.out] at ho56 | (simp only [Int.reduceToNat] at ho56; rw [← Ny202.out] at ho56))
  have n0_ := aM (Kd.R_lower ho56 (below_size s7q6))
  have n1_ := aM (bbR BK199.out hb)
  have n2_ := aM (below_step s7q6 hb)
  clear BK199
  clear HB
  have HO204 := n0_
  have BK199 := n1_
  have HB := n2_
  clear n0_ n1_ n2_
  clear hb ho56
  obtain ⟨Ao57, co57, eo57⟩ := Kd.R_slice HO204.out
  (first | subst eo57 | (injection eo57 with f1_ f2_ f3_; have f4_ := f1_.symm; have f5_ := f3_.symm; clear f1_ f2_ f3_; subst f4_; subst f5_))
  refine hK.out _ _ ⟨(blk_cell BK199.out 0).trans rfl, (blk_cell BK199.out 1).trans rfl, (blk_cell BK199.out 2).trans rfl, (blk_cell BK199.out 3).trans rfl, (blk_cell BK199.out 4).trans rfl, (blk_cell BK199.out 5).trans rfl, (blk_cell BK199.out 6).trans rfl, (blk_cell BK199.out 7).trans rfl⟩ (fun hHeld => ?_)
  clear hK K
  refine norm_ (a' := ?_) ?_ ?_
  rotate_left
  · show Act.put _ (some 22) _ = _
    simp only [Act.put, sqa, sqb, sqc, i64_w, i32_w]
    rfl
  refine one_ (i := 7) (N := some 23) #[tT, tT, tT, tT, tT, tT, tT, tT, fF] rfl rfl (one_of HT_.out q5_) (by decide) (fun K hK => ?_)
  refine goes_ Tryd.func93 q5_ rfl #[.slice Ao57 y202.length co57] (by rfl) rfl rfl q2_ ?_
  with_reducible refine (kit_First.calls k1 _ _ y202 t205 _ ?side1 ?side2 A8.out).mono ?_
  (case side1 => repeat (first | exact (Kd.R_reads' HO204.out).2.2 | (with_reducible refine Kd.C_alloc ?_ _) | (with_reducible refine Kd.C_drewN ?_ _) | (with_reducible refine Kd.C_drew ?_)))
  (case side2 => exact (Kd.R_reads' HO204.out).2.1)
  rintro e w' ⟨rfl, ⟨nd, rfl⟩⟩
  refine ⟨_, rfl, ?_⟩
  refine hK.out _ _ ⟨(blk_cell BK199.out 0).trans rfl, (blk_cell BK199.out 1).trans rfl, (blk_cell BK199.out 2).trans rfl, (blk_cell BK199.out 3).trans rfl, (blk_cell BK199.out 4).trans rfl, (blk_cell BK199.out 5).trans rfl, (blk_cell BK199.out 6).trans rfl, (blk_cell BK199.out 7).trans rfl⟩ (fun hHeld => ?_)
  clear hK K
  refine norm_ (a' := ?_) ?_ ?_
  rotate_left
  · show Act.put _ (some 23) _ = _
    simp only [Act.put, sqa, sqb, sqc, i64_w, i32_w]
    rfl
  refine pure_ (i := 8) (N := some 7) (v := ?_) (a' := ?_) #[tT, tT, tT, tT, tT, tT, tT, tT, tT] rfl rfl (any_of HT_.out q5_) (fun _ _ _ h => h) (Or.inl ⟨by rfl, ?_⟩) ?_ ?_
  rotate_left
  · intro w'
    go_simp
    with_reducible rfl
  rotate_left
  · simp only [Act.put, sqa, sqb, sqc, i64_w, i32_w]
    rfl
  refine done_ (done_of HT_.out q5_) ?_
  try go_wp2
  go_ret
  exact ⟨eqR, s7q6⟩
 rw [if_pos c9] at H
 have c9b0 : (t205 == 0) = true := beq_iff_eq.mpr c9
 have c9b1 : (t205 != 0) = false := bne_eq_false_iff_eq.mpr c9
 clear c9
 have HC10 := aM H
 clear H
 have p198 : 0 ≤ (x11_1 : Int) := of_decide_eq_true q3_
 have q198 : x11_1 < (l1.length : Int) := of_decide_eq_true q3_
 obtain ⟨ad198, e198, hx198_0, hx198_1, hx198_2, hx198_3, hx198_4, hx198_5, hx198_6, hx198_7⟩ := at_T105 HR1.out x11_1 p198 q198
 cases e198
 replace hx198_0 := up_ HB.out hx198_0
 replace hx198_1 := up_ HB.out hx198_1
 replace hx198_2 := up_ HB.out hx198_2
 replace hx198_3 := up_ HB.out hx198_3
 replace hx198_4 := up_ HB.out hx198_4
 replace hx198_5 := up_ HB.out hx198_5
 replace hx198_6 := up_ HB.out hx198_6
 replace hx198_7 := up_ HB.out hx198_7
 replace p198 := eq_true p198
 replace q198 := eq_true q198
 try go_wp2_with (first | ((with_reducible refine gate_dst (N := 6) rfl ?_); refine box_event ?hg (N := 6) ?hd (cs := #[.int .i64 0, .int .i64 0, .string (⟨#[]⟩ : ByteArray), .int .i64 0, .int .i64 0, .string (⟨#[]⟩ : ByteArray), .int .i64 0, .int .i64 0]) (t := 105) ?hr ?_; (case hd => rfl); (case hg => rfl); (case hr => first | (go_simp; done) | (go_simp; rfl)); intro gb199 hg w11 hbox hb; have BK199 := aM hbox; have GW199 := aM (s7q7 : w.heap.size ≤ gb199); have GE199 := GW199; replace HB := aM (below_step q1_ hb); clear hb hbox hg; obtain ⟨hcz12_0, hcz12_1, hcz12_2, hcz12_3, hcz12_4, hcz12_5, hcz12_6, hcz12_7, hfz12_0, hfz12_1, hfz12_2, hfz12_3, hfz12_4, hfz12_5, hfz12_6, hfz12_7⟩ := cells8 BK199.out))
 have n0_ : Aside0 (((((((((w11.setCell ⟨gb199, 0, none⟩ (.int .i64 ((rd_T105 l1 x11_1).f0.f0))).setCell ⟨gb199, 1, none⟩ (.int .i64 ((rd_T105 l1 x11_1).f0.f1))).setCell ⟨gb199, 2, none⟩ (.string ((rd_T105 l1 x11_1).f0.f2))).setCell ⟨gb199, 3, none⟩ (.int .i64 ((rd_T105 l1 x11_1).f1.f0))).setCell ⟨gb199, 4, none⟩ (.int .i64 ((rd_T105 l1 x11_1).f1.f1))).setCell ⟨gb199, 5, none⟩ (.string ((rd_T105 l1 x11_1).f1.f2))).setCell ⟨gb199, 6, none⟩ (.int .i64 ((rd_T105 l1 x11_1).f2))).setCell ⟨gb199, 7, none⟩ (.int .i64 ((rd_T105 l1 x11_1).f3))).heap[gb199]? = some (.cells #[.int .i64 ((rd_T105 l1 x11_1).f0.f0), .int .i64 ((rd_T105 l1 x11_1).f0.f1), .string ((rd_T105 l1 x11_1).f0.f2), .int .i64 ((rd_T105 l1 x11_1).f1.f0), .int .i64 ((rd_T105 l1 x11_1).f1.f1), .string ((rd_T105 l1 x11_1).f1.f2), .int .i64 ((rd_T105 l1 x11_1).f2), .int .i64 ((rd_T105 l1 x11_1).f3)] 105 (0, 0))) := ⟨by (with_reducible repeat (first | refine blk_drewN ?_ _ | refine blk_drew ?_ | refine blk_alloc ?_ _)); refine blk_put (cs := #[.int .i64 ((rd_T105 l1 x11_1).f0.f0), .int .i64 ((rd_T105 l1 x11_1).f0.f1), .string ((rd_T105 l1 x11_1).f0.f2), .int .i64 ((rd_T105 l1 x11_1).f1.f0), .int .i64 ((rd_T105 l1 x11_1).f1.f1), .string ((rd_T105 l1 x11_1).f1.f2), .int .i64 ((rd_T105 l1 x11_1).f2), .int .i64 0]) ?_ 7 _ rfl; (with_reducible repeat (first | refine blk_drewN ?_ _ | refine blk_drew ?_ | refine blk_alloc ?_ _)); refine blk_put (cs := #[.int .i64 ((rd_T105 l1 x11_1).f0.f0), .int .i64 ((rd_T105 l1 x11_1).f0.f1), .string ((rd_T105 l1 x11_1).f0.f2), .int .i64 ((rd_T105 l1 x11_1).f1.f0), .int .i64 ((rd_T105 l1 x11_1).f1.f1), .string ((rd_T105 l1 x11_1).f1.f2), .int .i64 0, .int .i64 0]) ?_ 6 _ rfl; (with_reducible repeat (first | refine blk_drewN ?_ _ | refine blk_drew ?_ | refine blk_alloc ?_ _)); refine blk_put (cs := #[.int .i64 ((rd_T105 l1 x11_1).f0.f0), .int .i64 ((rd_T105 l1 x11_1).f0.f1), .string ((rd_T105 l1 x11_1).f0.f2), .int .i64 ((rd_T105 l1 x11_1).f1.f0), .int .i64 ((rd_T105 l1 x11_1).f1.f1), .string (⟨#[]⟩ : ByteArray), .int .i64 0, .int .i64 0]) ?_ 5 _ rfl; (with_reducible repeat (first | refine blk_drewN ?_ _ | refine blk_drew ?_ | refine blk_alloc ?_ _)); refine blk_put (cs := #[.int .i64 ((rd_T105 l1 x11_1).f0.f0), .int .i64 ((rd_T105 l1 x11_1).f0.f1), .string ((rd_T105 l1 x11_1).f0.f2), .int .i64 ((rd_T105 l1 x11_1).f1.f0), .int .i64 0, .string (⟨#[]⟩ : ByteArray), .int .i64 0, .int .i64 0]) ?_ 4 _ rfl; (with_reducible repeat (first | refine blk_drewN ?_ _ | refine blk_drew ?_ | refine blk_alloc ?_ _)); refine blk_put (cs := #[.int .i64 ((rd_T105 l1 x11_1).f0.f0), .int .i64 ((rd_T105 l1 x11_1).f0.f1), .string ((rd_T105 l1 x11_1).f0.f2), .int .i64 0, .int .i64 0, .string (⟨#[]⟩ : ByteArray), .int .i64 0, .int .i64 0]) ?_ 3 _ rfl; (with_reducible repeat (first | refine blk_drewN ?_ _ | refine blk_drew ?_ | refine blk_alloc ?_ _)); refine blk_put (cs := #[.int .i64 ((rd_T105 l1 x11_1).f0.f0), .int .i64 ((rd_T105 l1 x11_1).f0.f1), .string (⟨#[]⟩ : ByteArray), .int .i64 0, .int .i64 0, .string (⟨#[]⟩ : ByteArray), .int .i64 0, .int .i64 0]) ?_ 2 _ rfl; (with_reducible repeat (first | refine blk_drewN ?_ _ | refine blk_drew ?_ | refine blk_alloc ?_ _)); refine blk_put (cs := #[.int .i64 ((rd_T105 l1 x11_1).f0.f0), .int .i64 0, .string (⟨#[]⟩ : ByteArray), .int .i64 0, .int .i64 0, .string (⟨#[]⟩ : ByteArray), .int .i64 0, .int .i64 0]) ?_ 1 _ rfl; (with_reducible repeat (first | refine blk_drewN ?_ _ | refine blk_drew ?_ | refine blk_alloc ?_ _)); refine blk_put (cs := #[.int .i64 0, .int .i64 0, .string (⟨#[]⟩ : ByteArray), .int .i64 0, .int .i64 0, .string (⟨#[]⟩ : ByteArray), .int .i64 0, .int .i64 0]) ?_ 0 _ rfl; (with_reducible repeat (first | refine blk_drewN ?_ _ | refine blk_drew ?_ | refine blk_alloc ?_ _)); exact BK199.out⟩
 have n1_ : Aside0 (Below w.heap.size w ((((((((w11.setCell ⟨gb199, 0, none⟩ (.int .i64 ((rd_T105 l1 x11_1).f0.f0))).setCell ⟨gb199, 1, none⟩ (.int .i64 ((rd_T105 l1 x11_1).f0.f1))).setCell ⟨gb199, 2, none⟩ (.string ((rd_T105 l1 x11_1).f0.f2))).setCell ⟨gb199, 3, none⟩ (.int .i64 ((rd_T105 l1 x11_1).f1.f0))).setCell ⟨gb199, 4, none⟩ (.int .i64 ((rd_T105 l1 x11_1).f1.f1))).setCell ⟨gb199, 5, none⟩ (.string ((rd_T105 l1 x11_1).f1.f2))).setCell ⟨gb199, 6, none⟩ (.int .i64 ((rd_T105 l1 x11_1).f2))).setCell ⟨gb199, 7, none⟩ (.int .i64 ((rd_T105 l1 x11_1).f3)))) := ⟨s7q6⟩
 (try clear BK199)
 (try clear HB)
 generalize ((((((((w11.setCell ⟨gb199, 0, none⟩ (.int .i64 ((rd_T105 l1 x11_1).f0.f0))).setCell ⟨gb199, 1, none⟩ (.int .i64 ((rd_T105 l1 x11_1).f0.f1))).setCell ⟨gb199, 2, none⟩ (.string ((rd_T105 l1 x11_1).f0.f2))).setCell ⟨gb199, 3, none⟩ (.int .i64 ((rd_T105 l1 x11_1).f1.f0))).setCell ⟨gb199, 4, none⟩ (.int .i64 ((rd_T105 l1 x11_1).f1.f1))).setCell ⟨gb199, 5, none⟩ (.string ((rd_T105 l1 x11_1).f1.f2))).setCell ⟨gb199, 6, none⟩ (.int .i64 ((rd_T105 l1 x11_1).f2))).setCell ⟨gb199, 7, none⟩ (.int .i64 ((rd_T105 l1 x11_1).f3))) = w13 at n0_ n1_ ⊢
 have BK199 := n0_
 have HB := n1_
 clear n0_ n1_
 have n0_ := aM (blk_drew BK199.out)
 have n1_ := aM (below_drew1 HB.out)
 clear BK199
 clear HB
 have BK199 := n0_
 have HB := n1_
 clear n0_ n1_
 refine start_ (n := 9) (S := fun w' => w'.cell? ⟨gb199, 0, none⟩ = some (.int .i64 ((rd_T105 l1 x11_1).f0.f0)) ∧ w'.cell? ⟨gb199, 1, none⟩ = some (.int .i64 ((rd_T105 l1 x11_1).f0.f1)) ∧ w'.cell? ⟨gb199, 2, none⟩ = some (.string ((rd_T105 l1 x11_1).f0.f2)) ∧ w'.cell? ⟨gb199, 3, none⟩ = some (.int .i64 ((rd_T105 l1 x11_1).f1.f0)) ∧ w'.cell? ⟨gb199, 4, none⟩ = some (.int .i64 ((rd_T105 l1 x11_1).f1.f1)) ∧ w'.cell? ⟨gb199, 5, none⟩ = some (.string ((rd_T105 l1 x11_1).f1.f2)) ∧ w'.cell? ⟨gb199, 6, none⟩ = some (.int .i64 ((rd_T105 l1 x11_1).f2)) ∧ w'.cell? ⟨gb199, 7, none⟩ = some (.int .i64 ((rd_T105 l1 x11_1).f3))) (ds := []) #[fF, fF, fF, fF, fF, fF, fF, fF, fF] q5_ rfl rfl ⟨(blk_cell BK199.out 0).trans rfl, (blk_cell BK199.out 1).trans rfl, (blk_cell BK199.out 2).trans rfl, (blk_cell BK199.out 3).trans rfl, (blk_cell BK199.out 4).trans rfl, (blk_cell BK199.out 5).trans rfl, (blk_cell BK199.out 6).trans rfl, (blk_cell BK199.out 7).trans rfl⟩ (fun hHeld => ?_); refine with_tabW cost_checkBuckets.tab4 cost_checkBuckets.bits4 (fun HT_ HW_ => ?_)
 generalize w13.drew = w14 at BK199 HB hHeld ⊢
 refine pure_ (i := 0) (N := some 16) (v := ?_) (a' := ?_) #[tT, fF, fF, fF, fF, fF, fF, fF, fF] rfl rfl (any_of HT_.out q5_) (fun _ _ _ h => h) (Or.inl ⟨by rfl, ?_⟩) ?_ ?_
 rotate_left
 · intro w'
   go_simp
   with_reducible rfl
 rotate_left
 · simp only [Act.put, sqa, sqb, sqc, i64_w, i32_w]
   rfl
 refine pure_ (i := 3) (N := some 19) (v := ?_) (a' := ?_) #[tT, fF, fF, tT, fF, fF, fF, fF, fF] rfl rfl (any_of HT_.out q5_) (fun _ _ _ h => h) (Or.inl ⟨by rfl, ?_⟩) ?_ ?_
 rotate_left
 · intro w'
   go_simp
   with_reducible rfl
 rotate_left
 · simp only [Act.put, sqa, sqb, sqc, i64_w, i32_w]
   rfl
 refine take_ (i := 1) (N := some 17) (v := ?_) (a' := ?_) #[tT, tT, fF, tT, fF, fF, fF, fF, fF] rfl rfl (take_ofW HT_.out HW_.out q5_) (fun _ _ _ h => h) (Or.inl ⟨by rfl, ?_⟩) hHeld ?_ ?_
 rotate_left
 · rintro w' ⟨s0, s1, s2, s3, s4, s5, s6, s7⟩
   go_simp
   with_reducible rfl
 rotate_left
 · simp only [Act.put, sqa, sqb, sqc, i64_w, i32_w]
   rfl
 refine take_ (i := 4) (N := some 20) (v := ?_) (a' := ?_) #[tT, tT, fF, tT, tT, fF, fF, fF, fF] rfl rfl (take_ofW HT_.out HW_.out q5_) (fun _ _ _ h => h) (Or.inl ⟨by rfl, ?_⟩) hHeld ?_ ?_
 rotate_left
 · rintro w' ⟨s0, s1, s2, s3, s4, s5, s6, s7⟩
   go_simp
   with_reducible rfl
 rotate_left
 · simp only [Act.put, sqa, sqb, sqc, i64_w, i32_w]
   rfl
 refine one_ (i := 2) (N := some 18) #[tT, tT, tT, tT, tT, fF, fF, fF, fF] rfl rfl (one_of HT_.out q5_) (by decide) (fun K hK => ?_)
 refine goes_ Tryd.func111 q5_ rfl #[.agg #[.int .i64 ((rd_T105 l1 x11_1).f0.f0), .int .i64 ((rd_T105 l1 x11_1).f0.f1), .string ((rd_T105 l1 x11_1).f0.f2)]] (by rfl) rfl rfl q2_ ?_
 with_reducible refine (value_CheckValue.calls k1 ((rd_T105 l1 x11_1).f0.f0) ((rd_T105 l1 x11_1).f0.f1) ((rd_T105 l1 x11_1).f0.f2) t200 _ A6.out).mono ?_
 rintro e w15 ⟨rfl, hb⟩
 refine ⟨_, rfl, ?_⟩
 have n0_ := aM (bbR BK199.out hb)
 have n1_ := aM (below_step s7q6 hb)
 clear BK199
 clear HB
 have BK199 := n0_
 have HB := n1_
 clear n0_ n1_
 (try clear hb)
 (try clear hb2)
 (try clear hk)
 (try clear hi)
 refine hK.out _ _ ⟨(blk_cell BK199.out 0).trans rfl, (blk_cell BK199.out 1).trans rfl, (blk_cell BK199.out 2).trans rfl, (blk_cell BK199.out 3).trans rfl, (blk_cell BK199.out 4).trans rfl, (blk_cell BK199.out 5).trans rfl, (blk_cell BK199.out 6).trans rfl, (blk_cell BK199.out 7).trans rfl⟩ (fun hHeld => ?_)
 clear hK K
 refine norm_ (a' := ?_) ?_ ?_
 rotate_left
 · show Act.put _ (some 18) _ = _
   simp only [Act.put, sqa, sqb, sqc, i64_w, i32_w]
   rfl
 refine one_ (i := 5) (N := some 21) #[tT, tT, tT, tT, tT, tT, fF, fF, fF] rfl rfl (one_of HT_.out q5_) (by decide) (fun K hK => ?_)
 refine goes_ Tryd.func111 q5_ rfl #[.agg #[.int .i64 ((rd_T105 l1 x11_1).f1.f0), .int .i64 ((rd_T105 l1 x11_1).f1.f1), .string ((rd_T105 l1 x11_1).f1.f2)]] (by rfl) rfl rfl q2_ ?_
 with_reducible refine (value_CheckValue.calls k1 ((rd_T105 l1 x11_1).f1.f0) ((rd_T105 l1 x11_1).f1.f1) ((rd_T105 l1 x11_1).f1.f2) t201 _ A7.out).mono ?_
 rintro e w16 ⟨rfl, hb⟩
 refine ⟨_, rfl, ?_⟩
 have n0_ := aM (bbR BK199.out hb)
 have n1_ := aM (below_step s7q6 hb)
 clear BK199
 clear HB
 have BK199 := n0_
 have HB := n1_
 clear n0_ n1_
 (try clear hb)
 (try clear hb2)
 (try clear hk)
 (try clear hi)
 refine hK.out _ _ ⟨(blk_cell BK199.out 0).trans rfl, (blk_cell BK199.out 1).trans rfl, (blk_cell BK199.out 2).trans rfl, (blk_cell BK199.out 3).trans rfl, (blk_cell BK199.out 4).trans rfl, (blk_cell BK199.out 5).trans rfl, (blk_cell BK199.out 6).trans rfl, (blk_cell BK199.out 7).trans rfl⟩ (fun hHeld => ?_)
 clear hK K
 refine norm_ (a' := ?_) ?_ ?_
 rotate_left
 · show Act.put _ (some 21) _ = _
   simp only [Act.put, sqa, sqb, sqc, i64_w, i32_w]
   rfl
 refine one_ (i := 6) (N := some 22) #[tT, tT, tT, tT, tT, tT, tT, fF, fF] rfl rfl (one_of HT_.out q5_) (by decide) (fun K hK => ?_)
 refine Kd.R_lit_step (Kd.int .i64) _ 24 ?hg (N := 22) ?hd (xs := ([t200, t201] : List Int)) (inner := [.int .i64 t200, .int .i64 t201]) (ok := fun _ => True) (okp := fun _ => True) ?hr ?hp (fun _ hk => hk) trivial (Below.refl _ _) (Nat.le_refl _) (by simp) ?_; (case hd => rfl); (case hg => rfl); (case hr => first | (go_simp; done) | (go_simp; rfl)); (case hp => exact (Reps.one (show Kd.M (Kd.int .i64) _ _ _ t200 [.int .i64 t200] from rfl) (Reps.one (show Kd.M (Kd.int .i64) _ _ _ t201 [.int .i64 t201] from rfl) (Reps.none _ _))))
 intro v203 w17 ho18 hb hg_ hnew_
 clear hg_ hnew_
 (first | rw [← Ny202.out] at ho18 | (simp only [Int.reduceToNat] at ho18; rw [← Ny202.out] at ho18))
 have n0_ := aM (Kd.R_lower ho18 (below_size s7q6))
 have n1_ := aM (bbR BK199.out hb)
 have n2_ := aM (below_step s7q6 hb)
 clear BK199
 clear HB
 have HO204 := n0_
 have BK199 := n1_
 have HB := n2_
 clear n0_ n1_ n2_
 clear hb ho18
 obtain ⟨Ao19, co19, eo19⟩ := Kd.R_slice HO204.out
 (first | subst eo19 | (injection eo19 with f1_ f2_ f3_; have f4_ := f1_.symm; have f5_ := f3_.symm; clear f1_ f2_ f3_; subst f4_; subst f5_))
 refine hK.out _ _ ⟨(blk_cell BK199.out 0).trans rfl, (blk_cell BK199.out 1).trans rfl, (blk_cell BK199.out 2).trans rfl, (blk_cell BK199.out 3).trans rfl, (blk_cell BK199.out 4).trans rfl, (blk_cell BK199.out 5).trans rfl, (blk_cell BK199.out 6).trans rfl, (blk_cell BK199.out 7).trans rfl⟩ (fun hHeld => ?_)
 clear hK K
 refine norm_ (a' := ?_) ?_ ?_
 rotate_left
 · show Act.put _ (some 22) _ = _
   simp only [Act.put, sqa, sqb, sqc, i64_w, i32_w]
   rfl
 refine one_ (i := 7) (N := some 23) #[tT, tT, tT, tT, tT, tT, tT, tT, fF] rfl rfl (one_of HT_.out q5_) (by decide) (fun K hK => ?_)
 refine goes_ Tryd.func93 q5_ rfl #[.slice Ao19 y202.length co19] (by rfl) rfl rfl q2_ ?_
 with_reducible refine (kit_First.calls k1 _ _ y202 t205 _ ?side1 ?side2 A8.out).mono ?_
 (case side1 => repeat (first | exact (Kd.R_reads' HO204.out).2.2 | (with_reducible refine Kd.C_alloc ?_ _) | (with_reducible refine Kd.C_drewN ?_ _) | (with_reducible refine Kd.C_drew ?_)))
 (case side2 => exact (Kd.R_reads' HO204.out).2.1)
 rintro e w' ⟨rfl, ⟨nd, rfl⟩⟩
 refine ⟨_, rfl, ?_⟩
 refine hK.out _ _ ⟨(blk_cell BK199.out 0).trans rfl, (blk_cell BK199.out 1).trans rfl, (blk_cell BK199.out 2).trans rfl, (blk_cell BK199.out 3).trans rfl, (blk_cell BK199.out 4).trans rfl, (blk_cell BK199.out 5).trans rfl, (blk_cell BK199.out 6).trans rfl, (blk_cell BK199.out 7).trans rfl⟩ (fun hHeld => ?_)
 clear hK K
 refine norm_ (a' := ?_) ?_ ?_
 rotate_left
 · show Act.put _ (some 23) _ = _
   simp only [Act.put, sqa, sqb, sqc, i64_w, i32_w]
   rfl
 refine pure_ (i := 8) (N := some 7) (v := ?_) (a' := ?_) #[tT, tT, tT, tT, tT, tT, tT, tT, tT] rfl rfl (any_of HT_.out q5_) (fun _ _ _ h => h) (Or.inl ⟨by rfl, ?_⟩) ?_ ?_
 rotate_left
 · intro w'
   go_simp
   with_reducible rfl
 rotate_left
 · simp only [Act.put, sqa, sqb, sqc, i64_w, i32_w]
   rfl
 refine done_ (done_of HT_.out q5_) ?_
 go_upto_region 7 with (fail)
 go_cut [38] (fun v38 wc => ∃ (kq : Nat) (x38_9 : Bool), v38 = .bool x38_9 ∧ Aside0 (cost_checkBuckets.j1 kq a0 l1 x11_1 l1 (l1.length : Int) x11_1 x38_9 ((rd_T105 l1 x11_1).f0.f0) ((rd_T105 l1 x11_1).f0.f1) ((rd_T105 l1 x11_1).f0.f2) ((rd_T105 l1 x11_1).f1.f0) ((rd_T105 l1 x11_1).f1.f1) ((rd_T105 l1 x11_1).f1.f2) ((rd_T105 l1 x11_1).f2) ((rd_T105 l1 x11_1).f3) = some r) ∧ Aside0 (kq ≤ k1) ∧ Aside0 (wc.heap[gb199]? = some (.cells #[.int .i64 ((rd_T105 l1 x11_1).f0.f0), .int .i64 ((rd_T105 l1 x11_1).f0.f1), .string ((rd_T105 l1 x11_1).f0.f2), .int .i64 ((rd_T105 l1 x11_1).f1.f0), .int .i64 ((rd_T105 l1 x11_1).f1.f1), .string ((rd_T105 l1 x11_1).f1.f2), .int .i64 ((rd_T105 l1 x11_1).f2), .int .i64 ((rd_T105 l1 x11_1).f3)] 105 (0, 0))) ∧ Aside0 (Below w.heap.size w wc))
 case first =>
  have H := HC10.out
  clear HC10
  by_cases c20 : ((rd_T105 l1 x11_1).f0.f0) = a0
  case neg =>
   rw [if_neg c20] at H
   have c20b0 : (((rd_T105 l1 x11_1).f0.f0) == a0) = false := beq_eq_false_iff_ne.mpr c20
   have c20b1 : (((rd_T105 l1 x11_1).f0.f0) != a0) = true := bne_iff_ne.mpr c20
   (first | rw [c20b0] | (simp only [i64_w, i32_w]; rw [c20b0]) | skip)
   have H' := aM H
   clear H
   obtain ⟨hcz22_0, hcz22_1, hcz22_2, hcz22_3, hcz22_4, hcz22_5, hcz22_6, hcz22_7, hfz22_0, hfz22_1, hfz22_2, hfz22_3, hfz22_4, hfz22_5, hfz22_6, hfz22_7⟩ := cells8 BK199.out
   go_wp2
   go_meet
   case rel => exact ⟨_, (true), q4_, H', ⟨by have := HK1.out; first | omega | exact Nat.le_refl _⟩, ⟨blkR BK199.out⟩, ⟨s7q6⟩⟩
  rw [if_pos c20] at H
  have c20b0 : (((rd_T105 l1 x11_1).f0.f0) == a0) = true := beq_iff_eq.mpr c20
  have c20b1 : (((rd_T105 l1 x11_1).f0.f0) != a0) = false := bne_eq_false_iff_eq.mpr c20
  clear c20
  (first | rw [c20b0] | (simp only [i64_w, i32_w]; rw [c20b0]) | skip)
  have H' := aM H
  clear H
  obtain ⟨hcz21_0, hcz21_1, hcz21_2, hcz21_3, hcz21_4, hcz21_5, hcz21_6, hcz21_7, hfz21_0, hfz21_1, hfz21_2, hfz21_3, hfz21_4, hfz21_5, hfz21_6, hfz21_7⟩ := cells8 BK199.out
  go_wp2
  go_meet
  case rel => exact ⟨_, ((((rd_T105 l1 x11_1).f1.f0) != a0)), q4_, H', ⟨by have := HK1.out; first | omega | exact Nat.le_refl _⟩, ⟨blkR BK199.out⟩, ⟨s7q6⟩⟩
 clear HC10
 try clear c1
 try clear p1
 try clear q1
 try clear hx1
 try clear c2
 try clear p2
 try clear c3
 try clear c3b0
 try clear c4
 try clear c4b0
 try clear c5
 try clear c5b0
 try clear c7
 try clear c9
 try clear c9b0
 try clear c9b1
 try clear c11
 try clear p19
 try clear q19
 try clear hx19
 try clear c20
 try clear c20b0
 try clear c20b1
 try clear hcz12_0 hcz12_1 hcz12_2 hcz12_3 hcz12_4 hcz12_5 hcz12_6 hcz12_7
 try clear hcz21_0 hcz21_1 hcz21_2 hcz21_3 hcz21_4 hcz21_5 hcz21_6 hcz21_7
 try clear hcz22_0 hcz22_1 hcz22_2 hcz22_3 hcz22_4 hcz22_5 hcz22_6 hcz22_7
 try clear hfz12_0 hfz12_1 hfz12_2 hfz12_3 hfz12_4 hfz12_5 hfz12_6 hfz12_7
 try clear hfz21_0 hfz21_1 hfz21_2 hfz21_3 hfz21_4 hfz21_5 hfz21_6 hfz21_7
 try clear hfz22_0 hfz22_1 hfz22_2 hfz22_3 hfz22_4 hfz22_5 hfz22_6 hfz22_7
 try clear hx198_0
 try clear hx198_1
 try clear hx198_2
 try clear hx198_3
 try clear hx198_4
 try clear hx198_5
 try clear hx198_6
 try clear hx198_7
 try clear p198
 try clear p2
 try clear q198
 obtain ⟨kq, x38_9, rfl, HA, HJ9, BK199, HB⟩ := hcut
 cases kq with
 | zero => exact absurd HA.out (by simp [cost_checkBuckets.j1])
 | succ kj9 => ?_
 have H := HA.out
 clear HA
 simp only [cost_checkBuckets.j1] at H
 by_cases c23 : x38_9 = true
 · subst c23
   have H1 : (some 10) = some r := q7_
   clear H
   have H := H1
   clear H1
   obtain rfl := Option.some.inj H
   go_wp2
   go_ret
   exact ⟨eqR, s7q6⟩
 replace c23 := Bool.eq_false_iff.mpr c23
 subst c23
 have H1 : ((kit_In.f ((rd_T105 l1 x11_1).f2) 1 2000).bind fun t206 => (if t206 = true then ((kit_In.f ((rd_T105 l1 x11_1).f3) 1 ((rd_T105 l1 x11_1).f2)).bind fun t207 => (cost_checkBuckets.j2 kj9 a0 l1 x11_1 l1 (l1.length : Int) x11_1 (!t207) ((rd_T105 l1 x11_1).f0.f0) ((rd_T105 l1 x11_1).f0.f1) ((rd_T105 l1 x11_1).f0.f2) ((rd_T105 l1 x11_1).f1.f0) ((rd_T105 l1 x11_1).f1.f1) ((rd_T105 l1 x11_1).f1.f2) ((rd_T105 l1 x11_1).f2) ((rd_T105 l1 x11_1).f3))) else (cost_checkBuckets.j2 kj9 a0 l1 x11_1 l1 (l1.length : Int) x11_1 true ((rd_T105 l1 x11_1).f0.f0) ((rd_T105 l1 x11_1).f0.f1) ((rd_T105 l1 x11_1).f0.f2) ((rd_T105 l1 x11_1).f1.f0) ((rd_T105 l1 x11_1).f1.f1) ((rd_T105 l1 x11_1).f1.f2) ((rd_T105 l1 x11_1).f2) ((rd_T105 l1 x11_1).f3)))) = some r := q6_
 clear H
 have H := H1
 clear H1
 have HC24 := aM H
 clear H
 go_upto_region 9 with (fail)
 go_cut [50] (fun v50 wc => ∃ (kq : Nat) (x50_23 : Bool), v50 = .bool x50_23 ∧ Aside0 (cost_checkBuckets.j2 kq a0 l1 x11_1 l1 (l1.length : Int) x11_1 x50_23 ((rd_T105 l1 x11_1).f0.f0) ((rd_T105 l1 x11_1).f0.f1) ((rd_T105 l1 x11_1).f0.f2) ((rd_T105 l1 x11_1).f1.f0) ((rd_T105 l1 x11_1).f1.f1) ((rd_T105 l1 x11_1).f1.f2) ((rd_T105 l1 x11_1).f2) ((rd_T105 l1 x11_1).f3) = some r) ∧ Aside0 (kq ≤ kj9) ∧ Aside0 (wc.heap[gb199]? = some (.cells #[.int .i64 ((rd_T105 l1 x11_1).f0.f0), .int .i64 ((rd_T105 l1 x11_1).f0.f1), .string ((rd_T105 l1 x11_1).f0.f2), .int .i64 ((rd_T105 l1 x11_1).f1.f0), .int .i64 ((rd_T105 l1 x11_1).f1.f1), .string ((rd_T105 l1 x11_1).f1.f2), .int .i64 ((rd_T105 l1 x11_1).f2), .int .i64 ((rd_T105 l1 x11_1).f3)] 105 (0, 0))) ∧ Aside0 (Below w.heap.size w wc))
 case first =>
  have H := HC24.out
  clear HC24
  replace H := Option.bind_eq_some_iff.mp H
  obtain ⟨t206, A250, H⟩ := H
  replace H : (if t206 = true then ((kit_In.f ((rd_T105 l1 x11_1).f3) 1 ((rd_T105 l1 x11_1).f2)).bind fun t207 => (cost_checkBuckets.j2 kj9 a0 l1 x11_1 l1 (l1.length : Int) x11_1 (!t207) ((rd_T105 l1 x11_1).f0.f0) ((rd_T105 l1 x11_1).f0.f1) ((rd_T105 l1 x11_1).f0.f2) ((rd_T105 l1 x11_1).f1.f0) ((rd_T105 l1 x11_1).f1.f1) ((rd_T105 l1 x11_1).f1.f2) ((rd_T105 l1 x11_1).f2) ((rd_T105 l1 x11_1).f3))) else (cost_checkBuckets.j2 kj9 a0 l1 x11_1 l1 (l1.length : Int) x11_1 true ((rd_T105 l1 x11_1).f0.f0) ((rd_T105 l1 x11_1).f0.f1) ((rd_T105 l1 x11_1).f0.f2) ((rd_T105 l1 x11_1).f1.f0) ((rd_T105 l1 x11_1).f1.f1) ((rd_T105 l1 x11_1).f1.f2) ((rd_T105 l1 x11_1).f2) ((rd_T105 l1 x11_1).f3))) = some r := H
  have A25 := aM A250
  clear A250
  by_cases c26 : t206 = true
  case neg =>
   replace c26 := Bool.eq_false_iff.mpr c26
   subst c26
   have H1 : (cost_checkBuckets.j2 kj9 a0 l1 x11_1 l1 (l1.length : Int) x11_1 true ((rd_T105 l1 x11_1).f0.f0) ((rd_T105 l1 x11_1).f0.f1) ((rd_T105 l1 x11_1).f0.f2) ((rd_T105 l1 x11_1).f1.f0) ((rd_T105 l1 x11_1).f1.f1) ((rd_T105 l1 x11_1).f1.f2) ((rd_T105 l1 x11_1).f2) ((rd_T105 l1 x11_1).f3)) = some r := q6_
   clear H
   have H := H1
   clear H1
   have H' := aM H
   clear H
   obtain ⟨hcz29_0, hcz29_1, hcz29_2, hcz29_3, hcz29_4, hcz29_5, hcz29_6, hcz29_7, hfz29_0, hfz29_1, hfz29_2, hfz29_3, hfz29_4, hfz29_5, hfz29_6, hfz29_7⟩ := cells8 BK199.out
   go_wp2_with (first | ((with_reducible refine gate_callee (f := 41) rfl ?_); refine goesL_ (some 41) rfl rfl Tryd.func41 q5_ rfl #[.int .i64 ((rd_T105 l1 x11_1).f2), .int .i64 1, .int .i64 2000] rfl q2_ ?_; (with_reducible refine (kit_In.calls ((rd_T105 l1 x11_1).f2) 1 2000 false _ A25.out).mono ?_); rintro e w' ⟨rfl, ⟨nd, rfl⟩⟩; refine ⟨_, rfl, ?_⟩))
   go_meet
   case rel => exact ⟨_, (true), q4_, H', ⟨by have := HK1.out; have := HJ9.out; first | omega | exact Nat.le_refl _⟩, ⟨blkR BK199.out⟩, ⟨s7q6⟩⟩
  subst c26
  have H1 : ((kit_In.f ((rd_T105 l1 x11_1).f3) 1 ((rd_T105 l1 x11_1).f2)).bind fun t207 => (cost_checkBuckets.j2 kj9 a0 l1 x11_1 l1 (l1.length : Int) x11_1 (!t207) ((rd_T105 l1 x11_1).f0.f0) ((rd_T105 l1 x11_1).f0.f1) ((rd_T105 l1 x11_1).f0.f2) ((rd_T105 l1 x11_1).f1.f0) ((rd_T105 l1 x11_1).f1.f1) ((rd_T105 l1 x11_1).f1.f2) ((rd_T105 l1 x11_1).f2) ((rd_T105 l1 x11_1).f3))) = some r := q7_
  clear H
  have H := H1
  clear H1
  replace H := Option.bind_eq_some_iff.mp H
  obtain ⟨t207, A270, H⟩ := H
  replace H : (cost_checkBuckets.j2 kj9 a0 l1 x11_1 l1 (l1.length : Int) x11_1 (!t207) ((rd_T105 l1 x11_1).f0.f0) ((rd_T105 l1 x11_1).f0.f1) ((rd_T105 l1 x11_1).f0.f2) ((rd_T105 l1 x11_1).f1.f0) ((rd_T105 l1 x11_1).f1.f1) ((rd_T105 l1 x11_1).f1.f2) ((rd_T105 l1 x11_1).f2) ((rd_T105 l1 x11_1).f3)) = some r := H
  have A27 := aM A270
  clear A270
  have H' := aM H
  clear H
  obtain ⟨hcz28_0, hcz28_1, hcz28_2, hcz28_3, hcz28_4, hcz28_5, hcz28_6, hcz28_7, hfz28_0, hfz28_1, hfz28_2, hfz28_3, hfz28_4, hfz28_5, hfz28_6, hfz28_7⟩ := cells8 BK199.out
  go_wp2_with (first | ((with_reducible refine gate_callee (f := 41) rfl ?_); refine goesL_ (some 41) rfl rfl Tryd.func41 q5_ rfl #[.int .i64 ((rd_T105 l1 x11_1).f2), .int .i64 1, .int .i64 2000] rfl q2_ ?_; (with_reducible refine (kit_In.calls ((rd_T105 l1 x11_1).f2) 1 2000 true _ A25.out).mono ?_); rintro e w' ⟨rfl, ⟨nd, rfl⟩⟩; refine ⟨_, rfl, ?_⟩) | (go_at_call 41; (with_reducible refine (kit_In.calls ((rd_T105 l1 x11_1).f3) 1 ((rd_T105 l1 x11_1).f2) t207 _ A27.out).mono ?_); rintro e w' ⟨rfl, ⟨nd, rfl⟩⟩))
  go_meet
  case rel => exact ⟨_, (!t207), q4_, H', ⟨by have := HK1.out; have := HJ9.out; first | omega | exact Nat.le_refl _⟩, ⟨blkR BK199.out⟩, ⟨s7q6⟩⟩
 clear HC24
 try clear c1
 try clear p1
 try clear q1
 try clear hx1
 try clear c2
 try clear p2
 try clear c3
 try clear c3b0
 try clear c4
 try clear c4b0
 try clear c5
 try clear c5b0
 try clear c7
 try clear c9
 try clear c9b0
 try clear c9b1
 try clear c11
 try clear p19
 try clear q19
 try clear hx19
 try clear c20
 try clear c20b0
 try clear c20b1
 try clear c23
 try clear c26
 try clear hcz12_0 hcz12_1 hcz12_2 hcz12_3 hcz12_4 hcz12_5 hcz12_6 hcz12_7
 try clear hcz21_0 hcz21_1 hcz21_2 hcz21_3 hcz21_4 hcz21_5 hcz21_6 hcz21_7
 try clear hcz22_0 hcz22_1 hcz22_2 hcz22_3 hcz22_4 hcz22_5 hcz22_6 hcz22_7
 try clear hcz28_0 hcz28_1 hcz28_2 hcz28_3 hcz28_4 hcz28_5 hcz28_6 hcz28_7
 try clear hcz29_0 hcz29_1 hcz29_2 hcz29_3 hcz29_4 hcz29_5 hcz29_6 hcz29_7
 try clear hfz12_0 hfz12_1 hfz12_2 hfz12_3 hfz12_4 hfz12_5 hfz12_6 hfz12_7
 try clear hfz21_0 hfz21_1 hfz21_2 hfz21_3 hfz21_4 hfz21_5 hfz21_6 hfz21_7
 try clear hfz22_0 hfz22_1 hfz22_2 hfz22_3 hfz22_4 hfz22_5 hfz22_6 hfz22_7
 try clear hfz28_0 hfz28_1 hfz28_2 hfz28_3 hfz28_4 hfz28_5 hfz28_6 hfz28_7
 try clear hfz29_0 hfz29_1 hfz29_2 hfz29_3 hfz29_4 hfz29_5 hfz29_6 hfz29_7
 try clear hx198_0
 try clear hx198_1
 try clear hx198_2
 try clear hx198_3
 try clear hx198_4
 try clear hx198_5
 try clear hx198_6
 try clear hx198_7
 try clear p1
 try clear p19
 try clear p198
 try clear p2
 try clear q1
 try clear q19
 try clear q198
 obtain ⟨kq, x50_23, rfl, HA, HJ23, BK199, HB⟩ := hcut
 cases kq with
 | zero => exact absurd HA.out (by simp [cost_checkBuckets.j2])
 | succ kj23 => ?_
 have H := HA.out
 clear HA
 simp only [cost_checkBuckets.j2] at H
 by_cases c30 : x50_23 = true
 · subst c30
   have H1 : (some 1) = some r := q7_
   clear H
   have H := H1
   clear H1
   obtain rfl := Option.some.inj H
   go_wp2
   go_ret
   exact ⟨eqR, s7q6⟩
 replace c30 := Bool.eq_false_iff.mpr c30
 subst c30
 have H1 : ((kit_Compare.f ((rd_T105 l1 x11_1).f0.f0) ((rd_T105 l1 x11_1).f0.f1) ((rd_T105 l1 x11_1).f0.f2) ((rd_T105 l1 x11_1).f1.f0) ((rd_T105 l1 x11_1).f1.f1) ((rd_T105 l1 x11_1).f1.f2)).bind fun t208 => (if t208 > 0 then (cost_checkBuckets.j3 kj23 a0 l1 t208 l1 (l1.length : Int) x11_1 true ((rd_T105 l1 x11_1).f0.f0) ((rd_T105 l1 x11_1).f0.f1) ((rd_T105 l1 x11_1).f0.f2) ((rd_T105 l1 x11_1).f1.f0) ((rd_T105 l1 x11_1).f1.f1) ((rd_T105 l1 x11_1).f1.f2) ((rd_T105 l1 x11_1).f2) ((rd_T105 l1 x11_1).f3)) else (if x11_1 > 0 then (if 0 ≤ (wrap64 (x11_1 - 1)) then (if (wrap64 (x11_1 - 1)) < (l1.length : Int) then ((kit_Compare.f ((rd_T105 l1 (wrap64 (x11_1 - 1))).f1.f0) ((rd_T105 l1 (wrap64 (x11_1 - 1))).f1.f1) ((rd_T105 l1 (wrap64 (x11_1 - 1))).f1.f2) ((rd_T105 l1 x11_1).f0.f0) ((rd_T105 l1 x11_1).f0.f1) ((rd_T105 l1 x11_1).f0.f2)).bind fun t210 => (cost_checkBuckets.j3 kj23 a0 l1 t208 l1 (l1.length : Int) x11_1 (decide (t210 ≥ 0)) ((rd_T105 l1 x11_1).f0.f0) ((rd_T105 l1 x11_1).f0.f1) ((rd_T105 l1 x11_1).f0.f2) ((rd_T105 l1 x11_1).f1.f0) ((rd_T105 l1 x11_1).f1.f1) ((rd_T105 l1 x11_1).f1.f2) ((rd_T105 l1 x11_1).f2) ((rd_T105 l1 x11_1).f3))) else (none)) else (none)) else (cost_checkBuckets.j3 kj23 a0 l1 t208 l1 (l1.length : Int) x11_1 false ((rd_T105 l1 x11_1).f0.f0) ((rd_T105 l1 x11_1).f0.f1) ((rd_T105 l1 x11_1).f0.f2) ((rd_T105 l1 x11_1).f1.f0) ((rd_T105 l1 x11_1).f1.f1) ((rd_T105 l1 x11_1).f1.f2) ((rd_T105 l1 x11_1).f2) ((rd_T105 l1 x11_1).f3))))) = some r := q6_
 clear H
 have H := H1
 clear H1
 replace H := Option.bind_eq_some_iff.mp H
 obtain ⟨t208, A310, H⟩ := H
 replace H : (if t208 > 0 then (cost_checkBuckets.j3 kj23 a0 l1 t208 l1 (l1.length : Int) x11_1 true ((rd_T105 l1 x11_1).f0.f0) ((rd_T105 l1 x11_1).f0.f1) ((rd_T105 l1 x11_1).f0.f2) ((rd_T105 l1 x11_1).f1.f0) ((rd_T105 l1 x11_1).f1.f1) ((rd_T105 l1 x11_1).f1.f2) ((rd_T105 l1 x11_1).f2) ((rd_T105 l1 x11_1).f3)) else (if x11_1 > 0 then (if 0 ≤ (wrap64 (x11_1 - 1)) then (if (wrap64 (x11_1 - 1)) < (l1.length : Int) then ((kit_Compare.f ((rd_T105 l1 (wrap64 (x11_1 - 1))).f1.f0) ((rd_T105 l1 (wrap64 (x11_1 - 1))).f1.f1) ((rd_T105 l1 (wrap64 (x11_1 - 1))).f1.f2) ((rd_T105 l1 x11_1).f0.f0) ((rd_T105 l1 x11_1).f0.f1) ((rd_T105 l1 x11_1).f0.f2)).bind fun t210 => (cost_checkBuckets.j3 kj23 a0 l1 t208 l1 (l1.length : Int) x11_1 (decide (t210 ≥ 0)) ((rd_T105 l1 x11_1).f0.f0) ((rd_T105 l1 x11_1).f0.f1) ((rd_T105 l1 x11_1).f0.f2) ((rd_T105 l1 x11_1).f1.f0) ((rd_T105 l1 x11_1).f1.f1) ((rd_T105 l1 x11_1).f1.f2) ((rd_T105 l1 x11_1).f2) ((rd_T105 l1 x11_1).f3))) else (none)) else (none)) else (cost_checkBuckets.j3 kj23 a0 l1 t208 l1 (l1.length : Int) x11_1 false ((rd_T105 l1 x11_1).f0.f0) ((rd_T105 l1 x11_1).f0.f1) ((rd_T105 l1 x11_1).f0.f2) ((rd_T105 l1 x11_1).f1.f0) ((rd_T105 l1 x11_1).f1.f1) ((rd_T105 l1 x11_1).f1.f2) ((rd_T105 l1 x11_1).f2) ((rd_T105 l1 x11_1).f3)))) = some r := H
 have A31 := aM A310
 clear A310
 have HC32 := aM H
 clear H
 obtain ⟨hcz33_0, hcz33_1, hcz33_2, hcz33_3, hcz33_4, hcz33_5, hcz33_6, hcz33_7, hfz33_0, hfz33_1, hfz33_2, hfz33_3, hfz33_4, hfz33_5, hfz33_6, hfz33_7⟩ := cells8 BK199.out
 go_upto_region 12 with (first | ((with_reducible refine gate_callee (f := 97) rfl ?_); refine goesL_ (some 55) rfl rfl Tryd.func97 q5_ rfl #[.agg #[.int .i64 ((rd_T105 l1 x11_1).f0.f0), .int .i64 ((rd_T105 l1 x11_1).f0.f1), .string ((rd_T105 l1 x11_1).f0.f2)], .agg #[.int .i64 ((rd_T105 l1 x11_1).f1.f0), .int .i64 ((rd_T105 l1 x11_1).f1.f1), .string ((rd_T105 l1 x11_1).f1.f2)]] rfl q2_ ?_; (with_reducible refine (kit_Compare.calls ((rd_T105 l1 x11_1).f0.f0) ((rd_T105 l1 x11_1).f0.f1) ((rd_T105 l1 x11_1).f0.f2) ((rd_T105 l1 x11_1).f1.f0) ((rd_T105 l1 x11_1).f1.f1) ((rd_T105 l1 x11_1).f1.f2) t208 _ A31.out).mono ?_); rintro e w34 ⟨rfl, hb⟩; refine ⟨_, rfl, ?_⟩; replace BK199 := aM (bbR BK199.out hb); replace HB := aM (below_step s7q6 hb); (try clear hb); (try clear hb2); (try clear hk); (try clear hi)))
 (try simp only [Act.put, sqa, sqb, sqc])
 go_cut [73] (fun v73 wc => ∃ (kq : Nat) (x73_31 : Bool), v73 = .bool x73_31 ∧ Aside0 (cost_checkBuckets.j3 kq a0 l1 t208 l1 (l1.length : Int) x11_1 x73_31 ((rd_T105 l1 x11_1).f0.f0) ((rd_T105 l1 x11_1).f0.f1) ((rd_T105 l1 x11_1).f0.f2) ((rd_T105 l1 x11_1).f1.f0) ((rd_T105 l1 x11_1).f1.f1) ((rd_T105 l1 x11_1).f1.f2) ((rd_T105 l1 x11_1).f2) ((rd_T105 l1 x11_1).f3) = some r) ∧ Aside0 (kq ≤ kj23) ∧ Aside0 (wc.heap[gb199]? = some (.cells #[.int .i64 ((rd_T105 l1 x11_1).f0.f0), .int .i64 ((rd_T105 l1 x11_1).f0.f1), .string ((rd_T105 l1 x11_1).f0.f2), .int .i64 ((rd_T105 l1 x11_1).f1.f0), .int .i64 ((rd_T105 l1 x11_1).f1.f1), .string ((rd_T105 l1 x11_1).f1.f2), .int .i64 ((rd_T105 l1 x11_1).f2), .int .i64 ((rd_T105 l1 x11_1).f3)] 105 (0, 0))) ∧ Aside0 (Below w.heap.size w wc))
 case first =>
  have H := HC32.out
  clear HC32
  by_cases c35 : t208 > 0
  · rw [if_pos c35] at H
    have c35b0 : decide (0 < t208) = true := decide_eq_true c35
    clear c35
    (first | rw [c35b0] | (simp only [i64_w, i32_w]; rw [c35b0]) | skip)
    have H' := aM H
    clear H
    try go_wp2
    have n0_ := aM (blk_drew BK199.out)
    have n1_ := aM (below_drew1 HB.out)
    clear BK199
    clear HB
    have BK199 := n0_
    have HB := n1_
    clear n0_ n1_
    refine start_ (n := 18) (S := fun w' => True) (ds := []) #[fF, fF, fF, fF, fF, fF, fF, fF, fF, fF, fF, fF, fF, fF, fF, fF, fF, fF] q5_ rfl rfl trivial (fun hHeld => ?_); refine with_tabW cost_checkBuckets.tab12 cost_checkBuckets.bits12 (fun HT_ HW_ => ?_)
    generalize w34.drew = w36 at BK199 HB hHeld ⊢
    refine pure_ (i := 0) (N := some 56) (v := ?_) (a' := ?_) #[tT, fF, fF, fF, fF, fF, fF, fF, fF, fF, fF, fF, fF, fF, fF, fF, fF, fF] rfl rfl (any_of HT_.out q5_) (fun _ _ _ h => h) (Or.inl ⟨by rfl, ?_⟩) ?_ ?_
    rotate_left
    · intro w'
      go_simp
      with_reducible rfl
    rotate_left
    · simp only [Act.put, sqa, sqb, sqc, i64_w, i32_w]
      rfl
    refine pure_ (i := 1) (N := some 57) (v := ?_) (a' := ?_) #[tT, tT, fF, fF, fF, fF, fF, fF, fF, fF, fF, fF, fF, fF, fF, fF, fF, fF] rfl rfl (any_of HT_.out q5_) (fun _ _ _ h => h) (Or.inl ⟨by rfl, ?_⟩) ?_ ?_
    rotate_left
    · intro w'
      go_simp
      with_reducible rfl
    rotate_left
    · simp only [Act.put, sqa, sqb, sqc, i64_w, i32_w]
      rfl
    refine pure_ (i := 2) (N := some 58) (v := ?_) (a' := ?_) #[tT, tT, tT, fF, fF, fF, fF, fF, fF, fF, fF, fF, fF, fF, fF, fF, fF, fF] rfl rfl (any_of HT_.out q5_) (fun _ _ _ h => h) (Or.inl ⟨by rfl, ?_⟩) ?_ ?_
    rotate_left
    · intro w'
      go_simp
      with_reducible rfl
    rotate_left
    · simp only [Act.put, sqa, sqb, sqc, i64_w, i32_w]
      rfl
    refine pure_ (i := 3) (N := some 59) (v := undef) (a' := ?_) #[tT, tT, tT, tT, fF, fF, fF, fF, fF, fF, fF, fF, fF, fF, fF, fF, fF, fF] rfl rfl (any_of HT_.out q5_) (fun _ _ _ h => h) (Or.inr ⟨by rfl, rfl⟩) ?_ ?_
    rotate_left
    · simp only [Act.put, sqa, sqb, sqc, i64_w, i32_w]
      rfl
    refine pure_ (i := 4) (N := some 60) (v := undef) (a' := ?_) #[tT, tT, tT, tT, tT, fF, fF, fF, fF, fF, fF, fF, fF, fF, fF, fF, fF, fF] rfl rfl (any_of HT_.out q5_) (fun _ _ _ h => h) (Or.inr ⟨by rfl, rfl⟩) ?_ ?_
    rotate_left
    · simp only [Act.put, sqa, sqb, sqc, i64_w, i32_w]
      rfl
    refine pure_ (i := 5) (N := some 61) (v := undef) (a' := ?_) #[tT, tT, tT, tT, tT, tT, fF, fF, fF, fF, fF, fF, fF, fF, fF, fF, fF, fF] rfl rfl (any_of HT_.out q5_) (fun _ _ _ h => h) (Or.inr ⟨by rfl, rfl⟩) ?_ ?_
    rotate_left
    · simp only [Act.put, sqa, sqb, sqc, i64_w, i32_w]
      rfl
    refine pure_ (i := 6) (N := some 62) (v := undef) (a' := ?_) #[tT, tT, tT, tT, tT, tT, tT, fF, fF, fF, fF, fF, fF, fF, fF, fF, fF, fF] rfl rfl (any_of HT_.out q5_) (fun _ _ _ h => h) (Or.inr ⟨by rfl, rfl⟩) ?_ ?_
    rotate_left
    · simp only [Act.put, sqa, sqb, sqc, i64_w, i32_w]
      rfl
    refine pure_ (i := 7) (N := some 63) (v := undef) (a' := ?_) #[tT, tT, tT, tT, tT, tT, tT, tT, fF, fF, fF, fF, fF, fF, fF, fF, fF, fF] rfl rfl (any_of HT_.out q5_) (fun _ _ _ h => h) (Or.inr ⟨by rfl, rfl⟩) ?_ ?_
    rotate_left
    · simp only [Act.put, sqa, sqb, sqc, i64_w, i32_w]
      rfl
    refine pure_ (i := 8) (N := some 64) (v := undef) (a' := ?_) #[tT, tT, tT, tT, tT, tT, tT, tT, tT, fF, fF, fF, fF, fF, fF, fF, fF, fF] rfl rfl (any_of HT_.out q5_) (fun _ _ _ h => h) (Or.inr ⟨by rfl, rfl⟩) ?_ ?_
    rotate_left
    · simp only [Act.put, sqa, sqb, sqc, i64_w, i32_w]
      rfl
    refine pure_ (i := 9) (N := some 65) (v := undef) (a' := ?_) #[tT, tT, tT, tT, tT, tT, tT, tT, tT, tT, fF, fF, fF, fF, fF, fF, fF, fF] rfl rfl (any_of HT_.out q5_) (fun _ _ _ h => h) (Or.inr ⟨by rfl, rfl⟩) ?_ ?_
    rotate_left
    · simp only [Act.put, sqa, sqb, sqc, i64_w, i32_w]
      rfl
    refine pure_ (i := 10) (N := some 66) (v := undef) (a' := ?_) #[tT, tT, tT, tT, tT, tT, tT, tT, tT, tT, tT, fF, fF, fF, fF, fF, fF, fF] rfl rfl (any_of HT_.out q5_) (fun _ _ _ h => h) (Or.inr ⟨by rfl, rfl⟩) ?_ ?_
    rotate_left
    · simp only [Act.put, sqa, sqb, sqc, i64_w, i32_w]
      rfl
    refine pure_ (i := 11) (N := some 67) (v := undef) (a' := ?_) #[tT, tT, tT, tT, tT, tT, tT, tT, tT, tT, tT, tT, fF, fF, fF, fF, fF, fF] rfl rfl (any_of HT_.out q5_) (fun _ _ _ h => h) (Or.inr ⟨by rfl, rfl⟩) ?_ ?_
    rotate_left
    · simp only [Act.put, sqa, sqb, sqc, i64_w, i32_w]
      rfl
    refine pure_ (i := 12) (N := some 68) (v := undef) (a' := ?_) #[tT, tT, tT, tT, tT, tT, tT, tT, tT, tT, tT, tT, tT, fF, fF, fF, fF, fF] rfl rfl (any_of HT_.out q5_) (fun _ _ _ h => h) (Or.inr ⟨by rfl, rfl⟩) ?_ ?_
    rotate_left
    · simp only [Act.put, sqa, sqb, sqc, i64_w, i32_w]
      rfl
    refine pure_ (i := 13) (N := some 69) (v := undef) (a' := ?_) #[tT, tT, tT, tT, tT, tT, tT, tT, tT, tT, tT, tT, tT, tT, fF, fF, fF, fF] rfl rfl (any_of HT_.out q5_) (fun _ _ _ h => h) (Or.inr ⟨by rfl, rfl⟩) ?_ ?_
    rotate_left
    · simp only [Act.put, sqa, sqb, sqc, i64_w, i32_w]
      rfl
    refine pure_ (i := 14) (N := some 70) (v := undef) (a' := ?_) #[tT, tT, tT, tT, tT, tT, tT, tT, tT, tT, tT, tT, tT, tT, tT, fF, fF, fF] rfl rfl (any_of HT_.out q5_) (fun _ _ _ h => h) (Or.inr ⟨by rfl, rfl⟩) ?_ ?_
    rotate_left
    · simp only [Act.put, sqa, sqb, sqc, i64_w, i32_w]
      rfl
    refine pure_ (i := 15) (N := some 71) (v := undef) (a' := ?_) #[tT, tT, tT, tT, tT, tT, tT, tT, tT, tT, tT, tT, tT, tT, tT, tT, fF, fF] rfl rfl (any_of HT_.out q5_) (fun _ _ _ h => h) (Or.inr ⟨by rfl, rfl⟩) ?_ ?_
    rotate_left
    · simp only [Act.put, sqa, sqb, sqc, i64_w, i32_w]
      rfl
    refine pure_ (i := 16) (N := some 72) (v := undef) (a' := ?_) #[tT, tT, tT, tT, tT, tT, tT, tT, tT, tT, tT, tT, tT, tT, tT, tT, tT, fF] rfl rfl (any_of HT_.out q5_) (fun _ _ _ h => h) (Or.inr ⟨by rfl, rfl⟩) ?_ ?_
    rotate_left
    · simp only [Act.put, sqa, sqb, sqc, i64_w, i32_w]
      rfl
    refine pure_ (i := 17) (N := some 73) (v := ?_) (a' := ?_) #[tT, tT, tT, tT, tT, tT, tT, tT, tT, tT, tT, tT, tT, tT, tT, tT, tT, tT] rfl rfl (any_of HT_.out q5_) (fun _ _ _ h => h) (Or.inl ⟨by rfl, ?_⟩) ?_ ?_
    rotate_left
    · intro w'
      go_simp
      with_reducible rfl
    rotate_left
    · simp only [Act.put, sqa, sqb, sqc, i64_w, i32_w]
      rfl
    refine done_ (done_of HT_.out q5_) ?_
    try go_wp2
    go_meet
    case rel => exact ⟨_, (true), q4_, H', ⟨by have := HK1.out; have := HJ9.out; have := HJ23.out; first | omega | exact Nat.le_refl _⟩, ⟨blkR BK199.out⟩, ⟨s7q6⟩⟩
  rw [if_neg c35] at H
  have c35b0 : decide (0 < t208) = false := decide_eq_false c35
  clear c35
  (first | rw [c35b0] | (simp only [i64_w, i32_w]; rw [c35b0]) | skip)
  by_cases c37 : x11_1 > 0
  case neg =>
   rw [if_neg c37] at H
   have c37b0 : decide (0 < x11_1) = false := decide_eq_false c37
   clear c37
   have H' := aM H
   clear H
   try go_wp2
   have n0_ := aM (blk_drew BK199.out)
   have n1_ := aM (below_drew1 HB.out)
   clear BK199
   clear HB
   have BK199 := n0_
   have HB := n1_
   clear n0_ n1_
   refine start_ (n := 18) (S := fun w' => True) (ds := []) #[fF, fF, fF, fF, fF, fF, fF, fF, fF, fF, fF, fF, fF, fF, fF, fF, fF, fF] q5_ rfl rfl trivial (fun hHeld => ?_); refine with_tabW cost_checkBuckets.tab12 cost_checkBuckets.bits12 (fun HT_ HW_ => ?_)
   generalize w34.drew = w44 at BK199 HB hHeld ⊢
   refine pure_ (i := 0) (N := some 56) (v := ?_) (a' := ?_) #[tT, fF, fF, fF, fF, fF, fF, fF, fF, fF, fF, fF, fF, fF, fF, fF, fF, fF] rfl rfl (any_of HT_.out q5_) (fun _ _ _ h => h) (Or.inl ⟨by rfl, ?_⟩) ?_ ?_
   rotate_left
   · intro w'
     go_simp
     with_reducible rfl
   rotate_left
   · simp only [Act.put, sqa, sqb, sqc, i64_w, i32_w]
     rfl
   refine pure_ (i := 1) (N := some 57) (v := ?_) (a' := ?_) #[tT, tT, fF, fF, fF, fF, fF, fF, fF, fF, fF, fF, fF, fF, fF, fF, fF, fF] rfl rfl (any_of HT_.out q5_) (fun _ _ _ h => h) (Or.inl ⟨by rfl, ?_⟩) ?_ ?_
   rotate_left
   · intro w'
     go_simp
     with_reducible rfl
   rotate_left
   · simp only [Act.put, sqa, sqb, sqc, i64_w, i32_w]
     rfl
   refine pure_ (i := 2) (N := some 58) (v := ?_) (a' := ?_) #[tT, tT, tT, fF, fF, fF, fF, fF, fF, fF, fF, fF, fF, fF, fF, fF, fF, fF] rfl rfl (any_of HT_.out q5_) (fun _ _ _ h => h) (Or.inl ⟨by rfl, ?_⟩) ?_ ?_
   rotate_left
   · intro w'
     go_simp
     with_reducible rfl
   rotate_left
   · simp only [Act.put, sqa, sqb, sqc, i64_w, i32_w]
     rfl
   refine pure_ (i := 3) (N := some 59) (v := ?_) (a' := ?_) #[tT, tT, tT, tT, fF, fF, fF, fF, fF, fF, fF, fF, fF, fF, fF, fF, fF, fF] rfl rfl (any_of HT_.out q5_) (fun _ _ _ h => h) (Or.inl ⟨by rfl, ?_⟩) ?_ ?_
   rotate_left
   · intro w'
     go_simp
     with_reducible rfl
   rotate_left
   · simp only [Act.put, sqa, sqb, sqc, i64_w, i32_w]
     rfl
   refine pure_ (i := 4) (N := some 60) (v := ?_) (a' := ?_) #[tT, tT, tT, tT, tT, fF, fF, fF, fF, fF, fF, fF, fF, fF, fF, fF, fF, fF] rfl rfl (any_of HT_.out q5_) (fun _ _ _ h => h) (Or.inl ⟨by rfl, ?_⟩) ?_ ?_
   rotate_left
   · intro w'
     go_simp
     with_reducible rfl
   rotate_left
   · simp only [Act.put, sqa, sqb, sqc, i64_w, i32_w]
     rfl
   refine pure_ (i := 5) (N := some 61) (v := ?_) (a' := ?_) #[tT, tT, tT, tT, tT, tT, fF, fF, fF, fF, fF, fF, fF, fF, fF, fF, fF, fF] rfl rfl (any_of HT_.out q5_) (fun _ _ _ h => h) (Or.inl ⟨by rfl, ?_⟩) ?_ ?_
   rotate_left
   · intro w'
     go_simp
     with_reducible rfl
   rotate_left
   · simp only [Act.put, sqa, sqb, sqc, i64_w, i32_w]
     rfl
   refine pure_ (i := 6) (N := some 62) (v := undef) (a' := ?_) #[tT, tT, tT, tT, tT, tT, tT, fF, fF, fF, fF, fF, fF, fF, fF, fF, fF, fF] rfl rfl (any_of HT_.out q5_) (fun _ _ _ h => h) (Or.inr ⟨by rfl, rfl⟩) ?_ ?_
   rotate_left
   · simp only [Act.put, sqa, sqb, sqc, i64_w, i32_w]
     rfl
   refine pure_ (i := 7) (N := some 63) (v := undef) (a' := ?_) #[tT, tT, tT, tT, tT, tT, tT, tT, fF, fF, fF, fF, fF, fF, fF, fF, fF, fF] rfl rfl (any_of HT_.out q5_) (fun _ _ _ h => h) (Or.inr ⟨by rfl, rfl⟩) ?_ ?_
   rotate_left
   · simp only [Act.put, sqa, sqb, sqc, i64_w, i32_w]
     rfl
   refine pure_ (i := 8) (N := some 64) (v := undef) (a' := ?_) #[tT, tT, tT, tT, tT, tT, tT, tT, tT, fF, fF, fF, fF, fF, fF, fF, fF, fF] rfl rfl (any_of HT_.out q5_) (fun _ _ _ h => h) (Or.inr ⟨by rfl, rfl⟩) ?_ ?_
   rotate_left
   · simp only [Act.put, sqa, sqb, sqc, i64_w, i32_w]
     rfl
   refine pure_ (i := 9) (N := some 65) (v := undef) (a' := ?_) #[tT, tT, tT, tT, tT, tT, tT, tT, tT, tT, fF, fF, fF, fF, fF, fF, fF, fF] rfl rfl (any_of HT_.out q5_) (fun _ _ _ h => h) (Or.inr ⟨by rfl, rfl⟩) ?_ ?_
   rotate_left
   · simp only [Act.put, sqa, sqb, sqc, i64_w, i32_w]
     rfl
   refine pure_ (i := 10) (N := some 66) (v := undef) (a' := ?_) #[tT, tT, tT, tT, tT, tT, tT, tT, tT, tT, tT, fF, fF, fF, fF, fF, fF, fF] rfl rfl (any_of HT_.out q5_) (fun _ _ _ h => h) (Or.inr ⟨by rfl, rfl⟩) ?_ ?_
   rotate_left
   · simp only [Act.put, sqa, sqb, sqc, i64_w, i32_w]
     rfl
   refine pure_ (i := 11) (N := some 67) (v := undef) (a' := ?_) #[tT, tT, tT, tT, tT, tT, tT, tT, tT, tT, tT, tT, fF, fF, fF, fF, fF, fF] rfl rfl (any_of HT_.out q5_) (fun _ _ _ h => h) (Or.inr ⟨by rfl, rfl⟩) ?_ ?_
   rotate_left
   · simp only [Act.put, sqa, sqb, sqc, i64_w, i32_w]
     rfl
   refine pure_ (i := 12) (N := some 68) (v := undef) (a' := ?_) #[tT, tT, tT, tT, tT, tT, tT, tT, tT, tT, tT, tT, tT, fF, fF, fF, fF, fF] rfl rfl (any_of HT_.out q5_) (fun _ _ _ h => h) (Or.inr ⟨by rfl, rfl⟩) ?_ ?_
   rotate_left
   · simp only [Act.put, sqa, sqb, sqc, i64_w, i32_w]
     rfl
   refine pure_ (i := 13) (N := some 69) (v := undef) (a' := ?_) #[tT, tT, tT, tT, tT, tT, tT, tT, tT, tT, tT, tT, tT, tT, fF, fF, fF, fF] rfl rfl (any_of HT_.out q5_) (fun _ _ _ h => h) (Or.inr ⟨by rfl, rfl⟩) ?_ ?_
   rotate_left
   · simp only [Act.put, sqa, sqb, sqc, i64_w, i32_w]
     rfl
   refine pure_ (i := 14) (N := some 70) (v := undef) (a' := ?_) #[tT, tT, tT, tT, tT, tT, tT, tT, tT, tT, tT, tT, tT, tT, tT, fF, fF, fF] rfl rfl (any_of HT_.out q5_) (fun _ _ _ h => h) (Or.inr ⟨by rfl, rfl⟩) ?_ ?_
   rotate_left
   · simp only [Act.put, sqa, sqb, sqc, i64_w, i32_w]
     rfl
   refine pure_ (i := 15) (N := some 71) (v := undef) (a' := ?_) #[tT, tT, tT, tT, tT, tT, tT, tT, tT, tT, tT, tT, tT, tT, tT, tT, fF, fF] rfl rfl (any_of HT_.out q5_) (fun _ _ _ h => h) (Or.inr ⟨by rfl, rfl⟩) ?_ ?_
   rotate_left
   · simp only [Act.put, sqa, sqb, sqc, i64_w, i32_w]
     rfl
   refine pure_ (i := 16) (N := some 72) (v := ?_) (a' := ?_) #[tT, tT, tT, tT, tT, tT, tT, tT, tT, tT, tT, tT, tT, tT, tT, tT, tT, fF] rfl rfl (any_of HT_.out q5_) (fun _ _ _ h => h) (Or.inl ⟨by rfl, ?_⟩) ?_ ?_
   rotate_left
   · intro w'
     go_simp
     with_reducible rfl
   rotate_left
   · simp only [Act.put, sqa, sqb, sqc, i64_w, i32_w]
     rfl
   refine pure_ (i := 17) (N := some 73) (v := ?_) (a' := ?_) #[tT, tT, tT, tT, tT, tT, tT, tT, tT, tT, tT, tT, tT, tT, tT, tT, tT, tT] rfl rfl (any_of HT_.out q5_) (fun _ _ _ h => h) (Or.inl ⟨by rfl, ?_⟩) ?_ ?_
   rotate_left
   · intro w'
     go_simp
     with_reducible rfl
   rotate_left
   · simp only [Act.put, sqa, sqb, sqc, i64_w, i32_w]
     rfl
   refine done_ (done_of HT_.out q5_) ?_
   try go_wp2
   go_meet
   case rel => exact ⟨_, (false), q4_, H', ⟨by have := HK1.out; have := HJ9.out; have := HJ23.out; first | omega | exact Nat.le_refl _⟩, ⟨blkR BK199.out⟩, ⟨s7q6⟩⟩
  rw [if_pos c37] at H
  have c37b0 : decide (0 < x11_1) = true := decide_eq_true c37
  clear c37
  obtain ⟨ji38, hji38⟩ : ∃ j_ : Int, (wrap64 (x11_1 - 1)) = j_ := ⟨_, rfl⟩
  replace H : (if 0 ≤ (ji38) then (if (ji38) < (l1.length : Int) then ((kit_Compare.f ((rd_T105 l1 (ji38)).f1.f0) ((rd_T105 l1 (ji38)).f1.f1) ((rd_T105 l1 (ji38)).f1.f2) ((rd_T105 l1 x11_1).f0.f0) ((rd_T105 l1 x11_1).f0.f1) ((rd_T105 l1 x11_1).f0.f2)).bind fun t210 => (cost_checkBuckets.j3 kj23 a0 l1 t208 l1 (l1.length : Int) x11_1 (decide (t210 ≥ 0)) ((rd_T105 l1 x11_1).f0.f0) ((rd_T105 l1 x11_1).f0.f1) ((rd_T105 l1 x11_1).f0.f2) ((rd_T105 l1 x11_1).f1.f0) ((rd_T105 l1 x11_1).f1.f1) ((rd_T105 l1 x11_1).f1.f2) ((rd_T105 l1 x11_1).f2) ((rd_T105 l1 x11_1).f3))) else (none)) else (none)) = some r := by first | (rw [hji38] at H; exact H) | (simp only [hji38] at H ⊢; exact H)
  have hji38w : (IntKind.i64.wrap (x11_1 - 1)) = ji38 := (i64_w _).trans hji38
  by_cases c39 : 0 ≤ (ji38)
  case neg =>
   rw [if_neg c39] at H
   exact absurd H (by simp)
  rw [if_pos c39] at H
  have c39b0 : decide (0 ≤ (ji38)) = true := decide_eq_true c39
  clear c39
  by_cases c40 : (ji38) < (l1.length : Int)
  case neg =>
   rw [if_neg c40] at H
   exact absurd H (by simp)
  rw [if_pos c40] at H
  have c40b0 : decide ((ji38) < (l1.length : Int)) = true := decide_eq_true c40
  clear c40
  replace H := Option.bind_eq_some_iff.mp H
  obtain ⟨t210, A410, H⟩ := H
  replace H : (cost_checkBuckets.j3 kj23 a0 l1 t208 l1 (l1.length : Int) x11_1 (decide (t210 ≥ 0)) ((rd_T105 l1 x11_1).f0.f0) ((rd_T105 l1 x11_1).f0.f1) ((rd_T105 l1 x11_1).f0.f2) ((rd_T105 l1 x11_1).f1.f0) ((rd_T105 l1 x11_1).f1.f1) ((rd_T105 l1 x11_1).f1.f2) ((rd_T105 l1 x11_1).f2) ((rd_T105 l1 x11_1).f3)) = some r := H
  have A41 := aM A410
  clear A410
  have H' := aM H
  clear H
  try go_wp2
  have n0_ := aM (blk_drew BK199.out)
  have n1_ := aM (below_drew1 HB.out)
  clear BK199
  clear HB
  have BK199 := n0_
  have HB := n1_
  clear n0_ n1_
  have p209 : 0 ≤ ((ji38) : Int) := of_decide_eq_true q3_
  have q209 : (ji38) < (l1.length : Int) := of_decide_eq_true q3_
  obtain ⟨ad209, e209, hx209_0, hx209_1, hx209_2, hx209_3, hx209_4, hx209_5, hx209_6, hx209_7⟩ := at_T105 HR1.out (ji38) p209 q209
  have hw209_7 := hx209_7
  have hw209_6 := hx209_6
  have hw209_5 := hx209_5
  have hw209_4 := hx209_4
  have hw209_3 := hx209_3
  have hw209_2 := hx209_2
  have hw209_1 := hx209_1
  have hw209_0 := hx209_0
  obtain rfl : ad198 = ad209 := (by injection e209)
  replace hx209_0 := up_ HB.out hx209_0
  replace hx209_1 := up_ HB.out hx209_1
  replace hx209_2 := up_ HB.out hx209_2
  replace hx209_3 := up_ HB.out hx209_3
  replace hx209_4 := up_ HB.out hx209_4
  replace hx209_5 := up_ HB.out hx209_5
  replace hx209_6 := up_ HB.out hx209_6
  replace hx209_7 := up_ HB.out hx209_7
  replace p209 := eq_true p209
  replace q209 := eq_true q209
  refine start_ (n := 18) (S := fun w' => w'.cell? ⟨gb199, 0, none⟩ = some (.int .i64 ((rd_T105 l1 x11_1).f0.f0)) ∧ w'.cell? ⟨gb199, 1, none⟩ = some (.int .i64 ((rd_T105 l1 x11_1).f0.f1)) ∧ w'.cell? ⟨gb199, 2, none⟩ = some (.string ((rd_T105 l1 x11_1).f0.f2)) ∧ w'.cell? ⟨gb199, 3, none⟩ = some (.int .i64 ((rd_T105 l1 x11_1).f1.f0)) ∧ w'.cell? ⟨gb199, 4, none⟩ = some (.int .i64 ((rd_T105 l1 x11_1).f1.f1)) ∧ w'.cell? ⟨gb199, 5, none⟩ = some (.string ((rd_T105 l1 x11_1).f1.f2)) ∧ w'.cell? ⟨gb199, 6, none⟩ = some (.int .i64 ((rd_T105 l1 x11_1).f2)) ∧ w'.cell? ⟨gb199, 7, none⟩ = some (.int .i64 ((rd_T105 l1 x11_1).f3)) ∧ w'.cell? (ad198.add (((ji38)).toNat * 8)) = some (.int .i64 ((rd_T105 l1 (ji38)).f0.f0)) ∧ w'.cell? ⟨(ad198.add (((ji38)).toNat * 8)).block, (ad198.add (((ji38)).toNat * 8)).off + 1, none⟩ = some (.int .i64 ((rd_T105 l1 (ji38)).f0.f1)) ∧ w'.cell? ⟨(ad198.add (((ji38)).toNat * 8)).block, (ad198.add (((ji38)).toNat * 8)).off + 2, none⟩ = some (.string ((rd_T105 l1 (ji38)).f0.f2)) ∧ w'.cell? ⟨(ad198.add (((ji38)).toNat * 8)).block, (ad198.add (((ji38)).toNat * 8)).off + 3, none⟩ = some (.int .i64 ((rd_T105 l1 (ji38)).f1.f0)) ∧ w'.cell? ⟨(ad198.add (((ji38)).toNat * 8)).block, (ad198.add (((ji38)).toNat * 8)).off + 4, none⟩ = some (.int .i64 ((rd_T105 l1 (ji38)).f1.f1)) ∧ w'.cell? ⟨(ad198.add (((ji38)).toNat * 8)).block, (ad198.add (((ji38)).toNat * 8)).off + 5, none⟩ = some (.string ((rd_T105 l1 (ji38)).f1.f2)) ∧ w'.cell? ⟨(ad198.add (((ji38)).toNat * 8)).block, (ad198.add (((ji38)).toNat * 8)).off + 6, none⟩ = some (.int .i64 ((rd_T105 l1 (ji38)).f2)) ∧ w'.cell? ⟨(ad198.add (((ji38)).toNat * 8)).block, (ad198.add (((ji38)).toNat * 8)).off + 7, none⟩ = some (.int .i64 ((rd_T105 l1 (ji38)).f3))) (ds := []) #[fF, fF, fF, fF, fF, fF, fF, fF, fF, fF, fF, fF, fF, fF, fF, fF, fF, fF] q5_ rfl rfl ⟨(blk_cell BK199.out 0).trans rfl, (blk_cell BK199.out 1).trans rfl, (blk_cell BK199.out 2).trans rfl, (blk_cell BK199.out 3).trans rfl, (blk_cell BK199.out 4).trans rfl, (blk_cell BK199.out 5).trans rfl, (blk_cell BK199.out 6).trans rfl, (blk_cell BK199.out 7).trans rfl, (up_ HB.out hw209_0), (up_ HB.out hw209_1), (up_ HB.out hw209_2), (up_ HB.out hw209_3), (up_ HB.out hw209_4), (up_ HB.out hw209_5), (up_ HB.out hw209_6), (up_ HB.out hw209_7)⟩ (fun hHeld => ?_); refine with_tabW cost_checkBuckets.tab12 cost_checkBuckets.bits12 (fun HT_ HW_ => ?_)
  generalize w34.drew = w42 at BK199 HB hx209_0 hx209_1 hx209_2 hx209_3 hx209_4 hx209_5 hx209_6 hx209_7 hHeld ⊢
  refine pure_ (i := 0) (N := some 56) (v := ?_) (a' := ?_) #[tT, fF, fF, fF, fF, fF, fF, fF, fF, fF, fF, fF, fF, fF, fF, fF, fF, fF] rfl rfl (any_of HT_.out q5_) (fun _ _ _ h => h) (Or.inl ⟨by rfl, ?_⟩) ?_ ?_
  rotate_left
  · intro w'
    go_simp
    with_reducible rfl
  rotate_left
  · simp only [Act.put, sqa, sqb, sqc, i64_w, i32_w]
    rfl
  refine pure_ (i := 1) (N := some 57) (v := ?_) (a' := ?_) #[tT, tT, fF, fF, fF, fF, fF, fF, fF, fF, fF, fF, fF, fF, fF, fF, fF, fF] rfl rfl (any_of HT_.out q5_) (fun _ _ _ h => h) (Or.inl ⟨by rfl, ?_⟩) ?_ ?_
  rotate_left
  · intro w'
    go_simp
    with_reducible rfl
  rotate_left
  · simp only [Act.put, sqa, sqb, sqc, i64_w, i32_w]
    rfl
  refine pure_ (i := 2) (N := some 58) (v := ?_) (a' := ?_) #[tT, tT, tT, fF, fF, fF, fF, fF, fF, fF, fF, fF, fF, fF, fF, fF, fF, fF] rfl rfl (any_of HT_.out q5_) (fun _ _ _ h => h) (Or.inl ⟨by rfl, ?_⟩) ?_ ?_
  rotate_left
  · intro w'
    go_simp
    with_reducible rfl
  rotate_left
  · simp only [Act.put, sqa, sqb, sqc, i64_w, i32_w]
    rfl
  refine pure_ (i := 3) (N := some 59) (v := ?_) (a' := ?_) #[tT, tT, tT, tT, fF, fF, fF, fF, fF, fF, fF, fF, fF, fF, fF, fF, fF, fF] rfl rfl (any_of HT_.out q5_) (fun _ _ _ h => h) (Or.inl ⟨by rfl, ?_⟩) ?_ ?_
  rotate_left
  · intro w'
    go_simp
    with_reducible rfl
  rotate_left
  · simp only [Act.put, sqa, sqb, sqc, i64_w, i32_w]
    rfl
  refine pure_ (i := 4) (N := some 60) (v := ?_) (a' := ?_) #[tT, tT, tT, tT, tT, fF, fF, fF, fF, fF, fF, fF, fF, fF, fF, fF, fF, fF] rfl rfl (any_of HT_.out q5_) (fun _ _ _ h => h) (Or.inl ⟨by rfl, ?_⟩) ?_ ?_
  rotate_left
  · intro w'
    go_simp
    with_reducible rfl
  rotate_left
  · simp only [Act.put, sqa, sqb, sqc, i64_w, i32_w]
    rfl
  refine pure_ (i := 5) (N := some 61) (v := ?_) (a' := ?_) #[tT, tT, tT, tT, tT, tT, fF, fF, fF, fF, fF, fF, fF, fF, fF, fF, fF, fF] rfl rfl (any_of HT_.out q5_) (fun _ _ _ h => h) (Or.inl ⟨by rfl, ?_⟩) ?_ ?_
  rotate_left
  · intro w'
    go_simp
    with_reducible rfl
  rotate_left
  · simp only [Act.put, sqa, sqb, sqc, i64_w, i32_w]
    rfl
  refine pure_ (i := 6) (N := some 62) (v := ?_) (a' := ?_) #[tT, tT, tT, tT, tT, tT, tT, fF, fF, fF, fF, fF, fF, fF, fF, fF, fF, fF] rfl rfl (any_of HT_.out q5_) (fun _ _ _ h => h) (Or.inl ⟨by rfl, ?_⟩) ?_ ?_
  rotate_left
  · intro w'
    go_simp
    with_reducible rfl
  rotate_left
  · simp only [Act.put, sqa, sqb, sqc, i64_w, i32_w]
    rfl
  refine pure_ (i := 7) (N := some 63) (v := ?_) (a' := ?_) #[tT, tT, tT, tT, tT, tT, tT, tT, fF, fF, fF, fF, fF, fF, fF, fF, fF, fF] rfl rfl (any_of HT_.out q5_) (fun _ _ _ h => h) (Or.inl ⟨by rfl, ?_⟩) ?_ ?_
  rotate_left
  · intro w'
    go_simp
    with_reducible rfl
  rotate_left
  · simp only [Act.put, sqa, sqb, sqc, i64_w, i32_w]
    rfl
  refine pure_ (i := 8) (N := some 64) (v := ?_) (a' := ?_) #[tT, tT, tT, tT, tT, tT, tT, tT, tT, fF, fF, fF, fF, fF, fF, fF, fF, fF] rfl rfl (any_of HT_.out q5_) (fun _ _ _ h => h) (Or.inl ⟨by rfl, ?_⟩) ?_ ?_
  rotate_left
  · intro w'
    go_simp
    with_reducible rfl
  rotate_left
  · simp only [Act.put, sqa, sqb, sqc, i64_w, i32_w]
    rfl
  refine pure_ (i := 9) (N := some 65) (v := ?_) (a' := ?_) #[tT, tT, tT, tT, tT, tT, tT, tT, tT, tT, fF, fF, fF, fF, fF, fF, fF, fF] rfl rfl (any_of HT_.out q5_) (fun _ _ _ h => h) (Or.inl ⟨by rfl, ?_⟩) ?_ ?_
  rotate_left
  · intro w'
    go_simp
    with_reducible rfl
  rotate_left
  · simp only [Act.put, sqa, sqb, sqc, i64_w, i32_w]
    rfl
  refine pure_ (i := 10) (N := some 66) (v := ?_) (a' := ?_) #[tT, tT, tT, tT, tT, tT, tT, tT, tT, tT, tT, fF, fF, fF, fF, fF, fF, fF] rfl rfl (any_of HT_.out q5_) (fun _ _ _ h => h) (Or.inl ⟨by rfl, ?_⟩) ?_ ?_
  rotate_left
  · intro w'
    go_simp
    with_reducible rfl
  rotate_left
  · simp only [Act.put, sqa, sqb, sqc, i64_w, i32_w]
    rfl
  refine pure_ (i := 12) (N := some 68) (v := ?_) (a' := ?_) #[tT, tT, tT, tT, tT, tT, tT, tT, tT, tT, tT, fF, tT, fF, fF, fF, fF, fF] rfl rfl (any_of HT_.out q5_) (fun _ _ _ h => h) (Or.inl ⟨by rfl, ?_⟩) ?_ ?_
  rotate_left
  · intro w'
    go_simp
    with_reducible rfl
  rotate_left
  · simp only [Act.put, sqa, sqb, sqc, i64_w, i32_w]
    rfl
  refine take_ (i := 11) (N := some 67) (v := ?_) (a' := ?_) #[tT, tT, tT, tT, tT, tT, tT, tT, tT, tT, tT, tT, tT, fF, fF, fF, fF, fF] rfl rfl (take_ofW HT_.out HW_.out q5_) (fun _ _ _ h => h) (Or.inl ⟨by rfl, ?_⟩) hHeld ?_ ?_
  rotate_left
  · rintro w' ⟨s0, s1, s2, s3, s4, s5, s6, s7, s8, s9, s10, s11, s12, s13, s14, s15⟩
    go_simp
    with_reducible rfl
  rotate_left
  · simp only [Act.put, sqa, sqb, sqc, i64_w, i32_w]
    rfl
  refine take_ (i := 13) (N := some 69) (v := ?_) (a' := ?_) #[tT, tT, tT, tT, tT, tT, tT, tT, tT, tT, tT, tT, tT, tT, fF, fF, fF, fF] rfl rfl (take_ofW HT_.out HW_.out q5_) (fun _ _ _ h => h) (Or.inl ⟨by rfl, ?_⟩) hHeld ?_ ?_
  rotate_left
  · rintro w' ⟨s0, s1, s2, s3, s4, s5, s6, s7, s8, s9, s10, s11, s12, s13, s14, s15⟩
    go_simp
    with_reducible rfl
  rotate_left
  · simp only [Act.put, sqa, sqb, sqc, i64_w, i32_w]
    rfl
  refine one_ (i := 14) (N := some 70) #[tT, tT, tT, tT, tT, tT, tT, tT, tT, tT, tT, tT, tT, tT, tT, fF, fF, fF] rfl rfl (one_of HT_.out q5_) (by decide) (fun K hK => ?_)
  refine goes_ Tryd.func97 q5_ rfl #[.agg #[.int .i64 ((rd_T105 l1 (ji38)).f1.f0), .int .i64 ((rd_T105 l1 (ji38)).f1.f1), .string ((rd_T105 l1 (ji38)).f1.f2)], .agg #[.int .i64 ((rd_T105 l1 x11_1).f0.f0), .int .i64 ((rd_T105 l1 x11_1).f0.f1), .string ((rd_T105 l1 x11_1).f0.f2)]] (by rfl) rfl rfl (by (try simp only [List.map_toArray, List.map_cons, List.map_nil]); first | done | (simp only [hji38]; rfl) | rfl | (simp only [List.length_drop, List.length_take]; rfl)) ?_
  with_reducible refine (kit_Compare.calls ((rd_T105 l1 (ji38)).f1.f0) ((rd_T105 l1 (ji38)).f1.f1) ((rd_T105 l1 (ji38)).f1.f2) ((rd_T105 l1 x11_1).f0.f0) ((rd_T105 l1 x11_1).f0.f1) ((rd_T105 l1 x11_1).f0.f2) t210 _ A41.out).mono ?_
  rintro e w43 ⟨rfl, hb⟩
  refine ⟨_, rfl, ?_⟩
  have n0_ := aM (bbR BK199.out hb)
  have n1_ := aM (below_step s7q6 hb)
  clear BK199
  clear HB
  have BK199 := n0_
  have HB := n1_
  clear n0_ n1_
  (try clear hb)
  (try clear hb2)
  (try clear hk)
  (try clear hi)
  refine hK.out _ _ ⟨(blk_cell BK199.out 0).trans rfl, (blk_cell BK199.out 1).trans rfl, (blk_cell BK199.out 2).trans rfl, (blk_cell BK199.out 3).trans rfl, (blk_cell BK199.out 4).trans rfl, (blk_cell BK199.out 5).trans rfl, (blk_cell BK199.out 6).trans rfl, (blk_cell BK199.out 7).trans rfl, (up_ HB.out hw209_0), (up_ HB.out hw209_1), (up_ HB.out hw209_2), (up_ HB.out hw209_3), (up_ HB.out hw209_4), (up_ HB.out hw209_5), (up_ HB.out hw209_6), (up_ HB.out hw209_7)⟩ (fun hHeld => ?_)
  clear hK K
  refine norm_ (a' := ?_) ?_ ?_
  rotate_left
  · show Act.put _ (some 70) _ = _
    simp only [Act.put, sqa, sqb, sqc, i64_w, i32_w]
    rfl
  refine pure_ (i := 15) (N := some 71) (v := ?_) (a' := ?_) #[tT, tT, tT, tT, tT, tT, tT, tT, tT, tT, tT, tT, tT, tT, tT, tT, fF, fF] rfl rfl (any_of HT_.out q5_) (fun _ _ _ h => h) (Or.inl ⟨by rfl, ?_⟩) ?_ ?_
  rotate_left
  · intro w'
    go_simp
    with_reducible rfl
  rotate_left
  · simp only [Act.put, sqa, sqb, sqc, i64_w, i32_w]
    rfl
  refine pure_ (i := 16) (N := some 72) (v := ?_) (a' := ?_) #[tT, tT, tT, tT, tT, tT, tT, tT, tT, tT, tT, tT, tT, tT, tT, tT, tT, fF] rfl rfl (any_of HT_.out q5_) (fun _ _ _ h => h) (Or.inl ⟨by rfl, ?_⟩) ?_ ?_
  rotate_left
  · intro w'
    go_simp
    with_reducible rfl
  rotate_left
  · simp only [Act.put, sqa, sqb, sqc, i64_w, i32_w]
    rfl
  refine pure_ (i := 17) (N := some 73) (v := ?_) (a' := ?_) #[tT, tT, tT, tT, tT, tT, tT, tT, tT, tT, tT, tT, tT, tT, tT, tT, tT, tT] rfl rfl (any_of HT_.out q5_) (fun _ _ _ h => h) (Or.inl ⟨by rfl, ?_⟩) ?_ ?_
  rotate_left
  · intro w'
    go_simp
    with_reducible rfl
  rotate_left
  · simp only [Act.put, sqa, sqb, sqc, i64_w, i32_w]
    rfl
  refine done_ (done_of HT_.out q5_) ?_
  try go_wp2
  go_meet
  case rel => exact ⟨_, (decide (t210 ≥ 0)), q4_, H', ⟨by have := HK1.out; have := HJ9.out; have := HJ23.out; first | omega | exact Nat.le_refl _⟩, ⟨blkR BK199.out⟩, ⟨s7q6⟩⟩
 clear HC32
 try clear p1
 try clear q1
 try clear hx1
 try clear p2
 try clear q2
 try clear hx2
 try clear c3
 try clear c4
 try clear p6
 try clear c9
 try clear p19
 try clear q19
 try clear hx19
 try clear p20
 try clear q20
 try clear hx20
 try clear c30
 try clear c35
 try clear c35b0
 try clear c37
 try clear c37b0
 try clear c39
 try clear c39b0
 try clear c40
 try clear c40b0
 try clear hcz12_6 hcz12_7
 try clear hcz21_0 hcz21_1 hcz21_2 hcz21_3 hcz21_4 hcz21_5 hcz21_6 hcz21_7
 try clear hcz22_0 hcz22_1 hcz22_2 hcz22_3 hcz22_4 hcz22_5 hcz22_6 hcz22_7
 try clear hcz28_0 hcz28_1 hcz28_2 hcz28_3 hcz28_4 hcz28_5 hcz28_6 hcz28_7
 try clear hcz29_0 hcz29_1 hcz29_2 hcz29_3 hcz29_4 hcz29_5 hcz29_6 hcz29_7
 try clear hcz33_0 hcz33_1 hcz33_2 hcz33_3 hcz33_4 hcz33_5 hcz33_6 hcz33_7
 try clear hfz12_0 hfz12_1 hfz12_2 hfz12_3 hfz12_4 hfz12_5 hfz12_6 hfz12_7
 try clear hfz21_0 hfz21_1 hfz21_2 hfz21_3 hfz21_4 hfz21_5 hfz21_6 hfz21_7
 try clear hfz22_0 hfz22_1 hfz22_2 hfz22_3 hfz22_4 hfz22_5 hfz22_6 hfz22_7
 try clear hfz28_0 hfz28_1 hfz28_2 hfz28_3 hfz28_4 hfz28_5 hfz28_6 hfz28_7
 try clear hfz29_0 hfz29_1 hfz29_2 hfz29_3 hfz29_4 hfz29_5 hfz29_6 hfz29_7
 try clear hfz33_0 hfz33_1 hfz33_2 hfz33_3 hfz33_4 hfz33_5 hfz33_6 hfz33_7
 try clear hx198_0
 try clear hx198_1
 try clear hx198_2
 try clear hx198_3
 try clear hx198_4
 try clear hx198_5
 try clear hx198_6
 try clear hx198_7
 try clear hx209_0
 try clear hx209_1
 try clear hx209_2
 try clear hx209_3
 try clear hx209_4
 try clear hx209_5
 try clear hx209_6
 try clear hx209_7
 try clear p1
 try clear p19
 try clear p198
 try clear p2
 try clear p209
 try clear q1
 try clear q19
 try clear q198
 try clear q209
 obtain ⟨kq, x73_31, rfl, HA, HJ31, BK199, HB⟩ := hcut
 cases kq with
 | zero => exact absurd HA.out (by simp [cost_checkBuckets.j3])
 | succ kj31 => ?_
 have H := HA.out
 clear HA
 simp only [cost_checkBuckets.j3] at H
 by_cases c45 : x73_31 = true
 · subst c45
   have H1 : (some 8) = some r := q7_
   clear H
   have H := H1
   clear H1
   obtain rfl := Option.some.inj H
   go_wp2
   go_ret
   exact ⟨eqR, s7q6⟩
 replace c45 := Bool.eq_false_iff.mpr c45
 subst c45
 have H1 : (if ((((rd_T105 l1 x11_1).f3) == 1) != (t208 == 0)) = true then (some 3) else (cost_checkBuckets.l0 kj31 a0 l1 l1 (l1.length : Int) (wrap64 (x11_1 + 1)))) = some r := q6_
 clear H
 have H := H1
 clear H1
 by_cases c46 : ((((rd_T105 l1 x11_1).f3) == 1) != (t208 == 0)) = true
 · rw [if_pos c46] at H
   have c46b0 : ((((rd_T105 l1 x11_1).f3) == 1) != (t208 == 0)) = true := c46
   (try (have c46b1 : decide ((((rd_T105 l1 x11_1).f3) == 1) = (t208 == 0)) = false := by simpa using c46))
   (try (have c46b2 : ((((rd_T105 l1 x11_1).f3) == 1) == (t208 == 0)) = false := by simpa using c46))
   (try (have c46b3 : ¬ ((((rd_T105 l1 x11_1).f3) == 1) = (t208 == 0)) := by simpa using c46))
   clear c46
   obtain rfl := Option.some.inj H
   obtain ⟨hcz47_0, hcz47_1, hcz47_2, hcz47_3, hcz47_4, hcz47_5, hcz47_6, hcz47_7, hfz47_0, hfz47_1, hfz47_2, hfz47_3, hfz47_4, hfz47_5, hfz47_6, hfz47_7⟩ := cells8 BK199.out
   go_wp2
   go_ret
   exact ⟨eqR, s7q6⟩
 rw [if_neg c46] at H
 have c46b0 : ((((rd_T105 l1 x11_1).f3) == 1) != (t208 == 0)) = false := by simpa using c46
 (try (have c46b1 : decide ((((rd_T105 l1 x11_1).f3) == 1) = (t208 == 0)) = true := by simpa using c46))
 (try (have c46b2 : ((((rd_T105 l1 x11_1).f3) == 1) == (t208 == 0)) = true := by simpa using c46))
 clear c46
 have H' := aM H
 clear H
 obtain ⟨hcz48_0, hcz48_1, hcz48_2, hcz48_3, hcz48_4, hcz48_5, hcz48_6, hcz48_7, hfz48_0, hfz48_1, hfz48_2, hfz48_3, hfz48_4, hfz48_5, hfz48_6, hfz48_7⟩ := cells8 BK199.out
 go_wp2
 first | go_roundg kj31 | (refine Handed.intro kj31 ?measure ?_; rotate_left; go_step; (repeat apply Exists.intro); simp only [add_plain]; refine ⟨?rel, rfl⟩)
 case measure => have := HK1.out; have := HJ9.out; have := HJ23.out; have := HJ31.out; omega
 case rel => exact ⟨(wrap64 (x11_1 + 1)), q4_, H', ⟨by have := HK1.out; have := HJ9.out; have := HJ23.out; have := HJ31.out; omega⟩, ⟨s7q6⟩⟩
end Go.Proofs.YtgcijejmmhjibaaDoor.J
