-- Printed by a program of this session (a patched print).
import Derived.Test.YtgcijejmmhjibaaDoorJx0
import Derived.Test.YtgcijejmmhjibaaDoorJx1
import Derived.Test.YtgcijejmmhjibaaDoorJx11
import Derived.Test.YtgcijejmmhjibaaDoorJx12
import Derived.Test.YtgcijejmmhjibaaDoorJx13
namespace Go.Proofs.YtgcijejmmhjibaaDoor.J
open Go.RowKit Go.Proofs.YtgcijejmmhjibaaDoorW.PrintWords Go.Proofs.YtgcijejmmhjibaaDoorW.PrintLast Go.Proofs.YtgcijejmmhjibaaDoorW.PrintMore
attribute [local go_sem] max2_int min2_int max_two min_two max_three min_three max_four min_four   -- for this text's walks alone
set_option linter.unusedVariables false
set_option linter.unusedSimpArgs false

attribute [local go_sem high] eqA48
theorem s15qm0 {p : Prop} (h : p := by repeat' first | (with_reducible exact ih0 _ _ _ _ _ _ _ _ _ _ _) | (with_reducible exact ih1 _ _ _ _ _ _ _ _ _ _ _) | (with_reducible exact ih2 _ _ _ _ _ _ _ _ _) | (with_reducible exact peristyleref10_order.mono _ _ _ _ _ _ _) | (with_reducible exact peristyleref1_CheckValue.mono _ _ _ _) | (with_reducible exact LeO.refl _) | (with_reducible exact LeO.none _) | (with_reducible refine LeO.ite ?_ ?_) | (with_reducible refine LeO.bind ?_ (fun _ => ?_)) | exact ih0 _ _ _ _ _ _ _ _ _ _ _ | exact ih1 _ _ _ _ _ _ _ _ _ _ _ | exact ih2 _ _ _ _ _ _ _ _ _ | exact peristyleref10_order.mono _ _ _ _ _ _ _ | exact peristyleref1_CheckValue.mono _ _ _ _ | exact LeO.none _ | refine LeO.ite ?_ ?_ | refine LeO.bind ?_ (fun _ => ?_)) : p := h
theorem s15q6 {p : Prop} (h : p := by repeat (first | (with_reducible first | exact HB.out | apply below_alloc | apply pw_below_drewN | apply below_drew1 | refine below_set ?_ GE282.out) | exact HB.out)) : p := h
theorem s15q7 {p : Prop} (h : p := by (with_reducible repeat (first | refine blk_drewN ?_ _ | refine blk_drew ?_ | refine blk_alloc ?_ _)); refine blk_put (cs := #[.int .i64 ((rd_T105 l1 a2).f0.f0), .int .i64 ((rd_T105 l1 a2).f0.f1), .string ((rd_T105 l1 a2).f0.f2), .int .i64 ((rd_T105 l1 a2).f1.f0), .int .i64 ((rd_T105 l1 a2).f1.f1), .string ((rd_T105 l1 a2).f1.f2), .int .i64 ((rd_T105 l1 a2).f2), .int .i64 0]) ?_ 7 _ rfl; (with_reducible repeat (first | refine blk_drewN ?_ _ | refine blk_drew ?_ | refine blk_alloc ?_ _)); refine blk_put (cs := #[.int .i64 ((rd_T105 l1 a2).f0.f0), .int .i64 ((rd_T105 l1 a2).f0.f1), .string ((rd_T105 l1 a2).f0.f2), .int .i64 ((rd_T105 l1 a2).f1.f0), .int .i64 ((rd_T105 l1 a2).f1.f1), .string ((rd_T105 l1 a2).f1.f2), .int .i64 0, .int .i64 0]) ?_ 6 _ rfl; (with_reducible repeat (first | refine blk_drewN ?_ _ | refine blk_drew ?_ | refine blk_alloc ?_ _)); refine blk_put (cs := #[.int .i64 ((rd_T105 l1 a2).f0.f0), .int .i64 ((rd_T105 l1 a2).f0.f1), .string ((rd_T105 l1 a2).f0.f2), .int .i64 ((rd_T105 l1 a2).f1.f0), .int .i64 ((rd_T105 l1 a2).f1.f1), .string (⟨#[]⟩ : ByteArray), .int .i64 0, .int .i64 0]) ?_ 5 _ rfl; (with_reducible repeat (first | refine blk_drewN ?_ _ | refine blk_drew ?_ | refine blk_alloc ?_ _)); refine blk_put (cs := #[.int .i64 ((rd_T105 l1 a2).f0.f0), .int .i64 ((rd_T105 l1 a2).f0.f1), .string ((rd_T105 l1 a2).f0.f2), .int .i64 ((rd_T105 l1 a2).f1.f0), .int .i64 0, .string (⟨#[]⟩ : ByteArray), .int .i64 0, .int .i64 0]) ?_ 4 _ rfl; (with_reducible repeat (first | refine blk_drewN ?_ _ | refine blk_drew ?_ | refine blk_alloc ?_ _)); refine blk_put (cs := #[.int .i64 ((rd_T105 l1 a2).f0.f0), .int .i64 ((rd_T105 l1 a2).f0.f1), .string ((rd_T105 l1 a2).f0.f2), .int .i64 0, .int .i64 0, .string (⟨#[]⟩ : ByteArray), .int .i64 0, .int .i64 0]) ?_ 3 _ rfl; (with_reducible repeat (first | refine blk_drewN ?_ _ | refine blk_drew ?_ | refine blk_alloc ?_ _)); refine blk_put (cs := #[.int .i64 ((rd_T105 l1 a2).f0.f0), .int .i64 ((rd_T105 l1 a2).f0.f1), .string (⟨#[]⟩ : ByteArray), .int .i64 0, .int .i64 0, .string (⟨#[]⟩ : ByteArray), .int .i64 0, .int .i64 0]) ?_ 2 _ rfl; (with_reducible repeat (first | refine blk_drewN ?_ _ | refine blk_drew ?_ | refine blk_alloc ?_ _)); refine blk_put (cs := #[.int .i64 ((rd_T105 l1 a2).f0.f0), .int .i64 0, .string (⟨#[]⟩ : ByteArray), .int .i64 0, .int .i64 0, .string (⟨#[]⟩ : ByteArray), .int .i64 0, .int .i64 0]) ?_ 1 _ rfl; (with_reducible repeat (first | refine blk_drewN ?_ _ | refine blk_drew ?_ | refine blk_alloc ?_ _)); refine blk_put (cs := #[.int .i64 0, .int .i64 0, .string (⟨#[]⟩ : ByteArray), .int .i64 0, .int .i64 0, .string (⟨#[]⟩ : ByteArray), .int .i64 0, .int .i64 0]) ?_ 0 _ rfl; (with_reducible repeat (first | refine blk_drewN ?_ _ | refine blk_drew ?_ | refine blk_alloc ?_ _)); exact BK282.out) : p := h
theorem s15q8 {p : Prop} (h : p := by rw [hg]; exact (below_size q1_)) : p := h
/-! ### peristyleref10_checkBucket: function 85 -/
mutual
def peristyleref10_checkBucket.j0 : Nat → List (S105) → Int → Bool → Int → Int → ByteArray → Int → Int → ByteArray → Int → Int → Option (Int)
  | 0, _, _, _, _, _, _, _, _, _, _, _ => none
  | k + 1, x1, x2, x37, x283000, x283001, x283002, x283003, x283004, x283005, x283006, x283007 => if x37 = true then (some 10) else ((peristyleref10_within.f x283006 1 2000).bind fun t285 => (if t285 = true then ((peristyleref10_within.f x283007 1 x283006).bind fun t286 => (peristyleref10_checkBucket.j1 k x1 x2 (!t286) x283000 x283001 x283002 x283003 x283004 x283005 x283006 x283007)) else (peristyleref10_checkBucket.j1 k x1 x2 true x283000 x283001 x283002 x283003 x283004 x283005 x283006 x283007)))
def peristyleref10_checkBucket.j1 : Nat → List (S105) → Int → Bool → Int → Int → ByteArray → Int → Int → ByteArray → Int → Int → Option (Int)
  | 0, _, _, _, _, _, _, _, _, _, _, _ => none
  | k + 1, x1, x2, x49, x283000, x283001, x283002, x283003, x283004, x283005, x283006, x283007 => if x49 = true then (some 1) else ((peristyleref10_order.f k x283003 x283004 x283005 x283000 x283001 x283002).bind fun t287 => (if t287 < 0 then (peristyleref10_checkBucket.j2 k true x283000 x283001 x283002 x283003 x283004 x283005 x283006 x283007) else (if x2 > 0 then (if 0 ≤ (wrap64 (x2 - 1)) then (if (wrap64 (x2 - 1)) < (x1.length : Int) then ((peristyleref10_order.f k x283000 x283001 x283002 ((rd_T105 x1 (wrap64 (x2 - 1))).f1.f0) ((rd_T105 x1 (wrap64 (x2 - 1))).f1.f1) ((rd_T105 x1 (wrap64 (x2 - 1))).f1.f2)).bind fun t289 => (peristyleref10_checkBucket.j2 k (decide (t289 ≤ 0)) x283000 x283001 x283002 x283003 x283004 x283005 x283006 x283007)) else (none)) else (none)) else (peristyleref10_checkBucket.j2 k false x283000 x283001 x283002 x283003 x283004 x283005 x283006 x283007))))
def peristyleref10_checkBucket.j2 : Nat → Bool → Int → Int → ByteArray → Int → Int → ByteArray → Int → Int → Option (Int)
  | 0, _, _, _, _, _, _, _, _, _ => none
  | k + 1, x71, x283000, x283001, x283002, x283003, x283004, x283005, x283006, x283007 => if x71 = true then (some 8) else (if ((x283000 == x283003 && (x283001 == x283004 && (x283002.toList == x283005.toList))) != (x283007 == 1)) = true then (some 3) else (some 0))
end
def peristyleref10_checkBucket.f (k : Nat) (a0 : Int) (l1 : List (S105)) (a2 : Int) : Option (Int) := if 0 ≤ a2 then (if a2 < (l1.length : Int) then ((peristyleref1_CheckValue.f k ((rd_T105 l1 a2).f0.f0) ((rd_T105 l1 a2).f0.f1) ((rd_T105 l1 a2).f0.f2)).bind fun t283 => (if t283 = 0 then ((peristyleref1_CheckValue.f k ((rd_T105 l1 a2).f1.f0) ((rd_T105 l1 a2).f1.f1) ((rd_T105 l1 a2).f1.f2)).bind fun t284 => (if t284 = 0 then (if ((rd_T105 l1 a2).f0.f0) = a0 then (peristyleref10_checkBucket.j0 k l1 a2 (((rd_T105 l1 a2).f1.f0) != a0) ((rd_T105 l1 a2).f0.f0) ((rd_T105 l1 a2).f0.f1) ((rd_T105 l1 a2).f0.f2) ((rd_T105 l1 a2).f1.f0) ((rd_T105 l1 a2).f1.f1) ((rd_T105 l1 a2).f1.f2) ((rd_T105 l1 a2).f2) ((rd_T105 l1 a2).f3)) else (peristyleref10_checkBucket.j0 k l1 a2 true ((rd_T105 l1 a2).f0.f0) ((rd_T105 l1 a2).f0.f1) ((rd_T105 l1 a2).f0.f2) ((rd_T105 l1 a2).f1.f0) ((rd_T105 l1 a2).f1.f1) ((rd_T105 l1 a2).f1.f2) ((rd_T105 l1 a2).f2) ((rd_T105 l1 a2).f3))) else (some t284))) else (some t283))) else (none)) else (none)
theorem peristyleref10_checkBucket.mono_l : ∀ k, (∀ y0 y1 y2 y3 y4 y5 y6 y7 y8 y9 y10, LeO (peristyleref10_checkBucket.j0 k y0 y1 y2 y3 y4 y5 y6 y7 y8 y9 y10) (peristyleref10_checkBucket.j0 (k + 1) y0 y1 y2 y3 y4 y5 y6 y7 y8 y9 y10)) ∧ (∀ y0 y1 y2 y3 y4 y5 y6 y7 y8 y9 y10, LeO (peristyleref10_checkBucket.j1 k y0 y1 y2 y3 y4 y5 y6 y7 y8 y9 y10) (peristyleref10_checkBucket.j1 (k + 1) y0 y1 y2 y3 y4 y5 y6 y7 y8 y9 y10)) ∧ (∀ y0 y1 y2 y3 y4 y5 y6 y7 y8, LeO (peristyleref10_checkBucket.j2 k y0 y1 y2 y3 y4 y5 y6 y7 y8) (peristyleref10_checkBucket.j2 (k + 1) y0 y1 y2 y3 y4 y5 y6 y7 y8))
  | 0 => ⟨fun _ _ _ _ _ _ _ _ _ _ _ r h => by simp [peristyleref10_checkBucket.j0] at h, fun _ _ _ _ _ _ _ _ _ _ _ r h => by simp [peristyleref10_checkBucket.j1] at h, fun _ _ _ _ _ _ _ _ _ r h => by simp [peristyleref10_checkBucket.j2] at h⟩
  | k + 1 => by
    obtain ⟨ih0, ih1, ih2⟩ := peristyleref10_checkBucket.mono_l k
    refine ⟨?_, ?_, ?_⟩
    · intro y0 y1 y2 y3 y4 y5 y6 y7 y8 y9 y10
      unfold peristyleref10_checkBucket.j0
      exact s15qm0
    · intro y0 y1 y2 y3 y4 y5 y6 y7 y8 y9 y10
      unfold peristyleref10_checkBucket.j1
      exact s15qm0
    · intro y0 y1 y2 y3 y4 y5 y6 y7 y8
      unfold peristyleref10_checkBucket.j2
      exact s15qm0
theorem peristyleref10_checkBucket.mono : ∀ a0 a1 a2 k, LeO (peristyleref10_checkBucket.f k a0 a1 a2) (peristyleref10_checkBucket.f (k + 1) a0 a1 a2) := by
 intro a0 a1 a2 k
 obtain ⟨ih0, ih1, ih2⟩ := peristyleref10_checkBucket.mono_l k
 unfold peristyleref10_checkBucket.f
 repeat' first
  | (with_reducible exact ih0 _ _ _ _ _ _ _ _ _ _ _)
  | (with_reducible exact ih1 _ _ _ _ _ _ _ _ _ _ _)
  | (with_reducible exact ih2 _ _ _ _ _ _ _ _ _)
  | (with_reducible exact peristyleref10_order.mono _ _ _ _ _ _ _)
  | (with_reducible exact peristyleref1_CheckValue.mono _ _ _ _)
  | (with_reducible exact LeO.refl _)
  | (with_reducible exact LeO.none _)
  | (with_reducible refine LeO.ite ?_ ?_)
  | (with_reducible refine LeO.bind ?_ (fun _ => ?_))
  | exact ih0 _ _ _ _ _ _ _ _ _ _ _
  | exact ih1 _ _ _ _ _ _ _ _ _ _ _
  | exact ih2 _ _ _ _ _ _ _ _ _
  | exact peristyleref10_order.mono _ _ _ _ _ _ _
  | exact peristyleref1_CheckValue.mono _ _ _ _
  | exact LeO.none _
  | refine LeO.ite ?_ ?_
  | refine LeO.bind ?_ (fun _ => ?_)
def peristyleref10_checkBucket.T12 : Bool × List (List Nat × List Nat) := (true, [([], []), ([0], [0]), ([], []), ([2], [2]), ([1, 3], [1, 3]), ([4], [4]), ([5, 4], [5]), ([6], [6]), ([7, 6], [6, 7]), ([8, 6, 6], [6, 8]), ([9], [9]), ([10, 9], [9, 10]), ([9], [9]), ([9], [9]), ([13, 9], [9, 13]), ([12, 14, 9], [9, 12, 14]), ([15, 9], [9, 15]), ([16, 9], [9, 16]), ([11, 17, 9, 9], [9, 11, 17]), ([18, 9], [9, 18]), ([9, 19, 6], [6, 9, 19]), ([6, 20], [6, 20])])
def peristyleref10_checkBucket.B12 : List Nat := [0, 1, 0, 4, 15, 31, 63, 127, 255, 511, 1023, 2047, 1023, 1023, 9215, 29695, 62463, 127999, 262143, 524287, 1048575, 2097151]
theorem peristyleref10_checkBucket.tab12 : rtab .any (opsOf Tryd.f85 12) = peristyleref10_checkBucket.T12 := by kernel_rfl
theorem peristyleref10_checkBucket.bits12 : waitsOk peristyleref10_checkBucket.T12.2 peristyleref10_checkBucket.B12 = true := by kernel_rfl
def peristyleref10_checkBucket.T14 : Bool × List (List Nat × List Nat) := (true, [([], []), ([0], [0]), ([], []), ([2], [2]), ([1, 3], [1, 3]), ([], []), ([5], [5]), ([6], [6]), ([4, 7], [4, 7])])
def peristyleref10_checkBucket.B14 : List Nat := [0, 1, 0, 4, 15, 0, 32, 96, 255]
theorem peristyleref10_checkBucket.tab14 : rtab .any (opsOf Tryd.f85 14) = peristyleref10_checkBucket.T14 := by kernel_rfl
theorem peristyleref10_checkBucket.bits14 : waitsOk peristyleref10_checkBucket.T14.2 peristyleref10_checkBucket.B14 = true := by kernel_rfl
set_option maxHeartbeats 8000000 in
set_option maxRecDepth 100000 in
theorem peristyleref10_checkBucket.calls (k : Nat) (a0 : Int) (A1 : Option Addr) (c1 : Nat) (l1 : List (S105)) (a2 : Int) (r : Int) (w : World) (hr1 : Kd.C k105 w A1 l1.length l1) (hc1 : l1.length ≤ c1) (h : peristyleref10_checkBucket.f k a0 l1 a2 = some r) :
    Calls Tryd.prog 85 #[.int .i64 a0, .slice A1 l1.length c1, .int .i64 a2] w fun e w' => e = .returned (.int .i64 r) ∧ Below w.heap.size w w' := by
 have hu105 := Tryd.underlying105
 have hu48 := Tryd.underlying48
 have HR1 := aM hr1
 have HC1 := aM hc1
 clear hr1 hc1
 have HB := aM (Below.refl w.heap.size w)
 have H : (if 0 ≤ a2 then (if a2 < (l1.length : Int) then ((peristyleref1_CheckValue.f k ((rd_T105 l1 a2).f0.f0) ((rd_T105 l1 a2).f0.f1) ((rd_T105 l1 a2).f0.f2)).bind fun t283 => (if t283 = 0 then ((peristyleref1_CheckValue.f k ((rd_T105 l1 a2).f1.f0) ((rd_T105 l1 a2).f1.f1) ((rd_T105 l1 a2).f1.f2)).bind fun t284 => (if t284 = 0 then (if ((rd_T105 l1 a2).f0.f0) = a0 then (peristyleref10_checkBucket.j0 k l1 a2 (((rd_T105 l1 a2).f1.f0) != a0) ((rd_T105 l1 a2).f0.f0) ((rd_T105 l1 a2).f0.f1) ((rd_T105 l1 a2).f0.f2) ((rd_T105 l1 a2).f1.f0) ((rd_T105 l1 a2).f1.f1) ((rd_T105 l1 a2).f1.f2) ((rd_T105 l1 a2).f2) ((rd_T105 l1 a2).f3)) else (peristyleref10_checkBucket.j0 k l1 a2 true ((rd_T105 l1 a2).f0.f0) ((rd_T105 l1 a2).f0.f1) ((rd_T105 l1 a2).f0.f2) ((rd_T105 l1 a2).f1.f0) ((rd_T105 l1 a2).f1.f1) ((rd_T105 l1 a2).f1.f2) ((rd_T105 l1 a2).f2) ((rd_T105 l1 a2).f3))) else (some t284))) else (some t283))) else (none)) else (none)) = some r := h
 clear h
 by_cases c4 : 0 ≤ a2
 case neg =>
  rw [if_neg c4] at H
  exact absurd H (by simp)
 rw [if_pos c4] at H
 have c4b0 : decide (0 ≤ a2) = true := decide_eq_true c4
 clear c4
 by_cases c5 : a2 < (l1.length : Int)
 case neg =>
  rw [if_neg c5] at H
  exact absurd H (by simp)
 rw [if_pos c5] at H
 have c5b0 : decide (a2 < (l1.length : Int)) = true := decide_eq_true c5
 clear c5
 replace H := Option.bind_eq_some_iff.mp H
 obtain ⟨t283, A60, H⟩ := H
 replace H : (if t283 = 0 then ((peristyleref1_CheckValue.f k ((rd_T105 l1 a2).f1.f0) ((rd_T105 l1 a2).f1.f1) ((rd_T105 l1 a2).f1.f2)).bind fun t284 => (if t284 = 0 then (if ((rd_T105 l1 a2).f0.f0) = a0 then (peristyleref10_checkBucket.j0 k l1 a2 (((rd_T105 l1 a2).f1.f0) != a0) ((rd_T105 l1 a2).f0.f0) ((rd_T105 l1 a2).f0.f1) ((rd_T105 l1 a2).f0.f2) ((rd_T105 l1 a2).f1.f0) ((rd_T105 l1 a2).f1.f1) ((rd_T105 l1 a2).f1.f2) ((rd_T105 l1 a2).f2) ((rd_T105 l1 a2).f3)) else (peristyleref10_checkBucket.j0 k l1 a2 true ((rd_T105 l1 a2).f0.f0) ((rd_T105 l1 a2).f0.f1) ((rd_T105 l1 a2).f0.f2) ((rd_T105 l1 a2).f1.f0) ((rd_T105 l1 a2).f1.f1) ((rd_T105 l1 a2).f1.f2) ((rd_T105 l1 a2).f2) ((rd_T105 l1 a2).f3))) else (some t284))) else (some t283)) = some r := H
 have A6 := aM A60
 clear A60
 by_cases c7 : t283 = 0
 case neg =>
  rw [if_neg c7] at H
  have c7b0 : (t283 == 0) = false := beq_eq_false_iff_ne.mpr c7
  have c7b1 : (t283 != 0) = true := bne_iff_ne.mpr c7
  obtain rfl := Option.some.inj H
  have p281 : 0 ≤ (a2 : Int) := of_decide_eq_true q3_
  have q281 : a2 < (l1.length : Int) := of_decide_eq_true q3_
  obtain ⟨ad281, e281, hx281_0, hx281_1, hx281_2, hx281_3, hx281_4, hx281_5, hx281_6, hx281_7⟩ := at_T105 HR1.out a2 p281 q281
  cases e281
  replace p281 := eq_true p281
  replace q281 := eq_true q281
  go_enter Tryd.func85, Tryd.ntmps85
  go_wp2_with (first | ((with_reducible refine gate_dst (N := 7) rfl ?_); refine box_event ?hg (N := 7) ?hd (cs := #[.int .i64 0, .int .i64 0, .string (⟨#[]⟩ : ByteArray), .int .i64 0, .int .i64 0, .string (⟨#[]⟩ : ByteArray), .int .i64 0, .int .i64 0]) (t := 105) ?hr ?_; (case hd => rfl); (case hg => rfl); (case hr => first | (go_simp; done) | (go_simp; rfl)); intro gb282 hg w51 hbox hb; have BK282 := aM hbox; have GW282 := aM (s15q8 : w.heap.size ≤ gb282); have GE282 := GW282; replace HB := aM (below_step q1_ hb); clear hb hbox hg; obtain ⟨hcz52_0, hcz52_1, hcz52_2, hcz52_3, hcz52_4, hcz52_5, hcz52_6, hcz52_7, hfz52_0, hfz52_1, hfz52_2, hfz52_3, hfz52_4, hfz52_5, hfz52_6, hfz52_7⟩ := cells8 BK282.out) | ((with_reducible refine gate_callee (f := 100) rfl ?_); refine goesL_ (some 16) rfl rfl Tryd.func100 q5_ rfl #[.agg #[.int .i64 ((rd_T105 l1 a2).f0.f0), .int .i64 ((rd_T105 l1 a2).f0.f1), .string ((rd_T105 l1 a2).f0.f2)]] rfl q2_ ?_; (with_reducible refine (peristyleref1_CheckValue.calls k ((rd_T105 l1 a2).f0.f0) ((rd_T105 l1 a2).f0.f1) ((rd_T105 l1 a2).f0.f2) t283 _ A6.out).mono ?_); rintro e w53 ⟨rfl, hb⟩; refine ⟨_, rfl, ?_⟩; replace BK282 := aM (blk_below (g := gb282) (o := .cells #[.int .i64 ((rd_T105 l1 a2).f0.f0), .int .i64 ((rd_T105 l1 a2).f0.f1), .string ((rd_T105 l1 a2).f0.f2), .int .i64 ((rd_T105 l1 a2).f1.f0), .int .i64 ((rd_T105 l1 a2).f1.f1), .string ((rd_T105 l1 a2).f1.f2), .int .i64 ((rd_T105 l1 a2).f2), .int .i64 ((rd_T105 l1 a2).f3)] 105 (0, 0)) s15q7 hb); replace HB := aM (below_step s15q6 hb); (try clear hb); (try clear hb2); (try clear hk); (try clear hi)))
  go_ret
  exact ⟨eqR, s15q6⟩
 rw [if_pos c7] at H
 have c7b0 : (t283 == 0) = true := beq_iff_eq.mpr c7
 have c7b1 : (t283 != 0) = false := bne_eq_false_iff_eq.mpr c7
 clear c7
 replace H := Option.bind_eq_some_iff.mp H
 obtain ⟨t284, A80, H⟩ := H
 replace H : (if t284 = 0 then (if ((rd_T105 l1 a2).f0.f0) = a0 then (peristyleref10_checkBucket.j0 k l1 a2 (((rd_T105 l1 a2).f1.f0) != a0) ((rd_T105 l1 a2).f0.f0) ((rd_T105 l1 a2).f0.f1) ((rd_T105 l1 a2).f0.f2) ((rd_T105 l1 a2).f1.f0) ((rd_T105 l1 a2).f1.f1) ((rd_T105 l1 a2).f1.f2) ((rd_T105 l1 a2).f2) ((rd_T105 l1 a2).f3)) else (peristyleref10_checkBucket.j0 k l1 a2 true ((rd_T105 l1 a2).f0.f0) ((rd_T105 l1 a2).f0.f1) ((rd_T105 l1 a2).f0.f2) ((rd_T105 l1 a2).f1.f0) ((rd_T105 l1 a2).f1.f1) ((rd_T105 l1 a2).f1.f2) ((rd_T105 l1 a2).f2) ((rd_T105 l1 a2).f3))) else (some t284)) = some r := H
 have A8 := aM A80
 clear A80
 by_cases c9 : t284 = 0
 case neg =>
  rw [if_neg c9] at H
  have c9b0 : (t284 == 0) = false := beq_eq_false_iff_ne.mpr c9
  have c9b1 : (t284 != 0) = true := bne_iff_ne.mpr c9
  obtain rfl := Option.some.inj H
  have p281 : 0 ≤ (a2 : Int) := of_decide_eq_true q3_
  have q281 : a2 < (l1.length : Int) := of_decide_eq_true q3_
  obtain ⟨ad281, e281, hx281_0, hx281_1, hx281_2, hx281_3, hx281_4, hx281_5, hx281_6, hx281_7⟩ := at_T105 HR1.out a2 p281 q281
  cases e281
  replace p281 := eq_true p281
  replace q281 := eq_true q281
  go_enter Tryd.func85, Tryd.ntmps85
  go_wp2_with (first | ((with_reducible refine gate_dst (N := 7) rfl ?_); refine box_event ?hg (N := 7) ?hd (cs := #[.int .i64 0, .int .i64 0, .string (⟨#[]⟩ : ByteArray), .int .i64 0, .int .i64 0, .string (⟨#[]⟩ : ByteArray), .int .i64 0, .int .i64 0]) (t := 105) ?hr ?_; (case hd => rfl); (case hg => rfl); (case hr => first | (go_simp; done) | (go_simp; rfl)); intro gb282 hg w46 hbox hb; have BK282 := aM hbox; have GW282 := aM (s15q8 : w.heap.size ≤ gb282); have GE282 := GW282; replace HB := aM (below_step q1_ hb); clear hb hbox hg; obtain ⟨hcz47_0, hcz47_1, hcz47_2, hcz47_3, hcz47_4, hcz47_5, hcz47_6, hcz47_7, hfz47_0, hfz47_1, hfz47_2, hfz47_3, hfz47_4, hfz47_5, hfz47_6, hfz47_7⟩ := cells8 BK282.out) | ((with_reducible refine gate_callee (f := 100) rfl ?_); refine goesL_ (some 16) rfl rfl Tryd.func100 q5_ rfl #[.agg #[.int .i64 ((rd_T105 l1 a2).f0.f0), .int .i64 ((rd_T105 l1 a2).f0.f1), .string ((rd_T105 l1 a2).f0.f2)]] rfl q2_ ?_; (with_reducible refine (peristyleref1_CheckValue.calls k ((rd_T105 l1 a2).f0.f0) ((rd_T105 l1 a2).f0.f1) ((rd_T105 l1 a2).f0.f2) t283 _ A6.out).mono ?_); rintro e w48 ⟨rfl, hb⟩; refine ⟨_, rfl, ?_⟩; replace BK282 := aM (blk_below (g := gb282) (o := .cells #[.int .i64 ((rd_T105 l1 a2).f0.f0), .int .i64 ((rd_T105 l1 a2).f0.f1), .string ((rd_T105 l1 a2).f0.f2), .int .i64 ((rd_T105 l1 a2).f1.f0), .int .i64 ((rd_T105 l1 a2).f1.f1), .string ((rd_T105 l1 a2).f1.f2), .int .i64 ((rd_T105 l1 a2).f2), .int .i64 ((rd_T105 l1 a2).f3)] 105 (0, 0)) s15q7 hb); replace HB := aM (below_step s15q6 hb); (try clear hb); (try clear hb2); (try clear hk); (try clear hi); obtain ⟨hcz49_0, hcz49_1, hcz49_2, hcz49_3, hcz49_4, hcz49_5, hcz49_6, hcz49_7, hfz49_0, hfz49_1, hfz49_2, hfz49_3, hfz49_4, hfz49_5, hfz49_6, hfz49_7⟩ := cells8 BK282.out) | ((with_reducible refine gate_callee (f := 100) rfl ?_); refine goesL_ (some 22) rfl rfl Tryd.func100 q5_ rfl #[.agg #[.int .i64 ((rd_T105 l1 a2).f1.f0), .int .i64 ((rd_T105 l1 a2).f1.f1), .string ((rd_T105 l1 a2).f1.f2)]] rfl q2_ ?_; (with_reducible refine (peristyleref1_CheckValue.calls k ((rd_T105 l1 a2).f1.f0) ((rd_T105 l1 a2).f1.f1) ((rd_T105 l1 a2).f1.f2) t284 _ A8.out).mono ?_); rintro e w50 ⟨rfl, hb⟩; refine ⟨_, rfl, ?_⟩; replace BK282 := aM (bbR BK282.out hb); replace HB := aM (below_step s15q6 hb); (try clear hb); (try clear hb2); (try clear hk); (try clear hi)))
  go_ret
  exact ⟨eqR, s15q6⟩
 rw [if_pos c9] at H
 have c9b0 : (t284 == 0) = true := beq_iff_eq.mpr c9
 have c9b1 : (t284 != 0) = false := bne_eq_false_iff_eq.mpr c9
 clear c9
 have HC10 := aM H
 clear H
 have p281 : 0 ≤ (a2 : Int) := of_decide_eq_true q3_
 have q281 : a2 < (l1.length : Int) := of_decide_eq_true q3_
 obtain ⟨ad281, e281, hx281_0, hx281_1, hx281_2, hx281_3, hx281_4, hx281_5, hx281_6, hx281_7⟩ := at_T105 HR1.out a2 p281 q281
 cases e281
 replace p281 := eq_true p281
 replace q281 := eq_true q281
 go_enter Tryd.func85, Tryd.ntmps85
 go_upto_region 8 with (first | ((with_reducible refine gate_dst (N := 7) rfl ?_); refine box_event ?hg (N := 7) ?hd (cs := #[.int .i64 0, .int .i64 0, .string (⟨#[]⟩ : ByteArray), .int .i64 0, .int .i64 0, .string (⟨#[]⟩ : ByteArray), .int .i64 0, .int .i64 0]) (t := 105) ?hr ?_; (case hd => rfl); (case hg => rfl); (case hr => first | (go_simp; done) | (go_simp; rfl)); intro gb282 hg w11 hbox hb; have BK282 := aM hbox; have GW282 := aM (s15q8 : w.heap.size ≤ gb282); have GE282 := GW282; replace HB := aM (below_step q1_ hb); clear hb hbox hg; obtain ⟨hcz12_0, hcz12_1, hcz12_2, hcz12_3, hcz12_4, hcz12_5, hcz12_6, hcz12_7, hfz12_0, hfz12_1, hfz12_2, hfz12_3, hfz12_4, hfz12_5, hfz12_6, hfz12_7⟩ := cells8 BK282.out) | ((with_reducible refine gate_callee (f := 100) rfl ?_); refine goesL_ (some 16) rfl rfl Tryd.func100 q5_ rfl #[.agg #[.int .i64 ((rd_T105 l1 a2).f0.f0), .int .i64 ((rd_T105 l1 a2).f0.f1), .string ((rd_T105 l1 a2).f0.f2)]] rfl q2_ ?_; (with_reducible refine (peristyleref1_CheckValue.calls k ((rd_T105 l1 a2).f0.f0) ((rd_T105 l1 a2).f0.f1) ((rd_T105 l1 a2).f0.f2) t283 _ A6.out).mono ?_); rintro e w13 ⟨rfl, hb⟩; refine ⟨_, rfl, ?_⟩; replace BK282 := aM (blk_below (g := gb282) (o := .cells #[.int .i64 ((rd_T105 l1 a2).f0.f0), .int .i64 ((rd_T105 l1 a2).f0.f1), .string ((rd_T105 l1 a2).f0.f2), .int .i64 ((rd_T105 l1 a2).f1.f0), .int .i64 ((rd_T105 l1 a2).f1.f1), .string ((rd_T105 l1 a2).f1.f2), .int .i64 ((rd_T105 l1 a2).f2), .int .i64 ((rd_T105 l1 a2).f3)] 105 (0, 0)) s15q7 hb); replace HB := aM (below_step s15q6 hb); (try clear hb); (try clear hb2); (try clear hk); (try clear hi); obtain ⟨hcz14_0, hcz14_1, hcz14_2, hcz14_3, hcz14_4, hcz14_5, hcz14_6, hcz14_7, hfz14_0, hfz14_1, hfz14_2, hfz14_3, hfz14_4, hfz14_5, hfz14_6, hfz14_7⟩ := cells8 BK282.out) | ((with_reducible refine gate_callee (f := 100) rfl ?_); refine goesL_ (some 22) rfl rfl Tryd.func100 q5_ rfl #[.agg #[.int .i64 ((rd_T105 l1 a2).f1.f0), .int .i64 ((rd_T105 l1 a2).f1.f1), .string ((rd_T105 l1 a2).f1.f2)]] rfl q2_ ?_; (with_reducible refine (peristyleref1_CheckValue.calls k ((rd_T105 l1 a2).f1.f0) ((rd_T105 l1 a2).f1.f1) ((rd_T105 l1 a2).f1.f2) t284 _ A8.out).mono ?_); rintro e w15 ⟨rfl, hb⟩; refine ⟨_, rfl, ?_⟩; replace BK282 := aM (bbR BK282.out hb); replace HB := aM (below_step s15q6 hb); (try clear hb); (try clear hb2); (try clear hk); (try clear hi)))
 (try simp only [Act.put, sqa, sqb, sqc])
 go_cut [37] (fun v37 wc => ∃ (kq : Nat) (x37_9 : Bool), v37 = .bool x37_9 ∧ Aside0 (peristyleref10_checkBucket.j0 kq l1 a2 x37_9 ((rd_T105 l1 a2).f0.f0) ((rd_T105 l1 a2).f0.f1) ((rd_T105 l1 a2).f0.f2) ((rd_T105 l1 a2).f1.f0) ((rd_T105 l1 a2).f1.f1) ((rd_T105 l1 a2).f1.f2) ((rd_T105 l1 a2).f2) ((rd_T105 l1 a2).f3) = some r) ∧ Aside0 (kq ≤ k) ∧ Aside0 (wc.heap[gb282]? = some (.cells #[.int .i64 ((rd_T105 l1 a2).f0.f0), .int .i64 ((rd_T105 l1 a2).f0.f1), .string ((rd_T105 l1 a2).f0.f2), .int .i64 ((rd_T105 l1 a2).f1.f0), .int .i64 ((rd_T105 l1 a2).f1.f1), .string ((rd_T105 l1 a2).f1.f2), .int .i64 ((rd_T105 l1 a2).f2), .int .i64 ((rd_T105 l1 a2).f3)] 105 (0, 0))) ∧ Aside0 (Below w.heap.size w wc))
 case first =>
  have H := HC10.out
  clear HC10
  by_cases c16 : ((rd_T105 l1 a2).f0.f0) = a0
  case neg =>
   rw [if_neg c16] at H
   have c16b0 : (((rd_T105 l1 a2).f0.f0) == a0) = false := beq_eq_false_iff_ne.mpr c16
   have c16b1 : (((rd_T105 l1 a2).f0.f0) != a0) = true := bne_iff_ne.mpr c16
   (first | rw [c16b0] | (simp only [i64_w, i32_w]; rw [c16b0]) | skip)
   have H' := aM H
   clear H
   obtain ⟨hcz18_0, hcz18_1, hcz18_2, hcz18_3, hcz18_4, hcz18_5, hcz18_6, hcz18_7, hfz18_0, hfz18_1, hfz18_2, hfz18_3, hfz18_4, hfz18_5, hfz18_6, hfz18_7⟩ := cells8 BK282.out
   go_wp2
   go_meet
   case rel => exact ⟨_, (true), q4_, H', ⟨by first | omega | exact Nat.le_refl _⟩, ⟨blkR BK282.out⟩, ⟨s15q6⟩⟩
  rw [if_pos c16] at H
  have c16b0 : (((rd_T105 l1 a2).f0.f0) == a0) = true := beq_iff_eq.mpr c16
  have c16b1 : (((rd_T105 l1 a2).f0.f0) != a0) = false := bne_eq_false_iff_eq.mpr c16
  clear c16
  (first | rw [c16b0] | (simp only [i64_w, i32_w]; rw [c16b0]) | skip)
  have H' := aM H
  clear H
  obtain ⟨hcz17_0, hcz17_1, hcz17_2, hcz17_3, hcz17_4, hcz17_5, hcz17_6, hcz17_7, hfz17_0, hfz17_1, hfz17_2, hfz17_3, hfz17_4, hfz17_5, hfz17_6, hfz17_7⟩ := cells8 BK282.out
  go_wp2
  go_meet
  case rel => exact ⟨_, ((((rd_T105 l1 a2).f1.f0) != a0)), q4_, H', ⟨by first | omega | exact Nat.le_refl _⟩, ⟨blkR BK282.out⟩, ⟨s15q6⟩⟩
 clear HC10
 try clear c1
 try clear p2
 try clear q2
 try clear hx2
 try clear c4
 try clear c4b0
 try clear c5
 try clear c5b0
 try clear c7
 try clear c7b0
 try clear c7b1
 try clear c8
 try clear c9
 try clear c9b0
 try clear c9b1
 try clear c10
 try clear c16
 try clear c16b0
 try clear c16b1
 try clear hcz12_0 hcz12_1 hcz12_2 hcz12_3 hcz12_4 hcz12_5 hcz12_6 hcz12_7
 try clear hcz14_0 hcz14_1 hcz14_2 hcz14_3 hcz14_4 hcz14_5 hcz14_6 hcz14_7
 try clear hcz17_0 hcz17_1 hcz17_2 hcz17_3 hcz17_4 hcz17_5 hcz17_6 hcz17_7
 try clear hcz18_0 hcz18_1 hcz18_2 hcz18_3 hcz18_4 hcz18_5 hcz18_6 hcz18_7
 try clear hfz12_0 hfz12_1 hfz12_2 hfz12_3 hfz12_4 hfz12_5 hfz12_6 hfz12_7
 try clear hfz14_0 hfz14_1 hfz14_2 hfz14_3 hfz14_4 hfz14_5 hfz14_6 hfz14_7
 try clear hfz17_0 hfz17_1 hfz17_2 hfz17_3 hfz17_4 hfz17_5 hfz17_6 hfz17_7
 try clear hfz18_0 hfz18_1 hfz18_2 hfz18_3 hfz18_4 hfz18_5 hfz18_6 hfz18_7
 try clear hx281_0
 try clear hx281_1
 try clear hx281_2
 try clear hx281_3
 try clear hx281_4
 try clear hx281_5
 try clear hx281_6
 try clear hx281_7
 try clear p281
 try clear q281
 obtain ⟨kq, x37_9, rfl, HA, HJ9, BK282, HB⟩ := hcut
 cases kq with
 | zero => exact absurd HA.out (by simp [peristyleref10_checkBucket.j0])
 | succ kj9 => ?_
 have H := HA.out
 clear HA
 simp only [peristyleref10_checkBucket.j0] at H
 by_cases c19 : x37_9 = true
 · subst c19
   have H1 : (some 10) = some r := q7_
   clear H
   have H := H1
   clear H1
   obtain rfl := Option.some.inj H
   go_wp2
   go_ret
   exact ⟨eqR, s15q6⟩
 replace c19 := Bool.eq_false_iff.mpr c19
 subst c19
 have H1 : ((peristyleref10_within.f ((rd_T105 l1 a2).f2) 1 2000).bind fun t285 => (if t285 = true then ((peristyleref10_within.f ((rd_T105 l1 a2).f3) 1 ((rd_T105 l1 a2).f2)).bind fun t286 => (peristyleref10_checkBucket.j1 kj9 l1 a2 (!t286) ((rd_T105 l1 a2).f0.f0) ((rd_T105 l1 a2).f0.f1) ((rd_T105 l1 a2).f0.f2) ((rd_T105 l1 a2).f1.f0) ((rd_T105 l1 a2).f1.f1) ((rd_T105 l1 a2).f1.f2) ((rd_T105 l1 a2).f2) ((rd_T105 l1 a2).f3))) else (peristyleref10_checkBucket.j1 kj9 l1 a2 true ((rd_T105 l1 a2).f0.f0) ((rd_T105 l1 a2).f0.f1) ((rd_T105 l1 a2).f0.f2) ((rd_T105 l1 a2).f1.f0) ((rd_T105 l1 a2).f1.f1) ((rd_T105 l1 a2).f1.f2) ((rd_T105 l1 a2).f2) ((rd_T105 l1 a2).f3)))) = some r := q6_
 clear H
 have H := H1
 clear H1
 have HC20 := aM H
 clear H
 go_upto_region 10 with (fail)
 go_cut [49] (fun v49 wc => ∃ (kq : Nat) (x49_19 : Bool), v49 = .bool x49_19 ∧ Aside0 (peristyleref10_checkBucket.j1 kq l1 a2 x49_19 ((rd_T105 l1 a2).f0.f0) ((rd_T105 l1 a2).f0.f1) ((rd_T105 l1 a2).f0.f2) ((rd_T105 l1 a2).f1.f0) ((rd_T105 l1 a2).f1.f1) ((rd_T105 l1 a2).f1.f2) ((rd_T105 l1 a2).f2) ((rd_T105 l1 a2).f3) = some r) ∧ Aside0 (kq ≤ kj9) ∧ Aside0 (wc.heap[gb282]? = some (.cells #[.int .i64 ((rd_T105 l1 a2).f0.f0), .int .i64 ((rd_T105 l1 a2).f0.f1), .string ((rd_T105 l1 a2).f0.f2), .int .i64 ((rd_T105 l1 a2).f1.f0), .int .i64 ((rd_T105 l1 a2).f1.f1), .string ((rd_T105 l1 a2).f1.f2), .int .i64 ((rd_T105 l1 a2).f2), .int .i64 ((rd_T105 l1 a2).f3)] 105 (0, 0))) ∧ Aside0 (Below w.heap.size w wc))
 case first =>
  have H := HC20.out
  clear HC20
  replace H := Option.bind_eq_some_iff.mp H
  obtain ⟨t285, A210, H⟩ := H
  replace H : (if t285 = true then ((peristyleref10_within.f ((rd_T105 l1 a2).f3) 1 ((rd_T105 l1 a2).f2)).bind fun t286 => (peristyleref10_checkBucket.j1 kj9 l1 a2 (!t286) ((rd_T105 l1 a2).f0.f0) ((rd_T105 l1 a2).f0.f1) ((rd_T105 l1 a2).f0.f2) ((rd_T105 l1 a2).f1.f0) ((rd_T105 l1 a2).f1.f1) ((rd_T105 l1 a2).f1.f2) ((rd_T105 l1 a2).f2) ((rd_T105 l1 a2).f3))) else (peristyleref10_checkBucket.j1 kj9 l1 a2 true ((rd_T105 l1 a2).f0.f0) ((rd_T105 l1 a2).f0.f1) ((rd_T105 l1 a2).f0.f2) ((rd_T105 l1 a2).f1.f0) ((rd_T105 l1 a2).f1.f1) ((rd_T105 l1 a2).f1.f2) ((rd_T105 l1 a2).f2) ((rd_T105 l1 a2).f3))) = some r := H
  have A21 := aM A210
  clear A210
  by_cases c22 : t285 = true
  case neg =>
   replace c22 := Bool.eq_false_iff.mpr c22
   subst c22
   have H1 : (peristyleref10_checkBucket.j1 kj9 l1 a2 true ((rd_T105 l1 a2).f0.f0) ((rd_T105 l1 a2).f0.f1) ((rd_T105 l1 a2).f0.f2) ((rd_T105 l1 a2).f1.f0) ((rd_T105 l1 a2).f1.f1) ((rd_T105 l1 a2).f1.f2) ((rd_T105 l1 a2).f2) ((rd_T105 l1 a2).f3)) = some r := q6_
   clear H
   have H := H1
   clear H1
   have H' := aM H
   clear H
   obtain ⟨hcz25_0, hcz25_1, hcz25_2, hcz25_3, hcz25_4, hcz25_5, hcz25_6, hcz25_7, hfz25_0, hfz25_1, hfz25_2, hfz25_3, hfz25_4, hfz25_5, hfz25_6, hfz25_7⟩ := cells8 BK282.out
   go_wp2_with (first | ((with_reducible refine gate_callee (f := 44) rfl ?_); refine goesL_ (some 40) rfl rfl Tryd.func44 q5_ rfl #[.int .i64 ((rd_T105 l1 a2).f2), .int .i64 1, .int .i64 2000] rfl q2_ ?_; (with_reducible refine (peristyleref10_within.calls ((rd_T105 l1 a2).f2) 1 2000 false _ A21.out).mono ?_); rintro e w' ⟨rfl, ⟨nd, rfl⟩⟩; refine ⟨_, rfl, ?_⟩))
   go_meet
   case rel => exact ⟨_, (true), q4_, H', ⟨by have := HJ9.out; first | omega | exact Nat.le_refl _⟩, ⟨blkR BK282.out⟩, ⟨s15q6⟩⟩
  subst c22
  have H1 : ((peristyleref10_within.f ((rd_T105 l1 a2).f3) 1 ((rd_T105 l1 a2).f2)).bind fun t286 => (peristyleref10_checkBucket.j1 kj9 l1 a2 (!t286) ((rd_T105 l1 a2).f0.f0) ((rd_T105 l1 a2).f0.f1) ((rd_T105 l1 a2).f0.f2) ((rd_T105 l1 a2).f1.f0) ((rd_T105 l1 a2).f1.f1) ((rd_T105 l1 a2).f1.f2) ((rd_T105 l1 a2).f2) ((rd_T105 l1 a2).f3))) = some r := q7_
  clear H
  have H := H1
  clear H1
  replace H := Option.bind_eq_some_iff.mp H
  obtain ⟨t286, A230, H⟩ := H
  replace H : (peristyleref10_checkBucket.j1 kj9 l1 a2 (!t286) ((rd_T105 l1 a2).f0.f0) ((rd_T105 l1 a2).f0.f1) ((rd_T105 l1 a2).f0.f2) ((rd_T105 l1 a2).f1.f0) ((rd_T105 l1 a2).f1.f1) ((rd_T105 l1 a2).f1.f2) ((rd_T105 l1 a2).f2) ((rd_T105 l1 a2).f3)) = some r := H
  have A23 := aM A230
  clear A230
  have H' := aM H
  clear H
  obtain ⟨hcz24_0, hcz24_1, hcz24_2, hcz24_3, hcz24_4, hcz24_5, hcz24_6, hcz24_7, hfz24_0, hfz24_1, hfz24_2, hfz24_3, hfz24_4, hfz24_5, hfz24_6, hfz24_7⟩ := cells8 BK282.out
  go_wp2_with (first | ((with_reducible refine gate_callee (f := 44) rfl ?_); refine goesL_ (some 40) rfl rfl Tryd.func44 q5_ rfl #[.int .i64 ((rd_T105 l1 a2).f2), .int .i64 1, .int .i64 2000] rfl q2_ ?_; (with_reducible refine (peristyleref10_within.calls ((rd_T105 l1 a2).f2) 1 2000 true _ A21.out).mono ?_); rintro e w' ⟨rfl, ⟨nd, rfl⟩⟩; refine ⟨_, rfl, ?_⟩) | (go_at_call 44; (with_reducible refine (peristyleref10_within.calls ((rd_T105 l1 a2).f3) 1 ((rd_T105 l1 a2).f2) t286 _ A23.out).mono ?_); rintro e w' ⟨rfl, ⟨nd, rfl⟩⟩))
  go_meet
  case rel => exact ⟨_, (!t286), q4_, H', ⟨by have := HJ9.out; first | omega | exact Nat.le_refl _⟩, ⟨blkR BK282.out⟩, ⟨s15q6⟩⟩
 clear HC20
 try clear c1
 try clear c2
 try clear p2
 try clear q2
 try clear hx2
 try clear c4
 try clear c4b0
 try clear c5
 try clear c5b0
 try clear c7
 try clear c7b0
 try clear c7b1
 try clear c8
 try clear c9
 try clear c9b0
 try clear c9b1
 try clear c10
 try clear c16
 try clear c16b0
 try clear c16b1
 try clear c19
 try clear c22
 try clear hcz12_0 hcz12_1 hcz12_2 hcz12_3 hcz12_4 hcz12_5 hcz12_6 hcz12_7
 try clear hcz14_0 hcz14_1 hcz14_2 hcz14_3 hcz14_4 hcz14_5 hcz14_6 hcz14_7
 try clear hcz17_0 hcz17_1 hcz17_2 hcz17_3 hcz17_4 hcz17_5 hcz17_6 hcz17_7
 try clear hcz18_0 hcz18_1 hcz18_2 hcz18_3 hcz18_4 hcz18_5 hcz18_6 hcz18_7
 try clear hcz24_0 hcz24_1 hcz24_2 hcz24_3 hcz24_4 hcz24_5 hcz24_6 hcz24_7
 try clear hcz25_0 hcz25_1 hcz25_2 hcz25_3 hcz25_4 hcz25_5 hcz25_6 hcz25_7
 try clear hfz12_0 hfz12_1 hfz12_2 hfz12_3 hfz12_4 hfz12_5 hfz12_6 hfz12_7
 try clear hfz14_0 hfz14_1 hfz14_2 hfz14_3 hfz14_4 hfz14_5 hfz14_6 hfz14_7
 try clear hfz17_0 hfz17_1 hfz17_2 hfz17_3 hfz17_4 hfz17_5 hfz17_6 hfz17_7
 try clear hfz18_0 hfz18_1 hfz18_2 hfz18_3 hfz18_4 hfz18_5 hfz18_6 hfz18_7
 try clear hfz24_0 hfz24_1 hfz24_2 hfz24_3 hfz24_4 hfz24_5 hfz24_6 hfz24_7
 try clear hfz25_0 hfz25_1 hfz25_2 hfz25_3 hfz25_4 hfz25_5 hfz25_6 hfz25_7
 try clear hx281_0
 try clear hx281_1
 try clear hx281_2
 try clear hx281_3
 try clear hx281_4
 try clear hx281_5
 try clear hx281_6
 try clear hx281_7
 try clear p2
 try clear p281
 try clear q2
 try clear q281
 obtain ⟨kq, x49_19, rfl, HA, HJ19, BK282, HB⟩ := hcut
 cases kq with
 | zero => exact absurd HA.out (by simp [peristyleref10_checkBucket.j1])
 | succ kj19 => ?_
 have H := HA.out
 clear HA
 simp only [peristyleref10_checkBucket.j1] at H
 by_cases c26 : x49_19 = true
 · subst c26
   have H1 : (some 1) = some r := q7_
   clear H
   have H := H1
   clear H1
   obtain rfl := Option.some.inj H
   go_wp2
   go_ret
   exact ⟨eqR, s15q6⟩
 replace c26 := Bool.eq_false_iff.mpr c26
 subst c26
 have H1 : ((peristyleref10_order.f kj19 ((rd_T105 l1 a2).f1.f0) ((rd_T105 l1 a2).f1.f1) ((rd_T105 l1 a2).f1.f2) ((rd_T105 l1 a2).f0.f0) ((rd_T105 l1 a2).f0.f1) ((rd_T105 l1 a2).f0.f2)).bind fun t287 => (if t287 < 0 then (peristyleref10_checkBucket.j2 kj19 true ((rd_T105 l1 a2).f0.f0) ((rd_T105 l1 a2).f0.f1) ((rd_T105 l1 a2).f0.f2) ((rd_T105 l1 a2).f1.f0) ((rd_T105 l1 a2).f1.f1) ((rd_T105 l1 a2).f1.f2) ((rd_T105 l1 a2).f2) ((rd_T105 l1 a2).f3)) else (if a2 > 0 then (if 0 ≤ (wrap64 (a2 - 1)) then (if (wrap64 (a2 - 1)) < (l1.length : Int) then ((peristyleref10_order.f kj19 ((rd_T105 l1 a2).f0.f0) ((rd_T105 l1 a2).f0.f1) ((rd_T105 l1 a2).f0.f2) ((rd_T105 l1 (wrap64 (a2 - 1))).f1.f0) ((rd_T105 l1 (wrap64 (a2 - 1))).f1.f1) ((rd_T105 l1 (wrap64 (a2 - 1))).f1.f2)).bind fun t289 => (peristyleref10_checkBucket.j2 kj19 (decide (t289 ≤ 0)) ((rd_T105 l1 a2).f0.f0) ((rd_T105 l1 a2).f0.f1) ((rd_T105 l1 a2).f0.f2) ((rd_T105 l1 a2).f1.f0) ((rd_T105 l1 a2).f1.f1) ((rd_T105 l1 a2).f1.f2) ((rd_T105 l1 a2).f2) ((rd_T105 l1 a2).f3))) else (none)) else (none)) else (peristyleref10_checkBucket.j2 kj19 false ((rd_T105 l1 a2).f0.f0) ((rd_T105 l1 a2).f0.f1) ((rd_T105 l1 a2).f0.f2) ((rd_T105 l1 a2).f1.f0) ((rd_T105 l1 a2).f1.f1) ((rd_T105 l1 a2).f1.f2) ((rd_T105 l1 a2).f2) ((rd_T105 l1 a2).f3))))) = some r := q6_
 clear H
 have H := H1
 clear H1
 have HC27 := aM H
 clear H
 go_upto_region 12 with (fail)
 go_cut [71] (fun v71 wc => ∃ (kq : Nat) (x71_26 : Bool), v71 = .bool x71_26 ∧ Aside0 (peristyleref10_checkBucket.j2 kq x71_26 ((rd_T105 l1 a2).f0.f0) ((rd_T105 l1 a2).f0.f1) ((rd_T105 l1 a2).f0.f2) ((rd_T105 l1 a2).f1.f0) ((rd_T105 l1 a2).f1.f1) ((rd_T105 l1 a2).f1.f2) ((rd_T105 l1 a2).f2) ((rd_T105 l1 a2).f3) = some r) ∧ Aside0 (kq ≤ kj19) ∧ Aside0 (wc.heap[gb282]? = some (.cells #[.int .i64 ((rd_T105 l1 a2).f0.f0), .int .i64 ((rd_T105 l1 a2).f0.f1), .string ((rd_T105 l1 a2).f0.f2), .int .i64 ((rd_T105 l1 a2).f1.f0), .int .i64 ((rd_T105 l1 a2).f1.f1), .string ((rd_T105 l1 a2).f1.f2), .int .i64 ((rd_T105 l1 a2).f2), .int .i64 ((rd_T105 l1 a2).f3)] 105 (0, 0))) ∧ Aside0 (Below w.heap.size w wc))
 case first =>
  have H := HC27.out
  clear HC27
  replace H := Option.bind_eq_some_iff.mp H
  obtain ⟨t287, A280, H⟩ := H
  replace H : (if t287 < 0 then (peristyleref10_checkBucket.j2 kj19 true ((rd_T105 l1 a2).f0.f0) ((rd_T105 l1 a2).f0.f1) ((rd_T105 l1 a2).f0.f2) ((rd_T105 l1 a2).f1.f0) ((rd_T105 l1 a2).f1.f1) ((rd_T105 l1 a2).f1.f2) ((rd_T105 l1 a2).f2) ((rd_T105 l1 a2).f3)) else (if a2 > 0 then (if 0 ≤ (wrap64 (a2 - 1)) then (if (wrap64 (a2 - 1)) < (l1.length : Int) then ((peristyleref10_order.f kj19 ((rd_T105 l1 a2).f0.f0) ((rd_T105 l1 a2).f0.f1) ((rd_T105 l1 a2).f0.f2) ((rd_T105 l1 (wrap64 (a2 - 1))).f1.f0) ((rd_T105 l1 (wrap64 (a2 - 1))).f1.f1) ((rd_T105 l1 (wrap64 (a2 - 1))).f1.f2)).bind fun t289 => (peristyleref10_checkBucket.j2 kj19 (decide (t289 ≤ 0)) ((rd_T105 l1 a2).f0.f0) ((rd_T105 l1 a2).f0.f1) ((rd_T105 l1 a2).f0.f2) ((rd_T105 l1 a2).f1.f0) ((rd_T105 l1 a2).f1.f1) ((rd_T105 l1 a2).f1.f2) ((rd_T105 l1 a2).f2) ((rd_T105 l1 a2).f3))) else (none)) else (none)) else (peristyleref10_checkBucket.j2 kj19 false ((rd_T105 l1 a2).f0.f0) ((rd_T105 l1 a2).f0.f1) ((rd_T105 l1 a2).f0.f2) ((rd_T105 l1 a2).f1.f0) ((rd_T105 l1 a2).f1.f1) ((rd_T105 l1 a2).f1.f2) ((rd_T105 l1 a2).f2) ((rd_T105 l1 a2).f3)))) = some r := H
  have A28 := aM A280
  clear A280
  by_cases c29 : t287 < 0
  · rw [if_pos c29] at H
    have c29b0 : decide (t287 < 0) = true := decide_eq_true c29
    clear c29
    (first | rw [c29b0] | (simp only [i64_w, i32_w]; rw [c29b0]) | skip)
    have H' := aM H
    clear H
    try go_wp2
    have n0_ := aM (blk_drew BK282.out)
    have n1_ := aM (below_drew1 HB.out)
    clear BK282
    clear HB
    have BK282 := n0_
    have HB := n1_
    clear n0_ n1_
    refine start_ (n := 22) (S := fun w' => w'.cell? ⟨gb282, 0, none⟩ = some (.int .i64 ((rd_T105 l1 a2).f0.f0)) ∧ w'.cell? ⟨gb282, 1, none⟩ = some (.int .i64 ((rd_T105 l1 a2).f0.f1)) ∧ w'.cell? ⟨gb282, 2, none⟩ = some (.string ((rd_T105 l1 a2).f0.f2)) ∧ w'.cell? ⟨gb282, 3, none⟩ = some (.int .i64 ((rd_T105 l1 a2).f1.f0)) ∧ w'.cell? ⟨gb282, 4, none⟩ = some (.int .i64 ((rd_T105 l1 a2).f1.f1)) ∧ w'.cell? ⟨gb282, 5, none⟩ = some (.string ((rd_T105 l1 a2).f1.f2)) ∧ w'.cell? ⟨gb282, 6, none⟩ = some (.int .i64 ((rd_T105 l1 a2).f2)) ∧ w'.cell? ⟨gb282, 7, none⟩ = some (.int .i64 ((rd_T105 l1 a2).f3))) (ds := []) #[fF, fF, fF, fF, fF, fF, fF, fF, fF, fF, fF, fF, fF, fF, fF, fF, fF, fF, fF, fF, fF, fF] q5_ rfl rfl ⟨(blk_cell BK282.out 0).trans rfl, (blk_cell BK282.out 1).trans rfl, (blk_cell BK282.out 2).trans rfl, (blk_cell BK282.out 3).trans rfl, (blk_cell BK282.out 4).trans rfl, (blk_cell BK282.out 5).trans rfl, (blk_cell BK282.out 6).trans rfl, (blk_cell BK282.out 7).trans rfl⟩ (fun hHeld => ?_); refine with_tabW peristyleref10_checkBucket.tab12 peristyleref10_checkBucket.bits12 (fun HT_ HW_ => ?_)
    generalize wc.drew = w30 at BK282 HB hHeld ⊢
    refine pure_ (i := 0) (N := some 50) (v := ?_) (a' := ?_) #[tT, fF, fF, fF, fF, fF, fF, fF, fF, fF, fF, fF, fF, fF, fF, fF, fF, fF, fF, fF, fF, fF] rfl rfl (any_of HT_.out q5_) (fun _ _ _ h => h) (Or.inl ⟨by rfl, ?_⟩) ?_ ?_
    rotate_left
    · intro w'
      go_simp
      with_reducible rfl
    rotate_left
    · simp only [Act.put, sqa, sqb, sqc, i64_w, i32_w]
      rfl
    refine pure_ (i := 2) (N := some 52) (v := ?_) (a' := ?_) #[tT, fF, tT, fF, fF, fF, fF, fF, fF, fF, fF, fF, fF, fF, fF, fF, fF, fF, fF, fF, fF, fF] rfl rfl (any_of HT_.out q5_) (fun _ _ _ h => h) (Or.inl ⟨by rfl, ?_⟩) ?_ ?_
    rotate_left
    · intro w'
      go_simp
      with_reducible rfl
    rotate_left
    · simp only [Act.put, sqa, sqb, sqc, i64_w, i32_w]
      rfl
    refine take_ (i := 1) (N := some 51) (v := ?_) (a' := ?_) #[tT, tT, tT, fF, fF, fF, fF, fF, fF, fF, fF, fF, fF, fF, fF, fF, fF, fF, fF, fF, fF, fF] rfl rfl (take_ofW HT_.out HW_.out q5_) (fun _ _ _ h => h) (Or.inl ⟨by rfl, ?_⟩) hHeld ?_ ?_
    rotate_left
    · rintro w' ⟨s0, s1, s2, s3, s4, s5, s6, s7⟩
      go_simp
      with_reducible rfl
    rotate_left
    · simp only [Act.put, sqa, sqb, sqc, i64_w, i32_w]
      rfl
    refine take_ (i := 3) (N := some 53) (v := ?_) (a' := ?_) #[tT, tT, tT, tT, fF, fF, fF, fF, fF, fF, fF, fF, fF, fF, fF, fF, fF, fF, fF, fF, fF, fF] rfl rfl (take_ofW HT_.out HW_.out q5_) (fun _ _ _ h => h) (Or.inl ⟨by rfl, ?_⟩) hHeld ?_ ?_
    rotate_left
    · rintro w' ⟨s0, s1, s2, s3, s4, s5, s6, s7⟩
      go_simp
      with_reducible rfl
    rotate_left
    · simp only [Act.put, sqa, sqb, sqc, i64_w, i32_w]
      rfl
    refine one_ (i := 4) (N := some 54) #[tT, tT, tT, tT, tT, fF, fF, fF, fF, fF, fF, fF, fF, fF, fF, fF, fF, fF, fF, fF, fF, fF] rfl rfl (one_of HT_.out q5_) (by decide) (fun K hK => ?_)
    refine goes_ Tryd.func86 q5_ rfl #[.agg #[.int .i64 ((rd_T105 l1 a2).f1.f0), .int .i64 ((rd_T105 l1 a2).f1.f1), .string ((rd_T105 l1 a2).f1.f2)], .agg #[.int .i64 ((rd_T105 l1 a2).f0.f0), .int .i64 ((rd_T105 l1 a2).f0.f1), .string ((rd_T105 l1 a2).f0.f2)]] (by rfl) rfl rfl q2_ ?_
    with_reducible refine (peristyleref10_order.calls kj19 ((rd_T105 l1 a2).f1.f0) ((rd_T105 l1 a2).f1.f1) ((rd_T105 l1 a2).f1.f2) ((rd_T105 l1 a2).f0.f0) ((rd_T105 l1 a2).f0.f1) ((rd_T105 l1 a2).f0.f2) t287 _ A28.out).mono ?_
    rintro e w31 ⟨rfl, hb⟩
    refine ⟨_, rfl, ?_⟩
    have n0_ := aM (bbR BK282.out hb)
    have n1_ := aM (below_step s15q6 hb)
    clear BK282
    clear HB
    have BK282 := n0_
    have HB := n1_
    clear n0_ n1_
    (try clear hb)
    (try clear hb2)
    (try clear hk)
    (try clear hi)
    refine hK.out _ _ ⟨(blk_cell BK282.out 0).trans rfl, (blk_cell BK282.out 1).trans rfl, (blk_cell BK282.out 2).trans rfl, (blk_cell BK282.out 3).trans rfl, (blk_cell BK282.out 4).trans rfl, (blk_cell BK282.out 5).trans rfl, (blk_cell BK282.out 6).trans rfl, (blk_cell BK282.out 7).trans rfl⟩ (fun hHeld => ?_)
    clear hK K
    refine norm_ (a' := ?_) ?_ ?_
    rotate_left
    · show Act.put _ (some 54) _ = _
      simp only [Act.put, sqa, sqb, sqc, i64_w, i32_w]
      rfl
    refine pure_ (i := 5) (N := some 55) (v := ?_) (a' := ?_) #[tT, tT, tT, tT, tT, tT, fF, fF, fF, fF, fF, fF, fF, fF, fF, fF, fF, fF, fF, fF, fF, fF] rfl rfl (any_of HT_.out q5_) (fun _ _ _ h => h) (Or.inl ⟨by rfl, ?_⟩) ?_ ?_
    rotate_left
    · intro w'
      go_simp
      with_reducible rfl
    rotate_left
    · simp only [Act.put, sqa, sqb, sqc, i64_w, i32_w]
      rfl
    refine pure_ (i := 6) (N := some 56) (v := ?_) (a' := ?_) #[tT, tT, tT, tT, tT, tT, tT, fF, fF, fF, fF, fF, fF, fF, fF, fF, fF, fF, fF, fF, fF, fF] rfl rfl (any_of HT_.out q5_) (fun _ _ _ h => h) (Or.inl ⟨by rfl, ?_⟩) ?_ ?_
    rotate_left
    · intro w'
      go_simp
      with_reducible rfl
    rotate_left
    · simp only [Act.put, sqa, sqb, sqc, i64_w, i32_w]
      rfl
    refine pure_ (i := 7) (N := some 57) (v := undef) (a' := ?_) #[tT, tT, tT, tT, tT, tT, tT, tT, fF, fF, fF, fF, fF, fF, fF, fF, fF, fF, fF, fF, fF, fF] rfl rfl (any_of HT_.out q5_) (fun _ _ _ h => h) (Or.inr ⟨by rfl, rfl⟩) ?_ ?_
    rotate_left
    · simp only [Act.put, sqa, sqb, sqc, i64_w, i32_w]
      rfl
    refine pure_ (i := 8) (N := some 58) (v := undef) (a' := ?_) #[tT, tT, tT, tT, tT, tT, tT, tT, tT, fF, fF, fF, fF, fF, fF, fF, fF, fF, fF, fF, fF, fF] rfl rfl (any_of HT_.out q5_) (fun _ _ _ h => h) (Or.inr ⟨by rfl, rfl⟩) ?_ ?_
    rotate_left
    · simp only [Act.put, sqa, sqb, sqc, i64_w, i32_w]
      rfl
    refine pure_ (i := 9) (N := some 59) (v := undef) (a' := ?_) #[tT, tT, tT, tT, tT, tT, tT, tT, tT, tT, fF, fF, fF, fF, fF, fF, fF, fF, fF, fF, fF, fF] rfl rfl (any_of HT_.out q5_) (fun _ _ _ h => h) (Or.inr ⟨by rfl, rfl⟩) ?_ ?_
    rotate_left
    · simp only [Act.put, sqa, sqb, sqc, i64_w, i32_w]
      rfl
    refine pure_ (i := 10) (N := some 60) (v := undef) (a' := ?_) #[tT, tT, tT, tT, tT, tT, tT, tT, tT, tT, tT, fF, fF, fF, fF, fF, fF, fF, fF, fF, fF, fF] rfl rfl (any_of HT_.out q5_) (fun _ _ _ h => h) (Or.inr ⟨by rfl, rfl⟩) ?_ ?_
    rotate_left
    · simp only [Act.put, sqa, sqb, sqc, i64_w, i32_w]
      rfl
    refine pure_ (i := 11) (N := some 61) (v := undef) (a' := ?_) #[tT, tT, tT, tT, tT, tT, tT, tT, tT, tT, tT, tT, fF, fF, fF, fF, fF, fF, fF, fF, fF, fF] rfl rfl (any_of HT_.out q5_) (fun _ _ _ h => h) (Or.inr ⟨by rfl, rfl⟩) ?_ ?_
    rotate_left
    · simp only [Act.put, sqa, sqb, sqc, i64_w, i32_w]
      rfl
    refine pure_ (i := 12) (N := some 62) (v := undef) (a' := ?_) #[tT, tT, tT, tT, tT, tT, tT, tT, tT, tT, tT, tT, tT, fF, fF, fF, fF, fF, fF, fF, fF, fF] rfl rfl (any_of HT_.out q5_) (fun _ _ _ h => h) (Or.inr ⟨by rfl, rfl⟩) ?_ ?_
    rotate_left
    · simp only [Act.put, sqa, sqb, sqc, i64_w, i32_w]
      rfl
    refine pure_ (i := 13) (N := some 63) (v := undef) (a' := ?_) #[tT, tT, tT, tT, tT, tT, tT, tT, tT, tT, tT, tT, tT, tT, fF, fF, fF, fF, fF, fF, fF, fF] rfl rfl (any_of HT_.out q5_) (fun _ _ _ h => h) (Or.inr ⟨by rfl, rfl⟩) ?_ ?_
    rotate_left
    · simp only [Act.put, sqa, sqb, sqc, i64_w, i32_w]
      rfl
    refine pure_ (i := 14) (N := some 64) (v := undef) (a' := ?_) #[tT, tT, tT, tT, tT, tT, tT, tT, tT, tT, tT, tT, tT, tT, tT, fF, fF, fF, fF, fF, fF, fF] rfl rfl (any_of HT_.out q5_) (fun _ _ _ h => h) (Or.inr ⟨by rfl, rfl⟩) ?_ ?_
    rotate_left
    · simp only [Act.put, sqa, sqb, sqc, i64_w, i32_w]
      rfl
    refine pure_ (i := 15) (N := some 65) (v := undef) (a' := ?_) #[tT, tT, tT, tT, tT, tT, tT, tT, tT, tT, tT, tT, tT, tT, tT, tT, fF, fF, fF, fF, fF, fF] rfl rfl (any_of HT_.out q5_) (fun _ _ _ h => h) (Or.inr ⟨by rfl, rfl⟩) ?_ ?_
    rotate_left
    · simp only [Act.put, sqa, sqb, sqc, i64_w, i32_w]
      rfl
    refine pure_ (i := 16) (N := some 66) (v := undef) (a' := ?_) #[tT, tT, tT, tT, tT, tT, tT, tT, tT, tT, tT, tT, tT, tT, tT, tT, tT, fF, fF, fF, fF, fF] rfl rfl (any_of HT_.out q5_) (fun _ _ _ h => h) (Or.inr ⟨by rfl, rfl⟩) ?_ ?_
    rotate_left
    · simp only [Act.put, sqa, sqb, sqc, i64_w, i32_w]
      rfl
    refine pure_ (i := 17) (N := some 67) (v := undef) (a' := ?_) #[tT, tT, tT, tT, tT, tT, tT, tT, tT, tT, tT, tT, tT, tT, tT, tT, tT, tT, fF, fF, fF, fF] rfl rfl (any_of HT_.out q5_) (fun _ _ _ h => h) (Or.inr ⟨by rfl, rfl⟩) ?_ ?_
    rotate_left
    · simp only [Act.put, sqa, sqb, sqc, i64_w, i32_w]
      rfl
    refine pure_ (i := 18) (N := some 68) (v := undef) (a' := ?_) #[tT, tT, tT, tT, tT, tT, tT, tT, tT, tT, tT, tT, tT, tT, tT, tT, tT, tT, tT, fF, fF, fF] rfl rfl (any_of HT_.out q5_) (fun _ _ _ h => h) (Or.inr ⟨by rfl, rfl⟩) ?_ ?_
    rotate_left
    · simp only [Act.put, sqa, sqb, sqc, i64_w, i32_w]
      rfl
    refine pure_ (i := 19) (N := some 69) (v := undef) (a' := ?_) #[tT, tT, tT, tT, tT, tT, tT, tT, tT, tT, tT, tT, tT, tT, tT, tT, tT, tT, tT, tT, fF, fF] rfl rfl (any_of HT_.out q5_) (fun _ _ _ h => h) (Or.inr ⟨by rfl, rfl⟩) ?_ ?_
    rotate_left
    · simp only [Act.put, sqa, sqb, sqc, i64_w, i32_w]
      rfl
    refine pure_ (i := 20) (N := some 70) (v := undef) (a' := ?_) #[tT, tT, tT, tT, tT, tT, tT, tT, tT, tT, tT, tT, tT, tT, tT, tT, tT, tT, tT, tT, tT, fF] rfl rfl (any_of HT_.out q5_) (fun _ _ _ h => h) (Or.inr ⟨by rfl, rfl⟩) ?_ ?_
    rotate_left
    · simp only [Act.put, sqa, sqb, sqc, i64_w, i32_w]
      rfl
    refine pure_ (i := 21) (N := some 71) (v := ?_) (a' := ?_) #[tT, tT, tT, tT, tT, tT, tT, tT, tT, tT, tT, tT, tT, tT, tT, tT, tT, tT, tT, tT, tT, tT] rfl rfl (any_of HT_.out q5_) (fun _ _ _ h => h) (Or.inl ⟨by rfl, ?_⟩) ?_ ?_
    rotate_left
    · intro w'
      go_simp
      with_reducible rfl
    rotate_left
    · simp only [Act.put, sqa, sqb, sqc, i64_w, i32_w]
      rfl
    refine done_ (done_of HT_.out q5_) ?_
    try go_wp2
    go_meet
    case rel => exact ⟨_, (true), q4_, H', ⟨by have := HJ9.out; have := HJ19.out; first | omega | exact Nat.le_refl _⟩, ⟨blkR BK282.out⟩, ⟨s15q6⟩⟩
  rw [if_neg c29] at H
  have c29b0 : decide (t287 < 0) = false := decide_eq_false c29
  clear c29
  (first | rw [c29b0] | (simp only [i64_w, i32_w]; rw [c29b0]) | skip)
  by_cases c32 : a2 > 0
  case neg =>
   rw [if_neg c32] at H
   have c32b0 : decide (0 < a2) = false := decide_eq_false c32
   clear c32
   have H' := aM H
   clear H
   try go_wp2
   have n0_ := aM (blk_drew BK282.out)
   have n1_ := aM (below_drew1 HB.out)
   clear BK282
   clear HB
   have BK282 := n0_
   have HB := n1_
   clear n0_ n1_
   refine start_ (n := 22) (S := fun w' => w'.cell? ⟨gb282, 0, none⟩ = some (.int .i64 ((rd_T105 l1 a2).f0.f0)) ∧ w'.cell? ⟨gb282, 1, none⟩ = some (.int .i64 ((rd_T105 l1 a2).f0.f1)) ∧ w'.cell? ⟨gb282, 2, none⟩ = some (.string ((rd_T105 l1 a2).f0.f2)) ∧ w'.cell? ⟨gb282, 3, none⟩ = some (.int .i64 ((rd_T105 l1 a2).f1.f0)) ∧ w'.cell? ⟨gb282, 4, none⟩ = some (.int .i64 ((rd_T105 l1 a2).f1.f1)) ∧ w'.cell? ⟨gb282, 5, none⟩ = some (.string ((rd_T105 l1 a2).f1.f2)) ∧ w'.cell? ⟨gb282, 6, none⟩ = some (.int .i64 ((rd_T105 l1 a2).f2)) ∧ w'.cell? ⟨gb282, 7, none⟩ = some (.int .i64 ((rd_T105 l1 a2).f3))) (ds := []) #[fF, fF, fF, fF, fF, fF, fF, fF, fF, fF, fF, fF, fF, fF, fF, fF, fF, fF, fF, fF, fF, fF] q5_ rfl rfl ⟨(blk_cell BK282.out 0).trans rfl, (blk_cell BK282.out 1).trans rfl, (blk_cell BK282.out 2).trans rfl, (blk_cell BK282.out 3).trans rfl, (blk_cell BK282.out 4).trans rfl, (blk_cell BK282.out 5).trans rfl, (blk_cell BK282.out 6).trans rfl, (blk_cell BK282.out 7).trans rfl⟩ (fun hHeld => ?_); refine with_tabW peristyleref10_checkBucket.tab12 peristyleref10_checkBucket.bits12 (fun HT_ HW_ => ?_)
   generalize wc.drew = w40 at BK282 HB hHeld ⊢
   refine pure_ (i := 0) (N := some 50) (v := ?_) (a' := ?_) #[tT, fF, fF, fF, fF, fF, fF, fF, fF, fF, fF, fF, fF, fF, fF, fF, fF, fF, fF, fF, fF, fF] rfl rfl (any_of HT_.out q5_) (fun _ _ _ h => h) (Or.inl ⟨by rfl, ?_⟩) ?_ ?_
   rotate_left
   · intro w'
     go_simp
     with_reducible rfl
   rotate_left
   · simp only [Act.put, sqa, sqb, sqc, i64_w, i32_w]
     rfl
   refine pure_ (i := 2) (N := some 52) (v := ?_) (a' := ?_) #[tT, fF, tT, fF, fF, fF, fF, fF, fF, fF, fF, fF, fF, fF, fF, fF, fF, fF, fF, fF, fF, fF] rfl rfl (any_of HT_.out q5_) (fun _ _ _ h => h) (Or.inl ⟨by rfl, ?_⟩) ?_ ?_
   rotate_left
   · intro w'
     go_simp
     with_reducible rfl
   rotate_left
   · simp only [Act.put, sqa, sqb, sqc, i64_w, i32_w]
     rfl
   refine take_ (i := 1) (N := some 51) (v := ?_) (a' := ?_) #[tT, tT, tT, fF, fF, fF, fF, fF, fF, fF, fF, fF, fF, fF, fF, fF, fF, fF, fF, fF, fF, fF] rfl rfl (take_ofW HT_.out HW_.out q5_) (fun _ _ _ h => h) (Or.inl ⟨by rfl, ?_⟩) hHeld ?_ ?_
   rotate_left
   · rintro w' ⟨s0, s1, s2, s3, s4, s5, s6, s7⟩
     go_simp
     with_reducible rfl
   rotate_left
   · simp only [Act.put, sqa, sqb, sqc, i64_w, i32_w]
     rfl
   refine take_ (i := 3) (N := some 53) (v := ?_) (a' := ?_) #[tT, tT, tT, tT, fF, fF, fF, fF, fF, fF, fF, fF, fF, fF, fF, fF, fF, fF, fF, fF, fF, fF] rfl rfl (take_ofW HT_.out HW_.out q5_) (fun _ _ _ h => h) (Or.inl ⟨by rfl, ?_⟩) hHeld ?_ ?_
   rotate_left
   · rintro w' ⟨s0, s1, s2, s3, s4, s5, s6, s7⟩
     go_simp
     with_reducible rfl
   rotate_left
   · simp only [Act.put, sqa, sqb, sqc, i64_w, i32_w]
     rfl
   refine one_ (i := 4) (N := some 54) #[tT, tT, tT, tT, tT, fF, fF, fF, fF, fF, fF, fF, fF, fF, fF, fF, fF, fF, fF, fF, fF, fF] rfl rfl (one_of HT_.out q5_) (by decide) (fun K hK => ?_)
   refine goes_ Tryd.func86 q5_ rfl #[.agg #[.int .i64 ((rd_T105 l1 a2).f1.f0), .int .i64 ((rd_T105 l1 a2).f1.f1), .string ((rd_T105 l1 a2).f1.f2)], .agg #[.int .i64 ((rd_T105 l1 a2).f0.f0), .int .i64 ((rd_T105 l1 a2).f0.f1), .string ((rd_T105 l1 a2).f0.f2)]] (by rfl) rfl rfl q2_ ?_
   with_reducible refine (peristyleref10_order.calls kj19 ((rd_T105 l1 a2).f1.f0) ((rd_T105 l1 a2).f1.f1) ((rd_T105 l1 a2).f1.f2) ((rd_T105 l1 a2).f0.f0) ((rd_T105 l1 a2).f0.f1) ((rd_T105 l1 a2).f0.f2) t287 _ A28.out).mono ?_
   rintro e w41 ⟨rfl, hb⟩
   refine ⟨_, rfl, ?_⟩
   have n0_ := aM (bbR BK282.out hb)
   have n1_ := aM (below_step s15q6 hb)
   clear BK282
   clear HB
   have BK282 := n0_
   have HB := n1_
   clear n0_ n1_
   (try clear hb)
   (try clear hb2)
   (try clear hk)
   (try clear hi)
   refine hK.out _ _ ⟨(blk_cell BK282.out 0).trans rfl, (blk_cell BK282.out 1).trans rfl, (blk_cell BK282.out 2).trans rfl, (blk_cell BK282.out 3).trans rfl, (blk_cell BK282.out 4).trans rfl, (blk_cell BK282.out 5).trans rfl, (blk_cell BK282.out 6).trans rfl, (blk_cell BK282.out 7).trans rfl⟩ (fun hHeld => ?_)
   clear hK K
   refine norm_ (a' := ?_) ?_ ?_
   rotate_left
   · show Act.put _ (some 54) _ = _
     simp only [Act.put, sqa, sqb, sqc, i64_w, i32_w]
     rfl
   refine pure_ (i := 5) (N := some 55) (v := ?_) (a' := ?_) #[tT, tT, tT, tT, tT, tT, fF, fF, fF, fF, fF, fF, fF, fF, fF, fF, fF, fF, fF, fF, fF, fF] rfl rfl (any_of HT_.out q5_) (fun _ _ _ h => h) (Or.inl ⟨by rfl, ?_⟩) ?_ ?_
   rotate_left
   · intro w'
     go_simp
     with_reducible rfl
   rotate_left
   · simp only [Act.put, sqa, sqb, sqc, i64_w, i32_w]
     rfl
   refine pure_ (i := 6) (N := some 56) (v := ?_) (a' := ?_) #[tT, tT, tT, tT, tT, tT, tT, fF, fF, fF, fF, fF, fF, fF, fF, fF, fF, fF, fF, fF, fF, fF] rfl rfl (any_of HT_.out q5_) (fun _ _ _ h => h) (Or.inl ⟨by rfl, ?_⟩) ?_ ?_
   rotate_left
   · intro w'
     go_simp
     with_reducible rfl
   rotate_left
   · simp only [Act.put, sqa, sqb, sqc, i64_w, i32_w]
     rfl
   refine pure_ (i := 7) (N := some 57) (v := ?_) (a' := ?_) #[tT, tT, tT, tT, tT, tT, tT, tT, fF, fF, fF, fF, fF, fF, fF, fF, fF, fF, fF, fF, fF, fF] rfl rfl (any_of HT_.out q5_) (fun _ _ _ h => h) (Or.inl ⟨by rfl, ?_⟩) ?_ ?_
   rotate_left
   · intro w'
     go_simp
     with_reducible rfl
   rotate_left
   · simp only [Act.put, sqa, sqb, sqc, i64_w, i32_w]
     rfl
   refine pure_ (i := 8) (N := some 58) (v := ?_) (a' := ?_) #[tT, tT, tT, tT, tT, tT, tT, tT, tT, fF, fF, fF, fF, fF, fF, fF, fF, fF, fF, fF, fF, fF] rfl rfl (any_of HT_.out q5_) (fun _ _ _ h => h) (Or.inl ⟨by rfl, ?_⟩) ?_ ?_
   rotate_left
   · intro w'
     go_simp
     with_reducible rfl
   rotate_left
   · simp only [Act.put, sqa, sqb, sqc, i64_w, i32_w]
     rfl
   refine pure_ (i := 9) (N := some 59) (v := ?_) (a' := ?_) #[tT, tT, tT, tT, tT, tT, tT, tT, tT, tT, fF, fF, fF, fF, fF, fF, fF, fF, fF, fF, fF, fF] rfl rfl (any_of HT_.out q5_) (fun _ _ _ h => h) (Or.inl ⟨by rfl, ?_⟩) ?_ ?_
   rotate_left
   · intro w'
     go_simp
     with_reducible rfl
   rotate_left
   · simp only [Act.put, sqa, sqb, sqc, i64_w, i32_w]
     rfl
   refine pure_ (i := 10) (N := some 60) (v := undef) (a' := ?_) #[tT, tT, tT, tT, tT, tT, tT, tT, tT, tT, tT, fF, fF, fF, fF, fF, fF, fF, fF, fF, fF, fF] rfl rfl (any_of HT_.out q5_) (fun _ _ _ h => h) (Or.inr ⟨by rfl, rfl⟩) ?_ ?_
   rotate_left
   · simp only [Act.put, sqa, sqb, sqc, i64_w, i32_w]
     rfl
   refine pure_ (i := 11) (N := some 61) (v := undef) (a' := ?_) #[tT, tT, tT, tT, tT, tT, tT, tT, tT, tT, tT, tT, fF, fF, fF, fF, fF, fF, fF, fF, fF, fF] rfl rfl (any_of HT_.out q5_) (fun _ _ _ h => h) (Or.inr ⟨by rfl, rfl⟩) ?_ ?_
   rotate_left
   · simp only [Act.put, sqa, sqb, sqc, i64_w, i32_w]
     rfl
   refine pure_ (i := 12) (N := some 62) (v := undef) (a' := ?_) #[tT, tT, tT, tT, tT, tT, tT, tT, tT, tT, tT, tT, tT, fF, fF, fF, fF, fF, fF, fF, fF, fF] rfl rfl (any_of HT_.out q5_) (fun _ _ _ h => h) (Or.inr ⟨by rfl, rfl⟩) ?_ ?_
   rotate_left
   · simp only [Act.put, sqa, sqb, sqc, i64_w, i32_w]
     rfl
   refine pure_ (i := 13) (N := some 63) (v := undef) (a' := ?_) #[tT, tT, tT, tT, tT, tT, tT, tT, tT, tT, tT, tT, tT, tT, fF, fF, fF, fF, fF, fF, fF, fF] rfl rfl (any_of HT_.out q5_) (fun _ _ _ h => h) (Or.inr ⟨by rfl, rfl⟩) ?_ ?_
   rotate_left
   · simp only [Act.put, sqa, sqb, sqc, i64_w, i32_w]
     rfl
   refine pure_ (i := 14) (N := some 64) (v := undef) (a' := ?_) #[tT, tT, tT, tT, tT, tT, tT, tT, tT, tT, tT, tT, tT, tT, tT, fF, fF, fF, fF, fF, fF, fF] rfl rfl (any_of HT_.out q5_) (fun _ _ _ h => h) (Or.inr ⟨by rfl, rfl⟩) ?_ ?_
   rotate_left
   · simp only [Act.put, sqa, sqb, sqc, i64_w, i32_w]
     rfl
   refine pure_ (i := 15) (N := some 65) (v := undef) (a' := ?_) #[tT, tT, tT, tT, tT, tT, tT, tT, tT, tT, tT, tT, tT, tT, tT, tT, fF, fF, fF, fF, fF, fF] rfl rfl (any_of HT_.out q5_) (fun _ _ _ h => h) (Or.inr ⟨by rfl, rfl⟩) ?_ ?_
   rotate_left
   · simp only [Act.put, sqa, sqb, sqc, i64_w, i32_w]
     rfl
   refine pure_ (i := 16) (N := some 66) (v := undef) (a' := ?_) #[tT, tT, tT, tT, tT, tT, tT, tT, tT, tT, tT, tT, tT, tT, tT, tT, tT, fF, fF, fF, fF, fF] rfl rfl (any_of HT_.out q5_) (fun _ _ _ h => h) (Or.inr ⟨by rfl, rfl⟩) ?_ ?_
   rotate_left
   · simp only [Act.put, sqa, sqb, sqc, i64_w, i32_w]
     rfl
   refine pure_ (i := 17) (N := some 67) (v := undef) (a' := ?_) #[tT, tT, tT, tT, tT, tT, tT, tT, tT, tT, tT, tT, tT, tT, tT, tT, tT, tT, fF, fF, fF, fF] rfl rfl (any_of HT_.out q5_) (fun _ _ _ h => h) (Or.inr ⟨by rfl, rfl⟩) ?_ ?_
   rotate_left
   · simp only [Act.put, sqa, sqb, sqc, i64_w, i32_w]
     rfl
   refine pure_ (i := 18) (N := some 68) (v := undef) (a' := ?_) #[tT, tT, tT, tT, tT, tT, tT, tT, tT, tT, tT, tT, tT, tT, tT, tT, tT, tT, tT, fF, fF, fF] rfl rfl (any_of HT_.out q5_) (fun _ _ _ h => h) (Or.inr ⟨by rfl, rfl⟩) ?_ ?_
   rotate_left
   · simp only [Act.put, sqa, sqb, sqc, i64_w, i32_w]
     rfl
   refine pure_ (i := 19) (N := some 69) (v := undef) (a' := ?_) #[tT, tT, tT, tT, tT, tT, tT, tT, tT, tT, tT, tT, tT, tT, tT, tT, tT, tT, tT, tT, fF, fF] rfl rfl (any_of HT_.out q5_) (fun _ _ _ h => h) (Or.inr ⟨by rfl, rfl⟩) ?_ ?_
   rotate_left
   · simp only [Act.put, sqa, sqb, sqc, i64_w, i32_w]
     rfl
   refine pure_ (i := 20) (N := some 70) (v := ?_) (a' := ?_) #[tT, tT, tT, tT, tT, tT, tT, tT, tT, tT, tT, tT, tT, tT, tT, tT, tT, tT, tT, tT, tT, fF] rfl rfl (any_of HT_.out q5_) (fun _ _ _ h => h) (Or.inl ⟨by rfl, ?_⟩) ?_ ?_
   rotate_left
   · intro w'
     go_simp
     with_reducible rfl
   rotate_left
   · simp only [Act.put, sqa, sqb, sqc, i64_w, i32_w]
     rfl
   refine pure_ (i := 21) (N := some 71) (v := ?_) (a' := ?_) #[tT, tT, tT, tT, tT, tT, tT, tT, tT, tT, tT, tT, tT, tT, tT, tT, tT, tT, tT, tT, tT, tT] rfl rfl (any_of HT_.out q5_) (fun _ _ _ h => h) (Or.inl ⟨by rfl, ?_⟩) ?_ ?_
   rotate_left
   · intro w'
     go_simp
     with_reducible rfl
   rotate_left
   · simp only [Act.put, sqa, sqb, sqc, i64_w, i32_w]
     rfl
   refine done_ (done_of HT_.out q5_) ?_
   try go_wp2
   go_meet
   case rel => exact ⟨_, (false), q4_, H', ⟨by have := HJ9.out; have := HJ19.out; first | omega | exact Nat.le_refl _⟩, ⟨blkR BK282.out⟩, ⟨s15q6⟩⟩
  rw [if_pos c32] at H
  have c32b0 : decide (0 < a2) = true := decide_eq_true c32
  clear c32
  obtain ⟨ji33, hji33⟩ : ∃ j_ : Int, (wrap64 (a2 - 1)) = j_ := ⟨_, rfl⟩
  replace H : (if 0 ≤ (ji33) then (if (ji33) < (l1.length : Int) then ((peristyleref10_order.f kj19 ((rd_T105 l1 a2).f0.f0) ((rd_T105 l1 a2).f0.f1) ((rd_T105 l1 a2).f0.f2) ((rd_T105 l1 (ji33)).f1.f0) ((rd_T105 l1 (ji33)).f1.f1) ((rd_T105 l1 (ji33)).f1.f2)).bind fun t289 => (peristyleref10_checkBucket.j2 kj19 (decide (t289 ≤ 0)) ((rd_T105 l1 a2).f0.f0) ((rd_T105 l1 a2).f0.f1) ((rd_T105 l1 a2).f0.f2) ((rd_T105 l1 a2).f1.f0) ((rd_T105 l1 a2).f1.f1) ((rd_T105 l1 a2).f1.f2) ((rd_T105 l1 a2).f2) ((rd_T105 l1 a2).f3))) else (none)) else (none)) = some r := by first | (rw [hji33] at H; exact H) | (simp only [hji33] at H ⊢; exact H)
  (try rw [hji33] at A28)
  have hji33w : (IntKind.i64.wrap (a2 - 1)) = ji33 := (i64_w _).trans hji33
  by_cases c34 : 0 ≤ (ji33)
  case neg =>
   rw [if_neg c34] at H
   exact absurd H (by simp)
  rw [if_pos c34] at H
  have c34b0 : decide (0 ≤ (ji33)) = true := decide_eq_true c34
  clear c34
  by_cases c35 : (ji33) < (l1.length : Int)
  case neg =>
   rw [if_neg c35] at H
   exact absurd H (by simp)
  rw [if_pos c35] at H
  have c35b0 : decide ((ji33) < (l1.length : Int)) = true := decide_eq_true c35
  clear c35
  replace H := Option.bind_eq_some_iff.mp H
  obtain ⟨t289, A360, H⟩ := H
  replace H : (peristyleref10_checkBucket.j2 kj19 (decide (t289 ≤ 0)) ((rd_T105 l1 a2).f0.f0) ((rd_T105 l1 a2).f0.f1) ((rd_T105 l1 a2).f0.f2) ((rd_T105 l1 a2).f1.f0) ((rd_T105 l1 a2).f1.f1) ((rd_T105 l1 a2).f1.f2) ((rd_T105 l1 a2).f2) ((rd_T105 l1 a2).f3)) = some r := H
  have A36 := aM A360
  clear A360
  have H' := aM H
  clear H
  try go_wp2
  have n0_ := aM (blk_drew BK282.out)
  have n1_ := aM (below_drew1 HB.out)
  clear BK282
  clear HB
  have BK282 := n0_
  have HB := n1_
  clear n0_ n1_
  have p288 : 0 ≤ ((ji33) : Int) := of_decide_eq_true q3_
  have q288 : (ji33) < (l1.length : Int) := of_decide_eq_true q3_
  obtain ⟨ad288, e288, hx288_0, hx288_1, hx288_2, hx288_3, hx288_4, hx288_5, hx288_6, hx288_7⟩ := at_T105 HR1.out (ji33) p288 q288
  have hw288_7 := hx288_7
  have hw288_6 := hx288_6
  have hw288_5 := hx288_5
  have hw288_4 := hx288_4
  have hw288_3 := hx288_3
  have hw288_2 := hx288_2
  have hw288_1 := hx288_1
  have hw288_0 := hx288_0
  obtain rfl : ad281 = ad288 := (by injection e288)
  replace hx288_0 := up_ HB.out hx288_0
  replace hx288_1 := up_ HB.out hx288_1
  replace hx288_2 := up_ HB.out hx288_2
  replace hx288_3 := up_ HB.out hx288_3
  replace hx288_4 := up_ HB.out hx288_4
  replace hx288_5 := up_ HB.out hx288_5
  replace hx288_6 := up_ HB.out hx288_6
  replace hx288_7 := up_ HB.out hx288_7
  replace p288 := eq_true p288
  replace q288 := eq_true q288
  refine start_ (n := 22) (S := fun w' => w'.cell? ⟨gb282, 0, none⟩ = some (.int .i64 ((rd_T105 l1 a2).f0.f0)) ∧ w'.cell? ⟨gb282, 1, none⟩ = some (.int .i64 ((rd_T105 l1 a2).f0.f1)) ∧ w'.cell? ⟨gb282, 2, none⟩ = some (.string ((rd_T105 l1 a2).f0.f2)) ∧ w'.cell? ⟨gb282, 3, none⟩ = some (.int .i64 ((rd_T105 l1 a2).f1.f0)) ∧ w'.cell? ⟨gb282, 4, none⟩ = some (.int .i64 ((rd_T105 l1 a2).f1.f1)) ∧ w'.cell? ⟨gb282, 5, none⟩ = some (.string ((rd_T105 l1 a2).f1.f2)) ∧ w'.cell? ⟨gb282, 6, none⟩ = some (.int .i64 ((rd_T105 l1 a2).f2)) ∧ w'.cell? ⟨gb282, 7, none⟩ = some (.int .i64 ((rd_T105 l1 a2).f3)) ∧ w'.cell? (ad281.add (((ji33)).toNat * 8)) = some (.int .i64 ((rd_T105 l1 (ji33)).f0.f0)) ∧ w'.cell? ⟨(ad281.add (((ji33)).toNat * 8)).block, (ad281.add (((ji33)).toNat * 8)).off + 1, none⟩ = some (.int .i64 ((rd_T105 l1 (ji33)).f0.f1)) ∧ w'.cell? ⟨(ad281.add (((ji33)).toNat * 8)).block, (ad281.add (((ji33)).toNat * 8)).off + 2, none⟩ = some (.string ((rd_T105 l1 (ji33)).f0.f2)) ∧ w'.cell? ⟨(ad281.add (((ji33)).toNat * 8)).block, (ad281.add (((ji33)).toNat * 8)).off + 3, none⟩ = some (.int .i64 ((rd_T105 l1 (ji33)).f1.f0)) ∧ w'.cell? ⟨(ad281.add (((ji33)).toNat * 8)).block, (ad281.add (((ji33)).toNat * 8)).off + 4, none⟩ = some (.int .i64 ((rd_T105 l1 (ji33)).f1.f1)) ∧ w'.cell? ⟨(ad281.add (((ji33)).toNat * 8)).block, (ad281.add (((ji33)).toNat * 8)).off + 5, none⟩ = some (.string ((rd_T105 l1 (ji33)).f1.f2)) ∧ w'.cell? ⟨(ad281.add (((ji33)).toNat * 8)).block, (ad281.add (((ji33)).toNat * 8)).off + 6, none⟩ = some (.int .i64 ((rd_T105 l1 (ji33)).f2)) ∧ w'.cell? ⟨(ad281.add (((ji33)).toNat * 8)).block, (ad281.add (((ji33)).toNat * 8)).off + 7, none⟩ = some (.int .i64 ((rd_T105 l1 (ji33)).f3))) (ds := []) #[fF, fF, fF, fF, fF, fF, fF, fF, fF, fF, fF, fF, fF, fF, fF, fF, fF, fF, fF, fF, fF, fF] q5_ rfl rfl ⟨(blk_cell BK282.out 0).trans rfl, (blk_cell BK282.out 1).trans rfl, (blk_cell BK282.out 2).trans rfl, (blk_cell BK282.out 3).trans rfl, (blk_cell BK282.out 4).trans rfl, (blk_cell BK282.out 5).trans rfl, (blk_cell BK282.out 6).trans rfl, (blk_cell BK282.out 7).trans rfl, (up_ HB.out hw288_0), (up_ HB.out hw288_1), (up_ HB.out hw288_2), (up_ HB.out hw288_3), (up_ HB.out hw288_4), (up_ HB.out hw288_5), (up_ HB.out hw288_6), (up_ HB.out hw288_7)⟩ (fun hHeld => ?_); refine with_tabW peristyleref10_checkBucket.tab12 peristyleref10_checkBucket.bits12 (fun HT_ HW_ => ?_)
  generalize wc.drew = w37 at BK282 HB hx288_0 hx288_1 hx288_2 hx288_3 hx288_4 hx288_5 hx288_6 hx288_7 hHeld ⊢
  refine pure_ (i := 0) (N := some 50) (v := ?_) (a' := ?_) #[tT, fF, fF, fF, fF, fF, fF, fF, fF, fF, fF, fF, fF, fF, fF, fF, fF, fF, fF, fF, fF, fF] rfl rfl (any_of HT_.out q5_) (fun _ _ _ h => h) (Or.inl ⟨by rfl, ?_⟩) ?_ ?_
  rotate_left
  · intro w'
    go_simp
    with_reducible rfl
  rotate_left
  · simp only [Act.put, sqa, sqb, sqc, i64_w, i32_w]
    rfl
  refine pure_ (i := 2) (N := some 52) (v := ?_) (a' := ?_) #[tT, fF, tT, fF, fF, fF, fF, fF, fF, fF, fF, fF, fF, fF, fF, fF, fF, fF, fF, fF, fF, fF] rfl rfl (any_of HT_.out q5_) (fun _ _ _ h => h) (Or.inl ⟨by rfl, ?_⟩) ?_ ?_
  rotate_left
  · intro w'
    go_simp
    with_reducible rfl
  rotate_left
  · simp only [Act.put, sqa, sqb, sqc, i64_w, i32_w]
    rfl
  refine take_ (i := 1) (N := some 51) (v := ?_) (a' := ?_) #[tT, tT, tT, fF, fF, fF, fF, fF, fF, fF, fF, fF, fF, fF, fF, fF, fF, fF, fF, fF, fF, fF] rfl rfl (take_ofW HT_.out HW_.out q5_) (fun _ _ _ h => h) (Or.inl ⟨by rfl, ?_⟩) hHeld ?_ ?_
  rotate_left
  · rintro w' ⟨s0, s1, s2, s3, s4, s5, s6, s7, s8, s9, s10, s11, s12, s13, s14, s15⟩
    go_simp
    with_reducible rfl
  rotate_left
  · simp only [Act.put, sqa, sqb, sqc, i64_w, i32_w]
    rfl
  refine take_ (i := 3) (N := some 53) (v := ?_) (a' := ?_) #[tT, tT, tT, tT, fF, fF, fF, fF, fF, fF, fF, fF, fF, fF, fF, fF, fF, fF, fF, fF, fF, fF] rfl rfl (take_ofW HT_.out HW_.out q5_) (fun _ _ _ h => h) (Or.inl ⟨by rfl, ?_⟩) hHeld ?_ ?_
  rotate_left
  · rintro w' ⟨s0, s1, s2, s3, s4, s5, s6, s7, s8, s9, s10, s11, s12, s13, s14, s15⟩
    go_simp
    with_reducible rfl
  rotate_left
  · simp only [Act.put, sqa, sqb, sqc, i64_w, i32_w]
    rfl
  refine one_ (i := 4) (N := some 54) #[tT, tT, tT, tT, tT, fF, fF, fF, fF, fF, fF, fF, fF, fF, fF, fF, fF, fF, fF, fF, fF, fF] rfl rfl (one_of HT_.out q5_) (by decide) (fun K hK => ?_)
  refine goes_ Tryd.func86 q5_ rfl #[.agg #[.int .i64 ((rd_T105 l1 a2).f1.f0), .int .i64 ((rd_T105 l1 a2).f1.f1), .string ((rd_T105 l1 a2).f1.f2)], .agg #[.int .i64 ((rd_T105 l1 a2).f0.f0), .int .i64 ((rd_T105 l1 a2).f0.f1), .string ((rd_T105 l1 a2).f0.f2)]] (by rfl) rfl rfl q2_ ?_
  with_reducible refine (peristyleref10_order.calls kj19 ((rd_T105 l1 a2).f1.f0) ((rd_T105 l1 a2).f1.f1) ((rd_T105 l1 a2).f1.f2) ((rd_T105 l1 a2).f0.f0) ((rd_T105 l1 a2).f0.f1) ((rd_T105 l1 a2).f0.f2) t287 _ A28.out).mono ?_
  rintro e w38 ⟨rfl, hb⟩
  refine ⟨_, rfl, ?_⟩
  have n0_ := aM (bbR BK282.out hb)
  have n1_ := aM (below_step s15q6 hb)
  clear BK282
  clear HB
  have BK282 := n0_
  have HB := n1_
  clear n0_ n1_
  (try clear hb)
  (try clear hb2)
  (try clear hk)
  (try clear hi)
  refine hK.out _ _ ⟨(blk_cell BK282.out 0).trans rfl, (blk_cell BK282.out 1).trans rfl, (blk_cell BK282.out 2).trans rfl, (blk_cell BK282.out 3).trans rfl, (blk_cell BK282.out 4).trans rfl, (blk_cell BK282.out 5).trans rfl, (blk_cell BK282.out 6).trans rfl, (blk_cell BK282.out 7).trans rfl, (up_ HB.out hw288_0), (up_ HB.out hw288_1), (up_ HB.out hw288_2), (up_ HB.out hw288_3), (up_ HB.out hw288_4), (up_ HB.out hw288_5), (up_ HB.out hw288_6), (up_ HB.out hw288_7)⟩ (fun hHeld => ?_)
  clear hK K
  refine norm_ (a' := ?_) ?_ ?_
  rotate_left
  · show Act.put _ (some 54) _ = _
    simp only [Act.put, sqa, sqb, sqc, i64_w, i32_w]
    rfl
  refine pure_ (i := 5) (N := some 55) (v := ?_) (a' := ?_) #[tT, tT, tT, tT, tT, tT, fF, fF, fF, fF, fF, fF, fF, fF, fF, fF, fF, fF, fF, fF, fF, fF] rfl rfl (any_of HT_.out q5_) (fun _ _ _ h => h) (Or.inl ⟨by rfl, ?_⟩) ?_ ?_
  rotate_left
  · intro w'
    go_simp
    with_reducible rfl
  rotate_left
  · simp only [Act.put, sqa, sqb, sqc, i64_w, i32_w]
    rfl
  refine pure_ (i := 6) (N := some 56) (v := ?_) (a' := ?_) #[tT, tT, tT, tT, tT, tT, tT, fF, fF, fF, fF, fF, fF, fF, fF, fF, fF, fF, fF, fF, fF, fF] rfl rfl (any_of HT_.out q5_) (fun _ _ _ h => h) (Or.inl ⟨by rfl, ?_⟩) ?_ ?_
  rotate_left
  · intro w'
    go_simp
    with_reducible rfl
  rotate_left
  · simp only [Act.put, sqa, sqb, sqc, i64_w, i32_w]
    rfl
  refine pure_ (i := 7) (N := some 57) (v := ?_) (a' := ?_) #[tT, tT, tT, tT, tT, tT, tT, tT, fF, fF, fF, fF, fF, fF, fF, fF, fF, fF, fF, fF, fF, fF] rfl rfl (any_of HT_.out q5_) (fun _ _ _ h => h) (Or.inl ⟨by rfl, ?_⟩) ?_ ?_
  rotate_left
  · intro w'
    go_simp
    with_reducible rfl
  rotate_left
  · simp only [Act.put, sqa, sqb, sqc, i64_w, i32_w]
    rfl
  refine pure_ (i := 8) (N := some 58) (v := ?_) (a' := ?_) #[tT, tT, tT, tT, tT, tT, tT, tT, tT, fF, fF, fF, fF, fF, fF, fF, fF, fF, fF, fF, fF, fF] rfl rfl (any_of HT_.out q5_) (fun _ _ _ h => h) (Or.inl ⟨by rfl, ?_⟩) ?_ ?_
  rotate_left
  · intro w'
    go_simp
    with_reducible rfl
  rotate_left
  · simp only [Act.put, sqa, sqb, sqc, i64_w, i32_w]
    rfl
  refine pure_ (i := 9) (N := some 59) (v := ?_) (a' := ?_) #[tT, tT, tT, tT, tT, tT, tT, tT, tT, tT, fF, fF, fF, fF, fF, fF, fF, fF, fF, fF, fF, fF] rfl rfl (any_of HT_.out q5_) (fun _ _ _ h => h) (Or.inl ⟨by rfl, ?_⟩) ?_ ?_
  rotate_left
  · intro w'
    go_simp
    with_reducible rfl
  rotate_left
  · simp only [Act.put, sqa, sqb, sqc, i64_w, i32_w]
    rfl
  refine pure_ (i := 10) (N := some 60) (v := ?_) (a' := ?_) #[tT, tT, tT, tT, tT, tT, tT, tT, tT, tT, tT, fF, fF, fF, fF, fF, fF, fF, fF, fF, fF, fF] rfl rfl (any_of HT_.out q5_) (fun _ _ _ h => h) (Or.inl ⟨by rfl, ?_⟩) ?_ ?_
  rotate_left
  · intro w'
    go_simp
    with_reducible rfl
  rotate_left
  · simp only [Act.put, sqa, sqb, sqc, i64_w, i32_w]
    rfl
  refine pure_ (i := 12) (N := some 62) (v := ?_) (a' := ?_) #[tT, tT, tT, tT, tT, tT, tT, tT, tT, tT, tT, fF, tT, fF, fF, fF, fF, fF, fF, fF, fF, fF] rfl rfl (any_of HT_.out q5_) (fun _ _ _ h => h) (Or.inl ⟨by rfl, ?_⟩) ?_ ?_
  rotate_left
  · intro w'
    go_simp
    with_reducible rfl
  rotate_left
  · simp only [Act.put, sqa, sqb, sqc, i64_w, i32_w]
    rfl
  refine pure_ (i := 13) (N := some 63) (v := ?_) (a' := ?_) #[tT, tT, tT, tT, tT, tT, tT, tT, tT, tT, tT, fF, tT, tT, fF, fF, fF, fF, fF, fF, fF, fF] rfl rfl (any_of HT_.out q5_) (fun _ _ _ h => h) (Or.inl ⟨by rfl, ?_⟩) ?_ ?_
  rotate_left
  · intro w'
    go_simp
    with_reducible rfl
  rotate_left
  · simp only [Act.put, sqa, sqb, sqc, i64_w, i32_w]
    rfl
  refine pure_ (i := 14) (N := some 64) (v := ?_) (a' := ?_) #[tT, tT, tT, tT, tT, tT, tT, tT, tT, tT, tT, fF, tT, tT, tT, fF, fF, fF, fF, fF, fF, fF] rfl rfl (any_of HT_.out q5_) (fun _ _ _ h => h) (Or.inl ⟨by rfl, ?_⟩) ?_ ?_
  rotate_left
  · intro w'
    go_simp
    with_reducible rfl
  rotate_left
  · simp only [Act.put, sqa, sqb, sqc, i64_w, i32_w]
    rfl
  refine pure_ (i := 15) (N := some 65) (v := ?_) (a' := ?_) #[tT, tT, tT, tT, tT, tT, tT, tT, tT, tT, tT, fF, tT, tT, tT, tT, fF, fF, fF, fF, fF, fF] rfl rfl (any_of HT_.out q5_) (fun _ _ _ h => h) (Or.inl ⟨by rfl, ?_⟩) ?_ ?_
  rotate_left
  · intro w'
    go_simp
    with_reducible rfl
  rotate_left
  · simp only [Act.put, sqa, sqb, sqc, i64_w, i32_w]
    rfl
  refine pure_ (i := 16) (N := some 66) (v := ?_) (a' := ?_) #[tT, tT, tT, tT, tT, tT, tT, tT, tT, tT, tT, fF, tT, tT, tT, tT, tT, fF, fF, fF, fF, fF] rfl rfl (any_of HT_.out q5_) (fun _ _ _ h => h) (Or.inl ⟨by rfl, ?_⟩) ?_ ?_
  rotate_left
  · intro w'
    go_simp
    with_reducible rfl
  rotate_left
  · simp only [Act.put, sqa, sqb, sqc, i64_w, i32_w]
    rfl
  refine take_ (i := 11) (N := some 61) (v := ?_) (a' := ?_) #[tT, tT, tT, tT, tT, tT, tT, tT, tT, tT, tT, tT, tT, tT, tT, tT, tT, fF, fF, fF, fF, fF] rfl rfl (take_ofW HT_.out HW_.out q5_) (fun _ _ _ h => h) (Or.inl ⟨by rfl, ?_⟩) hHeld ?_ ?_
  rotate_left
  · rintro w' ⟨s0, s1, s2, s3, s4, s5, s6, s7, s8, s9, s10, s11, s12, s13, s14, s15⟩
    go_simp
    with_reducible rfl
  rotate_left
  · simp only [Act.put, sqa, sqb, sqc, i64_w, i32_w]
    rfl
  refine take_ (i := 17) (N := some 67) (v := ?_) (a' := ?_) #[tT, tT, tT, tT, tT, tT, tT, tT, tT, tT, tT, tT, tT, tT, tT, tT, tT, tT, fF, fF, fF, fF] rfl rfl (take_ofW HT_.out HW_.out q5_) (fun _ _ _ h => h) (Or.inl ⟨by rfl, ?_⟩) hHeld ?_ ?_
  rotate_left
  · rintro w' ⟨s0, s1, s2, s3, s4, s5, s6, s7, s8, s9, s10, s11, s12, s13, s14, s15⟩
    go_simp
    with_reducible rfl
  rotate_left
  · simp only [Act.put, sqa, sqb, sqc, i64_w, i32_w]
    rfl
  refine one_ (i := 18) (N := some 68) #[tT, tT, tT, tT, tT, tT, tT, tT, tT, tT, tT, tT, tT, tT, tT, tT, tT, tT, tT, fF, fF, fF] rfl rfl (one_of HT_.out q5_) (by decide) (fun K hK => ?_)
  refine goes_ Tryd.func86 q5_ rfl #[.agg #[.int .i64 ((rd_T105 l1 a2).f0.f0), .int .i64 ((rd_T105 l1 a2).f0.f1), .string ((rd_T105 l1 a2).f0.f2)], .agg #[.int .i64 ((rd_T105 l1 (ji33)).f1.f0), .int .i64 ((rd_T105 l1 (ji33)).f1.f1), .string ((rd_T105 l1 (ji33)).f1.f2)]] (by rfl) rfl rfl (by (try simp only [List.map_toArray, List.map_cons, List.map_nil]); first | done | (simp only [hji33]; rfl) | rfl | (simp only [List.length_drop, List.length_take]; rfl)) ?_
  with_reducible refine (peristyleref10_order.calls kj19 ((rd_T105 l1 a2).f0.f0) ((rd_T105 l1 a2).f0.f1) ((rd_T105 l1 a2).f0.f2) ((rd_T105 l1 (ji33)).f1.f0) ((rd_T105 l1 (ji33)).f1.f1) ((rd_T105 l1 (ji33)).f1.f2) t289 _ A36.out).mono ?_
  rintro e w39 ⟨rfl, hb⟩
  refine ⟨_, rfl, ?_⟩
  have n0_ := aM (bbR BK282.out hb)
  have n1_ := aM (below_step s15q6 hb)
  clear BK282
  clear HB
  have BK282 := n0_
  have HB := n1_
  clear n0_ n1_
  (try clear hb)
  (try clear hb2)
  (try clear hk)
  (try clear hi)
  refine hK.out _ _ ⟨(blk_cell BK282.out 0).trans rfl, (blk_cell BK282.out 1).trans rfl, (blk_cell BK282.out 2).trans rfl, (blk_cell BK282.out 3).trans rfl, (blk_cell BK282.out 4).trans rfl, (blk_cell BK282.out 5).trans rfl, (blk_cell BK282.out 6).trans rfl, (blk_cell BK282.out 7).trans rfl, (up_ HB.out hw288_0), (up_ HB.out hw288_1), (up_ HB.out hw288_2), (up_ HB.out hw288_3), (up_ HB.out hw288_4), (up_ HB.out hw288_5), (up_ HB.out hw288_6), (up_ HB.out hw288_7)⟩ (fun hHeld => ?_)
  clear hK K
  refine norm_ (a' := ?_) ?_ ?_
  rotate_left
  · show Act.put _ (some 68) _ = _
    simp only [Act.put, sqa, sqb, sqc, i64_w, i32_w]
    rfl
  refine pure_ (i := 19) (N := some 69) (v := ?_) (a' := ?_) #[tT, tT, tT, tT, tT, tT, tT, tT, tT, tT, tT, tT, tT, tT, tT, tT, tT, tT, tT, tT, fF, fF] rfl rfl (any_of HT_.out q5_) (fun _ _ _ h => h) (Or.inl ⟨by rfl, ?_⟩) ?_ ?_
  rotate_left
  · intro w'
    go_simp
    with_reducible rfl
  rotate_left
  · simp only [Act.put, sqa, sqb, sqc, i64_w, i32_w]
    rfl
  refine pure_ (i := 20) (N := some 70) (v := ?_) (a' := ?_) #[tT, tT, tT, tT, tT, tT, tT, tT, tT, tT, tT, tT, tT, tT, tT, tT, tT, tT, tT, tT, tT, fF] rfl rfl (any_of HT_.out q5_) (fun _ _ _ h => h) (Or.inl ⟨by rfl, ?_⟩) ?_ ?_
  rotate_left
  · intro w'
    go_simp
    with_reducible rfl
  rotate_left
  · simp only [Act.put, sqa, sqb, sqc, i64_w, i32_w]
    rfl
  refine pure_ (i := 21) (N := some 71) (v := ?_) (a' := ?_) #[tT, tT, tT, tT, tT, tT, tT, tT, tT, tT, tT, tT, tT, tT, tT, tT, tT, tT, tT, tT, tT, tT] rfl rfl (any_of HT_.out q5_) (fun _ _ _ h => h) (Or.inl ⟨by rfl, ?_⟩) ?_ ?_
  rotate_left
  · intro w'
    go_simp
    with_reducible rfl
  rotate_left
  · simp only [Act.put, sqa, sqb, sqc, i64_w, i32_w]
    rfl
  refine done_ (done_of HT_.out q5_) ?_
  try go_wp2
  go_meet
  case rel => exact ⟨_, (decide (t289 ≤ 0)), q4_, H', ⟨by have := HJ9.out; have := HJ19.out; first | omega | exact Nat.le_refl _⟩, ⟨blkR BK282.out⟩, ⟨s15q6⟩⟩
 clear HC27
 try clear c2
 try clear p2
 try clear q2
 try clear hx2
 try clear c3
 try clear p6
 try clear c8
 try clear p28
 try clear q28
 try clear hx28
 try clear c29
 try clear c29b0
 try clear c32
 try clear c32b0
 try clear c34
 try clear c34b0
 try clear c35
 try clear c35b0
 try clear hx288_0
 try clear hx288_1
 try clear hx288_2
 try clear hx288_3
 try clear hx288_4
 try clear hx288_5
 try clear hx288_6
 try clear hx288_7
 try clear p288
 try clear q288
 obtain ⟨kq, x71_26, rfl, HA, HJ26, BK282, HB⟩ := hcut
 cases kq with
 | zero => exact absurd HA.out (by simp [peristyleref10_checkBucket.j2])
 | succ kj26 => ?_
 have H := HA.out
 clear HA
 simp only [peristyleref10_checkBucket.j2] at H
 by_cases c42 : x71_26 = true
 · subst c42
   have H1 : (some 8) = some r := q7_
   clear H
   have H := H1
   clear H1
   obtain rfl := Option.some.inj H
   go_wp2
   go_ret
   exact ⟨eqR, s15q6⟩
 replace c42 := Bool.eq_false_iff.mpr c42
 subst c42
 have H1 : (if ((((rd_T105 l1 a2).f0.f0) == ((rd_T105 l1 a2).f1.f0) && (((rd_T105 l1 a2).f0.f1) == ((rd_T105 l1 a2).f1.f1) && (((rd_T105 l1 a2).f0.f2).toList == ((rd_T105 l1 a2).f1.f2).toList))) != (((rd_T105 l1 a2).f3) == 1)) = true then (some 3) else (some 0)) = some r := q6_
 clear H
 have H := H1
 clear H1
 by_cases c43 : ((((rd_T105 l1 a2).f0.f0) == ((rd_T105 l1 a2).f1.f0) && (((rd_T105 l1 a2).f0.f1) == ((rd_T105 l1 a2).f1.f1) && (((rd_T105 l1 a2).f0.f2).toList == ((rd_T105 l1 a2).f1.f2).toList))) != (((rd_T105 l1 a2).f3) == 1)) = true
 case neg =>
  rw [if_neg c43] at H
  have c43b0 : ((((rd_T105 l1 a2).f0.f0) == ((rd_T105 l1 a2).f1.f0) && (((rd_T105 l1 a2).f0.f1) == ((rd_T105 l1 a2).f1.f1) && (((rd_T105 l1 a2).f0.f2).toList == ((rd_T105 l1 a2).f1.f2).toList))) != (((rd_T105 l1 a2).f3) == 1)) = false := by simpa using c43
  (try (have c43b1 : decide ((((rd_T105 l1 a2).f0.f0) == ((rd_T105 l1 a2).f1.f0) && (((rd_T105 l1 a2).f0.f1) == ((rd_T105 l1 a2).f1.f1) && (((rd_T105 l1 a2).f0.f2).toList == ((rd_T105 l1 a2).f1.f2).toList))) = (((rd_T105 l1 a2).f3) == 1)) = true := by simpa using c43))
  (try (have c43b2 : ((((rd_T105 l1 a2).f0.f0) == ((rd_T105 l1 a2).f1.f0) && (((rd_T105 l1 a2).f0.f1) == ((rd_T105 l1 a2).f1.f1) && (((rd_T105 l1 a2).f0.f2).toList == ((rd_T105 l1 a2).f1.f2).toList))) == (((rd_T105 l1 a2).f3) == 1)) = true := by simpa using c43))
  clear c43
  obtain rfl := Option.some.inj H
  try go_wp2
  have n0_ := aM (blk_drew BK282.out)
  have n1_ := aM (below_drew1 HB.out)
  clear BK282
  clear HB
  have BK282 := n0_
  have HB := n1_
  clear n0_ n1_
  refine start_ (n := 9) (S := fun w' => w'.cell? ⟨gb282, 0, none⟩ = some (.int .i64 ((rd_T105 l1 a2).f0.f0)) ∧ w'.cell? ⟨gb282, 1, none⟩ = some (.int .i64 ((rd_T105 l1 a2).f0.f1)) ∧ w'.cell? ⟨gb282, 2, none⟩ = some (.string ((rd_T105 l1 a2).f0.f2)) ∧ w'.cell? ⟨gb282, 3, none⟩ = some (.int .i64 ((rd_T105 l1 a2).f1.f0)) ∧ w'.cell? ⟨gb282, 4, none⟩ = some (.int .i64 ((rd_T105 l1 a2).f1.f1)) ∧ w'.cell? ⟨gb282, 5, none⟩ = some (.string ((rd_T105 l1 a2).f1.f2)) ∧ w'.cell? ⟨gb282, 6, none⟩ = some (.int .i64 ((rd_T105 l1 a2).f2)) ∧ w'.cell? ⟨gb282, 7, none⟩ = some (.int .i64 ((rd_T105 l1 a2).f3))) (ds := []) #[fF, fF, fF, fF, fF, fF, fF, fF, fF] q5_ rfl rfl ⟨(blk_cell BK282.out 0).trans rfl, (blk_cell BK282.out 1).trans rfl, (blk_cell BK282.out 2).trans rfl, (blk_cell BK282.out 3).trans rfl, (blk_cell BK282.out 4).trans rfl, (blk_cell BK282.out 5).trans rfl, (blk_cell BK282.out 6).trans rfl, (blk_cell BK282.out 7).trans rfl⟩ (fun hHeld => ?_); refine with_tabW peristyleref10_checkBucket.tab14 peristyleref10_checkBucket.bits14 (fun HT_ HW_ => ?_)
  generalize wc.drew = w45 at BK282 HB hHeld ⊢
  refine pure_ (i := 0) (N := some 72) (v := ?_) (a' := ?_) #[tT, fF, fF, fF, fF, fF, fF, fF, fF] rfl rfl (any_of HT_.out q5_) (fun _ _ _ h => h) (Or.inl ⟨by rfl, ?_⟩) ?_ ?_
  rotate_left
  · intro w'
    go_simp
    with_reducible rfl
  rotate_left
  · simp only [Act.put, sqa, sqb, sqc, i64_w, i32_w]
    rfl
  refine pure_ (i := 2) (N := some 74) (v := ?_) (a' := ?_) #[tT, fF, tT, fF, fF, fF, fF, fF, fF] rfl rfl (any_of HT_.out q5_) (fun _ _ _ h => h) (Or.inl ⟨by rfl, ?_⟩) ?_ ?_
  rotate_left
  · intro w'
    go_simp
    with_reducible rfl
  rotate_left
  · simp only [Act.put, sqa, sqb, sqc, i64_w, i32_w]
    rfl
  refine pure_ (i := 5) (N := some 77) (v := ?_) (a' := ?_) #[tT, fF, tT, fF, fF, tT, fF, fF, fF] rfl rfl (any_of HT_.out q5_) (fun _ _ _ h => h) (Or.inl ⟨by rfl, ?_⟩) ?_ ?_
  rotate_left
  · intro w'
    go_simp
    with_reducible rfl
  rotate_left
  · simp only [Act.put, sqa, sqb, sqc, i64_w, i32_w]
    rfl
  refine take_ (i := 1) (N := some 73) (v := ?_) (a' := ?_) #[tT, tT, tT, fF, fF, tT, fF, fF, fF] rfl rfl (take_ofW HT_.out HW_.out q5_) (fun _ _ _ h => h) (Or.inl ⟨by rfl, ?_⟩) hHeld ?_ ?_
  rotate_left
  · rintro w' ⟨s0, s1, s2, s3, s4, s5, s6, s7⟩
    go_simp
    with_reducible rfl
  rotate_left
  · simp only [Act.put, sqa, sqb, sqc, i64_w, i32_w]
    rfl
  refine take_ (i := 3) (N := some 75) (v := ?_) (a' := ?_) #[tT, tT, tT, tT, fF, tT, fF, fF, fF] rfl rfl (take_ofW HT_.out HW_.out q5_) (fun _ _ _ h => h) (Or.inl ⟨by rfl, ?_⟩) hHeld ?_ ?_
  rotate_left
  · rintro w' ⟨s0, s1, s2, s3, s4, s5, s6, s7⟩
    go_simp
    with_reducible rfl
  rotate_left
  · simp only [Act.put, sqa, sqb, sqc, i64_w, i32_w]
    rfl
  refine pure_ (i := 4) (N := some 76) (v := ?_) (a' := ?_) #[tT, tT, tT, tT, tT, tT, fF, fF, fF] rfl rfl (any_of HT_.out q5_) (fun _ _ _ h => h) (Or.inl ⟨by rfl, ?_⟩) ?_ ?_
  rotate_left
  · intro w'
    go_simp
    with_reducible rfl
  rotate_left
  · simp only [Act.put, sqa, sqb, sqc, i64_w, i32_w]
    rfl
  refine take_ (i := 6) (N := some 78) (v := ?_) (a' := ?_) #[tT, tT, tT, tT, tT, tT, tT, fF, fF] rfl rfl (take_ofW HT_.out HW_.out q5_) (fun _ _ _ h => h) (Or.inl ⟨by rfl, ?_⟩) hHeld ?_ ?_
  rotate_left
  · rintro w' ⟨s0, s1, s2, s3, s4, s5, s6, s7⟩
    go_simp
    with_reducible rfl
  rotate_left
  · simp only [Act.put, sqa, sqb, sqc, i64_w, i32_w]
    rfl
  refine pure_ (i := 7) (N := some 79) (v := ?_) (a' := ?_) #[tT, tT, tT, tT, tT, tT, tT, tT, fF] rfl rfl (any_of HT_.out q5_) (fun _ _ _ h => h) (Or.inl ⟨by rfl, ?_⟩) ?_ ?_
  rotate_left
  · intro w'
    go_simp
    with_reducible rfl
  rotate_left
  · simp only [Act.put, sqa, sqb, sqc, i64_w, i32_w]
    rfl
  refine pure_ (i := 8) (N := some 80) (v := ?_) (a' := ?_) #[tT, tT, tT, tT, tT, tT, tT, tT, tT] rfl rfl (any_of HT_.out q5_) (fun _ _ _ h => h) (Or.inl ⟨by rfl, ?_⟩) ?_ ?_
  rotate_left
  · intro w'
    go_simp
    with_reducible rfl
  rotate_left
  · simp only [Act.put, sqa, sqb, sqc, i64_w, i32_w]
    rfl
  refine done_ (done_of HT_.out q5_) ?_
  try go_wp2
  go_ret
  exact ⟨eqR, s15q6⟩
 rw [if_pos c43] at H
 have c43b0 : ((((rd_T105 l1 a2).f0.f0) == ((rd_T105 l1 a2).f1.f0) && (((rd_T105 l1 a2).f0.f1) == ((rd_T105 l1 a2).f1.f1) && (((rd_T105 l1 a2).f0.f2).toList == ((rd_T105 l1 a2).f1.f2).toList))) != (((rd_T105 l1 a2).f3) == 1)) = true := c43
 (try (have c43b1 : decide ((((rd_T105 l1 a2).f0.f0) == ((rd_T105 l1 a2).f1.f0) && (((rd_T105 l1 a2).f0.f1) == ((rd_T105 l1 a2).f1.f1) && (((rd_T105 l1 a2).f0.f2).toList == ((rd_T105 l1 a2).f1.f2).toList))) = (((rd_T105 l1 a2).f3) == 1)) = false := by simpa using c43))
 (try (have c43b2 : ((((rd_T105 l1 a2).f0.f0) == ((rd_T105 l1 a2).f1.f0) && (((rd_T105 l1 a2).f0.f1) == ((rd_T105 l1 a2).f1.f1) && (((rd_T105 l1 a2).f0.f2).toList == ((rd_T105 l1 a2).f1.f2).toList))) == (((rd_T105 l1 a2).f3) == 1)) = false := by simpa using c43))
 (try (have c43b3 : ¬ ((((rd_T105 l1 a2).f0.f0) == ((rd_T105 l1 a2).f1.f0) && (((rd_T105 l1 a2).f0.f1) == ((rd_T105 l1 a2).f1.f1) && (((rd_T105 l1 a2).f0.f2).toList == ((rd_T105 l1 a2).f1.f2).toList))) = (((rd_T105 l1 a2).f3) == 1)) := by simpa using c43))
 clear c43
 obtain rfl := Option.some.inj H
 try go_wp2
 have n0_ := aM (blk_drew BK282.out)
 have n1_ := aM (below_drew1 HB.out)
 clear BK282
 clear HB
 have BK282 := n0_
 have HB := n1_
 clear n0_ n1_
 refine start_ (n := 9) (S := fun w' => w'.cell? ⟨gb282, 0, none⟩ = some (.int .i64 ((rd_T105 l1 a2).f0.f0)) ∧ w'.cell? ⟨gb282, 1, none⟩ = some (.int .i64 ((rd_T105 l1 a2).f0.f1)) ∧ w'.cell? ⟨gb282, 2, none⟩ = some (.string ((rd_T105 l1 a2).f0.f2)) ∧ w'.cell? ⟨gb282, 3, none⟩ = some (.int .i64 ((rd_T105 l1 a2).f1.f0)) ∧ w'.cell? ⟨gb282, 4, none⟩ = some (.int .i64 ((rd_T105 l1 a2).f1.f1)) ∧ w'.cell? ⟨gb282, 5, none⟩ = some (.string ((rd_T105 l1 a2).f1.f2)) ∧ w'.cell? ⟨gb282, 6, none⟩ = some (.int .i64 ((rd_T105 l1 a2).f2)) ∧ w'.cell? ⟨gb282, 7, none⟩ = some (.int .i64 ((rd_T105 l1 a2).f3))) (ds := []) #[fF, fF, fF, fF, fF, fF, fF, fF, fF] q5_ rfl rfl ⟨(blk_cell BK282.out 0).trans rfl, (blk_cell BK282.out 1).trans rfl, (blk_cell BK282.out 2).trans rfl, (blk_cell BK282.out 3).trans rfl, (blk_cell BK282.out 4).trans rfl, (blk_cell BK282.out 5).trans rfl, (blk_cell BK282.out 6).trans rfl, (blk_cell BK282.out 7).trans rfl⟩ (fun hHeld => ?_); refine with_tabW peristyleref10_checkBucket.tab14 peristyleref10_checkBucket.bits14 (fun HT_ HW_ => ?_)
 generalize wc.drew = w44 at BK282 HB hHeld ⊢
 refine pure_ (i := 0) (N := some 72) (v := ?_) (a' := ?_) #[tT, fF, fF, fF, fF, fF, fF, fF, fF] rfl rfl (any_of HT_.out q5_) (fun _ _ _ h => h) (Or.inl ⟨by rfl, ?_⟩) ?_ ?_
 rotate_left
 · intro w'
   go_simp
   with_reducible rfl
 rotate_left
 · simp only [Act.put, sqa, sqb, sqc, i64_w, i32_w]
   rfl
 refine pure_ (i := 2) (N := some 74) (v := ?_) (a' := ?_) #[tT, fF, tT, fF, fF, fF, fF, fF, fF] rfl rfl (any_of HT_.out q5_) (fun _ _ _ h => h) (Or.inl ⟨by rfl, ?_⟩) ?_ ?_
 rotate_left
 · intro w'
   go_simp
   with_reducible rfl
 rotate_left
 · simp only [Act.put, sqa, sqb, sqc, i64_w, i32_w]
   rfl
 refine pure_ (i := 5) (N := some 77) (v := ?_) (a' := ?_) #[tT, fF, tT, fF, fF, tT, fF, fF, fF] rfl rfl (any_of HT_.out q5_) (fun _ _ _ h => h) (Or.inl ⟨by rfl, ?_⟩) ?_ ?_
 rotate_left
 · intro w'
   go_simp
   with_reducible rfl
 rotate_left
 · simp only [Act.put, sqa, sqb, sqc, i64_w, i32_w]
   rfl
 refine take_ (i := 1) (N := some 73) (v := ?_) (a' := ?_) #[tT, tT, tT, fF, fF, tT, fF, fF, fF] rfl rfl (take_ofW HT_.out HW_.out q5_) (fun _ _ _ h => h) (Or.inl ⟨by rfl, ?_⟩) hHeld ?_ ?_
 rotate_left
 · rintro w' ⟨s0, s1, s2, s3, s4, s5, s6, s7⟩
   go_simp
   with_reducible rfl
 rotate_left
 · simp only [Act.put, sqa, sqb, sqc, i64_w, i32_w]
   rfl
 refine take_ (i := 3) (N := some 75) (v := ?_) (a' := ?_) #[tT, tT, tT, tT, fF, tT, fF, fF, fF] rfl rfl (take_ofW HT_.out HW_.out q5_) (fun _ _ _ h => h) (Or.inl ⟨by rfl, ?_⟩) hHeld ?_ ?_
 rotate_left
 · rintro w' ⟨s0, s1, s2, s3, s4, s5, s6, s7⟩
   go_simp
   with_reducible rfl
 rotate_left
 · simp only [Act.put, sqa, sqb, sqc, i64_w, i32_w]
   rfl
 refine pure_ (i := 4) (N := some 76) (v := ?_) (a' := ?_) #[tT, tT, tT, tT, tT, tT, fF, fF, fF] rfl rfl (any_of HT_.out q5_) (fun _ _ _ h => h) (Or.inl ⟨by rfl, ?_⟩) ?_ ?_
 rotate_left
 · intro w'
   go_simp
   with_reducible rfl
 rotate_left
 · simp only [Act.put, sqa, sqb, sqc, i64_w, i32_w]
   rfl
 refine take_ (i := 6) (N := some 78) (v := ?_) (a' := ?_) #[tT, tT, tT, tT, tT, tT, tT, fF, fF] rfl rfl (take_ofW HT_.out HW_.out q5_) (fun _ _ _ h => h) (Or.inl ⟨by rfl, ?_⟩) hHeld ?_ ?_
 rotate_left
 · rintro w' ⟨s0, s1, s2, s3, s4, s5, s6, s7⟩
   go_simp
   with_reducible rfl
 rotate_left
 · simp only [Act.put, sqa, sqb, sqc, i64_w, i32_w]
   rfl
 refine pure_ (i := 7) (N := some 79) (v := ?_) (a' := ?_) #[tT, tT, tT, tT, tT, tT, tT, tT, fF] rfl rfl (any_of HT_.out q5_) (fun _ _ _ h => h) (Or.inl ⟨by rfl, ?_⟩) ?_ ?_
 rotate_left
 · intro w'
   go_simp
   with_reducible rfl
 rotate_left
 · simp only [Act.put, sqa, sqb, sqc, i64_w, i32_w]
   rfl
 refine pure_ (i := 8) (N := some 80) (v := ?_) (a' := ?_) #[tT, tT, tT, tT, tT, tT, tT, tT, tT] rfl rfl (any_of HT_.out q5_) (fun _ _ _ h => h) (Or.inl ⟨by rfl, ?_⟩) ?_ ?_
 rotate_left
 · intro w'
   go_simp
   with_reducible rfl
 rotate_left
 · simp only [Act.put, sqa, sqb, sqc, i64_w, i32_w]
   rfl
 refine done_ (done_of HT_.out q5_) ?_
 try go_wp2
 go_ret
 exact ⟨eqR, s15q6⟩
end Go.Proofs.YtgcijejmmhjibaaDoor.J
