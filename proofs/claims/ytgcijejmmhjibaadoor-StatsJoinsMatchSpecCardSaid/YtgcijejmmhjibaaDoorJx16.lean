-- Printed by a program of this session (a patched print).
import Derived.Test.YtgcijejmmhjibaaDoorJx0
import Derived.Test.YtgcijejmmhjibaaDoorJx11
import Derived.Test.YtgcijejmmhjibaaDoorJx14
import Derived.Test.YtgcijejmmhjibaaDoorJx15
namespace Go.Proofs.YtgcijejmmhjibaaDoor.J
open Go.RowKit Go.Proofs.YtgcijejmmhjibaaDoorW.PrintWords Go.Proofs.YtgcijejmmhjibaaDoorW.PrintLast Go.Proofs.YtgcijejmmhjibaaDoorW.PrintMore
attribute [local go_sem] max2_int min2_int max_two min_two max_three min_three max_four min_four   -- for this text's walks alone
set_option linter.unusedVariables false
set_option linter.unusedSimpArgs false

theorem s16qm0 {p : Prop} (h : p := by repeat' first | (with_reducible exact ih0 _ _ _ _ _ _) | (with_reducible exact ih1 _ _ _ _ _ _) | (with_reducible exact ih2 _ _ _ _ _ _ _ _ _) | (with_reducible exact ih3 _ _ _ _ _ _ _ _) | (with_reducible exact peristyleref10_checkBucket.mono _ _ _ _) | (with_reducible exact peristyleref10_checkOften.mono _ _ _) | (with_reducible exact LeO.refl _) | (with_reducible exact LeO.none _) | (with_reducible refine LeO.ite ?_ ?_) | (with_reducible refine LeO.bind ?_ (fun _ => ?_)) | exact ih0 _ _ _ _ _ _ | exact ih1 _ _ _ _ _ _ | exact ih2 _ _ _ _ _ _ _ _ _ | exact ih3 _ _ _ _ _ _ _ _ | exact peristyleref10_checkBucket.mono _ _ _ _ | exact peristyleref10_checkOften.mono _ _ _ | exact LeO.none _ | refine LeO.ite ?_ ?_ | refine LeO.bind ?_ (fun _ => ?_)) : p := h
theorem s16q6 {p : Prop} (h : p := by repeat (first | (with_reducible first | exact HB.out | apply below_alloc | apply pw_below_drewN | apply below_drew1 | refine below_set ?_ GE290.out) | exact HB.out)) : p := h
theorem s16q7 {p : Prop} (h : p := by repeat (first | (with_reducible first | exact HB.out | apply below_alloc | apply pw_below_drewN | apply below_drew1 | refine below_set ?_ GE290.out | refine below_set ?_ GE296.out) | exact HB.out)) : p := h
theorem s16q8 {p : Prop} (h : p := by (with_reducible repeat (first | refine blk_drewN ?_ _ | refine blk_drew ?_ | refine blk_alloc ?_ _)); refine blk_far ?_ NB290_296.out _; (with_reducible repeat (first | refine blk_drewN ?_ _ | refine blk_drew ?_ | refine blk_alloc ?_ _)); refine blk_far ?_ NB290_296.out _; (with_reducible repeat (first | refine blk_drewN ?_ _ | refine blk_drew ?_ | refine blk_alloc ?_ _)); refine blk_far ?_ NB290_296.out _; (with_reducible repeat (first | refine blk_drewN ?_ _ | refine blk_drew ?_ | refine blk_alloc ?_ _)); refine blk_far ?_ NB290_296.out _; (with_reducible repeat (first | refine blk_drewN ?_ _ | refine blk_drew ?_ | refine blk_alloc ?_ _)); refine blk_far ?_ NB290_296.out _; (with_reducible repeat (first | refine blk_drewN ?_ _ | refine blk_drew ?_ | refine blk_alloc ?_ _)); refine blk_far ?_ NB290_296.out _; (with_reducible repeat (first | refine blk_drewN ?_ _ | refine blk_drew ?_ | refine blk_alloc ?_ _)); refine blk_far ?_ NB290_296.out _; (with_reducible repeat (first | refine blk_drewN ?_ _ | refine blk_drew ?_ | refine blk_alloc ?_ _)); refine blk_far ?_ NB290_296.out _; (with_reducible repeat (first | refine blk_drewN ?_ _ | refine blk_drew ?_ | refine blk_alloc ?_ _)); exact BK290.out) : p := h
theorem s16q9 {p : Prop} (h : p := by (with_reducible repeat (first | refine blk_drewN ?_ _ | refine blk_drew ?_ | refine blk_alloc ?_ _)); refine blk_put (cs := #[.int .i64 ((rd_T105 l1_3 x49_3).f0.f0), .int .i64 ((rd_T105 l1_3 x49_3).f0.f1), .string ((rd_T105 l1_3 x49_3).f0.f2), .int .i64 ((rd_T105 l1_3 x49_3).f1.f0), .int .i64 ((rd_T105 l1_3 x49_3).f1.f1), .string ((rd_T105 l1_3 x49_3).f1.f2), .int .i64 ((rd_T105 l1_3 x49_3).f2), .int .i64 0]) ?_ 7 _ rfl; (with_reducible repeat (first | refine blk_drewN ?_ _ | refine blk_drew ?_ | refine blk_alloc ?_ _)); refine blk_put (cs := #[.int .i64 ((rd_T105 l1_3 x49_3).f0.f0), .int .i64 ((rd_T105 l1_3 x49_3).f0.f1), .string ((rd_T105 l1_3 x49_3).f0.f2), .int .i64 ((rd_T105 l1_3 x49_3).f1.f0), .int .i64 ((rd_T105 l1_3 x49_3).f1.f1), .string ((rd_T105 l1_3 x49_3).f1.f2), .int .i64 0, .int .i64 0]) ?_ 6 _ rfl; (with_reducible repeat (first | refine blk_drewN ?_ _ | refine blk_drew ?_ | refine blk_alloc ?_ _)); refine blk_put (cs := #[.int .i64 ((rd_T105 l1_3 x49_3).f0.f0), .int .i64 ((rd_T105 l1_3 x49_3).f0.f1), .string ((rd_T105 l1_3 x49_3).f0.f2), .int .i64 ((rd_T105 l1_3 x49_3).f1.f0), .int .i64 ((rd_T105 l1_3 x49_3).f1.f1), .string (⟨#[]⟩ : ByteArray), .int .i64 0, .int .i64 0]) ?_ 5 _ rfl; (with_reducible repeat (first | refine blk_drewN ?_ _ | refine blk_drew ?_ | refine blk_alloc ?_ _)); refine blk_put (cs := #[.int .i64 ((rd_T105 l1_3 x49_3).f0.f0), .int .i64 ((rd_T105 l1_3 x49_3).f0.f1), .string ((rd_T105 l1_3 x49_3).f0.f2), .int .i64 ((rd_T105 l1_3 x49_3).f1.f0), .int .i64 0, .string (⟨#[]⟩ : ByteArray), .int .i64 0, .int .i64 0]) ?_ 4 _ rfl; (with_reducible repeat (first | refine blk_drewN ?_ _ | refine blk_drew ?_ | refine blk_alloc ?_ _)); refine blk_put (cs := #[.int .i64 ((rd_T105 l1_3 x49_3).f0.f0), .int .i64 ((rd_T105 l1_3 x49_3).f0.f1), .string ((rd_T105 l1_3 x49_3).f0.f2), .int .i64 0, .int .i64 0, .string (⟨#[]⟩ : ByteArray), .int .i64 0, .int .i64 0]) ?_ 3 _ rfl; (with_reducible repeat (first | refine blk_drewN ?_ _ | refine blk_drew ?_ | refine blk_alloc ?_ _)); refine blk_put (cs := #[.int .i64 ((rd_T105 l1_3 x49_3).f0.f0), .int .i64 ((rd_T105 l1_3 x49_3).f0.f1), .string (⟨#[]⟩ : ByteArray), .int .i64 0, .int .i64 0, .string (⟨#[]⟩ : ByteArray), .int .i64 0, .int .i64 0]) ?_ 2 _ rfl; (with_reducible repeat (first | refine blk_drewN ?_ _ | refine blk_drew ?_ | refine blk_alloc ?_ _)); refine blk_put (cs := #[.int .i64 ((rd_T105 l1_3 x49_3).f0.f0), .int .i64 0, .string (⟨#[]⟩ : ByteArray), .int .i64 0, .int .i64 0, .string (⟨#[]⟩ : ByteArray), .int .i64 0, .int .i64 0]) ?_ 1 _ rfl; (with_reducible repeat (first | refine blk_drewN ?_ _ | refine blk_drew ?_ | refine blk_alloc ?_ _)); refine blk_put (cs := #[.int .i64 0, .int .i64 0, .string (⟨#[]⟩ : ByteArray), .int .i64 0, .int .i64 0, .string (⟨#[]⟩ : ByteArray), .int .i64 0, .int .i64 0]) ?_ 0 _ rfl; (with_reducible repeat (first | refine blk_drewN ?_ _ | refine blk_drew ?_ | refine blk_alloc ?_ _)); exact BK296.out) : p := h
theorem s16q10 {p : Prop} (h : p := by rw [hg]; exact (below_size q1_)) : p := h
theorem s16q11 {p : Prop} (h : p := by rw [hg]; exact (below_size s16q6)) : p := h
theorem s16q12 {p : Prop} (h : p := by rw [hg]; exact Nat.ne_of_gt (blk_lt (g := gb290) (o := .cells #[.int .i64 a1_0, .int .i64 a1_1, .slice A1_2 l1_2.length c1_2, .slice (some ad295) l1_3.length c1_3] 44 (0, 0)) (blkR BK290.out))) : p := h
theorem s16q13 {p : Prop} (h : p := by rw [hg]; exact Nat.ne_of_lt (blk_lt (g := gb290) (o := .cells #[.int .i64 a1_0, .int .i64 a1_1, .slice A1_2 l1_2.length c1_2, .slice (some ad295) l1_3.length c1_3] 44 (0, 0)) (blkR BK290.out))) : p := h
/-! ### peristyleref10_CheckStats: function 38 -/
mutual
def peristyleref10_CheckStats.j0 : Nat → Int → Bool → Int → Int → List (S100) → List (S105) → Option (Int)
  | 0, _, _, _, _, _, _ => none
  | k + 1, x0, x26, x291000, x291001, x291002, x291003 => if x26 = true then (some 1) else (if (x291002.length : Int) > 20 then (peristyleref10_CheckStats.j1 k x0 true x291000 x291001 x291002 x291003) else (peristyleref10_CheckStats.j1 k x0 (decide ((x291003.length : Int) > 50)) x291000 x291001 x291002 x291003))
def peristyleref10_CheckStats.j1 : Nat → Int → Bool → Int → Int → List (S100) → List (S105) → Option (Int)
  | 0, _, _, _, _, _, _ => none
  | k + 1, x0, x36, x291000, x291001, x291002, x291003 => if x36 = true then (some 2) else ((peristyleref10_checkOften.f k x0 x291002).bind fun t294 => (if t294 = 0 then (peristyleref10_CheckStats.l0 k x0 x291001 x291003 (x291003.length : Int) 0 x291000 x291001 x291002 x291003) else (some t294)))
def peristyleref10_CheckStats.l0 : Nat → Int → Int → List (S105) → Int → Int → Int → Int → List (S100) → List (S105) → Option (Int)
  | 0, _, _, _, _, _, _, _, _, _ => none
  | k + 1, x0, x6, x47, x48, x49, x291000, x291001, x291002, x291003 => if x49 < x48 then (if 0 ≤ x49 then (if x49 < (x47.length : Int) then ((peristyleref10_checkBucket.f k x0 x291003 x49).bind fun t297 => (if t297 = 0 then (peristyleref10_CheckStats.l0 k x0 (wrap64 (x6 + ((rd_T105 x47 x49).f2))) x47 x48 (wrap64 (x49 + 1)) x291000 x291001 x291002 x291003) else (some t297))) else (none)) else (none)) else (peristyleref10_CheckStats.l1 k x6 x291002 (x291002.length : Int) 0 x291000 x291001 x291002 x291003)
def peristyleref10_CheckStats.l1 : Nat → Int → List (S100) → Int → Int → Int → Int → List (S100) → List (S105) → Option (Int)
  | 0, _, _, _, _, _, _, _, _ => none
  | k + 1, x6, x68, x69, x70, x291000, x291001, x291002, x291003 => if x70 < x69 then (if 0 ≤ x70 then (if x70 < (x68.length : Int) then (peristyleref10_CheckStats.l1 k (wrap64 (x6 + ((rd_T100 x68 x70).f1))) x68 x69 (wrap64 (x70 + 1)) x291000 x291001 x291002 x291003) else (none)) else (none)) else (if x6 = x291000 then (some 0) else (some 3))
end
def peristyleref10_CheckStats.f (k : Nat) (a0 : Int) (a1_0 : Int) (a1_1 : Int) (l1_2 : List (S100)) (l1_3 : List (S105)) : Option (Int) := (peristyleref10_within.f a0 1 3).bind fun t291 => (if t291 = true then ((peristyleref10_within.f a1_0 0 2000).bind fun t292 => (if t292 = true then ((peristyleref10_within.f a1_1 0 a1_0).bind fun t293 => (peristyleref10_CheckStats.j0 k a0 (!t293) a1_0 a1_1 l1_2 l1_3)) else (peristyleref10_CheckStats.j0 k a0 true a1_0 a1_1 l1_2 l1_3))) else (some 4))
theorem peristyleref10_CheckStats.mono_l : ∀ k, (∀ y0 y1 y2 y3 y4 y5, LeO (peristyleref10_CheckStats.j0 k y0 y1 y2 y3 y4 y5) (peristyleref10_CheckStats.j0 (k + 1) y0 y1 y2 y3 y4 y5)) ∧ (∀ y0 y1 y2 y3 y4 y5, LeO (peristyleref10_CheckStats.j1 k y0 y1 y2 y3 y4 y5) (peristyleref10_CheckStats.j1 (k + 1) y0 y1 y2 y3 y4 y5)) ∧ (∀ y0 y1 y2 y3 y4 y5 y6 y7 y8, LeO (peristyleref10_CheckStats.l0 k y0 y1 y2 y3 y4 y5 y6 y7 y8) (peristyleref10_CheckStats.l0 (k + 1) y0 y1 y2 y3 y4 y5 y6 y7 y8)) ∧ (∀ y0 y1 y2 y3 y4 y5 y6 y7, LeO (peristyleref10_CheckStats.l1 k y0 y1 y2 y3 y4 y5 y6 y7) (peristyleref10_CheckStats.l1 (k + 1) y0 y1 y2 y3 y4 y5 y6 y7))
  | 0 => ⟨fun _ _ _ _ _ _ r h => by simp [peristyleref10_CheckStats.j0] at h, fun _ _ _ _ _ _ r h => by simp [peristyleref10_CheckStats.j1] at h, fun _ _ _ _ _ _ _ _ _ r h => by simp [peristyleref10_CheckStats.l0] at h, fun _ _ _ _ _ _ _ _ r h => by simp [peristyleref10_CheckStats.l1] at h⟩
  | k + 1 => by
    obtain ⟨ih0, ih1, ih2, ih3⟩ := peristyleref10_CheckStats.mono_l k
    refine ⟨?_, ?_, ?_, ?_⟩
    · intro y0 y1 y2 y3 y4 y5
      unfold peristyleref10_CheckStats.j0
      exact s16qm0
    · intro y0 y1 y2 y3 y4 y5
      unfold peristyleref10_CheckStats.j1
      exact s16qm0
    · intro y0 y1 y2 y3 y4 y5 y6 y7 y8
      unfold peristyleref10_CheckStats.l0
      exact s16qm0
    · intro y0 y1 y2 y3 y4 y5 y6 y7
      unfold peristyleref10_CheckStats.l1
      exact s16qm0
theorem peristyleref10_CheckStats.mono : ∀ a0 a1 a2 a3 a4 k, LeO (peristyleref10_CheckStats.f k a0 a1 a2 a3 a4) (peristyleref10_CheckStats.f (k + 1) a0 a1 a2 a3 a4) := by
 intro a0 a1 a2 a3 a4 k
 obtain ⟨ih0, ih1, ih2, ih3⟩ := peristyleref10_CheckStats.mono_l k
 unfold peristyleref10_CheckStats.f
 repeat' first
  | (with_reducible exact ih0 _ _ _ _ _ _)
  | (with_reducible exact ih1 _ _ _ _ _ _)
  | (with_reducible exact ih2 _ _ _ _ _ _ _ _ _)
  | (with_reducible exact ih3 _ _ _ _ _ _ _ _)
  | (with_reducible exact peristyleref10_checkBucket.mono _ _ _ _)
  | (with_reducible exact peristyleref10_checkOften.mono _ _ _)
  | (with_reducible exact LeO.refl _)
  | (with_reducible exact LeO.none _)
  | (with_reducible refine LeO.ite ?_ ?_)
  | (with_reducible refine LeO.bind ?_ (fun _ => ?_))
  | exact ih0 _ _ _ _ _ _
  | exact ih1 _ _ _ _ _ _
  | exact ih2 _ _ _ _ _ _ _ _ _
  | exact ih3 _ _ _ _ _ _ _ _
  | exact peristyleref10_checkBucket.mono _ _ _ _
  | exact peristyleref10_checkOften.mono _ _ _
  | exact LeO.none _
  | refine LeO.ite ?_ ?_
  | refine LeO.bind ?_ (fun _ => ?_)
set_option maxHeartbeats 8000000 in
set_option maxRecDepth 100000 in
theorem peristyleref10_CheckStats.calls (k : Nat) (a0 : Int) (a1_0 : Int) (a1_1 : Int) (A1_2 : Option Addr) (c1_2 : Nat) (l1_2 : List (S100)) (A1_3 : Option Addr) (c1_3 : Nat) (l1_3 : List (S105)) (r : Int) (w : World) (hr1_2 : Kd.C k100 w A1_2 l1_2.length l1_2) (hc1_2 : l1_2.length ≤ c1_2) (hr1_3 : Kd.C k105 w A1_3 l1_3.length l1_3) (hc1_3 : l1_3.length ≤ c1_3) (h : peristyleref10_CheckStats.f k a0 a1_0 a1_1 l1_2 l1_3 = some r) :
    Calls Tryd.prog 38 #[.int .i64 a0, .agg #[.int .i64 a1_0, .int .i64 a1_1, .slice A1_2 l1_2.length c1_2, .slice A1_3 l1_3.length c1_3]] w fun e w' => e = .returned (.int .i64 r) ∧ Below w.heap.size w w' := by
 have hu44 := Tryd.underlying44
 have hu105 := Tryd.underlying105
 have hu100 := Tryd.underlying100
 have HR1_2 := aM hr1_2
 have HC1_2 := aM hc1_2
 clear hr1_2 hc1_2
 have HR1_3 := aM hr1_3
 have HC1_3 := aM hc1_3
 clear hr1_3 hc1_3
 have HB := aM (Below.refl w.heap.size w)
 have H : ((peristyleref10_within.f a0 1 3).bind fun t291 => (if t291 = true then ((peristyleref10_within.f a1_0 0 2000).bind fun t292 => (if t292 = true then ((peristyleref10_within.f a1_1 0 a1_0).bind fun t293 => (peristyleref10_CheckStats.j0 k a0 (!t293) a1_0 a1_1 l1_2 l1_3)) else (peristyleref10_CheckStats.j0 k a0 true a1_0 a1_1 l1_2 l1_3))) else (some 4))) = some r := h
 clear h
 replace H := Option.bind_eq_some_iff.mp H
 obtain ⟨t291, A30, H⟩ := H
 replace H : (if t291 = true then ((peristyleref10_within.f a1_0 0 2000).bind fun t292 => (if t292 = true then ((peristyleref10_within.f a1_1 0 a1_0).bind fun t293 => (peristyleref10_CheckStats.j0 k a0 (!t293) a1_0 a1_1 l1_2 l1_3)) else (peristyleref10_CheckStats.j0 k a0 true a1_0 a1_1 l1_2 l1_3))) else (some 4)) = some r := H
 have A3 := aM A30
 clear A30
 by_cases c4 : t291 = true
 case neg =>
  replace c4 := Bool.eq_false_iff.mpr c4
  subst c4
  have H1 : (some 4) = some r := q6_
  clear H
  have H := H1
  clear H1
  obtain rfl := Option.some.inj H
  go_enter Tryd.func38, Tryd.ntmps38
  go_wp2_with (first | ((with_reducible refine gate_dst (N := 3) rfl ?_); (try (refine gate_guard (by rfl) ?_; dsimp only)); refine box_event ?hg (N := 3) ?hd (cs := #[.int .i64 a1_0, .int .i64 a1_1, .slice A1_2 l1_2.length c1_2, .slice A1_3 l1_3.length c1_3]) (t := 44) ?hr ?_; (case hd => rfl); (case hg => rfl); (case hr => first | (go_simp; done) | (go_simp; rfl)); intro gb290 hg w51 hbox hb; have BK290 := aM hbox; have GW290 := aM (s16q10 : w.heap.size ≤ gb290); have GE290 := GW290; replace HB := aM (below_step q1_ hb); clear hb hbox hg) | ((with_reducible refine gate_callee (f := 44) rfl ?_); refine goesL_ (some 13) rfl rfl Tryd.func44 q5_ rfl #[.int .i64 a0, .int .i64 1, .int .i64 3] rfl q2_ ?_; (with_reducible refine (peristyleref10_within.calls a0 1 3 false _ A3.out).mono ?_); rintro e w' ⟨rfl, ⟨nd, rfl⟩⟩; refine ⟨_, rfl, ?_⟩))
  go_ret
  exact ⟨eqR, s16q6⟩
 subst c4
 have H1 : ((peristyleref10_within.f a1_0 0 2000).bind fun t292 => (if t292 = true then ((peristyleref10_within.f a1_1 0 a1_0).bind fun t293 => (peristyleref10_CheckStats.j0 k a0 (!t293) a1_0 a1_1 l1_2 l1_3)) else (peristyleref10_CheckStats.j0 k a0 true a1_0 a1_1 l1_2 l1_3))) = some r := q7_
 clear H
 have H := H1
 clear H1
 have HC5 := aM H
 clear H
 go_enter Tryd.func38, Tryd.ntmps38
 go_upto_region 3 with (first | ((with_reducible refine gate_dst (N := 3) rfl ?_); (try (refine gate_guard (by rfl) ?_; dsimp only)); refine box_event ?hg (N := 3) ?hd (cs := #[.int .i64 a1_0, .int .i64 a1_1, .slice A1_2 l1_2.length c1_2, .slice A1_3 l1_3.length c1_3]) (t := 44) ?hr ?_; (case hd => rfl); (case hg => rfl); (case hr => first | (go_simp; done) | (go_simp; rfl)); intro gb290 hg w6 hbox hb; have BK290 := aM hbox; have GW290 := aM (s16q10 : w.heap.size ≤ gb290); have GE290 := GW290; replace HB := aM (below_step q1_ hb); clear hb hbox hg) | ((with_reducible refine gate_callee (f := 44) rfl ?_); refine goesL_ (some 13) rfl rfl Tryd.func44 q5_ rfl #[.int .i64 a0, .int .i64 1, .int .i64 3] rfl q2_ ?_; (with_reducible refine (peristyleref10_within.calls a0 1 3 true _ A3.out).mono ?_); rintro e w' ⟨rfl, ⟨nd, rfl⟩⟩; refine ⟨_, rfl, ?_⟩))
 (try simp only [Act.put, sqa, sqb, sqc])
 go_cut [26] (fun v26 wc => ∃ (kq : Nat) (x26_4 : Bool), v26 = .bool x26_4 ∧ Aside0 (peristyleref10_CheckStats.j0 kq a0 x26_4 a1_0 a1_1 l1_2 l1_3 = some r) ∧ Aside0 (kq ≤ k) ∧ Aside0 (wc.heap[gb290]? = some (.cells #[.int .i64 a1_0, .int .i64 a1_1, (.slice A1_2 l1_2.length c1_2), (.slice A1_3 l1_3.length c1_3)] 44 (0, 0))) ∧ Aside0 (Below w.heap.size w wc))
 case first =>
  have H := HC5.out
  clear HC5
  replace H := Option.bind_eq_some_iff.mp H
  obtain ⟨t292, A70, H⟩ := H
  replace H : (if t292 = true then ((peristyleref10_within.f a1_1 0 a1_0).bind fun t293 => (peristyleref10_CheckStats.j0 k a0 (!t293) a1_0 a1_1 l1_2 l1_3)) else (peristyleref10_CheckStats.j0 k a0 true a1_0 a1_1 l1_2 l1_3)) = some r := H
  have A7 := aM A70
  clear A70
  by_cases c8 : t292 = true
  case neg =>
   replace c8 := Bool.eq_false_iff.mpr c8
   subst c8
   have H1 : (peristyleref10_CheckStats.j0 k a0 true a1_0 a1_1 l1_2 l1_3) = some r := q6_
   clear H
   have H := H1
   clear H1
   have H' := aM H
   clear H
   obtain ⟨hcz11_0, hcz11_1, hcz11_2, hcz11_3, hfz11_0, hfz11_1, hfz11_2, hfz11_3⟩ := cells4 BK290.out
   go_wp2_with (first | ((with_reducible refine gate_callee (f := 44) rfl ?_); refine goesL_ (some 17) rfl rfl Tryd.func44 q5_ rfl #[.int .i64 a1_0, .int .i64 0, .int .i64 2000] rfl q2_ ?_; (with_reducible refine (peristyleref10_within.calls a1_0 0 2000 false _ A7.out).mono ?_); rintro e w' ⟨rfl, ⟨nd, rfl⟩⟩; refine ⟨_, rfl, ?_⟩))
   go_meet
   case rel => exact ⟨_, (true), q4_, H', ⟨by first | omega | exact Nat.le_refl _⟩, ⟨blkR BK290.out⟩, ⟨s16q6⟩⟩
  subst c8
  have H1 : ((peristyleref10_within.f a1_1 0 a1_0).bind fun t293 => (peristyleref10_CheckStats.j0 k a0 (!t293) a1_0 a1_1 l1_2 l1_3)) = some r := q7_
  clear H
  have H := H1
  clear H1
  replace H := Option.bind_eq_some_iff.mp H
  obtain ⟨t293, A90, H⟩ := H
  replace H : (peristyleref10_CheckStats.j0 k a0 (!t293) a1_0 a1_1 l1_2 l1_3) = some r := H
  have A9 := aM A90
  clear A90
  have H' := aM H
  clear H
  obtain ⟨hcz10_0, hcz10_1, hcz10_2, hcz10_3, hfz10_0, hfz10_1, hfz10_2, hfz10_3⟩ := cells4 BK290.out
  go_wp2_with (first | ((with_reducible refine gate_callee (f := 44) rfl ?_); refine goesL_ (some 17) rfl rfl Tryd.func44 q5_ rfl #[.int .i64 a1_0, .int .i64 0, .int .i64 2000] rfl q2_ ?_; (with_reducible refine (peristyleref10_within.calls a1_0 0 2000 true _ A7.out).mono ?_); rintro e w' ⟨rfl, ⟨nd, rfl⟩⟩; refine ⟨_, rfl, ?_⟩) | (go_at_call 44; (with_reducible refine (peristyleref10_within.calls a1_1 0 a1_0 t293 _ A9.out).mono ?_); rintro e w' ⟨rfl, ⟨nd, rfl⟩⟩))
  go_meet
  case rel => exact ⟨_, (!t293), q4_, H', ⟨by first | omega | exact Nat.le_refl _⟩, ⟨blkR BK290.out⟩, ⟨s16q6⟩⟩
 clear HC5
 try clear c1
 try clear p2
 try clear c3
 try clear c4
 try clear c8
 try clear hcz10_0 hcz10_1 hcz10_2 hcz10_3
 try clear hcz11_0 hcz11_1 hcz11_2 hcz11_3
 try clear hfz10_0 hfz10_1 hfz10_2 hfz10_3
 try clear hfz11_0 hfz11_1 hfz11_2 hfz11_3
 obtain ⟨kq, x26_4, rfl, HA, HJ4, BK290, HB⟩ := hcut
 cases kq with
 | zero => exact absurd HA.out (by simp [peristyleref10_CheckStats.j0])
 | succ kj4 => ?_
 have H := HA.out
 clear HA
 simp only [peristyleref10_CheckStats.j0] at H
 by_cases c12 : x26_4 = true
 · subst c12
   have H1 : (some 1) = some r := q7_
   clear H
   have H := H1
   clear H1
   obtain rfl := Option.some.inj H
   go_wp2
   go_ret
   exact ⟨eqR, s16q6⟩
 replace c12 := Bool.eq_false_iff.mpr c12
 subst c12
 have H1 : (if (l1_2.length : Int) > 20 then (peristyleref10_CheckStats.j1 kj4 a0 true a1_0 a1_1 l1_2 l1_3) else (peristyleref10_CheckStats.j1 kj4 a0 (decide ((l1_3.length : Int) > 50)) a1_0 a1_1 l1_2 l1_3)) = some r := q6_
 clear H
 have H := H1
 clear H1
 have HC13 := aM H
 clear H
 go_upto_region 5 with (fail)
 go_cut [36] (fun v36 wc => ∃ (kq : Nat) (x36_12 : Bool), v36 = .bool x36_12 ∧ Aside0 (peristyleref10_CheckStats.j1 kq a0 x36_12 a1_0 a1_1 l1_2 l1_3 = some r) ∧ Aside0 (kq ≤ kj4) ∧ Aside0 (wc.heap[gb290]? = some (.cells #[.int .i64 a1_0, .int .i64 a1_1, (.slice A1_2 l1_2.length c1_2), (.slice A1_3 l1_3.length c1_3)] 44 (0, 0))) ∧ Aside0 (Below w.heap.size w wc))
 case first =>
  have H := HC13.out
  clear HC13
  by_cases c14 : (l1_2.length : Int) > 20
  · rw [if_pos c14] at H
    have c14b0 : decide (20 < (l1_2.length : Int)) = true := decide_eq_true c14
    have c14b1 : decide (20 < l1_2.length) = true := decide_eq_true (by omega)
    clear c14
    (first | rw [c14b0] | (simp only [i64_w, i32_w]; rw [c14b0]) | skip)
    have H' := aM H
    clear H
    obtain ⟨hcz15_0, hcz15_1, hcz15_2, hcz15_3, hfz15_0, hfz15_1, hfz15_2, hfz15_3⟩ := cells4 BK290.out
    go_wp2
    go_meet
    case rel => exact ⟨_, (true), q4_, H', ⟨by have := HJ4.out; first | omega | exact Nat.le_refl _⟩, ⟨blkR BK290.out⟩, ⟨s16q6⟩⟩
  rw [if_neg c14] at H
  have c14b0 : decide (20 < (l1_2.length : Int)) = false := decide_eq_false c14
  have c14b1 : decide (20 < l1_2.length) = false := decide_eq_false (by omega)
  clear c14
  (first | rw [c14b0] | (simp only [i64_w, i32_w]; rw [c14b0]) | skip)
  have H' := aM H
  clear H
  obtain ⟨hcz16_0, hcz16_1, hcz16_2, hcz16_3, hfz16_0, hfz16_1, hfz16_2, hfz16_3⟩ := cells4 BK290.out
  go_wp2
  go_meet
  case rel => exact ⟨_, (decide ((l1_3.length : Int) > 50)), q4_, H', ⟨by have := HJ4.out; first | omega | exact Nat.le_refl _⟩, ⟨blkR BK290.out⟩, ⟨s16q6⟩⟩
 clear HC13
 try clear c1
 try clear p2
 try clear c3
 try clear c4
 try clear c8
 try clear c12
 try clear c14
 try clear c14b0
 try clear c14b1
 try clear hcz10_0 hcz10_1 hcz10_2 hcz10_3
 try clear hcz11_0 hcz11_1 hcz11_2 hcz11_3
 try clear hcz15_0 hcz15_1 hcz15_2 hcz15_3
 try clear hcz16_0 hcz16_1 hcz16_2 hcz16_3
 try clear hfz10_0 hfz10_1 hfz10_2 hfz10_3
 try clear hfz11_0 hfz11_1 hfz11_2 hfz11_3
 try clear hfz15_0 hfz15_1 hfz15_2 hfz15_3
 try clear hfz16_0 hfz16_1 hfz16_2 hfz16_3
 try clear p2
 obtain ⟨kq, x36_12, rfl, HA, HJ12, BK290, HB⟩ := hcut
 cases kq with
 | zero => exact absurd HA.out (by simp [peristyleref10_CheckStats.j1])
 | succ kj12 => ?_
 have H := HA.out
 clear HA
 simp only [peristyleref10_CheckStats.j1] at H
 by_cases c17 : x36_12 = true
 · subst c17
   have H1 : (some 2) = some r := q7_
   clear H
   have H := H1
   clear H1
   obtain rfl := Option.some.inj H
   go_wp2
   go_ret
   exact ⟨eqR, s16q6⟩
 replace c17 := Bool.eq_false_iff.mpr c17
 subst c17
 have H1 : ((peristyleref10_checkOften.f kj12 a0 l1_2).bind fun t294 => (if t294 = 0 then (peristyleref10_CheckStats.l0 kj12 a0 a1_1 l1_3 (l1_3.length : Int) 0 a1_0 a1_1 l1_2 l1_3) else (some t294))) = some r := q6_
 clear H
 have H := H1
 clear H1
 replace H := Option.bind_eq_some_iff.mp H
 obtain ⟨t294, A180, H⟩ := H
 replace H : (if t294 = 0 then (peristyleref10_CheckStats.l0 kj12 a0 a1_1 l1_3 (l1_3.length : Int) 0 a1_0 a1_1 l1_2 l1_3) else (some t294)) = some r := H
 have A18 := aM A180
 clear A180
 by_cases c19 : t294 = 0
 case neg =>
  rw [if_neg c19] at H
  have c19b0 : (t294 == 0) = false := beq_eq_false_iff_ne.mpr c19
  have c19b1 : (t294 != 0) = true := bne_iff_ne.mpr c19
  obtain rfl := Option.some.inj H
  obtain ⟨hcz49_0, hcz49_1, hcz49_2, hcz49_3, hfz49_0, hfz49_1, hfz49_2, hfz49_3⟩ := cells4 BK290.out
  go_wp2_with (first | ((with_reducible refine gate_callee (f := 84) rfl ?_); refine goesL_ (some 40) rfl rfl Tryd.func84 q5_ rfl #[.int .i64 a0, .slice A1_2 l1_2.length c1_2] rfl q2_ ?_; (with_reducible refine (peristyleref10_checkOften.calls kj12 a0 _ _ l1_2 t294 _ ?side1 ?side2 A18.out).mono ?_); (case side1 => repeat (first | exact (Kd.C_below HR1_2.out HB.out) | (with_reducible refine Kd.C_alloc ?_ _) | (with_reducible refine Kd.C_drewN ?_ _) | (with_reducible refine Kd.C_drew ?_))); (case side2 => exact HC1_2.out); rintro e w50 ⟨rfl, hb⟩; refine ⟨_, rfl, ?_⟩; replace BK290 := aM (bbR BK290.out hb); replace HB := aM (below_step s16q6 hb); (try clear hb); (try clear hb2); (try clear hk); (try clear hi)))
  go_ret
  exact ⟨eqR, s16q6⟩
 rw [if_pos c19] at H
 have c19b0 : (t294 == 0) = true := beq_iff_eq.mpr c19
 have c19b1 : (t294 != 0) = false := bne_eq_false_iff_eq.mpr c19
 clear c19
 have H' := aM H
 clear H
 obtain ⟨hcz20_0, hcz20_1, hcz20_2, hcz20_3, hfz20_0, hfz20_1, hfz20_2, hfz20_3⟩ := cells4 BK290.out
 go_wp2_with (first | ((with_reducible refine gate_callee (f := 84) rfl ?_); refine goesL_ (some 40) rfl rfl Tryd.func84 q5_ rfl #[.int .i64 a0, .slice A1_2 l1_2.length c1_2] rfl q2_ ?_; (with_reducible refine (peristyleref10_checkOften.calls kj12 a0 _ _ l1_2 t294 _ ?side1 ?side2 A18.out).mono ?_); (case side1 => repeat (first | exact (Kd.C_below HR1_2.out HB.out) | (with_reducible refine Kd.C_alloc ?_ _) | (with_reducible refine Kd.C_drewN ?_ _) | (with_reducible refine Kd.C_drew ?_))); (case side2 => exact HC1_2.out); rintro e w21 ⟨rfl, hb⟩; refine ⟨_, rfl, ?_⟩; replace BK290 := aM (bbR BK290.out hb); replace HB := aM (below_step s16q6 hb); (try clear hb); (try clear hb2); (try clear hk); (try clear hi); obtain ⟨hcz22_0, hcz22_1, hcz22_2, hcz22_3, hfz22_0, hfz22_1, hfz22_2, hfz22_3⟩ := cells4 BK290.out))
 go_loopg [6, 49] kj12 (fun kq v6 v49 w' => ∃ (x6_3 : Int) (x49_3 : Int), v6 = .int .i64 x6_3 ∧ v49 = .int .i64 x49_3 ∧ Aside0 (peristyleref10_CheckStats.l0 kq a0 x6_3 l1_3 (l1_3.length : Int) x49_3 a1_0 a1_1 l1_2 l1_3 = some r) ∧ Aside0 (kq ≤ kj12) ∧ Aside0 (w'.heap[gb290]? = some (.cells #[.int .i64 a1_0, .int .i64 a1_1, (.slice A1_2 l1_2.length c1_2), (.slice A1_3 l1_3.length c1_3)] 44 (0, 0))) ∧ Aside0 (Below w.heap.size w w'))
 case atStart => exact ⟨(a1_1), (0), q4_, q4_, H', ⟨Nat.le_refl _⟩, ⟨blkR BK290.out⟩, ⟨s16q6⟩⟩
 clear H'
 try clear c1
 try clear p2
 try clear c3
 try clear c4
 try clear c8
 try clear c12
 try clear c14
 try clear c14b0
 try clear c14b1
 try clear c17
 try clear c19
 try clear c19b0
 try clear c19b1
 try clear hcz10_0 hcz10_1 hcz10_2 hcz10_3
 try clear hcz11_0 hcz11_1 hcz11_2 hcz11_3
 try clear hcz15_0 hcz15_1 hcz15_2 hcz15_3
 try clear hcz16_0 hcz16_1 hcz16_2 hcz16_3
 try clear hcz20_0 hcz20_1 hcz20_2 hcz20_3
 try clear hcz22_0 hcz22_1 hcz22_2 hcz22_3
 try clear hfz10_0 hfz10_1 hfz10_2 hfz10_3
 try clear hfz11_0 hfz11_1 hfz11_2 hfz11_3
 try clear hfz15_0 hfz15_1 hfz15_2 hfz15_3
 try clear hfz16_0 hfz16_1 hfz16_2 hfz16_3
 try clear hfz20_0 hfz20_1 hfz20_2 hfz20_3
 try clear hfz22_0 hfz22_1 hfz22_2 hfz22_3
 try clear p2
 obtain ⟨x6_3, x49_3, rfl, rfl, HA, HK3, BK290, HB⟩ := hrel
 cases gk with
 | zero => exact absurd HA.out (by simp [peristyleref10_CheckStats.l0])
 | succ k3 => ?_
 have H := HA.out
 clear HA
 simp only [peristyleref10_CheckStats.l0] at H
 by_cases c23 : x49_3 < (l1_3.length : Int)
 case neg =>
  rw [if_neg c23] at H
  have c23b0 : decide (x49_3 < (l1_3.length : Int)) = false := decide_eq_false c23
  clear c23
  have H' := aM H
  clear H
  obtain ⟨hcz39_0, hcz39_1, hcz39_2, hcz39_3, hfz39_0, hfz39_1, hfz39_2, hfz39_3⟩ := cells4 BK290.out
  go_wp2
  go_loopg [6, 70] k3 (fun kq v6 v70 w' => ∃ (x6_4 : Int) (x70_4 : Int), v6 = .int .i64 x6_4 ∧ v70 = .int .i64 x70_4 ∧ Aside0 (peristyleref10_CheckStats.l1 kq x6_4 l1_2 (l1_2.length : Int) x70_4 a1_0 a1_1 l1_2 l1_3 = some r) ∧ Aside0 (kq ≤ k3) ∧ Aside0 (w'.heap[gb290]? = some (.cells #[.int .i64 a1_0, .int .i64 a1_1, (.slice A1_2 l1_2.length c1_2), (.slice A1_3 l1_3.length c1_3)] 44 (0, 0))) ∧ Aside0 (Below w.heap.size w w'))
  case atStart => exact ⟨(x6_3), (0), q4_, q4_, H', ⟨Nat.le_refl _⟩, ⟨blkR BK290.out⟩, ⟨s16q6⟩⟩
  clear H'
  try clear c1
  try clear c2
  try clear p2
  try clear q2
  try clear hx2
  try clear c3
  try clear c4
  try clear p6
  try clear c8
  try clear c12
  try clear c14
  try clear c14b0
  try clear c14b1
  try clear c17
  try clear c19
  try clear c19b0
  try clear c19b1
  try clear c23
  try clear c23b0
  try clear c24
  try clear c24b0
  try clear c25
  try clear c25b0
  try clear c27
  try clear c27b0
  try clear c27b1
  try clear c29
  try clear p29
  try clear q29
  try clear hx29
  try clear c35
  try clear c38
  try clear hcz10_0 hcz10_1 hcz10_2 hcz10_3
  try clear hcz11_0 hcz11_1 hcz11_2 hcz11_3
  try clear hcz15_0 hcz15_1 hcz15_2 hcz15_3
  try clear hcz16_0 hcz16_1 hcz16_2 hcz16_3
  try clear hcz20_0 hcz20_1 hcz20_2 hcz20_3
  try clear hcz22_0 hcz22_1 hcz22_2 hcz22_3
  try clear hcz30_0 hcz30_1 hcz30_2 hcz30_3 hcz30_4 hcz30_5 hcz30_6 hcz30_7
  try clear hcz31_0 hcz31_1 hcz31_2 hcz31_3
  try clear hcz33_0 hcz33_1 hcz33_2 hcz33_3 hcz33_4 hcz33_5 hcz33_6 hcz33_7
  try clear hcz36_0 hcz36_1 hcz36_2 hcz36_3 hcz36_4 hcz36_5 hcz36_6 hcz36_7
  try clear hcz37_0 hcz37_1 hcz37_2 hcz37_3
  try clear hcz39_0 hcz39_1 hcz39_2 hcz39_3
  try clear hfz10_0 hfz10_1 hfz10_2 hfz10_3
  try clear hfz11_0 hfz11_1 hfz11_2 hfz11_3
  try clear hfz15_0 hfz15_1 hfz15_2 hfz15_3
  try clear hfz16_0 hfz16_1 hfz16_2 hfz16_3
  try clear hfz20_0 hfz20_1 hfz20_2 hfz20_3
  try clear hfz22_0 hfz22_1 hfz22_2 hfz22_3
  try clear hfz30_0 hfz30_1 hfz30_2 hfz30_3 hfz30_4 hfz30_5 hfz30_6 hfz30_7
  try clear hfz31_0 hfz31_1 hfz31_2 hfz31_3
  try clear hfz33_0 hfz33_1 hfz33_2 hfz33_3 hfz33_4 hfz33_5 hfz33_6 hfz33_7
  try clear hfz36_0 hfz36_1 hfz36_2 hfz36_3 hfz36_4 hfz36_5 hfz36_6 hfz36_7
  try clear hfz37_0 hfz37_1 hfz37_2 hfz37_3
  try clear hfz39_0 hfz39_1 hfz39_2 hfz39_3
  try clear hx295_0
  try clear hx295_1
  try clear hx295_2
  try clear hx295_3
  try clear hx295_4
  try clear hx295_5
  try clear hx295_6
  try clear hx295_7
  try clear p2
  try clear p295
  try clear q295
  obtain ⟨x6_4, x70_4, rfl, rfl, HA, HK4, BK290, HB⟩ := hrel
  cases gk with
  | zero => exact absurd HA.out (by simp [peristyleref10_CheckStats.l1])
  | succ k4 => ?_
  have H := HA.out
  clear HA
  simp only [peristyleref10_CheckStats.l1] at H
  by_cases c40 : x70_4 < (l1_2.length : Int)
  case neg =>
   rw [if_neg c40] at H
   have c40b0 : decide (x70_4 < (l1_2.length : Int)) = false := decide_eq_false c40
   clear c40
   by_cases c46 : x6_4 = a1_0
   case neg =>
    rw [if_neg c46] at H
    have c46b0 : (x6_4 == a1_0) = false := beq_eq_false_iff_ne.mpr c46
    have c46b1 : (x6_4 != a1_0) = true := bne_iff_ne.mpr c46
    obtain rfl := Option.some.inj H
    obtain ⟨hcz48_0, hcz48_1, hcz48_2, hcz48_3, hfz48_0, hfz48_1, hfz48_2, hfz48_3⟩ := cells4 BK290.out
    go_wp2
    go_ret
    exact ⟨eqR, s16q6⟩
   rw [if_pos c46] at H
   have c46b0 : (x6_4 == a1_0) = true := beq_iff_eq.mpr c46
   have c46b1 : (x6_4 != a1_0) = false := bne_eq_false_iff_eq.mpr c46
   clear c46
   obtain rfl := Option.some.inj H
   obtain ⟨hcz47_0, hcz47_1, hcz47_2, hcz47_3, hfz47_0, hfz47_1, hfz47_2, hfz47_3⟩ := cells4 BK290.out
   go_wp2
   go_ret
   exact ⟨eqR, s16q6⟩
  rw [if_pos c40] at H
  have c40b0 : decide (x70_4 < (l1_2.length : Int)) = true := decide_eq_true c40
  clear c40
  by_cases c41 : 0 ≤ x70_4
  case neg =>
   rw [if_neg c41] at H
   exact absurd H (by simp)
  rw [if_pos c41] at H
  have c41b0 : decide (0 ≤ x70_4) = true := decide_eq_true c41
  clear c41
  by_cases c42 : x70_4 < (l1_2.length : Int)
  case neg =>
   rw [if_neg c42] at H
   exact absurd H (by simp)
  rw [if_pos c42] at H
  have c42b0 : decide (x70_4 < (l1_2.length : Int)) = true := decide_eq_true c42
  clear c42
  have H' := aM H
  clear H
  have p298 : 0 ≤ (x70_4 : Int) := of_decide_eq_true q3_
  have q298 : x70_4 < (l1_2.length : Int) := of_decide_eq_true q3_
  obtain ⟨ad298, e298, hx298_0, hx298_1, hx298_2, hx298_3⟩ := at_T100 HR1_2.out x70_4 p298 q298
  cases e298
  replace hx298_0 := up_ HB.out hx298_0
  replace hx298_1 := up_ HB.out hx298_1
  replace hx298_2 := up_ HB.out hx298_2
  replace hx298_3 := up_ HB.out hx298_3
  replace p298 := eq_true p298
  replace q298 := eq_true q298
  go_wp2_with (first | ((with_reducible refine gate_dst (N := 11) rfl ?_); (try (refine gate_guard (by rfl) ?_; dsimp only)); refine box_event ?hg (N := 11) ?hd (cs := #[.int .i64 0, .int .i64 0, .string (⟨#[]⟩ : ByteArray), .int .i64 0]) (t := 100) ?hr ?_; (case hd => rfl); (case hg => rfl); (case hr => first | (go_simp; done) | (go_simp; rfl)); intro gb299 hg w43 hbox hb; have BK299 := aM hbox; have GW299 := aM (s16q11 : w.heap.size ≤ gb299); have GE299 := GW299; have NB290_299 := aM ((by rw [hg]; exact Nat.ne_of_lt (blk_lt (g := gb290) (o := .cells #[.int .i64 a1_0, .int .i64 a1_1, .slice (some ad298) l1_2.length c1_2, .slice A1_3 l1_3.length c1_3] 44 (0, 0)) (blkR BK290.out)) : gb290 ≠ gb299)); have NB299_290 := aM ((by rw [hg]; exact Nat.ne_of_gt (blk_lt (g := gb290) (o := .cells #[.int .i64 a1_0, .int .i64 a1_1, .slice (some ad298) l1_2.length c1_2, .slice A1_3 l1_3.length c1_3] 44 (0, 0)) (blkR BK290.out)) : gb299 ≠ gb290)); replace BK290 := aM (bbR BK290.out hb); replace HB := aM (below_step s16q6 hb); clear hb hbox hg; have hnb44 := NB299_290.out; have hnc44 := NB290_299.out; obtain ⟨hcz45_0, hcz45_1, hcz45_2, hcz45_3, hfz45_0, hfz45_1, hfz45_2, hfz45_3⟩ := cells4 BK299.out))
  first | go_roundg k4 | (refine Handed.intro k4 ?measure ?_; rotate_left; go_step; (repeat apply Exists.intro); simp only [add_plain]; refine ⟨?rel, rfl⟩)
  case measure => have := HJ4.out; have := HJ12.out; have := HK3.out; have := HK4.out; omega
  case rel => exact ⟨(wrap64 (x6_4 + ((rd_T100 l1_2 x70_4).f1))), (wrap64 (x70_4 + 1)), q4_, q4_, H', ⟨by have := HJ4.out; have := HJ12.out; have := HK3.out; have := HK4.out; omega⟩, ⟨by (with_reducible repeat (first | refine blk_drewN ?_ _ | refine blk_drew ?_ | refine blk_alloc ?_ _)); refine blk_far ?_ NB290_299.out _; (with_reducible repeat (first | refine blk_drewN ?_ _ | refine blk_drew ?_ | refine blk_alloc ?_ _)); refine blk_far ?_ NB290_299.out _; (with_reducible repeat (first | refine blk_drewN ?_ _ | refine blk_drew ?_ | refine blk_alloc ?_ _)); refine blk_far ?_ NB290_299.out _; (with_reducible repeat (first | refine blk_drewN ?_ _ | refine blk_drew ?_ | refine blk_alloc ?_ _)); refine blk_far ?_ NB290_299.out _; (with_reducible repeat (first | refine blk_drewN ?_ _ | refine blk_drew ?_ | refine blk_alloc ?_ _)); exact BK290.out⟩, ⟨by repeat (first | (with_reducible first | exact HB.out | apply below_alloc | apply pw_below_drewN | apply below_drew1 | refine below_set ?_ GE290.out | refine below_set ?_ GE299.out) | exact HB.out)⟩⟩
 rw [if_pos c23] at H
 have c23b0 : decide (x49_3 < (l1_3.length : Int)) = true := decide_eq_true c23
 clear c23
 by_cases c24 : 0 ≤ x49_3
 case neg =>
  rw [if_neg c24] at H
  exact absurd H (by simp)
 rw [if_pos c24] at H
 have c24b0 : decide (0 ≤ x49_3) = true := decide_eq_true c24
 clear c24
 by_cases c25 : x49_3 < (l1_3.length : Int)
 case neg =>
  rw [if_neg c25] at H
  exact absurd H (by simp)
 rw [if_pos c25] at H
 have c25b0 : decide (x49_3 < (l1_3.length : Int)) = true := decide_eq_true c25
 clear c25
 replace H := Option.bind_eq_some_iff.mp H
 obtain ⟨t297, A260, H⟩ := H
 replace H : (if t297 = 0 then (peristyleref10_CheckStats.l0 k3 a0 (wrap64 (x6_3 + ((rd_T105 l1_3 x49_3).f2))) l1_3 (l1_3.length : Int) (wrap64 (x49_3 + 1)) a1_0 a1_1 l1_2 l1_3) else (some t297)) = some r := H
 have A26 := aM A260
 clear A260
 by_cases c27 : t297 = 0
 case neg =>
  rw [if_neg c27] at H
  have c27b0 : (t297 == 0) = false := beq_eq_false_iff_ne.mpr c27
  have c27b1 : (t297 != 0) = true := bne_iff_ne.mpr c27
  obtain rfl := Option.some.inj H
  have p295 : 0 ≤ (x49_3 : Int) := of_decide_eq_true q3_
  have q295 : x49_3 < (l1_3.length : Int) := of_decide_eq_true q3_
  obtain ⟨ad295, e295, hx295_0, hx295_1, hx295_2, hx295_3, hx295_4, hx295_5, hx295_6, hx295_7⟩ := at_T105 HR1_3.out x49_3 p295 q295
  cases e295
  replace hx295_0 := up_ HB.out hx295_0
  replace hx295_1 := up_ HB.out hx295_1
  replace hx295_2 := up_ HB.out hx295_2
  replace hx295_3 := up_ HB.out hx295_3
  replace hx295_4 := up_ HB.out hx295_4
  replace hx295_5 := up_ HB.out hx295_5
  replace hx295_6 := up_ HB.out hx295_6
  replace hx295_7 := up_ HB.out hx295_7
  replace p295 := eq_true p295
  replace q295 := eq_true q295
  go_wp2_with (first | ((with_reducible refine gate_dst (N := 8) rfl ?_); (try (refine gate_guard (by rfl) ?_; dsimp only)); refine box_event ?hg (N := 8) ?hd (cs := #[.int .i64 0, .int .i64 0, .string (⟨#[]⟩ : ByteArray), .int .i64 0, .int .i64 0, .string (⟨#[]⟩ : ByteArray), .int .i64 0, .int .i64 0]) (t := 105) ?hr ?_; (case hd => rfl); (case hg => rfl); (case hr => first | (go_simp; done) | (go_simp; rfl)); intro gb296 hg w34 hbox hb; have BK296 := aM hbox; have GW296 := aM (s16q11 : w.heap.size ≤ gb296); have GE296 := GW296; have NB290_296 := aM (s16q13 : gb290 ≠ gb296); have NB296_290 := aM (s16q12 : gb296 ≠ gb290); replace BK290 := aM (bbR BK290.out hb); replace HB := aM (below_step s16q6 hb); clear hb hbox hg; have hnb35 := NB296_290.out; have hnc35 := NB290_296.out; obtain ⟨hcz36_0, hcz36_1, hcz36_2, hcz36_3, hcz36_4, hcz36_5, hcz36_6, hcz36_7, hfz36_0, hfz36_1, hfz36_2, hfz36_3, hfz36_4, hfz36_5, hfz36_6, hfz36_7⟩ := cells8 BK296.out; obtain ⟨hcz37_0, hcz37_1, hcz37_2, hcz37_3, hfz37_0, hfz37_1, hfz37_2, hfz37_3⟩ := cells4 BK290.out) | ((with_reducible refine gate_callee (f := 85) rfl ?_); refine goesL_ (some 58) rfl rfl Tryd.func85 q5_ rfl #[.int .i64 a0, .slice (some ad295) l1_3.length c1_3, .int .i64 x49_3] rfl q2_ ?_; (with_reducible refine (peristyleref10_checkBucket.calls k3 a0 _ _ l1_3 x49_3 t297 _ ?side1 ?side2 A26.out).mono ?_); (case side1 => exact Kd.C_below HR1_3.out s16q7); (case side2 => exact HC1_3.out); rintro e w38 ⟨rfl, hb⟩; refine ⟨_, rfl, ?_⟩; replace BK290 := aM (blk_below (g := gb290) (o := .cells #[.int .i64 a1_0, .int .i64 a1_1, .slice A1_2 l1_2.length c1_2, .slice (some ad295) l1_3.length c1_3] 44 (0, 0)) s16q8 hb); replace BK296 := aM (blk_below (g := gb296) (o := .cells #[.int .i64 ((rd_T105 l1_3 x49_3).f0.f0), .int .i64 ((rd_T105 l1_3 x49_3).f0.f1), .string ((rd_T105 l1_3 x49_3).f0.f2), .int .i64 ((rd_T105 l1_3 x49_3).f1.f0), .int .i64 ((rd_T105 l1_3 x49_3).f1.f1), .string ((rd_T105 l1_3 x49_3).f1.f2), .int .i64 ((rd_T105 l1_3 x49_3).f2), .int .i64 ((rd_T105 l1_3 x49_3).f3)] 105 (0, 0)) s16q9 hb); replace HB := aM (below_step s16q7 hb); (try clear hb); (try clear hb2); (try clear hk); (try clear hi)))
  go_ret
  exact ⟨eqR, s16q7⟩
 rw [if_pos c27] at H
 have c27b0 : (t297 == 0) = true := beq_iff_eq.mpr c27
 have c27b1 : (t297 != 0) = false := bne_eq_false_iff_eq.mpr c27
 clear c27
 have H' := aM H
 clear H
 have p295 : 0 ≤ (x49_3 : Int) := of_decide_eq_true q3_
 have q295 : x49_3 < (l1_3.length : Int) := of_decide_eq_true q3_
 obtain ⟨ad295, e295, hx295_0, hx295_1, hx295_2, hx295_3, hx295_4, hx295_5, hx295_6, hx295_7⟩ := at_T105 HR1_3.out x49_3 p295 q295
 cases e295
 replace hx295_0 := up_ HB.out hx295_0
 replace hx295_1 := up_ HB.out hx295_1
 replace hx295_2 := up_ HB.out hx295_2
 replace hx295_3 := up_ HB.out hx295_3
 replace hx295_4 := up_ HB.out hx295_4
 replace hx295_5 := up_ HB.out hx295_5
 replace hx295_6 := up_ HB.out hx295_6
 replace hx295_7 := up_ HB.out hx295_7
 replace p295 := eq_true p295
 replace q295 := eq_true q295
 go_wp2_with (first | ((with_reducible refine gate_dst (N := 8) rfl ?_); (try (refine gate_guard (by rfl) ?_; dsimp only)); refine box_event ?hg (N := 8) ?hd (cs := #[.int .i64 0, .int .i64 0, .string (⟨#[]⟩ : ByteArray), .int .i64 0, .int .i64 0, .string (⟨#[]⟩ : ByteArray), .int .i64 0, .int .i64 0]) (t := 105) ?hr ?_; (case hd => rfl); (case hg => rfl); (case hr => first | (go_simp; done) | (go_simp; rfl)); intro gb296 hg w28 hbox hb; have BK296 := aM hbox; have GW296 := aM (s16q11 : w.heap.size ≤ gb296); have GE296 := GW296; have NB290_296 := aM (s16q13 : gb290 ≠ gb296); have NB296_290 := aM (s16q12 : gb296 ≠ gb290); replace BK290 := aM (bbR BK290.out hb); replace HB := aM (below_step s16q6 hb); clear hb hbox hg; have hnb29 := NB296_290.out; have hnc29 := NB290_296.out; obtain ⟨hcz30_0, hcz30_1, hcz30_2, hcz30_3, hcz30_4, hcz30_5, hcz30_6, hcz30_7, hfz30_0, hfz30_1, hfz30_2, hfz30_3, hfz30_4, hfz30_5, hfz30_6, hfz30_7⟩ := cells8 BK296.out; obtain ⟨hcz31_0, hcz31_1, hcz31_2, hcz31_3, hfz31_0, hfz31_1, hfz31_2, hfz31_3⟩ := cells4 BK290.out) | ((with_reducible refine gate_callee (f := 85) rfl ?_); refine goesL_ (some 58) rfl rfl Tryd.func85 q5_ rfl #[.int .i64 a0, .slice (some ad295) l1_3.length c1_3, .int .i64 x49_3] rfl q2_ ?_; (with_reducible refine (peristyleref10_checkBucket.calls k3 a0 _ _ l1_3 x49_3 t297 _ ?side1 ?side2 A26.out).mono ?_); (case side1 => exact Kd.C_below HR1_3.out s16q7); (case side2 => exact HC1_3.out); rintro e w32 ⟨rfl, hb⟩; refine ⟨_, rfl, ?_⟩; replace BK290 := aM (blk_below (g := gb290) (o := .cells #[.int .i64 a1_0, .int .i64 a1_1, .slice A1_2 l1_2.length c1_2, .slice (some ad295) l1_3.length c1_3] 44 (0, 0)) s16q8 hb); replace BK296 := aM (blk_below (g := gb296) (o := .cells #[.int .i64 ((rd_T105 l1_3 x49_3).f0.f0), .int .i64 ((rd_T105 l1_3 x49_3).f0.f1), .string ((rd_T105 l1_3 x49_3).f0.f2), .int .i64 ((rd_T105 l1_3 x49_3).f1.f0), .int .i64 ((rd_T105 l1_3 x49_3).f1.f1), .string ((rd_T105 l1_3 x49_3).f1.f2), .int .i64 ((rd_T105 l1_3 x49_3).f2), .int .i64 ((rd_T105 l1_3 x49_3).f3)] 105 (0, 0)) s16q9 hb); replace HB := aM (below_step s16q7 hb); (try clear hb); (try clear hb2); (try clear hk); (try clear hi); obtain ⟨hcz33_0, hcz33_1, hcz33_2, hcz33_3, hcz33_4, hcz33_5, hcz33_6, hcz33_7, hfz33_0, hfz33_1, hfz33_2, hfz33_3, hfz33_4, hfz33_5, hfz33_6, hfz33_7⟩ := cells8 BK296.out))
 first | go_roundg k3 | (refine Handed.intro k3 ?measure ?_; rotate_left; go_step; (repeat apply Exists.intro); simp only [add_plain]; refine ⟨?rel, rfl⟩)
 case measure => have := HJ4.out; have := HJ12.out; have := HK3.out; omega
 case rel => exact ⟨(wrap64 (x6_3 + ((rd_T105 l1_3 x49_3).f2))), (wrap64 (x49_3 + 1)), q4_, q4_, H', ⟨by have := HJ4.out; have := HJ12.out; have := HK3.out; omega⟩, ⟨blkR BK290.out⟩, ⟨s16q7⟩⟩
end Go.Proofs.YtgcijejmmhjibaaDoor.J
