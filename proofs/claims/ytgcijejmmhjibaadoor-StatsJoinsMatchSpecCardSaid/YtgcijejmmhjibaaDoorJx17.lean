-- Printed by a program of this session (a patched print).
import Derived.Test.YtgcijejmmhjibaaDoorJx0
import Derived.Test.YtgcijejmmhjibaaDoorJx1
import Derived.Test.YtgcijejmmhjibaaDoorJx13
namespace Go.Proofs.YtgcijejmmhjibaaDoor.J
open Go.RowKit Go.Proofs.YtgcijejmmhjibaaDoorW.PrintWords Go.Proofs.YtgcijejmmhjibaaDoorW.PrintLast Go.Proofs.YtgcijejmmhjibaaDoorW.PrintMore
attribute [local go_sem] max2_int min2_int max_two min_two max_three min_three max_four min_four   -- for this text's walks alone
set_option linter.unusedVariables false
set_option linter.unusedSimpArgs false

attribute [local go_sem high] eqA48
theorem s17z1 {p : Prop} (h : p := by repeat (first | (with_reducible first | exact HB.out | apply below_alloc | apply pw_below_drewN | apply below_drew1 | refine below_set ?_ GE300.out | refine below_set ?_ GE302.out) | exact HB.out)) : p := h
theorem s17q13 {p : Prop} (h : p := by repeat (first | (with_reducible first | exact HB.out | apply below_alloc | apply pw_below_drewN | apply below_drew1 | refine below_set ?_ GE300.out) | exact HB.out)) : p := h
theorem s17q14 {p : Prop} (h : p := by repeat (first | (with_reducible first | exact HB.out | apply below_alloc | apply pw_below_drewN | apply below_drew1 | refine below_set ?_ GE303.out) | exact HB.out)) : p := h
theorem s17q15 {p : Prop} (h : p := by repeat (first | (with_reducible first | exact HB.out | apply below_alloc | apply pw_below_drewN | apply below_drew1 | refine below_set ?_ GE307.out) | exact HB.out)) : p := h
theorem s17q16 {p : Prop} (h : p := by repeat (first | (with_reducible first | exact HB.out | apply below_alloc | apply pw_below_drewN | apply below_drew1 | refine below_set ?_ GE311.out) | exact HB.out)) : p := h
theorem s17q17 {p : Prop} (h : p := by repeat (first | (with_reducible first | exact HB.out | apply below_alloc | apply pw_below_drewN | apply below_drew1 | refine below_set ?_ GE316.out) | exact HB.out)) : p := h
theorem s17q18 {p : Prop} (h : p := by repeat (first | (with_reducible first | exact HB.out | apply below_alloc | apply pw_below_drewN | apply below_drew1 | refine below_set ?_ GE303.out | refine below_set ?_ GE304.out) | exact HB.out)) : p := h
theorem s17q19 {p : Prop} (h : p := by repeat (first | (with_reducible first | exact HB.out | apply below_alloc | apply pw_below_drewN | apply below_drew1 | refine below_set ?_ GE307.out | refine below_set ?_ GE309.out) | exact HB.out)) : p := h
theorem s17q20 {p : Prop} (h : p := by repeat (first | (with_reducible first | exact HB.out | apply below_alloc | apply pw_below_drewN | apply below_drew1 | refine below_set ?_ GE311.out | refine below_set ?_ GE312.out) | exact HB.out)) : p := h
theorem s17q21 {p : Prop} (h : p := by repeat (first | (with_reducible first | exact HB.out | apply below_alloc | apply pw_below_drewN | apply below_drew1 | refine below_set ?_ GE316.out | refine below_set ?_ GE317.out) | exact HB.out)) : p := h
theorem s17q22 {p : Prop} (h : p := by (with_reducible repeat (first | refine blk_drewN ?_ _ | refine blk_drew ?_ | refine blk_alloc ?_ _)); refine blk_far ?_ NB307_309.out _; (with_reducible repeat (first | refine blk_drewN ?_ _ | refine blk_drew ?_ | refine blk_alloc ?_ _)); refine blk_far ?_ NB307_309.out _; (with_reducible repeat (first | refine blk_drewN ?_ _ | refine blk_drew ?_ | refine blk_alloc ?_ _)); refine blk_far ?_ NB307_309.out _; (with_reducible repeat (first | refine blk_drewN ?_ _ | refine blk_drew ?_ | refine blk_alloc ?_ _)); refine blk_far ?_ NB307_309.out _; (with_reducible repeat (first | refine blk_drewN ?_ _ | refine blk_drew ?_ | refine blk_alloc ?_ _)); refine blk_far ?_ NB307_309.out _; (with_reducible repeat (first | refine blk_drewN ?_ _ | refine blk_drew ?_ | refine blk_alloc ?_ _)); refine blk_far ?_ NB307_309.out _; (with_reducible repeat (first | refine blk_drewN ?_ _ | refine blk_drew ?_ | refine blk_alloc ?_ _)); refine blk_far ?_ NB307_309.out _; (with_reducible repeat (first | refine blk_drewN ?_ _ | refine blk_drew ?_ | refine blk_alloc ?_ _)); refine blk_far ?_ NB307_309.out _; (with_reducible repeat (first | refine blk_drewN ?_ _ | refine blk_drew ?_ | refine blk_alloc ?_ _)); exact BK307.out) : p := h
theorem s17q23 {p : Prop} (h : p := by (with_reducible repeat (first | refine blk_drewN ?_ _ | refine blk_drew ?_ | refine blk_alloc ?_ _)); refine blk_put (cs := #[.int .i64 ((rd_T105 l0 x9_1).f0.f0), .int .i64 ((rd_T105 l0 x9_1).f0.f1), .string ((rd_T105 l0 x9_1).f0.f2), .int .i64 ((rd_T105 l0 x9_1).f1.f0), .int .i64 ((rd_T105 l0 x9_1).f1.f1), .string ((rd_T105 l0 x9_1).f1.f2), .int .i64 ((rd_T105 l0 x9_1).f2), .int .i64 0]) ?_ 7 _ rfl; (with_reducible repeat (first | refine blk_drewN ?_ _ | refine blk_drew ?_ | refine blk_alloc ?_ _)); refine blk_put (cs := #[.int .i64 ((rd_T105 l0 x9_1).f0.f0), .int .i64 ((rd_T105 l0 x9_1).f0.f1), .string ((rd_T105 l0 x9_1).f0.f2), .int .i64 ((rd_T105 l0 x9_1).f1.f0), .int .i64 ((rd_T105 l0 x9_1).f1.f1), .string ((rd_T105 l0 x9_1).f1.f2), .int .i64 0, .int .i64 0]) ?_ 6 _ rfl; (with_reducible repeat (first | refine blk_drewN ?_ _ | refine blk_drew ?_ | refine blk_alloc ?_ _)); refine blk_put (cs := #[.int .i64 ((rd_T105 l0 x9_1).f0.f0), .int .i64 ((rd_T105 l0 x9_1).f0.f1), .string ((rd_T105 l0 x9_1).f0.f2), .int .i64 ((rd_T105 l0 x9_1).f1.f0), .int .i64 ((rd_T105 l0 x9_1).f1.f1), .string (⟨#[]⟩ : ByteArray), .int .i64 0, .int .i64 0]) ?_ 5 _ rfl; (with_reducible repeat (first | refine blk_drewN ?_ _ | refine blk_drew ?_ | refine blk_alloc ?_ _)); refine blk_put (cs := #[.int .i64 ((rd_T105 l0 x9_1).f0.f0), .int .i64 ((rd_T105 l0 x9_1).f0.f1), .string ((rd_T105 l0 x9_1).f0.f2), .int .i64 ((rd_T105 l0 x9_1).f1.f0), .int .i64 0, .string (⟨#[]⟩ : ByteArray), .int .i64 0, .int .i64 0]) ?_ 4 _ rfl; (with_reducible repeat (first | refine blk_drewN ?_ _ | refine blk_drew ?_ | refine blk_alloc ?_ _)); refine blk_put (cs := #[.int .i64 ((rd_T105 l0 x9_1).f0.f0), .int .i64 ((rd_T105 l0 x9_1).f0.f1), .string ((rd_T105 l0 x9_1).f0.f2), .int .i64 0, .int .i64 0, .string (⟨#[]⟩ : ByteArray), .int .i64 0, .int .i64 0]) ?_ 3 _ rfl; (with_reducible repeat (first | refine blk_drewN ?_ _ | refine blk_drew ?_ | refine blk_alloc ?_ _)); refine blk_put (cs := #[.int .i64 ((rd_T105 l0 x9_1).f0.f0), .int .i64 ((rd_T105 l0 x9_1).f0.f1), .string (⟨#[]⟩ : ByteArray), .int .i64 0, .int .i64 0, .string (⟨#[]⟩ : ByteArray), .int .i64 0, .int .i64 0]) ?_ 2 _ rfl; (with_reducible repeat (first | refine blk_drewN ?_ _ | refine blk_drew ?_ | refine blk_alloc ?_ _)); refine blk_put (cs := #[.int .i64 ((rd_T105 l0 x9_1).f0.f0), .int .i64 0, .string (⟨#[]⟩ : ByteArray), .int .i64 0, .int .i64 0, .string (⟨#[]⟩ : ByteArray), .int .i64 0, .int .i64 0]) ?_ 1 _ rfl; (with_reducible repeat (first | refine blk_drewN ?_ _ | refine blk_drew ?_ | refine blk_alloc ?_ _)); refine blk_put (cs := #[.int .i64 0, .int .i64 0, .string (⟨#[]⟩ : ByteArray), .int .i64 0, .int .i64 0, .string (⟨#[]⟩ : ByteArray), .int .i64 0, .int .i64 0]) ?_ 0 _ rfl; (with_reducible repeat (first | refine blk_drewN ?_ _ | refine blk_drew ?_ | refine blk_alloc ?_ _)); exact BK309.out) : p := h
theorem s17q24 {p : Prop} (h : p := by rw [hg]; exact (below_size q1_)) : p := h
theorem s17q25 {p : Prop} (h : p := by rw [hg]; exact (below_size s17q13)) : p := h
theorem s17q26 {p : Prop} (h : p := by rw [hg]; exact (below_size s17q14)) : p := h
theorem s17q27 {p : Prop} (h : p := by rw [hg]; exact (below_size s17q15)) : p := h
theorem s17q28 {p : Prop} (h : p := by rw [hg]; exact (below_size s17q16)) : p := h
theorem s17q29 {p : Prop} (h : p := by rw [hg]; exact (below_size s17q17)) : p := h
theorem s17q30 {p : Prop} (h : p := by rw [hg]; exact Nat.ne_of_gt (blk_lt (g := gb300) (o := .cells #[.int .i64 a1_0, .int .i64 a1_1, .string a1_2] 48 (0, 0)) (blkR BK300.out))) : p := h
theorem s17q31 {p : Prop} (h : p := by rw [hg]; exact Nat.ne_of_gt (blk_lt (g := gb307) (o := .cells #[.int .i64 a1_0, .int .i64 a1_1, .string a1_2] 48 (0, 0)) (blkR BK307.out))) : p := h
theorem s17q32 {p : Prop} (h : p := by rw [hg]; exact Nat.ne_of_lt (blk_lt (g := gb300) (o := .cells #[.int .i64 a1_0, .int .i64 a1_1, .string a1_2] 48 (0, 0)) (blkR BK300.out))) : p := h
theorem s17q33 {p : Prop} (h : p := by rw [hg]; exact Nat.ne_of_lt (blk_lt (g := gb307) (o := .cells #[.int .i64 a1_0, .int .i64 a1_1, .string a1_2] 48 (0, 0)) (blkR BK307.out))) : p := h
theorem s17q34 {p : Prop} (h : p := by rw [hg]; exact Nat.ne_of_gt (blk_lt (g := gb311) (o := .cells #[.int .i64 a0_0, .int .i64 a0_1, .slice A0_2 l0_2.length c0_2, .slice A0_3 l0_3.length c0_3] 44 (0, 0)) (blkR BK311.out))) : p := h
theorem s17q35 {p : Prop} (h : p := by rw [hg]; exact Nat.ne_of_lt (blk_lt (g := gb311) (o := .cells #[.int .i64 a0_0, .int .i64 a0_1, .slice A0_2 l0_2.length c0_2, .slice A0_3 l0_3.length c0_3] 44 (0, 0)) (blkR BK311.out))) : p := h
theorem s17q36 {p : Prop} (h : p := by rw [hg]; exact Nat.ne_of_gt (blk_lt (g := gb303) (o := .cells #[.int .i64 a0_0, .int .i64 a0_1, .string a0_2, .int .i64 a0_3, .int .i64 a0_4, .string a0_5, .int .i64 a0_6, .int .i64 a0_7] 105 (0, 0)) (blkR BK303.out))) : p := h
theorem s17q37 {p : Prop} (h : p := by rw [hg]; exact Nat.ne_of_gt (blk_lt (g := gb316) (o := .cells #[.int .i64 a0_0, .int .i64 a0_1, .string a0_2, .int .i64 a0_3, .int .i64 a0_4, .string a0_5, .int .i64 a0_6, .int .i64 a0_7] 105 (0, 0)) (blkR BK316.out))) : p := h
theorem s17q38 {p : Prop} (h : p := by rw [hg]; exact Nat.ne_of_lt (blk_lt (g := gb303) (o := .cells #[.int .i64 a0_0, .int .i64 a0_1, .string a0_2, .int .i64 a0_3, .int .i64 a0_4, .string a0_5, .int .i64 a0_6, .int .i64 a0_7] 105 (0, 0)) (blkR BK303.out))) : p := h
theorem s17q39 {p : Prop} (h : p := by rw [hg]; exact Nat.ne_of_lt (blk_lt (g := gb316) (o := .cells #[.int .i64 a0_0, .int .i64 a0_1, .string a0_2, .int .i64 a0_3, .int .i64 a0_4, .string a0_5, .int .i64 a0_6, .int .i64 a0_7] 105 (0, 0)) (blkR BK316.out))) : p := h
/-! ### peristyleref10_oftenOf: function 62 -/
def peristyleref10_oftenOf.l0 : Nat → List (S100) → Int → Int → Int → Int → ByteArray → Option (Int × Bool)
  | 0, _, _, _, _, _, _ => none
  | k + 1, x8, x9, x10, x301000, x301001, x301002 => if x10 < x9 then (if 0 ≤ x10 then (if x10 < (x8.length : Int) then (if (((rd_T100 x8 x10).f0.f0) == x301000 && (((rd_T100 x8 x10).f0.f1) == x301001 && ((((rd_T100 x8 x10).f0.f2).toList) == x301002.toList))) = true then (some ((rd_T100 x8 x10).f1, true)) else (peristyleref10_oftenOf.l0 k x8 x9 (wrap64 (x10 + 1)) x301000 x301001 x301002)) else (none)) else (none)) else (some (0, false))
def peristyleref10_oftenOf.f (k : Nat) (l0 : List (S100)) (a1_0 : Int) (a1_1 : Int) (a1_2 : ByteArray) : Option (Int × Bool) := peristyleref10_oftenOf.l0 k l0 (l0.length : Int) 0 a1_0 a1_1 a1_2
theorem peristyleref10_oftenOf.mono_l : ∀ k, (∀ y0 y1 y2 y3 y4 y5, LeO (peristyleref10_oftenOf.l0 k y0 y1 y2 y3 y4 y5) (peristyleref10_oftenOf.l0 (k + 1) y0 y1 y2 y3 y4 y5))
  | 0 => fun _ _ _ _ _ _ r h => by simp [peristyleref10_oftenOf.l0] at h
  | k + 1 => by
    have ih0 := peristyleref10_oftenOf.mono_l k
    · intro y0 y1 y2 y3 y4 y5
      unfold peristyleref10_oftenOf.l0
      repeat' first | (with_reducible exact ih0 _ _ _ _ _ _) | (with_reducible exact LeO.refl _) | (with_reducible exact LeO.none _) | (with_reducible refine LeO.ite ?_ ?_) | (with_reducible refine LeO.bind ?_ (fun _ => ?_)) | exact ih0 _ _ _ _ _ _ | exact LeO.none _ | refine LeO.ite ?_ ?_ | refine LeO.bind ?_ (fun _ => ?_)
theorem peristyleref10_oftenOf.mono : ∀ a0 a1 a2 a3 k, LeO (peristyleref10_oftenOf.f k a0 a1 a2 a3) (peristyleref10_oftenOf.f (k + 1) a0 a1 a2 a3) := by
 intro a0 a1 a2 a3 k
 have ih0 := peristyleref10_oftenOf.mono_l k
 unfold peristyleref10_oftenOf.f
 repeat' first
  | (with_reducible exact ih0 _ _ _ _ _ _)
  | (with_reducible exact LeO.refl _)
  | (with_reducible exact LeO.none _)
  | (with_reducible refine LeO.ite ?_ ?_)
  | (with_reducible refine LeO.bind ?_ (fun _ => ?_))
  | exact ih0 _ _ _ _ _ _
  | exact LeO.none _
  | refine LeO.ite ?_ ?_
  | refine LeO.bind ?_ (fun _ => ?_)
set_option maxHeartbeats 8000000 in
set_option maxRecDepth 100000 in
theorem peristyleref10_oftenOf.calls (k : Nat) (A0 : Option Addr) (c0 : Nat) (l0 : List (S100)) (a1_0 : Int) (a1_1 : Int) (a1_2 : ByteArray) (r1 : Int) (r2 : Bool) (w : World) (hr0 : Kd.C k100 w A0 l0.length l0) (hc0 : l0.length ≤ c0) (h : peristyleref10_oftenOf.f k l0 a1_0 a1_1 a1_2 = some (r1, r2)) :
    Calls Tryd.prog 62 #[.slice A0 l0.length c0, .agg #[.int .i64 a1_0, .int .i64 a1_1, .string a1_2]] w fun e w' => e = .returned (.tuple #[.int .i64 r1, .bool r2]) ∧ Below w.heap.size w w' := by
 have hu48 := Tryd.underlying48
 have hu100 := Tryd.underlying100
 have HR0 := aM hr0
 have HC0 := aM hc0
 clear hr0 hc0
 have HB := aM (Below.refl w.heap.size w)
 have H : (peristyleref10_oftenOf.l0 k l0 (l0.length : Int) 0 a1_0 a1_1 a1_2) = some (r1, r2) := h
 clear h
 have H' := aM H
 clear H
 go_enter Tryd.func62, Tryd.ntmps62
 go_wp2_with (first | ((with_reducible refine gate_dst (N := 3) rfl ?_); refine box_event ?hg (N := 3) ?hd (cs := #[.int .i64 a1_0, .int .i64 a1_1, .string a1_2]) (t := 48) ?hr ?_; (case hd => rfl); (case hg => rfl); (case hr => first | (go_simp; done) | (go_simp; rfl)); intro gb300 hg w3 hbox hb; have BK300 := aM hbox; have GW300 := aM (s17q24 : w.heap.size ≤ gb300); have GE300 := GW300; replace HB := aM (below_step q1_ hb); clear hb hbox hg))
 go_loopg [10] k (fun kq v10 w' => ∃ (x10_1 : Int), v10 = .int .i64 x10_1 ∧ Aside0 (peristyleref10_oftenOf.l0 kq l0 (l0.length : Int) x10_1 a1_0 a1_1 a1_2 = some (r1, r2)) ∧ Aside0 (kq ≤ k) ∧ Aside0 (w'.heap[gb300]? = some (.cells #[.int .i64 a1_0, .int .i64 a1_1, .string a1_2] 48 (0, 0))) ∧ Aside0 (Below w.heap.size w w'))
 case atStart => exact ⟨(0), q4_, H', ⟨Nat.le_refl _⟩, ⟨blkR BK300.out⟩, ⟨s17q13⟩⟩
 clear H'
 try clear p2
 obtain ⟨x10_1, rfl, HA, HK1, BK300, HB⟩ := hrel
 cases gk with
 | zero => exact absurd HA.out (by simp [peristyleref10_oftenOf.l0])
 | succ k1 => ?_
 have H := HA.out
 clear HA
 simp only [peristyleref10_oftenOf.l0] at H
 by_cases c4 : x10_1 < (l0.length : Int)
 case neg =>
  rw [if_neg c4] at H
  have c4b0 : decide (x10_1 < (l0.length : Int)) = false := decide_eq_false c4
  clear c4
  simp only [Option.some.injEq, Prod.mk.injEq] at H
  obtain ⟨rfl, rfl⟩ := H
  go_wp2
  go_ret2
  exact ⟨eqR, s17q13⟩
 rw [if_pos c4] at H
 have c4b0 : decide (x10_1 < (l0.length : Int)) = true := decide_eq_true c4
 clear c4
 by_cases c5 : 0 ≤ x10_1
 case neg =>
  rw [if_neg c5] at H
  exact absurd H (by simp)
 rw [if_pos c5] at H
 have c5b0 : decide (0 ≤ x10_1) = true := decide_eq_true c5
 clear c5
 by_cases c6 : x10_1 < (l0.length : Int)
 case neg =>
  rw [if_neg c6] at H
  exact absurd H (by simp)
 rw [if_pos c6] at H
 have c6b0 : decide (x10_1 < (l0.length : Int)) = true := decide_eq_true c6
 clear c6
 by_cases c7 : (((rd_T100 l0 x10_1).f0.f0) == a1_0 && (((rd_T100 l0 x10_1).f0.f1) == a1_1 && ((((rd_T100 l0 x10_1).f0.f2).toList) == a1_2.toList))) = true
 · rw [if_pos c7] at H
   have c7b0 : (((rd_T100 l0 x10_1).f0.f0) == a1_0 && (((rd_T100 l0 x10_1).f0.f1) == a1_1 && ((((rd_T100 l0 x10_1).f0.f2).toList) == a1_2.toList))) = true := c7
   (try (have c7b1 : decide (((rd_T100 l0 x10_1).f0.f0) = a1_0 && (((rd_T100 l0 x10_1).f0.f1) == a1_1 && ((((rd_T100 l0 x10_1).f0.f2).toList) == a1_2.toList))) = true := by simpa using c7))
   (try (have c7b2 : (((rd_T100 l0 x10_1).f0.f0) == a1_0 && (((rd_T100 l0 x10_1).f0.f1) == a1_1 && ((((rd_T100 l0 x10_1).f0.f2).toList) == a1_2.toList))) = true := by simpa using c7))
   clear c7
   simp only [Option.some.injEq, Prod.mk.injEq] at H
   obtain ⟨rfl, rfl⟩ := H
   have p301 : 0 ≤ (x10_1 : Int) := of_decide_eq_true q3_
   have q301 : x10_1 < (l0.length : Int) := of_decide_eq_true q3_
   obtain ⟨ad301, e301, hx301_0, hx301_1, hx301_2, hx301_3⟩ := at_T100 HR0.out x10_1 p301 q301
   cases e301
   replace hx301_0 := up_ HB.out hx301_0
   replace hx301_1 := up_ HB.out hx301_1
   replace hx301_2 := up_ HB.out hx301_2
   replace hx301_3 := up_ HB.out hx301_3
   replace p301 := eq_true p301
   replace q301 := eq_true q301
   go_wp2_with (first | ((with_reducible refine gate_dst (N := 7) rfl ?_); refine box_event ?hg (N := 7) ?hd (cs := #[.int .i64 0, .int .i64 0, .string (⟨#[]⟩ : ByteArray), .int .i64 0]) (t := 100) ?hr ?_; (case hd => rfl); (case hg => rfl); (case hr => first | (go_simp; done) | (go_simp; rfl)); intro gb302 hg w8 hbox hb; have BK302 := aM hbox; have GW302 := aM (s17q25 : w.heap.size ≤ gb302); have GE302 := GW302; have NB300_302 := aM (s17q32 : gb300 ≠ gb302); have NB302_300 := aM (s17q30 : gb302 ≠ gb300); replace BK300 := aM (bbR BK300.out hb); replace HB := aM (below_step s17q13 hb); clear hb hbox hg; have hnb9 := NB302_300.out; have hnc9 := NB300_302.out; obtain ⟨hcz10_0, hcz10_1, hcz10_2, hcz10_3, hfz10_0, hfz10_1, hfz10_2, hfz10_3⟩ := cells4 BK302.out; obtain ⟨hcz11_0, hcz11_1, hcz11_2, hfz11_0, hfz11_1, hfz11_2⟩ := cells3 BK300.out))
   go_ret2
   exact ⟨eqR, s17z1⟩
 rw [if_neg c7] at H
 have c7b0 : (((rd_T100 l0 x10_1).f0.f0) == a1_0 && (((rd_T100 l0 x10_1).f0.f1) == a1_1 && ((((rd_T100 l0 x10_1).f0.f2).toList) == a1_2.toList))) = false := by simpa using c7
 (try (have c7b1 : decide (((rd_T100 l0 x10_1).f0.f0) = a1_0 && (((rd_T100 l0 x10_1).f0.f1) == a1_1 && ((((rd_T100 l0 x10_1).f0.f2).toList) == a1_2.toList))) = false := by simpa using c7))
 (try (have c7b2 : (((rd_T100 l0 x10_1).f0.f0) == a1_0 && (((rd_T100 l0 x10_1).f0.f1) == a1_1 && ((((rd_T100 l0 x10_1).f0.f2).toList) == a1_2.toList))) = false := by simpa using c7))
 (try (have c7b3 : ¬ (((rd_T100 l0 x10_1).f0.f0) = a1_0 && (((rd_T100 l0 x10_1).f0.f1) == a1_1 && ((((rd_T100 l0 x10_1).f0.f2).toList) == a1_2.toList))) := by simpa using c7))
 clear c7
 have H' := aM H
 clear H
 have p301 : 0 ≤ (x10_1 : Int) := of_decide_eq_true q3_
 have q301 : x10_1 < (l0.length : Int) := of_decide_eq_true q3_
 obtain ⟨ad301, e301, hx301_0, hx301_1, hx301_2, hx301_3⟩ := at_T100 HR0.out x10_1 p301 q301
 cases e301
 replace hx301_0 := up_ HB.out hx301_0
 replace hx301_1 := up_ HB.out hx301_1
 replace hx301_2 := up_ HB.out hx301_2
 replace hx301_3 := up_ HB.out hx301_3
 replace p301 := eq_true p301
 replace q301 := eq_true q301
 go_wp2_with (first | ((with_reducible refine gate_dst (N := 7) rfl ?_); refine box_event ?hg (N := 7) ?hd (cs := #[.int .i64 0, .int .i64 0, .string (⟨#[]⟩ : ByteArray), .int .i64 0]) (t := 100) ?hr ?_; (case hd => rfl); (case hg => rfl); (case hr => first | (go_simp; done) | (go_simp; rfl)); intro gb302 hg w12 hbox hb; have BK302 := aM hbox; have GW302 := aM (s17q25 : w.heap.size ≤ gb302); have GE302 := GW302; have NB300_302 := aM (s17q32 : gb300 ≠ gb302); have NB302_300 := aM (s17q30 : gb302 ≠ gb300); replace BK300 := aM (bbR BK300.out hb); replace HB := aM (below_step s17q13 hb); clear hb hbox hg; have hnb13 := NB302_300.out; have hnc13 := NB300_302.out; obtain ⟨hcz14_0, hcz14_1, hcz14_2, hcz14_3, hfz14_0, hfz14_1, hfz14_2, hfz14_3⟩ := cells4 BK302.out; obtain ⟨hcz15_0, hcz15_1, hcz15_2, hfz15_0, hfz15_1, hfz15_2⟩ := cells3 BK300.out))
 first | go_roundg k1 | (refine Handed.intro k1 ?measure ?_; rotate_left; go_step; (repeat apply Exists.intro); simp only [add_plain]; refine ⟨?rel, rfl⟩)
 case measure => have := HK1.out; omega
 case rel => exact ⟨(wrap64 (x10_1 + 1)), q4_, H', ⟨by have := HK1.out; omega⟩, ⟨by (with_reducible repeat (first | refine blk_drewN ?_ _ | refine blk_drew ?_ | refine blk_alloc ?_ _)); refine blk_far ?_ NB300_302.out _; (with_reducible repeat (first | refine blk_drewN ?_ _ | refine blk_drew ?_ | refine blk_alloc ?_ _)); refine blk_far ?_ NB300_302.out _; (with_reducible repeat (first | refine blk_drewN ?_ _ | refine blk_drew ?_ | refine blk_alloc ?_ _)); refine blk_far ?_ NB300_302.out _; (with_reducible repeat (first | refine blk_drewN ?_ _ | refine blk_drew ?_ | refine blk_alloc ?_ _)); refine blk_far ?_ NB300_302.out _; (with_reducible repeat (first | refine blk_drewN ?_ _ | refine blk_drew ?_ | refine blk_alloc ?_ _)); exact BK300.out⟩, ⟨s17z1⟩⟩
/-! ### peristyleref10_holds: function 98 -/
def peristyleref10_holds.f (k : Nat) (a0_0 : Int) (a0_1 : Int) (a0_2 : ByteArray) (a0_3 : Int) (a0_4 : Int) (a0_5 : ByteArray) (a0_6 : Int) (a0_7 : Int) (a1_0 : Int) (a1_1 : Int) (a1_2 : ByteArray) : Option (Bool) := (peristyleref10_order.f k a0_0 a0_1 a0_2 a1_0 a1_1 a1_2).bind fun t305 => (if t305 ≤ 0 then ((peristyleref10_order.f k a1_0 a1_1 a1_2 a0_3 a0_4 a0_5).bind fun t306 => (some (decide (t306 ≤ 0)))) else (some false))
theorem peristyleref10_holds.mono : ∀ a0 a1 a2 a3 a4 a5 a6 a7 a8 a9 a10 k, LeO (peristyleref10_holds.f k a0 a1 a2 a3 a4 a5 a6 a7 a8 a9 a10) (peristyleref10_holds.f (k + 1) a0 a1 a2 a3 a4 a5 a6 a7 a8 a9 a10) := by
 intro a0 a1 a2 a3 a4 a5 a6 a7 a8 a9 a10 k
 unfold peristyleref10_holds.f
 repeat' first
  | (with_reducible exact peristyleref10_order.mono _ _ _ _ _ _ _)
  | (with_reducible exact LeO.refl _)
  | (with_reducible exact LeO.none _)
  | (with_reducible refine LeO.ite ?_ ?_)
  | (with_reducible refine LeO.bind ?_ (fun _ => ?_))
  | exact peristyleref10_order.mono _ _ _ _ _ _ _
  | exact LeO.none _
  | refine LeO.ite ?_ ?_
  | refine LeO.bind ?_ (fun _ => ?_)
set_option maxHeartbeats 8000000 in
set_option maxRecDepth 100000 in
theorem peristyleref10_holds.calls (k : Nat) (a0_0 : Int) (a0_1 : Int) (a0_2 : ByteArray) (a0_3 : Int) (a0_4 : Int) (a0_5 : ByteArray) (a0_6 : Int) (a0_7 : Int) (a1_0 : Int) (a1_1 : Int) (a1_2 : ByteArray) (r : Bool) (w : World) (h : peristyleref10_holds.f k a0_0 a0_1 a0_2 a0_3 a0_4 a0_5 a0_6 a0_7 a1_0 a1_1 a1_2 = some r) :
    Calls Tryd.prog 98 #[.agg #[.int .i64 a0_0, .int .i64 a0_1, .string a0_2, .int .i64 a0_3, .int .i64 a0_4, .string a0_5, .int .i64 a0_6, .int .i64 a0_7], .agg #[.int .i64 a1_0, .int .i64 a1_1, .string a1_2]] w fun e w' => e = .returned (.bool r) ∧ Below w.heap.size w w' := by
 have hu105 := Tryd.underlying105
 have hu48 := Tryd.underlying48
 have HB := aM (Below.refl w.heap.size w)
 have H : ((peristyleref10_order.f k a0_0 a0_1 a0_2 a1_0 a1_1 a1_2).bind fun t305 => (if t305 ≤ 0 then ((peristyleref10_order.f k a1_0 a1_1 a1_2 a0_3 a0_4 a0_5).bind fun t306 => (some (decide (t306 ≤ 0)))) else (some false))) = some r := h
 clear h
 replace H := Option.bind_eq_some_iff.mp H
 obtain ⟨t305, A30, H⟩ := H
 replace H : (if t305 ≤ 0 then ((peristyleref10_order.f k a1_0 a1_1 a1_2 a0_3 a0_4 a0_5).bind fun t306 => (some (decide (t306 ≤ 0)))) else (some false)) = some r := H
 have A3 := aM A30
 clear A30
 by_cases c4 : t305 ≤ 0
 case neg =>
  rw [if_neg c4] at H
  have c4b0 : decide (t305 ≤ 0) = false := decide_eq_false c4
  clear c4
  obtain rfl := Option.some.inj H
  go_enter Tryd.func98, Tryd.ntmps98
  go_wp2_with (first | ((with_reducible refine gate_dst (N := 2) rfl ?_); refine box_event ?hg (N := 2) ?hd (cs := #[.int .i64 a0_0, .int .i64 a0_1, .string a0_2, .int .i64 a0_3, .int .i64 a0_4, .string a0_5, .int .i64 a0_6, .int .i64 a0_7]) (t := 105) ?hr ?_; (case hd => rfl); (case hg => rfl); (case hr => first | (go_simp; done) | (go_simp; rfl)); intro gb303 hg w15 hbox hb; have BK303 := aM hbox; have GW303 := aM (s17q24 : w.heap.size ≤ gb303); have GE303 := GW303; replace HB := aM (below_step q1_ hb); clear hb hbox hg) | ((with_reducible refine gate_dst (N := 3) rfl ?_); refine box_event ?hg (N := 3) ?hd (cs := #[.int .i64 a1_0, .int .i64 a1_1, .string a1_2]) (t := 48) ?hr ?_; (case hd => rfl); (case hg => rfl); (case hr => first | (go_simp; done) | (go_simp; rfl)); intro gb304 hg w16 hbox hb; have BK304 := aM hbox; have GW304 := aM (s17q26 : w.heap.size ≤ gb304); have GE304 := GW304; have NB303_304 := aM (s17q38 : gb303 ≠ gb304); have NB304_303 := aM (s17q36 : gb304 ≠ gb303); replace BK303 := aM (bbR BK303.out hb); replace HB := aM (below_step s17q14 hb); clear hb hbox hg; have hnb17 := NB303_304.out; have hnc17 := NB304_303.out; obtain ⟨hcz18_0, hcz18_1, hcz18_2, hcz18_3, hcz18_4, hcz18_5, hcz18_6, hcz18_7, hfz18_0, hfz18_1, hfz18_2, hfz18_3, hfz18_4, hfz18_5, hfz18_6, hfz18_7⟩ := cells8 BK303.out; obtain ⟨hcz19_0, hcz19_1, hcz19_2, hfz19_0, hfz19_1, hfz19_2⟩ := cells3 BK304.out) | ((with_reducible refine gate_callee (f := 86) rfl ?_); refine goesL_ (some 8) rfl rfl Tryd.func86 q5_ rfl #[.agg #[.int .i64 a0_0, .int .i64 a0_1, .string a0_2], .agg #[.int .i64 a1_0, .int .i64 a1_1, .string a1_2]] rfl q2_ ?_; (with_reducible refine (peristyleref10_order.calls k a0_0 a0_1 a0_2 a1_0 a1_1 a1_2 t305 _ A3.out).mono ?_); rintro e w20 ⟨rfl, hb⟩; refine ⟨_, rfl, ?_⟩; replace BK303 := aM (bbR BK303.out hb); replace BK304 := aM (bbR BK304.out hb); replace HB := aM (below_step s17q18 hb); (try clear hb); (try clear hb2); (try clear hk); (try clear hi)))
  go_ret
  exact ⟨eqR, s17q18⟩
 rw [if_pos c4] at H
 have c4b0 : decide (t305 ≤ 0) = true := decide_eq_true c4
 clear c4
 replace H := Option.bind_eq_some_iff.mp H
 obtain ⟨t306, A50, H⟩ := H
 replace H : (some (decide (t306 ≤ 0))) = some r := H
 have A5 := aM A50
 clear A50
 obtain rfl := Option.some.inj H
 go_enter Tryd.func98, Tryd.ntmps98
 go_wp2_with (first | ((with_reducible refine gate_dst (N := 2) rfl ?_); refine box_event ?hg (N := 2) ?hd (cs := #[.int .i64 a0_0, .int .i64 a0_1, .string a0_2, .int .i64 a0_3, .int .i64 a0_4, .string a0_5, .int .i64 a0_6, .int .i64 a0_7]) (t := 105) ?hr ?_; (case hd => rfl); (case hg => rfl); (case hr => first | (go_simp; done) | (go_simp; rfl)); intro gb303 hg w6 hbox hb; have BK303 := aM hbox; have GW303 := aM (s17q24 : w.heap.size ≤ gb303); have GE303 := GW303; replace HB := aM (below_step q1_ hb); clear hb hbox hg) | ((with_reducible refine gate_dst (N := 3) rfl ?_); refine box_event ?hg (N := 3) ?hd (cs := #[.int .i64 a1_0, .int .i64 a1_1, .string a1_2]) (t := 48) ?hr ?_; (case hd => rfl); (case hg => rfl); (case hr => first | (go_simp; done) | (go_simp; rfl)); intro gb304 hg w7 hbox hb; have BK304 := aM hbox; have GW304 := aM (s17q26 : w.heap.size ≤ gb304); have GE304 := GW304; have NB303_304 := aM (s17q38 : gb303 ≠ gb304); have NB304_303 := aM (s17q36 : gb304 ≠ gb303); replace BK303 := aM (bbR BK303.out hb); replace HB := aM (below_step s17q14 hb); clear hb hbox hg; have hnb8 := NB303_304.out; have hnc8 := NB304_303.out; obtain ⟨hcz9_0, hcz9_1, hcz9_2, hcz9_3, hcz9_4, hcz9_5, hcz9_6, hcz9_7, hfz9_0, hfz9_1, hfz9_2, hfz9_3, hfz9_4, hfz9_5, hfz9_6, hfz9_7⟩ := cells8 BK303.out; obtain ⟨hcz10_0, hcz10_1, hcz10_2, hfz10_0, hfz10_1, hfz10_2⟩ := cells3 BK304.out) | ((with_reducible refine gate_callee (f := 86) rfl ?_); refine goesL_ (some 8) rfl rfl Tryd.func86 q5_ rfl #[.agg #[.int .i64 a0_0, .int .i64 a0_1, .string a0_2], .agg #[.int .i64 a1_0, .int .i64 a1_1, .string a1_2]] rfl q2_ ?_; (with_reducible refine (peristyleref10_order.calls k a0_0 a0_1 a0_2 a1_0 a1_1 a1_2 t305 _ A3.out).mono ?_); rintro e w11 ⟨rfl, hb⟩; refine ⟨_, rfl, ?_⟩; replace BK303 := aM (bbR BK303.out hb); replace BK304 := aM (bbR BK304.out hb); replace HB := aM (below_step s17q18 hb); (try clear hb); (try clear hb2); (try clear hk); (try clear hi); obtain ⟨hcz12_0, hcz12_1, hcz12_2, hfz12_0, hfz12_1, hfz12_2⟩ := cells3 BK304.out; obtain ⟨hcz13_0, hcz13_1, hcz13_2, hcz13_3, hcz13_4, hcz13_5, hcz13_6, hcz13_7, hfz13_0, hfz13_1, hfz13_2, hfz13_3, hfz13_4, hfz13_5, hfz13_6, hfz13_7⟩ := cells8 BK303.out) | (go_at_call 86; (with_reducible refine (peristyleref10_order.calls k a1_0 a1_1 a1_2 a0_3 a0_4 a0_5 t306 _ A5.out).mono ?_); rintro e w14 ⟨rfl, hb⟩; replace BK303 := aM (bbR BK303.out hb); replace BK304 := aM (bbR BK304.out hb); replace HB := aM (below_step s17q18 hb); (try clear hb); (try clear hb2); (try clear hk); (try clear hi)))
 go_ret
 exact ⟨eqR, s17q18⟩
/-! ### peristyleref10_inBuckets: function 63 -/
def peristyleref10_inBuckets.l0 : Nat → List (S105) → Int → Int → Int → Int → ByteArray → Option (Int)
  | 0, _, _, _, _, _, _ => none
  | k + 1, x7, x8, x9, x308000, x308001, x308002 => if x9 < x8 then (if 0 ≤ x9 then (if x9 < (x7.length : Int) then ((peristyleref10_holds.f k ((rd_T105 x7 x9).f0.f0) ((rd_T105 x7 x9).f0.f1) ((rd_T105 x7 x9).f0.f2) ((rd_T105 x7 x9).f1.f0) ((rd_T105 x7 x9).f1.f1) ((rd_T105 x7 x9).f1.f2) ((rd_T105 x7 x9).f2) ((rd_T105 x7 x9).f3) x308000 x308001 x308002).bind fun t310 => (if t310 = true then (if ((rd_T105 x7 x9).f3) = 0 then (none) else (some (mx 1 (wrap64 (Int.tdiv ((rd_T105 x7 x9).f2) ((rd_T105 x7 x9).f3)))))) else (peristyleref10_inBuckets.l0 k x7 x8 (wrap64 (x9 + 1)) x308000 x308001 x308002))) else (none)) else (none)) else (some 0)
def peristyleref10_inBuckets.f (k : Nat) (l0 : List (S105)) (a1_0 : Int) (a1_1 : Int) (a1_2 : ByteArray) : Option (Int) := peristyleref10_inBuckets.l0 k l0 (l0.length : Int) 0 a1_0 a1_1 a1_2
theorem peristyleref10_inBuckets.mono_l : ∀ k, (∀ y0 y1 y2 y3 y4 y5, LeO (peristyleref10_inBuckets.l0 k y0 y1 y2 y3 y4 y5) (peristyleref10_inBuckets.l0 (k + 1) y0 y1 y2 y3 y4 y5))
  | 0 => fun _ _ _ _ _ _ r h => by simp [peristyleref10_inBuckets.l0] at h
  | k + 1 => by
    have ih0 := peristyleref10_inBuckets.mono_l k
    · intro y0 y1 y2 y3 y4 y5
      unfold peristyleref10_inBuckets.l0
      repeat' first | (with_reducible exact ih0 _ _ _ _ _ _) | (with_reducible exact peristyleref10_holds.mono _ _ _ _ _ _ _ _ _ _ _ _) | (with_reducible exact LeO.refl _) | (with_reducible exact LeO.none _) | (with_reducible refine LeO.ite ?_ ?_) | (with_reducible refine LeO.bind ?_ (fun _ => ?_)) | exact ih0 _ _ _ _ _ _ | exact peristyleref10_holds.mono _ _ _ _ _ _ _ _ _ _ _ _ | exact LeO.none _ | refine LeO.ite ?_ ?_ | refine LeO.bind ?_ (fun _ => ?_)
theorem peristyleref10_inBuckets.mono : ∀ a0 a1 a2 a3 k, LeO (peristyleref10_inBuckets.f k a0 a1 a2 a3) (peristyleref10_inBuckets.f (k + 1) a0 a1 a2 a3) := by
 intro a0 a1 a2 a3 k
 have ih0 := peristyleref10_inBuckets.mono_l k
 unfold peristyleref10_inBuckets.f
 repeat' first
  | (with_reducible exact ih0 _ _ _ _ _ _)
  | (with_reducible exact peristyleref10_holds.mono _ _ _ _ _ _ _ _ _ _ _ _)
  | (with_reducible exact LeO.refl _)
  | (with_reducible exact LeO.none _)
  | (with_reducible refine LeO.ite ?_ ?_)
  | (with_reducible refine LeO.bind ?_ (fun _ => ?_))
  | exact ih0 _ _ _ _ _ _
  | exact peristyleref10_holds.mono _ _ _ _ _ _ _ _ _ _ _ _
  | exact LeO.none _
  | refine LeO.ite ?_ ?_
  | refine LeO.bind ?_ (fun _ => ?_)
set_option maxHeartbeats 8000000 in
set_option maxRecDepth 100000 in
theorem peristyleref10_inBuckets.calls (k : Nat) (A0 : Option Addr) (c0 : Nat) (l0 : List (S105)) (a1_0 : Int) (a1_1 : Int) (a1_2 : ByteArray) (r : Int) (w : World) (hr0 : Kd.C k105 w A0 l0.length l0) (hc0 : l0.length ≤ c0) (h : peristyleref10_inBuckets.f k l0 a1_0 a1_1 a1_2 = some r) :
    Calls Tryd.prog 63 #[.slice A0 l0.length c0, .agg #[.int .i64 a1_0, .int .i64 a1_1, .string a1_2]] w fun e w' => e = .returned (.int .i64 r) ∧ Below w.heap.size w w' := by
 have hu48 := Tryd.underlying48
 have hu105 := Tryd.underlying105
 have HR0 := aM hr0
 have HC0 := aM hc0
 clear hr0 hc0
 have HB := aM (Below.refl w.heap.size w)
 have H : (peristyleref10_inBuckets.l0 k l0 (l0.length : Int) 0 a1_0 a1_1 a1_2) = some r := h
 clear h
 have H' := aM H
 clear H
 go_enter Tryd.func63, Tryd.ntmps63
 go_wp2_with (first | ((with_reducible refine gate_dst (N := 3) rfl ?_); refine box_event ?hg (N := 3) ?hd (cs := #[.int .i64 a1_0, .int .i64 a1_1, .string a1_2]) (t := 48) ?hr ?_; (case hd => rfl); (case hg => rfl); (case hr => first | (go_simp; done) | (go_simp; rfl)); intro gb307 hg w3 hbox hb; have BK307 := aM hbox; have GW307 := aM (s17q24 : w.heap.size ≤ gb307); have GE307 := GW307; replace HB := aM (below_step q1_ hb); clear hb hbox hg))
 go_loopg [9] k (fun kq v9 w' => ∃ (x9_1 : Int), v9 = .int .i64 x9_1 ∧ Aside0 (peristyleref10_inBuckets.l0 kq l0 (l0.length : Int) x9_1 a1_0 a1_1 a1_2 = some r) ∧ Aside0 (kq ≤ k) ∧ Aside0 (w'.heap[gb307]? = some (.cells #[.int .i64 a1_0, .int .i64 a1_1, .string a1_2] 48 (0, 0))) ∧ Aside0 (Below w.heap.size w w'))
 case atStart => exact ⟨(0), q4_, H', ⟨Nat.le_refl _⟩, ⟨blkR BK307.out⟩, ⟨s17q15⟩⟩
 clear H'
 try clear p2
 obtain ⟨x9_1, rfl, HA, HK1, BK307, HB⟩ := hrel
 cases gk with
 | zero => exact absurd HA.out (by simp [peristyleref10_inBuckets.l0])
 | succ k1 => ?_
 have H := HA.out
 clear HA
 simp only [peristyleref10_inBuckets.l0] at H
 by_cases c4 : x9_1 < (l0.length : Int)
 case neg =>
  rw [if_neg c4] at H
  have c4b0 : decide (x9_1 < (l0.length : Int)) = false := decide_eq_false c4
  clear c4
  obtain rfl := Option.some.inj H
  go_wp2
  go_ret
  exact ⟨eqR, s17q15⟩
 rw [if_pos c4] at H
 have c4b0 : decide (x9_1 < (l0.length : Int)) = true := decide_eq_true c4
 clear c4
 by_cases c5 : 0 ≤ x9_1
 case neg =>
  rw [if_neg c5] at H
  exact absurd H (by simp)
 rw [if_pos c5] at H
 have c5b0 : decide (0 ≤ x9_1) = true := decide_eq_true c5
 clear c5
 by_cases c6 : x9_1 < (l0.length : Int)
 case neg =>
  rw [if_neg c6] at H
  exact absurd H (by simp)
 rw [if_pos c6] at H
 have c6b0 : decide (x9_1 < (l0.length : Int)) = true := decide_eq_true c6
 clear c6
 replace H := Option.bind_eq_some_iff.mp H
 obtain ⟨t310, A70, H⟩ := H
 replace H : (if t310 = true then (if ((rd_T105 l0 x9_1).f3) = 0 then (none) else (some (mx 1 (wrap64 (Int.tdiv ((rd_T105 l0 x9_1).f2) ((rd_T105 l0 x9_1).f3)))))) else (peristyleref10_inBuckets.l0 k1 l0 (l0.length : Int) (wrap64 (x9_1 + 1)) a1_0 a1_1 a1_2)) = some r := H
 have A7 := aM A70
 clear A70
 by_cases c8 : t310 = true
 case neg =>
  replace c8 := Bool.eq_false_iff.mpr c8
  subst c8
  have H1 : (peristyleref10_inBuckets.l0 k1 l0 (l0.length : Int) (wrap64 (x9_1 + 1)) a1_0 a1_1 a1_2) = some r := q6_
  clear H
  have H := H1
  clear H1
  have H' := aM H
  clear H
  have p308 : 0 ≤ (x9_1 : Int) := of_decide_eq_true q3_
  have q308 : x9_1 < (l0.length : Int) := of_decide_eq_true q3_
  obtain ⟨ad308, e308, hx308_0, hx308_1, hx308_2, hx308_3, hx308_4, hx308_5, hx308_6, hx308_7⟩ := at_T105 HR0.out x9_1 p308 q308
  cases e308
  replace hx308_0 := up_ HB.out hx308_0
  replace hx308_1 := up_ HB.out hx308_1
  replace hx308_2 := up_ HB.out hx308_2
  replace hx308_3 := up_ HB.out hx308_3
  replace hx308_4 := up_ HB.out hx308_4
  replace hx308_5 := up_ HB.out hx308_5
  replace hx308_6 := up_ HB.out hx308_6
  replace hx308_7 := up_ HB.out hx308_7
  replace p308 := eq_true p308
  replace q308 := eq_true q308
  go_wp2_with (first | ((with_reducible refine gate_dst (N := 6) rfl ?_); refine box_event ?hg (N := 6) ?hd (cs := #[.int .i64 0, .int .i64 0, .string (⟨#[]⟩ : ByteArray), .int .i64 0, .int .i64 0, .string (⟨#[]⟩ : ByteArray), .int .i64 0, .int .i64 0]) (t := 105) ?hr ?_; (case hd => rfl); (case hg => rfl); (case hr => first | (go_simp; done) | (go_simp; rfl)); intro gb309 hg w17 hbox hb; have BK309 := aM hbox; have GW309 := aM (s17q27 : w.heap.size ≤ gb309); have GE309 := GW309; have NB307_309 := aM (s17q33 : gb307 ≠ gb309); have NB309_307 := aM (s17q31 : gb309 ≠ gb307); replace BK307 := aM (bbR BK307.out hb); replace HB := aM (below_step s17q15 hb); clear hb hbox hg; have hnb18 := NB309_307.out; have hnc18 := NB307_309.out; obtain ⟨hcz19_0, hcz19_1, hcz19_2, hcz19_3, hcz19_4, hcz19_5, hcz19_6, hcz19_7, hfz19_0, hfz19_1, hfz19_2, hfz19_3, hfz19_4, hfz19_5, hfz19_6, hfz19_7⟩ := cells8 BK309.out; obtain ⟨hcz20_0, hcz20_1, hcz20_2, hfz20_0, hfz20_1, hfz20_2⟩ := cells3 BK307.out) | ((with_reducible refine gate_callee (f := 98) rfl ?_); refine goesL_ (some 15) rfl rfl Tryd.func98 q5_ rfl #[.agg #[.int .i64 ((rd_T105 l0 x9_1).f0.f0), .int .i64 ((rd_T105 l0 x9_1).f0.f1), .string ((rd_T105 l0 x9_1).f0.f2), .int .i64 ((rd_T105 l0 x9_1).f1.f0), .int .i64 ((rd_T105 l0 x9_1).f1.f1), .string ((rd_T105 l0 x9_1).f1.f2), .int .i64 ((rd_T105 l0 x9_1).f2), .int .i64 ((rd_T105 l0 x9_1).f3)], .agg #[.int .i64 a1_0, .int .i64 a1_1, .string a1_2]] rfl q2_ ?_; (with_reducible refine (peristyleref10_holds.calls k1 ((rd_T105 l0 x9_1).f0.f0) ((rd_T105 l0 x9_1).f0.f1) ((rd_T105 l0 x9_1).f0.f2) ((rd_T105 l0 x9_1).f1.f0) ((rd_T105 l0 x9_1).f1.f1) ((rd_T105 l0 x9_1).f1.f2) ((rd_T105 l0 x9_1).f2) ((rd_T105 l0 x9_1).f3) a1_0 a1_1 a1_2 false _ A7.out).mono ?_); rintro e w21 ⟨rfl, hb⟩; refine ⟨_, rfl, ?_⟩; replace BK307 := aM (blk_below (g := gb307) (o := .cells #[.int .i64 a1_0, .int .i64 a1_1, .string a1_2] 48 (0, 0)) s17q22 hb); replace BK309 := aM (blk_below (g := gb309) (o := .cells #[.int .i64 ((rd_T105 l0 x9_1).f0.f0), .int .i64 ((rd_T105 l0 x9_1).f0.f1), .string ((rd_T105 l0 x9_1).f0.f2), .int .i64 ((rd_T105 l0 x9_1).f1.f0), .int .i64 ((rd_T105 l0 x9_1).f1.f1), .string ((rd_T105 l0 x9_1).f1.f2), .int .i64 ((rd_T105 l0 x9_1).f2), .int .i64 ((rd_T105 l0 x9_1).f3)] 105 (0, 0)) s17q23 hb); replace HB := aM (below_step s17q19 hb); (try clear hb); (try clear hb2); (try clear hk); (try clear hi)))
  first | go_roundg k1 | (refine Handed.intro k1 ?measure ?_; rotate_left; go_step; (repeat apply Exists.intro); simp only [add_plain]; refine ⟨?rel, rfl⟩)
  case measure => have := HK1.out; omega
  case rel => exact ⟨(wrap64 (x9_1 + 1)), q4_, H', ⟨by have := HK1.out; omega⟩, ⟨blkR BK307.out⟩, ⟨s17q19⟩⟩
 subst c8
 have H1 : (if ((rd_T105 l0 x9_1).f3) = 0 then (none) else (some (mx 1 (wrap64 (Int.tdiv ((rd_T105 l0 x9_1).f2) ((rd_T105 l0 x9_1).f3)))))) = some r := by rw [if_pos rfl] at H; exact H
 clear H
 have H := H1
 clear H1
 by_cases c9 : ((rd_T105 l0 x9_1).f3) = 0
 · rw [if_pos c9] at H
   exact absurd H (by simp)
 rw [if_neg c9] at H
 have c9b0 : (((rd_T105 l0 x9_1).f3) == 0) = false := beq_eq_false_iff_ne.mpr c9
 have c9b1 : (((rd_T105 l0 x9_1).f3) != 0) = true := bne_iff_ne.mpr c9
 obtain ⟨ji10, hji10⟩ : ∃ j_ : Int, (mx 1 (wrap64 (Int.tdiv ((rd_T105 l0 x9_1).f2) ((rd_T105 l0 x9_1).f3)))) = j_ := ⟨_, rfl⟩
 replace H : (some ji10) = some r := by first | (rw [hji10] at H; exact H) | (simp only [hji10] at H ⊢; exact H)
 (try rw [hji10] at A7)
 have hji10_ : (if 1 < (wrap64 (Int.tdiv ((rd_T105 l0 x9_1).f2) ((rd_T105 l0 x9_1).f3))) then (wrap64 (Int.tdiv ((rd_T105 l0 x9_1).f2) ((rd_T105 l0 x9_1).f3))) else 1) = ji10 := hji10
 obtain rfl := Option.some.inj H
 have p308 : 0 ≤ (x9_1 : Int) := of_decide_eq_true q3_
 have q308 : x9_1 < (l0.length : Int) := of_decide_eq_true q3_
 obtain ⟨ad308, e308, hx308_0, hx308_1, hx308_2, hx308_3, hx308_4, hx308_5, hx308_6, hx308_7⟩ := at_T105 HR0.out x9_1 p308 q308
 cases e308
 replace hx308_0 := up_ HB.out hx308_0
 replace hx308_1 := up_ HB.out hx308_1
 replace hx308_2 := up_ HB.out hx308_2
 replace hx308_3 := up_ HB.out hx308_3
 replace hx308_4 := up_ HB.out hx308_4
 replace hx308_5 := up_ HB.out hx308_5
 replace hx308_6 := up_ HB.out hx308_6
 replace hx308_7 := up_ HB.out hx308_7
 replace p308 := eq_true p308
 replace q308 := eq_true q308
 go_wp2_with (first | ((with_reducible refine gate_dst (N := 6) rfl ?_); refine box_event ?hg (N := 6) ?hd (cs := #[.int .i64 0, .int .i64 0, .string (⟨#[]⟩ : ByteArray), .int .i64 0, .int .i64 0, .string (⟨#[]⟩ : ByteArray), .int .i64 0, .int .i64 0]) (t := 105) ?hr ?_; (case hd => rfl); (case hg => rfl); (case hr => first | (go_simp; done) | (go_simp; rfl)); intro gb309 hg w11 hbox hb; have BK309 := aM hbox; have GW309 := aM (s17q27 : w.heap.size ≤ gb309); have GE309 := GW309; have NB307_309 := aM (s17q33 : gb307 ≠ gb309); have NB309_307 := aM (s17q31 : gb309 ≠ gb307); replace BK307 := aM (bbR BK307.out hb); replace HB := aM (below_step s17q15 hb); clear hb hbox hg; have hnb12 := NB309_307.out; have hnc12 := NB307_309.out; obtain ⟨hcz13_0, hcz13_1, hcz13_2, hcz13_3, hcz13_4, hcz13_5, hcz13_6, hcz13_7, hfz13_0, hfz13_1, hfz13_2, hfz13_3, hfz13_4, hfz13_5, hfz13_6, hfz13_7⟩ := cells8 BK309.out; obtain ⟨hcz14_0, hcz14_1, hcz14_2, hfz14_0, hfz14_1, hfz14_2⟩ := cells3 BK307.out) | ((with_reducible refine gate_callee (f := 98) rfl ?_); refine goesL_ (some 15) rfl rfl Tryd.func98 q5_ rfl #[.agg #[.int .i64 ((rd_T105 l0 x9_1).f0.f0), .int .i64 ((rd_T105 l0 x9_1).f0.f1), .string ((rd_T105 l0 x9_1).f0.f2), .int .i64 ((rd_T105 l0 x9_1).f1.f0), .int .i64 ((rd_T105 l0 x9_1).f1.f1), .string ((rd_T105 l0 x9_1).f1.f2), .int .i64 ((rd_T105 l0 x9_1).f2), .int .i64 ((rd_T105 l0 x9_1).f3)], .agg #[.int .i64 a1_0, .int .i64 a1_1, .string a1_2]] rfl q2_ ?_; (with_reducible refine (peristyleref10_holds.calls k1 ((rd_T105 l0 x9_1).f0.f0) ((rd_T105 l0 x9_1).f0.f1) ((rd_T105 l0 x9_1).f0.f2) ((rd_T105 l0 x9_1).f1.f0) ((rd_T105 l0 x9_1).f1.f1) ((rd_T105 l0 x9_1).f1.f2) ((rd_T105 l0 x9_1).f2) ((rd_T105 l0 x9_1).f3) a1_0 a1_1 a1_2 true _ A7.out).mono ?_); rintro e w15 ⟨rfl, hb⟩; refine ⟨_, rfl, ?_⟩; replace BK307 := aM (blk_below (g := gb307) (o := .cells #[.int .i64 a1_0, .int .i64 a1_1, .string a1_2] 48 (0, 0)) s17q22 hb); replace BK309 := aM (blk_below (g := gb309) (o := .cells #[.int .i64 ((rd_T105 l0 x9_1).f0.f0), .int .i64 ((rd_T105 l0 x9_1).f0.f1), .string ((rd_T105 l0 x9_1).f0.f2), .int .i64 ((rd_T105 l0 x9_1).f1.f0), .int .i64 ((rd_T105 l0 x9_1).f1.f1), .string ((rd_T105 l0 x9_1).f1.f2), .int .i64 ((rd_T105 l0 x9_1).f2), .int .i64 ((rd_T105 l0 x9_1).f3)] 105 (0, 0)) s17q23 hb); replace HB := aM (below_step s17q19 hb); (try clear hb); (try clear hb2); (try clear hk); (try clear hi); obtain ⟨hcz16_0, hcz16_1, hcz16_2, hcz16_3, hcz16_4, hcz16_5, hcz16_6, hcz16_7, hfz16_0, hfz16_1, hfz16_2, hfz16_3, hfz16_4, hfz16_5, hfz16_6, hfz16_7⟩ := cells8 BK309.out))
 go_ret
 exact ⟨by first | rfl | (simp [errW_none, errW_some] <;> rfl) | (simp only [← hji10]; first | rfl | (simp [errW_none, errW_some] <;> rfl)) | (simp [*, errW_none, errW_some] <;> rfl), s17q19⟩
/-! ### peristyleref10_equalRows: function 61 -/
def peristyleref10_equalRows.f (k : Nat) (a0_0 : Int) (a0_1 : Int) (l0_2 : List (S100)) (l0_3 : List (S105)) (a1_0 : Int) (a1_1 : Int) (a1_2 : ByteArray) : Option (Int) := (peristyleref10_oftenOf.f k l0_2 a1_0 a1_1 a1_2).bind fun bt313 => (if bt313.2 = true then (some bt313.1) else ((peristyleref10_inBuckets.f k l0_3 a1_0 a1_1 a1_2).bind fun t315 => (some t315)))
theorem peristyleref10_equalRows.mono : ∀ a0 a1 a2 a3 a4 a5 a6 k, LeO (peristyleref10_equalRows.f k a0 a1 a2 a3 a4 a5 a6) (peristyleref10_equalRows.f (k + 1) a0 a1 a2 a3 a4 a5 a6) := by
 intro a0 a1 a2 a3 a4 a5 a6 k
 unfold peristyleref10_equalRows.f
 repeat' first
  | (with_reducible exact peristyleref10_inBuckets.mono _ _ _ _ _)
  | (with_reducible exact peristyleref10_oftenOf.mono _ _ _ _ _)
  | (with_reducible exact LeO.refl _)
  | (with_reducible exact LeO.none _)
  | (with_reducible refine LeO.ite ?_ ?_)
  | (with_reducible refine LeO.bind ?_ (fun _ => ?_))
  | exact peristyleref10_inBuckets.mono _ _ _ _ _
  | exact peristyleref10_oftenOf.mono _ _ _ _ _
  | exact LeO.none _
  | refine LeO.ite ?_ ?_
  | refine LeO.bind ?_ (fun _ => ?_)
set_option maxHeartbeats 8000000 in
set_option maxRecDepth 100000 in
theorem peristyleref10_equalRows.calls (k : Nat) (a0_0 : Int) (a0_1 : Int) (A0_2 : Option Addr) (c0_2 : Nat) (l0_2 : List (S100)) (A0_3 : Option Addr) (c0_3 : Nat) (l0_3 : List (S105)) (a1_0 : Int) (a1_1 : Int) (a1_2 : ByteArray) (r : Int) (w : World) (hr0_2 : Kd.C k100 w A0_2 l0_2.length l0_2) (hc0_2 : l0_2.length ≤ c0_2) (hr0_3 : Kd.C k105 w A0_3 l0_3.length l0_3) (hc0_3 : l0_3.length ≤ c0_3) (h : peristyleref10_equalRows.f k a0_0 a0_1 l0_2 l0_3 a1_0 a1_1 a1_2 = some r) :
    Calls Tryd.prog 61 #[.agg #[.int .i64 a0_0, .int .i64 a0_1, .slice A0_2 l0_2.length c0_2, .slice A0_3 l0_3.length c0_3], .agg #[.int .i64 a1_0, .int .i64 a1_1, .string a1_2]] w fun e w' => e = .returned (.int .i64 r) ∧ Below w.heap.size w w' := by
 have hu44 := Tryd.underlying44
 have hu48 := Tryd.underlying48
 have HR0_2 := aM hr0_2
 have HC0_2 := aM hc0_2
 clear hr0_2 hc0_2
 have HR0_3 := aM hr0_3
 have HC0_3 := aM hc0_3
 clear hr0_3 hc0_3
 have HB := aM (Below.refl w.heap.size w)
 have H : ((peristyleref10_oftenOf.f k l0_2 a1_0 a1_1 a1_2).bind fun bt313 => (if bt313.2 = true then (some bt313.1) else ((peristyleref10_inBuckets.f k l0_3 a1_0 a1_1 a1_2).bind fun t315 => (some t315)))) = some r := h
 clear h
 replace H := Option.bind_eq_some_iff.mp H
 obtain ⟨⟨t313, t314⟩, A30, H⟩ := H
 replace H : (if t314 = true then (some t313) else ((peristyleref10_inBuckets.f k l0_3 a1_0 a1_1 a1_2).bind fun t315 => (some t315))) = some r := H
 have A3 := aM A30
 clear A30
 by_cases c4 : t314 = true
 · subst c4
   have H1 : (some t313) = some r := by rw [if_pos rfl] at H; exact H
   clear H
   have H := H1
   clear H1
   obtain rfl := Option.some.inj H
   go_enter Tryd.func61, Tryd.ntmps61
   go_wp2_with (first | ((with_reducible refine gate_dst (N := 2) rfl ?_); refine box_event ?hg (N := 2) ?hd (cs := #[.int .i64 a0_0, .int .i64 a0_1, .slice A0_2 l0_2.length c0_2, .slice A0_3 l0_3.length c0_3]) (t := 44) ?hr ?_; (case hd => rfl); (case hg => rfl); (case hr => first | (go_simp; done) | (go_simp; rfl)); intro gb311 hg w5 hbox hb; have BK311 := aM hbox; have GW311 := aM (s17q24 : w.heap.size ≤ gb311); have GE311 := GW311; replace HB := aM (below_step q1_ hb); clear hb hbox hg) | ((with_reducible refine gate_dst (N := 3) rfl ?_); refine box_event ?hg (N := 3) ?hd (cs := #[.int .i64 a1_0, .int .i64 a1_1, .string a1_2]) (t := 48) ?hr ?_; (case hd => rfl); (case hg => rfl); (case hr => first | (go_simp; done) | (go_simp; rfl)); intro gb312 hg w6 hbox hb; have BK312 := aM hbox; have GW312 := aM (s17q28 : w.heap.size ≤ gb312); have GE312 := GW312; have NB311_312 := aM (s17q35 : gb311 ≠ gb312); have NB312_311 := aM (s17q34 : gb312 ≠ gb311); replace BK311 := aM (bbR BK311.out hb); replace HB := aM (below_step s17q16 hb); clear hb hbox hg; have hnb7 := NB311_312.out; have hnc7 := NB312_311.out; obtain ⟨hcz8_0, hcz8_1, hcz8_2, hcz8_3, hfz8_0, hfz8_1, hfz8_2, hfz8_3⟩ := cells4 BK311.out; obtain ⟨hcz9_0, hcz9_1, hcz9_2, hfz9_0, hfz9_1, hfz9_2⟩ := cells3 BK312.out) | ((with_reducible refine gate_callee (f := 62) rfl ?_); refine goesL_ (some 11) rfl rfl Tryd.func62 q5_ rfl #[.slice A0_2 l0_2.length c0_2, .agg #[.int .i64 a1_0, .int .i64 a1_1, .string a1_2]] rfl q2_ ?_; (with_reducible refine (peristyleref10_oftenOf.calls k _ _ l0_2 a1_0 a1_1 a1_2 t313 true _ ?side1 ?side2 A3.out).mono ?_); (case side1 => repeat (first | exact (Kd.C_below HR0_2.out HB.out) | (with_reducible refine Kd.C_alloc ?_ _) | (with_reducible refine Kd.C_drewN ?_ _) | (with_reducible refine Kd.C_drew ?_))); (case side2 => exact HC0_2.out); rintro e w10 ⟨rfl, hb⟩; refine ⟨_, rfl, ?_⟩; replace BK311 := aM (bbR BK311.out hb); replace BK312 := aM (bbR BK312.out hb); replace HB := aM (below_step s17q20 hb); (try clear hb); (try clear hb2); (try clear hk); (try clear hi)))
   go_ret
   exact ⟨eqR, s17q20⟩
 replace c4 := Bool.eq_false_iff.mpr c4
 subst c4
 have H1 : ((peristyleref10_inBuckets.f k l0_3 a1_0 a1_1 a1_2).bind fun t315 => (some t315)) = some r := q6_
 clear H
 have H := H1
 clear H1
 replace H := Option.bind_eq_some_iff.mp H
 obtain ⟨t315, A110, H⟩ := H
 replace H : (some t315) = some r := H
 have A11 := aM A110
 clear A110
 obtain rfl := Option.some.inj H
 go_enter Tryd.func61, Tryd.ntmps61
 go_wp2_with (first | ((with_reducible refine gate_dst (N := 2) rfl ?_); refine box_event ?hg (N := 2) ?hd (cs := #[.int .i64 a0_0, .int .i64 a0_1, .slice A0_2 l0_2.length c0_2, .slice A0_3 l0_3.length c0_3]) (t := 44) ?hr ?_; (case hd => rfl); (case hg => rfl); (case hr => first | (go_simp; done) | (go_simp; rfl)); intro gb311 hg w12 hbox hb; have BK311 := aM hbox; have GW311 := aM (s17q24 : w.heap.size ≤ gb311); have GE311 := GW311; replace HB := aM (below_step q1_ hb); clear hb hbox hg) | ((with_reducible refine gate_dst (N := 3) rfl ?_); refine box_event ?hg (N := 3) ?hd (cs := #[.int .i64 a1_0, .int .i64 a1_1, .string a1_2]) (t := 48) ?hr ?_; (case hd => rfl); (case hg => rfl); (case hr => first | (go_simp; done) | (go_simp; rfl)); intro gb312 hg w13 hbox hb; have BK312 := aM hbox; have GW312 := aM (s17q28 : w.heap.size ≤ gb312); have GE312 := GW312; have NB311_312 := aM (s17q35 : gb311 ≠ gb312); have NB312_311 := aM (s17q34 : gb312 ≠ gb311); replace BK311 := aM (bbR BK311.out hb); replace HB := aM (below_step s17q16 hb); clear hb hbox hg; have hnb14 := NB311_312.out; have hnc14 := NB312_311.out; obtain ⟨hcz15_0, hcz15_1, hcz15_2, hcz15_3, hfz15_0, hfz15_1, hfz15_2, hfz15_3⟩ := cells4 BK311.out; obtain ⟨hcz16_0, hcz16_1, hcz16_2, hfz16_0, hfz16_1, hfz16_2⟩ := cells3 BK312.out) | ((with_reducible refine gate_callee (f := 62) rfl ?_); refine goesL_ (some 11) rfl rfl Tryd.func62 q5_ rfl #[.slice A0_2 l0_2.length c0_2, .agg #[.int .i64 a1_0, .int .i64 a1_1, .string a1_2]] rfl q2_ ?_; (with_reducible refine (peristyleref10_oftenOf.calls k _ _ l0_2 a1_0 a1_1 a1_2 t313 false _ ?side1 ?side2 A3.out).mono ?_); (case side1 => repeat (first | exact (Kd.C_below HR0_2.out HB.out) | (with_reducible refine Kd.C_alloc ?_ _) | (with_reducible refine Kd.C_drewN ?_ _) | (with_reducible refine Kd.C_drew ?_))); (case side2 => exact HC0_2.out); rintro e w17 ⟨rfl, hb⟩; refine ⟨_, rfl, ?_⟩; replace BK311 := aM (bbR BK311.out hb); replace BK312 := aM (bbR BK312.out hb); replace HB := aM (below_step s17q20 hb); (try clear hb); (try clear hb2); (try clear hk); (try clear hi); obtain ⟨hcz18_0, hcz18_1, hcz18_2, hcz18_3, hfz18_0, hfz18_1, hfz18_2, hfz18_3⟩ := cells4 BK311.out; obtain ⟨hcz19_0, hcz19_1, hcz19_2, hfz19_0, hfz19_1, hfz19_2⟩ := cells3 BK312.out) | ((with_reducible refine gate_callee (f := 63) rfl ?_); refine goesL_ (some 19) rfl rfl Tryd.func63 q5_ rfl #[.slice A0_3 l0_3.length c0_3, .agg #[.int .i64 a1_0, .int .i64 a1_1, .string a1_2]] rfl q2_ ?_; (with_reducible refine (peristyleref10_inBuckets.calls k _ _ l0_3 a1_0 a1_1 a1_2 t315 _ ?side1 ?side2 A11.out).mono ?_); (case side1 => repeat (first | exact (Kd.C_below HR0_3.out HB.out) | (with_reducible refine Kd.C_alloc ?_ _) | (with_reducible refine Kd.C_drewN ?_ _) | (with_reducible refine Kd.C_drew ?_))); (case side2 => exact HC0_3.out); rintro e w20 ⟨rfl, hb⟩; refine ⟨_, rfl, ?_⟩; replace BK311 := aM (bbR BK311.out hb); replace BK312 := aM (bbR BK312.out hb); replace HB := aM (below_step s17q20 hb); (try clear hb); (try clear hb2); (try clear hk); (try clear hi)))
 go_ret
 exact ⟨eqR, s17q20⟩
/-! ### peristyleref10_common: function 64 -/
def peristyleref10_common.f (k : Nat) (a0_0 : Int) (a0_1 : Int) (a0_2 : ByteArray) (a0_3 : Int) (a0_4 : Int) (a0_5 : ByteArray) (a0_6 : Int) (a0_7 : Int) (a1_0 : Int) (a1_1 : Int) (a1_2 : ByteArray) (a1_3 : Int) (a1_4 : Int) (a1_5 : ByteArray) (a1_6 : Int) (a1_7 : Int) : Option (Bool) := (peristyleref10_order.f k a0_0 a0_1 a0_2 a1_3 a1_4 a1_5).bind fun t318 => (if t318 ≤ 0 then ((peristyleref10_order.f k a1_0 a1_1 a1_2 a0_3 a0_4 a0_5).bind fun t319 => (some (decide (t319 ≤ 0)))) else (some false))
theorem peristyleref10_common.mono : ∀ a0 a1 a2 a3 a4 a5 a6 a7 a8 a9 a10 a11 a12 a13 a14 a15 k, LeO (peristyleref10_common.f k a0 a1 a2 a3 a4 a5 a6 a7 a8 a9 a10 a11 a12 a13 a14 a15) (peristyleref10_common.f (k + 1) a0 a1 a2 a3 a4 a5 a6 a7 a8 a9 a10 a11 a12 a13 a14 a15) := by
 intro a0 a1 a2 a3 a4 a5 a6 a7 a8 a9 a10 a11 a12 a13 a14 a15 k
 unfold peristyleref10_common.f
 repeat' first
  | (with_reducible exact peristyleref10_order.mono _ _ _ _ _ _ _)
  | (with_reducible exact LeO.refl _)
  | (with_reducible exact LeO.none _)
  | (with_reducible refine LeO.ite ?_ ?_)
  | (with_reducible refine LeO.bind ?_ (fun _ => ?_))
  | exact peristyleref10_order.mono _ _ _ _ _ _ _
  | exact LeO.none _
  | refine LeO.ite ?_ ?_
  | refine LeO.bind ?_ (fun _ => ?_)
set_option maxHeartbeats 8000000 in
set_option maxRecDepth 100000 in
theorem peristyleref10_common.calls (k : Nat) (a0_0 : Int) (a0_1 : Int) (a0_2 : ByteArray) (a0_3 : Int) (a0_4 : Int) (a0_5 : ByteArray) (a0_6 : Int) (a0_7 : Int) (a1_0 : Int) (a1_1 : Int) (a1_2 : ByteArray) (a1_3 : Int) (a1_4 : Int) (a1_5 : ByteArray) (a1_6 : Int) (a1_7 : Int) (r : Bool) (w : World) (h : peristyleref10_common.f k a0_0 a0_1 a0_2 a0_3 a0_4 a0_5 a0_6 a0_7 a1_0 a1_1 a1_2 a1_3 a1_4 a1_5 a1_6 a1_7 = some r) :
    Calls Tryd.prog 64 #[.agg #[.int .i64 a0_0, .int .i64 a0_1, .string a0_2, .int .i64 a0_3, .int .i64 a0_4, .string a0_5, .int .i64 a0_6, .int .i64 a0_7], .agg #[.int .i64 a1_0, .int .i64 a1_1, .string a1_2, .int .i64 a1_3, .int .i64 a1_4, .string a1_5, .int .i64 a1_6, .int .i64 a1_7]] w fun e w' => e = .returned (.bool r) ∧ Below w.heap.size w w' := by
 have hu105 := Tryd.underlying105
 have hu48 := Tryd.underlying48
 have HB := aM (Below.refl w.heap.size w)
 have H : ((peristyleref10_order.f k a0_0 a0_1 a0_2 a1_3 a1_4 a1_5).bind fun t318 => (if t318 ≤ 0 then ((peristyleref10_order.f k a1_0 a1_1 a1_2 a0_3 a0_4 a0_5).bind fun t319 => (some (decide (t319 ≤ 0)))) else (some false))) = some r := h
 clear h
 replace H := Option.bind_eq_some_iff.mp H
 obtain ⟨t318, A30, H⟩ := H
 replace H : (if t318 ≤ 0 then ((peristyleref10_order.f k a1_0 a1_1 a1_2 a0_3 a0_4 a0_5).bind fun t319 => (some (decide (t319 ≤ 0)))) else (some false)) = some r := H
 have A3 := aM A30
 clear A30
 by_cases c4 : t318 ≤ 0
 case neg =>
  rw [if_neg c4] at H
  have c4b0 : decide (t318 ≤ 0) = false := decide_eq_false c4
  clear c4
  obtain rfl := Option.some.inj H
  go_enter Tryd.func64, Tryd.ntmps64
  go_wp2_with (first | ((with_reducible refine gate_dst (N := 2) rfl ?_); refine box_event ?hg (N := 2) ?hd (cs := #[.int .i64 a0_0, .int .i64 a0_1, .string a0_2, .int .i64 a0_3, .int .i64 a0_4, .string a0_5, .int .i64 a0_6, .int .i64 a0_7]) (t := 105) ?hr ?_; (case hd => rfl); (case hg => rfl); (case hr => first | (go_simp; done) | (go_simp; rfl)); intro gb316 hg w15 hbox hb; have BK316 := aM hbox; have GW316 := aM (s17q24 : w.heap.size ≤ gb316); have GE316 := GW316; replace HB := aM (below_step q1_ hb); clear hb hbox hg) | ((with_reducible refine gate_dst (N := 3) rfl ?_); refine box_event ?hg (N := 3) ?hd (cs := #[.int .i64 a1_0, .int .i64 a1_1, .string a1_2, .int .i64 a1_3, .int .i64 a1_4, .string a1_5, .int .i64 a1_6, .int .i64 a1_7]) (t := 105) ?hr ?_; (case hd => rfl); (case hg => rfl); (case hr => first | (go_simp; done) | (go_simp; rfl)); intro gb317 hg w16 hbox hb; have BK317 := aM hbox; have GW317 := aM (s17q29 : w.heap.size ≤ gb317); have GE317 := GW317; have NB316_317 := aM (s17q39 : gb316 ≠ gb317); have NB317_316 := aM (s17q37 : gb317 ≠ gb316); replace BK316 := aM (bbR BK316.out hb); replace HB := aM (below_step s17q17 hb); clear hb hbox hg; have hnb17 := NB316_317.out; have hnc17 := NB317_316.out; obtain ⟨hcz18_0, hcz18_1, hcz18_2, hcz18_3, hcz18_4, hcz18_5, hcz18_6, hcz18_7, hfz18_0, hfz18_1, hfz18_2, hfz18_3, hfz18_4, hfz18_5, hfz18_6, hfz18_7⟩ := cells8 BK316.out; obtain ⟨hcz19_0, hcz19_1, hcz19_2, hcz19_3, hcz19_4, hcz19_5, hcz19_6, hcz19_7, hfz19_0, hfz19_1, hfz19_2, hfz19_3, hfz19_4, hfz19_5, hfz19_6, hfz19_7⟩ := cells8 BK317.out) | ((with_reducible refine gate_callee (f := 86) rfl ?_); refine goesL_ (some 9) rfl rfl Tryd.func86 q5_ rfl #[.agg #[.int .i64 a0_0, .int .i64 a0_1, .string a0_2], .agg #[.int .i64 a1_3, .int .i64 a1_4, .string a1_5]] rfl q2_ ?_; (with_reducible refine (peristyleref10_order.calls k a0_0 a0_1 a0_2 a1_3 a1_4 a1_5 t318 _ A3.out).mono ?_); rintro e w20 ⟨rfl, hb⟩; refine ⟨_, rfl, ?_⟩; replace BK316 := aM (bbR BK316.out hb); replace BK317 := aM (bbR BK317.out hb); replace HB := aM (below_step s17q21 hb); (try clear hb); (try clear hb2); (try clear hk); (try clear hi)))
  go_ret
  exact ⟨eqR, s17q21⟩
 rw [if_pos c4] at H
 have c4b0 : decide (t318 ≤ 0) = true := decide_eq_true c4
 clear c4
 replace H := Option.bind_eq_some_iff.mp H
 obtain ⟨t319, A50, H⟩ := H
 replace H : (some (decide (t319 ≤ 0))) = some r := H
 have A5 := aM A50
 clear A50
 obtain rfl := Option.some.inj H
 go_enter Tryd.func64, Tryd.ntmps64
 go_wp2_with (first | ((with_reducible refine gate_dst (N := 2) rfl ?_); refine box_event ?hg (N := 2) ?hd (cs := #[.int .i64 a0_0, .int .i64 a0_1, .string a0_2, .int .i64 a0_3, .int .i64 a0_4, .string a0_5, .int .i64 a0_6, .int .i64 a0_7]) (t := 105) ?hr ?_; (case hd => rfl); (case hg => rfl); (case hr => first | (go_simp; done) | (go_simp; rfl)); intro gb316 hg w6 hbox hb; have BK316 := aM hbox; have GW316 := aM (s17q24 : w.heap.size ≤ gb316); have GE316 := GW316; replace HB := aM (below_step q1_ hb); clear hb hbox hg) | ((with_reducible refine gate_dst (N := 3) rfl ?_); refine box_event ?hg (N := 3) ?hd (cs := #[.int .i64 a1_0, .int .i64 a1_1, .string a1_2, .int .i64 a1_3, .int .i64 a1_4, .string a1_5, .int .i64 a1_6, .int .i64 a1_7]) (t := 105) ?hr ?_; (case hd => rfl); (case hg => rfl); (case hr => first | (go_simp; done) | (go_simp; rfl)); intro gb317 hg w7 hbox hb; have BK317 := aM hbox; have GW317 := aM (s17q29 : w.heap.size ≤ gb317); have GE317 := GW317; have NB316_317 := aM (s17q39 : gb316 ≠ gb317); have NB317_316 := aM (s17q37 : gb317 ≠ gb316); replace BK316 := aM (bbR BK316.out hb); replace HB := aM (below_step s17q17 hb); clear hb hbox hg; have hnb8 := NB316_317.out; have hnc8 := NB317_316.out; obtain ⟨hcz9_0, hcz9_1, hcz9_2, hcz9_3, hcz9_4, hcz9_5, hcz9_6, hcz9_7, hfz9_0, hfz9_1, hfz9_2, hfz9_3, hfz9_4, hfz9_5, hfz9_6, hfz9_7⟩ := cells8 BK316.out; obtain ⟨hcz10_0, hcz10_1, hcz10_2, hcz10_3, hcz10_4, hcz10_5, hcz10_6, hcz10_7, hfz10_0, hfz10_1, hfz10_2, hfz10_3, hfz10_4, hfz10_5, hfz10_6, hfz10_7⟩ := cells8 BK317.out) | ((with_reducible refine gate_callee (f := 86) rfl ?_); refine goesL_ (some 9) rfl rfl Tryd.func86 q5_ rfl #[.agg #[.int .i64 a0_0, .int .i64 a0_1, .string a0_2], .agg #[.int .i64 a1_3, .int .i64 a1_4, .string a1_5]] rfl q2_ ?_; (with_reducible refine (peristyleref10_order.calls k a0_0 a0_1 a0_2 a1_3 a1_4 a1_5 t318 _ A3.out).mono ?_); rintro e w11 ⟨rfl, hb⟩; refine ⟨_, rfl, ?_⟩; replace BK316 := aM (bbR BK316.out hb); replace BK317 := aM (bbR BK317.out hb); replace HB := aM (below_step s17q21 hb); (try clear hb); (try clear hb2); (try clear hk); (try clear hi); obtain ⟨hcz12_0, hcz12_1, hcz12_2, hcz12_3, hcz12_4, hcz12_5, hcz12_6, hcz12_7, hfz12_0, hfz12_1, hfz12_2, hfz12_3, hfz12_4, hfz12_5, hfz12_6, hfz12_7⟩ := cells8 BK317.out; obtain ⟨hcz13_0, hcz13_1, hcz13_2, hcz13_3, hcz13_4, hcz13_5, hcz13_6, hcz13_7, hfz13_0, hfz13_1, hfz13_2, hfz13_3, hfz13_4, hfz13_5, hfz13_6, hfz13_7⟩ := cells8 BK316.out) | (go_at_call 86; (with_reducible refine (peristyleref10_order.calls k a1_0 a1_1 a1_2 a0_3 a0_4 a0_5 t319 _ A5.out).mono ?_); rintro e w14 ⟨rfl, hb⟩; replace BK316 := aM (bbR BK316.out hb); replace BK317 := aM (bbR BK317.out hb); replace HB := aM (below_step s17q21 hb); (try clear hb); (try clear hb2); (try clear hk); (try clear hi)))
 go_ret
 exact ⟨eqR, s17q21⟩
end Go.Proofs.YtgcijejmmhjibaaDoor.J
