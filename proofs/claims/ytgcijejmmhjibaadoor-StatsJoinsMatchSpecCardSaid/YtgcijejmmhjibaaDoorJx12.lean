-- Printed by a program of this session (a patched print).
import Derived.Test.YtgcijejmmhjibaaDoorJx0
import Derived.Test.YtgcijejmmhjibaaDoorJx11
namespace Go.Proofs.YtgcijejmmhjibaaDoor.J
open Go.RowKit Go.Proofs.YtgcijejmmhjibaaDoorW.PrintWords Go.Proofs.YtgcijejmmhjibaaDoorW.PrintLast Go.Proofs.YtgcijejmmhjibaaDoorW.PrintMore
attribute [local go_sem] max2_int min2_int max_two min_two max_three min_three max_four min_four   -- for this text's walks alone
set_option linter.unusedVariables false
set_option linter.unusedSimpArgs false

theorem s12z0 {p : Prop} (h : p := by repeat (first | (with_reducible first | exact HB.out | apply below_alloc | apply pw_below_drewN | apply below_drew1 | refine below_set ?_ GE254.out) | exact HB.out)) : p := h
theorem s12qm0 {p : Prop} (h : p := by repeat' first | (with_reducible exact ih0 _ _ _ _) | (with_reducible exact ih1 _ _ _ _) | (with_reducible exact ih2 _ _ _ _) | (with_reducible exact LeO.refl _) | (with_reducible exact LeO.none _) | (with_reducible refine LeO.ite ?_ ?_) | (with_reducible refine LeO.bind ?_ (fun _ => ?_)) | exact ih0 _ _ _ _ | exact ih1 _ _ _ _ | exact ih2 _ _ _ _ | exact LeO.none _ | refine LeO.ite ?_ ?_ | refine LeO.bind ?_ (fun _ => ?_)) : p := h
theorem s12q2 {p : Prop} (h : p := by first | rfl | (simp; done) | (simp [*]; done) | (simp [bne_nil_]; done)) : p := h
theorem s12q5 {p : Prop} (h : p := by rw [hg]; exact (below_size q1_)) : p := h
/-! ### peristyleref1_CheckValue: function 100 -/
mutual
def peristyleref1_CheckValue.j0 : Nat → Bool → Int → Int → ByteArray → Option (Int)
  | 0, _, _, _, _ => none
  | k + 1, x30, x255000, x255001, x255002 => if x30 = true then (some 3) else (if x255000 = 1 then ((peristyleref1_within.f x255001 0 1).bind fun t256 => (if t256 = true then (if x255000 = 2 then ((peristyleref1_within.f x255001 (-1000000000000000) 1000000000000000).bind fun t257 => (peristyleref1_CheckValue.j1 k (!t257) x255000 x255001 x255002)) else (peristyleref1_CheckValue.j1 k false x255000 x255001 x255002)) else (peristyleref1_CheckValue.j1 k true x255000 x255001 x255002))) else (if x255000 = 2 then ((peristyleref1_within.f x255001 (-1000000000000000) 1000000000000000).bind fun t258 => (peristyleref1_CheckValue.j1 k (!t258) x255000 x255001 x255002)) else (peristyleref1_CheckValue.j1 k false x255000 x255001 x255002)))
def peristyleref1_CheckValue.j1 : Nat → Bool → Int → Int → ByteArray → Option (Int)
  | 0, _, _, _, _ => none
  | k + 1, x50, x255000, x255001, x255002 => if x50 = true then (some 1) else (if (x255002.size : Int) > 200 then (some 2) else (peristyleref1_CheckValue.l0 k 0 x255000 x255001 x255002))
def peristyleref1_CheckValue.l0 : Nat → Int → Int → Int → ByteArray → Option (Int)
  | 0, _, _, _, _ => none
  | k + 1, x3, x255000, x255001, x255002 => if x3 < (x255002.size : Int) then (if 0 ≤ x3 then (if (bt x255002 x3) < 32 then (some 3) else (if (bt x255002 x3) > 126 then (some 3) else (peristyleref1_CheckValue.l0 k (wrap64 (x3 + 1)) x255000 x255001 x255002))) else (none)) else (some 0)
end
def peristyleref1_CheckValue.f (k : Nat) (a0_0 : Int) (a0_1 : Int) (a0_2 : ByteArray) : Option (Int) := (peristyleref1_within.f a0_0 0 3).bind fun t255 => (if t255 = true then (if a0_0 = 1 then (if a0_0 = 3 then (peristyleref1_CheckValue.j0 k false a0_0 a0_1 a0_2) else (peristyleref1_CheckValue.j0 k (a0_2.toList != ([] : List UInt8)) a0_0 a0_1 a0_2)) else (if a0_0 = 2 then (if a0_0 = 3 then (peristyleref1_CheckValue.j0 k false a0_0 a0_1 a0_2) else (peristyleref1_CheckValue.j0 k (a0_2.toList != ([] : List UInt8)) a0_0 a0_1 a0_2)) else (if a0_1 = 0 then (if a0_0 = 3 then (peristyleref1_CheckValue.j0 k false a0_0 a0_1 a0_2) else (peristyleref1_CheckValue.j0 k (a0_2.toList != ([] : List UInt8)) a0_0 a0_1 a0_2)) else (peristyleref1_CheckValue.j0 k true a0_0 a0_1 a0_2)))) else (some 4))
theorem peristyleref1_CheckValue.mono_l : ∀ k, (∀ y0 y1 y2 y3, LeO (peristyleref1_CheckValue.j0 k y0 y1 y2 y3) (peristyleref1_CheckValue.j0 (k + 1) y0 y1 y2 y3)) ∧ (∀ y0 y1 y2 y3, LeO (peristyleref1_CheckValue.j1 k y0 y1 y2 y3) (peristyleref1_CheckValue.j1 (k + 1) y0 y1 y2 y3)) ∧ (∀ y0 y1 y2 y3, LeO (peristyleref1_CheckValue.l0 k y0 y1 y2 y3) (peristyleref1_CheckValue.l0 (k + 1) y0 y1 y2 y3))
  | 0 => ⟨fun _ _ _ _ r h => by simp [peristyleref1_CheckValue.j0] at h, fun _ _ _ _ r h => by simp [peristyleref1_CheckValue.j1] at h, fun _ _ _ _ r h => by simp [peristyleref1_CheckValue.l0] at h⟩
  | k + 1 => by
    obtain ⟨ih0, ih1, ih2⟩ := peristyleref1_CheckValue.mono_l k
    refine ⟨?_, ?_, ?_⟩
    · intro y0 y1 y2 y3
      unfold peristyleref1_CheckValue.j0
      exact s12qm0
    · intro y0 y1 y2 y3
      unfold peristyleref1_CheckValue.j1
      exact s12qm0
    · intro y0 y1 y2 y3
      unfold peristyleref1_CheckValue.l0
      exact s12qm0
theorem peristyleref1_CheckValue.mono : ∀ a0 a1 a2 k, LeO (peristyleref1_CheckValue.f k a0 a1 a2) (peristyleref1_CheckValue.f (k + 1) a0 a1 a2) := by
 intro a0 a1 a2 k
 obtain ⟨ih0, ih1, ih2⟩ := peristyleref1_CheckValue.mono_l k
 unfold peristyleref1_CheckValue.f
 repeat' first
  | (with_reducible exact ih0 _ _ _ _)
  | (with_reducible exact ih1 _ _ _ _)
  | (with_reducible exact ih2 _ _ _ _)
  | (with_reducible exact LeO.refl _)
  | (with_reducible exact LeO.none _)
  | (with_reducible refine LeO.ite ?_ ?_)
  | (with_reducible refine LeO.bind ?_ (fun _ => ?_))
  | exact ih0 _ _ _ _
  | exact ih1 _ _ _ _
  | exact ih2 _ _ _ _
  | exact LeO.none _
  | refine LeO.ite ?_ ?_
  | refine LeO.bind ?_ (fun _ => ?_)
set_option maxHeartbeats 8000000 in
set_option maxRecDepth 100000 in
theorem peristyleref1_CheckValue.calls (k : Nat) (a0_0 : Int) (a0_1 : Int) (a0_2 : ByteArray) (r : Int) (w : World) (h : peristyleref1_CheckValue.f k a0_0 a0_1 a0_2 = some r) :
    Calls Tryd.prog 100 #[.agg #[.int .i64 a0_0, .int .i64 a0_1, .string a0_2]] w fun e w' => e = .returned (.int .i64 r) ∧ Below w.heap.size w w' := by
 have hu48 := Tryd.underlying48
 have HB := aM (Below.refl w.heap.size w)
 have H : ((peristyleref1_within.f a0_0 0 3).bind fun t255 => (if t255 = true then (if a0_0 = 1 then (if a0_0 = 3 then (peristyleref1_CheckValue.j0 k false a0_0 a0_1 a0_2) else (peristyleref1_CheckValue.j0 k (a0_2.toList != ([] : List UInt8)) a0_0 a0_1 a0_2)) else (if a0_0 = 2 then (if a0_0 = 3 then (peristyleref1_CheckValue.j0 k false a0_0 a0_1 a0_2) else (peristyleref1_CheckValue.j0 k (a0_2.toList != ([] : List UInt8)) a0_0 a0_1 a0_2)) else (if a0_1 = 0 then (if a0_0 = 3 then (peristyleref1_CheckValue.j0 k false a0_0 a0_1 a0_2) else (peristyleref1_CheckValue.j0 k (a0_2.toList != ([] : List UInt8)) a0_0 a0_1 a0_2)) else (peristyleref1_CheckValue.j0 k true a0_0 a0_1 a0_2)))) else (some 4))) = some r := h
 clear h
 replace H := Option.bind_eq_some_iff.mp H
 obtain ⟨t255, A20, H⟩ := H
 replace H : (if t255 = true then (if a0_0 = 1 then (if a0_0 = 3 then (peristyleref1_CheckValue.j0 k false a0_0 a0_1 a0_2) else (peristyleref1_CheckValue.j0 k (a0_2.toList != ([] : List UInt8)) a0_0 a0_1 a0_2)) else (if a0_0 = 2 then (if a0_0 = 3 then (peristyleref1_CheckValue.j0 k false a0_0 a0_1 a0_2) else (peristyleref1_CheckValue.j0 k (a0_2.toList != ([] : List UInt8)) a0_0 a0_1 a0_2)) else (if a0_1 = 0 then (if a0_0 = 3 then (peristyleref1_CheckValue.j0 k false a0_0 a0_1 a0_2) else (peristyleref1_CheckValue.j0 k (a0_2.toList != ([] : List UInt8)) a0_0 a0_1 a0_2)) else (peristyleref1_CheckValue.j0 k true a0_0 a0_1 a0_2)))) else (some 4)) = some r := H
 have A2 := aM A20
 clear A20
 by_cases c3 : t255 = true
 case neg =>
  replace c3 := Bool.eq_false_iff.mpr c3
  subst c3
  have H1 : (some 4) = some r := q6_
  clear H
  have H := H1
  clear H1
  obtain rfl := Option.some.inj H
  go_enter Tryd.func100, Tryd.ntmps100
  go_wp2_with (first | ((with_reducible refine gate_dst (N := 1) rfl ?_); refine box_event ?hg (N := 1) ?hd (cs := #[.int .i64 a0_0, .int .i64 a0_1, .string a0_2]) (t := 48) ?hr ?_; (case hd => rfl); (case hg => rfl); (case hr => first | (go_simp; done) | (go_simp; rfl)); intro gb254 hg w48 hbox hb; have BK254 := aM hbox; have GW254 := aM (s12q5 : w.heap.size ≤ gb254); have GE254 := GW254; replace HB := aM (below_step q1_ hb); clear hb hbox hg; obtain ⟨hcz49_0, hcz49_1, hcz49_2, hfz49_0, hfz49_1, hfz49_2⟩ := cells3 BK254.out) | ((with_reducible refine gate_callee (f := 124) rfl ?_); refine goesL_ (some 6) rfl rfl Tryd.func124 (by kernel_rfl) rfl #[.int .i64 a0_0, .int .i64 0, .int .i64 3] rfl q2_ ?_; (with_reducible refine (peristyleref1_within.calls a0_0 0 3 false _ A2.out).mono ?_); rintro e w' ⟨rfl, ⟨nd, rfl⟩⟩; refine ⟨_, rfl, ?_⟩))
  go_ret
  exact ⟨eqR, s12z0⟩
 subst c3
 have H1 : (if a0_0 = 1 then (if a0_0 = 3 then (peristyleref1_CheckValue.j0 k false a0_0 a0_1 a0_2) else (peristyleref1_CheckValue.j0 k (a0_2.toList != ([] : List UInt8)) a0_0 a0_1 a0_2)) else (if a0_0 = 2 then (if a0_0 = 3 then (peristyleref1_CheckValue.j0 k false a0_0 a0_1 a0_2) else (peristyleref1_CheckValue.j0 k (a0_2.toList != ([] : List UInt8)) a0_0 a0_1 a0_2)) else (if a0_1 = 0 then (if a0_0 = 3 then (peristyleref1_CheckValue.j0 k false a0_0 a0_1 a0_2) else (peristyleref1_CheckValue.j0 k (a0_2.toList != ([] : List UInt8)) a0_0 a0_1 a0_2)) else (peristyleref1_CheckValue.j0 k true a0_0 a0_1 a0_2)))) = some r := q7_
 clear H
 have H := H1
 clear H1
 have HC4 := aM H
 clear H
 go_enter Tryd.func100, Tryd.ntmps100
 go_upto_region 3 with (first | ((with_reducible refine gate_dst (N := 1) rfl ?_); refine box_event ?hg (N := 1) ?hd (cs := #[.int .i64 a0_0, .int .i64 a0_1, .string a0_2]) (t := 48) ?hr ?_; (case hd => rfl); (case hg => rfl); (case hr => first | (go_simp; done) | (go_simp; rfl)); intro gb254 hg w5 hbox hb; have BK254 := aM hbox; have GW254 := aM (s12q5 : w.heap.size ≤ gb254); have GE254 := GW254; replace HB := aM (below_step q1_ hb); clear hb hbox hg; obtain ⟨hcz6_0, hcz6_1, hcz6_2, hfz6_0, hfz6_1, hfz6_2⟩ := cells3 BK254.out) | ((with_reducible refine gate_callee (f := 124) rfl ?_); refine goesL_ (some 6) rfl rfl Tryd.func124 (by kernel_rfl) rfl #[.int .i64 a0_0, .int .i64 0, .int .i64 3] rfl q2_ ?_; (with_reducible refine (peristyleref1_within.calls a0_0 0 3 true _ A2.out).mono ?_); rintro e w' ⟨rfl, ⟨nd, rfl⟩⟩; refine ⟨_, rfl, ?_⟩))
 (try simp only [Act.put, sqa, sqb, sqc])
 go_cut [30] (fun v30 wc => ∃ (kq : Nat) (x30_3 : Bool), v30 = .bool x30_3 ∧ Aside0 (peristyleref1_CheckValue.j0 kq x30_3 a0_0 a0_1 a0_2 = some r) ∧ Aside0 (kq ≤ k) ∧ Aside0 (wc.heap[gb254]? = some (.cells #[.int .i64 a0_0, .int .i64 a0_1, .string a0_2] 48 (0, 0))) ∧ Aside0 (Below w.heap.size w wc))
 case first =>
  have H := HC4.out
  clear HC4
  by_cases c7 : a0_0 = 1
  · rw [if_pos c7] at H
    have c7b0 : (a0_0 == 1) = true := beq_iff_eq.mpr c7
    have c7b1 : (a0_0 != 1) = false := bne_eq_false_iff_eq.mpr c7
    clear c7
    (first | rw [c7b0] | (simp only [i64_w, i32_w]; rw [c7b0]) | skip)
    by_cases c8 : a0_0 = 3
    · rw [if_pos c8] at H
      have c8b0 : (a0_0 == 3) = true := beq_iff_eq.mpr c8
      have c8b1 : (a0_0 != 3) = false := bne_eq_false_iff_eq.mpr c8
      clear c8
      have H' := aM H
      clear H
      obtain ⟨hcz9_0, hcz9_1, hcz9_2, hfz9_0, hfz9_1, hfz9_2⟩ := cells3 BK254.out
      go_wp2
      go_meet
      case rel => exact ⟨_, (false), q4_, H', ⟨by first | omega | exact Nat.le_refl _⟩, ⟨blkR BK254.out⟩, ⟨s12z0⟩⟩
    rw [if_neg c8] at H
    have c8b0 : (a0_0 == 3) = false := beq_eq_false_iff_ne.mpr c8
    have c8b1 : (a0_0 != 3) = true := bne_iff_ne.mpr c8
    have H' := aM H
    clear H
    obtain ⟨hcz10_0, hcz10_1, hcz10_2, hfz10_0, hfz10_1, hfz10_2⟩ := cells3 BK254.out
    go_wp2
    go_meet
    case rel => exact ⟨_, ((a0_2.toList != ([] : List UInt8))), s12q2, H', ⟨by first | omega | exact Nat.le_refl _⟩, ⟨blkR BK254.out⟩, ⟨s12z0⟩⟩
  rw [if_neg c7] at H
  have c7b0 : (a0_0 == 1) = false := beq_eq_false_iff_ne.mpr c7
  have c7b1 : (a0_0 != 1) = true := bne_iff_ne.mpr c7
  (first | rw [c7b0] | (simp only [i64_w, i32_w]; rw [c7b0]) | skip)
  by_cases c11 : a0_0 = 2
  · rw [if_pos c11] at H
    have c11b0 : (a0_0 == 2) = true := beq_iff_eq.mpr c11
    have c11b1 : (a0_0 != 2) = false := bne_eq_false_iff_eq.mpr c11
    clear c11
    by_cases c12 : a0_0 = 3
    · rw [if_pos c12] at H
      have c12b0 : (a0_0 == 3) = true := beq_iff_eq.mpr c12
      have c12b1 : (a0_0 != 3) = false := bne_eq_false_iff_eq.mpr c12
      clear c12
      have H' := aM H
      clear H
      obtain ⟨hcz13_0, hcz13_1, hcz13_2, hfz13_0, hfz13_1, hfz13_2⟩ := cells3 BK254.out
      go_wp2
      go_meet
      case rel => exact ⟨_, (false), q4_, H', ⟨by first | omega | exact Nat.le_refl _⟩, ⟨blkR BK254.out⟩, ⟨s12z0⟩⟩
    rw [if_neg c12] at H
    have c12b0 : (a0_0 == 3) = false := beq_eq_false_iff_ne.mpr c12
    have c12b1 : (a0_0 != 3) = true := bne_iff_ne.mpr c12
    have H' := aM H
    clear H
    obtain ⟨hcz14_0, hcz14_1, hcz14_2, hfz14_0, hfz14_1, hfz14_2⟩ := cells3 BK254.out
    go_wp2
    go_meet
    case rel => exact ⟨_, ((a0_2.toList != ([] : List UInt8))), s12q2, H', ⟨by first | omega | exact Nat.le_refl _⟩, ⟨blkR BK254.out⟩, ⟨s12z0⟩⟩
  rw [if_neg c11] at H
  have c11b0 : (a0_0 == 2) = false := beq_eq_false_iff_ne.mpr c11
  have c11b1 : (a0_0 != 2) = true := bne_iff_ne.mpr c11
  by_cases c15 : a0_1 = 0
  case neg =>
   rw [if_neg c15] at H
   have c15b0 : (a0_1 == 0) = false := beq_eq_false_iff_ne.mpr c15
   have c15b1 : (a0_1 != 0) = true := bne_iff_ne.mpr c15
   have H' := aM H
   clear H
   obtain ⟨hcz19_0, hcz19_1, hcz19_2, hfz19_0, hfz19_1, hfz19_2⟩ := cells3 BK254.out
   go_wp2
   go_meet
   case rel => exact ⟨_, (true), q4_, H', ⟨by first | omega | exact Nat.le_refl _⟩, ⟨blkR BK254.out⟩, ⟨s12z0⟩⟩
  rw [if_pos c15] at H
  have c15b0 : (a0_1 == 0) = true := beq_iff_eq.mpr c15
  have c15b1 : (a0_1 != 0) = false := bne_eq_false_iff_eq.mpr c15
  clear c15
  by_cases c16 : a0_0 = 3
  · rw [if_pos c16] at H
    have c16b0 : (a0_0 == 3) = true := beq_iff_eq.mpr c16
    have c16b1 : (a0_0 != 3) = false := bne_eq_false_iff_eq.mpr c16
    clear c16
    have H' := aM H
    clear H
    obtain ⟨hcz17_0, hcz17_1, hcz17_2, hfz17_0, hfz17_1, hfz17_2⟩ := cells3 BK254.out
    go_wp2
    go_meet
    case rel => exact ⟨_, (false), q4_, H', ⟨by first | omega | exact Nat.le_refl _⟩, ⟨blkR BK254.out⟩, ⟨s12z0⟩⟩
  rw [if_neg c16] at H
  have c16b0 : (a0_0 == 3) = false := beq_eq_false_iff_ne.mpr c16
  have c16b1 : (a0_0 != 3) = true := bne_iff_ne.mpr c16
  have H' := aM H
  clear H
  obtain ⟨hcz18_0, hcz18_1, hcz18_2, hfz18_0, hfz18_1, hfz18_2⟩ := cells3 BK254.out
  go_wp2
  go_meet
  case rel => exact ⟨_, ((a0_2.toList != ([] : List UInt8))), s12q2, H', ⟨by first | omega | exact Nat.le_refl _⟩, ⟨blkR BK254.out⟩, ⟨s12z0⟩⟩
 clear HC4
 try clear c1
 try clear p2
 try clear c3
 try clear c7
 try clear c7b0
 try clear c7b1
 try clear c8
 try clear c8b0
 try clear c8b1
 try clear c10
 try clear c11
 try clear c11b0
 try clear c11b1
 try clear c12
 try clear c12b0
 try clear c12b1
 try clear c15
 try clear c15b0
 try clear c15b1
 try clear c16
 try clear c16b0
 try clear c16b1
 try clear hcz10_0 hcz10_1 hcz10_2
 try clear hcz13_0 hcz13_1 hcz13_2
 try clear hcz14_0 hcz14_1 hcz14_2
 try clear hcz17_0 hcz17_1 hcz17_2
 try clear hcz18_0 hcz18_1 hcz18_2
 try clear hcz19_0 hcz19_1 hcz19_2
 try clear hcz6_0 hcz6_1 hcz6_2
 try clear hcz9_0 hcz9_1 hcz9_2
 try clear hfz10_0 hfz10_1 hfz10_2
 try clear hfz13_0 hfz13_1 hfz13_2
 try clear hfz14_0 hfz14_1 hfz14_2
 try clear hfz17_0 hfz17_1 hfz17_2
 try clear hfz18_0 hfz18_1 hfz18_2
 try clear hfz19_0 hfz19_1 hfz19_2
 try clear hfz6_0 hfz6_1 hfz6_2
 try clear hfz9_0 hfz9_1 hfz9_2
 obtain ⟨kq, x30_3, rfl, HA, HJ3, BK254, HB⟩ := hcut
 cases kq with
 | zero => exact absurd HA.out (by simp [peristyleref1_CheckValue.j0])
 | succ kj3 => ?_
 have H := HA.out
 clear HA
 simp only [peristyleref1_CheckValue.j0] at H
 by_cases c20 : x30_3 = true
 · subst c20
   have H1 : (some 3) = some r := q7_
   clear H
   have H := H1
   clear H1
   obtain rfl := Option.some.inj H
   go_wp2
   go_ret
   exact ⟨eqR, s12z0⟩
 replace c20 := Bool.eq_false_iff.mpr c20
 subst c20
 have H1 : (if a0_0 = 1 then ((peristyleref1_within.f a0_1 0 1).bind fun t256 => (if t256 = true then (if a0_0 = 2 then ((peristyleref1_within.f a0_1 (-1000000000000000) 1000000000000000).bind fun t257 => (peristyleref1_CheckValue.j1 kj3 (!t257) a0_0 a0_1 a0_2)) else (peristyleref1_CheckValue.j1 kj3 false a0_0 a0_1 a0_2)) else (peristyleref1_CheckValue.j1 kj3 true a0_0 a0_1 a0_2))) else (if a0_0 = 2 then ((peristyleref1_within.f a0_1 (-1000000000000000) 1000000000000000).bind fun t258 => (peristyleref1_CheckValue.j1 kj3 (!t258) a0_0 a0_1 a0_2)) else (peristyleref1_CheckValue.j1 kj3 false a0_0 a0_1 a0_2))) = some r := q6_
 clear H
 have H := H1
 clear H1
 have HC21 := aM H
 clear H
 go_upto_region 5 with (fail)
 go_cut [50] (fun v50 wc => ∃ (kq : Nat) (x50_20 : Bool), v50 = .bool x50_20 ∧ Aside0 (peristyleref1_CheckValue.j1 kq x50_20 a0_0 a0_1 a0_2 = some r) ∧ Aside0 (kq ≤ kj3) ∧ Aside0 (wc.heap[gb254]? = some (.cells #[.int .i64 a0_0, .int .i64 a0_1, .string a0_2] 48 (0, 0))) ∧ Aside0 (Below w.heap.size w wc))
 case first =>
  have H := HC21.out
  clear HC21
  by_cases c22 : a0_0 = 1
  case neg =>
   rw [if_neg c22] at H
   have c22b0 : (a0_0 == 1) = false := beq_eq_false_iff_ne.mpr c22
   have c22b1 : (a0_0 != 1) = true := bne_iff_ne.mpr c22
   (first | rw [c22b0] | (simp only [i64_w, i32_w]; rw [c22b0]) | skip)
   by_cases c30 : a0_0 = 2
   case neg =>
    rw [if_neg c30] at H
    have c30b0 : (a0_0 == 2) = false := beq_eq_false_iff_ne.mpr c30
    have c30b1 : (a0_0 != 2) = true := bne_iff_ne.mpr c30
    have H' := aM H
    clear H
    obtain ⟨hcz33_0, hcz33_1, hcz33_2, hfz33_0, hfz33_1, hfz33_2⟩ := cells3 BK254.out
    go_wp2
    go_meet
    case rel => exact ⟨_, (false), q4_, H', ⟨by have := HJ3.out; first | omega | exact Nat.le_refl _⟩, ⟨blkR BK254.out⟩, ⟨s12z0⟩⟩
   rw [if_pos c30] at H
   have c30b0 : (a0_0 == 2) = true := beq_iff_eq.mpr c30
   have c30b1 : (a0_0 != 2) = false := bne_eq_false_iff_eq.mpr c30
   clear c30
   replace H := Option.bind_eq_some_iff.mp H
   obtain ⟨t258, A310, H⟩ := H
   replace H : (peristyleref1_CheckValue.j1 kj3 (!t258) a0_0 a0_1 a0_2) = some r := H
   have A31 := aM A310
   clear A310
   have H' := aM H
   clear H
   obtain ⟨hcz32_0, hcz32_1, hcz32_2, hfz32_0, hfz32_1, hfz32_2⟩ := cells3 BK254.out
   go_wp2_with (first | (go_at_call 124; (with_reducible refine (peristyleref1_within.calls a0_1 (-1000000000000000) 1000000000000000 t258 _ A31.out).mono ?_); rintro e w' ⟨rfl, ⟨nd, rfl⟩⟩))
   go_meet
   case rel => exact ⟨_, (!t258), q4_, H', ⟨by have := HJ3.out; first | omega | exact Nat.le_refl _⟩, ⟨blkR BK254.out⟩, ⟨s12z0⟩⟩
  rw [if_pos c22] at H
  have c22b0 : (a0_0 == 1) = true := beq_iff_eq.mpr c22
  have c22b1 : (a0_0 != 1) = false := bne_eq_false_iff_eq.mpr c22
  clear c22
  (first | rw [c22b0] | (simp only [i64_w, i32_w]; rw [c22b0]) | skip)
  replace H := Option.bind_eq_some_iff.mp H
  obtain ⟨t256, A230, H⟩ := H
  replace H : (if t256 = true then (if a0_0 = 2 then ((peristyleref1_within.f a0_1 (-1000000000000000) 1000000000000000).bind fun t257 => (peristyleref1_CheckValue.j1 kj3 (!t257) a0_0 a0_1 a0_2)) else (peristyleref1_CheckValue.j1 kj3 false a0_0 a0_1 a0_2)) else (peristyleref1_CheckValue.j1 kj3 true a0_0 a0_1 a0_2)) = some r := H
  have A23 := aM A230
  clear A230
  by_cases c24 : t256 = true
  case neg =>
   replace c24 := Bool.eq_false_iff.mpr c24
   subst c24
   have H1 : (peristyleref1_CheckValue.j1 kj3 true a0_0 a0_1 a0_2) = some r := q6_
   clear H
   have H := H1
   clear H1
   have H' := aM H
   clear H
   obtain ⟨hcz29_0, hcz29_1, hcz29_2, hfz29_0, hfz29_1, hfz29_2⟩ := cells3 BK254.out
   go_wp2_with (first | (go_at_call 124; (with_reducible refine (peristyleref1_within.calls a0_1 0 1 false _ A23.out).mono ?_); rintro e w' ⟨rfl, ⟨nd, rfl⟩⟩))
   go_meet
   case rel => exact ⟨_, (true), q4_, H', ⟨by have := HJ3.out; first | omega | exact Nat.le_refl _⟩, ⟨blkR BK254.out⟩, ⟨s12z0⟩⟩
  subst c24
  have H1 : (if a0_0 = 2 then ((peristyleref1_within.f a0_1 (-1000000000000000) 1000000000000000).bind fun t257 => (peristyleref1_CheckValue.j1 kj3 (!t257) a0_0 a0_1 a0_2)) else (peristyleref1_CheckValue.j1 kj3 false a0_0 a0_1 a0_2)) = some r := q7_
  clear H
  have H := H1
  clear H1
  by_cases c25 : a0_0 = 2
  case neg =>
   rw [if_neg c25] at H
   have c25b0 : (a0_0 == 2) = false := beq_eq_false_iff_ne.mpr c25
   have c25b1 : (a0_0 != 2) = true := bne_iff_ne.mpr c25
   have H' := aM H
   clear H
   obtain ⟨hcz28_0, hcz28_1, hcz28_2, hfz28_0, hfz28_1, hfz28_2⟩ := cells3 BK254.out
   go_wp2_with (first | (go_at_call 124; (with_reducible refine (peristyleref1_within.calls a0_1 0 1 true _ A23.out).mono ?_); rintro e w' ⟨rfl, ⟨nd, rfl⟩⟩))
   go_meet
   case rel => exact ⟨_, (false), q4_, H', ⟨by have := HJ3.out; first | omega | exact Nat.le_refl _⟩, ⟨blkR BK254.out⟩, ⟨s12z0⟩⟩
  rw [if_pos c25] at H
  have c25b0 : (a0_0 == 2) = true := beq_iff_eq.mpr c25
  have c25b1 : (a0_0 != 2) = false := bne_eq_false_iff_eq.mpr c25
  clear c25
  replace H := Option.bind_eq_some_iff.mp H
  obtain ⟨t257, A260, H⟩ := H
  replace H : (peristyleref1_CheckValue.j1 kj3 (!t257) a0_0 a0_1 a0_2) = some r := H
  have A26 := aM A260
  clear A260
  have H' := aM H
  clear H
  obtain ⟨hcz27_0, hcz27_1, hcz27_2, hfz27_0, hfz27_1, hfz27_2⟩ := cells3 BK254.out
  go_wp2_with (first | (go_at_call 124; (with_reducible refine (peristyleref1_within.calls a0_1 0 1 true _ A23.out).mono ?_); rintro e w' ⟨rfl, ⟨nd, rfl⟩⟩) | (go_at_call 124; (with_reducible refine (peristyleref1_within.calls a0_1 (-1000000000000000) 1000000000000000 t257 _ A26.out).mono ?_); rintro e w' ⟨rfl, ⟨nd, rfl⟩⟩))
  go_meet
  case rel => exact ⟨_, (!t257), q4_, H', ⟨by have := HJ3.out; first | omega | exact Nat.le_refl _⟩, ⟨blkR BK254.out⟩, ⟨s12z0⟩⟩
 clear HC21
 try clear c1
 try clear c2
 try clear p2
 try clear c3
 try clear c7
 try clear c7b0
 try clear c7b1
 try clear c8
 try clear c8b0
 try clear c8b1
 try clear c10
 try clear c11
 try clear c11b0
 try clear c11b1
 try clear c12
 try clear c12b0
 try clear c12b1
 try clear c15
 try clear c15b0
 try clear c15b1
 try clear c16
 try clear c16b0
 try clear c16b1
 try clear c20
 try clear c22
 try clear c22b0
 try clear c22b1
 try clear c24
 try clear c25
 try clear c25b0
 try clear c25b1
 try clear c30
 try clear c30b0
 try clear c30b1
 try clear hcz10_0 hcz10_1 hcz10_2
 try clear hcz13_0 hcz13_1 hcz13_2
 try clear hcz14_0 hcz14_1 hcz14_2
 try clear hcz17_0 hcz17_1 hcz17_2
 try clear hcz18_0 hcz18_1 hcz18_2
 try clear hcz19_0 hcz19_1 hcz19_2
 try clear hcz27_0 hcz27_1 hcz27_2
 try clear hcz28_0 hcz28_1 hcz28_2
 try clear hcz29_0 hcz29_1 hcz29_2
 try clear hcz32_0 hcz32_1 hcz32_2
 try clear hcz33_0 hcz33_1 hcz33_2
 try clear hcz6_0 hcz6_1 hcz6_2
 try clear hcz9_0 hcz9_1 hcz9_2
 try clear hfz10_0 hfz10_1 hfz10_2
 try clear hfz13_0 hfz13_1 hfz13_2
 try clear hfz14_0 hfz14_1 hfz14_2
 try clear hfz17_0 hfz17_1 hfz17_2
 try clear hfz18_0 hfz18_1 hfz18_2
 try clear hfz19_0 hfz19_1 hfz19_2
 try clear hfz27_0 hfz27_1 hfz27_2
 try clear hfz28_0 hfz28_1 hfz28_2
 try clear hfz29_0 hfz29_1 hfz29_2
 try clear hfz32_0 hfz32_1 hfz32_2
 try clear hfz33_0 hfz33_1 hfz33_2
 try clear hfz6_0 hfz6_1 hfz6_2
 try clear hfz9_0 hfz9_1 hfz9_2
 try clear p2
 obtain ⟨kq, x50_20, rfl, HA, HJ20, BK254, HB⟩ := hcut
 cases kq with
 | zero => exact absurd HA.out (by simp [peristyleref1_CheckValue.j1])
 | succ kj20 => ?_
 have H := HA.out
 clear HA
 simp only [peristyleref1_CheckValue.j1] at H
 by_cases c34 : x50_20 = true
 · subst c34
   have H1 : (some 1) = some r := q7_
   clear H
   have H := H1
   clear H1
   obtain rfl := Option.some.inj H
   go_wp2
   go_ret
   exact ⟨eqR, s12z0⟩
 replace c34 := Bool.eq_false_iff.mpr c34
 subst c34
 have H1 : (if (a0_2.size : Int) > 200 then (some 2) else (peristyleref1_CheckValue.l0 kj20 0 a0_0 a0_1 a0_2)) = some r := q6_
 clear H
 have H := H1
 clear H1
 by_cases c35 : (a0_2.size : Int) > 200
 · rw [if_pos c35] at H
   have c35b0 : decide (200 < (a0_2.size : Int)) = true := decide_eq_true c35
   have c35b1 : decide (200 < a0_2.size) = true := decide_eq_true (by omega)
   clear c35
   obtain rfl := Option.some.inj H
   obtain ⟨hcz36_0, hcz36_1, hcz36_2, hfz36_0, hfz36_1, hfz36_2⟩ := cells3 BK254.out
   go_wp2
   go_ret
   exact ⟨eqR, s12z0⟩
 rw [if_neg c35] at H
 have c35b0 : decide (200 < (a0_2.size : Int)) = false := decide_eq_false c35
 have c35b1 : decide (200 < a0_2.size) = false := decide_eq_false (by omega)
 clear c35
 have H' := aM H
 clear H
 obtain ⟨hcz37_0, hcz37_1, hcz37_2, hfz37_0, hfz37_1, hfz37_2⟩ := cells3 BK254.out
 go_wp2
 go_loopg [3] kj20 (fun kq v3 w' => ∃ (x3_3 : Int), v3 = .int .i64 x3_3 ∧ Aside0 (peristyleref1_CheckValue.l0 kq x3_3 a0_0 a0_1 a0_2 = some r) ∧ Aside0 (kq ≤ kj20) ∧ Aside0 (w'.heap[gb254]? = some (.cells #[.int .i64 a0_0, .int .i64 a0_1, .string a0_2] 48 (0, 0))) ∧ Aside0 (Below w.heap.size w w'))
 case atStart => exact ⟨(0), q4_, H', ⟨Nat.le_refl _⟩, ⟨blkR BK254.out⟩, ⟨s12z0⟩⟩
 clear H'
 try clear c1
 try clear c2
 try clear p2
 try clear c3
 try clear c7
 try clear c7b0
 try clear c7b1
 try clear c8
 try clear c8b0
 try clear c8b1
 try clear c10
 try clear c11
 try clear c11b0
 try clear c11b1
 try clear c12
 try clear c12b0
 try clear c12b1
 try clear c15
 try clear c15b0
 try clear c15b1
 try clear c16
 try clear c16b0
 try clear c16b1
 try clear c20
 try clear c22
 try clear c22b0
 try clear c22b1
 try clear c24
 try clear c25
 try clear c25b0
 try clear c25b1
 try clear c30
 try clear c30b0
 try clear c30b1
 try clear c34
 try clear c35
 try clear c35b0
 try clear c35b1
 try clear hcz10_0 hcz10_1 hcz10_2
 try clear hcz13_0 hcz13_1 hcz13_2
 try clear hcz14_0 hcz14_1 hcz14_2
 try clear hcz17_0 hcz17_1 hcz17_2
 try clear hcz18_0 hcz18_1 hcz18_2
 try clear hcz19_0 hcz19_1 hcz19_2
 try clear hcz27_0 hcz27_1 hcz27_2
 try clear hcz28_0 hcz28_1 hcz28_2
 try clear hcz29_0 hcz29_1 hcz29_2
 try clear hcz32_0 hcz32_1 hcz32_2
 try clear hcz33_0 hcz33_1 hcz33_2
 try clear hcz36_0 hcz36_1 hcz36_2
 try clear hcz37_0 hcz37_1 hcz37_2
 try clear hcz6_0 hcz6_1 hcz6_2
 try clear hcz9_0 hcz9_1 hcz9_2
 try clear hfz10_0 hfz10_1 hfz10_2
 try clear hfz13_0 hfz13_1 hfz13_2
 try clear hfz14_0 hfz14_1 hfz14_2
 try clear hfz17_0 hfz17_1 hfz17_2
 try clear hfz18_0 hfz18_1 hfz18_2
 try clear hfz19_0 hfz19_1 hfz19_2
 try clear hfz27_0 hfz27_1 hfz27_2
 try clear hfz28_0 hfz28_1 hfz28_2
 try clear hfz29_0 hfz29_1 hfz29_2
 try clear hfz32_0 hfz32_1 hfz32_2
 try clear hfz33_0 hfz33_1 hfz33_2
 try clear hfz36_0 hfz36_1 hfz36_2
 try clear hfz37_0 hfz37_1 hfz37_2
 try clear hfz6_0 hfz6_1 hfz6_2
 try clear hfz9_0 hfz9_1 hfz9_2
 try clear p2
 obtain ⟨x3_3, rfl, HA, HK3, BK254, HB⟩ := hrel
 cases gk with
 | zero => exact absurd HA.out (by simp [peristyleref1_CheckValue.l0])
 | succ k3 => ?_
 have H := HA.out
 clear HA
 simp only [peristyleref1_CheckValue.l0] at H
 by_cases c38 : x3_3 < (a0_2.size : Int)
 case neg =>
  rw [if_neg c38] at H
  have c38b0 : decide (x3_3 < (a0_2.size : Int)) = false := decide_eq_false c38
  clear c38
  obtain rfl := Option.some.inj H
  obtain ⟨hcz47_0, hcz47_1, hcz47_2, hfz47_0, hfz47_1, hfz47_2⟩ := cells3 BK254.out
  go_wp2
  go_ret
  exact ⟨eqR, s12z0⟩
 rw [if_pos c38] at H
 have c38b0 : decide (x3_3 < (a0_2.size : Int)) = true := decide_eq_true c38
 clear c38
 by_cases c39 : 0 ≤ x3_3
 case neg =>
  rw [if_neg c39] at H
  exact absurd H (by simp)
 rw [if_pos c39] at H
 have c39b0 : decide (0 ≤ x3_3) = true := decide_eq_true c39
 clear c39
 by_cases c41 : (bt a0_2 x3_3) < 32
 · rw [if_pos c41] at H
   have c41b0 : decide ((bt a0_2 x3_3) < 32) = true := decide_eq_true c41
   clear c41
   obtain rfl := Option.some.inj H
   obtain ⟨hcz42_0, hcz42_1, hcz42_2, hfz42_0, hfz42_1, hfz42_2⟩ := cells3 BK254.out
   have p40 : 0 ≤ (x3_3 : Int) := of_decide_eq_true q3_
   have q40 : x3_3 < (a0_2.size : Int) := of_decide_eq_true q3_
   have hx40 := bt_at a0_2 x3_3
   replace p40 := eq_true p40
   replace q40 := eq_true q40
   go_wp2
   go_ret
   exact ⟨eqR, s12z0⟩
 rw [if_neg c41] at H
 have c41b0 : decide ((bt a0_2 x3_3) < 32) = false := decide_eq_false c41
 clear c41
 by_cases c44 : (bt a0_2 x3_3) > 126
 · rw [if_pos c44] at H
   have c44b0 : decide (126 < (bt a0_2 x3_3)) = true := decide_eq_true c44
   clear c44
   obtain rfl := Option.some.inj H
   obtain ⟨hcz45_0, hcz45_1, hcz45_2, hfz45_0, hfz45_1, hfz45_2⟩ := cells3 BK254.out
   have p40 : 0 ≤ (x3_3 : Int) := of_decide_eq_true q3_
   have q40 : x3_3 < (a0_2.size : Int) := of_decide_eq_true q3_
   have hx40 := bt_at a0_2 x3_3
   replace p40 := eq_true p40
   replace q40 := eq_true q40
   have p43 : 0 ≤ (x3_3 : Int) := of_decide_eq_true q3_
   have q43 : x3_3 < (a0_2.size : Int) := of_decide_eq_true q3_
   have hx43 := bt_at a0_2 x3_3
   replace p43 := eq_true p43
   replace q43 := eq_true q43
   go_wp2
   go_ret
   exact ⟨eqR, s12z0⟩
 rw [if_neg c44] at H
 have c44b0 : decide (126 < (bt a0_2 x3_3)) = false := decide_eq_false c44
 clear c44
 have H' := aM H
 clear H
 obtain ⟨hcz46_0, hcz46_1, hcz46_2, hfz46_0, hfz46_1, hfz46_2⟩ := cells3 BK254.out
 have p40 : 0 ≤ (x3_3 : Int) := of_decide_eq_true q3_
 have q40 : x3_3 < (a0_2.size : Int) := of_decide_eq_true q3_
 have hx40 := bt_at a0_2 x3_3
 replace p40 := eq_true p40
 replace q40 := eq_true q40
 have p43 : 0 ≤ (x3_3 : Int) := of_decide_eq_true q3_
 have q43 : x3_3 < (a0_2.size : Int) := of_decide_eq_true q3_
 have hx43 := bt_at a0_2 x3_3
 replace p43 := eq_true p43
 replace q43 := eq_true q43
 go_wp2
 first | go_roundg k3 | (refine Handed.intro k3 ?measure ?_; rotate_left; go_step; (repeat apply Exists.intro); simp only [add_plain]; refine ⟨?rel, rfl⟩)
 case measure => have := HJ3.out; have := HJ20.out; have := HK3.out; omega
 case rel => exact ⟨(wrap64 (x3_3 + 1)), q4_, H', ⟨by have := HJ3.out; have := HJ20.out; have := HK3.out; omega⟩, ⟨blkR BK254.out⟩, ⟨s12z0⟩⟩
end Go.Proofs.YtgcijejmmhjibaaDoor.J
