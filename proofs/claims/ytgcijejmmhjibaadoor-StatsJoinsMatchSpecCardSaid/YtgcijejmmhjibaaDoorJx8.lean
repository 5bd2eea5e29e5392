-- Printed by a program of this session (a patched print).
import Derived.Test.YtgcijejmmhjibaaDoorJx0
import Derived.Test.YtgcijejmmhjibaaDoorJx1
import Derived.Test.YtgcijejmmhjibaaDoorJx2
import Derived.Test.YtgcijejmmhjibaaDoorJx6
import Derived.Test.YtgcijejmmhjibaaDoorJx7
namespace Go.Proofs.YtgcijejmmhjibaaDoor.J
open Go.RowKit Go.Proofs.YtgcijejmmhjibaaDoorW.PrintWords Go.Proofs.YtgcijejmmhjibaaDoorW.PrintLast Go.Proofs.YtgcijejmmhjibaaDoorW.PrintMore
attribute [local go_sem] max2_int min2_int max_two min_two max_three min_three max_four min_four   -- for this text's walks alone
set_option linter.unusedVariables false
set_option linter.unusedSimpArgs false

attribute [local go_sem high] eqA48
theorem s8z2 {p : Prop} (h : p := by repeat (first | (with_reducible first | exact HB.out | apply below_alloc | apply pw_below_drewN | apply below_drew1 | refine below_set ?_ GE221.out | refine below_set ?_ GE223.out) | exact HB.out)) : p := h
theorem s8qm0 {p : Prop} (h : p := by repeat' first | (with_reducible exact ih0 _ _ _ _ _ _) | (with_reducible exact ih1 _ _ _ _ _ _) | (with_reducible exact ih2 _ _ _ _ _ _ _ _) | (with_reducible exact ih3 _ _ _ _ _ _ _ _) | (with_reducible exact cost_checkBuckets.mono _ _ _) | (with_reducible exact cost_checkOften.mono _ _ _) | (with_reducible exact LeO.refl _) | (with_reducible exact LeO.none _) | (with_reducible refine LeO.ite ?_ ?_) | (with_reducible refine LeO.bind ?_ (fun _ => ?_)) | exact ih0 _ _ _ _ _ _ | exact ih1 _ _ _ _ _ _ | exact ih2 _ _ _ _ _ _ _ _ | exact ih3 _ _ _ _ _ _ _ _ | exact cost_checkBuckets.mono _ _ _ | exact cost_checkOften.mono _ _ _ | exact LeO.none _ | refine LeO.ite ?_ ?_ | refine LeO.bind ?_ (fun _ => ?_)) : p := h
theorem s8q7 {p : Prop} (h : p := by repeat (first | (with_reducible first | exact HB.out | apply below_alloc | apply pw_below_drewN | apply below_drew1 | refine below_set ?_ GE211.out) | exact HB.out)) : p := h
theorem s8q8 {p : Prop} (h : p := by repeat (first | (with_reducible first | exact HB.out | apply below_alloc | apply pw_below_drewN | apply below_drew1 | refine below_set ?_ GE221.out) | exact HB.out)) : p := h
theorem s8q9 {p : Prop} (h : p := by rw [hg]; exact (below_size q1_)) : p := h
theorem s8q10 {p : Prop} (h : p := by rw [hg]; exact (below_size s8q7)) : p := h
theorem s8q11 {p : Prop} (h : p := by rw [hg]; exact (below_size s8q8)) : p := h
theorem s8q12 {p : Prop} (h : p := by rw [hg]; exact Nat.ne_of_gt (blk_lt (g := gb221) (o := .cells #[.int .i64 a1_0, .int .i64 a1_1, .string a1_2] 48 (0, 0)) (blkR BK221.out))) : p := h
theorem s8q13 {p : Prop} (h : p := by rw [hg]; exact Nat.ne_of_lt (blk_lt (g := gb221) (o := .cells #[.int .i64 a1_0, .int .i64 a1_1, .string a1_2] 48 (0, 0)) (blkR BK221.out))) : p := h
/-! ### cost_CheckStats: function 35 -/
mutual
def cost_CheckStats.j0 : Nat → Int → Bool → Int → Int → List (S100) → List (S105) → Option (Int)
  | 0, _, _, _, _, _, _ => none
  | k + 1, x0, x26, x212000, x212001, x212002, x212003 => if x26 = true then (some 1) else (if (x212002.length : Int) > 20 then (cost_CheckStats.j1 k x0 true x212000 x212001 x212002 x212003) else (cost_CheckStats.j1 k x0 (decide ((x212003.length : Int) > 50)) x212000 x212001 x212002 x212003))
def cost_CheckStats.j1 : Nat → Int → Bool → Int → Int → List (S100) → List (S105) → Option (Int)
  | 0, _, _, _, _, _, _ => none
  | k + 1, x0, x36, x212000, x212001, x212002, x212003 => if x36 = true then (some 2) else ((cost_checkOften.f k x0 x212002).bind fun t215 => (if t215 = 0 then ((cost_checkBuckets.f k x0 x212003).bind fun t216 => (if t216 = 0 then (cost_CheckStats.l0 k x212001 x212002 (x212002.length : Int) 0 x212000 x212001 x212002 x212003) else (some t216))) else (some t215)))
def cost_CheckStats.l0 : Nat → Int → List (S100) → Int → Int → Int → Int → List (S100) → List (S105) → Option (Int)
  | 0, _, _, _, _, _, _, _, _ => none
  | k + 1, x7, x54, x55, x56, x212000, x212001, x212002, x212003 => if x56 < x55 then (if 0 ≤ x56 then (if x56 < (x54.length : Int) then (cost_CheckStats.l0 k (wrap64 (x7 + ((rd_T100 x54 x56).f1))) x54 x55 (wrap64 (x56 + 1)) x212000 x212001 x212002 x212003) else (none)) else (none)) else (cost_CheckStats.l1 k x7 x212003 (x212003.length : Int) 0 x212000 x212001 x212002 x212003)
def cost_CheckStats.l1 : Nat → Int → List (S105) → Int → Int → Int → Int → List (S100) → List (S105) → Option (Int)
  | 0, _, _, _, _, _, _, _, _ => none
  | k + 1, x7, x66, x67, x68, x212000, x212001, x212002, x212003 => if x68 < x67 then (if 0 ≤ x68 then (if x68 < (x66.length : Int) then (cost_CheckStats.l1 k (wrap64 (x7 + ((rd_T105 x66 x68).f2))) x66 x67 (wrap64 (x68 + 1)) x212000 x212001 x212002 x212003) else (none)) else (none)) else (if x7 = x212000 then (some 0) else (some 3))
end
def cost_CheckStats.f (k : Nat) (a0 : Int) (a1_0 : Int) (a1_1 : Int) (l1_2 : List (S100)) (l1_3 : List (S105)) : Option (Int) := (kit_In.f a0 1 3).bind fun t212 => (if t212 = true then ((kit_In.f a1_0 0 2000).bind fun t213 => (if t213 = true then ((kit_In.f a1_1 0 a1_0).bind fun t214 => (cost_CheckStats.j0 k a0 (!t214) a1_0 a1_1 l1_2 l1_3)) else (cost_CheckStats.j0 k a0 true a1_0 a1_1 l1_2 l1_3))) else (some 4))
theorem cost_CheckStats.mono_l : ∀ k, (∀ y0 y1 y2 y3 y4 y5, LeO (cost_CheckStats.j0 k y0 y1 y2 y3 y4 y5) (cost_CheckStats.j0 (k + 1) y0 y1 y2 y3 y4 y5)) ∧ (∀ y0 y1 y2 y3 y4 y5, LeO (cost_CheckStats.j1 k y0 y1 y2 y3 y4 y5) (cost_CheckStats.j1 (k + 1) y0 y1 y2 y3 y4 y5)) ∧ (∀ y0 y1 y2 y3 y4 y5 y6 y7, LeO (cost_CheckStats.l0 k y0 y1 y2 y3 y4 y5 y6 y7) (cost_CheckStats.l0 (k + 1) y0 y1 y2 y3 y4 y5 y6 y7)) ∧ (∀ y0 y1 y2 y3 y4 y5 y6 y7, LeO (cost_CheckStats.l1 k y0 y1 y2 y3 y4 y5 y6 y7) (cost_CheckStats.l1 (k + 1) y0 y1 y2 y3 y4 y5 y6 y7))
  | 0 => ⟨fun _ _ _ _ _ _ r h => by simp [cost_CheckStats.j0] at h, fun _ _ _ _ _ _ r h => by simp [cost_CheckStats.j1] at h, fun _ _ _ _ _ _ _ _ r h => by simp [cost_CheckStats.l0] at h, fun _ _ _ _ _ _ _ _ r h => by simp [cost_CheckStats.l1] at h⟩
  | k + 1 => by
    obtain ⟨ih0, ih1, ih2, ih3⟩ := cost_CheckStats.mono_l k
    refine ⟨?_, ?_, ?_, ?_⟩
    · intro y0 y1 y2 y3 y4 y5
      unfold cost_CheckStats.j0
      exact s8qm0
    · intro y0 y1 y2 y3 y4 y5
      unfold cost_CheckStats.j1
      exact s8qm0
    · intro y0 y1 y2 y3 y4 y5 y6 y7
      unfold cost_CheckStats.l0
      exact s8qm0
    · intro y0 y1 y2 y3 y4 y5 y6 y7
      unfold cost_CheckStats.l1
      exact s8qm0
theorem cost_CheckStats.mono : ∀ a0 a1 a2 a3 a4 k, LeO (cost_CheckStats.f k a0 a1 a2 a3 a4) (cost_CheckStats.f (k + 1) a0 a1 a2 a3 a4) := by
 intro a0 a1 a2 a3 a4 k
 obtain ⟨ih0, ih1, ih2, ih3⟩ := cost_CheckStats.mono_l k
 unfold cost_CheckStats.f
 repeat' first
  | (with_reducible exact ih0 _ _ _ _ _ _)
  | (with_reducible exact ih1 _ _ _ _ _ _)
  | (with_reducible exact ih2 _ _ _ _ _ _ _ _)
  | (with_reducible exact ih3 _ _ _ _ _ _ _ _)
  | (with_reducible exact cost_checkBuckets.mono _ _ _)
  | (with_reducible exact cost_checkOften.mono _ _ _)
  | (with_reducible exact LeO.refl _)
  | (with_reducible exact LeO.none _)
  | (with_reducible refine LeO.ite ?_ ?_)
  | (with_reducible refine LeO.bind ?_ (fun _ => ?_))
  | exact ih0 _ _ _ _ _ _
  | exact ih1 _ _ _ _ _ _
  | exact ih2 _ _ _ _ _ _ _ _
  | exact ih3 _ _ _ _ _ _ _ _
  | exact cost_checkBuckets.mono _ _ _
  | exact cost_checkOften.mono _ _ _
  | exact LeO.none _
  | refine LeO.ite ?_ ?_
  | refine LeO.bind ?_ (fun _ => ?_)
set_option maxHeartbeats 8000000 in
set_option maxRecDepth 100000 in
theorem cost_CheckStats.calls (k : Nat) (a0 : Int) (a1_0 : Int) (a1_1 : Int) (A1_2 : Option Addr) (c1_2 : Nat) (l1_2 : List (S100)) (A1_3 : Option Addr) (c1_3 : Nat) (l1_3 : List (S105)) (r : Int) (w : World) (hr1_2 : Kd.C k100 w A1_2 l1_2.length l1_2) (hc1_2 : l1_2.length ≤ c1_2) (hr1_3 : Kd.C k105 w A1_3 l1_3.length l1_3) (hc1_3 : l1_3.length ≤ c1_3) (h : cost_CheckStats.f k a0 a1_0 a1_1 l1_2 l1_3 = some r) :
    Calls Tryd.prog 35 #[.int .i64 a0, .agg #[.int .i64 a1_0, .int .i64 a1_1, .slice A1_2 l1_2.length c1_2, .slice A1_3 l1_3.length c1_3]] w fun e w' => e = .returned (.int .i64 r) ∧ Below w.heap.size w w' := by
 have hu44 := Tryd.underlying44
 have hu100 := Tryd.underlying100
 have hu105 := Tryd.underlying105
 have HR1_2 := aM hr1_2
 have HC1_2 := aM hc1_2
 clear hr1_2 hc1_2
 have HR1_3 := aM hr1_3
 have HC1_3 := aM hc1_3
 clear hr1_3 hc1_3
 have HB := aM (Below.refl w.heap.size w)
 have H : ((kit_In.f a0 1 3).bind fun t212 => (if t212 = true then ((kit_In.f a1_0 0 2000).bind fun t213 => (if t213 = true then ((kit_In.f a1_1 0 a1_0).bind fun t214 => (cost_CheckStats.j0 k a0 (!t214) a1_0 a1_1 l1_2 l1_3)) else (cost_CheckStats.j0 k a0 true a1_0 a1_1 l1_2 l1_3))) else (some 4))) = some r := h
 clear h
 replace H := Option.bind_eq_some_iff.mp H
 obtain ⟨t212, A30, H⟩ := H
 replace H : (if t212 = true then ((kit_In.f a1_0 0 2000).bind fun t213 => (if t213 = true then ((kit_In.f a1_1 0 a1_0).bind fun t214 => (cost_CheckStats.j0 k a0 (!t214) a1_0 a1_1 l1_2 l1_3)) else (cost_CheckStats.j0 k a0 true a1_0 a1_1 l1_2 l1_3))) else (some 4)) = some r := H
 have A3 := aM A30
 clear A30
 by_cases c4 : t212 = true
 case neg =>
  replace c4 := Bool.eq_false_iff.mpr c4
  subst c4
  have H1 : (some 4) = some r := q6_
  clear H
  have H := H1
  clear H1
  obtain rfl := Option.some.inj H
  go_enter Tryd.func35, Tryd.ntmps35
  go_wp2_with (first | ((with_reducible refine gate_dst (N := 3) rfl ?_); (try (refine gate_guard (by rfl) ?_; dsimp only)); refine box_event ?hg (N := 3) ?hd (cs := #[.int .i64 a1_0, .int .i64 a1_1, .slice A1_2 l1_2.length c1_2, .slice A1_3 l1_3.length c1_3]) (t := 44) ?hr ?_; (case hd => rfl); (case hg => rfl); (case hr => first | (go_simp; done) | (go_simp; rfl)); intro gb211 hg w49 hbox hb; have BK211 := aM hbox; have GW211 := aM (s8q9 : w.heap.size ≤ gb211); have GE211 := GW211; replace HB := aM (below_step q1_ hb); clear hb hbox hg) | ((with_reducible refine gate_callee (f := 41) rfl ?_); refine goesL_ (some 13) rfl rfl Tryd.func41 q5_ rfl #[.int .i64 a0, .int .i64 1, .int .i64 3] rfl q2_ ?_; (with_reducible refine (kit_In.calls a0 1 3 false _ A3.out).mono ?_); rintro e w' ⟨rfl, ⟨nd, rfl⟩⟩; refine ⟨_, rfl, ?_⟩))
  go_ret
  exact ⟨eqR, s8q7⟩
 subst c4
 have H1 : ((kit_In.f a1_0 0 2000).bind fun t213 => (if t213 = true then ((kit_In.f a1_1 0 a1_0).bind fun t214 => (cost_CheckStats.j0 k a0 (!t214) a1_0 a1_1 l1_2 l1_3)) else (cost_CheckStats.j0 k a0 true a1_0 a1_1 l1_2 l1_3))) = some r := q7_
 clear H
 have H := H1
 clear H1
 have HC5 := aM H
 clear H
 go_enter Tryd.func35, Tryd.ntmps35
 go_upto_region 3 with (first | ((with_reducible refine gate_dst (N := 3) rfl ?_); (try (refine gate_guard (by rfl) ?_; dsimp only)); refine box_event ?hg (N := 3) ?hd (cs := #[.int .i64 a1_0, .int .i64 a1_1, .slice A1_2 l1_2.length c1_2, .slice A1_3 l1_3.length c1_3]) (t := 44) ?hr ?_; (case hd => rfl); (case hg => rfl); (case hr => first | (go_simp; done) | (go_simp; rfl)); intro gb211 hg w6 hbox hb; have BK211 := aM hbox; have GW211 := aM (s8q9 : w.heap.size ≤ gb211); have GE211 := GW211; replace HB := aM (below_step q1_ hb); clear hb hbox hg) | ((with_reducible refine gate_callee (f := 41) rfl ?_); refine goesL_ (some 13) rfl rfl Tryd.func41 q5_ rfl #[.int .i64 a0, .int .i64 1, .int .i64 3] rfl q2_ ?_; (with_reducible refine (kit_In.calls a0 1 3 true _ A3.out).mono ?_); rintro e w' ⟨rfl, ⟨nd, rfl⟩⟩; refine ⟨_, rfl, ?_⟩))
 (try simp only [Act.put, sqa, sqb, sqc])
 go_cut [26] (fun v26 wc => ∃ (kq : Nat) (x26_4 : Bool), v26 = .bool x26_4 ∧ Aside0 (cost_CheckStats.j0 kq a0 x26_4 a1_0 a1_1 l1_2 l1_3 = some r) ∧ Aside0 (kq ≤ k) ∧ Aside0 (wc.heap[gb211]? = some (.cells #[.int .i64 a1_0, .int .i64 a1_1, (.slice A1_2 l1_2.length c1_2), (.slice A1_3 l1_3.length c1_3)] 44 (0, 0))) ∧ Aside0 (Below w.heap.size w wc))
 case first =>
  have H := HC5.out
  clear HC5
  replace H := Option.bind_eq_some_iff.mp H
  obtain ⟨t213, A70, H⟩ := H
  replace H : (if t213 = true then ((kit_In.f a1_1 0 a1_0).bind fun t214 => (cost_CheckStats.j0 k a0 (!t214) a1_0 a1_1 l1_2 l1_3)) else (cost_CheckStats.j0 k a0 true a1_0 a1_1 l1_2 l1_3)) = some r := H
  have A7 := aM A70
  clear A70
  by_cases c8 : t213 = true
  case neg =>
   replace c8 := Bool.eq_false_iff.mpr c8
   subst c8
   have H1 : (cost_CheckStats.j0 k a0 true a1_0 a1_1 l1_2 l1_3) = some r := q6_
   clear H
   have H := H1
   clear H1
   have H' := aM H
   clear H
   obtain ⟨hcz11_0, hcz11_1, hcz11_2, hcz11_3, hfz11_0, hfz11_1, hfz11_2, hfz11_3⟩ := cells4 BK211.out
   go_wp2_with (first | ((with_reducible refine gate_callee (f := 41) rfl ?_); refine goesL_ (some 17) rfl rfl Tryd.func41 q5_ rfl #[.int .i64 a1_0, .int .i64 0, .int .i64 2000] rfl q2_ ?_; (with_reducible refine (kit_In.calls a1_0 0 2000 false _ A7.out).mono ?_); rintro e w' ⟨rfl, ⟨nd, rfl⟩⟩; refine ⟨_, rfl, ?_⟩))
   go_meet
   case rel => exact ⟨_, (true), q4_, H', ⟨by first | omega | exact Nat.le_refl _⟩, ⟨blkR BK211.out⟩, ⟨s8q7⟩⟩
  subst c8
  have H1 : ((kit_In.f a1_1 0 a1_0).bind fun t214 => (cost_CheckStats.j0 k a0 (!t214) a1_0 a1_1 l1_2 l1_3)) = some r := q7_
  clear H
  have H := H1
  clear H1
  replace H := Option.bind_eq_some_iff.mp H
  obtain ⟨t214, A90, H⟩ := H
  replace H : (cost_CheckStats.j0 k a0 (!t214) a1_0 a1_1 l1_2 l1_3) = some r := H
  have A9 := aM A90
  clear A90
  have H' := aM H
  clear H
  obtain ⟨hcz10_0, hcz10_1, hcz10_2, hcz10_3, hfz10_0, hfz10_1, hfz10_2, hfz10_3⟩ := cells4 BK211.out
  go_wp2_with (first | ((with_reducible refine gate_callee (f := 41) rfl ?_); refine goesL_ (some 17) rfl rfl Tryd.func41 q5_ rfl #[.int .i64 a1_0, .int .i64 0, .int .i64 2000] rfl q2_ ?_; (with_reducible refine (kit_In.calls a1_0 0 2000 true _ A7.out).mono ?_); rintro e w' ⟨rfl, ⟨nd, rfl⟩⟩; refine ⟨_, rfl, ?_⟩) | (go_at_call 41; (with_reducible refine (kit_In.calls a1_1 0 a1_0 t214 _ A9.out).mono ?_); rintro e w' ⟨rfl, ⟨nd, rfl⟩⟩))
  go_meet
  case rel => exact ⟨_, (!t214), q4_, H', ⟨by first | omega | exact Nat.le_refl _⟩, ⟨blkR BK211.out⟩, ⟨s8q7⟩⟩
 clear HC5
 try clear c1
 try clear p2
 try clear c3
 try clear c4
 try clear c8
 try clear hcz10_0 hcz10_1 hcz10_2 hcz10_3
 try clear hcz11_0 hcz11_1 hcz11_2 hcz11_3
 try clear hfz10_0 hfz10_1 hfz10_2 hfz10_3
 try clear hfz11_0 hfz11_1 hfz11_2 hfz11_3
 obtain ⟨kq, x26_4, rfl, HA, HJ4, BK211, HB⟩ := hcut
 cases kq with
 | zero => exact absurd HA.out (by simp [cost_CheckStats.j0])
 | succ kj4 => ?_
 have H := HA.out
 clear HA
 simp only [cost_CheckStats.j0] at H
 by_cases c12 : x26_4 = true
 · subst c12
   have H1 : (some 1) = some r := q7_
   clear H
   have H := H1
   clear H1
   obtain rfl := Option.some.inj H
   go_wp2
   go_ret
   exact ⟨eqR, s8q7⟩
 replace c12 := Bool.eq_false_iff.mpr c12
 subst c12
 have H1 : (if (l1_2.length : Int) > 20 then (cost_CheckStats.j1 kj4 a0 true a1_0 a1_1 l1_2 l1_3) else (cost_CheckStats.j1 kj4 a0 (decide ((l1_3.length : Int) > 50)) a1_0 a1_1 l1_2 l1_3)) = some r := q6_
 clear H
 have H := H1
 clear H1
 have HC13 := aM H
 clear H
 go_upto_region 5 with (fail)
 go_cut [36] (fun v36 wc => ∃ (kq : Nat) (x36_12 : Bool), v36 = .bool x36_12 ∧ Aside0 (cost_CheckStats.j1 kq a0 x36_12 a1_0 a1_1 l1_2 l1_3 = some r) ∧ Aside0 (kq ≤ kj4) ∧ Aside0 (wc.heap[gb211]? = some (.cells #[.int .i64 a1_0, .int .i64 a1_1, (.slice A1_2 l1_2.length c1_2), (.slice A1_3 l1_3.length c1_3)] 44 (0, 0))) ∧ Aside0 (Below w.heap.size w wc))
 case first =>
  have H := HC13.out
  clear HC13
  by_cases c14 : (l1_2.length : Int) > 20
  · rw [if_pos c14] at H
    have c14b0 : decide (20 < (l1_2.length : Int)) = true := decide_eq_true c14
    have c14b1 : decide (20 < l1_2.length) = true := decide_eq_true (by omega)
    clear c14
    (first | rw [c14b0] | (simp only [i64_w, i32_w]; rw [c14b0]) | skip)
    have H' := aM H
    clear H
    obtain ⟨hcz15_0, hcz15_1, hcz15_2, hcz15_3, hfz15_0, hfz15_1, hfz15_2, hfz15_3⟩ := cells4 BK211.out
    go_wp2
    go_meet
    case rel => exact ⟨_, (true), q4_, H', ⟨by have := HJ4.out; first | omega | exact Nat.le_refl _⟩, ⟨blkR BK211.out⟩, ⟨s8q7⟩⟩
  rw [if_neg c14] at H
  have c14b0 : decide (20 < (l1_2.length : Int)) = false := decide_eq_false c14
  have c14b1 : decide (20 < l1_2.length) = false := decide_eq_false (by omega)
  clear c14
  (first | rw [c14b0] | (simp only [i64_w, i32_w]; rw [c14b0]) | skip)
  have H' := aM H
  clear H
  obtain ⟨hcz16_0, hcz16_1, hcz16_2, hcz16_3, hfz16_0, hfz16_1, hfz16_2, hfz16_3⟩ := cells4 BK211.out
  go_wp2
  go_meet
  case rel => exact ⟨_, (decide ((l1_3.length : Int) > 50)), q4_, H', ⟨by have := HJ4.out; first | omega | exact Nat.le_refl _⟩, ⟨blkR BK211.out⟩, ⟨s8q7⟩⟩
 clear HC13
 try clear c1
 try clear p2
 try clear c3
 try clear c4
 try clear c8
 try clear c12
 try clear c14
 try clear c14b0
 try clear c14b1
 try clear hcz10_0 hcz10_1 hcz10_2 hcz10_3
 try clear hcz11_0 hcz11_1 hcz11_2 hcz11_3
 try clear hcz15_0 hcz15_1 hcz15_2 hcz15_3
 try clear hcz16_0 hcz16_1 hcz16_2 hcz16_3
 try clear hfz10_0 hfz10_1 hfz10_2 hfz10_3
 try clear hfz11_0 hfz11_1 hfz11_2 hfz11_3
 try clear hfz15_0 hfz15_1 hfz15_2 hfz15_3
 try clear hfz16_0 hfz16_1 hfz16_2 hfz16_3
 try clear p2
 obtain ⟨kq, x36_12, rfl, HA, HJ12, BK211, HB⟩ := hcut
 cases kq with
 | zero => exact absurd HA.out (by simp [cost_CheckStats.j1])
 | succ kj12 => ?_
 have H := HA.out
 clear HA
 simp only [cost_CheckStats.j1] at H
 by_cases c17 : x36_12 = true
 · subst c17
   have H1 : (some 2) = some r := q7_
   clear H
   have H := H1
   clear H1
   obtain rfl := Option.some.inj H
   go_wp2
   go_ret
   exact ⟨eqR, s8q7⟩
 replace c17 := Bool.eq_false_iff.mpr c17
 subst c17
 have H1 : ((cost_checkOften.f kj12 a0 l1_2).bind fun t215 => (if t215 = 0 then ((cost_checkBuckets.f kj12 a0 l1_3).bind fun t216 => (if t216 = 0 then (cost_CheckStats.l0 kj12 a1_1 l1_2 (l1_2.length : Int) 0 a1_0 a1_1 l1_2 l1_3) else (some t216))) else (some t215))) = some r := q6_
 clear H
 have H := H1
 clear H1
 replace H := Option.bind_eq_some_iff.mp H
 obtain ⟨t215, A180, H⟩ := H
 replace H : (if t215 = 0 then ((cost_checkBuckets.f kj12 a0 l1_3).bind fun t216 => (if t216 = 0 then (cost_CheckStats.l0 kj12 a1_1 l1_2 (l1_2.length : Int) 0 a1_0 a1_1 l1_2 l1_3) else (some t216))) else (some t215)) = some r := H
 have A18 := aM A180
 clear A180
 by_cases c19 : t215 = 0
 case neg =>
  rw [if_neg c19] at H
  have c19b0 : (t215 == 0) = false := beq_eq_false_iff_ne.mpr c19
  have c19b1 : (t215 != 0) = true := bne_iff_ne.mpr c19
  obtain rfl := Option.some.inj H
  obtain ⟨hcz47_0, hcz47_1, hcz47_2, hcz47_3, hfz47_0, hfz47_1, hfz47_2, hfz47_3⟩ := cells4 BK211.out
  go_wp2_with (first | ((with_reducible refine gate_callee (f := 76) rfl ?_); refine goesL_ (some 40) rfl rfl Tryd.func76 q5_ rfl #[.int .i64 a0, .slice A1_2 l1_2.length c1_2] rfl q2_ ?_; (with_reducible refine (cost_checkOften.calls kj12 a0 _ _ l1_2 t215 _ ?side1 ?side2 A18.out).mono ?_); (case side1 => repeat (first | exact (Kd.C_below HR1_2.out HB.out) | (with_reducible refine Kd.C_alloc ?_ _) | (with_reducible refine Kd.C_drewN ?_ _) | (with_reducible refine Kd.C_drew ?_))); (case side2 => exact HC1_2.out); rintro e w48 ⟨rfl, hb⟩; refine ⟨_, rfl, ?_⟩; replace BK211 := aM (bbR BK211.out hb); replace HB := aM (below_step s8q7 hb); (try clear hb); (try clear hb2); (try clear hk); (try clear hi)))
  go_ret
  exact ⟨eqR, s8q7⟩
 rw [if_pos c19] at H
 have c19b0 : (t215 == 0) = true := beq_iff_eq.mpr c19
 have c19b1 : (t215 != 0) = false := bne_eq_false_iff_eq.mpr c19
 clear c19
 replace H := Option.bind_eq_some_iff.mp H
 obtain ⟨t216, A200, H⟩ := H
 replace H : (if t216 = 0 then (cost_CheckStats.l0 kj12 a1_1 l1_2 (l1_2.length : Int) 0 a1_0 a1_1 l1_2 l1_3) else (some t216)) = some r := H
 have A20 := aM A200
 clear A200
 by_cases c21 : t216 = 0
 case neg =>
  rw [if_neg c21] at H
  have c21b0 : (t216 == 0) = false := beq_eq_false_iff_ne.mpr c21
  have c21b1 : (t216 != 0) = true := bne_iff_ne.mpr c21
  obtain rfl := Option.some.inj H
  obtain ⟨hcz43_0, hcz43_1, hcz43_2, hcz43_3, hfz43_0, hfz43_1, hfz43_2, hfz43_3⟩ := cells4 BK211.out
  go_wp2_with (first | ((with_reducible refine gate_callee (f := 76) rfl ?_); refine goesL_ (some 40) rfl rfl Tryd.func76 q5_ rfl #[.int .i64 a0, .slice A1_2 l1_2.length c1_2] rfl q2_ ?_; (with_reducible refine (cost_checkOften.calls kj12 a0 _ _ l1_2 t215 _ ?side1 ?side2 A18.out).mono ?_); (case side1 => repeat (first | exact (Kd.C_below HR1_2.out HB.out) | (with_reducible refine Kd.C_alloc ?_ _) | (with_reducible refine Kd.C_drewN ?_ _) | (with_reducible refine Kd.C_drew ?_))); (case side2 => exact HC1_2.out); rintro e w44 ⟨rfl, hb⟩; refine ⟨_, rfl, ?_⟩; replace BK211 := aM (bbR BK211.out hb); replace HB := aM (below_step s8q7 hb); (try clear hb); (try clear hb2); (try clear hk); (try clear hi); obtain ⟨hcz45_0, hcz45_1, hcz45_2, hcz45_3, hfz45_0, hfz45_1, hfz45_2, hfz45_3⟩ := cells4 BK211.out) | ((with_reducible refine gate_callee (f := 77) rfl ?_); refine goesL_ (some 47) rfl rfl Tryd.func77 q5_ rfl #[.int .i64 a0, .slice A1_3 l1_3.length c1_3] rfl q2_ ?_; (with_reducible refine (cost_checkBuckets.calls kj12 a0 _ _ l1_3 t216 _ ?side1 ?side2 A20.out).mono ?_); (case side1 => repeat (first | exact (Kd.C_below HR1_3.out HB.out) | (with_reducible refine Kd.C_alloc ?_ _) | (with_reducible refine Kd.C_drewN ?_ _) | (with_reducible refine Kd.C_drew ?_))); (case side2 => exact HC1_3.out); rintro e w46 ⟨rfl, hb⟩; refine ⟨_, rfl, ?_⟩; replace BK211 := aM (bbR BK211.out hb); replace HB := aM (below_step s8q7 hb); (try clear hb); (try clear hb2); (try clear hk); (try clear hi)))
  go_ret
  exact ⟨eqR, s8q7⟩
 rw [if_pos c21] at H
 have c21b0 : (t216 == 0) = true := beq_iff_eq.mpr c21
 have c21b1 : (t216 != 0) = false := bne_eq_false_iff_eq.mpr c21
 clear c21
 have H' := aM H
 clear H
 obtain ⟨hcz22_0, hcz22_1, hcz22_2, hcz22_3, hfz22_0, hfz22_1, hfz22_2, hfz22_3⟩ := cells4 BK211.out
 go_wp2_with (first | ((with_reducible refine gate_callee (f := 76) rfl ?_); refine goesL_ (some 40) rfl rfl Tryd.func76 q5_ rfl #[.int .i64 a0, .slice A1_2 l1_2.length c1_2] rfl q2_ ?_; (with_reducible refine (cost_checkOften.calls kj12 a0 _ _ l1_2 t215 _ ?side1 ?side2 A18.out).mono ?_); (case side1 => repeat (first | exact (Kd.C_below HR1_2.out HB.out) | (with_reducible refine Kd.C_alloc ?_ _) | (with_reducible refine Kd.C_drewN ?_ _) | (with_reducible refine Kd.C_drew ?_))); (case side2 => exact HC1_2.out); rintro e w23 ⟨rfl, hb⟩; refine ⟨_, rfl, ?_⟩; replace BK211 := aM (bbR BK211.out hb); replace HB := aM (below_step s8q7 hb); (try clear hb); (try clear hb2); (try clear hk); (try clear hi); obtain ⟨hcz24_0, hcz24_1, hcz24_2, hcz24_3, hfz24_0, hfz24_1, hfz24_2, hfz24_3⟩ := cells4 BK211.out) | ((with_reducible refine gate_callee (f := 77) rfl ?_); refine goesL_ (some 47) rfl rfl Tryd.func77 q5_ rfl #[.int .i64 a0, .slice A1_3 l1_3.length c1_3] rfl q2_ ?_; (with_reducible refine (cost_checkBuckets.calls kj12 a0 _ _ l1_3 t216 _ ?side1 ?side2 A20.out).mono ?_); (case side1 => repeat (first | exact (Kd.C_below HR1_3.out HB.out) | (with_reducible refine Kd.C_alloc ?_ _) | (with_reducible refine Kd.C_drewN ?_ _) | (with_reducible refine Kd.C_drew ?_))); (case side2 => exact HC1_3.out); rintro e w25 ⟨rfl, hb⟩; refine ⟨_, rfl, ?_⟩; replace BK211 := aM (bbR BK211.out hb); replace HB := aM (below_step s8q7 hb); (try clear hb); (try clear hb2); (try clear hk); (try clear hi); obtain ⟨hcz26_0, hcz26_1, hcz26_2, hcz26_3, hfz26_0, hfz26_1, hfz26_2, hfz26_3⟩ := cells4 BK211.out))
 go_loopg [7, 56] kj12 (fun kq v7 v56 w' => ∃ (x7_3 : Int) (x56_3 : Int), v7 = .int .i64 x7_3 ∧ v56 = .int .i64 x56_3 ∧ Aside0 (cost_CheckStats.l0 kq x7_3 l1_2 (l1_2.length : Int) x56_3 a1_0 a1_1 l1_2 l1_3 = some r) ∧ Aside0 (kq ≤ kj12) ∧ Aside0 (w'.heap[gb211]? = some (.cells #[.int .i64 a1_0, .int .i64 a1_1, (.slice A1_2 l1_2.length c1_2), (.slice A1_3 l1_3.length c1_3)] 44 (0, 0))) ∧ Aside0 (Below w.heap.size w w'))
 case atStart => exact ⟨(a1_1), (0), q4_, q4_, H', ⟨Nat.le_refl _⟩, ⟨blkR BK211.out⟩, ⟨s8q7⟩⟩
 clear H'
 try clear c1
 try clear c2
 try clear p2
 try clear c3
 try clear c4
 try clear c7
 try clear c8
 try clear c12
 try clear c14
 try clear c14b0
 try clear c14b1
 try clear c17
 try clear c19
 try clear c19b0
 try clear c19b1
 try clear c21
 try clear c21b0
 try clear c21b1
 try clear hcz10_0 hcz10_1 hcz10_2 hcz10_3
 try clear hcz11_0 hcz11_1 hcz11_2 hcz11_3
 try clear hcz15_0 hcz15_1 hcz15_2 hcz15_3
 try clear hcz16_0 hcz16_1 hcz16_2 hcz16_3
 try clear hcz22_0 hcz22_1 hcz22_2 hcz22_3
 try clear hcz24_0 hcz24_1 hcz24_2 hcz24_3
 try clear hcz26_0 hcz26_1 hcz26_2 hcz26_3
 try clear hfz10_0 hfz10_1 hfz10_2 hfz10_3
 try clear hfz11_0 hfz11_1 hfz11_2 hfz11_3
 try clear hfz15_0 hfz15_1 hfz15_2 hfz15_3
 try clear hfz16_0 hfz16_1 hfz16_2 hfz16_3
 try clear hfz22_0 hfz22_1 hfz22_2 hfz22_3
 try clear hfz24_0 hfz24_1 hfz24_2 hfz24_3
 try clear hfz26_0 hfz26_1 hfz26_2 hfz26_3
 try clear p2
 obtain ⟨x7_3, x56_3, rfl, rfl, HA, HK3, BK211, HB⟩ := hrel
 cases gk with
 | zero => exact absurd HA.out (by simp [cost_CheckStats.l0])
 | succ k3 => ?_
 have H := HA.out
 clear HA
 simp only [cost_CheckStats.l0] at H
 by_cases c27 : x56_3 < (l1_2.length : Int)
 · rw [if_pos c27] at H
   have c27b0 : decide (x56_3 < (l1_2.length : Int)) = true := decide_eq_true c27
   clear c27
   by_cases c28 : 0 ≤ x56_3
   case neg =>
    rw [if_neg c28] at H
    exact absurd H (by simp)
   rw [if_pos c28] at H
   have c28b0 : decide (0 ≤ x56_3) = true := decide_eq_true c28
   clear c28
   by_cases c29 : x56_3 < (l1_2.length : Int)
   case neg =>
    rw [if_neg c29] at H
    exact absurd H (by simp)
   rw [if_pos c29] at H
   have c29b0 : decide (x56_3 < (l1_2.length : Int)) = true := decide_eq_true c29
   clear c29
   have H' := aM H
   clear H
   have p217 : 0 ≤ (x56_3 : Int) := of_decide_eq_true q3_
   have q217 : x56_3 < (l1_2.length : Int) := of_decide_eq_true q3_
   obtain ⟨ad217, e217, hx217_0, hx217_1, hx217_2, hx217_3⟩ := at_T100 HR1_2.out x56_3 p217 q217
   cases e217
   replace hx217_0 := up_ HB.out hx217_0
   replace hx217_1 := up_ HB.out hx217_1
   replace hx217_2 := up_ HB.out hx217_2
   replace hx217_3 := up_ HB.out hx217_3
   replace p217 := eq_true p217
   replace q217 := eq_true q217
   go_wp2_with (first | ((with_reducible refine gate_dst (N := 9) rfl ?_); (try (refine gate_guard (by rfl) ?_; dsimp only)); refine box_event ?hg (N := 9) ?hd (cs := #[.int .i64 0, .int .i64 0, .string (⟨#[]⟩ : ByteArray), .int .i64 0]) (t := 100) ?hr ?_; (case hd => rfl); (case hg => rfl); (case hr => first | (go_simp; done) | (go_simp; rfl)); intro gb218 hg w30 hbox hb; have BK218 := aM hbox; have GW218 := aM (s8q10 : w.heap.size ≤ gb218); have GE218 := GW218; have NB211_218 := aM ((by rw [hg]; exact Nat.ne_of_lt (blk_lt (g := gb211) (o := .cells #[.int .i64 a1_0, .int .i64 a1_1, .slice (some ad217) l1_2.length c1_2, .slice A1_3 l1_3.length c1_3] 44 (0, 0)) (blkR BK211.out)) : gb211 ≠ gb218)); have NB218_211 := aM ((by rw [hg]; exact Nat.ne_of_gt (blk_lt (g := gb211) (o := .cells #[.int .i64 a1_0, .int .i64 a1_1, .slice (some ad217) l1_2.length c1_2, .slice A1_3 l1_3.length c1_3] 44 (0, 0)) (blkR BK211.out)) : gb218 ≠ gb211)); replace BK211 := aM (bbR BK211.out hb); replace HB := aM (below_step s8q7 hb); clear hb hbox hg; have hnb31 := NB218_211.out; have hnc31 := NB211_218.out; obtain ⟨hcz32_0, hcz32_1, hcz32_2, hcz32_3, hfz32_0, hfz32_1, hfz32_2, hfz32_3⟩ := cells4 BK218.out))
   first | go_roundg k3 | (refine Handed.intro k3 ?measure ?_; rotate_left; go_step; (repeat apply Exists.intro); simp only [add_plain]; refine ⟨?rel, rfl⟩)
   case measure => have := HJ4.out; have := HJ12.out; have := HK3.out; omega
   case rel => exact ⟨(wrap64 (x7_3 + ((rd_T100 l1_2 x56_3).f1))), (wrap64 (x56_3 + 1)), q4_, q4_, H', ⟨by have := HJ4.out; have := HJ12.out; have := HK3.out; omega⟩, ⟨by (with_reducible repeat (first | refine blk_drewN ?_ _ | refine blk_drew ?_ | refine blk_alloc ?_ _)); refine blk_far ?_ NB211_218.out _; (with_reducible repeat (first | refine blk_drewN ?_ _ | refine blk_drew ?_ | refine blk_alloc ?_ _)); refine blk_far ?_ NB211_218.out _; (with_reducible repeat (first | refine blk_drewN ?_ _ | refine blk_drew ?_ | refine blk_alloc ?_ _)); refine blk_far ?_ NB211_218.out _; (with_reducible repeat (first | refine blk_drewN ?_ _ | refine blk_drew ?_ | refine blk_alloc ?_ _)); refine blk_far ?_ NB211_218.out _; (with_reducible repeat (first | refine blk_drewN ?_ _ | refine blk_drew ?_ | refine blk_alloc ?_ _)); exact BK211.out⟩, ⟨by repeat (first | (with_reducible first | exact HB.out | apply below_alloc | apply pw_below_drewN | apply below_drew1 | refine below_set ?_ GE211.out | refine below_set ?_ GE218.out) | exact HB.out)⟩⟩
 rw [if_neg c27] at H
 have c27b0 : decide (x56_3 < (l1_2.length : Int)) = false := decide_eq_false c27
 clear c27
 have H' := aM H
 clear H
 obtain ⟨hcz33_0, hcz33_1, hcz33_2, hcz33_3, hfz33_0, hfz33_1, hfz33_2, hfz33_3⟩ := cells4 BK211.out
 go_wp2
 go_loopg [7, 68] k3 (fun kq v7 v68 w' => ∃ (x7_4 : Int) (x68_4 : Int), v7 = .int .i64 x7_4 ∧ v68 = .int .i64 x68_4 ∧ Aside0 (cost_CheckStats.l1 kq x7_4 l1_3 (l1_3.length : Int) x68_4 a1_0 a1_1 l1_2 l1_3 = some r) ∧ Aside0 (kq ≤ k3) ∧ Aside0 (w'.heap[gb211]? = some (.cells #[.int .i64 a1_0, .int .i64 a1_1, (.slice A1_2 l1_2.length c1_2), (.slice A1_3 l1_3.length c1_3)] 44 (0, 0))) ∧ Aside0 (Below w.heap.size w w'))
 case atStart => exact ⟨(x7_3), (0), q4_, q4_, H', ⟨Nat.le_refl _⟩, ⟨blkR BK211.out⟩, ⟨s8q7⟩⟩
 clear H'
 try clear c1
 try clear c2
 try clear p2
 try clear q2
 try clear hx2
 try clear c3
 try clear c4
 try clear p6
 try clear c7
 try clear c8
 try clear c12
 try clear c14
 try clear c14b0
 try clear c14b1
 try clear c17
 try clear c19
 try clear c19b0
 try clear c19b1
 try clear c21
 try clear c21b0
 try clear c21b1
 try clear p21
 try clear q21
 try clear hx21
 try clear c27
 try clear c27b0
 try clear c28
 try clear c28b0
 try clear c29
 try clear c29b0
 try clear c31
 try clear hcz10_0 hcz10_1 hcz10_2 hcz10_3
 try clear hcz11_0 hcz11_1 hcz11_2 hcz11_3
 try clear hcz15_0 hcz15_1 hcz15_2 hcz15_3
 try clear hcz16_0 hcz16_1 hcz16_2 hcz16_3
 try clear hcz22_0 hcz22_1 hcz22_2 hcz22_3
 try clear hcz24_0 hcz24_1 hcz24_2 hcz24_3
 try clear hcz26_0 hcz26_1 hcz26_2 hcz26_3
 try clear hcz32_0 hcz32_1 hcz32_2 hcz32_3
 try clear hcz33_0 hcz33_1 hcz33_2 hcz33_3
 try clear hfz10_0 hfz10_1 hfz10_2 hfz10_3
 try clear hfz11_0 hfz11_1 hfz11_2 hfz11_3
 try clear hfz15_0 hfz15_1 hfz15_2 hfz15_3
 try clear hfz16_0 hfz16_1 hfz16_2 hfz16_3
 try clear hfz22_0 hfz22_1 hfz22_2 hfz22_3
 try clear hfz24_0 hfz24_1 hfz24_2 hfz24_3
 try clear hfz26_0 hfz26_1 hfz26_2 hfz26_3
 try clear hfz32_0 hfz32_1 hfz32_2 hfz32_3
 try clear hfz33_0 hfz33_1 hfz33_2 hfz33_3
 try clear hx217_0
 try clear hx217_1
 try clear hx217_2
 try clear hx217_3
 try clear p2
 try clear p217
 try clear q217
 obtain ⟨x7_4, x68_4, rfl, rfl, HA, HK4, BK211, HB⟩ := hrel
 cases gk with
 | zero => exact absurd HA.out (by simp [cost_CheckStats.l1])
 | succ k4 => ?_
 have H := HA.out
 clear HA
 simp only [cost_CheckStats.l1] at H
 by_cases c34 : x68_4 < (l1_3.length : Int)
 case neg =>
  rw [if_neg c34] at H
  have c34b0 : decide (x68_4 < (l1_3.length : Int)) = false := decide_eq_false c34
  clear c34
  by_cases c40 : x7_4 = a1_0
  case neg =>
   rw [if_neg c40] at H
   have c40b0 : (x7_4 == a1_0) = false := beq_eq_false_iff_ne.mpr c40
   have c40b1 : (x7_4 != a1_0) = true := bne_iff_ne.mpr c40
   obtain rfl := Option.some.inj H
   obtain ⟨hcz42_0, hcz42_1, hcz42_2, hcz42_3, hfz42_0, hfz42_1, hfz42_2, hfz42_3⟩ := cells4 BK211.out
   go_wp2
   go_ret
   exact ⟨eqR, s8q7⟩
  rw [if_pos c40] at H
  have c40b0 : (x7_4 == a1_0) = true := beq_iff_eq.mpr c40
  have c40b1 : (x7_4 != a1_0) = false := bne_eq_false_iff_eq.mpr c40
  clear c40
  obtain rfl := Option.some.inj H
  obtain ⟨hcz41_0, hcz41_1, hcz41_2, hcz41_3, hfz41_0, hfz41_1, hfz41_2, hfz41_3⟩ := cells4 BK211.out
  go_wp2
  go_ret
  exact ⟨eqR, s8q7⟩
 rw [if_pos c34] at H
 have c34b0 : decide (x68_4 < (l1_3.length : Int)) = true := decide_eq_true c34
 clear c34
 by_cases c35 : 0 ≤ x68_4
 case neg =>
  rw [if_neg c35] at H
  exact absurd H (by simp)
 rw [if_pos c35] at H
 have c35b0 : decide (0 ≤ x68_4) = true := decide_eq_true c35
 clear c35
 by_cases c36 : x68_4 < (l1_3.length : Int)
 case neg =>
  rw [if_neg c36] at H
  exact absurd H (by simp)
 rw [if_pos c36] at H
 have c36b0 : decide (x68_4 < (l1_3.length : Int)) = true := decide_eq_true c36
 clear c36
 have H' := aM H
 clear H
 have p219 : 0 ≤ (x68_4 : Int) := of_decide_eq_true q3_
 have q219 : x68_4 < (l1_3.length : Int) := of_decide_eq_true q3_
 obtain ⟨ad219, e219, hx219_0, hx219_1, hx219_2, hx219_3, hx219_4, hx219_5, hx219_6, hx219_7⟩ := at_T105 HR1_3.out x68_4 p219 q219
 cases e219
 replace hx219_0 := up_ HB.out hx219_0
 replace hx219_1 := up_ HB.out hx219_1
 replace hx219_2 := up_ HB.out hx219_2
 replace hx219_3 := up_ HB.out hx219_3
 replace hx219_4 := up_ HB.out hx219_4
 replace hx219_5 := up_ HB.out hx219_5
 replace hx219_6 := up_ HB.out hx219_6
 replace hx219_7 := up_ HB.out hx219_7
 replace p219 := eq_true p219
 replace q219 := eq_true q219
 go_wp2_with (first | ((with_reducible refine gate_dst (N := 11) rfl ?_); (try (refine gate_guard (by rfl) ?_; dsimp only)); refine box_event ?hg (N := 11) ?hd (cs := #[.int .i64 0, .int .i64 0, .string (⟨#[]⟩ : ByteArray), .int .i64 0, .int .i64 0, .string (⟨#[]⟩ : ByteArray), .int .i64 0, .int .i64 0]) (t := 105) ?hr ?_; (case hd => rfl); (case hg => rfl); (case hr => first | (go_simp; done) | (go_simp; rfl)); intro gb220 hg w37 hbox hb; have BK220 := aM hbox; have GW220 := aM (s8q10 : w.heap.size ≤ gb220); have GE220 := GW220; have NB211_220 := aM ((by rw [hg]; exact Nat.ne_of_lt (blk_lt (g := gb211) (o := .cells #[.int .i64 a1_0, .int .i64 a1_1, .slice A1_2 l1_2.length c1_2, .slice (some ad219) l1_3.length c1_3] 44 (0, 0)) (blkR BK211.out)) : gb211 ≠ gb220)); have NB220_211 := aM ((by rw [hg]; exact Nat.ne_of_gt (blk_lt (g := gb211) (o := .cells #[.int .i64 a1_0, .int .i64 a1_1, .slice A1_2 l1_2.length c1_2, .slice (some ad219) l1_3.length c1_3] 44 (0, 0)) (blkR BK211.out)) : gb220 ≠ gb211)); replace BK211 := aM (bbR BK211.out hb); replace HB := aM (below_step s8q7 hb); clear hb hbox hg; have hnb38 := NB220_211.out; have hnc38 := NB211_220.out; obtain ⟨hcz39_0, hcz39_1, hcz39_2, hcz39_3, hcz39_4, hcz39_5, hcz39_6, hcz39_7, hfz39_0, hfz39_1, hfz39_2, hfz39_3, hfz39_4, hfz39_5, hfz39_6, hfz39_7⟩ := cells8 BK220.out))
 first | go_roundg k4 | (refine Handed.intro k4 ?measure ?_; rotate_left; go_step; (repeat apply Exists.intro); simp only [add_plain]; refine ⟨?rel, rfl⟩)
 case measure => have := HJ4.out; have := HJ12.out; have := HK3.out; have := HK4.out; omega
 case rel => exact ⟨(wrap64 (x7_4 + ((rd_T105 l1_3 x68_4).f2))), (wrap64 (x68_4 + 1)), q4_, q4_, H', ⟨by have := HJ4.out; have := HJ12.out; have := HK3.out; have := HK4.out; omega⟩, ⟨by (with_reducible repeat (first | refine blk_drewN ?_ _ | refine blk_drew ?_ | refine blk_alloc ?_ _)); refine blk_far ?_ NB211_220.out _; (with_reducible repeat (first | refine blk_drewN ?_ _ | refine blk_drew ?_ | refine blk_alloc ?_ _)); refine blk_far ?_ NB211_220.out _; (with_reducible repeat (first | refine blk_drewN ?_ _ | refine blk_drew ?_ | refine blk_alloc ?_ _)); refine blk_far ?_ NB211_220.out _; (with_reducible repeat (first | refine blk_drewN ?_ _ | refine blk_drew ?_ | refine blk_alloc ?_ _)); refine blk_far ?_ NB211_220.out _; (with_reducible repeat (first | refine blk_drewN ?_ _ | refine blk_drew ?_ | refine blk_alloc ?_ _)); refine blk_far ?_ NB211_220.out _; (with_reducible repeat (first | refine blk_drewN ?_ _ | refine blk_drew ?_ | refine blk_alloc ?_ _)); refine blk_far ?_ NB211_220.out _; (with_reducible repeat (first | refine blk_drewN ?_ _ | refine blk_drew ?_ | refine blk_alloc ?_ _)); refine blk_far ?_ NB211_220.out _; (with_reducible repeat (first | refine blk_drewN ?_ _ | refine blk_drew ?_ | refine blk_alloc ?_ _)); refine blk_far ?_ NB211_220.out _; (with_reducible repeat (first | refine blk_drewN ?_ _ | refine blk_drew ?_ | refine blk_alloc ?_ _)); exact BK211.out⟩, ⟨by repeat (first | (with_reducible first | exact HB.out | apply below_alloc | apply pw_below_drewN | apply below_drew1 | refine below_set ?_ GE211.out | refine below_set ?_ GE220.out) | exact HB.out)⟩⟩
/-! ### cost_often: function 58 -/
def cost_often.l0 : Nat → List (S100) → Int → Int → Int → Int → ByteArray → Option (Int × Bool)
  | 0, _, _, _, _, _, _ => none
  | k + 1, x8, x9, x10, x222000, x222001, x222002 => if x10 < x9 then (if 0 ≤ x10 then (if x10 < (x8.length : Int) then (if (((rd_T100 x8 x10).f0.f0) == x222000 && (((rd_T100 x8 x10).f0.f1) == x222001 && ((((rd_T100 x8 x10).f0.f2).toList) == x222002.toList))) = true then (some ((rd_T100 x8 x10).f1, true)) else (cost_often.l0 k x8 x9 (wrap64 (x10 + 1)) x222000 x222001 x222002)) else (none)) else (none)) else (some (0, false))
def cost_often.f (k : Nat) (l0 : List (S100)) (a1_0 : Int) (a1_1 : Int) (a1_2 : ByteArray) : Option (Int × Bool) := cost_often.l0 k l0 (l0.length : Int) 0 a1_0 a1_1 a1_2
theorem cost_often.mono_l : ∀ k, (∀ y0 y1 y2 y3 y4 y5, LeO (cost_often.l0 k y0 y1 y2 y3 y4 y5) (cost_often.l0 (k + 1) y0 y1 y2 y3 y4 y5))
  | 0 => fun _ _ _ _ _ _ r h => by simp [cost_often.l0] at h
  | k + 1 => by
    have ih0 := cost_often.mono_l k
    · intro y0 y1 y2 y3 y4 y5
      unfold cost_often.l0
      repeat' first | (with_reducible exact ih0 _ _ _ _ _ _) | (with_reducible exact LeO.refl _) | (with_reducible exact LeO.none _) | (with_reducible refine LeO.ite ?_ ?_) | (with_reducible refine LeO.bind ?_ (fun _ => ?_)) | exact ih0 _ _ _ _ _ _ | exact LeO.none _ | refine LeO.ite ?_ ?_ | refine LeO.bind ?_ (fun _ => ?_)
theorem cost_often.mono : ∀ a0 a1 a2 a3 k, LeO (cost_often.f k a0 a1 a2 a3) (cost_often.f (k + 1) a0 a1 a2 a3) := by
 intro a0 a1 a2 a3 k
 have ih0 := cost_often.mono_l k
 unfold cost_often.f
 repeat' first
  | (with_reducible exact ih0 _ _ _ _ _ _)
  | (with_reducible exact LeO.refl _)
  | (with_reducible exact LeO.none _)
  | (with_reducible refine LeO.ite ?_ ?_)
  | (with_reducible refine LeO.bind ?_ (fun _ => ?_))
  | exact ih0 _ _ _ _ _ _
  | exact LeO.none _
  | refine LeO.ite ?_ ?_
  | refine LeO.bind ?_ (fun _ => ?_)
set_option maxHeartbeats 8000000 in
set_option maxRecDepth 100000 in
theorem cost_often.calls (k : Nat) (A0 : Option Addr) (c0 : Nat) (l0 : List (S100)) (a1_0 : Int) (a1_1 : Int) (a1_2 : ByteArray) (r1 : Int) (r2 : Bool) (w : World) (hr0 : Kd.C k100 w A0 l0.length l0) (hc0 : l0.length ≤ c0) (h : cost_often.f k l0 a1_0 a1_1 a1_2 = some (r1, r2)) :
    Calls Tryd.prog 58 #[.slice A0 l0.length c0, .agg #[.int .i64 a1_0, .int .i64 a1_1, .string a1_2]] w fun e w' => e = .returned (.tuple #[.int .i64 r1, .bool r2]) ∧ Below w.heap.size w w' := by
 have hu48 := Tryd.underlying48
 have hu100 := Tryd.underlying100
 have HR0 := aM hr0
 have HC0 := aM hc0
 clear hr0 hc0
 have HB := aM (Below.refl w.heap.size w)
 have H : (cost_often.l0 k l0 (l0.length : Int) 0 a1_0 a1_1 a1_2) = some (r1, r2) := h
 clear h
 have H' := aM H
 clear H
 go_enter Tryd.func58, Tryd.ntmps58
 go_wp2_with (first | ((with_reducible refine gate_dst (N := 3) rfl ?_); refine box_event ?hg (N := 3) ?hd (cs := #[.int .i64 a1_0, .int .i64 a1_1, .string a1_2]) (t := 48) ?hr ?_; (case hd => rfl); (case hg => rfl); (case hr => first | (go_simp; done) | (go_simp; rfl)); intro gb221 hg w3 hbox hb; have BK221 := aM hbox; have GW221 := aM (s8q9 : w.heap.size ≤ gb221); have GE221 := GW221; replace HB := aM (below_step q1_ hb); clear hb hbox hg))
 go_loopg [10] k (fun kq v10 w' => ∃ (x10_1 : Int), v10 = .int .i64 x10_1 ∧ Aside0 (cost_often.l0 kq l0 (l0.length : Int) x10_1 a1_0 a1_1 a1_2 = some (r1, r2)) ∧ Aside0 (kq ≤ k) ∧ Aside0 (w'.heap[gb221]? = some (.cells #[.int .i64 a1_0, .int .i64 a1_1, .string a1_2] 48 (0, 0))) ∧ Aside0 (Below w.heap.size w w'))
 case atStart => exact ⟨(0), q4_, H', ⟨Nat.le_refl _⟩, ⟨blkR BK221.out⟩, ⟨s8q8⟩⟩
 clear H'
 try clear p2
 obtain ⟨x10_1, rfl, HA, HK1, BK221, HB⟩ := hrel
 cases gk with
 | zero => exact absurd HA.out (by simp [cost_often.l0])
 | succ k1 => ?_
 have H := HA.out
 clear HA
 simp only [cost_often.l0] at H
 by_cases c4 : x10_1 < (l0.length : Int)
 case neg =>
  rw [if_neg c4] at H
  have c4b0 : decide (x10_1 < (l0.length : Int)) = false := decide_eq_false c4
  clear c4
  simp only [Option.some.injEq, Prod.mk.injEq] at H
  obtain ⟨rfl, rfl⟩ := H
  go_wp2
  go_ret2
  exact ⟨eqR, s8q8⟩
 rw [if_pos c4] at H
 have c4b0 : decide (x10_1 < (l0.length : Int)) = true := decide_eq_true c4
 clear c4
 by_cases c5 : 0 ≤ x10_1
 case neg =>
  rw [if_neg c5] at H
  exact absurd H (by simp)
 rw [if_pos c5] at H
 have c5b0 : decide (0 ≤ x10_1) = true := decide_eq_true c5
 clear c5
 by_cases c6 : x10_1 < (l0.length : Int)
 case neg =>
  rw [if_neg c6] at H
  exact absurd H (by simp)
 rw [if_pos c6] at H
 have c6b0 : decide (x10_1 < (l0.length : Int)) = true := decide_eq_true c6
 clear c6
 by_cases c7 : (((rd_T100 l0 x10_1).f0.f0) == a1_0 && (((rd_T100 l0 x10_1).f0.f1) == a1_1 && ((((rd_T100 l0 x10_1).f0.f2).toList) == a1_2.toList))) = true
 · rw [if_pos c7] at H
   have c7b0 : (((rd_T100 l0 x10_1).f0.f0) == a1_0 && (((rd_T100 l0 x10_1).f0.f1) == a1_1 && ((((rd_T100 l0 x10_1).f0.f2).toList) == a1_2.toList))) = true := c7
   (try (have c7b1 : decide (((rd_T100 l0 x10_1).f0.f0) = a1_0 && (((rd_T100 l0 x10_1).f0.f1) == a1_1 && ((((rd_T100 l0 x10_1).f0.f2).toList) == a1_2.toList))) = true := by simpa using c7))
   (try (have c7b2 : (((rd_T100 l0 x10_1).f0.f0) == a1_0 && (((rd_T100 l0 x10_1).f0.f1) == a1_1 && ((((rd_T100 l0 x10_1).f0.f2).toList) == a1_2.toList))) = true := by simpa using c7))
   clear c7
   simp only [Option.some.injEq, Prod.mk.injEq] at H
   obtain ⟨rfl, rfl⟩ := H
   have p222 : 0 ≤ (x10_1 : Int) := of_decide_eq_true q3_
   have q222 : x10_1 < (l0.length : Int) := of_decide_eq_true q3_
   obtain ⟨ad222, e222, hx222_0, hx222_1, hx222_2, hx222_3⟩ := at_T100 HR0.out x10_1 p222 q222
   cases e222
   replace hx222_0 := up_ HB.out hx222_0
   replace hx222_1 := up_ HB.out hx222_1
   replace hx222_2 := up_ HB.out hx222_2
   replace hx222_3 := up_ HB.out hx222_3
   replace p222 := eq_true p222
   replace q222 := eq_true q222
   go_wp2_with (first | ((with_reducible refine gate_dst (N := 7) rfl ?_); refine box_event ?hg (N := 7) ?hd (cs := #[.int .i64 0, .int .i64 0, .string (⟨#[]⟩ : ByteArray), .int .i64 0]) (t := 100) ?hr ?_; (case hd => rfl); (case hg => rfl); (case hr => first | (go_simp; done) | (go_simp; rfl)); intro gb223 hg w8 hbox hb; have BK223 := aM hbox; have GW223 := aM (s8q11 : w.heap.size ≤ gb223); have GE223 := GW223; have NB221_223 := aM (s8q13 : gb221 ≠ gb223); have NB223_221 := aM (s8q12 : gb223 ≠ gb221); replace BK221 := aM (bbR BK221.out hb); replace HB := aM (below_step s8q8 hb); clear hb hbox hg; have hnb9 := NB223_221.out; have hnc9 := NB221_223.out; obtain ⟨hcz10_0, hcz10_1, hcz10_2, hcz10_3, hfz10_0, hfz10_1, hfz10_2, hfz10_3⟩ := cells4 BK223.out; obtain ⟨hcz11_0, hcz11_1, hcz11_2, hfz11_0, hfz11_1, hfz11_2⟩ := cells3 BK221.out))
   go_ret2
   exact ⟨eqR, s8z2⟩
 rw [if_neg c7] at H
 have c7b0 : (((rd_T100 l0 x10_1).f0.f0) == a1_0 && (((rd_T100 l0 x10_1).f0.f1) == a1_1 && ((((rd_T100 l0 x10_1).f0.f2).toList) == a1_2.toList))) = false := by simpa using c7
 (try (have c7b1 : decide (((rd_T100 l0 x10_1).f0.f0) = a1_0 && (((rd_T100 l0 x10_1).f0.f1) == a1_1 && ((((rd_T100 l0 x10_1).f0.f2).toList) == a1_2.toList))) = false := by simpa using c7))
 (try (have c7b2 : (((rd_T100 l0 x10_1).f0.f0) == a1_0 && (((rd_T100 l0 x10_1).f0.f1) == a1_1 && ((((rd_T100 l0 x10_1).f0.f2).toList) == a1_2.toList))) = false := by simpa using c7))
 (try (have c7b3 : ¬ (((rd_T100 l0 x10_1).f0.f0) = a1_0 && (((rd_T100 l0 x10_1).f0.f1) == a1_1 && ((((rd_T100 l0 x10_1).f0.f2).toList) == a1_2.toList))) := by simpa using c7))
 clear c7
 have H' := aM H
 clear H
 have p222 : 0 ≤ (x10_1 : Int) := of_decide_eq_true q3_
 have q222 : x10_1 < (l0.length : Int) := of_decide_eq_true q3_
 obtain ⟨ad222, e222, hx222_0, hx222_1, hx222_2, hx222_3⟩ := at_T100 HR0.out x10_1 p222 q222
 cases e222
 replace hx222_0 := up_ HB.out hx222_0
 replace hx222_1 := up_ HB.out hx222_1
 replace hx222_2 := up_ HB.out hx222_2
 replace hx222_3 := up_ HB.out hx222_3
 replace p222 := eq_true p222
 replace q222 := eq_true q222
 go_wp2_with (first | ((with_reducible refine gate_dst (N := 7) rfl ?_); refine box_event ?hg (N := 7) ?hd (cs := #[.int .i64 0, .int .i64 0, .string (⟨#[]⟩ : ByteArray), .int .i64 0]) (t := 100) ?hr ?_; (case hd => rfl); (case hg => rfl); (case hr => first | (go_simp; done) | (go_simp; rfl)); intro gb223 hg w12 hbox hb; have BK223 := aM hbox; have GW223 := aM (s8q11 : w.heap.size ≤ gb223); have GE223 := GW223; have NB221_223 := aM (s8q13 : gb221 ≠ gb223); have NB223_221 := aM (s8q12 : gb223 ≠ gb221); replace BK221 := aM (bbR BK221.out hb); replace HB := aM (below_step s8q8 hb); clear hb hbox hg; have hnb13 := NB223_221.out; have hnc13 := NB221_223.out; obtain ⟨hcz14_0, hcz14_1, hcz14_2, hcz14_3, hfz14_0, hfz14_1, hfz14_2, hfz14_3⟩ := cells4 BK223.out; obtain ⟨hcz15_0, hcz15_1, hcz15_2, hfz15_0, hfz15_1, hfz15_2⟩ := cells3 BK221.out))
 first | go_roundg k1 | (refine Handed.intro k1 ?measure ?_; rotate_left; go_step; (repeat apply Exists.intro); simp only [add_plain]; refine ⟨?rel, rfl⟩)
 case measure => have := HK1.out; omega
 case rel => exact ⟨(wrap64 (x10_1 + 1)), q4_, H', ⟨by have := HK1.out; omega⟩, ⟨by (with_reducible repeat (first | refine blk_drewN ?_ _ | refine blk_drew ?_ | refine blk_alloc ?_ _)); refine blk_far ?_ NB221_223.out _; (with_reducible repeat (first | refine blk_drewN ?_ _ | refine blk_drew ?_ | refine blk_alloc ?_ _)); refine blk_far ?_ NB221_223.out _; (with_reducible repeat (first | refine blk_drewN ?_ _ | refine blk_drew ?_ | refine blk_alloc ?_ _)); refine blk_far ?_ NB221_223.out _; (with_reducible repeat (first | refine blk_drewN ?_ _ | refine blk_drew ?_ | refine blk_alloc ?_ _)); refine blk_far ?_ NB221_223.out _; (with_reducible repeat (first | refine blk_drewN ?_ _ | refine blk_drew ?_ | refine blk_alloc ?_ _)); exact BK221.out⟩, ⟨s8z2⟩⟩
end Go.Proofs.YtgcijejmmhjibaaDoor.J
