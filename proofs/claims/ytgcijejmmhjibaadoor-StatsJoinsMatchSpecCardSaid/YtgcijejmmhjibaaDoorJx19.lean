-- Printed by a program of this session (a patched print).
import Derived.Test.YtgcijejmmhjibaaDoorJx0
import Derived.Test.YtgcijejmmhjibaaDoorJx5
import Derived.Test.YtgcijejmmhjibaaDoorJx10
import Derived.Test.YtgcijejmmhjibaaDoorJx18
namespace Go.Proofs.YtgcijejmmhjibaaDoor.J
open Go.RowKit Go.Proofs.YtgcijejmmhjibaaDoorW.PrintWords Go.Proofs.YtgcijejmmhjibaaDoorW.PrintLast Go.Proofs.YtgcijejmmhjibaaDoorW.PrintMore
attribute [local go_sem] max2_int min2_int max_two min_two max_three min_three max_four min_four   -- for this text's walks alone
set_option linter.unusedVariables false
set_option linter.unusedSimpArgs false

theorem s19q4 {p : Prop} (h : p := by repeat (first | (with_reducible first | exact HB.out | apply below_alloc | apply pw_below_drewN | apply below_drew1 | refine below_set ?_ GE337.out) | exact HB.out)) : p := h
theorem s19q5 {p : Prop} (h : p := by repeat (first | (with_reducible first | exact HB.out | apply below_alloc | apply pw_below_drewN | apply below_drew1 | refine below_set ?_ GE337.out | refine below_set ?_ GE338.out) | exact HB.out)) : p := h
/-! ### peristylelaw10_StatsJoinsMatchSpec: function 7 -/
def peristylelaw10_StatsJoinsMatchSpec.j0 : Nat → Int → Int → Int → Bool → Int → Int → List (S100) → List (S105) → Int → Int → List (S100) → List (S105) → Option (Bool)
  | 0, _, _, _, _, _, _, _, _, _, _, _, _ => none
  | k + 1, x0, x7, x8, x33, x338000, x338001, x338002, x338003, x339000, x339001, x339002, x339003 => if x33 = true then (some false) else (if x8 = 0 then (if (wrap64 ((x338003.length : Int) + (x339003.length : Int))) > 0 then ((peristylelaw10_awake.f k).bind fun t344 => (some t344)) else ((cost_JoinRows.f k x0 x339000 x339001 x339002 x339003 x338000 x338001 x338002 x338003).bind fun bt345 => (if bt345.2 = 0 then (if bt345.1 = x7 then ((peristylelaw10_awake.f k).bind fun t347 => (some t347)) else (some false)) else (some false)))) else (if x7 = 0 then ((peristylelaw10_awake.f k).bind fun t343 => (some t343)) else (some false)))
def peristylelaw10_StatsJoinsMatchSpec.f (k : Nat) (a0 : Int) (a1_0 : Int) (a1_1 : Int) (l1_2 : List (S100)) (l1_3 : List (S105)) (a2_0 : Int) (a2_1 : Int) (l2_2 : List (S100)) (l2_3 : List (S105)) : Option (Bool) := (cost_JoinRows.f k a0 a1_0 a1_1 l1_2 l1_3 a2_0 a2_1 l2_2 l2_3).bind fun bt339 => ((peristyleref10_JoinRows.f k a0 a1_0 a1_1 l1_2 l1_3 a2_0 a2_1 l2_2 l2_3).bind fun bt341 => (if bt339.2 = bt341.2 then (peristylelaw10_StatsJoinsMatchSpec.j0 k a0 bt339.1 bt339.2 (bt339.1 != bt341.1) a1_0 a1_1 l1_2 l1_3 a2_0 a2_1 l2_2 l2_3) else (peristylelaw10_StatsJoinsMatchSpec.j0 k a0 bt339.1 bt339.2 true a1_0 a1_1 l1_2 l1_3 a2_0 a2_1 l2_2 l2_3)))
theorem peristylelaw10_StatsJoinsMatchSpec.mono_l : ∀ k, (∀ y0 y1 y2 y3 y4 y5 y6 y7 y8 y9 y10 y11, LeO (peristylelaw10_StatsJoinsMatchSpec.j0 k y0 y1 y2 y3 y4 y5 y6 y7 y8 y9 y10 y11) (peristylelaw10_StatsJoinsMatchSpec.j0 (k + 1) y0 y1 y2 y3 y4 y5 y6 y7 y8 y9 y10 y11))
  | 0 => fun _ _ _ _ _ _ _ _ _ _ _ _ r h => by simp [peristylelaw10_StatsJoinsMatchSpec.j0] at h
  | k + 1 => by
    have ih0 := peristylelaw10_StatsJoinsMatchSpec.mono_l k
    · intro y0 y1 y2 y3 y4 y5 y6 y7 y8 y9 y10 y11
      unfold peristylelaw10_StatsJoinsMatchSpec.j0
      repeat' first | (with_reducible exact ih0 _ _ _ _ _ _ _ _ _ _ _ _) | (with_reducible exact cost_JoinRows.mono _ _ _ _ _ _ _ _ _ _) | (with_reducible exact peristylelaw10_awake.mono _) | (with_reducible exact peristyleref10_JoinRows.mono _ _ _ _ _ _ _ _ _ _) | (with_reducible exact LeO.refl _) | (with_reducible exact LeO.none _) | (with_reducible refine LeO.ite ?_ ?_) | (with_reducible refine LeO.bind ?_ (fun _ => ?_)) | exact ih0 _ _ _ _ _ _ _ _ _ _ _ _ | exact cost_JoinRows.mono _ _ _ _ _ _ _ _ _ _ | exact peristylelaw10_awake.mono _ | exact peristyleref10_JoinRows.mono _ _ _ _ _ _ _ _ _ _ | exact LeO.none _ | refine LeO.ite ?_ ?_ | refine LeO.bind ?_ (fun _ => ?_)
theorem peristylelaw10_StatsJoinsMatchSpec.mono : ∀ a0 a1 a2 a3 a4 a5 a6 a7 a8 k, LeO (peristylelaw10_StatsJoinsMatchSpec.f k a0 a1 a2 a3 a4 a5 a6 a7 a8) (peristylelaw10_StatsJoinsMatchSpec.f (k + 1) a0 a1 a2 a3 a4 a5 a6 a7 a8) := by
 intro a0 a1 a2 a3 a4 a5 a6 a7 a8 k
 have ih0 := peristylelaw10_StatsJoinsMatchSpec.mono_l k
 unfold peristylelaw10_StatsJoinsMatchSpec.f
 repeat' first
  | (with_reducible exact ih0 _ _ _ _ _ _ _ _ _ _ _ _)
  | (with_reducible exact cost_JoinRows.mono _ _ _ _ _ _ _ _ _ _)
  | (with_reducible exact peristylelaw10_awake.mono _)
  | (with_reducible exact peristyleref10_JoinRows.mono _ _ _ _ _ _ _ _ _ _)
  | (with_reducible exact LeO.refl _)
  | (with_reducible exact LeO.none _)
  | (with_reducible refine LeO.ite ?_ ?_)
  | (with_reducible refine LeO.bind ?_ (fun _ => ?_))
  | exact ih0 _ _ _ _ _ _ _ _ _ _ _ _
  | exact cost_JoinRows.mono _ _ _ _ _ _ _ _ _ _
  | exact peristylelaw10_awake.mono _
  | exact peristyleref10_JoinRows.mono _ _ _ _ _ _ _ _ _ _
  | exact LeO.none _
  | refine LeO.ite ?_ ?_
  | refine LeO.bind ?_ (fun _ => ?_)
set_option maxHeartbeats 8000000 in
set_option maxRecDepth 100000 in
theorem peristylelaw10_StatsJoinsMatchSpec.calls (k : Nat) (a0 : Int) (a1_0 : Int) (a1_1 : Int) (A1_2 : Option Addr) (c1_2 : Nat) (l1_2 : List (S100)) (A1_3 : Option Addr) (c1_3 : Nat) (l1_3 : List (S105)) (a2_0 : Int) (a2_1 : Int) (A2_2 : Option Addr) (c2_2 : Nat) (l2_2 : List (S100)) (A2_3 : Option Addr) (c2_3 : Nat) (l2_3 : List (S105)) (r : Bool) (w : World) (hr1_2 : Kd.C k100 w A1_2 l1_2.length l1_2) (hc1_2 : l1_2.length ≤ c1_2) (hr1_3 : Kd.C k105 w A1_3 l1_3.length l1_3) (hc1_3 : l1_3.length ≤ c1_3) (hr2_2 : Kd.C k100 w A2_2 l2_2.length l2_2) (hc2_2 : l2_2.length ≤ c2_2) (hr2_3 : Kd.C k105 w A2_3 l2_3.length l2_3) (hc2_3 : l2_3.length ≤ c2_3) (hG : Glob w) (h : peristylelaw10_StatsJoinsMatchSpec.f k a0 a1_0 a1_1 l1_2 l1_3 a2_0 a2_1 l2_2 l2_3 = some r) :
    Calls Tryd.prog 7 #[.int .i64 a0, .agg #[.int .i64 a1_0, .int .i64 a1_1, .slice A1_2 l1_2.length c1_2, .slice A1_3 l1_3.length c1_3], .agg #[.int .i64 a2_0, .int .i64 a2_1, .slice A2_2 l2_2.length c2_2, .slice A2_3 l2_3.length c2_3]] w fun e w' => e = .returned (.bool r) ∧ Below w.heap.size w w' := by
 have hu44 := Tryd.underlying44
 have HG := aM hG
 clear hG
 have HR1_2 := aM hr1_2
 have HC1_2 := aM hc1_2
 clear hr1_2 hc1_2
 have HR1_3 := aM hr1_3
 have HC1_3 := aM hc1_3
 clear hr1_3 hc1_3
 have HR2_2 := aM hr2_2
 have HC2_2 := aM hc2_2
 clear hr2_2 hc2_2
 have HR2_3 := aM hr2_3
 have HC2_3 := aM hc2_3
 clear hr2_3 hc2_3
 have HB := aM (Below.refl w.heap.size w)
 have H : ((cost_JoinRows.f k a0 a1_0 a1_1 l1_2 l1_3 a2_0 a2_1 l2_2 l2_3).bind fun bt339 => ((peristyleref10_JoinRows.f k a0 a1_0 a1_1 l1_2 l1_3 a2_0 a2_1 l2_2 l2_3).bind fun bt341 => (if bt339.2 = bt341.2 then (peristylelaw10_StatsJoinsMatchSpec.j0 k a0 bt339.1 bt339.2 (bt339.1 != bt341.1) a1_0 a1_1 l1_2 l1_3 a2_0 a2_1 l2_2 l2_3) else (peristylelaw10_StatsJoinsMatchSpec.j0 k a0 bt339.1 bt339.2 true a1_0 a1_1 l1_2 l1_3 a2_0 a2_1 l2_2 l2_3)))) = some r := h
 clear h
 replace H := Option.bind_eq_some_iff.mp H
 obtain ⟨⟨t339, t340⟩, A40, H⟩ := H
 replace H : ((peristyleref10_JoinRows.f k a0 a1_0 a1_1 l1_2 l1_3 a2_0 a2_1 l2_2 l2_3).bind fun bt341 => (if t340 = bt341.2 then (peristylelaw10_StatsJoinsMatchSpec.j0 k a0 t339 t340 (t339 != bt341.1) a1_0 a1_1 l1_2 l1_3 a2_0 a2_1 l2_2 l2_3) else (peristylelaw10_StatsJoinsMatchSpec.j0 k a0 t339 t340 true a1_0 a1_1 l1_2 l1_3 a2_0 a2_1 l2_2 l2_3))) = some r := H
 have A4 := aM A40
 clear A40
 replace H := Option.bind_eq_some_iff.mp H
 obtain ⟨⟨t341, t342⟩, A50, H⟩ := H
 replace H : (if t340 = t342 then (peristylelaw10_StatsJoinsMatchSpec.j0 k a0 t339 t340 (t339 != t341) a1_0 a1_1 l1_2 l1_3 a2_0 a2_1 l2_2 l2_3) else (peristylelaw10_StatsJoinsMatchSpec.j0 k a0 t339 t340 true a1_0 a1_1 l1_2 l1_3 a2_0 a2_1 l2_2 l2_3)) = some r := H
 have A5 := aM A50
 clear A50
 have HC6 := aM H
 clear H
 go_enter Tryd.func7, Tryd.ntmps7
 go_upto_region 3 with (first | ((with_reducible refine gate_dst (N := 4) rfl ?_); refine box_event ?hg (N := 4) ?hd (cs := #[.int .i64 a1_0, .int .i64 a1_1, .slice A1_2 l1_2.length c1_2, .slice A1_3 l1_3.length c1_3]) (t := 44) ?hr ?_; (case hd => rfl); (case hg => rfl); (case hr => first | (go_simp; done) | (go_simp; rfl)); intro gb337 hg w7 hbox hb; have BK337 := aM hbox; have GW337 := aM (((by rw [hg]; exact (below_size q1_)) : w.heap.size ≤ gb337)); have GE337 := GW337; replace HB := aM (below_step q1_ hb); clear hb hbox hg) | ((with_reducible refine gate_dst (N := 5) rfl ?_); refine box_event ?hg (N := 5) ?hd (cs := #[.int .i64 a2_0, .int .i64 a2_1, .slice A2_2 l2_2.length c2_2, .slice A2_3 l2_3.length c2_3]) (t := 44) ?hr ?_; (case hd => rfl); (case hg => rfl); (case hr => first | (go_simp; done) | (go_simp; rfl)); intro gb338 hg w8 hbox hb; have BK338 := aM hbox; have GW338 := aM (((by rw [hg]; exact (below_size s19q4)) : w.heap.size ≤ gb338)); have GE338 := GW338; have NB337_338 := aM ((by rw [hg]; exact Nat.ne_of_lt (blk_lt (g := gb337) (o := .cells #[.int .i64 a1_0, .int .i64 a1_1, .slice A1_2 l1_2.length c1_2, .slice A1_3 l1_3.length c1_3] 44 (0, 0)) (blkR BK337.out)) : gb337 ≠ gb338)); have NB338_337 := aM ((by rw [hg]; exact Nat.ne_of_gt (blk_lt (g := gb337) (o := .cells #[.int .i64 a1_0, .int .i64 a1_1, .slice A1_2 l1_2.length c1_2, .slice A1_3 l1_3.length c1_3] 44 (0, 0)) (blkR BK337.out)) : gb338 ≠ gb337)); replace BK337 := aM (bbR BK337.out hb); replace HB := aM (below_step s19q4 hb); clear hb hbox hg; have hnb9 := NB337_338.out; have hnc9 := NB338_337.out; obtain ⟨hcz10_0, hcz10_1, hcz10_2, hcz10_3, hfz10_0, hfz10_1, hfz10_2, hfz10_3⟩ := cells4 BK337.out; obtain ⟨hcz11_0, hcz11_1, hcz11_2, hcz11_3, hfz11_0, hfz11_1, hfz11_2, hfz11_3⟩ := cells4 BK338.out) | ((with_reducible refine gate_callee (f := 28) rfl ?_); refine goesL_ (some 16) rfl rfl Tryd.func28 (by kernel_rfl) rfl #[.int .i64 a0, .agg #[.int .i64 a1_0, .int .i64 a1_1, .slice A1_2 l1_2.length c1_2, .slice A1_3 l1_3.length c1_3], .agg #[.int .i64 a2_0, .int .i64 a2_1, .slice A2_2 l2_2.length c2_2, .slice A2_3 l2_3.length c2_3]] rfl q2_ ?_; (with_reducible refine (cost_JoinRows.calls k a0 a1_0 a1_1 _ _ l1_2 _ _ l1_3 a2_0 a2_1 _ _ l2_2 _ _ l2_3 t339 t340 _ ?side1 ?side2 ?side3 ?side4 ?side5 ?side6 ?side7 ?side8 A4.out).mono ?_); (case side1 => repeat (first | exact (Kd.C_below HR1_2.out HB.out) | (with_reducible refine Kd.C_alloc ?_ _) | (with_reducible refine Kd.C_drewN ?_ _) | (with_reducible refine Kd.C_drew ?_))); (case side2 => exact HC1_2.out); (case side3 => repeat (first | exact (Kd.C_below HR1_3.out HB.out) | (with_reducible refine Kd.C_alloc ?_ _) | (with_reducible refine Kd.C_drewN ?_ _) | (with_reducible refine Kd.C_drew ?_))); (case side4 => exact HC1_3.out); (case side5 => repeat (first | exact (Kd.C_below HR2_2.out HB.out) | (with_reducible refine Kd.C_alloc ?_ _) | (with_reducible refine Kd.C_drewN ?_ _) | (with_reducible refine Kd.C_drew ?_))); (case side6 => exact HC2_2.out); (case side7 => repeat (first | exact (Kd.C_below HR2_3.out HB.out) | (with_reducible refine Kd.C_alloc ?_ _) | (with_reducible refine Kd.C_drewN ?_ _) | (with_reducible refine Kd.C_drew ?_))); (case side8 => exact HC2_3.out); rintro e w12 ⟨rfl, hb⟩; refine ⟨_, rfl, ?_⟩; replace BK337 := aM (bbR BK337.out hb); replace BK338 := aM (bbR BK338.out hb); replace HB := aM (below_step s19q5 hb); (try clear hb); (try clear hb2); (try clear hk); (try clear hi); obtain ⟨hcz13_0, hcz13_1, hcz13_2, hcz13_3, hfz13_0, hfz13_1, hfz13_2, hfz13_3⟩ := cells4 BK337.out; obtain ⟨hcz14_0, hcz14_1, hcz14_2, hcz14_3, hfz14_0, hfz14_1, hfz14_2, hfz14_3⟩ := cells4 BK338.out) | ((with_reducible refine gate_callee (f := 29) rfl ?_); refine goesL_ (some 23) rfl rfl Tryd.func29 (by kernel_rfl) rfl #[.int .i64 a0, .agg #[.int .i64 a1_0, .int .i64 a1_1, .slice A1_2 l1_2.length c1_2, .slice A1_3 l1_3.length c1_3], .agg #[.int .i64 a2_0, .int .i64 a2_1, .slice A2_2 l2_2.length c2_2, .slice A2_3 l2_3.length c2_3]] rfl q2_ ?_; (with_reducible refine (peristyleref10_JoinRows.calls k a0 a1_0 a1_1 _ _ l1_2 _ _ l1_3 a2_0 a2_1 _ _ l2_2 _ _ l2_3 t341 t342 _ ?side1 ?side2 ?side3 ?side4 ?side5 ?side6 ?side7 ?side8 A5.out).mono ?_); (case side1 => repeat (first | exact (Kd.C_below HR1_2.out HB.out) | (with_reducible refine Kd.C_alloc ?_ _) | (with_reducible refine Kd.C_drewN ?_ _) | (with_reducible refine Kd.C_drew ?_))); (case side2 => exact HC1_2.out); (case side3 => repeat (first | exact (Kd.C_below HR1_3.out HB.out) | (with_reducible refine Kd.C_alloc ?_ _) | (with_reducible refine Kd.C_drewN ?_ _) | (with_reducible refine Kd.C_drew ?_))); (case side4 => exact HC1_3.out); (case side5 => repeat (first | exact (Kd.C_below HR2_2.out HB.out) | (with_reducible refine Kd.C_alloc ?_ _) | (with_reducible refine Kd.C_drewN ?_ _) | (with_reducible refine Kd.C_drew ?_))); (case side6 => exact HC2_2.out); (case side7 => repeat (first | exact (Kd.C_below HR2_3.out HB.out) | (with_reducible refine Kd.C_alloc ?_ _) | (with_reducible refine Kd.C_drewN ?_ _) | (with_reducible refine Kd.C_drew ?_))); (case side8 => exact HC2_3.out); rintro e w15 ⟨rfl, hb⟩; refine ⟨_, rfl, ?_⟩; replace BK337 := aM (bbR BK337.out hb); replace BK338 := aM (bbR BK338.out hb); replace HB := aM (below_step s19q5 hb); (try clear hb); (try clear hb2); (try clear hk); (try clear hi)))
 (try simp only [Act.put, sqa, sqb, sqc])
 go_cut [33] (fun v33 wc => ∃ (kq : Nat) (x33_5 : Bool), v33 = .bool x33_5 ∧ Aside0 (peristylelaw10_StatsJoinsMatchSpec.j0 kq a0 t339 t340 x33_5 a1_0 a1_1 l1_2 l1_3 a2_0 a2_1 l2_2 l2_3 = some r) ∧ Aside0 (kq ≤ k) ∧ Aside0 (wc.heap[gb337]? = some (.cells #[.int .i64 a1_0, .int .i64 a1_1, (.slice A1_2 l1_2.length c1_2), (.slice A1_3 l1_3.length c1_3)] 44 (0, 0))) ∧ Aside0 (wc.heap[gb338]? = some (.cells #[.int .i64 a2_0, .int .i64 a2_1, (.slice A2_2 l2_2.length c2_2), (.slice A2_3 l2_3.length c2_3)] 44 (0, 0))) ∧ Aside0 (Below w.heap.size w wc))
 case first =>
  have H := HC6.out
  clear HC6
  by_cases c16 : t340 = t342
  case neg =>
   rw [if_neg c16] at H
   have c16b0 : (t340 == t342) = false := beq_eq_false_iff_ne.mpr c16
   have c16b1 : (t340 != t342) = true := bne_iff_ne.mpr c16
   (first | rw [c16b0] | (simp only [i64_w, i32_w]; rw [c16b0]) | skip)
   have H' := aM H
   clear H
   go_wp2
   go_meet
   case rel => exact ⟨_, (true), (by first | rfl | (simp; done) | (simp [*]; done)), H', ⟨by first | omega | exact Nat.le_refl _⟩, ⟨blkR BK337.out⟩, ⟨blkR BK338.out⟩, ⟨s19q5⟩⟩
  rw [if_pos c16] at H
  have c16b0 : (t340 == t342) = true := beq_iff_eq.mpr c16
  have c16b1 : (t340 != t342) = false := bne_eq_false_iff_eq.mpr c16
  clear c16
  (first | rw [c16b0] | (simp only [i64_w, i32_w]; rw [c16b0]) | skip)
  have H' := aM H
  clear H
  go_wp2
  go_meet
  case rel => exact ⟨_, ((t339 != t341)), (by first | rfl | (simp; done) | (simp [*]; done)), H', ⟨by first | omega | exact Nat.le_refl _⟩, ⟨blkR BK337.out⟩, ⟨blkR BK338.out⟩, ⟨s19q5⟩⟩
 clear HC6
 try clear c1
 try clear c2
 try clear p2
 try clear c7
 try clear c9
 try clear c16
 try clear c16b0
 try clear c16b1
 try clear hcz10_0 hcz10_1 hcz10_2 hcz10_3
 try clear hcz11_0 hcz11_1 hcz11_2 hcz11_3
 try clear hcz13_0 hcz13_1 hcz13_2 hcz13_3
 try clear hcz14_0 hcz14_1 hcz14_2 hcz14_3
 try clear hfz10_0 hfz10_1 hfz10_2 hfz10_3
 try clear hfz11_0 hfz11_1 hfz11_2 hfz11_3
 try clear hfz13_0 hfz13_1 hfz13_2 hfz13_3
 try clear hfz14_0 hfz14_1 hfz14_2 hfz14_3
 obtain ⟨kq, x33_5, rfl, HA, HJ5, BK337, BK338, HB⟩ := hcut
 cases kq with
 | zero => exact absurd HA.out (by simp [peristylelaw10_StatsJoinsMatchSpec.j0])
 | succ kj5 => ?_
 have H := HA.out
 clear HA
 simp only [peristylelaw10_StatsJoinsMatchSpec.j0] at H
 by_cases c17 : x33_5 = true
 · subst c17
   have H1 : (some false) = some r := by rw [if_pos rfl] at H; exact H
   clear H
   have H := H1
   clear H1
   obtain rfl := Option.some.inj H
   go_wp2
   go_ret
   exact ⟨eqR, s19q5⟩
 replace c17 := Bool.eq_false_iff.mpr c17
 subst c17
 have H1 : (if t340 = 0 then (if (wrap64 ((l1_3.length : Int) + (l2_3.length : Int))) > 0 then ((peristylelaw10_awake.f kj5).bind fun t344 => (some t344)) else ((cost_JoinRows.f kj5 a0 a2_0 a2_1 l2_2 l2_3 a1_0 a1_1 l1_2 l1_3).bind fun bt345 => (if bt345.2 = 0 then (if bt345.1 = t339 then ((peristylelaw10_awake.f kj5).bind fun t347 => (some t347)) else (some false)) else (some false)))) else (if t339 = 0 then ((peristylelaw10_awake.f kj5).bind fun t343 => (some t343)) else (some false))) = some r := by rw [if_neg (show ¬ (false = true) by decide)] at H; exact H
 clear H
 have H := H1
 clear H1
 by_cases c18 : t340 = 0
 case neg =>
  rw [if_neg c18] at H
  have c18b0 : (t340 == 0) = false := beq_eq_false_iff_ne.mpr c18
  have c18b1 : (t340 != 0) = true := bne_iff_ne.mpr c18
  by_cases c42 : t339 = 0
  case neg =>
   rw [if_neg c42] at H
   have c42b0 : (t339 == 0) = false := beq_eq_false_iff_ne.mpr c42
   have c42b1 : (t339 != 0) = true := bne_iff_ne.mpr c42
   obtain rfl := Option.some.inj H
   go_wp2
   go_ret
   exact ⟨eqR, s19q5⟩
  rw [if_pos c42] at H
  have c42b0 : (t339 == 0) = true := beq_iff_eq.mpr c42
  have c42b1 : (t339 != 0) = false := bne_eq_false_iff_eq.mpr c42
  clear c42
  replace H := Option.bind_eq_some_iff.mp H
  obtain ⟨t343, A430, H⟩ := H
  replace H : (some t343) = some r := H
  have A43 := aM A430
  clear A430
  obtain rfl := Option.some.inj H
  go_wp2_with (first | (go_at_call 16; (with_reducible refine (peristylelaw10_awake.calls kj5  t343 _ ?side1 A43.out).mono ?_); (case side1 => exact Glob_below HG.out s19q5); rintro e w44 ⟨rfl, hb⟩; replace BK337 := aM (bbR BK337.out hb); replace BK338 := aM (bbR BK338.out hb); replace HB := aM (below_step s19q5 hb); (try clear hb); (try clear hb2); (try clear hk); (try clear hi)))
  go_ret
  exact ⟨eqR, s19q5⟩
 rw [if_pos c18] at H
 have c18b0 : (t340 == 0) = true := beq_iff_eq.mpr c18
 have c18b1 : (t340 != 0) = false := bne_eq_false_iff_eq.mpr c18
 clear c18
 by_cases c19 : (wrap64 ((l1_3.length : Int) + (l2_3.length : Int))) > 0
 · rw [if_pos c19] at H
   have c19b0 : decide (0 < (wrap64 ((l1_3.length : Int) + (l2_3.length : Int)))) = true := decide_eq_true c19
   clear c19
   replace H := Option.bind_eq_some_iff.mp H
   obtain ⟨t344, A200, H⟩ := H
   replace H : (some t344) = some r := H
   have A20 := aM A200
   clear A200
   obtain rfl := Option.some.inj H
   have hnb21 := NB337_338.out
   have hnc21 := NB338_337.out
   obtain ⟨hcz22_0, hcz22_1, hcz22_2, hcz22_3, hfz22_0, hfz22_1, hfz22_2, hfz22_3⟩ := cells4 BK337.out
   obtain ⟨hcz23_0, hcz23_1, hcz23_2, hcz23_3, hfz23_0, hfz23_1, hfz23_2, hfz23_3⟩ := cells4 BK338.out
   go_wp2_with (first | ((with_reducible refine gate_callee (f := 16) rfl ?_); refine goesL_ (some 49) rfl rfl Tryd.func16 (by kernel_rfl) rfl #[] rfl q2_ ?_; (with_reducible refine (peristylelaw10_awake.calls kj5  t344 _ ?side1 A20.out).mono ?_); (case side1 => exact Glob_below HG.out s19q5); rintro e w24 ⟨rfl, hb⟩; refine ⟨_, rfl, ?_⟩; replace BK337 := aM (bbR BK337.out hb); replace BK338 := aM (bbR BK338.out hb); replace HB := aM (below_step s19q5 hb); (try clear hb); (try clear hb2); (try clear hk); (try clear hi)))
   go_ret
   exact ⟨eqR, s19q5⟩
 rw [if_neg c19] at H
 have c19b0 : decide (0 < (wrap64 ((l1_3.length : Int) + (l2_3.length : Int)))) = false := decide_eq_false c19
 clear c19
 replace H := Option.bind_eq_some_iff.mp H
 obtain ⟨⟨t345, t346⟩, A250, H⟩ := H
 replace H : (if t346 = 0 then (if t345 = t339 then ((peristylelaw10_awake.f kj5).bind fun t347 => (some t347)) else (some false)) else (some false)) = some r := H
 have A25 := aM A250
 clear A250
 by_cases c26 : t346 = 0
 case neg =>
  rw [if_neg c26] at H
  have c26b0 : (t346 == 0) = false := beq_eq_false_iff_ne.mpr c26
  have c26b1 : (t346 != 0) = true := bne_iff_ne.mpr c26
  obtain rfl := Option.some.inj H
  have hnb38 := NB337_338.out
  have hnc38 := NB338_337.out
  obtain ⟨hcz39_0, hcz39_1, hcz39_2, hcz39_3, hfz39_0, hfz39_1, hfz39_2, hfz39_3⟩ := cells4 BK337.out
  obtain ⟨hcz40_0, hcz40_1, hcz40_2, hcz40_3, hfz40_0, hfz40_1, hfz40_2, hfz40_3⟩ := cells4 BK338.out
  go_wp2_with (first | ((with_reducible refine gate_callee (f := 28) rfl ?_); refine goesL_ (some 54) rfl rfl Tryd.func28 (by kernel_rfl) rfl #[.int .i64 a0, .agg #[.int .i64 a2_0, .int .i64 a2_1, .slice A2_2 l2_2.length c2_2, .slice A2_3 l2_3.length c2_3], .agg #[.int .i64 a1_0, .int .i64 a1_1, .slice A1_2 l1_2.length c1_2, .slice A1_3 l1_3.length c1_3]] rfl q2_ ?_; (with_reducible refine (cost_JoinRows.calls kj5 a0 a2_0 a2_1 _ _ l2_2 _ _ l2_3 a1_0 a1_1 _ _ l1_2 _ _ l1_3 t345 t346 _ ?side1 ?side2 ?side3 ?side4 ?side5 ?side6 ?side7 ?side8 A25.out).mono ?_); (case side1 => repeat (first | exact (Kd.C_below HR2_2.out HB.out) | (with_reducible refine Kd.C_alloc ?_ _) | (with_reducible refine Kd.C_drewN ?_ _) | (with_reducible refine Kd.C_drew ?_))); (case side2 => exact HC2_2.out); (case side3 => repeat (first | exact (Kd.C_below HR2_3.out HB.out) | (with_reducible refine Kd.C_alloc ?_ _) | (with_reducible refine Kd.C_drewN ?_ _) | (with_reducible refine Kd.C_drew ?_))); (case side4 => exact HC2_3.out); (case side5 => repeat (first | exact (Kd.C_below HR1_2.out HB.out) | (with_reducible refine Kd.C_alloc ?_ _) | (with_reducible refine Kd.C_drewN ?_ _) | (with_reducible refine Kd.C_drew ?_))); (case side6 => exact HC1_2.out); (case side7 => repeat (first | exact (Kd.C_below HR1_3.out HB.out) | (with_reducible refine Kd.C_alloc ?_ _) | (with_reducible refine Kd.C_drewN ?_ _) | (with_reducible refine Kd.C_drew ?_))); (case side8 => exact HC1_3.out); rintro e w41 ⟨rfl, hb⟩; refine ⟨_, rfl, ?_⟩; replace BK337 := aM (bbR BK337.out hb); replace BK338 := aM (bbR BK338.out hb); replace HB := aM (below_step s19q5 hb); (try clear hb); (try clear hb2); (try clear hk); (try clear hi)))
  go_ret
  exact ⟨eqR, s19q5⟩
 rw [if_pos c26] at H
 have c26b0 : (t346 == 0) = true := beq_iff_eq.mpr c26
 have c26b1 : (t346 != 0) = false := bne_eq_false_iff_eq.mpr c26
 clear c26
 by_cases c27 : t345 = t339
 case neg =>
  rw [if_neg c27] at H
  have c27b0 : (t345 == t339) = false := beq_eq_false_iff_ne.mpr c27
  have c27b1 : (t345 != t339) = true := bne_iff_ne.mpr c27
  obtain rfl := Option.some.inj H
  have hnb34 := NB337_338.out
  have hnc34 := NB338_337.out
  obtain ⟨hcz35_0, hcz35_1, hcz35_2, hcz35_3, hfz35_0, hfz35_1, hfz35_2, hfz35_3⟩ := cells4 BK337.out
  obtain ⟨hcz36_0, hcz36_1, hcz36_2, hcz36_3, hfz36_0, hfz36_1, hfz36_2, hfz36_3⟩ := cells4 BK338.out
  go_wp2_with (first | ((with_reducible refine gate_callee (f := 28) rfl ?_); refine goesL_ (some 54) rfl rfl Tryd.func28 (by kernel_rfl) rfl #[.int .i64 a0, .agg #[.int .i64 a2_0, .int .i64 a2_1, .slice A2_2 l2_2.length c2_2, .slice A2_3 l2_3.length c2_3], .agg #[.int .i64 a1_0, .int .i64 a1_1, .slice A1_2 l1_2.length c1_2, .slice A1_3 l1_3.length c1_3]] rfl q2_ ?_; (with_reducible refine (cost_JoinRows.calls kj5 a0 a2_0 a2_1 _ _ l2_2 _ _ l2_3 a1_0 a1_1 _ _ l1_2 _ _ l1_3 t345 t346 _ ?side1 ?side2 ?side3 ?side4 ?side5 ?side6 ?side7 ?side8 A25.out).mono ?_); (case side1 => repeat (first | exact (Kd.C_below HR2_2.out HB.out) | (with_reducible refine Kd.C_alloc ?_ _) | (with_reducible refine Kd.C_drewN ?_ _) | (with_reducible refine Kd.C_drew ?_))); (case side2 => exact HC2_2.out); (case side3 => repeat (first | exact (Kd.C_below HR2_3.out HB.out) | (with_reducible refine Kd.C_alloc ?_ _) | (with_reducible refine Kd.C_drewN ?_ _) | (with_reducible refine Kd.C_drew ?_))); (case side4 => exact HC2_3.out); (case side5 => repeat (first | exact (Kd.C_below HR1_2.out HB.out) | (with_reducible refine Kd.C_alloc ?_ _) | (with_reducible refine Kd.C_drewN ?_ _) | (with_reducible refine Kd.C_drew ?_))); (case side6 => exact HC1_2.out); (case side7 => repeat (first | exact (Kd.C_below HR1_3.out HB.out) | (with_reducible refine Kd.C_alloc ?_ _) | (with_reducible refine Kd.C_drewN ?_ _) | (with_reducible refine Kd.C_drew ?_))); (case side8 => exact HC1_3.out); rintro e w37 ⟨rfl, hb⟩; refine ⟨_, rfl, ?_⟩; replace BK337 := aM (bbR BK337.out hb); replace BK338 := aM (bbR BK338.out hb); replace HB := aM (below_step s19q5 hb); (try clear hb); (try clear hb2); (try clear hk); (try clear hi)))
  go_ret
  exact ⟨eqR, s19q5⟩
 rw [if_pos c27] at H
 have c27b0 : (t345 == t339) = true := beq_iff_eq.mpr c27
 have c27b1 : (t345 != t339) = false := bne_eq_false_iff_eq.mpr c27
 clear c27
 replace H := Option.bind_eq_some_iff.mp H
 obtain ⟨t347, A280, H⟩ := H
 replace H : (some t347) = some r := H
 have A28 := aM A280
 clear A280
 obtain rfl := Option.some.inj H
 have hnb29 := NB337_338.out
 have hnc29 := NB338_337.out
 obtain ⟨hcz30_0, hcz30_1, hcz30_2, hcz30_3, hfz30_0, hfz30_1, hfz30_2, hfz30_3⟩ := cells4 BK337.out
 obtain ⟨hcz31_0, hcz31_1, hcz31_2, hcz31_3, hfz31_0, hfz31_1, hfz31_2, hfz31_3⟩ := cells4 BK338.out
 go_wp2_with (first | ((with_reducible refine gate_callee (f := 28) rfl ?_); refine goesL_ (some 54) rfl rfl Tryd.func28 (by kernel_rfl) rfl #[.int .i64 a0, .agg #[.int .i64 a2_0, .int .i64 a2_1, .slice A2_2 l2_2.length c2_2, .slice A2_3 l2_3.length c2_3], .agg #[.int .i64 a1_0, .int .i64 a1_1, .slice A1_2 l1_2.length c1_2, .slice A1_3 l1_3.length c1_3]] rfl q2_ ?_; (with_reducible refine (cost_JoinRows.calls kj5 a0 a2_0 a2_1 _ _ l2_2 _ _ l2_3 a1_0 a1_1 _ _ l1_2 _ _ l1_3 t345 t346 _ ?side1 ?side2 ?side3 ?side4 ?side5 ?side6 ?side7 ?side8 A25.out).mono ?_); (case side1 => repeat (first | exact (Kd.C_below HR2_2.out HB.out) | (with_reducible refine Kd.C_alloc ?_ _) | (with_reducible refine Kd.C_drewN ?_ _) | (with_reducible refine Kd.C_drew ?_))); (case side2 => exact HC2_2.out); (case side3 => repeat (first | exact (Kd.C_below HR2_3.out HB.out) | (with_reducible refine Kd.C_alloc ?_ _) | (with_reducible refine Kd.C_drewN ?_ _) | (with_reducible refine Kd.C_drew ?_))); (case side4 => exact HC2_3.out); (case side5 => repeat (first | exact (Kd.C_below HR1_2.out HB.out) | (with_reducible refine Kd.C_alloc ?_ _) | (with_reducible refine Kd.C_drewN ?_ _) | (with_reducible refine Kd.C_drew ?_))); (case side6 => exact HC1_2.out); (case side7 => repeat (first | exact (Kd.C_below HR1_3.out HB.out) | (with_reducible refine Kd.C_alloc ?_ _) | (with_reducible refine Kd.C_drewN ?_ _) | (with_reducible refine Kd.C_drew ?_))); (case side8 => exact HC1_3.out); rintro e w32 ⟨rfl, hb⟩; refine ⟨_, rfl, ?_⟩; replace BK337 := aM (bbR BK337.out hb); replace BK338 := aM (bbR BK338.out hb); replace HB := aM (below_step s19q5 hb); (try clear hb); (try clear hb2); (try clear hk); (try clear hi)) | (go_at_call 16; (with_reducible refine (peristylelaw10_awake.calls kj5  t347 _ ?side1 A28.out).mono ?_); (case side1 => exact Glob_below HG.out s19q5); rintro e w33 ⟨rfl, hb⟩; replace BK337 := aM (bbR BK337.out hb); replace BK338 := aM (bbR BK338.out hb); replace HB := aM (below_step s19q5 hb); (try clear hb); (try clear hb2); (try clear hk); (try clear hi)))
 go_ret
 exact ⟨eqR, s19q5⟩
end Go.Proofs.YtgcijejmmhjibaaDoor.J
