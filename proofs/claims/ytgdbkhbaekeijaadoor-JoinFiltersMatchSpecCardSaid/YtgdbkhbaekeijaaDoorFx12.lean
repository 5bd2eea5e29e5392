-- Printed by a program of this session (a patched print).
import Derived.Test.YtgdbkhbaekeijaaDoorFx0
import Derived.Test.YtgdbkhbaekeijaaDoorFx6
import Derived.Test.YtgdbkhbaekeijaaDoorFx9
import Derived.Test.YtgdbkhbaekeijaaDoorFx10
import Derived.Test.YtgdbkhbaekeijaaDoorFx11
namespace Go.Proofs.YtgdbkhbaekeijaaDoor.F
open Go.RowKit Go.Proofs.YtgdbkhbaekeijaaDoorW.PrintWords Go.Proofs.YtgdbkhbaekeijaaDoorW.PrintLast Go.Proofs.YtgdbkhbaekeijaaDoorW.PrintMore
attribute [local go_sem] max2_int min2_int max_two min_two max_three min_three max_four min_four   -- for this text's walks alone
set_option linter.unusedVariables false
set_option linter.unusedSimpArgs false

theorem s12qm0 {p : Prop} (h : p := by repeat' first | (with_reducible exact ih0 _ _ _ _ _ _) | (with_reducible exact ih1 _ _ _ _ _ _ _) | (with_reducible exact ih2 _ _ _ _ _ _ _ _ _ _) | (with_reducible exact peristyleref8_checkColumns.mono _ _ _ _) | (with_reducible exact peristyleref8_hash.mono _ _ _) | (with_reducible exact peristyleref8_keys.mono _ _ _ _) | (with_reducible exact LeO.refl _) | (with_reducible exact LeO.none _) | (with_reducible refine LeO.ite ?_ ?_) | (with_reducible refine LeO.bind ?_ (fun _ => ?_)) | exact ih0 _ _ _ _ _ _ | exact ih1 _ _ _ _ _ _ _ | exact ih2 _ _ _ _ _ _ _ _ _ _ | exact peristyleref8_checkColumns.mono _ _ _ _ | exact peristyleref8_hash.mono _ _ _ | exact peristyleref8_keys.mono _ _ _ _ | exact LeO.none _ | refine LeO.ite ?_ ?_ | refine LeO.bind ?_ (fun _ => ?_)) : p := h
theorem s12q0 {p : Prop} (h : p := by kernel_rfl) : p := h
theorem s12q1 {p : Prop} (h : p := by first | rfl | (simp; done) | (simp [*]; done)) : p := h
theorem s12q2 {p : Prop} (h : p := by first | (with_reducible assumption) | assumption) : p := h
theorem s12q3 {p : Prop} (h : p := by (with_reducible repeat (first | refine blk_drewN ?_ _ | refine blk_drew ?_ | refine blk_alloc ?_ _)); exact BK233.out) : p := h
theorem s12q4 {p : Prop} (h : p := by (with_reducible repeat (first | refine blk_drewN ?_ _ | refine blk_drew ?_ | refine blk_alloc ?_ _)); exact BK234.out) : p := h
theorem s12q5 {p : Prop} (h : p := by (with_reducible repeat (first | refine blk_drewN ?_ _ | refine blk_drew ?_ | refine blk_alloc ?_ _)); exact BK251.out) : p := h
theorem s12q6 {p : Prop} (h : p := by repeat (first | (with_reducible first | exact HB.out | apply below_alloc | apply pw_below_drewN | apply below_drew1) | exact HB.out)) : p := h
theorem s12q7 {p : Prop} (h : p := by (try simp only [List.map_toArray, List.map_cons, List.map_nil]); first | done | rfl | (simp only [List.length_drop, List.length_take]; rfl)) : p := h
theorem s12q8 {p : Prop} (h : p := by repeat (first | (with_reducible first | exact HB.out | apply below_alloc | apply pw_below_drewN | apply below_drew1 | refine below_set ?_ GE233.out) | exact HB.out)) : p := h
theorem s12q9 {p : Prop} (h : p := by repeat (first | (with_reducible first | exact HB.out | apply below_alloc | apply pw_below_drewN | apply below_drew1 | refine below_set ?_ GE251.out) | exact HB.out)) : p := h
theorem s12q10 {p : Prop} (h : p := by repeat (first | (with_reducible first | exact HB.out | apply below_alloc | apply pw_below_drewN | apply below_drew1 | refine below_set ?_ GE233.out | refine below_set ?_ GE234.out) | exact HB.out)) : p := h
theorem s12q11 {p : Prop} (h : p := by repeat (first | (with_reducible first | exact HB.out | apply below_alloc | apply pw_below_drewN | apply below_drew1 | refine below_set ?_ GE233.out | refine below_set ?_ GE234.out | refine below_set ?_ GE241.out) | exact HB.out)) : p := h
theorem s12q12 {p : Prop} (h : p := by (with_reducible repeat (first | refine blk_drewN ?_ _ | refine blk_drew ?_ | refine blk_alloc ?_ _)); refine blk_put (cs := #[.slice none 0 0, .int .i64 0]) ?_ 1 _ rfl; (with_reducible repeat (first | refine blk_drewN ?_ _ | refine blk_drew ?_ | refine blk_alloc ?_ _)); refine blk_put (cs := #[.slice none 0 0, .int .i64 0]) ?_ 0 _ rfl; (with_reducible repeat (first | refine blk_drewN ?_ _ | refine blk_drew ?_ | refine blk_alloc ?_ _)); exact BK234.out) : p := h
theorem s12q13 {p : Prop} (h : p := by rw [hg]; exact (below_size s12q6)) : p := h
theorem s12q14 {p : Prop} (h : p := by rw [hg]; exact (below_size s12q8)) : p := h
theorem s12q15 {p : Prop} (h : p := by rw [hg]; exact (below_size s12q9)) : p := h
theorem s12q16 {p : Prop} (h : p := by rw [hg]; exact Nat.ne_of_gt (blk_lt (g := gb251) (o := .cells #[.slice A0_0 l0_0.length c0_0, .int .i64 a0_1] 29 (0, 0)) s12q5)) : p := h
theorem s12q17 {p : Prop} (h : p := by rw [hg]; exact Nat.ne_of_lt (blk_lt (g := gb251) (o := .cells #[.slice A0_0 l0_0.length c0_0, .int .i64 a0_1] 29 (0, 0)) s12q5)) : p := h
theorem s12q18 {p : Prop} (h : p := by rw [hg]; exact Nat.ne_of_gt (blk_lt (g := gb233) (o := .cells #[.slice A0_0 l0_0.length c0_0, .slice A0_1 l0_1.length c0_1] 25 (0, 0)) s12q3)) : p := h
theorem s12q19 {p : Prop} (h : p := by rw [hg]; exact Nat.ne_of_lt (blk_lt (g := gb233) (o := .cells #[.slice A0_0 l0_0.length c0_0, .slice A0_1 l0_1.length c0_1] 25 (0, 0)) s12q3)) : p := h
theorem s12q20 {p : Prop} (h : p := by rw [if_neg (show ¬ (false = true) by decide)] at H; exact H) : p := h
/-! ### peristyleref8_FilterOf: function 5 -/
mutual
def peristyleref8_FilterOf.j0 : Nat → List Int → Int → Int → Bool → List (S69) → List (S43) → Option (List Int × Int × Int)
  | 0, _, _, _, _, _, _ => none
  | k + 1, x1, x2, x3, x35, x234000, x234001 => if x35 = true then (some (([] : List Int), 0, 1)) else (if 0 ≤ (wrap64 (Int.tdiv x2 8)) then (if (wrap64 (Int.tdiv x2 8) : Int).toNat ≤ 281474976710656 then ((peristyleref8_keys.f k x234000 x234001 x1).bind fun t242 => (peristyleref8_FilterOf.l0 k x2 x3 t242 (t242.length : Int) 0 (List.replicate (wrap64 (Int.tdiv x2 8) : Int).toNat 0) x3)) else (none)) else (none))
def peristyleref8_FilterOf.l0 : Nat → Int → Int → List (List (S54)) → Int → Int → List Int → Int → Option (List Int × Int × Int)
  | 0, _, _, _, _, _, _, _ => none
  | k + 1, x2, x3, x44, x45, x46, x242000, x242001 => if x46 < x45 then (if 0 ≤ x46 then (if x46 < (x44.length : Int) then (peristyleref8_FilterOf.l1 k x2 x3 (rd_L4 x44 x46) x44 x45 x46 x3 0 x242000 x242001) else (none)) else (none)) else (some (x242000, x242001, 0))
def peristyleref8_FilterOf.l1 : Nat → Int → Int → List (S54) → List (List (S54)) → Int → Int → Int → Int → List Int → Int → Option (List Int × Int × Int)
  | 0, _, _, _, _, _, _, _, _, _, _ => none
  | k + 1, x2, x3, x13, x44, x45, x46, x50, x51, x242000, x242001 => if x51 < x50 then ((peristyleref8_hash.f k x13 x51).bind fun t246 => (if x2 = 0 then (none) else (if 0 ≤ (wrap64 (Int.tdiv (Int.tmod t246 x2) 8)) then (if (wrap64 (Int.tdiv (Int.tmod t246 x2) 8)) < (x242000.length : Int) then (if 0 ≤ (Int.tmod (Int.tmod t246 x2) 8) then (peristyleref8_FilterOf.l1 k x2 x3 x13 x44 x45 x46 x50 (wrap64 (x51 + 1)) (x242000.set ((wrap64 (Int.tdiv (Int.tmod t246 x2) 8)) : Int).toNat (Go.bits .or .u8 (rd x242000 (wrap64 (Int.tdiv (Int.tmod t246 x2) 8))) (shl .u8 1 (Int.tmod (Int.tmod t246 x2) 8)))) x242001) else (none)) else (none)) else (none)))) else (peristyleref8_FilterOf.l0 k x2 x3 x44 x45 (wrap64 (x46 + 1)) x242000 x242001)
end
def peristyleref8_FilterOf.f (k : Nat) (l0_0 : List (S69)) (l0_1 : List (S43)) (l1 : List Int) (a2 : Int) (a3 : Int) : Option (List Int × Int × Int) := (peristyleref8_checkColumns.f k l0_0 l0_1 l1).bind fun t235 => (if t235 = 0 then ((peristyleref8_within.f a2 8 65536).bind fun t236 => (if t236 = true then (if (Int.tmod a2 8) = 0 then ((peristyleref8_within.f a3 1 5).bind fun t237 => (peristyleref8_FilterOf.j0 k l1 a2 a3 (!t237) l0_0 l0_1)) else (peristyleref8_FilterOf.j0 k l1 a2 a3 true l0_0 l0_1)) else (peristyleref8_FilterOf.j0 k l1 a2 a3 true l0_0 l0_1))) else (some (([] : List Int), 0, t235)))
theorem peristyleref8_FilterOf.mono_l : ∀ k, (∀ y0 y1 y2 y3 y4 y5, LeO (peristyleref8_FilterOf.j0 k y0 y1 y2 y3 y4 y5) (peristyleref8_FilterOf.j0 (k + 1) y0 y1 y2 y3 y4 y5)) ∧ (∀ y0 y1 y2 y3 y4 y5 y6, LeO (peristyleref8_FilterOf.l0 k y0 y1 y2 y3 y4 y5 y6) (peristyleref8_FilterOf.l0 (k + 1) y0 y1 y2 y3 y4 y5 y6)) ∧ (∀ y0 y1 y2 y3 y4 y5 y6 y7 y8 y9, LeO (peristyleref8_FilterOf.l1 k y0 y1 y2 y3 y4 y5 y6 y7 y8 y9) (peristyleref8_FilterOf.l1 (k + 1) y0 y1 y2 y3 y4 y5 y6 y7 y8 y9))
  | 0 => ⟨fun _ _ _ _ _ _ r h => by simp [peristyleref8_FilterOf.j0] at h, fun _ _ _ _ _ _ _ r h => by simp [peristyleref8_FilterOf.l0] at h, fun _ _ _ _ _ _ _ _ _ _ r h => by simp [peristyleref8_FilterOf.l1] at h⟩
  | k + 1 => by
    obtain ⟨ih0, ih1, ih2⟩ := peristyleref8_FilterOf.mono_l k
    refine ⟨?_, ?_, ?_⟩
    · intro y0 y1 y2 y3 y4 y5
      unfold peristyleref8_FilterOf.j0
      exact s12qm0
    · intro y0 y1 y2 y3 y4 y5 y6
      unfold peristyleref8_FilterOf.l0
      exact s12qm0
    · intro y0 y1 y2 y3 y4 y5 y6 y7 y8 y9
      unfold peristyleref8_FilterOf.l1
      exact s12qm0
theorem peristyleref8_FilterOf.mono : ∀ a0 a1 a2 a3 a4 k, LeO (peristyleref8_FilterOf.f k a0 a1 a2 a3 a4) (peristyleref8_FilterOf.f (k + 1) a0 a1 a2 a3 a4) := by
 intro a0 a1 a2 a3 a4 k
 obtain ⟨ih0, ih1, ih2⟩ := peristyleref8_FilterOf.mono_l k
 unfold peristyleref8_FilterOf.f
 repeat' first
  | (with_reducible exact ih0 _ _ _ _ _ _)
  | (with_reducible exact ih1 _ _ _ _ _ _ _)
  | (with_reducible exact ih2 _ _ _ _ _ _ _ _ _ _)
  | (with_reducible exact peristyleref8_checkColumns.mono _ _ _ _)
  | (with_reducible exact peristyleref8_hash.mono _ _ _)
  | (with_reducible exact peristyleref8_keys.mono _ _ _ _)
  | (with_reducible exact LeO.refl _)
  | (with_reducible exact LeO.none _)
  | (with_reducible refine LeO.ite ?_ ?_)
  | (with_reducible refine LeO.bind ?_ (fun _ => ?_))
  | exact ih0 _ _ _ _ _ _
  | exact ih1 _ _ _ _ _ _ _
  | exact ih2 _ _ _ _ _ _ _ _ _ _
  | exact peristyleref8_checkColumns.mono _ _ _ _
  | exact peristyleref8_hash.mono _ _ _
  | exact peristyleref8_keys.mono _ _ _ _
  | exact LeO.none _
  | refine LeO.ite ?_ ?_
  | refine LeO.bind ?_ (fun _ => ?_)
def peristyleref8_FilterOf.T14 : Bool × List (List Nat × List Nat) := (true, [([], []), ([0], [0]), ([], []), ([2], [2]), ([1, 3], [1, 3]), ([4], [4]), ([], []), ([6], [6]), ([7], [7]), ([5, 8], [5, 8]), ([1, 3, 0, 1, 2, 3, 4, 5, 6, 7, 8, 9], [1, 3]), ([10, 9, 0, 1, 2, 3, 4, 5, 6, 7, 8, 9], [9, 10])])
def peristyleref8_FilterOf.B14 : List Nat := [0, 1, 0, 4, 15, 31, 0, 64, 192, 511, 1023, 2047]
theorem peristyleref8_FilterOf.tab14 : rtab .any (opsOf Tryd.f5 14) = peristyleref8_FilterOf.T14 := by kernel_rfl
theorem peristyleref8_FilterOf.bits14 : waitsOk peristyleref8_FilterOf.T14.2 peristyleref8_FilterOf.B14 = true := by kernel_rfl
set_option maxHeartbeats 8000000 in
set_option maxRecDepth 100000 in
theorem peristyleref8_FilterOf.calls (k : Nat) (A0_0 : Option Addr) (c0_0 : Nat) (l0_0 : List (S69)) (A0_1 : Option Addr) (c0_1 : Nat) (l0_1 : List (S43)) (A1 : Option Addr) (c1 : Nat) (l1 : List Int) (a2 : Int) (a3 : Int) (r1 : List Int) (r2 : Int) (r3 : Int) (w : World) (hr0_0 : Kd.C k69 w A0_0 l0_0.length l0_0) (hc0_0 : l0_0.length ≤ c0_0) (hr0_1 : Kd.C k43 w A0_1 l0_1.length l0_1) (hc0_1 : l0_1.length ≤ c0_1) (hr1 : Kd.C (Kd.int .i64) w A1 l1.length l1) (hc1 : l1.length ≤ c1) (hG : Glob w) (h : peristyleref8_FilterOf.f k l0_0 l0_1 l1 a2 a3 = some (r1, r2, r3)) :
    Calls Tryd.prog 5 #[.agg #[.slice A0_0 l0_0.length c0_0, .slice A0_1 l0_1.length c0_1], .slice A1 l1.length c1, .int .i64 a2, .int .i64 a3] w fun e w' => ∃ v0_ : Value, e = .returned (.tuple #[.agg #[v0_, .int .i64 r2], .int .i64 r3]) ∧ Kd.R (Kd.int .u8) 5 w' w.heap.size (fun _ => True) v0_ r1 ∧ Below w.heap.size w w' := by
 have hu25 := Tryd.underlying25
 have hu29 := Tryd.underlying29
 have HG := Aside0.mk hG
 clear hG
 have HR0_0 := Aside0.mk hr0_0
 have HC0_0 := Aside0.mk hc0_0
 clear hr0_0 hc0_0
 have HR0_1 := Aside0.mk hr0_1
 have HC0_1 := Aside0.mk hc0_1
 clear hr0_1 hc0_1
 have HR1 := Aside0.mk hr1
 have HC1 := Aside0.mk hc1
 clear hr1 hc1
 have HB := Aside0.mk (Below.refl w.heap.size w)
 have H : ((peristyleref8_checkColumns.f k l0_0 l0_1 l1).bind fun t235 => (if t235 = 0 then ((peristyleref8_within.f a2 8 65536).bind fun t236 => (if t236 = true then (if (Int.tmod a2 8) = 0 then ((peristyleref8_within.f a3 1 5).bind fun t237 => (peristyleref8_FilterOf.j0 k l1 a2 a3 (!t237) l0_0 l0_1)) else (peristyleref8_FilterOf.j0 k l1 a2 a3 true l0_0 l0_1)) else (peristyleref8_FilterOf.j0 k l1 a2 a3 true l0_0 l0_1))) else (some (([] : List Int), 0, t235)))) = some (r1, r2, r3) := h
 clear h
 replace H := Option.bind_eq_some_iff.mp H
 obtain ⟨t235, A50, H⟩ := H
 replace H : (if t235 = 0 then ((peristyleref8_within.f a2 8 65536).bind fun t236 => (if t236 = true then (if (Int.tmod a2 8) = 0 then ((peristyleref8_within.f a3 1 5).bind fun t237 => (peristyleref8_FilterOf.j0 k l1 a2 a3 (!t237) l0_0 l0_1)) else (peristyleref8_FilterOf.j0 k l1 a2 a3 true l0_0 l0_1)) else (peristyleref8_FilterOf.j0 k l1 a2 a3 true l0_0 l0_1))) else (some (([] : List Int), 0, t235))) = some (r1, r2, r3) := H
 have A5 := Aside0.mk A50
 clear A50
 by_cases c6 : t235 = 0
 case neg =>
  rw [if_neg c6] at H
  have c6b0 : (t235 == 0) = false := beq_eq_false_iff_ne.mpr c6
  have c6b1 : (t235 != 0) = true := bne_iff_ne.mpr c6
  simp only [Option.some.injEq, Prod.mk.injEq] at H
  obtain ⟨rfl, rfl, rfl⟩ := H
  go_enter Tryd.func5, Tryd.ntmps5
  go_wp2_with (first | ((with_reducible refine gate_dst (N := 4) rfl ?_); refine box_event ?hg (N := 4) ?hd (cs := #[.slice A0_0 l0_0.length c0_0, .slice A0_1 l0_1.length c0_1]) (t := 25) ?hr ?_; (case hd => rfl); (case hg => rfl); (case hr => first | (go_simp; done) | (go_simp; rfl)); intro gb233 hg w58 hbox hb; have n0_ := Aside0.mk (below_step s12q6 hb); have n1_ := Aside0.mk (hbox); have n2_ := Aside0.mk ((s12q13 : w.heap.size ≤ gb233)); have n3_ := Aside0.mk ((s12q13 : w.heap.size ≤ gb233)); clear HB; have HB := n0_; have BK233 := n1_; have GW233 := n2_; have GE233 := n3_; clear n0_ n1_ n2_ n3_; clear hb hbox hg) | ((with_reducible refine gate_dst (N := 8) rfl ?_); refine box_event ?hg (N := 8) ?hd (cs := #[.slice none 0 0, .int .i64 0]) (t := 29) ?hr ?_; (case hd => rfl); (case hg => rfl); (case hr => first | (go_simp; done) | (go_simp; rfl)); intro gb234 hg w59 hbox hb; have n0_ := Aside0.mk (blk_below (g := gb233) (o := .cells #[.slice A0_0 l0_0.length c0_0, .slice A0_1 l0_1.length c0_1] 25 (0, 0)) s12q3 hb); have n1_ := Aside0.mk (below_step s12q8 hb); have n2_ := Aside0.mk (hbox); have n3_ := Aside0.mk ((s12q14 : w.heap.size ≤ gb234)); have n4_ := Aside0.mk ((s12q14 : w.heap.size ≤ gb234)); have n5_ := Aside0.mk ((s12q19 : gb233 ≠ gb234)); have n6_ := Aside0.mk ((s12q18 : gb234 ≠ gb233)); clear BK233; clear HB; have BK233 := n0_; have HB := n1_; have BK234 := n2_; have GW234 := n3_; have GE234 := n4_; have NB233_234 := n5_; have NB234_233 := n6_; clear n0_ n1_ n2_ n3_ n4_ n5_ n6_; clear hb hbox hg; have hnb60 := NB233_234.out; have hnc60 := NB234_233.out; have hcz61_0 : w59.cell? ⟨gb233, 0, none⟩ = some (.slice A0_0 l0_0.length c0_0) := (blk_cell BK233.out 0).trans rfl; have hcz61_1 : w59.cell? ⟨gb233, 1, none⟩ = some (.slice A0_1 l0_1.length c0_1) := (blk_cell BK233.out 1).trans rfl; have hfz61_0 := blk_frozen BK233.out 0; have hfz61_1 := blk_frozen BK233.out 1) | ((with_reducible refine gate_callee (f := 15) rfl ?_); refine goesL_ (some 18) rfl rfl Tryd.func15 s12q0 rfl #[.agg #[.slice A0_0 l0_0.length c0_0, .slice A0_1 l0_1.length c0_1], .slice A1 l1.length c1] rfl s12q7 ?_; (with_reducible refine (peristyleref8_checkColumns.calls k _ _ l0_0 _ _ l0_1 _ _ l1 t235 _ ?side1 ?side2 ?side3 ?side4 ?side5 ?side6 A5.out).mono ?_); (case side1 => repeat (first | exact (Kd.C_below HR0_0.out HB.out) | (with_reducible refine Kd.C_alloc ?_ _) | (with_reducible refine Kd.C_drewN ?_ _) | (with_reducible refine Kd.C_drew ?_))); (case side2 => exact HC0_0.out); (case side3 => repeat (first | exact (Kd.C_below HR0_1.out HB.out) | (with_reducible refine Kd.C_alloc ?_ _) | (with_reducible refine Kd.C_drewN ?_ _) | (with_reducible refine Kd.C_drew ?_))); (case side4 => exact HC0_1.out); (case side5 => repeat (first | exact (Kd.C_below HR1.out HB.out) | (with_reducible refine Kd.C_alloc ?_ _) | (with_reducible refine Kd.C_drewN ?_ _) | (with_reducible refine Kd.C_drew ?_))); (case side6 => exact HC1.out); rintro e w62 ⟨rfl, hb⟩; refine ⟨_, rfl, ?_⟩; have n0_ := Aside0.mk (blk_below (g := gb233) (o := .cells #[.slice A0_0 l0_0.length c0_0, .slice A0_1 l0_1.length c0_1] 25 (0, 0)) s12q3 hb); have n1_ := Aside0.mk (blk_below (g := gb234) (o := .cells #[.slice none 0 0, .int .i64 0] 29 (0, 0)) s12q4 hb); have n2_ := Aside0.mk (below_step s12q10 hb); clear BK233; clear BK234; clear HB; have BK233 := n0_; have BK234 := n1_; have HB := n2_; clear n0_ n1_ n2_; (try clear hb); (try clear hb2); (try clear hk); (try clear hi); have hcz63_0 : w62.cell? ⟨gb234, 0, none⟩ = some (.slice none 0 0) := (blk_cell BK234.out 0).trans rfl; have hcz63_1 : w62.cell? ⟨gb234, 1, none⟩ = some (.int .i64 0) := (blk_cell BK234.out 1).trans rfl; have hfz63_0 := blk_frozen BK234.out 0; have hfz63_1 := blk_frozen BK234.out 1))
  refine bodyPost_ret (results_ct rfl _ _ gb234 29 #[.slice none 0 0, .int .i64 0] (0, 0) _ rfl s12q12 Tryd.underlying29 rfl s12q0) rfl ?_
  exact ⟨_, by first | rfl | (simp [errW_none, errW_some] <;> rfl) | (simp [*, errW_none, errW_some] <;> rfl), by first | exact Kd.R_nil _ _ _ _ _ | exact Kd.N_nil _ _ _ _ _ | exact Kd.V_nil _ _ _ _ _ | exact Kd.Q_nil _ _ _ _ _ | exact Kd.S_nil _ _ _ _ _, by repeat (first | (with_reducible first | exact HB.out | apply below_alloc | apply pw_below_drewN | apply below_drew1 | refine below_set ?_ GE233.out | refine below_set ?_ GE234.out) | exact HB.out)⟩
 rw [if_pos c6] at H
 have c6b0 : (t235 == 0) = true := beq_iff_eq.mpr c6
 have c6b1 : (t235 != 0) = false := bne_eq_false_iff_eq.mpr c6
 clear c6
 have HC7 := Aside0.mk H
 clear H
 go_enter Tryd.func5, Tryd.ntmps5
 go_upto_region 4 with (first | ((with_reducible refine gate_dst (N := 4) rfl ?_); refine box_event ?hg (N := 4) ?hd (cs := #[.slice A0_0 l0_0.length c0_0, .slice A0_1 l0_1.length c0_1]) (t := 25) ?hr ?_; (case hd => rfl); (case hg => rfl); (case hr => first | (go_simp; done) | (go_simp; rfl)); intro gb233 hg w8 hbox hb; have n0_ := Aside0.mk (below_step s12q6 hb); have n1_ := Aside0.mk (hbox); have n2_ := Aside0.mk ((s12q13 : w.heap.size ≤ gb233)); have n3_ := Aside0.mk ((s12q13 : w.heap.size ≤ gb233)); clear HB; have HB := n0_; have BK233 := n1_; have GW233 := n2_; have GE233 := n3_; clear n0_ n1_ n2_ n3_; clear hb hbox hg) | ((with_reducible refine gate_dst (N := 8) rfl ?_); refine box_event ?hg (N := 8) ?hd (cs := #[.slice none 0 0, .int .i64 0]) (t := 29) ?hr ?_; (case hd => rfl); (case hg => rfl); (case hr => first | (go_simp; done) | (go_simp; rfl)); intro gb234 hg w9 hbox hb; have n0_ := Aside0.mk (blk_below (g := gb233) (o := .cells #[.slice A0_0 l0_0.length c0_0, .slice A0_1 l0_1.length c0_1] 25 (0, 0)) s12q3 hb); have n1_ := Aside0.mk (below_step s12q8 hb); have n2_ := Aside0.mk (hbox); have n3_ := Aside0.mk ((s12q14 : w.heap.size ≤ gb234)); have n4_ := Aside0.mk ((s12q14 : w.heap.size ≤ gb234)); have n5_ := Aside0.mk ((s12q19 : gb233 ≠ gb234)); have n6_ := Aside0.mk ((s12q18 : gb234 ≠ gb233)); clear BK233; clear HB; have BK233 := n0_; have HB := n1_; have BK234 := n2_; have GW234 := n3_; have GE234 := n4_; have NB233_234 := n5_; have NB234_233 := n6_; clear n0_ n1_ n2_ n3_ n4_ n5_ n6_; clear hb hbox hg; have hnb10 := NB233_234.out; have hnc10 := NB234_233.out; have hcz11_0 : w9.cell? ⟨gb233, 0, none⟩ = some (.slice A0_0 l0_0.length c0_0) := (blk_cell BK233.out 0).trans rfl; have hcz11_1 : w9.cell? ⟨gb233, 1, none⟩ = some (.slice A0_1 l0_1.length c0_1) := (blk_cell BK233.out 1).trans rfl; have hfz11_0 := blk_frozen BK233.out 0; have hfz11_1 := blk_frozen BK233.out 1) | ((with_reducible refine gate_callee (f := 15) rfl ?_); refine goesL_ (some 18) rfl rfl Tryd.func15 s12q0 rfl #[.agg #[.slice A0_0 l0_0.length c0_0, .slice A0_1 l0_1.length c0_1], .slice A1 l1.length c1] rfl s12q7 ?_; (with_reducible refine (peristyleref8_checkColumns.calls k _ _ l0_0 _ _ l0_1 _ _ l1 t235 _ ?side1 ?side2 ?side3 ?side4 ?side5 ?side6 A5.out).mono ?_); (case side1 => repeat (first | exact (Kd.C_below HR0_0.out HB.out) | (with_reducible refine Kd.C_alloc ?_ _) | (with_reducible refine Kd.C_drewN ?_ _) | (with_reducible refine Kd.C_drew ?_))); (case side2 => exact HC0_0.out); (case side3 => repeat (first | exact (Kd.C_below HR0_1.out HB.out) | (with_reducible refine Kd.C_alloc ?_ _) | (with_reducible refine Kd.C_drewN ?_ _) | (with_reducible refine Kd.C_drew ?_))); (case side4 => exact HC0_1.out); (case side5 => repeat (first | exact (Kd.C_below HR1.out HB.out) | (with_reducible refine Kd.C_alloc ?_ _) | (with_reducible refine Kd.C_drewN ?_ _) | (with_reducible refine Kd.C_drew ?_))); (case side6 => exact HC1.out); rintro e w12 ⟨rfl, hb⟩; refine ⟨_, rfl, ?_⟩; have n0_ := Aside0.mk (blk_below (g := gb233) (o := .cells #[.slice A0_0 l0_0.length c0_0, .slice A0_1 l0_1.length c0_1] 25 (0, 0)) s12q3 hb); have n1_ := Aside0.mk (blk_below (g := gb234) (o := .cells #[.slice none 0 0, .int .i64 0] 29 (0, 0)) s12q4 hb); have n2_ := Aside0.mk (below_step s12q10 hb); clear BK233; clear BK234; clear HB; have BK233 := n0_; have BK234 := n1_; have HB := n2_; clear n0_ n1_ n2_; (try clear hb); (try clear hb2); (try clear hk); (try clear hi)))
 (try simp only [Act.put, sqa, sqb, sqc])
 go_cut [35] (fun v35 wc => ∃ (kq : Nat) (x35_6 : Bool), v35 = .bool x35_6 ∧ Aside0 (peristyleref8_FilterOf.j0 kq l1 a2 a3 x35_6 l0_0 l0_1 = some (r1, r2, r3)) ∧ Aside0 (kq ≤ k) ∧ Aside0 (wc.heap[gb233]? = some (.cells #[(.slice A0_0 l0_0.length c0_0), (.slice A0_1 l0_1.length c0_1)] 25 (0, 0))) ∧ Aside0 (wc.heap[gb234]? = some (.cells #[(.slice none 0 0), .int .i64 0] 29 (0, 0))) ∧ Aside0 (Below w.heap.size w wc))
 case first =>
  have H := HC7.out
  clear HC7
  replace H := Option.bind_eq_some_iff.mp H
  obtain ⟨t236, A130, H⟩ := H
  replace H : (if t236 = true then (if (Int.tmod a2 8) = 0 then ((peristyleref8_within.f a3 1 5).bind fun t237 => (peristyleref8_FilterOf.j0 k l1 a2 a3 (!t237) l0_0 l0_1)) else (peristyleref8_FilterOf.j0 k l1 a2 a3 true l0_0 l0_1)) else (peristyleref8_FilterOf.j0 k l1 a2 a3 true l0_0 l0_1)) = some (r1, r2, r3) := H
  have A13 := Aside0.mk A130
  clear A130
  by_cases c14 : t236 = true
  case neg =>
   replace c14 := Bool.eq_false_iff.mpr c14
   subst c14
   have H1 : (peristyleref8_FilterOf.j0 k l1 a2 a3 true l0_0 l0_1) = some (r1, r2, r3) := s12q20
   clear H
   have H := H1
   clear H1
   have H' := Aside0.mk H
   clear H
   go_wp2_with (first | ((with_reducible refine gate_callee (f := 16) rfl ?_); refine goesL_ (some 24) rfl rfl Tryd.func16 s12q0 rfl #[.int .i64 a2, .int .i64 8, .int .i64 65536] rfl s12q7 ?_; (with_reducible refine (peristyleref8_within.calls a2 8 65536 false _ A13.out).mono ?_); rintro e w' ⟨rfl, ⟨nd, rfl⟩⟩; refine ⟨_, rfl, ?_⟩))
   go_meet
   case rel => exact ⟨_, (true), s12q1, H', ⟨by first | omega | exact Nat.le_refl _⟩, ⟨by (with_reducible repeat (first | refine blk_drewN ?_ _ | refine blk_drew ?_ | refine blk_alloc ?_ _)); exact BK233.out⟩, ⟨by (with_reducible repeat (first | refine blk_drewN ?_ _ | refine blk_drew ?_ | refine blk_alloc ?_ _)); exact BK234.out⟩, ⟨by repeat (first | (with_reducible first | exact HB.out | apply below_alloc | apply pw_below_drewN | apply below_drew1 | refine below_set ?_ GE233.out | refine below_set ?_ GE234.out) | exact HB.out)⟩⟩
  subst c14
  have H1 : (if (Int.tmod a2 8) = 0 then ((peristyleref8_within.f a3 1 5).bind fun t237 => (peristyleref8_FilterOf.j0 k l1 a2 a3 (!t237) l0_0 l0_1)) else (peristyleref8_FilterOf.j0 k l1 a2 a3 true l0_0 l0_1)) = some (r1, r2, r3) := by rw [if_pos rfl] at H; exact H
  clear H
  have H := H1
  clear H1
  by_cases c15 : (Int.tmod a2 8) = 0
  case neg =>
   rw [if_neg c15] at H
   have c15b0 : ((Int.tmod a2 8) == 0) = false := beq_eq_false_iff_ne.mpr c15
   have c15b1 : ((Int.tmod a2 8) != 0) = true := bne_iff_ne.mpr c15
   (first | rw [c15b0] | (simp only [i64_w, i32_w]; rw [c15b0]) | skip)
   have H' := Aside0.mk H
   clear H
   go_wp2_with (first | ((with_reducible refine gate_callee (f := 16) rfl ?_); refine goesL_ (some 24) rfl rfl Tryd.func16 s12q0 rfl #[.int .i64 a2, .int .i64 8, .int .i64 65536] rfl s12q7 ?_; (with_reducible refine (peristyleref8_within.calls a2 8 65536 true _ A13.out).mono ?_); rintro e w' ⟨rfl, ⟨nd, rfl⟩⟩; refine ⟨_, rfl, ?_⟩))
   go_meet
   case rel => exact ⟨_, (true), s12q1, H', ⟨by first | omega | exact Nat.le_refl _⟩, ⟨by (with_reducible repeat (first | refine blk_drewN ?_ _ | refine blk_drew ?_ | refine blk_alloc ?_ _)); exact BK233.out⟩, ⟨by (with_reducible repeat (first | refine blk_drewN ?_ _ | refine blk_drew ?_ | refine blk_alloc ?_ _)); exact BK234.out⟩, ⟨by repeat (first | (with_reducible first | exact HB.out | apply below_alloc | apply pw_below_drewN | apply below_drew1 | refine below_set ?_ GE233.out | refine below_set ?_ GE234.out) | exact HB.out)⟩⟩
  rw [if_pos c15] at H
  have c15b0 : ((Int.tmod a2 8) == 0) = true := beq_iff_eq.mpr c15
  have c15b1 : ((Int.tmod a2 8) != 0) = false := bne_eq_false_iff_eq.mpr c15
  clear c15
  (first | rw [c15b0] | (simp only [i64_w, i32_w]; rw [c15b0]) | skip)
  replace H := Option.bind_eq_some_iff.mp H
  obtain ⟨t237, A160, H⟩ := H
  replace H : (peristyleref8_FilterOf.j0 k l1 a2 a3 (!t237) l0_0 l0_1) = some (r1, r2, r3) := H
  have A16 := Aside0.mk A160
  clear A160
  have H' := Aside0.mk H
  clear H
  go_wp2_with (first | ((with_reducible refine gate_callee (f := 16) rfl ?_); refine goesL_ (some 24) rfl rfl Tryd.func16 s12q0 rfl #[.int .i64 a2, .int .i64 8, .int .i64 65536] rfl s12q7 ?_; (with_reducible refine (peristyleref8_within.calls a2 8 65536 true _ A13.out).mono ?_); rintro e w' ⟨rfl, ⟨nd, rfl⟩⟩; refine ⟨_, rfl, ?_⟩) | (go_at_call 16; (with_reducible refine (peristyleref8_within.calls a3 1 5 t237 _ A16.out).mono ?_); rintro e w' ⟨rfl, ⟨nd, rfl⟩⟩))
  go_meet
  case rel => exact ⟨_, (!t237), s12q1, H', ⟨by first | omega | exact Nat.le_refl _⟩, ⟨by (with_reducible repeat (first | refine blk_drewN ?_ _ | refine blk_drew ?_ | refine blk_alloc ?_ _)); exact BK233.out⟩, ⟨by (with_reducible repeat (first | refine blk_drewN ?_ _ | refine blk_drew ?_ | refine blk_alloc ?_ _)); exact BK234.out⟩, ⟨by repeat (first | (with_reducible first | exact HB.out | apply below_alloc | apply pw_below_drewN | apply below_drew1 | refine below_set ?_ GE233.out | refine below_set ?_ GE234.out) | exact HB.out)⟩⟩
 clear HC7
 try clear c1
 try clear p2
 try clear c5
 try clear c6
 try clear c6b0
 try clear c6b1
 try clear c10
 try clear c14
 try clear c15
 try clear c15b0
 try clear c15b1
 try clear c16
 try clear hcz11_0
 try clear hcz11_1
 try clear hfz11_0
 try clear hfz11_1
 obtain ⟨kq, x35_6, rfl, HA, HJ6, BK233, BK234, HB⟩ := hcut
 cases kq with
 | zero => exact absurd HA.out (by simp [peristyleref8_FilterOf.j0])
 | succ kj6 => ?_
 have H := HA.out
 clear HA
 simp only [peristyleref8_FilterOf.j0] at H
 by_cases c17 : x35_6 = true
 · subst c17
   have H1 : (some (([] : List Int), 0, 1)) = some (r1, r2, r3) := by rw [if_pos rfl] at H; exact H
   clear H
   have H := H1
   clear H1
   simp only [Option.some.injEq, Prod.mk.injEq] at H
   obtain ⟨rfl, rfl, rfl⟩ := H
   have hnb18 := NB234_233.out
   have hnc18 := NB233_234.out
   have hcz19_0 : wc.cell? ⟨gb234, 0, none⟩ = some (.slice none 0 0) := (blk_cell BK234.out 0).trans rfl
   have hcz19_1 : wc.cell? ⟨gb234, 1, none⟩ = some (.int .i64 0) := (blk_cell BK234.out 1).trans rfl
   have hfz19_0 := blk_frozen BK234.out 0
   have hfz19_1 := blk_frozen BK234.out 1
   go_wp2
   refine bodyPost_ret (results_ct rfl _ _ gb234 29 #[.slice none 0 0, .int .i64 0] (0, 0) _ rfl s12q12 Tryd.underlying29 rfl s12q0) rfl ?_
   exact ⟨_, by first | rfl | (simp [errW_none, errW_some] <;> rfl) | (simp [*, errW_none, errW_some] <;> rfl), by first | exact Kd.R_nil _ _ _ _ _ | exact Kd.N_nil _ _ _ _ _ | exact Kd.V_nil _ _ _ _ _ | exact Kd.Q_nil _ _ _ _ _ | exact Kd.S_nil _ _ _ _ _, by repeat (first | (with_reducible first | exact HB.out | apply below_alloc | apply pw_below_drewN | apply below_drew1 | refine below_set ?_ GE233.out | refine below_set ?_ GE234.out) | exact HB.out)⟩
 replace c17 := Bool.eq_false_iff.mpr c17
 subst c17
 have H1 : (if 0 ≤ (wrap64 (Int.tdiv a2 8)) then (if (wrap64 (Int.tdiv a2 8) : Int).toNat ≤ 281474976710656 then ((peristyleref8_keys.f kj6 l0_0 l0_1 l1).bind fun t242 => (peristyleref8_FilterOf.l0 kj6 a2 a3 t242 (t242.length : Int) 0 (List.replicate (wrap64 (Int.tdiv a2 8) : Int).toNat 0) a3)) else (none)) else (none)) = some (r1, r2, r3) := s12q20
 clear H
 have H := H1
 clear H1
 obtain ⟨ji20, hji20⟩ : ∃ j_ : Int, (wrap64 (Int.tdiv a2 8)) = j_ := ⟨_, rfl⟩
 replace H : (if 0 ≤ (ji20) then (if (ji20 : Int).toNat ≤ 281474976710656 then ((peristyleref8_keys.f kj6 l0_0 l0_1 l1).bind fun t242 => (peristyleref8_FilterOf.l0 kj6 a2 a3 t242 (t242.length : Int) 0 (List.replicate (ji20 : Int).toNat 0) a3)) else (none)) else (none)) = some (r1, r2, r3) := by first | (rw [hji20] at H; exact H) | (simp only [hji20] at H ⊢; exact H)
 have hji20w : (IntKind.i64.wrap (Int.tdiv a2 8)) = ji20 := (i64_w _).trans hji20
 by_cases c21 : 0 ≤ (ji20)
 case neg =>
  rw [if_neg c21] at H
  exact absurd H (by simp)
 rw [if_pos c21] at H
 have c21b0 := eq_true c21
 have c21b1 : decide (0 ≤ (ji20)) = true := decide_eq_true c21
 clear c21
 by_cases c22 : (ji20 : Int).toNat ≤ 281474976710656
 case neg =>
  rw [if_neg c22] at H
  exact absurd H (by simp)
 rw [if_pos c22] at H
 have c22b0 := eq_true c22
 have c22b1 : decide ((ji20 : Int).toNat ≤ 281474976710656) = true := decide_eq_true c22
 clear c22
 obtain ⟨y238, hy238⟩ : ∃ y_ : List Int, y_ = (List.replicate (ji20 : Int).toNat 0) := ⟨_, rfl⟩
 replace H : ((peristyleref8_keys.f kj6 l0_0 l0_1 l1).bind fun t242 => (peristyleref8_FilterOf.l0 kj6 a2 a3 t242 (t242.length : Int) 0 y238 a3)) = some (r1, r2, r3) := sqz hy238 H
 have Ny238 := Aside0.mk hy238
 clear hy238
 replace H := Option.bind_eq_some_iff.mp H
 obtain ⟨t242, A230, H⟩ := H
 replace H : (peristyleref8_FilterOf.l0 kj6 a2 a3 t242 (t242.length : Int) 0 y238 a3) = some (r1, r2, r3) := H
 have A23 := Aside0.mk A230
 clear A230
 have H' := Aside0.mk H
 clear H
 go_wp2_with (first | ((with_reducible refine gate_dst (N := 39) rfl ?_); refine Kd.R_make (Kd.int .u8) _ 5 rfl (N := 39) rfl 27 _ _ rfl ji20 rfl rfl Tryd.underlying27 (.int .u8 0) 1 info5 rfl (by decide) (by omega) 0 (ok := fun _ => True) (okp := fun _ => True) rfl (fun _ hk => hk) trivial (of_decide_eq_true s12q2) (Nat.le_trans (Nat.mul_le_mul_right _ (of_decide_eq_true s12q2 : ji20.toNat ≤ 281474976710656)) (by omega)) (Below.refl _ _) (Nat.le_refl _) ?_; intro v239 w24 ho25 hb hg_ hnew_; clear hg_ hnew_; (first | rw [← Ny238.out] at ho25 | (simp only [Int.reduceToNat] at ho25; rw [← Ny238.out] at ho25)); have n0_ := Aside0.mk (Kd.R_lower ho25 (below_size s12q10)); have n1_ := Aside0.mk (blk_below (g := gb233) (o := .cells #[.slice A0_0 l0_0.length c0_0, .slice A0_1 l0_1.length c0_1] 25 (0, 0)) s12q3 hb); have n2_ := Aside0.mk (blk_below (g := gb234) (o := .cells #[.slice none 0 0, .int .i64 0] 29 (0, 0)) s12q4 hb); have n3_ := Aside0.mk (below_step s12q10 hb); clear BK233; clear BK234; clear HB; have HO240 := n0_; have BK233 := n1_; have BK234 := n2_; have HB := n3_; clear n0_ n1_ n2_ n3_; clear hb ho25; obtain ⟨Ao26, co26, eo26⟩ := Kd.R_slice HO240.out; subst eo26) | ((with_reducible refine gate_dst (N := 11) rfl ?_); refine box_event ?hg (N := 11) ?hd (cs := #[.slice none 0 0, .int .i64 0]) (t := 29) ?hr ?_; (case hd => rfl); (case hg => rfl); (case hr => first | (go_simp; done) | (go_simp; rfl)); intro gb241 hg w27 hbox hb; have n0_ := Aside0.mk (Kd.R_below (by (with_reducible repeat (first | apply Kd.R_alloc | apply Kd.R_drewN | apply Kd.R_drew)); exact HO240.out) hb); have n1_ := Aside0.mk (blk_below (g := gb233) (o := .cells #[.slice A0_0 l0_0.length c0_0, .slice A0_1 l0_1.length c0_1] 25 (0, 0)) s12q3 hb); have n2_ := Aside0.mk (blk_below (g := gb234) (o := .cells #[.slice none 0 0, .int .i64 0] 29 (0, 0)) s12q4 hb); have n3_ := Aside0.mk (below_step s12q10 hb); have n4_ := Aside0.mk (hbox); have n5_ := Aside0.mk (((by rw [hg]; exact (below_size s12q10)) : w.heap.size ≤ gb241)); have n6_ := Aside0.mk (((by rw [hg]; exact (below_size s12q10)) : w.heap.size ≤ gb241)); have n7_ := Aside0.mk ((by rw [hg]; exact Nat.ne_of_lt (blk_lt (g := gb233) (o := .cells #[.slice A0_0 l0_0.length c0_0, .slice A0_1 l0_1.length c0_1] 25 (0, 0)) s12q3) : gb233 ≠ gb241)); have n8_ := Aside0.mk ((by rw [hg]; exact Nat.ne_of_gt (blk_lt (g := gb233) (o := .cells #[.slice A0_0 l0_0.length c0_0, .slice A0_1 l0_1.length c0_1] 25 (0, 0)) s12q3) : gb241 ≠ gb233)); have n9_ := Aside0.mk ((by rw [hg]; exact Nat.ne_of_lt (blk_lt (g := gb234) (o := .cells #[.slice none 0 0, .int .i64 0] 29 (0, 0)) s12q4) : gb234 ≠ gb241)); have n10_ := Aside0.mk ((by rw [hg]; exact Nat.ne_of_gt (blk_lt (g := gb234) (o := .cells #[.slice none 0 0, .int .i64 0] 29 (0, 0)) s12q4) : gb241 ≠ gb234)); clear HO240; clear BK233; clear BK234; clear HB; have HO240 := n0_; have BK233 := n1_; have BK234 := n2_; have HB := n3_; have BK241 := n4_; have GW241 := n5_; have GE241 := n6_; have NB233_241 := n7_; have NB241_233 := n8_; have NB234_241 := n9_; have NB241_234 := n10_; clear n0_ n1_ n2_ n3_ n4_ n5_ n6_ n7_ n8_ n9_ n10_; clear hb hbox hg; have hnb28 := NB241_233.out; have hnc28 := NB233_241.out; have hnb29 := NB241_234.out; have hnc29 := NB234_241.out; have hcz30_0 : w27.cell? ⟨gb241, 0, none⟩ = some (.slice none 0 0) := (blk_cell BK241.out 0).trans rfl; have hcz30_1 : w27.cell? ⟨gb241, 1, none⟩ = some (.int .i64 0) := (blk_cell BK241.out 1).trans rfl; have hfz30_0 := blk_frozen BK241.out 0; have hfz30_1 := blk_frozen BK241.out 1; have hnb31 := NB233_234.out; have hnc31 := NB234_233.out; have hcz32_0 : w27.cell? ⟨gb233, 0, none⟩ = some (.slice A0_0 l0_0.length c0_0) := (blk_cell BK233.out 0).trans rfl; have hcz32_1 : w27.cell? ⟨gb233, 1, none⟩ = some (.slice A0_1 l0_1.length c0_1) := (blk_cell BK233.out 1).trans rfl; have hfz32_0 := blk_frozen BK233.out 0; have hfz32_1 := blk_frozen BK233.out 1) | ((with_reducible refine gate_callee (f := 17) rfl ?_); refine goesL_ (some 44) rfl rfl Tryd.func17 s12q0 rfl #[.agg #[.slice A0_0 l0_0.length c0_0, .slice A0_1 l0_1.length c0_1], .slice A1 l1.length c1] rfl s12q7 ?_; (with_reducible refine (peristyleref8_keys.calls kj6 _ _ l0_0 _ _ l0_1 _ _ l1 t242 _ ?side1 ?side2 ?side3 ?side4 ?side5 ?side6 A23.out).mono ?_); (case side1 => exact Kd.C_below HR0_0.out s12q11); (case side2 => exact HC0_0.out); (case side3 => exact Kd.C_below HR0_1.out s12q11); (case side4 => exact HC0_1.out); (case side5 => exact Kd.C_below HR1.out s12q11); (case side6 => exact HC1.out); rintro e w33 ⟨v243, rfl, ho0, hb⟩; refine ⟨_, rfl, ?_⟩; have n0_ := Aside0.mk (Kd.R_below (by (with_reducible repeat (first | apply Kd.R_alloc | apply Kd.R_drewN | apply Kd.R_drew)); exact (Kd.R_mono (Kd.R_far (p := ⟨gb241, 1, none⟩) (Kd.R_far (p := ⟨gb241, 0, none⟩) (Kd.R_types HO240.out BK241.out (by decide)) (fun _ hk => hk.2) (.slice Ao26 y238.length co26)) (fun _ hk => hk.2) (.int .i64 a3)) (fun _ h_ => h_.1))) hb); have n1_ := Aside0.mk (Kd.S_lower ho0 (below_size s12q11)); have n2_ := Aside0.mk (blk_below (g := gb233) (o := .cells #[.slice A0_0 l0_0.length c0_0, .slice A0_1 l0_1.length c0_1] 25 (0, 0)) (by (with_reducible repeat (first | refine blk_drewN ?_ _ | refine blk_drew ?_ | refine blk_alloc ?_ _)); refine blk_far ?_ NB233_241.out _; (with_reducible repeat (first | refine blk_drewN ?_ _ | refine blk_drew ?_ | refine blk_alloc ?_ _)); refine blk_far ?_ NB233_241.out _; (with_reducible repeat (first | refine blk_drewN ?_ _ | refine blk_drew ?_ | refine blk_alloc ?_ _)); exact BK233.out) hb); have n3_ := Aside0.mk (blk_below (g := gb234) (o := .cells #[.slice none 0 0, .int .i64 0] 29 (0, 0)) (by (with_reducible repeat (first | refine blk_drewN ?_ _ | refine blk_drew ?_ | refine blk_alloc ?_ _)); refine blk_far ?_ NB234_241.out _; (with_reducible repeat (first | refine blk_drewN ?_ _ | refine blk_drew ?_ | refine blk_alloc ?_ _)); refine blk_far ?_ NB234_241.out _; (with_reducible repeat (first | refine blk_drewN ?_ _ | refine blk_drew ?_ | refine blk_alloc ?_ _)); exact BK234.out) hb); have n4_ := Aside0.mk (blk_below (g := gb241) (o := .cells #[.slice Ao26 y238.length co26, .int .i64 a3] 29 (0, 0)) (by (with_reducible repeat (first | refine blk_drewN ?_ _ | refine blk_drew ?_ | refine blk_alloc ?_ _)); refine blk_put (cs := #[.slice Ao26 y238.length co26, .int .i64 0]) ?_ 1 _ rfl; (with_reducible repeat (first | refine blk_drewN ?_ _ | refine blk_drew ?_ | refine blk_alloc ?_ _)); refine blk_put (cs := #[.slice none 0 0, .int .i64 0]) ?_ 0 _ rfl; (with_reducible repeat (first | refine blk_drewN ?_ _ | refine blk_drew ?_ | refine blk_alloc ?_ _)); exact BK241.out) hb); have n5_ := Aside0.mk (below_step s12q11 hb); clear HO240; clear BK233; clear BK234; clear BK241; clear HB; have HO240 := n0_; have HO244 := n1_; have BK233 := n2_; have BK234 := n3_; have BK241 := n4_; have HB := n5_; clear n0_ n1_ n2_ n3_ n4_ n5_; (try clear hb); (try clear hb2); (try clear hk); (try clear hi); (try clear ho0); obtain ⟨Ao34, co34, eo34⟩ := Kd.S_slice HO244.out; subst eo34))
 go_loopg [46] kj6 (fun kq v46 w' => ∃ (x46_2 : Int) (x242000_2 : List Int) (u242000 : Value), v46 = .int .i64 x46_2 ∧ Aside0 (peristyleref8_FilterOf.l0 kq a2 a3 t242 (t242.length : Int) x46_2 x242000_2 a3 = some (r1, r2, r3)) ∧ Aside0 (kq ≤ kj6) ∧ Aside0 (Kd.S (Kd.slice 54 k54) 41 w' w.heap.size (fun _ => True) (.slice Ao34 t242.length co34) t242) ∧ Aside0 (Kd.R (Kd.int .u8) 5 w' w.heap.size (fun _ => True) u242000 x242000_2) ∧ Aside0 (w'.heap[gb233]? = some (.cells #[(.slice A0_0 l0_0.length c0_0), (.slice A0_1 l0_1.length c0_1)] 25 (0, 0))) ∧ Aside0 (w'.heap[gb234]? = some (.cells #[(.slice none 0 0), .int .i64 0] 29 (0, 0))) ∧ Aside0 (w'.heap[gb241]? = some (.cells #[u242000, .int .i64 a3] 29 (0, 0))) ∧ Aside0 (Below w.heap.size w w'))
 case atStart => exact ⟨(0), (y238), (.slice Ao26 y238.length co26), s12q1, H', ⟨Nat.le_refl _⟩, ⟨by (with_reducible repeat (first | apply Kd.S_alloc | apply Kd.S_drewN | apply Kd.S_drew)); exact HO244.out⟩, ⟨by (with_reducible repeat (first | apply Kd.R_alloc | apply Kd.R_drewN | apply Kd.R_drew)); exact HO240.out⟩, ⟨by (with_reducible repeat (first | refine blk_drewN ?_ _ | refine blk_drew ?_ | refine blk_alloc ?_ _)); exact BK233.out⟩, ⟨by (with_reducible repeat (first | refine blk_drewN ?_ _ | refine blk_drew ?_ | refine blk_alloc ?_ _)); exact BK234.out⟩, ⟨by (with_reducible repeat (first | refine blk_drewN ?_ _ | refine blk_drew ?_ | refine blk_alloc ?_ _)); exact BK241.out⟩, ⟨by repeat (first | (with_reducible first | exact HB.out | apply below_alloc | apply pw_below_drewN | apply below_drew1 | refine below_set ?_ GE233.out | refine below_set ?_ GE234.out | refine below_set ?_ GE241.out) | exact HB.out)⟩⟩
 clear H'
 try clear c1
 try clear c2
 try clear p2
 try clear c3
 try clear c5
 try clear c6
 try clear c6b0
 try clear c6b1
 try clear p6
 try clear c10
 try clear c14
 try clear c15
 try clear c15b0
 try clear c15b1
 try clear c16
 try clear c17
 try clear c18
 try clear c21
 try clear c21b0
 try clear c21b1
 try clear c22
 try clear c22b0
 try clear c22b1
 try clear c28
 try clear c29
 try clear c31
 try clear hcz11_0
 try clear hcz11_1
 try clear hcz19_0
 try clear hcz19_1
 try clear hcz30_0
 try clear hcz30_1
 try clear hcz32_0
 try clear hcz32_1
 try clear hfz11_0
 try clear hfz11_1
 try clear hfz19_0
 try clear hfz19_1
 try clear hfz30_0
 try clear hfz30_1
 try clear hfz32_0
 try clear hfz32_1
 try clear p2
 obtain ⟨x46_2, x242000_2, u242000, rfl, HA, HK2, HO_44, HO_242000, BK233, BK234, BK241, HB⟩ := hrel
 cases gk with
 | zero => exact absurd HA.out (by simp [peristyleref8_FilterOf.l0])
 | succ k2 => ?_
 have H := HA.out
 clear HA
 simp only [peristyleref8_FilterOf.l0] at H
 by_cases c35 : x46_2 < (t242.length : Int)
 case neg =>
  rw [if_neg c35] at H
  have c35b0 : decide (x46_2 < (t242.length : Int)) = false := decide_eq_false c35
  clear c35
  simp only [Option.some.injEq, Prod.mk.injEq] at H
  obtain ⟨rfl, rfl, rfl⟩ := H
  have hnb52 := NB241_233.out
  have hnc52 := NB233_241.out
  have hnb53 := NB241_234.out
  have hnc53 := NB234_241.out
  have hcz54_0 : wr.cell? ⟨gb241, 0, none⟩ = some (u242000) := (blk_cell BK241.out 0).trans rfl
  have hcz54_1 : wr.cell? ⟨gb241, 1, none⟩ = some (.int .i64 a3) := (blk_cell BK241.out 1).trans rfl
  have hfz54_0 := blk_frozen BK241.out 0
  have hfz54_1 := blk_frozen BK241.out 1
  obtain ⟨Ao55, co55, eo55⟩ := Kd.R_slice HO_242000.out
  subst eo55
  have hnb56 := NB234_233.out
  have hnc56 := NB233_234.out
  have hcz57_0 : wr.cell? ⟨gb234, 0, none⟩ = some (.slice none 0 0) := (blk_cell BK234.out 0).trans rfl
  have hcz57_1 : wr.cell? ⟨gb234, 1, none⟩ = some (.int .i64 0) := (blk_cell BK234.out 1).trans rfl
  have hfz57_0 := blk_frozen BK234.out 0
  have hfz57_1 := blk_frozen BK234.out 1
  go_wp2
  refine bodyPost_ret (results_ct rfl _ _ gb234 29 #[.slice Ao55 x242000_2.length co55, .int .i64 a3] (0, 0) _ rfl (by (with_reducible repeat (first | refine blk_drewN ?_ _ | refine blk_drew ?_ | refine blk_alloc ?_ _)); refine blk_put (cs := #[.slice Ao55 x242000_2.length co55, .int .i64 0]) ?_ 1 _ rfl; (with_reducible repeat (first | refine blk_drewN ?_ _ | refine blk_drew ?_ | refine blk_alloc ?_ _)); refine blk_put (cs := #[.slice none 0 0, .int .i64 0]) ?_ 0 _ rfl; (with_reducible repeat (first | refine blk_drewN ?_ _ | refine blk_drew ?_ | refine blk_alloc ?_ _)); exact BK234.out) Tryd.underlying29 rfl s12q0) rfl ?_
  exact ⟨_, by first | rfl | (simp [errW_none, errW_some] <;> rfl) | (simp only [← hji20]; first | rfl | (simp [errW_none, errW_some] <;> rfl)) | (simp [*, errW_none, errW_some] <;> rfl), by (with_reducible repeat (first | apply Kd.R_alloc | apply Kd.R_drewN | apply Kd.R_drew)); exact Kd.R_mono (Kd.R_far (p := ⟨gb234, 1, none⟩) (Kd.R_far (p := ⟨gb234, 0, none⟩) (Kd.R_types HO_242000.out BK234.out (by decide)) (fun _ hk => hk.2) (.slice Ao55 x242000_2.length co55)) (fun _ hk => hk.2) (.int .i64 a3)) (fun _ hk => trivial), by repeat (first | (with_reducible first | exact HB.out | apply below_alloc | apply pw_below_drewN | apply below_drew1 | refine below_set ?_ GE233.out | refine below_set ?_ GE234.out | refine below_set ?_ GE241.out) | exact HB.out)⟩
 rw [if_pos c35] at H
 have c35b0 : decide (x46_2 < (t242.length : Int)) = true := decide_eq_true c35
 clear c35
 by_cases c36 : 0 ≤ x46_2
 case neg =>
  rw [if_neg c36] at H
  exact absurd H (by simp)
 rw [if_pos c36] at H
 have c36b0 : decide (0 ≤ x46_2) = true := decide_eq_true c36
 clear c36
 by_cases c37 : x46_2 < (t242.length : Int)
 case neg =>
  rw [if_neg c37] at H
  exact absurd H (by simp)
 rw [if_pos c37] at H
 have c37b0 : decide (x46_2 < (t242.length : Int)) = true := decide_eq_true c37
 clear c37
 have H' := Aside0.mk H
 clear H
 have p245 : 0 ≤ (x46_2 : Int) := of_decide_eq_true s12q2
 have q245 : x46_2 < (t242.length : Int) := of_decide_eq_true s12q2
 obtain ⟨ad245, A245_0, c245_0, e245, hx245_0, hl245_0, hi245_0⟩ := at_L4 (Kd.S_reads' HO_44.out).2.2 x46_2 p245 q245
 cases e245
 obtain ⟨ce245, hce245, hMe245, hcc245⟩ := Kd.S_get HO_44.out [] x46_2 p245 (by first | exact q245 | exact of_decide_eq_true s12q2 | (have e_ := (Kd.S_reads' HO_44.out).1; omega))
 obtain ⟨ve245_0, rfl, ge245_0⟩ := hMe245
 have hv245_0 := hcc245 0 _ rfl
 rw [Nat.add_zero, show ((Kd.slice 54 k54)).sz = 1 from rfl, Nat.mul_one] at hv245_0
 replace hv245_0 := Option.some.inj (hv245_0.symm.trans hx245_0)
 rw [hv245_0] at ge245_0
 have HL245_0 := Aside0.mk (show Kd.R k54 54 _ _ _ _ (rd_L4 t242 x46_2) from ge245_0)
 clear hv245_0 ge245_0
 clear hcc245 hce245
 have HR245_0 := Aside0.mk hi245_0
 have HC245_0 := Aside0.mk hl245_0
 clear hi245_0 hl245_0
 replace p245 := eq_true p245
 replace q245 := eq_true q245
 go_wp2
 go_loopg [51] k2 (fun kq v51 w' => ∃ (x51_3 : Int) (x242000_3 : List Int) (u242000 : Value), v51 = .int .i64 x51_3 ∧ Aside0 (peristyleref8_FilterOf.l1 kq a2 a3 (rd_L4 t242 x46_2) t242 (t242.length : Int) x46_2 a3 x51_3 x242000_3 a3 = some (r1, r2, r3)) ∧ Aside0 (kq ≤ k2) ∧ Aside0 (Kd.S (Kd.slice 54 k54) 41 w' w.heap.size (fun _ => True) (.slice (some ad245) t242.length co34) t242) ∧ Aside0 (Kd.R (Kd.int .u8) 5 w' w.heap.size (fun _ => True) u242000 x242000_3) ∧ Aside0 (w'.heap[gb233]? = some (.cells #[(.slice A0_0 l0_0.length c0_0), (.slice A0_1 l0_1.length c0_1)] 25 (0, 0))) ∧ Aside0 (w'.heap[gb234]? = some (.cells #[(.slice none 0 0), .int .i64 0] 29 (0, 0))) ∧ Aside0 (w'.heap[gb241]? = some (.cells #[u242000, .int .i64 a3] 29 (0, 0))) ∧ Aside0 (Kd.C k54 w' A245_0 (rd_L4 t242 x46_2).length (rd_L4 t242 x46_2)) ∧ Aside0 (Kd.R k54 54 w' w.heap.size (fun _ => True) (.slice A245_0 (rd_L4 t242 x46_2).length c245_0) (rd_L4 t242 x46_2)) ∧ Aside0 (Below w.heap.size w w'))
 case atStart => exact ⟨(0), (x242000_2), (u242000), s12q1, H', ⟨Nat.le_refl _⟩, ⟨by (with_reducible repeat (first | apply Kd.S_alloc | apply Kd.S_drewN | apply Kd.S_drew)); exact HO_44.out⟩, ⟨by (with_reducible repeat (first | apply Kd.R_alloc | apply Kd.R_drewN | apply Kd.R_drew)); exact HO_242000.out⟩, ⟨by (with_reducible repeat (first | refine blk_drewN ?_ _ | refine blk_drew ?_ | refine blk_alloc ?_ _)); exact BK233.out⟩, ⟨by (with_reducible repeat (first | refine blk_drewN ?_ _ | refine blk_drew ?_ | refine blk_alloc ?_ _)); exact BK234.out⟩, ⟨by (with_reducible repeat (first | refine blk_drewN ?_ _ | refine blk_drew ?_ | refine blk_alloc ?_ _)); exact BK241.out⟩, ⟨by repeat (first | (with_reducible exact HR245_0.out) | (with_reducible refine Kd.C_alloc ?_ _) | (with_reducible refine Kd.C_drewN ?_ _) | (with_reducible refine Kd.C_drew ?_) | exact HR245_0.out)⟩, ⟨by (with_reducible repeat (first | apply Kd.R_alloc | apply Kd.R_drewN | apply Kd.R_drew)); exact Kd.R_mono HL245_0.out (fun _ hk => trivial)⟩, ⟨by repeat (first | (with_reducible first | exact HB.out | apply below_alloc | apply pw_below_drewN | apply below_drew1 | refine below_set ?_ GE233.out | refine below_set ?_ GE234.out | refine below_set ?_ GE241.out) | exact HB.out)⟩⟩
 clear H'
 try clear c1
 try clear c2
 try clear p2
 try clear q2
 try clear hx2
 try clear c3
 try clear c5
 try clear c6
 try clear c6b0
 try clear c6b1
 try clear p6
 try clear c10
 try clear c14
 try clear c15
 try clear c15b0
 try clear c15b1
 try clear c16
 try clear c17
 try clear c18
 try clear c21
 try clear c21b0
 try clear c21b1
 try clear c22
 try clear c22b0
 try clear c22b1
 try clear c24
 try clear p24
 try clear q24
 try clear hx24
 try clear c28
 try clear c29
 try clear c31
 try clear c35
 try clear c35b0
 try clear c36
 try clear c36b0
 try clear c37
 try clear c37b0
 try clear hcz11_0
 try clear hcz11_1
 try clear hcz19_0
 try clear hcz19_1
 try clear hcz30_0
 try clear hcz30_1
 try clear hcz32_0
 try clear hcz32_1
 try clear hfz11_0
 try clear hfz11_1
 try clear hfz19_0
 try clear hfz19_1
 try clear hfz30_0
 try clear hfz30_1
 try clear hfz32_0
 try clear hfz32_1
 try clear hx245_0
 try clear p2
 try clear p245
 try clear p6
 try clear q245
 obtain ⟨x51_3, x242000_3, u242000, rfl, HA, HK3, HO_44, HO_242000, BK233, BK234, BK241, HR245_0, HL245_0, HB⟩ := hrel
 cases gk with
 | zero => exact absurd HA.out (by simp [peristyleref8_FilterOf.l1])
 | succ k3 => ?_
 have H := HA.out
 clear HA
 simp only [peristyleref8_FilterOf.l1] at H
 by_cases c38 : x51_3 < a3
 case neg =>
  rw [if_neg c38] at H
  have c38b0 : decide (x51_3 < a3) = false := decide_eq_false c38
  clear c38
  have H' := Aside0.mk H
  clear H
  go_wp2
  first | go_roundg k3 | (refine Handed.intro k3 ?measure ?_; rotate_left; go_step; (repeat apply Exists.intro); simp only [add_plain]; refine ⟨?rel, rfl⟩)
  case measure => have := HJ6.out; have := HK2.out; have := HK3.out; omega
  case rel => exact ⟨(wrap64 (x46_2 + 1)), (x242000_3), (u242000), s12q1, H', ⟨by have := HJ6.out; have := HK2.out; have := HK3.out; omega⟩, ⟨by (with_reducible repeat (first | apply Kd.S_alloc | apply Kd.S_drewN | apply Kd.S_drew)); exact HO_44.out⟩, ⟨by (with_reducible repeat (first | apply Kd.R_alloc | apply Kd.R_drewN | apply Kd.R_drew)); exact HO_242000.out⟩, ⟨by (with_reducible repeat (first | refine blk_drewN ?_ _ | refine blk_drew ?_ | refine blk_alloc ?_ _)); exact BK233.out⟩, ⟨by (with_reducible repeat (first | refine blk_drewN ?_ _ | refine blk_drew ?_ | refine blk_alloc ?_ _)); exact BK234.out⟩, ⟨by (with_reducible repeat (first | refine blk_drewN ?_ _ | refine blk_drew ?_ | refine blk_alloc ?_ _)); exact BK241.out⟩, ⟨by repeat (first | (with_reducible first | exact HB.out | apply below_alloc | apply pw_below_drewN | apply below_drew1 | refine below_set ?_ GE233.out | refine below_set ?_ GE234.out | refine below_set ?_ GE241.out) | exact HB.out)⟩⟩
 rw [if_pos c38] at H
 have c38b0 : decide (x51_3 < a3) = true := decide_eq_true c38
 clear c38
 replace H := Option.bind_eq_some_iff.mp H
 obtain ⟨t246, A390, H⟩ := H
 replace H : (if a2 = 0 then (none) else (if 0 ≤ (wrap64 (Int.tdiv (Int.tmod t246 a2) 8)) then (if (wrap64 (Int.tdiv (Int.tmod t246 a2) 8)) < (x242000_3.length : Int) then (if 0 ≤ (Int.tmod (Int.tmod t246 a2) 8) then (peristyleref8_FilterOf.l1 k3 a2 a3 (rd_L4 t242 x46_2) t242 (t242.length : Int) x46_2 a3 (wrap64 (x51_3 + 1)) (x242000_3.set ((wrap64 (Int.tdiv (Int.tmod t246 a2) 8)) : Int).toNat (Go.bits .or .u8 (rd x242000_3 (wrap64 (Int.tdiv (Int.tmod t246 a2) 8))) (shl .u8 1 (Int.tmod (Int.tmod t246 a2) 8)))) a3) else (none)) else (none)) else (none))) = some (r1, r2, r3) := H
 have A39 := Aside0.mk A390
 clear A390
 by_cases c40 : a2 = 0
 · rw [if_pos c40] at H
   exact absurd H (by simp)
 rw [if_neg c40] at H
 have c40b0 : (a2 == 0) = false := beq_eq_false_iff_ne.mpr c40
 have c40b1 : (a2 != 0) = true := bne_iff_ne.mpr c40
 obtain ⟨ji41, hji41⟩ : ∃ j_ : Int, (wrap64 (Int.tdiv (Int.tmod t246 a2) 8)) = j_ := ⟨_, rfl⟩
 replace H : (if 0 ≤ (ji41) then (if (ji41) < (x242000_3.length : Int) then (if 0 ≤ (Int.tmod (Int.tmod t246 a2) 8) then (peristyleref8_FilterOf.l1 k3 a2 a3 (rd_L4 t242 x46_2) t242 (t242.length : Int) x46_2 a3 (wrap64 (x51_3 + 1)) (x242000_3.set ((ji41) : Int).toNat (Go.bits .or .u8 (rd x242000_3 (ji41)) (shl .u8 1 (Int.tmod (Int.tmod t246 a2) 8)))) a3) else (none)) else (none)) else (none)) = some (r1, r2, r3) := by first | (rw [hji41] at H; exact H) | (simp only [hji41] at H ⊢; exact H)
 (try rw [hji41] at A39)
 have hji41w : (IntKind.i64.wrap (Int.tdiv (Int.tmod t246 a2) 8)) = ji41 := (i64_w _).trans hji41
 by_cases c42 : 0 ≤ (ji41)
 case neg =>
  rw [if_neg c42] at H
  exact absurd H (by simp)
 rw [if_pos c42] at H
 have c42b0 : decide (0 ≤ (ji41)) = true := decide_eq_true c42
 clear c42
 by_cases c43 : (ji41) < (x242000_3.length : Int)
 case neg =>
  rw [if_neg c43] at H
  exact absurd H (by simp)
 rw [if_pos c43] at H
 have c43b0 : decide ((ji41) < (x242000_3.length : Int)) = true := decide_eq_true c43
 clear c43
 obtain ⟨ji44, hji44⟩ : ∃ j_ : Int, (Int.tmod (Int.tmod t246 a2) 8) = j_ := ⟨_, rfl⟩
 replace H : (if 0 ≤ (ji44) then (peristyleref8_FilterOf.l1 k3 a2 a3 (rd_L4 t242 x46_2) t242 (t242.length : Int) x46_2 a3 (wrap64 (x51_3 + 1)) (x242000_3.set ((ji41) : Int).toNat (Go.bits .or .u8 (rd x242000_3 (ji41)) (shl .u8 1 (ji44)))) a3) else (none)) = some (r1, r2, r3) := by first | (rw [hji44] at H; exact H) | (simp only [hji44] at H ⊢; exact H)
 (try rw [hji44] at A39)
 by_cases c45 : 0 ≤ (ji44)
 case neg =>
  rw [if_neg c45] at H
  exact absurd H (by simp)
 rw [if_pos c45] at H
 have c45b0 := eq_true c45
 have c45b1 : decide (0 ≤ (ji44)) = true := decide_eq_true c45
 clear c45
 obtain ⟨ji46, hji46⟩ : ∃ j_ : Int, (shl .u8 1 (ji44)) = j_ := ⟨_, rfl⟩
 replace H : (peristyleref8_FilterOf.l1 k3 a2 a3 (rd_L4 t242 x46_2) t242 (t242.length : Int) x46_2 a3 (wrap64 (x51_3 + 1)) (x242000_3.set ((ji41) : Int).toNat (Go.bits .or .u8 (rd x242000_3 (ji41)) (ji46))) a3) = some (r1, r2, r3) := by first | (rw [hji46] at H; exact H) | (simp only [hji46] at H ⊢; exact H)
 (try rw [hji46] at A39)
 have hji46_ : (IntKind.u8.wrap (1 * 2 ^ min (ji44).toNat 8)) = ji46 := hji46
 have hji46z : (ji44) ≤ 8 → (IntKind.u8.wrap (1 * 2 ^ (ji44).toNat)) = ji46 := shl_small hji46
 have hji46u : (IntKind.u8.wrap (2 ^ min (ji44).toNat 8)) = ji46 := by have h_ := hji46_; rw [Int.one_mul] at h_; exact h_
 have hji46v : (ji44) ≤ 8 → (IntKind.u8.wrap (2 ^ (ji44).toNat)) = ji46 := fun hle_ => by have h_ := hji46z hle_; rw [Int.one_mul] at h_; exact h_
 obtain ⟨y248, hy248⟩ : ∃ y_ : List Int, y_ = (x242000_3.set ((ji41) : Int).toNat (Go.bits .or .u8 (rd x242000_3 (ji41)) (ji46))) := ⟨_, rfl⟩
 replace H : (peristyleref8_FilterOf.l1 k3 a2 a3 (rd_L4 t242 x46_2) t242 (t242.length : Int) x46_2 a3 (wrap64 (x51_3 + 1)) y248 a3) = some (r1, r2, r3) := sqz hy248 H
 have Ny248 := Aside0.mk hy248
 clear hy248
 have H' := Aside0.mk H
 clear H
 try go_wp2_with (first | ((with_reducible refine gate_callee (f := 18) rfl ?_); refine goesL_ (some 56) rfl rfl Tryd.func18 s12q0 rfl #[.slice A245_0 (rd_L4 t242 x46_2).length c245_0, .int .i64 x51_3] rfl s12q7 ?_; (with_reducible refine (peristyleref8_hash.calls k3 _ _ (rd_L4 t242 x46_2) x51_3 t246 _ ?side1 ?side2 ?side3 A39.out).mono ?_); (case side1 => repeat (first | exact (Kd.C_below HR245_0.out HB.out) | exact HR245_0.out | (with_reducible refine Kd.C_alloc ?_ _) | (with_reducible refine Kd.C_drewN ?_ _) | (with_reducible refine Kd.C_drew ?_))); (case side2 => exact HC245_0.out); (case side3 => exact Glob_below HG.out s12q11); rintro e w48 ⟨rfl, hb⟩; refine ⟨_, rfl, ?_⟩; have n0_ := Aside0.mk (Kd.S_below (by (with_reducible repeat (first | apply Kd.S_alloc | apply Kd.S_drewN | apply Kd.S_drew)); exact HO_44.out) hb); have n1_ := Aside0.mk (Kd.R_below (by (with_reducible repeat (first | apply Kd.R_alloc | apply Kd.R_drewN | apply Kd.R_drew)); exact HO_242000.out) hb); have n2_ := Aside0.mk (Kd.R_below (by (with_reducible repeat (first | apply Kd.R_alloc | apply Kd.R_drewN | apply Kd.R_drew)); exact HL245_0.out) hb); have n3_ := Aside0.mk (blk_below (g := gb233) (o := .cells #[.slice A0_0 l0_0.length c0_0, .slice A0_1 l0_1.length c0_1] 25 (0, 0)) s12q3 hb); have n4_ := Aside0.mk (blk_below (g := gb234) (o := .cells #[.slice none 0 0, .int .i64 0] 29 (0, 0)) s12q4 hb); have n5_ := Aside0.mk (blk_below (g := gb241) (o := .cells #[u242000, .int .i64 a3] 29 (0, 0)) (by (with_reducible repeat (first | refine blk_drewN ?_ _ | refine blk_drew ?_ | refine blk_alloc ?_ _)); exact BK241.out) hb); have n6_ := Aside0.mk (Kd.C_below (by repeat (first | (with_reducible exact HR245_0.out) | (with_reducible refine Kd.C_alloc ?_ _) | (with_reducible refine Kd.C_drewN ?_ _) | (with_reducible refine Kd.C_drew ?_) | exact HR245_0.out)) hb); have n7_ := Aside0.mk (below_step s12q11 hb); clear HO_44; clear HO_242000; clear HL245_0; clear BK233; clear BK234; clear BK241; clear HR245_0; clear HB; have HO_44 := n0_; have HO_242000 := n1_; have HL245_0 := n2_; have BK233 := n3_; have BK234 := n4_; have BK241 := n5_; have HR245_0 := n6_; have HB := n7_; clear n0_ n1_ n2_ n3_ n4_ n5_ n6_ n7_; (try clear hb); (try clear hb2); (try clear hk); (try clear hi)))
 have n0_ := Aside0.mk (Kd.S_drew HO_44.out)
 have n1_ := Aside0.mk (Kd.R_drew HO_242000.out)
 have n2_ := Aside0.mk (Kd.R_drew HL245_0.out)
 have n3_ := Aside0.mk (blk_drew BK233.out)
 have n4_ := Aside0.mk (blk_drew BK234.out)
 have n5_ := Aside0.mk (blk_drew BK241.out)
 have n6_ := Aside0.mk (Kd.C_drew HR245_0.out)
 have n7_ := Aside0.mk (below_drew1 HB.out)
 clear HO_44
 clear HO_242000
 clear HL245_0
 clear BK233
 clear BK234
 clear BK241
 clear HR245_0
 clear HB
 have HO_44 := n0_
 have HO_242000 := n1_
 have HL245_0 := n2_
 have BK233 := n3_
 have BK234 := n4_
 have BK241 := n5_
 have HR245_0 := n6_
 have HB := n7_
 clear n0_ n1_ n2_ n3_ n4_ n5_ n6_ n7_
 obtain ⟨Ao50, co50, eo50⟩ := Kd.R_slice HO_242000.out
 (first | subst eo50 | (injection eo50 with f1_ f2_ f3_; have f4_ := f1_.symm; have f5_ := f3_.symm; clear f1_ f2_ f3_; subst f4_; subst f5_))
 have p247 : 0 ≤ ((ji41) : Int) := of_decide_eq_true s12q2
 have q247 : (ji41) < (x242000_3.length : Int) := of_decide_eq_true s12q2
 obtain ⟨ad247, e247, hx247_0⟩ := Kd.at_int (Kd.R_reads' HO_242000.out).2.2 (ji41) p247 q247
 cases e247
 replace p247 := eq_true p247
 replace q247 := eq_true q247
 have p47 : 0 ≤ ((ji41) : Int) := of_decide_eq_true s12q2
 have q47 : ((ji41) : Int) < ((x242000_3.length : Int) : Int) := of_decide_eq_true s12q2
 obtain ⟨go47, co47, eo47, gb47, gl47, cl47, HG47⟩ := Kd.R_form HO_242000.out (by first | exact Int.natCast_pos.1 (Int.lt_of_le_of_lt p47 q47) | omega)
 (first | cases eo47 | (injection eo47 with ea_ en_ ec_; (first | subst ea_ | (injection ea_ with ea_; subst ea_)); subst ec_; clear en_))
 have GB47 := Aside0.mk gb47
 have GG47 := Aside0.mk HG47
 clear gb47 gl47 HG47
 (first | simp only [add_plain] at hx247_0 | skip)
 obtain ⟨hx47_0, hf47_0⟩ := Kd.R_celln 0 HO_242000.out ((ji41) : Int) p47 q47
 replace p47 := eq_true p47
 replace q47 := eq_true q47
 have HP51 := Kd.R_putn HO_242000.out ((ji41) : Int) (Go.bits .or .u8 (rd x242000_3 (ji41)) (ji46))
 rw [← Ny248.out] at HP51
 have HQ51 := Aside0.mk HP51
 clear HP51
 refine start_ (n := 12) (S := fun w' => w'.cell? ⟨gb241, 0, none⟩ = some (.slice (some ⟨go47, 0, none⟩) x242000_3.length co50) ∧ w'.cell? ⟨gb241, 1, none⟩ = some (.int .i64 a3) ∧ w'.cell? ⟨go47, ((ji41)).toNat, none⟩ = some (.int .u8 (rd x242000_3 (ji41)))) (ds := [11]) #[false, false, false, false, false, false, false, false, false, false, false, false] s12q0 rfl rfl ⟨(blk_cell BK241.out 0).trans rfl, (blk_cell BK241.out 1).trans rfl, hx247_0⟩ (fun hHeld => ?_); refine with_tabW peristyleref8_FilterOf.tab14 peristyleref8_FilterOf.bits14 (fun HT_ HW_ => ?_)
 generalize w48.drew = w49 at HO_44 HO_242000 HL245_0 BK233 BK234 BK241 HR245_0 HB GG47 HQ51 hf47_0 hx247_0 hx47_0 hHeld ⊢
 refine pure_ (i := 0) (N := some 59) (v := ?_) (a' := ?_) #[true, false, false, false, false, false, false, false, false, false, false, false] rfl rfl (any_of HT_.out s12q0) (fun _ _ _ h => h) (Or.inl ⟨by rfl, ?_⟩) ?_ ?_
 rotate_left
 · intro w'
   go_simp
   with_reducible rfl
 rotate_left
 · simp only [Act.put, sqa, sqb, sqc, i64_w, i32_w]
   rfl
 refine pure_ (i := 2) (N := some 61) (v := ?_) (a' := ?_) #[true, false, true, false, false, false, false, false, false, false, false, false] rfl rfl (any_of HT_.out s12q0) (fun _ _ _ h => h) (Or.inl ⟨by rfl, ?_⟩) ?_ ?_
 rotate_left
 · intro w'
   go_simp
   with_reducible rfl
 rotate_left
 · simp only [Act.put, sqa, sqb, sqc, i64_w, i32_w]
   rfl
 refine pure_ (i := 3) (N := some 62) (v := ?_) (a' := ?_) #[true, false, true, true, false, false, false, false, false, false, false, false] rfl rfl (any_of HT_.out s12q0) (fun _ _ _ h => h) (Or.inl ⟨by rfl, ?_⟩) ?_ ?_
 rotate_left
 · intro w'
   go_simp
   with_reducible rfl
 rotate_left
 · simp only [Act.put, sqa, sqb, sqc, i64_w, i32_w]
   rfl
 refine pure_ (i := 6) (N := some 65) (v := ?_) (a' := ?_) #[true, false, true, true, false, false, true, false, false, false, false, false] rfl rfl (any_of HT_.out s12q0) (fun _ _ _ h => h) (Or.inl ⟨by rfl, ?_⟩) ?_ ?_
 rotate_left
 · intro w'
   go_simp
   with_reducible rfl
 rotate_left
 · simp only [Act.put, sqa, sqb, sqc, i64_w, i32_w]
   rfl
 refine pure_ (i := 7) (N := some 66) (v := ?_) (a' := ?_) #[true, false, true, true, false, false, true, true, false, false, false, false] rfl rfl (any_of HT_.out s12q0) (fun _ _ _ h => h) (Or.inl ⟨by rfl, ?_⟩) ?_ ?_
 rotate_left
 · intro w'
   go_simp
   with_reducible rfl
 rotate_left
 · simp only [Act.put, sqa, sqb, sqc, i64_w, i32_w]
   rfl
 refine pure_ (i := 8) (N := some 67) (v := ?_) (a' := ?_) #[true, false, true, true, false, false, true, true, true, false, false, false] rfl rfl (any_of HT_.out s12q0) (fun _ _ _ h => h) (Or.inl ⟨by rfl, ?_⟩) ?_ ?_
 rotate_left
 · intro w'
   go_simp
   with_reducible rfl
 rotate_left
 · simp only [Act.put, sqa, sqb, sqc, i64_w, i32_w]
   rfl
 refine take_ (i := 1) (N := some 60) (v := ?_) (a' := ?_) #[true, true, true, true, false, false, true, true, true, false, false, false] rfl rfl (take_ofW HT_.out HW_.out s12q0) (fun _ _ _ h => h) (Or.inl ⟨by rfl, ?_⟩) hHeld ?_ ?_
 rotate_left
 · rintro w' ⟨s0, s1, s2⟩
   go_simp
   with_reducible rfl
 rotate_left
 · simp only [Act.put, sqa, sqb, sqc, i64_w, i32_w]
   rfl
 refine pure_ (i := 4) (N := some 63) (v := ?_) (a' := ?_) #[true, true, true, true, true, false, true, true, true, false, false, false] rfl rfl (any_of HT_.out s12q0) (fun _ _ _ h => h) (Or.inl ⟨by rfl, ?_⟩) ?_ ?_
 rotate_left
 · intro w'
   go_simp
   with_reducible rfl
 rotate_left
 · simp only [Act.put, sqa, sqb, sqc, i64_w, i32_w]
   rfl
 refine take_ (i := 5) (N := some 64) (v := ?_) (a' := ?_) #[true, true, true, true, true, true, true, true, true, false, false, false] rfl rfl (take_ofW HT_.out HW_.out s12q0) (fun _ _ _ h => h) (Or.inl ⟨by rfl, ?_⟩) hHeld ?_ ?_
 rotate_left
 · rintro w' ⟨s0, s1, s2⟩
   go_simp
   with_reducible rfl
 rotate_left
 · simp only [Act.put, sqa, sqb, sqc, i64_w, i32_w]
   rfl
 refine pure_ (i := 9) (N := some 68) (v := ?_) (a' := ?_) #[true, true, true, true, true, true, true, true, true, true, false, false] rfl rfl (any_of HT_.out s12q0) (fun _ _ _ h => h) (Or.inl ⟨by rfl, ?_⟩) ?_ ?_
 rotate_left
 · intro w'
   go_simp
   with_reducible rfl
 rotate_left
 · simp only [Act.put, sqa, sqb, sqc, i64_w, i32_w]
   rfl
 refine pure_ (i := 10) (N := some 69) (v := ?_) (a' := ?_) #[true, true, true, true, true, true, true, true, true, true, true, false] rfl rfl (any_of HT_.out s12q0) (fun _ _ _ h => h) (Or.inl ⟨by rfl, ?_⟩) ?_ ?_
 rotate_left
 · intro w'
   go_simp
   with_reducible rfl
 rotate_left
 · simp only [Act.put, sqa, sqb, sqc, i64_w, i32_w]
   rfl
 refine last_ (i := 11) (N := none) #[true, true, true, true, true, true, true, true, true, true, true, true] rfl rfl (one_of HT_.out s12q0) (by decide) (fun K hK => ?_)
 refine skip_ (w1 := ?_) (by rfl) rfl ?_ ?_
 rotate_left
 · go_simp
   rfl
 refine hK.out _ _ ?_
 clear hK K
 refine done_ (done_of HT_.out s12q0) ?_
 try go_wp2
 first | go_roundg k3 | (refine Handed.intro k3 ?measure ?_; rotate_left; go_step; (repeat apply Exists.intro); simp only [add_plain]; refine ⟨?rel, rfl⟩)
 case measure => have := HJ6.out; have := HK2.out; have := HK3.out; omega
 case rel => exact ⟨(wrap64 (x51_3 + 1)), (y248), (.slice (some ⟨go47, 0, none⟩) x242000_3.length co50), s12q1, H', ⟨by have := HJ6.out; have := HK2.out; have := HK3.out; omega⟩, ⟨by (with_reducible repeat (first | apply Kd.S_alloc | apply Kd.S_drewN | apply Kd.S_drew)); exact Kd.S_mono (Kd.S_far (p := ⟨go47, ((ji41) : Int).toNat, none⟩) (Kd.S_types HO_44.out GG47.out (by decide)) (fun _ hk => hk.2) (.int .u8 (Go.bits .or .u8 (rd x242000_3 (ji41)) (ji46)))) (fun _ hk => trivial)⟩, ⟨by (with_reducible repeat (first | apply Kd.R_alloc | apply Kd.R_drewN | apply Kd.R_drew)); exact HQ51.out⟩, ⟨by (with_reducible repeat (first | refine blk_drewN ?_ _ | refine blk_drew ?_ | refine blk_alloc ?_ _)); refine blk_far ?_ (by have h_ := Kd.R_ne HO_242000.out BK233.out (by decide); intro e_; exact h_ (by rw [e_]; rfl)) _; (with_reducible repeat (first | refine blk_drewN ?_ _ | refine blk_drew ?_ | refine blk_alloc ?_ _)); exact BK233.out⟩, ⟨by (with_reducible repeat (first | refine blk_drewN ?_ _ | refine blk_drew ?_ | refine blk_alloc ?_ _)); refine blk_far ?_ (by have h_ := Kd.R_ne HO_242000.out BK234.out (by decide); intro e_; exact h_ (by rw [e_]; rfl)) _; (with_reducible repeat (first | refine blk_drewN ?_ _ | refine blk_drew ?_ | refine blk_alloc ?_ _)); exact BK234.out⟩, ⟨by (with_reducible repeat (first | refine blk_drewN ?_ _ | refine blk_drew ?_ | refine blk_alloc ?_ _)); refine blk_far ?_ (by have h_ := Kd.R_ne HO_242000.out BK241.out (by decide); intro e_; exact h_ (by rw [e_]; rfl)) _; (with_reducible repeat (first | refine blk_drewN ?_ _ | refine blk_drew ?_ | refine blk_alloc ?_ _)); exact BK241.out⟩, ⟨(Kd.R_reads' (by (with_reducible repeat (first | apply Kd.R_alloc | apply Kd.R_drewN | apply Kd.R_drew)); exact (Kd.R_mono (Kd.R_far (p := ⟨go47, ((ji41) : Int).toNat, none⟩) (Kd.R_types HL245_0.out GG47.out (by decide)) (fun _ hk => hk.2) (.int .u8 (Go.bits .or .u8 (rd x242000_3 (ji41)) (ji46)))) (fun _ h_ => h_.1)))).2.2⟩, ⟨by (with_reducible repeat (first | apply Kd.R_alloc | apply Kd.R_drewN | apply Kd.R_drew)); exact Kd.R_mono (Kd.R_far (p := ⟨go47, ((ji41) : Int).toNat, none⟩) (Kd.R_types HL245_0.out GG47.out (by decide)) (fun _ hk => hk.2) (.int .u8 (Go.bits .or .u8 (rd x242000_3 (ji41)) (ji46)))) (fun _ hk => trivial)⟩, ⟨by repeat (first | (with_reducible first | exact HB.out | apply below_alloc | apply pw_below_drewN | apply below_drew1 | refine below_set ?_ GB47.out | refine below_set ?_ GE233.out | refine below_set ?_ GE234.out | refine below_set ?_ GE241.out) | exact HB.out)⟩⟩
/-! ### slices_Equal_byte_byte: function 19 -/
def slices_Equal_byte_byte.l0 : Nat → List Int → List Int → Int → Int → Option (Bool)
  | 0, _, _, _, _ => none
  | k + 1, x0, x1, x12, x13 => if x13 < x12 then (if 0 ≤ x13 then (if x13 < (x0.length : Int) then (if x13 < (x1.length : Int) then (if (rd x0 x13) = (rd x1 x13) then (slices_Equal_byte_byte.l0 k x0 x1 x12 (wrap64 (x13 + 1))) else (some false)) else (none)) else (none)) else (none)) else (some true)
def slices_Equal_byte_byte.f (k : Nat) (l0 : List Int) (l1 : List Int) : Option (Bool) := if (l0.length : Int) = (l1.length : Int) then (slices_Equal_byte_byte.l0 k l0 l1 (l0.length : Int) 0) else (some false)
theorem slices_Equal_byte_byte.mono_l : ∀ k, (∀ y0 y1 y2 y3, LeO (slices_Equal_byte_byte.l0 k y0 y1 y2 y3) (slices_Equal_byte_byte.l0 (k + 1) y0 y1 y2 y3))
  | 0 => fun _ _ _ _ r h => by simp [slices_Equal_byte_byte.l0] at h
  | k + 1 => by
    have ih0 := slices_Equal_byte_byte.mono_l k
    · intro y0 y1 y2 y3
      unfold slices_Equal_byte_byte.l0
      repeat' first | (with_reducible exact ih0 _ _ _ _) | (with_reducible exact LeO.refl _) | (with_reducible exact LeO.none _) | (with_reducible refine LeO.ite ?_ ?_) | (with_reducible refine LeO.bind ?_ (fun _ => ?_)) | exact ih0 _ _ _ _ | exact LeO.none _ | refine LeO.ite ?_ ?_ | refine LeO.bind ?_ (fun _ => ?_)
theorem slices_Equal_byte_byte.mono : ∀ a0 a1 k, LeO (slices_Equal_byte_byte.f k a0 a1) (slices_Equal_byte_byte.f (k + 1) a0 a1) := by
 intro a0 a1 k
 have ih0 := slices_Equal_byte_byte.mono_l k
 unfold slices_Equal_byte_byte.f
 repeat' first
  | (with_reducible exact ih0 _ _ _ _)
  | (with_reducible exact LeO.refl _)
  | (with_reducible exact LeO.none _)
  | (with_reducible refine LeO.ite ?_ ?_)
  | (with_reducible refine LeO.bind ?_ (fun _ => ?_))
  | exact ih0 _ _ _ _
  | exact LeO.none _
  | refine LeO.ite ?_ ?_
  | refine LeO.bind ?_ (fun _ => ?_)
set_option maxHeartbeats 8000000 in
set_option maxRecDepth 100000 in
theorem slices_Equal_byte_byte.calls (k : Nat) (A0 : Option Addr) (c0 : Nat) (l0 : List Int) (A1 : Option Addr) (c1 : Nat) (l1 : List Int) (r : Bool) (w : World) (hr0 : Kd.C (Kd.int .u8) w A0 l0.length l0) (hc0 : l0.length ≤ c0) (hr1 : Kd.C (Kd.int .u8) w A1 l1.length l1) (hc1 : l1.length ≤ c1) (h : slices_Equal_byte_byte.f k l0 l1 = some r) :
    Calls Tryd.prog 19 #[.slice A0 l0.length c0, .slice A1 l1.length c1] w fun e w' => e = .returned (.bool r) ∧ Drawn0 w w' := by
 have HR0 := Aside0.mk hr0
 have HC0 := Aside0.mk hc0
 clear hr0 hc0
 have HR1 := Aside0.mk hr1
 have HC1 := Aside0.mk hc1
 clear hr1 hc1
 have H : (if (l0.length : Int) = (l1.length : Int) then (slices_Equal_byte_byte.l0 k l0 l1 (l0.length : Int) 0) else (some false)) = some r := h
 clear h
 by_cases c3 : (l0.length : Int) = (l1.length : Int)
 case neg =>
  rw [if_neg c3] at H
  have c3b0 : ((l0.length : Int) == (l1.length : Int)) = false := beq_eq_false_iff_ne.mpr c3
  have c3b1 : ((l0.length : Int) != (l1.length : Int)) = true := bne_iff_ne.mpr c3
  have c3b2 : (l0.length == l1.length) = false := by first | simpa using c3 | (simp at c3 ⊢; omega)
  obtain rfl := Option.some.inj H
  go_enter Tryd.func19, Tryd.ntmps19
  go_wp2
  repeat (go_quiet (fail); try go_wp2)
  go_ret
  exact ⟨by first | rfl | (simp; done) | (simp [*]; done), by repeat (first | exact Drawn0.refl _ | apply Drawn0.step)⟩
 rw [if_pos c3] at H
 have c3b0 : ((l0.length : Int) == (l1.length : Int)) = true := beq_iff_eq.mpr c3
 have c3b1 : ((l0.length : Int) != (l1.length : Int)) = false := bne_eq_false_iff_eq.mpr c3
 have c3b2 : (l0.length == l1.length) = true := by first | simpa using c3 | (simp at c3 ⊢; omega)
 clear c3
 have H' := Aside0.mk H
 clear H
 go_enter Tryd.func19, Tryd.ntmps19
 go_wp2
 go_loopg [13] k (fun kq v13 w' => ∃ (x13_1 : Int), v13 = .int .i64 x13_1 ∧ Aside0 (slices_Equal_byte_byte.l0 kq l0 l1 (l0.length : Int) x13_1 = some r) ∧ Aside0 (kq ≤ k) ∧ Drawn0 w w')
 case atStart => exact ⟨(0), s12q1, H', ⟨Nat.le_refl _⟩, by repeat (first | exact Drawn0.refl _ | apply Drawn0.step)⟩
 clear H'
 try clear c1
 try clear p2
 try clear c3
 try clear c3b0
 try clear c3b1
 try clear c3b2
 obtain ⟨x13_1, rfl, HA, HK1, ⟨m1, rfl⟩⟩ := hrel
 cases gk with
 | zero => exact absurd HA.out (by simp [slices_Equal_byte_byte.l0])
 | succ k1 => ?_
 have H := HA.out
 clear HA
 simp only [slices_Equal_byte_byte.l0] at H
 by_cases c4 : x13_1 < (l0.length : Int)
 case neg =>
  rw [if_neg c4] at H
  have c4b0 : decide (x13_1 < (l0.length : Int)) = false := decide_eq_false c4
  clear c4
  obtain rfl := Option.some.inj H
  go_wp2
  repeat (go_quiet (fail); try go_wp2)
  go_ret
  exact ⟨by first | rfl | (simp; done) | (simp [*]; done), by repeat (first | exact Drawn0.refl _ | apply Drawn0.step)⟩
 rw [if_pos c4] at H
 have c4b0 : decide (x13_1 < (l0.length : Int)) = true := decide_eq_true c4
 clear c4
 by_cases c5 : 0 ≤ x13_1
 case neg =>
  rw [if_neg c5] at H
  exact absurd H (by simp)
 rw [if_pos c5] at H
 have c5b0 : decide (0 ≤ x13_1) = true := decide_eq_true c5
 clear c5
 by_cases c6 : x13_1 < (l0.length : Int)
 case neg =>
  rw [if_neg c6] at H
  exact absurd H (by simp)
 rw [if_pos c6] at H
 have c6b0 : decide (x13_1 < (l0.length : Int)) = true := decide_eq_true c6
 clear c6
 by_cases c7 : x13_1 < (l1.length : Int)
 case neg =>
  rw [if_neg c7] at H
  exact absurd H (by simp)
 rw [if_pos c7] at H
 have c7b0 : decide (x13_1 < (l1.length : Int)) = true := decide_eq_true c7
 clear c7
 by_cases c8 : (rd l0 x13_1) = (rd l1 x13_1)
 case neg =>
  rw [if_neg c8] at H
  have c8b0 : ((rd l0 x13_1) == (rd l1 x13_1)) = false := beq_eq_false_iff_ne.mpr c8
  have c8b1 : ((rd l0 x13_1) != (rd l1 x13_1)) = true := bne_iff_ne.mpr c8
  obtain rfl := Option.some.inj H
  have p249 : 0 ≤ (x13_1 : Int) := of_decide_eq_true s12q2
  have q249 : x13_1 < (l0.length : Int) := of_decide_eq_true s12q2
  obtain ⟨ad249, e249, hx249_0⟩ := Kd.at_int HR0.out x13_1 p249 q249
  cases e249
  replace p249 := eq_true p249
  replace q249 := eq_true q249
  have p250 : 0 ≤ (x13_1 : Int) := of_decide_eq_true s12q2
  have q250 : x13_1 < (l1.length : Int) := of_decide_eq_true s12q2
  obtain ⟨ad250, e250, hx250_0⟩ := Kd.at_int HR1.out x13_1 p250 q250
  cases e250
  replace p250 := eq_true p250
  replace q250 := eq_true q250
  go_wp2
  repeat (go_quiet (fail); try go_wp2)
  go_ret
  exact ⟨by first | rfl | (simp; done) | (simp [*]; done), by repeat (first | exact Drawn0.refl _ | apply Drawn0.step)⟩
 rw [if_pos c8] at H
 have c8b0 : ((rd l0 x13_1) == (rd l1 x13_1)) = true := beq_iff_eq.mpr c8
 have c8b1 : ((rd l0 x13_1) != (rd l1 x13_1)) = false := bne_eq_false_iff_eq.mpr c8
 clear c8
 have H' := Aside0.mk H
 clear H
 have p249 : 0 ≤ (x13_1 : Int) := of_decide_eq_true s12q2
 have q249 : x13_1 < (l0.length : Int) := of_decide_eq_true s12q2
 obtain ⟨ad249, e249, hx249_0⟩ := Kd.at_int HR0.out x13_1 p249 q249
 cases e249
 replace p249 := eq_true p249
 replace q249 := eq_true q249
 have p250 : 0 ≤ (x13_1 : Int) := of_decide_eq_true s12q2
 have q250 : x13_1 < (l1.length : Int) := of_decide_eq_true s12q2
 obtain ⟨ad250, e250, hx250_0⟩ := Kd.at_int HR1.out x13_1 p250 q250
 cases e250
 replace p250 := eq_true p250
 replace q250 := eq_true q250
 go_wp2
 repeat (go_quiet (fail); try go_wp2)
 first | go_roundg k1 | (refine Handed.intro k1 ?measure ?_; rotate_left; go_step; (repeat apply Exists.intro); simp only [add_plain]; refine ⟨?rel, rfl⟩)
 case measure => have := HK1.out; omega
 case rel => exact ⟨(wrap64 (x13_1 + 1)), s12q1, H', ⟨by have := HK1.out; omega⟩, by repeat (first | exact Drawn0.refl _ | apply Drawn0.step)⟩
/-! ### peristyleref8_SameFilter: function 6 -/
def peristyleref8_SameFilter.f (k : Nat) (l0_0 : List Int) (a0_1 : Int) (l1_0 : List Int) (a1_1 : Int) : Option (Bool) := (slices_Equal_byte_byte.f k l0_0 l1_0).bind fun t253 => (if t253 = true then (some (a0_1 == a1_1)) else (some false))
theorem peristyleref8_SameFilter.mono : ∀ a0 a1 a2 a3 k, LeO (peristyleref8_SameFilter.f k a0 a1 a2 a3) (peristyleref8_SameFilter.f (k + 1) a0 a1 a2 a3) := by
 intro a0 a1 a2 a3 k
 unfold peristyleref8_SameFilter.f
 repeat' first
  | (with_reducible exact slices_Equal_byte_byte.mono _ _ _)
  | (with_reducible exact LeO.refl _)
  | (with_reducible exact LeO.none _)
  | (with_reducible refine LeO.ite ?_ ?_)
  | (with_reducible refine LeO.bind ?_ (fun _ => ?_))
  | exact slices_Equal_byte_byte.mono _ _ _
  | exact LeO.none _
  | refine LeO.ite ?_ ?_
  | refine LeO.bind ?_ (fun _ => ?_)
set_option maxHeartbeats 8000000 in
set_option maxRecDepth 100000 in
theorem peristyleref8_SameFilter.calls (k : Nat) (A0_0 : Option Addr) (c0_0 : Nat) (l0_0 : List Int) (a0_1 : Int) (A1_0 : Option Addr) (c1_0 : Nat) (l1_0 : List Int) (a1_1 : Int) (r : Bool) (w : World) (hr0_0 : Kd.C (Kd.int .u8) w A0_0 l0_0.length l0_0) (hc0_0 : l0_0.length ≤ c0_0) (hr1_0 : Kd.C (Kd.int .u8) w A1_0 l1_0.length l1_0) (hc1_0 : l1_0.length ≤ c1_0) (h : peristyleref8_SameFilter.f k l0_0 a0_1 l1_0 a1_1 = some r) :
    Calls Tryd.prog 6 #[.agg #[.slice A0_0 l0_0.length c0_0, .int .i64 a0_1], .agg #[.slice A1_0 l1_0.length c1_0, .int .i64 a1_1]] w fun e w' => e = .returned (.bool r) ∧ Below w.heap.size w w' := by
 have hu29 := Tryd.underlying29
 have HR0_0 := Aside0.mk hr0_0
 have HC0_0 := Aside0.mk hc0_0
 clear hr0_0 hc0_0
 have HR1_0 := Aside0.mk hr1_0
 have HC1_0 := Aside0.mk hc1_0
 clear hr1_0 hc1_0
 have HB := Aside0.mk (Below.refl w.heap.size w)
 have H : ((slices_Equal_byte_byte.f k l0_0 l1_0).bind fun t253 => (if t253 = true then (some (a0_1 == a1_1)) else (some false))) = some r := h
 clear h
 replace H := Option.bind_eq_some_iff.mp H
 obtain ⟨t253, A30, H⟩ := H
 replace H : (if t253 = true then (some (a0_1 == a1_1)) else (some false)) = some r := H
 have A3 := Aside0.mk A30
 clear A30
 by_cases c4 : t253 = true
 · subst c4
   have H1 : (some (a0_1 == a1_1)) = some r := by rw [if_pos rfl] at H; exact H
   clear H
   have H := H1
   clear H1
   obtain rfl := Option.some.inj H
   go_enter Tryd.func6, Tryd.ntmps6
   go_wp2_with (first | ((with_reducible refine gate_dst (N := 2) rfl ?_); refine box_event ?hg (N := 2) ?hd (cs := #[.slice A0_0 l0_0.length c0_0, .int .i64 a0_1]) (t := 29) ?hr ?_; (case hd => rfl); (case hg => rfl); (case hr => first | (go_simp; done) | (go_simp; rfl)); intro gb251 hg w5 hbox hb; have n0_ := Aside0.mk (below_step s12q6 hb); have n1_ := Aside0.mk (hbox); have n2_ := Aside0.mk ((s12q13 : w.heap.size ≤ gb251)); have n3_ := Aside0.mk ((s12q13 : w.heap.size ≤ gb251)); clear HB; have HB := n0_; have BK251 := n1_; have GW251 := n2_; have GE251 := n3_; clear n0_ n1_ n2_ n3_; clear hb hbox hg) | ((with_reducible refine gate_dst (N := 3) rfl ?_); refine box_event ?hg (N := 3) ?hd (cs := #[.slice A1_0 l1_0.length c1_0, .int .i64 a1_1]) (t := 29) ?hr ?_; (case hd => rfl); (case hg => rfl); (case hr => first | (go_simp; done) | (go_simp; rfl)); intro gb252 hg w6 hbox hb; have n0_ := Aside0.mk (blk_below (g := gb251) (o := .cells #[.slice A0_0 l0_0.length c0_0, .int .i64 a0_1] 29 (0, 0)) s12q5 hb); have n1_ := Aside0.mk (below_step s12q9 hb); have n2_ := Aside0.mk (hbox); have n3_ := Aside0.mk ((s12q15 : w.heap.size ≤ gb252)); have n4_ := Aside0.mk ((s12q15 : w.heap.size ≤ gb252)); have n5_ := Aside0.mk ((s12q17 : gb251 ≠ gb252)); have n6_ := Aside0.mk ((s12q16 : gb252 ≠ gb251)); clear BK251; clear HB; have BK251 := n0_; have HB := n1_; have BK252 := n2_; have GW252 := n3_; have GE252 := n4_; have NB251_252 := n5_; have NB252_251 := n6_; clear n0_ n1_ n2_ n3_ n4_ n5_ n6_; clear hb hbox hg; have hnb7 := NB251_252.out; have hnc7 := NB252_251.out; have hcz8_0 : w6.cell? ⟨gb251, 0, none⟩ = some (.slice A0_0 l0_0.length c0_0) := (blk_cell BK251.out 0).trans rfl; have hcz8_1 : w6.cell? ⟨gb251, 1, none⟩ = some (.int .i64 a0_1) := (blk_cell BK251.out 1).trans rfl; have hfz8_0 := blk_frozen BK251.out 0; have hfz8_1 := blk_frozen BK251.out 1; have hcz9_0 : w6.cell? ⟨gb252, 0, none⟩ = some (.slice A1_0 l1_0.length c1_0) := (blk_cell BK252.out 0).trans rfl; have hcz9_1 : w6.cell? ⟨gb252, 1, none⟩ = some (.int .i64 a1_1) := (blk_cell BK252.out 1).trans rfl; have hfz9_0 := blk_frozen BK252.out 0; have hfz9_1 := blk_frozen BK252.out 1) | ((with_reducible refine gate_callee (f := 19) rfl ?_); refine goesL_ (some 9) rfl rfl Tryd.func19 s12q0 rfl #[.slice A0_0 l0_0.length c0_0, .slice A1_0 l1_0.length c1_0] rfl s12q7 ?_; (with_reducible refine (slices_Equal_byte_byte.calls k _ _ l0_0 _ _ l1_0 true _ ?side1 ?side2 ?side3 ?side4 A3.out).mono ?_); (case side1 => repeat (first | exact (Kd.C_below HR0_0.out HB.out) | (with_reducible refine Kd.C_alloc ?_ _) | (with_reducible refine Kd.C_drewN ?_ _) | (with_reducible refine Kd.C_drew ?_))); (case side2 => exact HC0_0.out); (case side3 => repeat (first | exact (Kd.C_below HR1_0.out HB.out) | (with_reducible refine Kd.C_alloc ?_ _) | (with_reducible refine Kd.C_drewN ?_ _) | (with_reducible refine Kd.C_drew ?_))); (case side4 => exact HC1_0.out); rintro e w' ⟨rfl, ⟨nd, rfl⟩⟩; refine ⟨_, rfl, ?_⟩))
   go_ret
   exact ⟨by first | rfl | (simp [errW_none, errW_some] <;> rfl) | (simp [*, errW_none, errW_some] <;> rfl), by repeat (first | (with_reducible first | exact HB.out | apply below_alloc | apply pw_below_drewN | apply below_drew1 | refine below_set ?_ GE251.out | refine below_set ?_ GE252.out) | exact HB.out)⟩
 replace c4 := Bool.eq_false_iff.mpr c4
 subst c4
 have H1 : (some false) = some r := s12q20
 clear H
 have H := H1
 clear H1
 obtain rfl := Option.some.inj H
 go_enter Tryd.func6, Tryd.ntmps6
 go_wp2_with (first | ((with_reducible refine gate_dst (N := 2) rfl ?_); refine box_event ?hg (N := 2) ?hd (cs := #[.slice A0_0 l0_0.length c0_0, .int .i64 a0_1]) (t := 29) ?hr ?_; (case hd => rfl); (case hg => rfl); (case hr => first | (go_simp; done) | (go_simp; rfl)); intro gb251 hg w10 hbox hb; have n0_ := Aside0.mk (below_step s12q6 hb); have n1_ := Aside0.mk (hbox); have n2_ := Aside0.mk ((s12q13 : w.heap.size ≤ gb251)); have n3_ := Aside0.mk ((s12q13 : w.heap.size ≤ gb251)); clear HB; have HB := n0_; have BK251 := n1_; have GW251 := n2_; have GE251 := n3_; clear n0_ n1_ n2_ n3_; clear hb hbox hg) | ((with_reducible refine gate_dst (N := 3) rfl ?_); refine box_event ?hg (N := 3) ?hd (cs := #[.slice A1_0 l1_0.length c1_0, .int .i64 a1_1]) (t := 29) ?hr ?_; (case hd => rfl); (case hg => rfl); (case hr => first | (go_simp; done) | (go_simp; rfl)); intro gb252 hg w11 hbox hb; have n0_ := Aside0.mk (blk_below (g := gb251) (o := .cells #[.slice A0_0 l0_0.length c0_0, .int .i64 a0_1] 29 (0, 0)) s12q5 hb); have n1_ := Aside0.mk (below_step s12q9 hb); have n2_ := Aside0.mk (hbox); have n3_ := Aside0.mk ((s12q15 : w.heap.size ≤ gb252)); have n4_ := Aside0.mk ((s12q15 : w.heap.size ≤ gb252)); have n5_ := Aside0.mk ((s12q17 : gb251 ≠ gb252)); have n6_ := Aside0.mk ((s12q16 : gb252 ≠ gb251)); clear BK251; clear HB; have BK251 := n0_; have HB := n1_; have BK252 := n2_; have GW252 := n3_; have GE252 := n4_; have NB251_252 := n5_; have NB252_251 := n6_; clear n0_ n1_ n2_ n3_ n4_ n5_ n6_; clear hb hbox hg; have hnb12 := NB251_252.out; have hnc12 := NB252_251.out; have hcz13_0 : w11.cell? ⟨gb251, 0, none⟩ = some (.slice A0_0 l0_0.length c0_0) := (blk_cell BK251.out 0).trans rfl; have hcz13_1 : w11.cell? ⟨gb251, 1, none⟩ = some (.int .i64 a0_1) := (blk_cell BK251.out 1).trans rfl; have hfz13_0 := blk_frozen BK251.out 0; have hfz13_1 := blk_frozen BK251.out 1; have hcz14_0 : w11.cell? ⟨gb252, 0, none⟩ = some (.slice A1_0 l1_0.length c1_0) := (blk_cell BK252.out 0).trans rfl; have hcz14_1 : w11.cell? ⟨gb252, 1, none⟩ = some (.int .i64 a1_1) := (blk_cell BK252.out 1).trans rfl; have hfz14_0 := blk_frozen BK252.out 0; have hfz14_1 := blk_frozen BK252.out 1) | ((with_reducible refine gate_callee (f := 19) rfl ?_); refine goesL_ (some 9) rfl rfl Tryd.func19 s12q0 rfl #[.slice A0_0 l0_0.length c0_0, .slice A1_0 l1_0.length c1_0] rfl s12q7 ?_; (with_reducible refine (slices_Equal_byte_byte.calls k _ _ l0_0 _ _ l1_0 false _ ?side1 ?side2 ?side3 ?side4 A3.out).mono ?_); (case side1 => repeat (first | exact (Kd.C_below HR0_0.out HB.out) | (with_reducible refine Kd.C_alloc ?_ _) | (with_reducible refine Kd.C_drewN ?_ _) | (with_reducible refine Kd.C_drew ?_))); (case side2 => exact HC0_0.out); (case side3 => repeat (first | exact (Kd.C_below HR1_0.out HB.out) | (with_reducible refine Kd.C_alloc ?_ _) | (with_reducible refine Kd.C_drewN ?_ _) | (with_reducible refine Kd.C_drew ?_))); (case side4 => exact HC1_0.out); rintro e w' ⟨rfl, ⟨nd, rfl⟩⟩; refine ⟨_, rfl, ?_⟩))
 go_ret
 exact ⟨by first | rfl | (simp [errW_none, errW_some] <;> rfl) | (simp [*, errW_none, errW_some] <;> rfl), by repeat (first | (with_reducible first | exact HB.out | apply below_alloc | apply pw_below_drewN | apply below_drew1 | refine below_set ?_ GE251.out | refine below_set ?_ GE252.out) | exact HB.out)⟩
end Go.Proofs.YtgdbkhbaekeijaaDoor.F
