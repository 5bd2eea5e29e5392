-- Printed by a program of this session (a patched print).
import Derived.Test.YtgdbkhbaekeijaaDoorFx0
import Derived.Test.YtgdbkhbaekeijaaDoorFx1
import Derived.Test.YtgdbkhbaekeijaaDoorFx4
import Derived.Test.YtgdbkhbaekeijaaDoorFx5
namespace Go.Proofs.YtgdbkhbaekeijaaDoor.F
open Go.RowKit Go.Proofs.YtgdbkhbaekeijaaDoorW.PrintWords Go.Proofs.YtgdbkhbaekeijaaDoorW.PrintLast Go.Proofs.YtgdbkhbaekeijaaDoorW.PrintMore
attribute [local go_sem] max2_int min2_int max_two min_two max_three min_three max_four min_four   -- for this text's walks alone
set_option linter.unusedVariables false
set_option linter.unusedSimpArgs false

theorem s6qm0 {p : Prop} (h : p := by repeat' first | (with_reducible exact ih0 _ _ _ _ _ _) | (with_reducible exact ih1 _ _ _ _ _ _ _ _) | (with_reducible exact ih2 _ _ _ _ _ _ _ _ _ _ _ _) | (with_reducible exact join_checkColumns.mono _ _ _ _) | (with_reducible exact join_hash.mono _ _ _) | (with_reducible exact join_key.mono _ _ _) | (with_reducible exact LeO.refl _) | (with_reducible exact LeO.none _) | (with_reducible refine LeO.ite ?_ ?_) | (with_reducible refine LeO.bind ?_ (fun _ => ?_)) | exact ih0 _ _ _ _ _ _ | exact ih1 _ _ _ _ _ _ _ _ | exact ih2 _ _ _ _ _ _ _ _ _ _ _ _ | exact join_checkColumns.mono _ _ _ _ | exact join_hash.mono _ _ _ | exact join_key.mono _ _ _ | exact LeO.none _ | refine LeO.ite ?_ ?_ | refine LeO.bind ?_ (fun _ => ?_)) : p := h
theorem s6q0 {p : Prop} (h : p := by kernel_rfl) : p := h
theorem s6q1 {p : Prop} (h : p := by first | rfl | (simp; done) | (simp [*]; done)) : p := h
theorem s6q2 {p : Prop} (h : p := by first | (with_reducible assumption) | assumption) : p := h
theorem s6q3 {p : Prop} (h : p := by (with_reducible repeat (first | apply Kd.R_alloc | apply Kd.R_drewN | apply Kd.R_drew)); exact HO_14.out) : p := h
theorem s6q4 {p : Prop} (h : p := by (with_reducible repeat (first | apply Kd.R_alloc | apply Kd.R_drewN | apply Kd.R_drew)); exact HO_169000.out) : p := h
theorem s6q5 {p : Prop} (h : p := by (with_reducible repeat (first | refine blk_drewN ?_ _ | refine blk_drew ?_ | refine blk_alloc ?_ _)); exact BK160.out) : p := h
theorem s6q6 {p : Prop} (h : p := by (with_reducible repeat (first | refine blk_drewN ?_ _ | refine blk_drew ?_ | refine blk_alloc ?_ _)); exact BK161.out) : p := h
theorem s6q7 {p : Prop} (h : p := by (with_reducible repeat (first | refine blk_drewN ?_ _ | refine blk_drew ?_ | refine blk_alloc ?_ _)); exact BK168.out) : p := h
theorem s6q8 {p : Prop} (h : p := by (with_reducible repeat (first | refine blk_drewN ?_ _ | refine blk_drew ?_ | refine blk_alloc ?_ _)); exact BK170.out) : p := h
theorem s6q9 {p : Prop} (h : p := by repeat (first | (with_reducible first | exact HB.out | apply below_alloc | apply pw_below_drewN | apply below_drew1) | exact HB.out)) : p := h
theorem s6q10 {p : Prop} (h : p := by (try simp only [List.map_toArray, List.map_cons, List.map_nil]); first | done | rfl | (simp only [List.length_drop, List.length_take]; rfl)) : p := h
theorem s6q11 {p : Prop} (h : p := by repeat (first | (with_reducible first | exact HB.out | apply below_alloc | apply pw_below_drewN | apply below_drew1 | refine below_set ?_ GE160.out) | exact HB.out)) : p := h
theorem s6q12 {p : Prop} (h : p := by repeat (first | (with_reducible first | exact HB.out | apply below_alloc | apply pw_below_drewN | apply below_drew1 | refine below_set ?_ GE160.out | refine below_set ?_ GE161.out) | exact HB.out)) : p := h
theorem s6q13 {p : Prop} (h : p := by repeat (first | (with_reducible first | exact HB.out | apply below_alloc | apply pw_below_drewN | apply below_drew1 | refine below_set ?_ GE160.out | refine below_set ?_ GE161.out | refine below_set ?_ GE168.out) | exact HB.out)) : p := h
theorem s6q14 {p : Prop} (h : p := by repeat (first | (with_reducible first | exact HB.out | apply below_alloc | apply pw_below_drewN | apply below_drew1 | refine below_set ?_ GE160.out | refine below_set ?_ GE161.out | refine below_set ?_ GE168.out | refine below_set ?_ GE170.out) | exact HB.out)) : p := h
theorem s6q15 {p : Prop} (h : p := by (with_reducible repeat (first | refine blk_drewN ?_ _ | refine blk_drew ?_ | refine blk_alloc ?_ _)); refine blk_put (cs := #[.slice none 0 0, .int .i64 0]) ?_ 1 _ rfl; (with_reducible repeat (first | refine blk_drewN ?_ _ | refine blk_drew ?_ | refine blk_alloc ?_ _)); refine blk_put (cs := #[.slice none 0 0, .int .i64 0]) ?_ 0 _ rfl; (with_reducible repeat (first | refine blk_drewN ?_ _ | refine blk_drew ?_ | refine blk_alloc ?_ _)); exact BK161.out) : p := h
theorem s6q16 {p : Prop} (h : p := by rw [hg]; exact (below_size s6q9)) : p := h
theorem s6q17 {p : Prop} (h : p := by rw [hg]; exact (below_size s6q11)) : p := h
theorem s6q18 {p : Prop} (h : p := by rw [hg]; exact Nat.ne_of_gt (blk_lt (g := gb160) (o := .cells #[.slice A0_0 l0_0.length c0_0, .slice A0_1 l0_1.length c0_1] 25 (0, 0)) s6q5)) : p := h
theorem s6q19 {p : Prop} (h : p := by rw [hg]; exact Nat.ne_of_lt (blk_lt (g := gb160) (o := .cells #[.slice A0_0 l0_0.length c0_0, .slice A0_1 l0_1.length c0_1] 25 (0, 0)) s6q5)) : p := h
theorem s6q20 {p : Prop} (h : p := by rw [if_neg (show ¬ (false = true) by decide)] at H; exact H) : p := h
/-! ### join_FilterOf: function 4 -/
mutual
def join_FilterOf.j0 : Nat → List Int → Int → Int → Bool → List (S69) → List (S43) → Option (List Int × Int × Int)
  | 0, _, _, _, _, _, _ => none
  | k + 1, x1, x2, x3, x37, x161000, x161001 => if x37 = true then (some (([] : List Int), 0, 1)) else (if 0 ≤ (wrap64 (Int.tdiv x2 8)) then (if (wrap64 (Int.tdiv x2 8) : Int).toNat ≤ 281474976710656 then (join_FilterOf.l0 k x1 x2 x3 x161001 (x161001.length : Int) 0 (List.replicate (wrap64 (Int.tdiv x2 8) : Int).toNat 0) x3) else (none)) else (none))
def join_FilterOf.l0 : Nat → List Int → Int → Int → List (S43) → Int → Int → List Int → Int → Option (List Int × Int × Int)
  | 0, _, _, _, _, _, _, _, _ => none
  | k + 1, x1, x2, x3, x45, x46, x47, x169000, x169001 => if x47 < x46 then (if 0 ≤ x47 then (if x47 < (x45.length : Int) then ((join_key.f k ((rd_T43 x45 x47).f0) x1).bind fun bt171 => (join_FilterOf.l1 k x1 x2 x3 bt171.1 bt171.2 x45 x46 x47 x3 0 x169000 x169001)) else (none)) else (none)) else (some (x169000, x169001, 0))
def join_FilterOf.l1 : Nat → List Int → Int → Int → List (S54) → Bool → List (S43) → Int → Int → Int → Int → List Int → Int → Option (List Int × Int × Int)
  | 0, _, _, _, _, _, _, _, _, _, _, _, _ => none
  | k + 1, x1, x2, x3, x14, x15, x45, x46, x47, x57, x58, x169000, x169001 => if x58 < x57 then ((join_hash.f k x14 x58).bind fun t175 => (if x2 = 0 then (none) else (if x15 = true then (if 0 ≤ (wrap64 (Int.tdiv (Int.tmod t175 x2) 8)) then (if (wrap64 (Int.tdiv (Int.tmod t175 x2) 8)) < (x169000.length : Int) then (if 0 ≤ (Int.tmod (Int.tmod t175 x2) 8) then (join_FilterOf.l1 k x1 x2 x3 x14 x15 x45 x46 x47 x57 (wrap64 (x58 + 1)) (x169000.set ((wrap64 (Int.tdiv (Int.tmod t175 x2) 8)) : Int).toNat (Go.bits .or .u8 (rd x169000 (wrap64 (Int.tdiv (Int.tmod t175 x2) 8))) (shl .u8 1 (Int.tmod (Int.tmod t175 x2) 8)))) x169001) else (none)) else (none)) else (none)) else (join_FilterOf.l1 k x1 x2 x3 x14 x15 x45 x46 x47 x57 (wrap64 (x58 + 1)) x169000 x169001)))) else (join_FilterOf.l0 k x1 x2 x3 x45 x46 (wrap64 (x47 + 1)) x169000 x169001)
end
def join_FilterOf.f (k : Nat) (l0_0 : List (S69)) (l0_1 : List (S43)) (l1 : List Int) (a2 : Int) (a3 : Int) : Option (List Int × Int × Int) := (join_checkColumns.f k l0_0 l0_1 l1).bind fun t162 => (if t162 = 0 then ((kit_In.f a2 8 65536).bind fun t163 => (if t163 = true then (if (Int.tmod a2 8) = 0 then ((kit_In.f a3 1 5).bind fun t164 => (join_FilterOf.j0 k l1 a2 a3 (!t164) l0_0 l0_1)) else (join_FilterOf.j0 k l1 a2 a3 true l0_0 l0_1)) else (join_FilterOf.j0 k l1 a2 a3 true l0_0 l0_1))) else (some (([] : List Int), 0, t162)))
theorem join_FilterOf.mono_l : ∀ k, (∀ y0 y1 y2 y3 y4 y5, LeO (join_FilterOf.j0 k y0 y1 y2 y3 y4 y5) (join_FilterOf.j0 (k + 1) y0 y1 y2 y3 y4 y5)) ∧ (∀ y0 y1 y2 y3 y4 y5 y6 y7, LeO (join_FilterOf.l0 k y0 y1 y2 y3 y4 y5 y6 y7) (join_FilterOf.l0 (k + 1) y0 y1 y2 y3 y4 y5 y6 y7)) ∧ (∀ y0 y1 y2 y3 y4 y5 y6 y7 y8 y9 y10 y11, LeO (join_FilterOf.l1 k y0 y1 y2 y3 y4 y5 y6 y7 y8 y9 y10 y11) (join_FilterOf.l1 (k + 1) y0 y1 y2 y3 y4 y5 y6 y7 y8 y9 y10 y11))
  | 0 => ⟨fun _ _ _ _ _ _ r h => by simp [join_FilterOf.j0] at h, fun _ _ _ _ _ _ _ _ r h => by simp [join_FilterOf.l0] at h, fun _ _ _ _ _ _ _ _ _ _ _ _ r h => by simp [join_FilterOf.l1] at h⟩
  | k + 1 => by
    obtain ⟨ih0, ih1, ih2⟩ := join_FilterOf.mono_l k
    refine ⟨?_, ?_, ?_⟩
    · intro y0 y1 y2 y3 y4 y5
      unfold join_FilterOf.j0
      exact s6qm0
    · intro y0 y1 y2 y3 y4 y5 y6 y7
      unfold join_FilterOf.l0
      exact s6qm0
    · intro y0 y1 y2 y3 y4 y5 y6 y7 y8 y9 y10 y11
      unfold join_FilterOf.l1
      exact s6qm0
theorem join_FilterOf.mono : ∀ a0 a1 a2 a3 a4 k, LeO (join_FilterOf.f k a0 a1 a2 a3 a4) (join_FilterOf.f (k + 1) a0 a1 a2 a3 a4) := by
 intro a0 a1 a2 a3 a4 k
 obtain ⟨ih0, ih1, ih2⟩ := join_FilterOf.mono_l k
 unfold join_FilterOf.f
 repeat' first
  | (with_reducible exact ih0 _ _ _ _ _ _)
  | (with_reducible exact ih1 _ _ _ _ _ _ _ _)
  | (with_reducible exact ih2 _ _ _ _ _ _ _ _ _ _ _ _)
  | (with_reducible exact join_checkColumns.mono _ _ _ _)
  | (with_reducible exact join_hash.mono _ _ _)
  | (with_reducible exact join_key.mono _ _ _)
  | (with_reducible exact LeO.refl _)
  | (with_reducible exact LeO.none _)
  | (with_reducible refine LeO.ite ?_ ?_)
  | (with_reducible refine LeO.bind ?_ (fun _ => ?_))
  | exact ih0 _ _ _ _ _ _
  | exact ih1 _ _ _ _ _ _ _ _
  | exact ih2 _ _ _ _ _ _ _ _ _ _ _ _
  | exact join_checkColumns.mono _ _ _ _
  | exact join_hash.mono _ _ _
  | exact join_key.mono _ _ _
  | exact LeO.none _
  | refine LeO.ite ?_ ?_
  | refine LeO.bind ?_ (fun _ => ?_)
def join_FilterOf.T16 : Bool × List (List Nat × List Nat) := (true, [([], []), ([0], [0]), ([], []), ([2], [2]), ([1, 3], [1, 3]), ([4], [4]), ([], []), ([6], [6]), ([7], [7]), ([5, 8], [5, 8]), ([1, 3, 0, 1, 2, 3, 4, 5, 6, 7, 8, 9], [1, 3]), ([10, 9, 0, 1, 2, 3, 4, 5, 6, 7, 8, 9], [9, 10])])
def join_FilterOf.B16 : List Nat := [0, 1, 0, 4, 15, 31, 0, 64, 192, 511, 1023, 2047]
theorem join_FilterOf.tab16 : rtab .any (opsOf Tryd.f4 16) = join_FilterOf.T16 := by kernel_rfl
theorem join_FilterOf.bits16 : waitsOk join_FilterOf.T16.2 join_FilterOf.B16 = true := by kernel_rfl
set_option maxHeartbeats 8000000 in
set_option maxRecDepth 100000 in
theorem join_FilterOf.calls (k : Nat) (A0_0 : Option Addr) (c0_0 : Nat) (l0_0 : List (S69)) (A0_1 : Option Addr) (c0_1 : Nat) (l0_1 : List (S43)) (A1 : Option Addr) (c1 : Nat) (l1 : List Int) (a2 : Int) (a3 : Int) (r1 : List Int) (r2 : Int) (r3 : Int) (w : World) (hr0_0 : Kd.C k69 w A0_0 l0_0.length l0_0) (hc0_0 : l0_0.length ≤ c0_0) (hr0_1 : Kd.C k43 w A0_1 l0_1.length l0_1) (hc0_1 : l0_1.length ≤ c0_1) (hr1 : Kd.C (Kd.int .i64) w A1 l1.length l1) (hc1 : l1.length ≤ c1) (hG : Glob w) (h : join_FilterOf.f k l0_0 l0_1 l1 a2 a3 = some (r1, r2, r3)) :
    Calls Tryd.prog 4 #[.agg #[.slice A0_0 l0_0.length c0_0, .slice A0_1 l0_1.length c0_1], .slice A1 l1.length c1, .int .i64 a2, .int .i64 a3] w fun e w' => ∃ v0_ : Value, e = .returned (.tuple #[.agg #[v0_, .int .i64 r2], .int .i64 r3]) ∧ Kd.R (Kd.int .u8) 5 w' w.heap.size (fun _ => True) v0_ r1 ∧ Below w.heap.size w w' := by
 have hu25 := Tryd.underlying25
 have hu29 := Tryd.underlying29
 have hu43 := Tryd.underlying43
 have HG := Aside0.mk hG
 clear hG
 have HR0_0 := Aside0.mk hr0_0
 have HC0_0 := Aside0.mk hc0_0
 clear hr0_0 hc0_0
 have HR0_1 := Aside0.mk hr0_1
 have HC0_1 := Aside0.mk hc0_1
 clear hr0_1 hc0_1
 have HR1 := Aside0.mk hr1
 have HC1 := Aside0.mk hc1
 clear hr1 hc1
 have HB := Aside0.mk (Below.refl w.heap.size w)
 have H : ((join_checkColumns.f k l0_0 l0_1 l1).bind fun t162 => (if t162 = 0 then ((kit_In.f a2 8 65536).bind fun t163 => (if t163 = true then (if (Int.tmod a2 8) = 0 then ((kit_In.f a3 1 5).bind fun t164 => (join_FilterOf.j0 k l1 a2 a3 (!t164) l0_0 l0_1)) else (join_FilterOf.j0 k l1 a2 a3 true l0_0 l0_1)) else (join_FilterOf.j0 k l1 a2 a3 true l0_0 l0_1))) else (some (([] : List Int), 0, t162)))) = some (r1, r2, r3) := h
 clear h
 replace H := Option.bind_eq_some_iff.mp H
 obtain ⟨t162, A50, H⟩ := H
 replace H : (if t162 = 0 then ((kit_In.f a2 8 65536).bind fun t163 => (if t163 = true then (if (Int.tmod a2 8) = 0 then ((kit_In.f a3 1 5).bind fun t164 => (join_FilterOf.j0 k l1 a2 a3 (!t164) l0_0 l0_1)) else (join_FilterOf.j0 k l1 a2 a3 true l0_0 l0_1)) else (join_FilterOf.j0 k l1 a2 a3 true l0_0 l0_1))) else (some (([] : List Int), 0, t162))) = some (r1, r2, r3) := H
 have A5 := Aside0.mk A50
 clear A50
 by_cases c6 : t162 = 0
 case neg =>
  rw [if_neg c6] at H
  have c6b0 : (t162 == 0) = false := beq_eq_false_iff_ne.mpr c6
  have c6b1 : (t162 != 0) = true := bne_iff_ne.mpr c6
  simp only [Option.some.injEq, Prod.mk.injEq] at H
  obtain ⟨rfl, rfl, rfl⟩ := H
  go_enter Tryd.func4, Tryd.ntmps4
  go_wp2_with (first | ((with_reducible refine gate_dst (N := 4) rfl ?_); refine box_event ?hg (N := 4) ?hd (cs := #[.slice A0_0 l0_0.length c0_0, .slice A0_1 l0_1.length c0_1]) (t := 25) ?hr ?_; (case hd => rfl); (case hg => rfl); (case hr => first | (go_simp; done) | (go_simp; rfl)); intro gb160 hg w66 hbox hb; have n0_ := Aside0.mk (below_step s6q9 hb); have n1_ := Aside0.mk (hbox); have n2_ := Aside0.mk ((s6q16 : w.heap.size ≤ gb160)); have n3_ := Aside0.mk ((s6q16 : w.heap.size ≤ gb160)); clear HB; have HB := n0_; have BK160 := n1_; have GW160 := n2_; have GE160 := n3_; clear n0_ n1_ n2_ n3_; clear hb hbox hg) | ((with_reducible refine gate_dst (N := 8) rfl ?_); refine box_event ?hg (N := 8) ?hd (cs := #[.slice none 0 0, .int .i64 0]) (t := 29) ?hr ?_; (case hd => rfl); (case hg => rfl); (case hr => first | (go_simp; done) | (go_simp; rfl)); intro gb161 hg w67 hbox hb; have n0_ := Aside0.mk (blk_below (g := gb160) (o := .cells #[.slice A0_0 l0_0.length c0_0, .slice A0_1 l0_1.length c0_1] 25 (0, 0)) s6q5 hb); have n1_ := Aside0.mk (below_step s6q11 hb); have n2_ := Aside0.mk (hbox); have n3_ := Aside0.mk ((s6q17 : w.heap.size ≤ gb161)); have n4_ := Aside0.mk ((s6q17 : w.heap.size ≤ gb161)); have n5_ := Aside0.mk ((s6q19 : gb160 ≠ gb161)); have n6_ := Aside0.mk ((s6q18 : gb161 ≠ gb160)); clear BK160; clear HB; have BK160 := n0_; have HB := n1_; have BK161 := n2_; have GW161 := n3_; have GE161 := n4_; have NB160_161 := n5_; have NB161_160 := n6_; clear n0_ n1_ n2_ n3_ n4_ n5_ n6_; clear hb hbox hg; have hnb68 := NB160_161.out; have hnc68 := NB161_160.out; have hcz69_0 : w67.cell? ⟨gb160, 0, none⟩ = some (.slice A0_0 l0_0.length c0_0) := (blk_cell BK160.out 0).trans rfl; have hcz69_1 : w67.cell? ⟨gb160, 1, none⟩ = some (.slice A0_1 l0_1.length c0_1) := (blk_cell BK160.out 1).trans rfl; have hfz69_0 := blk_frozen BK160.out 0; have hfz69_1 := blk_frozen BK160.out 1) | ((with_reducible refine gate_callee (f := 11) rfl ?_); refine goesL_ (some 20) rfl rfl Tryd.func11 s6q0 rfl #[.agg #[.slice A0_0 l0_0.length c0_0, .slice A0_1 l0_1.length c0_1], .slice A1 l1.length c1] rfl s6q10 ?_; (with_reducible refine (join_checkColumns.calls k _ _ l0_0 _ _ l0_1 _ _ l1 t162 _ ?side1 ?side2 ?side3 ?side4 ?side5 ?side6 A5.out).mono ?_); (case side1 => repeat (first | exact (Kd.C_below HR0_0.out HB.out) | (with_reducible refine Kd.C_alloc ?_ _) | (with_reducible refine Kd.C_drewN ?_ _) | (with_reducible refine Kd.C_drew ?_))); (case side2 => exact HC0_0.out); (case side3 => repeat (first | exact (Kd.C_below HR0_1.out HB.out) | (with_reducible refine Kd.C_alloc ?_ _) | (with_reducible refine Kd.C_drewN ?_ _) | (with_reducible refine Kd.C_drew ?_))); (case side4 => exact HC0_1.out); (case side5 => repeat (first | exact (Kd.C_below HR1.out HB.out) | (with_reducible refine Kd.C_alloc ?_ _) | (with_reducible refine Kd.C_drewN ?_ _) | (with_reducible refine Kd.C_drew ?_))); (case side6 => exact HC1.out); rintro e w70 ⟨rfl, hb⟩; refine ⟨_, rfl, ?_⟩; have n0_ := Aside0.mk (blk_below (g := gb160) (o := .cells #[.slice A0_0 l0_0.length c0_0, .slice A0_1 l0_1.length c0_1] 25 (0, 0)) s6q5 hb); have n1_ := Aside0.mk (blk_below (g := gb161) (o := .cells #[.slice none 0 0, .int .i64 0] 29 (0, 0)) s6q6 hb); have n2_ := Aside0.mk (below_step s6q12 hb); clear BK160; clear BK161; clear HB; have BK160 := n0_; have BK161 := n1_; have HB := n2_; clear n0_ n1_ n2_; (try clear hb); (try clear hb2); (try clear hk); (try clear hi); have hcz71_0 : w70.cell? ⟨gb161, 0, none⟩ = some (.slice none 0 0) := (blk_cell BK161.out 0).trans rfl; have hcz71_1 : w70.cell? ⟨gb161, 1, none⟩ = some (.int .i64 0) := (blk_cell BK161.out 1).trans rfl; have hfz71_0 := blk_frozen BK161.out 0; have hfz71_1 := blk_frozen BK161.out 1))
  refine bodyPost_ret (results_ct rfl _ _ gb161 29 #[.slice none 0 0, .int .i64 0] (0, 0) _ rfl s6q15 Tryd.underlying29 rfl s6q0) rfl ?_
  exact ⟨_, by first | rfl | (simp [errW_none, errW_some] <;> rfl) | (simp [*, errW_none, errW_some] <;> rfl), by first | exact Kd.R_nil _ _ _ _ _ | exact Kd.N_nil _ _ _ _ _ | exact Kd.V_nil _ _ _ _ _ | exact Kd.Q_nil _ _ _ _ _ | exact Kd.S_nil _ _ _ _ _, by repeat (first | (with_reducible first | exact HB.out | apply below_alloc | apply pw_below_drewN | apply below_drew1 | refine below_set ?_ GE160.out | refine below_set ?_ GE161.out) | exact HB.out)⟩
 rw [if_pos c6] at H
 have c6b0 : (t162 == 0) = true := beq_iff_eq.mpr c6
 have c6b1 : (t162 != 0) = false := bne_eq_false_iff_eq.mpr c6
 clear c6
 have HC7 := Aside0.mk H
 clear H
 go_enter Tryd.func4, Tryd.ntmps4
 go_upto_region 4 with (first | ((with_reducible refine gate_dst (N := 4) rfl ?_); refine box_event ?hg (N := 4) ?hd (cs := #[.slice A0_0 l0_0.length c0_0, .slice A0_1 l0_1.length c0_1]) (t := 25) ?hr ?_; (case hd => rfl); (case hg => rfl); (case hr => first | (go_simp; done) | (go_simp; rfl)); intro gb160 hg w8 hbox hb; have n0_ := Aside0.mk (below_step s6q9 hb); have n1_ := Aside0.mk (hbox); have n2_ := Aside0.mk ((s6q16 : w.heap.size ≤ gb160)); have n3_ := Aside0.mk ((s6q16 : w.heap.size ≤ gb160)); clear HB; have HB := n0_; have BK160 := n1_; have GW160 := n2_; have GE160 := n3_; clear n0_ n1_ n2_ n3_; clear hb hbox hg) | ((with_reducible refine gate_dst (N := 8) rfl ?_); refine box_event ?hg (N := 8) ?hd (cs := #[.slice none 0 0, .int .i64 0]) (t := 29) ?hr ?_; (case hd => rfl); (case hg => rfl); (case hr => first | (go_simp; done) | (go_simp; rfl)); intro gb161 hg w9 hbox hb; have n0_ := Aside0.mk (blk_below (g := gb160) (o := .cells #[.slice A0_0 l0_0.length c0_0, .slice A0_1 l0_1.length c0_1] 25 (0, 0)) s6q5 hb); have n1_ := Aside0.mk (below_step s6q11 hb); have n2_ := Aside0.mk (hbox); have n3_ := Aside0.mk ((s6q17 : w.heap.size ≤ gb161)); have n4_ := Aside0.mk ((s6q17 : w.heap.size ≤ gb161)); have n5_ := Aside0.mk ((s6q19 : gb160 ≠ gb161)); have n6_ := Aside0.mk ((s6q18 : gb161 ≠ gb160)); clear BK160; clear HB; have BK160 := n0_; have HB := n1_; have BK161 := n2_; have GW161 := n3_; have GE161 := n4_; have NB160_161 := n5_; have NB161_160 := n6_; clear n0_ n1_ n2_ n3_ n4_ n5_ n6_; clear hb hbox hg; have hnb10 := NB160_161.out; have hnc10 := NB161_160.out; have hcz11_0 : w9.cell? ⟨gb160, 0, none⟩ = some (.slice A0_0 l0_0.length c0_0) := (blk_cell BK160.out 0).trans rfl; have hcz11_1 : w9.cell? ⟨gb160, 1, none⟩ = some (.slice A0_1 l0_1.length c0_1) := (blk_cell BK160.out 1).trans rfl; have hfz11_0 := blk_frozen BK160.out 0; have hfz11_1 := blk_frozen BK160.out 1) | ((with_reducible refine gate_callee (f := 11) rfl ?_); refine goesL_ (some 20) rfl rfl Tryd.func11 s6q0 rfl #[.agg #[.slice A0_0 l0_0.length c0_0, .slice A0_1 l0_1.length c0_1], .slice A1 l1.length c1] rfl s6q10 ?_; (with_reducible refine (join_checkColumns.calls k _ _ l0_0 _ _ l0_1 _ _ l1 t162 _ ?side1 ?side2 ?side3 ?side4 ?side5 ?side6 A5.out).mono ?_); (case side1 => repeat (first | exact (Kd.C_below HR0_0.out HB.out) | (with_reducible refine Kd.C_alloc ?_ _) | (with_reducible refine Kd.C_drewN ?_ _) | (with_reducible refine Kd.C_drew ?_))); (case side2 => exact HC0_0.out); (case side3 => repeat (first | exact (Kd.C_below HR0_1.out HB.out) | (with_reducible refine Kd.C_alloc ?_ _) | (with_reducible refine Kd.C_drewN ?_ _) | (with_reducible refine Kd.C_drew ?_))); (case side4 => exact HC0_1.out); (case side5 => repeat (first | exact (Kd.C_below HR1.out HB.out) | (with_reducible refine Kd.C_alloc ?_ _) | (with_reducible refine Kd.C_drewN ?_ _) | (with_reducible refine Kd.C_drew ?_))); (case side6 => exact HC1.out); rintro e w12 ⟨rfl, hb⟩; refine ⟨_, rfl, ?_⟩; have n0_ := Aside0.mk (blk_below (g := gb160) (o := .cells #[.slice A0_0 l0_0.length c0_0, .slice A0_1 l0_1.length c0_1] 25 (0, 0)) s6q5 hb); have n1_ := Aside0.mk (blk_below (g := gb161) (o := .cells #[.slice none 0 0, .int .i64 0] 29 (0, 0)) s6q6 hb); have n2_ := Aside0.mk (below_step s6q12 hb); clear BK160; clear BK161; clear HB; have BK160 := n0_; have BK161 := n1_; have HB := n2_; clear n0_ n1_ n2_; (try clear hb); (try clear hb2); (try clear hk); (try clear hi)))
 (try simp only [Act.put, sqa, sqb, sqc])
 go_cut [37] (fun v37 wc => ∃ (kq : Nat) (x37_6 : Bool), v37 = .bool x37_6 ∧ Aside0 (join_FilterOf.j0 kq l1 a2 a3 x37_6 l0_0 l0_1 = some (r1, r2, r3)) ∧ Aside0 (kq ≤ k) ∧ Aside0 (wc.heap[gb160]? = some (.cells #[(.slice A0_0 l0_0.length c0_0), (.slice A0_1 l0_1.length c0_1)] 25 (0, 0))) ∧ Aside0 (wc.heap[gb161]? = some (.cells #[(.slice none 0 0), .int .i64 0] 29 (0, 0))) ∧ Aside0 (Below w.heap.size w wc))
 case first =>
  have H := HC7.out
  clear HC7
  replace H := Option.bind_eq_some_iff.mp H
  obtain ⟨t163, A130, H⟩ := H
  replace H : (if t163 = true then (if (Int.tmod a2 8) = 0 then ((kit_In.f a3 1 5).bind fun t164 => (join_FilterOf.j0 k l1 a2 a3 (!t164) l0_0 l0_1)) else (join_FilterOf.j0 k l1 a2 a3 true l0_0 l0_1)) else (join_FilterOf.j0 k l1 a2 a3 true l0_0 l0_1)) = some (r1, r2, r3) := H
  have A13 := Aside0.mk A130
  clear A130
  by_cases c14 : t163 = true
  case neg =>
   replace c14 := Bool.eq_false_iff.mpr c14
   subst c14
   have H1 : (join_FilterOf.j0 k l1 a2 a3 true l0_0 l0_1) = some (r1, r2, r3) := s6q20
   clear H
   have H := H1
   clear H1
   have H' := Aside0.mk H
   clear H
   go_wp2_with (first | ((with_reducible refine gate_callee (f := 12) rfl ?_); refine goesL_ (some 26) rfl rfl Tryd.func12 s6q0 rfl #[.int .i64 a2, .int .i64 8, .int .i64 65536] rfl s6q10 ?_; (with_reducible refine (kit_In.calls a2 8 65536 false _ A13.out).mono ?_); rintro e w' ⟨rfl, ⟨nd, rfl⟩⟩; refine ⟨_, rfl, ?_⟩))
   go_meet
   case rel => exact ⟨_, (true), s6q1, H', ⟨by first | omega | exact Nat.le_refl _⟩, ⟨by (with_reducible repeat (first | refine blk_drewN ?_ _ | refine blk_drew ?_ | refine blk_alloc ?_ _)); exact BK160.out⟩, ⟨by (with_reducible repeat (first | refine blk_drewN ?_ _ | refine blk_drew ?_ | refine blk_alloc ?_ _)); exact BK161.out⟩, ⟨by repeat (first | (with_reducible first | exact HB.out | apply below_alloc | apply pw_below_drewN | apply below_drew1 | refine below_set ?_ GE160.out | refine below_set ?_ GE161.out) | exact HB.out)⟩⟩
  subst c14
  have H1 : (if (Int.tmod a2 8) = 0 then ((kit_In.f a3 1 5).bind fun t164 => (join_FilterOf.j0 k l1 a2 a3 (!t164) l0_0 l0_1)) else (join_FilterOf.j0 k l1 a2 a3 true l0_0 l0_1)) = some (r1, r2, r3) := by rw [if_pos rfl] at H; exact H
  clear H
  have H := H1
  clear H1
  by_cases c15 : (Int.tmod a2 8) = 0
  case neg =>
   rw [if_neg c15] at H
   have c15b0 : ((Int.tmod a2 8) == 0) = false := beq_eq_false_iff_ne.mpr c15
   have c15b1 : ((Int.tmod a2 8) != 0) = true := bne_iff_ne.mpr c15
   (first | rw [c15b0] | (simp only [i64_w, i32_w]; rw [c15b0]) | skip)
   have H' := Aside0.mk H
   clear H
   go_wp2_with (first | ((with_reducible refine gate_callee (f := 12) rfl ?_); refine goesL_ (some 26) rfl rfl Tryd.func12 s6q0 rfl #[.int .i64 a2, .int .i64 8, .int .i64 65536] rfl s6q10 ?_; (with_reducible refine (kit_In.calls a2 8 65536 true _ A13.out).mono ?_); rintro e w' ⟨rfl, ⟨nd, rfl⟩⟩; refine ⟨_, rfl, ?_⟩))
   go_meet
   case rel => exact ⟨_, (true), s6q1, H', ⟨by first | omega | exact Nat.le_refl _⟩, ⟨by (with_reducible repeat (first | refine blk_drewN ?_ _ | refine blk_drew ?_ | refine blk_alloc ?_ _)); exact BK160.out⟩, ⟨by (with_reducible repeat (first | refine blk_drewN ?_ _ | refine blk_drew ?_ | refine blk_alloc ?_ _)); exact BK161.out⟩, ⟨by repeat (first | (with_reducible first | exact HB.out | apply below_alloc | apply pw_below_drewN | apply below_drew1 | refine below_set ?_ GE160.out | refine below_set ?_ GE161.out) | exact HB.out)⟩⟩
  rw [if_pos c15] at H
  have c15b0 : ((Int.tmod a2 8) == 0) = true := beq_iff_eq.mpr c15
  have c15b1 : ((Int.tmod a2 8) != 0) = false := bne_eq_false_iff_eq.mpr c15
  clear c15
  (first | rw [c15b0] | (simp only [i64_w, i32_w]; rw [c15b0]) | skip)
  replace H := Option.bind_eq_some_iff.mp H
  obtain ⟨t164, A160, H⟩ := H
  replace H : (join_FilterOf.j0 k l1 a2 a3 (!t164) l0_0 l0_1) = some (r1, r2, r3) := H
  have A16 := Aside0.mk A160
  clear A160
  have H' := Aside0.mk H
  clear H
  go_wp2_with (first | ((with_reducible refine gate_callee (f := 12) rfl ?_); refine goesL_ (some 26) rfl rfl Tryd.func12 s6q0 rfl #[.int .i64 a2, .int .i64 8, .int .i64 65536] rfl s6q10 ?_; (with_reducible refine (kit_In.calls a2 8 65536 true _ A13.out).mono ?_); rintro e w' ⟨rfl, ⟨nd, rfl⟩⟩; refine ⟨_, rfl, ?_⟩) | (go_at_call 12; (with_reducible refine (kit_In.calls a3 1 5 t164 _ A16.out).mono ?_); rintro e w' ⟨rfl, ⟨nd, rfl⟩⟩))
  go_meet
  case rel => exact ⟨_, (!t164), s6q1, H', ⟨by first | omega | exact Nat.le_refl _⟩, ⟨by (with_reducible repeat (first | refine blk_drewN ?_ _ | refine blk_drew ?_ | refine blk_alloc ?_ _)); exact BK160.out⟩, ⟨by (with_reducible repeat (first | refine blk_drewN ?_ _ | refine blk_drew ?_ | refine blk_alloc ?_ _)); exact BK161.out⟩, ⟨by repeat (first | (with_reducible first | exact HB.out | apply below_alloc | apply pw_below_drewN | apply below_drew1 | refine below_set ?_ GE160.out | refine below_set ?_ GE161.out) | exact HB.out)⟩⟩
 clear HC7
 try clear c1
 try clear p2
 try clear c4
 try clear c6
 try clear c6b0
 try clear c6b1
 try clear c10
 try clear c11
 try clear c12
 try clear c14
 try clear c15
 try clear c15b0
 try clear c15b1
 try clear hcz11_0
 try clear hcz11_1
 try clear hfz11_0
 try clear hfz11_1
 obtain ⟨kq, x37_6, rfl, HA, HJ6, BK160, BK161, HB⟩ := hcut
 cases kq with
 | zero => exact absurd HA.out (by simp [join_FilterOf.j0])
 | succ kj6 => ?_
 have H := HA.out
 clear HA
 simp only [join_FilterOf.j0] at H
 by_cases c17 : x37_6 = true
 · subst c17
   have H1 : (some (([] : List Int), 0, 1)) = some (r1, r2, r3) := by rw [if_pos rfl] at H; exact H
   clear H
   have H := H1
   clear H1
   simp only [Option.some.injEq, Prod.mk.injEq] at H
   obtain ⟨rfl, rfl, rfl⟩ := H
   have hnb18 := NB161_160.out
   have hnc18 := NB160_161.out
   have hcz19_0 : wc.cell? ⟨gb161, 0, none⟩ = some (.slice none 0 0) := (blk_cell BK161.out 0).trans rfl
   have hcz19_1 : wc.cell? ⟨gb161, 1, none⟩ = some (.int .i64 0) := (blk_cell BK161.out 1).trans rfl
   have hfz19_0 := blk_frozen BK161.out 0
   have hfz19_1 := blk_frozen BK161.out 1
   go_wp2
   refine bodyPost_ret (results_ct rfl _ _ gb161 29 #[.slice none 0 0, .int .i64 0] (0, 0) _ rfl s6q15 Tryd.underlying29 rfl s6q0) rfl ?_
   exact ⟨_, by first | rfl | (simp [errW_none, errW_some] <;> rfl) | (simp [*, errW_none, errW_some] <;> rfl), by first | exact Kd.R_nil _ _ _ _ _ | exact Kd.N_nil _ _ _ _ _ | exact Kd.V_nil _ _ _ _ _ | exact Kd.Q_nil _ _ _ _ _ | exact Kd.S_nil _ _ _ _ _, by repeat (first | (with_reducible first | exact HB.out | apply below_alloc | apply pw_below_drewN | apply below_drew1 | refine below_set ?_ GE160.out | refine below_set ?_ GE161.out) | exact HB.out)⟩
 replace c17 := Bool.eq_false_iff.mpr c17
 subst c17
 have H1 : (if 0 ≤ (wrap64 (Int.tdiv a2 8)) then (if (wrap64 (Int.tdiv a2 8) : Int).toNat ≤ 281474976710656 then (join_FilterOf.l0 kj6 l1 a2 a3 l0_1 (l0_1.length : Int) 0 (List.replicate (wrap64 (Int.tdiv a2 8) : Int).toNat 0) a3) else (none)) else (none)) = some (r1, r2, r3) := s6q20
 clear H
 have H := H1
 clear H1
 obtain ⟨ji20, hji20⟩ : ∃ j_ : Int, (wrap64 (Int.tdiv a2 8)) = j_ := ⟨_, rfl⟩
 replace H : (if 0 ≤ (ji20) then (if (ji20 : Int).toNat ≤ 281474976710656 then (join_FilterOf.l0 kj6 l1 a2 a3 l0_1 (l0_1.length : Int) 0 (List.replicate (ji20 : Int).toNat 0) a3) else (none)) else (none)) = some (r1, r2, r3) := by first | (rw [hji20] at H; exact H) | (simp only [hji20] at H ⊢; exact H)
 have hji20w : (IntKind.i64.wrap (Int.tdiv a2 8)) = ji20 := (i64_w _).trans hji20
 by_cases c21 : 0 ≤ (ji20)
 case neg =>
  rw [if_neg c21] at H
  exact absurd H (by simp)
 rw [if_pos c21] at H
 have c21b0 := eq_true c21
 have c21b1 : decide (0 ≤ (ji20)) = true := decide_eq_true c21
 clear c21
 by_cases c22 : (ji20 : Int).toNat ≤ 281474976710656
 case neg =>
  rw [if_neg c22] at H
  exact absurd H (by simp)
 rw [if_pos c22] at H
 have c22b0 := eq_true c22
 have c22b1 : decide ((ji20 : Int).toNat ≤ 281474976710656) = true := decide_eq_true c22
 clear c22
 obtain ⟨y165, hy165⟩ : ∃ y_ : List Int, y_ = (List.replicate (ji20 : Int).toNat 0) := ⟨_, rfl⟩
 replace H : (join_FilterOf.l0 kj6 l1 a2 a3 l0_1 (l0_1.length : Int) 0 y165 a3) = some (r1, r2, r3) := sqz hy165 H
 have Ny165 := Aside0.mk hy165
 clear hy165
 have H' := Aside0.mk H
 clear H
 go_wp2_with (first | ((with_reducible refine gate_dst (N := 41) rfl ?_); refine Kd.R_make (Kd.int .u8) _ 5 rfl (N := 41) rfl 27 _ _ rfl ji20 rfl rfl Tryd.underlying27 (.int .u8 0) 1 info5 rfl (by decide) (by omega) 0 (ok := fun _ => True) (okp := fun _ => True) rfl (fun _ hk => hk) trivial (of_decide_eq_true s6q2) (Nat.le_trans (Nat.mul_le_mul_right _ (of_decide_eq_true s6q2 : ji20.toNat ≤ 281474976710656)) (by omega)) (Below.refl _ _) (Nat.le_refl _) ?_; intro v166 w23 ho24 hb hg_ hnew_; clear hg_ hnew_; (first | rw [← Ny165.out] at ho24 | (simp only [Int.reduceToNat] at ho24; rw [← Ny165.out] at ho24)); have n0_ := Aside0.mk (Kd.R_lower ho24 (below_size s6q12)); have n1_ := Aside0.mk (blk_below (g := gb160) (o := .cells #[.slice A0_0 l0_0.length c0_0, .slice A0_1 l0_1.length c0_1] 25 (0, 0)) s6q5 hb); have n2_ := Aside0.mk (blk_below (g := gb161) (o := .cells #[.slice none 0 0, .int .i64 0] 29 (0, 0)) s6q6 hb); have n3_ := Aside0.mk (below_step s6q12 hb); clear BK160; clear BK161; clear HB; have HO167 := n0_; have BK160 := n1_; have BK161 := n2_; have HB := n3_; clear n0_ n1_ n2_ n3_; clear hb ho24; obtain ⟨Ao25, co25, eo25⟩ := Kd.R_slice HO167.out; subst eo25) | ((with_reducible refine gate_dst (N := 11) rfl ?_); refine box_event ?hg (N := 11) ?hd (cs := #[.slice none 0 0, .int .i64 0]) (t := 29) ?hr ?_; (case hd => rfl); (case hg => rfl); (case hr => first | (go_simp; done) | (go_simp; rfl)); intro gb168 hg w26 hbox hb; have n0_ := Aside0.mk (Kd.R_below (by (with_reducible repeat (first | apply Kd.R_alloc | apply Kd.R_drewN | apply Kd.R_drew)); exact HO167.out) hb); have n1_ := Aside0.mk (blk_below (g := gb160) (o := .cells #[.slice A0_0 l0_0.length c0_0, .slice A0_1 l0_1.length c0_1] 25 (0, 0)) s6q5 hb); have n2_ := Aside0.mk (blk_below (g := gb161) (o := .cells #[.slice none 0 0, .int .i64 0] 29 (0, 0)) s6q6 hb); have n3_ := Aside0.mk (below_step s6q12 hb); have n4_ := Aside0.mk (hbox); have n5_ := Aside0.mk (((by rw [hg]; exact (below_size s6q12)) : w.heap.size ≤ gb168)); have n6_ := Aside0.mk (((by rw [hg]; exact (below_size s6q12)) : w.heap.size ≤ gb168)); have n7_ := Aside0.mk ((by rw [hg]; exact Nat.ne_of_lt (blk_lt (g := gb160) (o := .cells #[.slice A0_0 l0_0.length c0_0, .slice A0_1 l0_1.length c0_1] 25 (0, 0)) s6q5) : gb160 ≠ gb168)); have n8_ := Aside0.mk ((by rw [hg]; exact Nat.ne_of_gt (blk_lt (g := gb160) (o := .cells #[.slice A0_0 l0_0.length c0_0, .slice A0_1 l0_1.length c0_1] 25 (0, 0)) s6q5) : gb168 ≠ gb160)); have n9_ := Aside0.mk ((by rw [hg]; exact Nat.ne_of_lt (blk_lt (g := gb161) (o := .cells #[.slice none 0 0, .int .i64 0] 29 (0, 0)) s6q6) : gb161 ≠ gb168)); have n10_ := Aside0.mk ((by rw [hg]; exact Nat.ne_of_gt (blk_lt (g := gb161) (o := .cells #[.slice none 0 0, .int .i64 0] 29 (0, 0)) s6q6) : gb168 ≠ gb161)); clear HO167; clear BK160; clear BK161; clear HB; have HO167 := n0_; have BK160 := n1_; have BK161 := n2_; have HB := n3_; have BK168 := n4_; have GW168 := n5_; have GE168 := n6_; have NB160_168 := n7_; have NB168_160 := n8_; have NB161_168 := n9_; have NB168_161 := n10_; clear n0_ n1_ n2_ n3_ n4_ n5_ n6_ n7_ n8_ n9_ n10_; clear hb hbox hg; have hnb27 := NB168_160.out; have hnc27 := NB160_168.out; have hnb28 := NB168_161.out; have hnc28 := NB161_168.out; have hcz29_0 : w26.cell? ⟨gb168, 0, none⟩ = some (.slice none 0 0) := (blk_cell BK168.out 0).trans rfl; have hcz29_1 : w26.cell? ⟨gb168, 1, none⟩ = some (.int .i64 0) := (blk_cell BK168.out 1).trans rfl; have hfz29_0 := blk_frozen BK168.out 0; have hfz29_1 := blk_frozen BK168.out 1; have hnb30 := NB160_161.out; have hnc30 := NB161_160.out; have hcz31_0 : w26.cell? ⟨gb160, 0, none⟩ = some (.slice A0_0 l0_0.length c0_0) := (blk_cell BK160.out 0).trans rfl; have hcz31_1 : w26.cell? ⟨gb160, 1, none⟩ = some (.slice A0_1 l0_1.length c0_1) := (blk_cell BK160.out 1).trans rfl; have hfz31_0 := blk_frozen BK160.out 0; have hfz31_1 := blk_frozen BK160.out 1))
 go_loopg [47] kj6 (fun kq v47 w' => ∃ (x47_2 : Int) (x169000_2 : List Int) (u169000 : Value), v47 = .int .i64 x47_2 ∧ Aside0 (join_FilterOf.l0 kq l1 a2 a3 l0_1 (l0_1.length : Int) x47_2 x169000_2 a3 = some (r1, r2, r3)) ∧ Aside0 (kq ≤ kj6) ∧ Aside0 (Kd.R (Kd.int .u8) 5 w' w.heap.size (fun _ => True) u169000 x169000_2) ∧ Aside0 (w'.heap[gb160]? = some (.cells #[(.slice A0_0 l0_0.length c0_0), (.slice A0_1 l0_1.length c0_1)] 25 (0, 0))) ∧ Aside0 (w'.heap[gb161]? = some (.cells #[(.slice none 0 0), .int .i64 0] 29 (0, 0))) ∧ Aside0 (w'.heap[gb168]? = some (.cells #[u169000, .int .i64 a3] 29 (0, 0))) ∧ Aside0 (Below w.heap.size w w'))
 case atStart => exact ⟨(0), (y165), (.slice Ao25 y165.length co25), s6q1, H', ⟨Nat.le_refl _⟩, ⟨by (with_reducible repeat (first | apply Kd.R_alloc | apply Kd.R_drewN | apply Kd.R_drew)); exact Kd.R_mono (Kd.R_far (p := ⟨gb168, 1, none⟩) (Kd.R_far (p := ⟨gb168, 0, none⟩) (Kd.R_types HO167.out BK168.out (by decide)) (fun _ hk => hk.2) (.slice Ao25 y165.length co25)) (fun _ hk => hk.2) (.int .i64 a3)) (fun _ hk => trivial)⟩, ⟨by (with_reducible repeat (first | refine blk_drewN ?_ _ | refine blk_drew ?_ | refine blk_alloc ?_ _)); refine blk_far ?_ NB160_168.out _; (with_reducible repeat (first | refine blk_drewN ?_ _ | refine blk_drew ?_ | refine blk_alloc ?_ _)); refine blk_far ?_ NB160_168.out _; (with_reducible repeat (first | refine blk_drewN ?_ _ | refine blk_drew ?_ | refine blk_alloc ?_ _)); exact BK160.out⟩, ⟨by (with_reducible repeat (first | refine blk_drewN ?_ _ | refine blk_drew ?_ | refine blk_alloc ?_ _)); refine blk_far ?_ NB161_168.out _; (with_reducible repeat (first | refine blk_drewN ?_ _ | refine blk_drew ?_ | refine blk_alloc ?_ _)); refine blk_far ?_ NB161_168.out _; (with_reducible repeat (first | refine blk_drewN ?_ _ | refine blk_drew ?_ | refine blk_alloc ?_ _)); exact BK161.out⟩, ⟨by (with_reducible repeat (first | refine blk_drewN ?_ _ | refine blk_drew ?_ | refine blk_alloc ?_ _)); refine blk_put (cs := #[.slice Ao25 y165.length co25, .int .i64 0]) ?_ 1 _ rfl; (with_reducible repeat (first | refine blk_drewN ?_ _ | refine blk_drew ?_ | refine blk_alloc ?_ _)); refine blk_put (cs := #[.slice none 0 0, .int .i64 0]) ?_ 0 _ rfl; (with_reducible repeat (first | refine blk_drewN ?_ _ | refine blk_drew ?_ | refine blk_alloc ?_ _)); exact BK168.out⟩, ⟨by repeat (first | (with_reducible first | exact HB.out | apply below_alloc | apply pw_below_drewN | apply below_drew1 | refine below_set ?_ GE160.out | refine below_set ?_ GE161.out | refine below_set ?_ GE168.out) | exact HB.out)⟩⟩
 clear H'
 try clear c1
 try clear c2
 try clear p2
 try clear c3
 try clear c4
 try clear c6
 try clear c6b0
 try clear c6b1
 try clear p6
 try clear c10
 try clear c11
 try clear c12
 try clear c14
 try clear c15
 try clear c15b0
 try clear c15b1
 try clear c17
 try clear c18
 try clear c21
 try clear c21b0
 try clear c21b1
 try clear c22
 try clear c22b0
 try clear c22b1
 try clear c27
 try clear c28
 try clear c30
 try clear hcz11_0
 try clear hcz11_1
 try clear hcz19_0
 try clear hcz19_1
 try clear hcz29_0
 try clear hcz29_1
 try clear hcz31_0
 try clear hcz31_1
 try clear hfz11_0
 try clear hfz11_1
 try clear hfz19_0
 try clear hfz19_1
 try clear hfz29_0
 try clear hfz29_1
 try clear hfz31_0
 try clear hfz31_1
 try clear p2
 obtain ⟨x47_2, x169000_2, u169000, rfl, HA, HK2, HO_169000, BK160, BK161, BK168, HB⟩ := hrel
 cases gk with
 | zero => exact absurd HA.out (by simp [join_FilterOf.l0])
 | succ k2 => ?_
 have H := HA.out
 clear HA
 simp only [join_FilterOf.l0] at H
 by_cases c32 : x47_2 < (l0_1.length : Int)
 case neg =>
  rw [if_neg c32] at H
  have c32b0 : decide (x47_2 < (l0_1.length : Int)) = false := decide_eq_false c32
  clear c32
  simp only [Option.some.injEq, Prod.mk.injEq] at H
  obtain ⟨rfl, rfl, rfl⟩ := H
  have hnb60 := NB168_160.out
  have hnc60 := NB160_168.out
  have hnb61 := NB168_161.out
  have hnc61 := NB161_168.out
  have hcz62_0 : wr.cell? ⟨gb168, 0, none⟩ = some (u169000) := (blk_cell BK168.out 0).trans rfl
  have hcz62_1 : wr.cell? ⟨gb168, 1, none⟩ = some (.int .i64 a3) := (blk_cell BK168.out 1).trans rfl
  have hfz62_0 := blk_frozen BK168.out 0
  have hfz62_1 := blk_frozen BK168.out 1
  obtain ⟨Ao63, co63, eo63⟩ := Kd.R_slice HO_169000.out
  subst eo63
  have hnb64 := NB161_160.out
  have hnc64 := NB160_161.out
  have hcz65_0 : wr.cell? ⟨gb161, 0, none⟩ = some (.slice none 0 0) := (blk_cell BK161.out 0).trans rfl
  have hcz65_1 : wr.cell? ⟨gb161, 1, none⟩ = some (.int .i64 0) := (blk_cell BK161.out 1).trans rfl
  have hfz65_0 := blk_frozen BK161.out 0
  have hfz65_1 := blk_frozen BK161.out 1
  go_wp2
  refine bodyPost_ret (results_ct rfl _ _ gb161 29 #[.slice Ao63 x169000_2.length co63, .int .i64 a3] (0, 0) _ rfl (by (with_reducible repeat (first | refine blk_drewN ?_ _ | refine blk_drew ?_ | refine blk_alloc ?_ _)); refine blk_put (cs := #[.slice Ao63 x169000_2.length co63, .int .i64 0]) ?_ 1 _ rfl; (with_reducible repeat (first | refine blk_drewN ?_ _ | refine blk_drew ?_ | refine blk_alloc ?_ _)); refine blk_put (cs := #[.slice none 0 0, .int .i64 0]) ?_ 0 _ rfl; (with_reducible repeat (first | refine blk_drewN ?_ _ | refine blk_drew ?_ | refine blk_alloc ?_ _)); exact BK161.out) Tryd.underlying29 rfl s6q0) rfl ?_
  exact ⟨_, by first | rfl | (simp [errW_none, errW_some] <;> rfl) | (simp only [← hji20]; first | rfl | (simp [errW_none, errW_some] <;> rfl)) | (simp [*, errW_none, errW_some] <;> rfl), by (with_reducible repeat (first | apply Kd.R_alloc | apply Kd.R_drewN | apply Kd.R_drew)); exact Kd.R_mono (Kd.R_far (p := ⟨gb161, 1, none⟩) (Kd.R_far (p := ⟨gb161, 0, none⟩) (Kd.R_types HO_169000.out BK161.out (by decide)) (fun _ hk => hk.2) (.slice Ao63 x169000_2.length co63)) (fun _ hk => hk.2) (.int .i64 a3)) (fun _ hk => trivial), by repeat (first | (with_reducible first | exact HB.out | apply below_alloc | apply pw_below_drewN | apply below_drew1 | refine below_set ?_ GE160.out | refine below_set ?_ GE161.out | refine below_set ?_ GE168.out) | exact HB.out)⟩
 rw [if_pos c32] at H
 have c32b0 : decide (x47_2 < (l0_1.length : Int)) = true := decide_eq_true c32
 clear c32
 by_cases c33 : 0 ≤ x47_2
 case neg =>
  rw [if_neg c33] at H
  exact absurd H (by simp)
 rw [if_pos c33] at H
 have c33b0 : decide (0 ≤ x47_2) = true := decide_eq_true c33
 clear c33
 by_cases c34 : x47_2 < (l0_1.length : Int)
 case neg =>
  rw [if_neg c34] at H
  exact absurd H (by simp)
 rw [if_pos c34] at H
 have c34b0 : decide (x47_2 < (l0_1.length : Int)) = true := decide_eq_true c34
 clear c34
 replace H := Option.bind_eq_some_iff.mp H
 obtain ⟨⟨t171, t174⟩, A350, H⟩ := H
 replace H : (join_FilterOf.l1 k2 l1 a2 a3 t171 t174 l0_1 (l0_1.length : Int) x47_2 a3 0 x169000_2 a3) = some (r1, r2, r3) := H
 have A35 := Aside0.mk A350
 clear A350
 have H' := Aside0.mk H
 clear H
 have p169 : 0 ≤ (x47_2 : Int) := of_decide_eq_true s6q2
 have q169 : x47_2 < (l0_1.length : Int) := of_decide_eq_true s6q2
 obtain ⟨ad169, A169_0, c169_0, e169, hx169_0, hl169_0, hi169_0⟩ := at_T43 HR0_1.out x47_2 p169 q169
 cases e169
 replace hx169_0 := (HB.out.cell (World.block_lt_of_cell? w _ hx169_0)).trans hx169_0
 have HR169_0 := Aside0.mk hi169_0
 have HC169_0 := Aside0.mk hl169_0
 clear hi169_0 hl169_0
 replace p169 := eq_true p169
 replace q169 := eq_true q169
 go_wp2_with (first | ((with_reducible refine gate_dst (N := 13) rfl ?_); refine box_event ?hg (N := 13) ?hd (cs := #[.slice none 0 0]) (t := 43) ?hr ?_; (case hd => rfl); (case hg => rfl); (case hr => first | (go_simp; done) | (go_simp; rfl)); intro gb170 hg w36 hbox hb; have n0_ := Aside0.mk (Kd.R_below s6q4 hb); have n1_ := Aside0.mk (blk_below (g := gb160) (o := .cells #[.slice A0_0 l0_0.length c0_0, .slice (some ad169) l0_1.length c0_1] 25 (0, 0)) s6q5 hb); have n2_ := Aside0.mk (blk_below (g := gb161) (o := .cells #[.slice none 0 0, .int .i64 0] 29 (0, 0)) s6q6 hb); have n3_ := Aside0.mk (blk_below (g := gb168) (o := .cells #[u169000, .int .i64 a3] 29 (0, 0)) s6q7 hb); have n4_ := Aside0.mk (below_step s6q13 hb); have n5_ := Aside0.mk (hbox); have n6_ := Aside0.mk (((by rw [hg]; exact (below_size s6q13)) : w.heap.size ≤ gb170)); have n7_ := Aside0.mk (((by rw [hg]; exact (below_size s6q13)) : w.heap.size ≤ gb170)); have n8_ := Aside0.mk ((by rw [hg]; exact Nat.ne_of_lt (blk_lt (g := gb160) (o := .cells #[.slice A0_0 l0_0.length c0_0, .slice (some ad169) l0_1.length c0_1] 25 (0, 0)) s6q5) : gb160 ≠ gb170)); have n9_ := Aside0.mk ((by rw [hg]; exact Nat.ne_of_gt (blk_lt (g := gb160) (o := .cells #[.slice A0_0 l0_0.length c0_0, .slice (some ad169) l0_1.length c0_1] 25 (0, 0)) s6q5) : gb170 ≠ gb160)); have n10_ := Aside0.mk ((by rw [hg]; exact Nat.ne_of_lt (blk_lt (g := gb161) (o := .cells #[.slice none 0 0, .int .i64 0] 29 (0, 0)) s6q6) : gb161 ≠ gb170)); have n11_ := Aside0.mk ((by rw [hg]; exact Nat.ne_of_gt (blk_lt (g := gb161) (o := .cells #[.slice none 0 0, .int .i64 0] 29 (0, 0)) s6q6) : gb170 ≠ gb161)); have n12_ := Aside0.mk ((by rw [hg]; exact Nat.ne_of_lt (blk_lt (g := gb168) (o := .cells #[u169000, .int .i64 a3] 29 (0, 0)) s6q7) : gb168 ≠ gb170)); have n13_ := Aside0.mk ((by rw [hg]; exact Nat.ne_of_gt (blk_lt (g := gb168) (o := .cells #[u169000, .int .i64 a3] 29 (0, 0)) s6q7) : gb170 ≠ gb168)); clear HO_169000; clear BK160; clear BK161; clear BK168; clear HB; have HO_169000 := n0_; have BK160 := n1_; have BK161 := n2_; have BK168 := n3_; have HB := n4_; have BK170 := n5_; have GW170 := n6_; have GE170 := n7_; have NB160_170 := n8_; have NB170_160 := n9_; have NB161_170 := n10_; have NB170_161 := n11_; have NB168_170 := n12_; have NB170_168 := n13_; clear n0_ n1_ n2_ n3_ n4_ n5_ n6_ n7_ n8_ n9_ n10_ n11_ n12_ n13_; clear hb hbox hg; have hnb37 := NB170_160.out; have hnc37 := NB160_170.out; have hnb38 := NB170_161.out; have hnc38 := NB161_170.out; have hnb39 := NB170_168.out; have hnc39 := NB168_170.out; have hcz40_0 : w36.cell? ⟨gb170, 0, none⟩ = some (.slice none 0 0) := (blk_cell BK170.out 0).trans rfl; have hfz40_0 := blk_frozen BK170.out 0) | ((with_reducible refine gate_callee (f := 13) rfl ?_); refine goesL_ (some 54) rfl rfl Tryd.func13 s6q0 rfl #[.agg #[.slice A169_0 ((rd_T43 l0_1 x47_2).f0).length c169_0], .slice A1 l1.length c1] rfl s6q10 ?_; (with_reducible refine (join_key.calls k2 _ _ ((rd_T43 l0_1 x47_2).f0) _ _ l1 t171 t174 _ ?side1 ?side2 ?side3 ?side4 A35.out).mono ?_); (case side1 => exact Kd.C_below HR169_0.out s6q14); (case side2 => exact HC169_0.out); (case side3 => exact Kd.C_below HR1.out s6q14); (case side4 => exact HC1.out); rintro e w41 ⟨v172, rfl, ho0, hb⟩; refine ⟨_, rfl, ?_⟩; have n0_ := Aside0.mk (Kd.R_below (by (with_reducible repeat (first | apply Kd.R_alloc | apply Kd.R_drewN | apply Kd.R_drew)); exact (Kd.R_mono (Kd.R_far (p := ⟨gb170, 0, none⟩) (Kd.R_types HO_169000.out BK170.out (by decide)) (fun _ hk => hk.2) (.slice A169_0 ((rd_T43 l0_1 x47_2).f0).length c169_0)) (fun _ h_ => h_.1))) hb); have n1_ := Aside0.mk (Kd.R_lower ho0 (below_size s6q14)); have n2_ := Aside0.mk (blk_below (g := gb160) (o := .cells #[.slice A0_0 l0_0.length c0_0, .slice (some ad169) l0_1.length c0_1] 25 (0, 0)) (by (with_reducible repeat (first | refine blk_drewN ?_ _ | refine blk_drew ?_ | refine blk_alloc ?_ _)); refine blk_far ?_ NB160_170.out _; (with_reducible repeat (first | refine blk_drewN ?_ _ | refine blk_drew ?_ | refine blk_alloc ?_ _)); exact BK160.out) hb); have n3_ := Aside0.mk (blk_below (g := gb161) (o := .cells #[.slice none 0 0, .int .i64 0] 29 (0, 0)) (by (with_reducible repeat (first | refine blk_drewN ?_ _ | refine blk_drew ?_ | refine blk_alloc ?_ _)); refine blk_far ?_ NB161_170.out _; (with_reducible repeat (first | refine blk_drewN ?_ _ | refine blk_drew ?_ | refine blk_alloc ?_ _)); exact BK161.out) hb); have n4_ := Aside0.mk (blk_below (g := gb168) (o := .cells #[u169000, .int .i64 a3] 29 (0, 0)) (by (with_reducible repeat (first | refine blk_drewN ?_ _ | refine blk_drew ?_ | refine blk_alloc ?_ _)); refine blk_far ?_ NB168_170.out _; (with_reducible repeat (first | refine blk_drewN ?_ _ | refine blk_drew ?_ | refine blk_alloc ?_ _)); exact BK168.out) hb); have n5_ := Aside0.mk (blk_below (g := gb170) (o := .cells #[.slice A169_0 ((rd_T43 l0_1 x47_2).f0).length c169_0] 43 (0, 0)) (by (with_reducible repeat (first | refine blk_drewN ?_ _ | refine blk_drew ?_ | refine blk_alloc ?_ _)); refine blk_put (cs := #[.slice none 0 0]) ?_ 0 _ rfl; (with_reducible repeat (first | refine blk_drewN ?_ _ | refine blk_drew ?_ | refine blk_alloc ?_ _)); exact BK170.out) hb); have n6_ := Aside0.mk (below_step s6q14 hb); clear HO_169000; clear BK160; clear BK161; clear BK168; clear BK170; clear HB; have HO_169000 := n0_; have HO173 := n1_; have BK160 := n2_; have BK161 := n3_; have BK168 := n4_; have BK170 := n5_; have HB := n6_; clear n0_ n1_ n2_ n3_ n4_ n5_ n6_; (try clear hb); (try clear hb2); (try clear hk); (try clear hi); (try clear ho0)))
 go_loopg [58] k2 (fun kq v58 w' => ∃ (x58_3 : Int) (x169000_3 : List Int) (u169000 : Value), v58 = .int .i64 x58_3 ∧ Aside0 (join_FilterOf.l1 kq l1 a2 a3 t171 t174 l0_1 (l0_1.length : Int) x47_2 a3 x58_3 x169000_3 a3 = some (r1, r2, r3)) ∧ Aside0 (kq ≤ k2) ∧ Aside0 (Kd.R k54 54 w' w.heap.size (fun _ => True) v172 t171) ∧ Aside0 (Kd.R (Kd.int .u8) 5 w' w.heap.size (fun _ => True) u169000 x169000_3) ∧ Aside0 (w'.heap[gb160]? = some (.cells #[(.slice A0_0 l0_0.length c0_0), (.slice (some ad169) l0_1.length c0_1)] 25 (0, 0))) ∧ Aside0 (w'.heap[gb161]? = some (.cells #[(.slice none 0 0), .int .i64 0] 29 (0, 0))) ∧ Aside0 (w'.heap[gb168]? = some (.cells #[u169000, .int .i64 a3] 29 (0, 0))) ∧ Aside0 (w'.heap[gb170]? = some (.cells #[(.slice A169_0 ((rd_T43 l0_1 x47_2).f0).length c169_0)] 43 (0, 0))) ∧ Aside0 (Below w.heap.size w w'))
 case atStart => exact ⟨(0), (x169000_2), (u169000), s6q1, H', ⟨Nat.le_refl _⟩, ⟨by (with_reducible repeat (first | apply Kd.R_alloc | apply Kd.R_drewN | apply Kd.R_drew)); exact HO173.out⟩, ⟨by (with_reducible repeat (first | apply Kd.R_alloc | apply Kd.R_drewN | apply Kd.R_drew)); exact HO_169000.out⟩, ⟨by (with_reducible repeat (first | refine blk_drewN ?_ _ | refine blk_drew ?_ | refine blk_alloc ?_ _)); exact BK160.out⟩, ⟨by (with_reducible repeat (first | refine blk_drewN ?_ _ | refine blk_drew ?_ | refine blk_alloc ?_ _)); exact BK161.out⟩, ⟨by (with_reducible repeat (first | refine blk_drewN ?_ _ | refine blk_drew ?_ | refine blk_alloc ?_ _)); exact BK168.out⟩, ⟨by (with_reducible repeat (first | refine blk_drewN ?_ _ | refine blk_drew ?_ | refine blk_alloc ?_ _)); exact BK170.out⟩, ⟨by repeat (first | (with_reducible first | exact HB.out | apply below_alloc | apply pw_below_drewN | apply below_drew1 | refine below_set ?_ GE160.out | refine below_set ?_ GE161.out | refine below_set ?_ GE168.out | refine below_set ?_ GE170.out) | exact HB.out)⟩⟩
 clear H'
 try clear c1
 try clear p1
 try clear q1
 try clear hx1
 try clear c2
 try clear p2
 try clear c3
 try clear c4
 try clear c6
 try clear c6b0
 try clear c6b1
 try clear p6
 try clear c10
 try clear c11
 try clear c12
 try clear c13
 try clear c14
 try clear c15
 try clear c15b0
 try clear c15b1
 try clear c16
 try clear p16
 try clear q16
 try clear hx16
 try clear c17
 try clear c18
 try clear c21
 try clear c21b0
 try clear c21b1
 try clear c22
 try clear c22b0
 try clear c22b1
 try clear c27
 try clear c28
 try clear c30
 try clear c32
 try clear c32b0
 try clear c33
 try clear c33b0
 try clear c34
 try clear c34b0
 try clear c37
 try clear c38
 try clear c39
 try clear hcz11_0
 try clear hcz11_1
 try clear hcz19_0
 try clear hcz19_1
 try clear hcz29_0
 try clear hcz29_1
 try clear hcz31_0
 try clear hcz31_1
 try clear hcz40_0
 try clear hfz11_0
 try clear hfz11_1
 try clear hfz19_0
 try clear hfz19_1
 try clear hfz29_0
 try clear hfz29_1
 try clear hfz31_0
 try clear hfz31_1
 try clear hfz40_0
 try clear hx169_0
 try clear p169
 try clear p2
 try clear p6
 try clear q169
 obtain ⟨x58_3, x169000_3, u169000, rfl, HA, HK3, HO_14, HO_169000, BK160, BK161, BK168, BK170, HB⟩ := hrel
 cases gk with
 | zero => exact absurd HA.out (by simp [join_FilterOf.l1])
 | succ k3 => ?_
 have H := HA.out
 clear HA
 simp only [join_FilterOf.l1] at H
 by_cases c42 : x58_3 < a3
 case neg =>
  rw [if_neg c42] at H
  have c42b0 : decide (x58_3 < a3) = false := decide_eq_false c42
  clear c42
  have H' := Aside0.mk H
  clear H
  go_wp2
  first | go_roundg k3 | (refine Handed.intro k3 ?measure ?_; rotate_left; go_step; (repeat apply Exists.intro); simp only [add_plain]; refine ⟨?rel, rfl⟩)
  case measure => have := HJ6.out; have := HK2.out; have := HK3.out; omega
  case rel => exact ⟨(wrap64 (x47_2 + 1)), (x169000_3), (u169000), s6q1, H', ⟨by have := HJ6.out; have := HK2.out; have := HK3.out; omega⟩, ⟨by (with_reducible repeat (first | apply Kd.R_alloc | apply Kd.R_drewN | apply Kd.R_drew)); exact HO_169000.out⟩, ⟨by (with_reducible repeat (first | refine blk_drewN ?_ _ | refine blk_drew ?_ | refine blk_alloc ?_ _)); exact BK160.out⟩, ⟨by (with_reducible repeat (first | refine blk_drewN ?_ _ | refine blk_drew ?_ | refine blk_alloc ?_ _)); exact BK161.out⟩, ⟨by (with_reducible repeat (first | refine blk_drewN ?_ _ | refine blk_drew ?_ | refine blk_alloc ?_ _)); exact BK168.out⟩, ⟨by repeat (first | (with_reducible first | exact HB.out | apply below_alloc | apply pw_below_drewN | apply below_drew1 | refine below_set ?_ GE160.out | refine below_set ?_ GE161.out | refine below_set ?_ GE168.out | refine below_set ?_ GE170.out) | exact HB.out)⟩⟩
 rw [if_pos c42] at H
 have c42b0 : decide (x58_3 < a3) = true := decide_eq_true c42
 clear c42
 replace H := Option.bind_eq_some_iff.mp H
 obtain ⟨t175, A430, H⟩ := H
 replace H : (if a2 = 0 then (none) else (if t174 = true then (if 0 ≤ (wrap64 (Int.tdiv (Int.tmod t175 a2) 8)) then (if (wrap64 (Int.tdiv (Int.tmod t175 a2) 8)) < (x169000_3.length : Int) then (if 0 ≤ (Int.tmod (Int.tmod t175 a2) 8) then (join_FilterOf.l1 k3 l1 a2 a3 t171 t174 l0_1 (l0_1.length : Int) x47_2 a3 (wrap64 (x58_3 + 1)) (x169000_3.set ((wrap64 (Int.tdiv (Int.tmod t175 a2) 8)) : Int).toNat (Go.bits .or .u8 (rd x169000_3 (wrap64 (Int.tdiv (Int.tmod t175 a2) 8))) (shl .u8 1 (Int.tmod (Int.tmod t175 a2) 8)))) a3) else (none)) else (none)) else (none)) else (join_FilterOf.l1 k3 l1 a2 a3 t171 t174 l0_1 (l0_1.length : Int) x47_2 a3 (wrap64 (x58_3 + 1)) x169000_3 a3))) = some (r1, r2, r3) := H
 have A43 := Aside0.mk A430
 clear A430
 by_cases c44 : a2 = 0
 · rw [if_pos c44] at H
   exact absurd H (by simp)
 rw [if_neg c44] at H
 have c44b0 : (a2 == 0) = false := beq_eq_false_iff_ne.mpr c44
 have c44b1 : (a2 != 0) = true := bne_iff_ne.mpr c44
 by_cases c45 : t174 = true
 case neg =>
  replace c45 := Bool.eq_false_iff.mpr c45
  subst c45
  have H1 : (join_FilterOf.l1 k3 l1 a2 a3 t171 false l0_1 (l0_1.length : Int) x47_2 a3 (wrap64 (x58_3 + 1)) x169000_3 a3) = some (r1, r2, r3) := s6q20
  clear H
  have H := H1
  clear H1
  have H' := Aside0.mk H
  clear H
  obtain ⟨Ao58, co58, eo58⟩ := Kd.R_slice HO_14.out
  subst eo58
  go_wp2_with (first | ((with_reducible refine gate_callee (f := 14) rfl ?_); refine goesL_ (some 63) rfl rfl Tryd.func14 s6q0 rfl #[.slice Ao58 t171.length co58, .int .i64 x58_3] rfl s6q10 ?_; (with_reducible refine (join_hash.calls k3 _ _ t171 x58_3 t175 _ ?side1 ?side2 ?side3 A43.out).mono ?_); (case side1 => repeat (first | exact (Kd.R_reads' HO_14.out).2.2 | (with_reducible refine Kd.C_alloc ?_ _) | (with_reducible refine Kd.C_drewN ?_ _) | (with_reducible refine Kd.C_drew ?_))); (case side2 => exact (Kd.R_reads' HO_14.out).2.1); (case side3 => exact Glob_below HG.out s6q14); rintro e w59 ⟨rfl, hb⟩; refine ⟨_, rfl, ?_⟩; have n0_ := Aside0.mk (Kd.R_below s6q3 hb); have n1_ := Aside0.mk (Kd.R_below s6q4 hb); have n2_ := Aside0.mk (blk_below (g := gb160) (o := .cells #[.slice A0_0 l0_0.length c0_0, .slice (some ad169) l0_1.length c0_1] 25 (0, 0)) s6q5 hb); have n3_ := Aside0.mk (blk_below (g := gb161) (o := .cells #[.slice none 0 0, .int .i64 0] 29 (0, 0)) s6q6 hb); have n4_ := Aside0.mk (blk_below (g := gb168) (o := .cells #[u169000, .int .i64 a3] 29 (0, 0)) s6q7 hb); have n5_ := Aside0.mk (blk_below (g := gb170) (o := .cells #[.slice A169_0 ((rd_T43 l0_1 x47_2).f0).length c169_0] 43 (0, 0)) s6q8 hb); have n6_ := Aside0.mk (below_step s6q14 hb); clear HO_14; clear HO_169000; clear BK160; clear BK161; clear BK168; clear BK170; clear HB; have HO_14 := n0_; have HO_169000 := n1_; have BK160 := n2_; have BK161 := n3_; have BK168 := n4_; have BK170 := n5_; have HB := n6_; clear n0_ n1_ n2_ n3_ n4_ n5_ n6_; (try clear hb); (try clear hb2); (try clear hk); (try clear hi)))
  first | go_roundg k3 | (refine Handed.intro k3 ?measure ?_; rotate_left; go_step; (repeat apply Exists.intro); simp only [add_plain]; refine ⟨?rel, rfl⟩)
  case measure => have := HJ6.out; have := HK2.out; have := HK3.out; omega
  case rel => exact ⟨(wrap64 (x58_3 + 1)), (x169000_3), (u169000), s6q1, H', ⟨by have := HJ6.out; have := HK2.out; have := HK3.out; omega⟩, ⟨by (with_reducible repeat (first | apply Kd.R_alloc | apply Kd.R_drewN | apply Kd.R_drew)); exact HO_14.out⟩, ⟨by (with_reducible repeat (first | apply Kd.R_alloc | apply Kd.R_drewN | apply Kd.R_drew)); exact HO_169000.out⟩, ⟨by (with_reducible repeat (first | refine blk_drewN ?_ _ | refine blk_drew ?_ | refine blk_alloc ?_ _)); exact BK160.out⟩, ⟨by (with_reducible repeat (first | refine blk_drewN ?_ _ | refine blk_drew ?_ | refine blk_alloc ?_ _)); exact BK161.out⟩, ⟨by (with_reducible repeat (first | refine blk_drewN ?_ _ | refine blk_drew ?_ | refine blk_alloc ?_ _)); exact BK168.out⟩, ⟨by (with_reducible repeat (first | refine blk_drewN ?_ _ | refine blk_drew ?_ | refine blk_alloc ?_ _)); exact BK170.out⟩, ⟨by repeat (first | (with_reducible first | exact HB.out | apply below_alloc | apply pw_below_drewN | apply below_drew1 | refine below_set ?_ GE160.out | refine below_set ?_ GE161.out | refine below_set ?_ GE168.out | refine below_set ?_ GE170.out) | exact HB.out)⟩⟩
 subst c45
 have H1 : (if 0 ≤ (wrap64 (Int.tdiv (Int.tmod t175 a2) 8)) then (if (wrap64 (Int.tdiv (Int.tmod t175 a2) 8)) < (x169000_3.length : Int) then (if 0 ≤ (Int.tmod (Int.tmod t175 a2) 8) then (join_FilterOf.l1 k3 l1 a2 a3 t171 true l0_1 (l0_1.length : Int) x47_2 a3 (wrap64 (x58_3 + 1)) (x169000_3.set ((wrap64 (Int.tdiv (Int.tmod t175 a2) 8)) : Int).toNat (Go.bits .or .u8 (rd x169000_3 (wrap64 (Int.tdiv (Int.tmod t175 a2) 8))) (shl .u8 1 (Int.tmod (Int.tmod t175 a2) 8)))) a3) else (none)) else (none)) else (none)) = some (r1, r2, r3) := by rw [if_pos rfl] at H; exact H
 clear H
 have H := H1
 clear H1
 obtain ⟨ji46, hji46⟩ : ∃ j_ : Int, (wrap64 (Int.tdiv (Int.tmod t175 a2) 8)) = j_ := ⟨_, rfl⟩
 replace H : (if 0 ≤ (ji46) then (if (ji46) < (x169000_3.length : Int) then (if 0 ≤ (Int.tmod (Int.tmod t175 a2) 8) then (join_FilterOf.l1 k3 l1 a2 a3 t171 true l0_1 (l0_1.length : Int) x47_2 a3 (wrap64 (x58_3 + 1)) (x169000_3.set ((ji46) : Int).toNat (Go.bits .or .u8 (rd x169000_3 (ji46)) (shl .u8 1 (Int.tmod (Int.tmod t175 a2) 8)))) a3) else (none)) else (none)) else (none)) = some (r1, r2, r3) := by first | (rw [hji46] at H; exact H) | (simp only [hji46] at H ⊢; exact H)
 (try rw [hji46] at A43)
 have hji46w : (IntKind.i64.wrap (Int.tdiv (Int.tmod t175 a2) 8)) = ji46 := (i64_w _).trans hji46
 by_cases c47 : 0 ≤ (ji46)
 case neg =>
  rw [if_neg c47] at H
  exact absurd H (by simp)
 rw [if_pos c47] at H
 have c47b0 : decide (0 ≤ (ji46)) = true := decide_eq_true c47
 clear c47
 by_cases c48 : (ji46) < (x169000_3.length : Int)
 case neg =>
  rw [if_neg c48] at H
  exact absurd H (by simp)
 rw [if_pos c48] at H
 have c48b0 : decide ((ji46) < (x169000_3.length : Int)) = true := decide_eq_true c48
 clear c48
 obtain ⟨ji49, hji49⟩ : ∃ j_ : Int, (Int.tmod (Int.tmod t175 a2) 8) = j_ := ⟨_, rfl⟩
 replace H : (if 0 ≤ (ji49) then (join_FilterOf.l1 k3 l1 a2 a3 t171 true l0_1 (l0_1.length : Int) x47_2 a3 (wrap64 (x58_3 + 1)) (x169000_3.set ((ji46) : Int).toNat (Go.bits .or .u8 (rd x169000_3 (ji46)) (shl .u8 1 (ji49)))) a3) else (none)) = some (r1, r2, r3) := by first | (rw [hji49] at H; exact H) | (simp only [hji49] at H ⊢; exact H)
 (try rw [hji49] at A43)
 by_cases c50 : 0 ≤ (ji49)
 case neg =>
  rw [if_neg c50] at H
  exact absurd H (by simp)
 rw [if_pos c50] at H
 have c50b0 := eq_true c50
 have c50b1 : decide (0 ≤ (ji49)) = true := decide_eq_true c50
 clear c50
 obtain ⟨ji51, hji51⟩ : ∃ j_ : Int, (shl .u8 1 (ji49)) = j_ := ⟨_, rfl⟩
 replace H : (join_FilterOf.l1 k3 l1 a2 a3 t171 true l0_1 (l0_1.length : Int) x47_2 a3 (wrap64 (x58_3 + 1)) (x169000_3.set ((ji46) : Int).toNat (Go.bits .or .u8 (rd x169000_3 (ji46)) (ji51))) a3) = some (r1, r2, r3) := by first | (rw [hji51] at H; exact H) | (simp only [hji51] at H ⊢; exact H)
 (try rw [hji51] at A43)
 have hji51_ : (IntKind.u8.wrap (1 * 2 ^ min (ji49).toNat 8)) = ji51 := hji51
 have hji51z : (ji49) ≤ 8 → (IntKind.u8.wrap (1 * 2 ^ (ji49).toNat)) = ji51 := shl_small hji51
 have hji51u : (IntKind.u8.wrap (2 ^ min (ji49).toNat 8)) = ji51 := by have h_ := hji51_; rw [Int.one_mul] at h_; exact h_
 have hji51v : (ji49) ≤ 8 → (IntKind.u8.wrap (2 ^ (ji49).toNat)) = ji51 := fun hle_ => by have h_ := hji51z hle_; rw [Int.one_mul] at h_; exact h_
 obtain ⟨y177, hy177⟩ : ∃ y_ : List Int, y_ = (x169000_3.set ((ji46) : Int).toNat (Go.bits .or .u8 (rd x169000_3 (ji46)) (ji51))) := ⟨_, rfl⟩
 replace H : (join_FilterOf.l1 k3 l1 a2 a3 t171 true l0_1 (l0_1.length : Int) x47_2 a3 (wrap64 (x58_3 + 1)) y177 a3) = some (r1, r2, r3) := sqz hy177 H
 have Ny177 := Aside0.mk hy177
 clear hy177
 have H' := Aside0.mk H
 clear H
 obtain ⟨Ao53, co53, eo53⟩ := Kd.R_slice HO_14.out
 subst eo53
 try go_wp2_with (first | ((with_reducible refine gate_callee (f := 14) rfl ?_); refine goesL_ (some 63) rfl rfl Tryd.func14 s6q0 rfl #[.slice Ao53 t171.length co53, .int .i64 x58_3] rfl s6q10 ?_; (with_reducible refine (join_hash.calls k3 _ _ t171 x58_3 t175 _ ?side1 ?side2 ?side3 A43.out).mono ?_); (case side1 => repeat (first | exact (Kd.R_reads' HO_14.out).2.2 | (with_reducible refine Kd.C_alloc ?_ _) | (with_reducible refine Kd.C_drewN ?_ _) | (with_reducible refine Kd.C_drew ?_))); (case side2 => exact (Kd.R_reads' HO_14.out).2.1); (case side3 => exact Glob_below HG.out s6q14); rintro e w54 ⟨rfl, hb⟩; refine ⟨_, rfl, ?_⟩; have n0_ := Aside0.mk (Kd.R_below s6q3 hb); have n1_ := Aside0.mk (Kd.R_below s6q4 hb); have n2_ := Aside0.mk (blk_below (g := gb160) (o := .cells #[.slice A0_0 l0_0.length c0_0, .slice (some ad169) l0_1.length c0_1] 25 (0, 0)) s6q5 hb); have n3_ := Aside0.mk (blk_below (g := gb161) (o := .cells #[.slice none 0 0, .int .i64 0] 29 (0, 0)) s6q6 hb); have n4_ := Aside0.mk (blk_below (g := gb168) (o := .cells #[u169000, .int .i64 a3] 29 (0, 0)) s6q7 hb); have n5_ := Aside0.mk (blk_below (g := gb170) (o := .cells #[.slice A169_0 ((rd_T43 l0_1 x47_2).f0).length c169_0] 43 (0, 0)) s6q8 hb); have n6_ := Aside0.mk (below_step s6q14 hb); clear HO_14; clear HO_169000; clear BK160; clear BK161; clear BK168; clear BK170; clear HB; have HO_14 := n0_; have HO_169000 := n1_; have BK160 := n2_; have BK161 := n3_; have BK168 := n4_; have BK170 := n5_; have HB := n6_; clear n0_ n1_ n2_ n3_ n4_ n5_ n6_; (try clear hb); (try clear hb2); (try clear hk); (try clear hi)))
 have n0_ := Aside0.mk (Kd.R_drew HO_14.out)
 have n1_ := Aside0.mk (Kd.R_drew HO_169000.out)
 have n2_ := Aside0.mk (blk_drew BK160.out)
 have n3_ := Aside0.mk (blk_drew BK161.out)
 have n4_ := Aside0.mk (blk_drew BK168.out)
 have n5_ := Aside0.mk (blk_drew BK170.out)
 have n6_ := Aside0.mk (below_drew1 HB.out)
 clear HO_14
 clear HO_169000
 clear BK160
 clear BK161
 clear BK168
 clear BK170
 clear HB
 have HO_14 := n0_
 have HO_169000 := n1_
 have BK160 := n2_
 have BK161 := n3_
 have BK168 := n4_
 have BK170 := n5_
 have HB := n6_
 clear n0_ n1_ n2_ n3_ n4_ n5_ n6_
 obtain ⟨Ao56, co56, eo56⟩ := Kd.R_slice HO_169000.out
 (first | subst eo56 | (injection eo56 with f1_ f2_ f3_; have f4_ := f1_.symm; have f5_ := f3_.symm; clear f1_ f2_ f3_; subst f4_; subst f5_))
 have p176 : 0 ≤ ((ji46) : Int) := of_decide_eq_true s6q2
 have q176 : (ji46) < (x169000_3.length : Int) := of_decide_eq_true s6q2
 obtain ⟨ad176, e176, hx176_0⟩ := Kd.at_int (Kd.R_reads' HO_169000.out).2.2 (ji46) p176 q176
 cases e176
 replace p176 := eq_true p176
 replace q176 := eq_true q176
 have p52 : 0 ≤ ((ji46) : Int) := of_decide_eq_true s6q2
 have q52 : ((ji46) : Int) < ((x169000_3.length : Int) : Int) := of_decide_eq_true s6q2
 obtain ⟨go52, co52, eo52, gb52, gl52, cl52, HG52⟩ := Kd.R_form HO_169000.out (by first | exact Int.natCast_pos.1 (Int.lt_of_le_of_lt p52 q52) | omega)
 (first | cases eo52 | (injection eo52 with ea_ en_ ec_; (first | subst ea_ | (injection ea_ with ea_; subst ea_)); subst ec_; clear en_))
 have GB52 := Aside0.mk gb52
 have GG52 := Aside0.mk HG52
 clear gb52 gl52 HG52
 (first | simp only [add_plain] at hx176_0 | skip)
 obtain ⟨hx52_0, hf52_0⟩ := Kd.R_celln 0 HO_169000.out ((ji46) : Int) p52 q52
 replace p52 := eq_true p52
 replace q52 := eq_true q52
 have HP57 := Kd.R_putn HO_169000.out ((ji46) : Int) (Go.bits .or .u8 (rd x169000_3 (ji46)) (ji51))
 rw [← Ny177.out] at HP57
 have HQ57 := Aside0.mk HP57
 clear HP57
 refine start_ (n := 12) (S := fun w' => w'.cell? ⟨gb168, 0, none⟩ = some (.slice (some ⟨go52, 0, none⟩) x169000_3.length co56) ∧ w'.cell? ⟨gb168, 1, none⟩ = some (.int .i64 a3) ∧ w'.cell? ⟨go52, ((ji46)).toNat, none⟩ = some (.int .u8 (rd x169000_3 (ji46)))) (ds := [11]) #[false, false, false, false, false, false, false, false, false, false, false, false] s6q0 rfl rfl ⟨(blk_cell BK168.out 0).trans rfl, (blk_cell BK168.out 1).trans rfl, hx176_0⟩ (fun hHeld => ?_); refine with_tabW join_FilterOf.tab16 join_FilterOf.bits16 (fun HT_ HW_ => ?_)
 generalize w54.drew = w55 at HO_14 HO_169000 BK160 BK161 BK168 BK170 HB GG52 HQ57 hf52_0 hx176_0 hx52_0 hHeld ⊢
 refine pure_ (i := 0) (N := some 67) (v := ?_) (a' := ?_) #[true, false, false, false, false, false, false, false, false, false, false, false] rfl rfl (any_of HT_.out s6q0) (fun _ _ _ h => h) (Or.inl ⟨by rfl, ?_⟩) ?_ ?_
 rotate_left
 · intro w'
   go_simp
   with_reducible rfl
 rotate_left
 · simp only [Act.put, sqa, sqb, sqc, i64_w, i32_w]
   rfl
 refine pure_ (i := 2) (N := some 69) (v := ?_) (a' := ?_) #[true, false, true, false, false, false, false, false, false, false, false, false] rfl rfl (any_of HT_.out s6q0) (fun _ _ _ h => h) (Or.inl ⟨by rfl, ?_⟩) ?_ ?_
 rotate_left
 · intro w'
   go_simp
   with_reducible rfl
 rotate_left
 · simp only [Act.put, sqa, sqb, sqc, i64_w, i32_w]
   rfl
 refine pure_ (i := 3) (N := some 70) (v := ?_) (a' := ?_) #[true, false, true, true, false, false, false, false, false, false, false, false] rfl rfl (any_of HT_.out s6q0) (fun _ _ _ h => h) (Or.inl ⟨by rfl, ?_⟩) ?_ ?_
 rotate_left
 · intro w'
   go_simp
   with_reducible rfl
 rotate_left
 · simp only [Act.put, sqa, sqb, sqc, i64_w, i32_w]
   rfl
 refine pure_ (i := 6) (N := some 73) (v := ?_) (a' := ?_) #[true, false, true, true, false, false, true, false, false, false, false, false] rfl rfl (any_of HT_.out s6q0) (fun _ _ _ h => h) (Or.inl ⟨by rfl, ?_⟩) ?_ ?_
 rotate_left
 · intro w'
   go_simp
   with_reducible rfl
 rotate_left
 · simp only [Act.put, sqa, sqb, sqc, i64_w, i32_w]
   rfl
 refine pure_ (i := 7) (N := some 74) (v := ?_) (a' := ?_) #[true, false, true, true, false, false, true, true, false, false, false, false] rfl rfl (any_of HT_.out s6q0) (fun _ _ _ h => h) (Or.inl ⟨by rfl, ?_⟩) ?_ ?_
 rotate_left
 · intro w'
   go_simp
   with_reducible rfl
 rotate_left
 · simp only [Act.put, sqa, sqb, sqc, i64_w, i32_w]
   rfl
 refine pure_ (i := 8) (N := some 75) (v := ?_) (a' := ?_) #[true, false, true, true, false, false, true, true, true, false, false, false] rfl rfl (any_of HT_.out s6q0) (fun _ _ _ h => h) (Or.inl ⟨by rfl, ?_⟩) ?_ ?_
 rotate_left
 · intro w'
   go_simp
   with_reducible rfl
 rotate_left
 · simp only [Act.put, sqa, sqb, sqc, i64_w, i32_w]
   rfl
 refine take_ (i := 1) (N := some 68) (v := ?_) (a' := ?_) #[true, true, true, true, false, false, true, true, true, false, false, false] rfl rfl (take_ofW HT_.out HW_.out s6q0) (fun _ _ _ h => h) (Or.inl ⟨by rfl, ?_⟩) hHeld ?_ ?_
 rotate_left
 · rintro w' ⟨s0, s1, s2⟩
   go_simp
   with_reducible rfl
 rotate_left
 · simp only [Act.put, sqa, sqb, sqc, i64_w, i32_w]
   rfl
 refine pure_ (i := 4) (N := some 71) (v := ?_) (a' := ?_) #[true, true, true, true, true, false, true, true, true, false, false, false] rfl rfl (any_of HT_.out s6q0) (fun _ _ _ h => h) (Or.inl ⟨by rfl, ?_⟩) ?_ ?_
 rotate_left
 · intro w'
   go_simp
   with_reducible rfl
 rotate_left
 · simp only [Act.put, sqa, sqb, sqc, i64_w, i32_w]
   rfl
 refine take_ (i := 5) (N := some 72) (v := ?_) (a' := ?_) #[true, true, true, true, true, true, true, true, true, false, false, false] rfl rfl (take_ofW HT_.out HW_.out s6q0) (fun _ _ _ h => h) (Or.inl ⟨by rfl, ?_⟩) hHeld ?_ ?_
 rotate_left
 · rintro w' ⟨s0, s1, s2⟩
   go_simp
   with_reducible rfl
 rotate_left
 · simp only [Act.put, sqa, sqb, sqc, i64_w, i32_w]
   rfl
 refine pure_ (i := 9) (N := some 76) (v := ?_) (a' := ?_) #[true, true, true, true, true, true, true, true, true, true, false, false] rfl rfl (any_of HT_.out s6q0) (fun _ _ _ h => h) (Or.inl ⟨by rfl, ?_⟩) ?_ ?_
 rotate_left
 · intro w'
   go_simp
   with_reducible rfl
 rotate_left
 · simp only [Act.put, sqa, sqb, sqc, i64_w, i32_w]
   rfl
 refine pure_ (i := 10) (N := some 77) (v := ?_) (a' := ?_) #[true, true, true, true, true, true, true, true, true, true, true, false] rfl rfl (any_of HT_.out s6q0) (fun _ _ _ h => h) (Or.inl ⟨by rfl, ?_⟩) ?_ ?_
 rotate_left
 · intro w'
   go_simp
   with_reducible rfl
 rotate_left
 · simp only [Act.put, sqa, sqb, sqc, i64_w, i32_w]
   rfl
 refine last_ (i := 11) (N := none) #[true, true, true, true, true, true, true, true, true, true, true, true] rfl rfl (one_of HT_.out s6q0) (by decide) (fun K hK => ?_)
 refine skip_ (w1 := ?_) (by rfl) rfl ?_ ?_
 rotate_left
 · go_simp
   rfl
 refine hK.out _ _ ?_
 clear hK K
 refine done_ (done_of HT_.out s6q0) ?_
 try go_wp2
 first | go_roundg k3 | (refine Handed.intro k3 ?measure ?_; rotate_left; go_step; (repeat apply Exists.intro); simp only [add_plain]; refine ⟨?rel, rfl⟩)
 case measure => have := HJ6.out; have := HK2.out; have := HK3.out; omega
 case rel => exact ⟨(wrap64 (x58_3 + 1)), (y177), (.slice (some ⟨go52, 0, none⟩) x169000_3.length co56), s6q1, H', ⟨by have := HJ6.out; have := HK2.out; have := HK3.out; omega⟩, ⟨by (with_reducible repeat (first | apply Kd.R_alloc | apply Kd.R_drewN | apply Kd.R_drew)); exact Kd.R_mono (Kd.R_far (p := ⟨go52, ((ji46) : Int).toNat, none⟩) (Kd.R_types HO_14.out GG52.out (by decide)) (fun _ hk => hk.2) (.int .u8 (Go.bits .or .u8 (rd x169000_3 (ji46)) (ji51)))) (fun _ hk => trivial)⟩, ⟨by (with_reducible repeat (first | apply Kd.R_alloc | apply Kd.R_drewN | apply Kd.R_drew)); exact HQ57.out⟩, ⟨by (with_reducible repeat (first | refine blk_drewN ?_ _ | refine blk_drew ?_ | refine blk_alloc ?_ _)); refine blk_far ?_ (by have h_ := Kd.R_ne HO_169000.out BK160.out (by decide); intro e_; exact h_ (by rw [e_]; rfl)) _; (with_reducible repeat (first | refine blk_drewN ?_ _ | refine blk_drew ?_ | refine blk_alloc ?_ _)); exact BK160.out⟩, ⟨by (with_reducible repeat (first | refine blk_drewN ?_ _ | refine blk_drew ?_ | refine blk_alloc ?_ _)); refine blk_far ?_ (by have h_ := Kd.R_ne HO_169000.out BK161.out (by decide); intro e_; exact h_ (by rw [e_]; rfl)) _; (with_reducible repeat (first | refine blk_drewN ?_ _ | refine blk_drew ?_ | refine blk_alloc ?_ _)); exact BK161.out⟩, ⟨by (with_reducible repeat (first | refine blk_drewN ?_ _ | refine blk_drew ?_ | refine blk_alloc ?_ _)); refine blk_far ?_ (by have h_ := Kd.R_ne HO_169000.out BK168.out (by decide); intro e_; exact h_ (by rw [e_]; rfl)) _; (with_reducible repeat (first | refine blk_drewN ?_ _ | refine blk_drew ?_ | refine blk_alloc ?_ _)); exact BK168.out⟩, ⟨by (with_reducible repeat (first | refine blk_drewN ?_ _ | refine blk_drew ?_ | refine blk_alloc ?_ _)); refine blk_far ?_ (by have h_ := Kd.R_ne HO_169000.out BK170.out (by decide); intro e_; exact h_ (by rw [e_]; rfl)) _; (with_reducible repeat (first | refine blk_drewN ?_ _ | refine blk_drew ?_ | refine blk_alloc ?_ _)); exact BK170.out⟩, ⟨by repeat (first | (with_reducible first | exact HB.out | apply below_alloc | apply pw_below_drewN | apply below_drew1 | refine below_set ?_ GB52.out | refine below_set ?_ GE160.out | refine below_set ?_ GE161.out | refine below_set ?_ GE168.out | refine below_set ?_ GE170.out) | exact HB.out)⟩⟩
/-! ### peristyleref8_within: function 16 -/
def peristyleref8_within.f (a0 : Int) (a1 : Int) (a2 : Int) : Option (Bool) := if a0 ≥ a1 then (some (decide (a0 ≤ a2))) else (some false)
set_option maxHeartbeats 8000000 in
set_option maxRecDepth 100000 in
theorem peristyleref8_within.calls (a0 : Int) (a1 : Int) (a2 : Int) (r : Bool) (w : World) (h : peristyleref8_within.f a0 a1 a2 = some r) :
    Calls Tryd.prog 16 #[.int .i64 a0, .int .i64 a1, .int .i64 a2] w fun e w' => e = .returned (.bool r) ∧ Drawn0 w w' := by
 have H : (if a0 ≥ a1 then (some (decide (a0 ≤ a2))) else (some false)) = some r := h
 clear h
 by_cases c4 : a0 ≥ a1
 · rw [if_pos c4] at H
   have c4b0 : decide (a1 ≤ a0) = true := decide_eq_true c4
   clear c4
   obtain rfl := Option.some.inj H
   go_enter Tryd.func16, Tryd.ntmps16
   go_wp2
   go_ret
   exact ⟨by first | rfl | (simp; done) | (simp [*]; done), by repeat (first | exact Drawn0.refl _ | apply Drawn0.step)⟩
 rw [if_neg c4] at H
 have c4b0 : decide (a1 ≤ a0) = false := decide_eq_false c4
 clear c4
 obtain rfl := Option.some.inj H
 go_enter Tryd.func16, Tryd.ntmps16
 go_wp2
 go_ret
 exact ⟨by first | rfl | (simp; done) | (simp [*]; done), by repeat (first | exact Drawn0.refl _ | apply Drawn0.step)⟩
end Go.Proofs.YtgdbkhbaekeijaaDoor.F
