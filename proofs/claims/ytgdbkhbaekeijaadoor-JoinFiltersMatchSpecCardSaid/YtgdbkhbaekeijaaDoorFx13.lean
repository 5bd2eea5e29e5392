-- Printed by a program of this session (a patched print).
import Derived.Test.YtgdbkhbaekeijaaDoorFx0
import Derived.Test.YtgdbkhbaekeijaaDoorFx1
import Derived.Test.YtgdbkhbaekeijaaDoorFx4
import Derived.Test.YtgdbkhbaekeijaaDoorFx5
namespace Go.Proofs.YtgdbkhbaekeijaaDoor.F
open Go.RowKit Go.Proofs.YtgdbkhbaekeijaaDoorW.PrintWords Go.Proofs.YtgdbkhbaekeijaaDoorW.PrintLast Go.Proofs.YtgdbkhbaekeijaaDoorW.PrintMore
attribute [local go_sem] max2_int min2_int max_two min_two max_three min_three max_four min_four   -- for this text's walks alone
set_option linter.unusedVariables false
set_option linter.unusedSimpArgs false

theorem s13qm0 {p : Prop} (h : p := by repeat' first | (with_reducible exact ih0 _ _ _ _ _ _ _) | (with_reducible exact ih1 _ _ _ _ _ _ _ _ _ _ _ _) | (with_reducible exact join_checkColumns.mono _ _ _ _) | (with_reducible exact join_hash.mono _ _ _) | (with_reducible exact join_key.mono _ _ _) | (with_reducible exact LeO.refl _) | (with_reducible exact LeO.none _) | (with_reducible refine LeO.ite ?_ ?_) | (with_reducible refine LeO.bind ?_ (fun _ => ?_)) | exact ih0 _ _ _ _ _ _ _ | exact ih1 _ _ _ _ _ _ _ _ _ _ _ _ | exact join_checkColumns.mono _ _ _ _ | exact join_hash.mono _ _ _ | exact join_key.mono _ _ _ | exact LeO.none _ | refine LeO.ite ?_ ?_ | refine LeO.bind ?_ (fun _ => ?_)) : p := h
theorem s13q0 {p : Prop} (h : p := by kernel_rfl) : p := h
theorem s13q1 {p : Prop} (h : p := by first | rfl | (simp; done) | (simp [*]; done)) : p := h
theorem s13q2 {p : Prop} (h : p := by first | (with_reducible assumption) | assumption) : p := h
theorem s13q3 {p : Prop} (h : p := by (with_reducible repeat (first | apply Kd.R_alloc | apply Kd.R_drewN | apply Kd.R_drew)); exact HO_9.out) : p := h
theorem s13q4 {p : Prop} (h : p := by (with_reducible repeat (first | apply Kd.R_alloc | apply Kd.R_drewN | apply Kd.R_drew)); exact HO_12.out) : p := h
theorem s13q5 {p : Prop} (h : p := by (with_reducible repeat (first | refine blk_drewN ?_ _ | refine blk_drew ?_ | refine blk_alloc ?_ _)); exact BK254.out) : p := h
theorem s13q6 {p : Prop} (h : p := by (with_reducible repeat (first | refine blk_drewN ?_ _ | refine blk_drew ?_ | refine blk_alloc ?_ _)); exact BK255.out) : p := h
theorem s13q7 {p : Prop} (h : p := by (with_reducible repeat (first | refine blk_drewN ?_ _ | refine blk_drew ?_ | refine blk_alloc ?_ _)); exact BK260.out) : p := h
theorem s13q8 {p : Prop} (h : p := by repeat (first | (with_reducible first | exact HB.out | apply below_alloc | apply pw_below_drewN | apply below_drew1) | exact HB.out)) : p := h
theorem s13q9 {p : Prop} (h : p := by (try simp only [List.map_toArray, List.map_cons, List.map_nil]); first | done | rfl | (simp only [List.length_drop, List.length_take]; rfl)) : p := h
theorem s13q10 {p : Prop} (h : p := by repeat (first | (with_reducible first | exact HB.out | apply below_alloc | apply pw_below_drewN | apply below_drew1 | refine below_set ?_ GE254.out) | exact HB.out)) : p := h
theorem s13q11 {p : Prop} (h : p := by repeat (first | (with_reducible first | exact HB.out | apply below_alloc | apply pw_below_drewN | apply below_drew1 | refine below_set ?_ GE254.out | refine below_set ?_ GE255.out) | exact HB.out)) : p := h
theorem s13q12 {p : Prop} (h : p := by repeat (first | (with_reducible first | exact HB.out | apply below_alloc | apply pw_below_drewN | apply below_drew1 | refine below_set ?_ GE254.out | refine below_set ?_ GE255.out | refine below_set ?_ GE260.out) | exact HB.out)) : p := h
theorem s13q13 {p : Prop} (h : p := by rw [hg]; exact (below_size s13q8)) : p := h
theorem s13q14 {p : Prop} (h : p := by rw [hg]; exact (below_size s13q10)) : p := h
theorem s13q15 {p : Prop} (h : p := by rw [hg]; exact Nat.ne_of_gt (blk_lt (g := gb254) (o := .cells #[.slice A0_0 l0_0.length c0_0, .slice A0_1 l0_1.length c0_1] 25 (0, 0)) s13q5)) : p := h
theorem s13q16 {p : Prop} (h : p := by rw [hg]; exact Nat.ne_of_lt (blk_lt (g := gb254) (o := .cells #[.slice A0_0 l0_0.length c0_0, .slice A0_1 l0_1.length c0_1] 25 (0, 0)) s13q5)) : p := h
theorem s13q17 {p : Prop} (h : p := by rw [if_neg (show ¬ (false = true) by decide)] at H; exact H) : p := h
theorem s13q18 {p : Prop} (h : p := by rw [if_pos rfl] at H; exact H) : p := h
/-! ### join_Kept: function 7 -/
mutual
def join_Kept.l0 : Nat → List Int → List Int → List (S43) → Int → Int → List Int → Int → Option (List Int × Int)
  | 0, _, _, _, _, _, _, _ => none
  | k + 1, x1, x9, x32, x33, x34, x256000, x256001 => if x34 < x33 then (if 0 ≤ x34 then (if x34 < (x32.length : Int) then ((join_key.f k ((rd_T43 x32 x34).f0) x1).bind fun bt261 => (join_Kept.l1 k x1 x9 x34 bt261.1 bt261.2 x32 x33 x34 x256001 0 x256000 x256001)) else (none)) else (none)) else (some (x9, 0))
def join_Kept.l1 : Nat → List Int → List Int → Int → List (S54) → Bool → List (S43) → Int → Int → Int → Int → List Int → Int → Option (List Int × Int)
  | 0, _, _, _, _, _, _, _, _, _, _, _, _ => none
  | k + 1, x1, x9, x10, x12, x13, x32, x33, x34, x46, x47, x256000, x256001 => if x47 < x46 then ((join_hash.f k x12 x47).bind fun t265 => (if (wrap64 (8 * (x256000.length : Int))) = 0 then (none) else (if x13 = true then (if 0 ≤ (wrap64 (Int.tdiv (Int.tmod t265 (wrap64 (8 * (x256000.length : Int)))) 8)) then (if (wrap64 (Int.tdiv (Int.tmod t265 (wrap64 (8 * (x256000.length : Int)))) 8)) < (x256000.length : Int) then (if 0 ≤ (Int.tmod (Int.tmod t265 (wrap64 (8 * (x256000.length : Int)))) 8) then (join_Kept.l1 k x1 x9 x10 x12 ((Go.bits .and .u8 (shr .u8 (rd x256000 (wrap64 (Int.tdiv (Int.tmod t265 (wrap64 (8 * (x256000.length : Int)))) 8))) (Int.tmod (Int.tmod t265 (wrap64 (8 * (x256000.length : Int)))) 8)) 1) == 1) x32 x33 x34 x46 (wrap64 (x47 + 1)) x256000 x256001) else (none)) else (none)) else (none)) else (join_Kept.l1 k x1 x9 x10 x12 false x32 x33 x34 x46 (wrap64 (x47 + 1)) x256000 x256001)))) else (if x13 = true then (if x9.length < 17592186044416 then (join_Kept.l0 k x1 (x9 ++ [x10]) x32 x33 (wrap64 (x34 + 1)) x256000 x256001) else (none)) else (join_Kept.l0 k x1 x9 x32 x33 (wrap64 (x34 + 1)) x256000 x256001))
end
def join_Kept.f (k : Nat) (l0_0 : List (S69)) (l0_1 : List (S43)) (l1 : List Int) (l2_0 : List Int) (a2_1 : Int) : Option (List Int × Int) := (join_checkColumns.f k l0_0 l0_1 l1).bind fun t256 => (if t256 = 0 then ((kit_In.f (l2_0.length : Int) 1 8192).bind fun t257 => (if t257 = true then ((kit_In.f a2_1 1 5).bind fun t258 => (if t258 = true then (join_Kept.l0 k l1 ([] : List Int) l0_1 (l0_1.length : Int) 0 l2_0 a2_1) else (some (([] : List Int), 1)))) else (some (([] : List Int), 3)))) else (some (([] : List Int), t256)))
theorem join_Kept.mono_l : ∀ k, (∀ y0 y1 y2 y3 y4 y5 y6, LeO (join_Kept.l0 k y0 y1 y2 y3 y4 y5 y6) (join_Kept.l0 (k + 1) y0 y1 y2 y3 y4 y5 y6)) ∧ (∀ y0 y1 y2 y3 y4 y5 y6 y7 y8 y9 y10 y11, LeO (join_Kept.l1 k y0 y1 y2 y3 y4 y5 y6 y7 y8 y9 y10 y11) (join_Kept.l1 (k + 1) y0 y1 y2 y3 y4 y5 y6 y7 y8 y9 y10 y11))
  | 0 => ⟨fun _ _ _ _ _ _ _ r h => by simp [join_Kept.l0] at h, fun _ _ _ _ _ _ _ _ _ _ _ _ r h => by simp [join_Kept.l1] at h⟩
  | k + 1 => by
    obtain ⟨ih0, ih1⟩ := join_Kept.mono_l k
    refine ⟨?_, ?_⟩
    · intro y0 y1 y2 y3 y4 y5 y6
      unfold join_Kept.l0
      exact s13qm0
    · intro y0 y1 y2 y3 y4 y5 y6 y7 y8 y9 y10 y11
      unfold join_Kept.l1
      exact s13qm0
theorem join_Kept.mono : ∀ a0 a1 a2 a3 a4 k, LeO (join_Kept.f k a0 a1 a2 a3 a4) (join_Kept.f (k + 1) a0 a1 a2 a3 a4) := by
 intro a0 a1 a2 a3 a4 k
 obtain ⟨ih0, ih1⟩ := join_Kept.mono_l k
 unfold join_Kept.f
 repeat' first
  | (with_reducible exact ih0 _ _ _ _ _ _ _)
  | (with_reducible exact ih1 _ _ _ _ _ _ _ _ _ _ _ _)
  | (with_reducible exact join_checkColumns.mono _ _ _ _)
  | (with_reducible exact join_hash.mono _ _ _)
  | (with_reducible exact join_key.mono _ _ _)
  | (with_reducible exact LeO.refl _)
  | (with_reducible exact LeO.none _)
  | (with_reducible refine LeO.ite ?_ ?_)
  | (with_reducible refine LeO.bind ?_ (fun _ => ?_))
  | exact ih0 _ _ _ _ _ _ _
  | exact ih1 _ _ _ _ _ _ _ _ _ _ _ _
  | exact join_checkColumns.mono _ _ _ _
  | exact join_hash.mono _ _ _
  | exact join_key.mono _ _ _
  | exact LeO.none _
  | refine LeO.ite ?_ ?_
  | refine LeO.bind ?_ (fun _ => ?_)
def join_Kept.T16 : Bool × List (List Nat × List Nat) := (true, [([], []), ([], []), ([0, 1], [0, 1]), ([], []), ([3], [3]), ([4], [4]), ([5], [5]), ([2, 6], [2, 6]), ([7, 2, 0, 1, 2, 3, 4, 5, 6, 7], [7])])
def join_Kept.B16 : List Nat := [0, 0, 3, 0, 8, 24, 56, 127, 255]
theorem join_Kept.tab16 : rtab .any (opsOf Tryd.f7 16) = join_Kept.T16 := by kernel_rfl
theorem join_Kept.bits16 : waitsOk join_Kept.T16.2 join_Kept.B16 = true := by kernel_rfl
set_option maxHeartbeats 8000000 in
set_option maxRecDepth 100000 in
theorem join_Kept.calls (k : Nat) (A0_0 : Option Addr) (c0_0 : Nat) (l0_0 : List (S69)) (A0_1 : Option Addr) (c0_1 : Nat) (l0_1 : List (S43)) (A1 : Option Addr) (c1 : Nat) (l1 : List Int) (A2_0 : Option Addr) (c2_0 : Nat) (l2_0 : List Int) (a2_1 : Int) (r1 : List Int) (r2 : Int) (w : World) (hr0_0 : Kd.C k69 w A0_0 l0_0.length l0_0) (hc0_0 : l0_0.length ≤ c0_0) (hr0_1 : Kd.C k43 w A0_1 l0_1.length l0_1) (hc0_1 : l0_1.length ≤ c0_1) (hr1 : Kd.C (Kd.int .i64) w A1 l1.length l1) (hc1 : l1.length ≤ c1) (hr2_0 : Kd.C (Kd.int .u8) w A2_0 l2_0.length l2_0) (hc2_0 : l2_0.length ≤ c2_0) (hG : Glob w) (h : join_Kept.f k l0_0 l0_1 l1 l2_0 a2_1 = some (r1, r2)) :
    Calls Tryd.prog 7 #[.agg #[.slice A0_0 l0_0.length c0_0, .slice A0_1 l0_1.length c0_1], .slice A1 l1.length c1, .agg #[.slice A2_0 l2_0.length c2_0, .int .i64 a2_1]] w fun e w' => ∃ v0_ : Value, e = .returned (.tuple #[v0_, .int .i64 r2]) ∧ Kd.R (Kd.int .i64) 3 w' w.heap.size (fun _ => True) v0_ r1 ∧ Below w.heap.size w w' := by
 have hu25 := Tryd.underlying25
 have hu29 := Tryd.underlying29
 have hu43 := Tryd.underlying43
 have HG := Aside0.mk hG
 clear hG
 have HR0_0 := Aside0.mk hr0_0
 have HC0_0 := Aside0.mk hc0_0
 clear hr0_0 hc0_0
 have HR0_1 := Aside0.mk hr0_1
 have HC0_1 := Aside0.mk hc0_1
 clear hr0_1 hc0_1
 have HR1 := Aside0.mk hr1
 have HC1 := Aside0.mk hc1
 clear hr1 hc1
 have HR2_0 := Aside0.mk hr2_0
 have HC2_0 := Aside0.mk hc2_0
 clear hr2_0 hc2_0
 have HB := Aside0.mk (Below.refl w.heap.size w)
 have H : ((join_checkColumns.f k l0_0 l0_1 l1).bind fun t256 => (if t256 = 0 then ((kit_In.f (l2_0.length : Int) 1 8192).bind fun t257 => (if t257 = true then ((kit_In.f a2_1 1 5).bind fun t258 => (if t258 = true then (join_Kept.l0 k l1 ([] : List Int) l0_1 (l0_1.length : Int) 0 l2_0 a2_1) else (some (([] : List Int), 1)))) else (some (([] : List Int), 3)))) else (some (([] : List Int), t256)))) = some (r1, r2) := h
 clear h
 replace H := Option.bind_eq_some_iff.mp H
 obtain ⟨t256, A40, H⟩ := H
 replace H : (if t256 = 0 then ((kit_In.f (l2_0.length : Int) 1 8192).bind fun t257 => (if t257 = true then ((kit_In.f a2_1 1 5).bind fun t258 => (if t258 = true then (join_Kept.l0 k l1 ([] : List Int) l0_1 (l0_1.length : Int) 0 l2_0 a2_1) else (some (([] : List Int), 1)))) else (some (([] : List Int), 3)))) else (some (([] : List Int), t256))) = some (r1, r2) := H
 have A4 := Aside0.mk A40
 clear A40
 by_cases c5 : t256 = 0
 case neg =>
  rw [if_neg c5] at H
  have c5b0 : (t256 == 0) = false := beq_eq_false_iff_ne.mpr c5
  have c5b1 : (t256 != 0) = true := bne_iff_ne.mpr c5
  simp only [Option.some.injEq, Prod.mk.injEq] at H
  obtain ⟨rfl, rfl⟩ := H
  go_enter Tryd.func7, Tryd.ntmps7
  go_wp2_with (first | ((with_reducible refine gate_dst (N := 3) rfl ?_); refine box_event ?hg (N := 3) ?hd (cs := #[.slice A0_0 l0_0.length c0_0, .slice A0_1 l0_1.length c0_1]) (t := 25) ?hr ?_; (case hd => rfl); (case hg => rfl); (case hr => first | (go_simp; done) | (go_simp; rfl)); intro gb254 hg w62 hbox hb; have n0_ := Aside0.mk (below_step s13q8 hb); have n1_ := Aside0.mk (hbox); have n2_ := Aside0.mk ((s13q13 : w.heap.size ≤ gb254)); have n3_ := Aside0.mk ((s13q13 : w.heap.size ≤ gb254)); clear HB; have HB := n0_; have BK254 := n1_; have GW254 := n2_; have GE254 := n3_; clear n0_ n1_ n2_ n3_; clear hb hbox hg) | ((with_reducible refine gate_dst (N := 5) rfl ?_); refine box_event ?hg (N := 5) ?hd (cs := #[.slice A2_0 l2_0.length c2_0, .int .i64 a2_1]) (t := 29) ?hr ?_; (case hd => rfl); (case hg => rfl); (case hr => first | (go_simp; done) | (go_simp; rfl)); intro gb255 hg w63 hbox hb; have n0_ := Aside0.mk (blk_below (g := gb254) (o := .cells #[.slice A0_0 l0_0.length c0_0, .slice A0_1 l0_1.length c0_1] 25 (0, 0)) s13q5 hb); have n1_ := Aside0.mk (below_step s13q10 hb); have n2_ := Aside0.mk (hbox); have n3_ := Aside0.mk ((s13q14 : w.heap.size ≤ gb255)); have n4_ := Aside0.mk ((s13q14 : w.heap.size ≤ gb255)); have n5_ := Aside0.mk ((s13q16 : gb254 ≠ gb255)); have n6_ := Aside0.mk ((s13q15 : gb255 ≠ gb254)); clear BK254; clear HB; have BK254 := n0_; have HB := n1_; have BK255 := n2_; have GW255 := n3_; have GE255 := n4_; have NB254_255 := n5_; have NB255_254 := n6_; clear n0_ n1_ n2_ n3_ n4_ n5_ n6_; clear hb hbox hg; have hnb64 := NB254_255.out; have hnc64 := NB255_254.out; have hcz65_0 : w63.cell? ⟨gb254, 0, none⟩ = some (.slice A0_0 l0_0.length c0_0) := (blk_cell BK254.out 0).trans rfl; have hcz65_1 : w63.cell? ⟨gb254, 1, none⟩ = some (.slice A0_1 l0_1.length c0_1) := (blk_cell BK254.out 1).trans rfl; have hfz65_0 := blk_frozen BK254.out 0; have hfz65_1 := blk_frozen BK254.out 1) | ((with_reducible refine gate_callee (f := 11) rfl ?_); refine goesL_ (some 18) rfl rfl Tryd.func11 s13q0 rfl #[.agg #[.slice A0_0 l0_0.length c0_0, .slice A0_1 l0_1.length c0_1], .slice A1 l1.length c1] rfl s13q9 ?_; (with_reducible refine (join_checkColumns.calls k _ _ l0_0 _ _ l0_1 _ _ l1 t256 _ ?side1 ?side2 ?side3 ?side4 ?side5 ?side6 A4.out).mono ?_); (case side1 => repeat (first | exact (Kd.C_below HR0_0.out HB.out) | (with_reducible refine Kd.C_alloc ?_ _) | (with_reducible refine Kd.C_drewN ?_ _) | (with_reducible refine Kd.C_drew ?_))); (case side2 => exact HC0_0.out); (case side3 => repeat (first | exact (Kd.C_below HR0_1.out HB.out) | (with_reducible refine Kd.C_alloc ?_ _) | (with_reducible refine Kd.C_drewN ?_ _) | (with_reducible refine Kd.C_drew ?_))); (case side4 => exact HC0_1.out); (case side5 => repeat (first | exact (Kd.C_below HR1.out HB.out) | (with_reducible refine Kd.C_alloc ?_ _) | (with_reducible refine Kd.C_drewN ?_ _) | (with_reducible refine Kd.C_drew ?_))); (case side6 => exact HC1.out); rintro e w66 ⟨rfl, hb⟩; refine ⟨_, rfl, ?_⟩; have n0_ := Aside0.mk (blk_below (g := gb254) (o := .cells #[.slice A0_0 l0_0.length c0_0, .slice A0_1 l0_1.length c0_1] 25 (0, 0)) s13q5 hb); have n1_ := Aside0.mk (blk_below (g := gb255) (o := .cells #[.slice A2_0 l2_0.length c2_0, .int .i64 a2_1] 29 (0, 0)) s13q6 hb); have n2_ := Aside0.mk (below_step s13q11 hb); clear BK254; clear BK255; clear HB; have BK254 := n0_; have BK255 := n1_; have HB := n2_; clear n0_ n1_ n2_; (try clear hb); (try clear hb2); (try clear hk); (try clear hi)))
  go_ret2
  exact ⟨_, by first | rfl | (simp [errW_none, errW_some] <;> rfl) | (simp [*, errW_none, errW_some] <;> rfl), by first | exact Kd.R_nil _ _ _ _ _ | exact Kd.N_nil _ _ _ _ _ | exact Kd.V_nil _ _ _ _ _ | exact Kd.Q_nil _ _ _ _ _ | exact Kd.S_nil _ _ _ _ _, by repeat (first | (with_reducible first | exact HB.out | apply below_alloc | apply pw_below_drewN | apply below_drew1 | refine below_set ?_ GE254.out | refine below_set ?_ GE255.out) | exact HB.out)⟩
 rw [if_pos c5] at H
 have c5b0 : (t256 == 0) = true := beq_iff_eq.mpr c5
 have c5b1 : (t256 != 0) = false := bne_eq_false_iff_eq.mpr c5
 clear c5
 replace H := Option.bind_eq_some_iff.mp H
 obtain ⟨t257, A60, H⟩ := H
 replace H : (if t257 = true then ((kit_In.f a2_1 1 5).bind fun t258 => (if t258 = true then (join_Kept.l0 k l1 ([] : List Int) l0_1 (l0_1.length : Int) 0 l2_0 a2_1) else (some (([] : List Int), 1)))) else (some (([] : List Int), 3))) = some (r1, r2) := H
 have A6 := Aside0.mk A60
 clear A60
 by_cases c7 : t257 = true
 case neg =>
  replace c7 := Bool.eq_false_iff.mpr c7
  subst c7
  have H1 : (some (([] : List Int), 3)) = some (r1, r2) := s13q17
  clear H
  have H := H1
  clear H1
  simp only [Option.some.injEq, Prod.mk.injEq] at H
  obtain ⟨rfl, rfl⟩ := H
  go_enter Tryd.func7, Tryd.ntmps7
  go_wp2_with (first | ((with_reducible refine gate_dst (N := 3) rfl ?_); refine box_event ?hg (N := 3) ?hd (cs := #[.slice A0_0 l0_0.length c0_0, .slice A0_1 l0_1.length c0_1]) (t := 25) ?hr ?_; (case hd => rfl); (case hg => rfl); (case hr => first | (go_simp; done) | (go_simp; rfl)); intro gb254 hg w56 hbox hb; have n0_ := Aside0.mk (below_step s13q8 hb); have n1_ := Aside0.mk (hbox); have n2_ := Aside0.mk ((s13q13 : w.heap.size ≤ gb254)); have n3_ := Aside0.mk ((s13q13 : w.heap.size ≤ gb254)); clear HB; have HB := n0_; have BK254 := n1_; have GW254 := n2_; have GE254 := n3_; clear n0_ n1_ n2_ n3_; clear hb hbox hg) | ((with_reducible refine gate_dst (N := 5) rfl ?_); refine box_event ?hg (N := 5) ?hd (cs := #[.slice A2_0 l2_0.length c2_0, .int .i64 a2_1]) (t := 29) ?hr ?_; (case hd => rfl); (case hg => rfl); (case hr => first | (go_simp; done) | (go_simp; rfl)); intro gb255 hg w57 hbox hb; have n0_ := Aside0.mk (blk_below (g := gb254) (o := .cells #[.slice A0_0 l0_0.length c0_0, .slice A0_1 l0_1.length c0_1] 25 (0, 0)) s13q5 hb); have n1_ := Aside0.mk (below_step s13q10 hb); have n2_ := Aside0.mk (hbox); have n3_ := Aside0.mk ((s13q14 : w.heap.size ≤ gb255)); have n4_ := Aside0.mk ((s13q14 : w.heap.size ≤ gb255)); have n5_ := Aside0.mk ((s13q16 : gb254 ≠ gb255)); have n6_ := Aside0.mk ((s13q15 : gb255 ≠ gb254)); clear BK254; clear HB; have BK254 := n0_; have HB := n1_; have BK255 := n2_; have GW255 := n3_; have GE255 := n4_; have NB254_255 := n5_; have NB255_254 := n6_; clear n0_ n1_ n2_ n3_ n4_ n5_ n6_; clear hb hbox hg; have hnb58 := NB254_255.out; have hnc58 := NB255_254.out; have hcz59_0 : w57.cell? ⟨gb254, 0, none⟩ = some (.slice A0_0 l0_0.length c0_0) := (blk_cell BK254.out 0).trans rfl; have hcz59_1 : w57.cell? ⟨gb254, 1, none⟩ = some (.slice A0_1 l0_1.length c0_1) := (blk_cell BK254.out 1).trans rfl; have hfz59_0 := blk_frozen BK254.out 0; have hfz59_1 := blk_frozen BK254.out 1) | ((with_reducible refine gate_callee (f := 11) rfl ?_); refine goesL_ (some 18) rfl rfl Tryd.func11 s13q0 rfl #[.agg #[.slice A0_0 l0_0.length c0_0, .slice A0_1 l0_1.length c0_1], .slice A1 l1.length c1] rfl s13q9 ?_; (with_reducible refine (join_checkColumns.calls k _ _ l0_0 _ _ l0_1 _ _ l1 t256 _ ?side1 ?side2 ?side3 ?side4 ?side5 ?side6 A4.out).mono ?_); (case side1 => repeat (first | exact (Kd.C_below HR0_0.out HB.out) | (with_reducible refine Kd.C_alloc ?_ _) | (with_reducible refine Kd.C_drewN ?_ _) | (with_reducible refine Kd.C_drew ?_))); (case side2 => exact HC0_0.out); (case side3 => repeat (first | exact (Kd.C_below HR0_1.out HB.out) | (with_reducible refine Kd.C_alloc ?_ _) | (with_reducible refine Kd.C_drewN ?_ _) | (with_reducible refine Kd.C_drew ?_))); (case side4 => exact HC0_1.out); (case side5 => repeat (first | exact (Kd.C_below HR1.out HB.out) | (with_reducible refine Kd.C_alloc ?_ _) | (with_reducible refine Kd.C_drewN ?_ _) | (with_reducible refine Kd.C_drew ?_))); (case side6 => exact HC1.out); rintro e w60 ⟨rfl, hb⟩; refine ⟨_, rfl, ?_⟩; have n0_ := Aside0.mk (blk_below (g := gb254) (o := .cells #[.slice A0_0 l0_0.length c0_0, .slice A0_1 l0_1.length c0_1] 25 (0, 0)) s13q5 hb); have n1_ := Aside0.mk (blk_below (g := gb255) (o := .cells #[.slice A2_0 l2_0.length c2_0, .int .i64 a2_1] 29 (0, 0)) s13q6 hb); have n2_ := Aside0.mk (below_step s13q11 hb); clear BK254; clear BK255; clear HB; have BK254 := n0_; have BK255 := n1_; have HB := n2_; clear n0_ n1_ n2_; (try clear hb); (try clear hb2); (try clear hk); (try clear hi); have hcz61_0 : w60.cell? ⟨gb255, 0, none⟩ = some (.slice A2_0 l2_0.length c2_0) := (blk_cell BK255.out 0).trans rfl; have hcz61_1 : w60.cell? ⟨gb255, 1, none⟩ = some (.int .i64 a2_1) := (blk_cell BK255.out 1).trans rfl; have hfz61_0 := blk_frozen BK255.out 0; have hfz61_1 := blk_frozen BK255.out 1) | ((with_reducible refine gate_callee (f := 12) rfl ?_); refine goesL_ (some 25) rfl rfl Tryd.func12 s13q0 rfl #[.int .i64 (l2_0.length : Int), .int .i64 1, .int .i64 8192] rfl s13q9 ?_; (with_reducible refine (kit_In.calls (l2_0.length : Int) 1 8192 false _ A6.out).mono ?_); rintro e w' ⟨rfl, ⟨nd, rfl⟩⟩; refine ⟨_, rfl, ?_⟩))
  go_ret2
  exact ⟨_, by first | rfl | (simp [errW_none, errW_some] <;> rfl) | (simp [*, errW_none, errW_some] <;> rfl), by first | exact Kd.R_nil _ _ _ _ _ | exact Kd.N_nil _ _ _ _ _ | exact Kd.V_nil _ _ _ _ _ | exact Kd.Q_nil _ _ _ _ _ | exact Kd.S_nil _ _ _ _ _, by repeat (first | (with_reducible first | exact HB.out | apply below_alloc | apply pw_below_drewN | apply below_drew1 | refine below_set ?_ GE254.out | refine below_set ?_ GE255.out) | exact HB.out)⟩
 subst c7
 have H1 : ((kit_In.f a2_1 1 5).bind fun t258 => (if t258 = true then (join_Kept.l0 k l1 ([] : List Int) l0_1 (l0_1.length : Int) 0 l2_0 a2_1) else (some (([] : List Int), 1)))) = some (r1, r2) := s13q18
 clear H
 have H := H1
 clear H1
 replace H := Option.bind_eq_some_iff.mp H
 obtain ⟨t258, A80, H⟩ := H
 replace H : (if t258 = true then (join_Kept.l0 k l1 ([] : List Int) l0_1 (l0_1.length : Int) 0 l2_0 a2_1) else (some (([] : List Int), 1))) = some (r1, r2) := H
 have A8 := Aside0.mk A80
 clear A80
 by_cases c9 : t258 = true
 case neg =>
  replace c9 := Bool.eq_false_iff.mpr c9
  subst c9
  have H1 : (some (([] : List Int), 1)) = some (r1, r2) := s13q17
  clear H
  have H := H1
  clear H1
  simp only [Option.some.injEq, Prod.mk.injEq] at H
  obtain ⟨rfl, rfl⟩ := H
  go_enter Tryd.func7, Tryd.ntmps7
  go_wp2_with (first | ((with_reducible refine gate_dst (N := 3) rfl ?_); refine box_event ?hg (N := 3) ?hd (cs := #[.slice A0_0 l0_0.length c0_0, .slice A0_1 l0_1.length c0_1]) (t := 25) ?hr ?_; (case hd => rfl); (case hg => rfl); (case hr => first | (go_simp; done) | (go_simp; rfl)); intro gb254 hg w50 hbox hb; have n0_ := Aside0.mk (below_step s13q8 hb); have n1_ := Aside0.mk (hbox); have n2_ := Aside0.mk ((s13q13 : w.heap.size ≤ gb254)); have n3_ := Aside0.mk ((s13q13 : w.heap.size ≤ gb254)); clear HB; have HB := n0_; have BK254 := n1_; have GW254 := n2_; have GE254 := n3_; clear n0_ n1_ n2_ n3_; clear hb hbox hg) | ((with_reducible refine gate_dst (N := 5) rfl ?_); refine box_event ?hg (N := 5) ?hd (cs := #[.slice A2_0 l2_0.length c2_0, .int .i64 a2_1]) (t := 29) ?hr ?_; (case hd => rfl); (case hg => rfl); (case hr => first | (go_simp; done) | (go_simp; rfl)); intro gb255 hg w51 hbox hb; have n0_ := Aside0.mk (blk_below (g := gb254) (o := .cells #[.slice A0_0 l0_0.length c0_0, .slice A0_1 l0_1.length c0_1] 25 (0, 0)) s13q5 hb); have n1_ := Aside0.mk (below_step s13q10 hb); have n2_ := Aside0.mk (hbox); have n3_ := Aside0.mk ((s13q14 : w.heap.size ≤ gb255)); have n4_ := Aside0.mk ((s13q14 : w.heap.size ≤ gb255)); have n5_ := Aside0.mk ((s13q16 : gb254 ≠ gb255)); have n6_ := Aside0.mk ((s13q15 : gb255 ≠ gb254)); clear BK254; clear HB; have BK254 := n0_; have HB := n1_; have BK255 := n2_; have GW255 := n3_; have GE255 := n4_; have NB254_255 := n5_; have NB255_254 := n6_; clear n0_ n1_ n2_ n3_ n4_ n5_ n6_; clear hb hbox hg; have hnb52 := NB254_255.out; have hnc52 := NB255_254.out; have hcz53_0 : w51.cell? ⟨gb254, 0, none⟩ = some (.slice A0_0 l0_0.length c0_0) := (blk_cell BK254.out 0).trans rfl; have hcz53_1 : w51.cell? ⟨gb254, 1, none⟩ = some (.slice A0_1 l0_1.length c0_1) := (blk_cell BK254.out 1).trans rfl; have hfz53_0 := blk_frozen BK254.out 0; have hfz53_1 := blk_frozen BK254.out 1) | ((with_reducible refine gate_callee (f := 11) rfl ?_); refine goesL_ (some 18) rfl rfl Tryd.func11 s13q0 rfl #[.agg #[.slice A0_0 l0_0.length c0_0, .slice A0_1 l0_1.length c0_1], .slice A1 l1.length c1] rfl s13q9 ?_; (with_reducible refine (join_checkColumns.calls k _ _ l0_0 _ _ l0_1 _ _ l1 t256 _ ?side1 ?side2 ?side3 ?side4 ?side5 ?side6 A4.out).mono ?_); (case side1 => repeat (first | exact (Kd.C_below HR0_0.out HB.out) | (with_reducible refine Kd.C_alloc ?_ _) | (with_reducible refine Kd.C_drewN ?_ _) | (with_reducible refine Kd.C_drew ?_))); (case side2 => exact HC0_0.out); (case side3 => repeat (first | exact (Kd.C_below HR0_1.out HB.out) | (with_reducible refine Kd.C_alloc ?_ _) | (with_reducible refine Kd.C_drewN ?_ _) | (with_reducible refine Kd.C_drew ?_))); (case side4 => exact HC0_1.out); (case side5 => repeat (first | exact (Kd.C_below HR1.out HB.out) | (with_reducible refine Kd.C_alloc ?_ _) | (with_reducible refine Kd.C_drewN ?_ _) | (with_reducible refine Kd.C_drew ?_))); (case side6 => exact HC1.out); rintro e w54 ⟨rfl, hb⟩; refine ⟨_, rfl, ?_⟩; have n0_ := Aside0.mk (blk_below (g := gb254) (o := .cells #[.slice A0_0 l0_0.length c0_0, .slice A0_1 l0_1.length c0_1] 25 (0, 0)) s13q5 hb); have n1_ := Aside0.mk (blk_below (g := gb255) (o := .cells #[.slice A2_0 l2_0.length c2_0, .int .i64 a2_1] 29 (0, 0)) s13q6 hb); have n2_ := Aside0.mk (below_step s13q11 hb); clear BK254; clear BK255; clear HB; have BK254 := n0_; have BK255 := n1_; have HB := n2_; clear n0_ n1_ n2_; (try clear hb); (try clear hb2); (try clear hk); (try clear hi); have hcz55_0 : w54.cell? ⟨gb255, 0, none⟩ = some (.slice A2_0 l2_0.length c2_0) := (blk_cell BK255.out 0).trans rfl; have hcz55_1 : w54.cell? ⟨gb255, 1, none⟩ = some (.int .i64 a2_1) := (blk_cell BK255.out 1).trans rfl; have hfz55_0 := blk_frozen BK255.out 0; have hfz55_1 := blk_frozen BK255.out 1) | ((with_reducible refine gate_callee (f := 12) rfl ?_); refine goesL_ (some 25) rfl rfl Tryd.func12 s13q0 rfl #[.int .i64 (l2_0.length : Int), .int .i64 1, .int .i64 8192] rfl s13q9 ?_; (with_reducible refine (kit_In.calls (l2_0.length : Int) 1 8192 true _ A6.out).mono ?_); rintro e w' ⟨rfl, ⟨nd, rfl⟩⟩; refine ⟨_, rfl, ?_⟩) | ((with_reducible refine gate_callee (f := 12) rfl ?_); refine goesL_ (some 29) rfl rfl Tryd.func12 s13q0 rfl #[.int .i64 a2_1, .int .i64 1, .int .i64 5] rfl s13q9 ?_; (with_reducible refine (kit_In.calls a2_1 1 5 false _ A8.out).mono ?_); rintro e w' ⟨rfl, ⟨nd, rfl⟩⟩; refine ⟨_, rfl, ?_⟩))
  go_ret2
  exact ⟨_, by first | rfl | (simp [errW_none, errW_some] <;> rfl) | (simp [*, errW_none, errW_some] <;> rfl), by first | exact Kd.R_nil _ _ _ _ _ | exact Kd.N_nil _ _ _ _ _ | exact Kd.V_nil _ _ _ _ _ | exact Kd.Q_nil _ _ _ _ _ | exact Kd.S_nil _ _ _ _ _, by repeat (first | (with_reducible first | exact HB.out | apply below_alloc | apply pw_below_drewN | apply below_drew1 | refine below_set ?_ GE254.out | refine below_set ?_ GE255.out) | exact HB.out)⟩
 subst c9
 have H1 : (join_Kept.l0 k l1 ([] : List Int) l0_1 (l0_1.length : Int) 0 l2_0 a2_1) = some (r1, r2) := s13q18
 clear H
 have H := H1
 clear H1
 have H' := Aside0.mk H
 clear H
 go_enter Tryd.func7, Tryd.ntmps7
 go_wp2_with (first | ((with_reducible refine gate_dst (N := 3) rfl ?_); refine box_event ?hg (N := 3) ?hd (cs := #[.slice A0_0 l0_0.length c0_0, .slice A0_1 l0_1.length c0_1]) (t := 25) ?hr ?_; (case hd => rfl); (case hg => rfl); (case hr => first | (go_simp; done) | (go_simp; rfl)); intro gb254 hg w10 hbox hb; have n0_ := Aside0.mk (below_step s13q8 hb); have n1_ := Aside0.mk (hbox); have n2_ := Aside0.mk ((s13q13 : w.heap.size ≤ gb254)); have n3_ := Aside0.mk ((s13q13 : w.heap.size ≤ gb254)); clear HB; have HB := n0_; have BK254 := n1_; have GW254 := n2_; have GE254 := n3_; clear n0_ n1_ n2_ n3_; clear hb hbox hg) | ((with_reducible refine gate_dst (N := 5) rfl ?_); refine box_event ?hg (N := 5) ?hd (cs := #[.slice A2_0 l2_0.length c2_0, .int .i64 a2_1]) (t := 29) ?hr ?_; (case hd => rfl); (case hg => rfl); (case hr => first | (go_simp; done) | (go_simp; rfl)); intro gb255 hg w11 hbox hb; have n0_ := Aside0.mk (blk_below (g := gb254) (o := .cells #[.slice A0_0 l0_0.length c0_0, .slice A0_1 l0_1.length c0_1] 25 (0, 0)) s13q5 hb); have n1_ := Aside0.mk (below_step s13q10 hb); have n2_ := Aside0.mk (hbox); have n3_ := Aside0.mk ((s13q14 : w.heap.size ≤ gb255)); have n4_ := Aside0.mk ((s13q14 : w.heap.size ≤ gb255)); have n5_ := Aside0.mk ((s13q16 : gb254 ≠ gb255)); have n6_ := Aside0.mk ((s13q15 : gb255 ≠ gb254)); clear BK254; clear HB; have BK254 := n0_; have HB := n1_; have BK255 := n2_; have GW255 := n3_; have GE255 := n4_; have NB254_255 := n5_; have NB255_254 := n6_; clear n0_ n1_ n2_ n3_ n4_ n5_ n6_; clear hb hbox hg; have hnb12 := NB254_255.out; have hnc12 := NB255_254.out; have hcz13_0 : w11.cell? ⟨gb254, 0, none⟩ = some (.slice A0_0 l0_0.length c0_0) := (blk_cell BK254.out 0).trans rfl; have hcz13_1 : w11.cell? ⟨gb254, 1, none⟩ = some (.slice A0_1 l0_1.length c0_1) := (blk_cell BK254.out 1).trans rfl; have hfz13_0 := blk_frozen BK254.out 0; have hfz13_1 := blk_frozen BK254.out 1) | ((with_reducible refine gate_callee (f := 11) rfl ?_); refine goesL_ (some 18) rfl rfl Tryd.func11 s13q0 rfl #[.agg #[.slice A0_0 l0_0.length c0_0, .slice A0_1 l0_1.length c0_1], .slice A1 l1.length c1] rfl s13q9 ?_; (with_reducible refine (join_checkColumns.calls k _ _ l0_0 _ _ l0_1 _ _ l1 t256 _ ?side1 ?side2 ?side3 ?side4 ?side5 ?side6 A4.out).mono ?_); (case side1 => repeat (first | exact (Kd.C_below HR0_0.out HB.out) | (with_reducible refine Kd.C_alloc ?_ _) | (with_reducible refine Kd.C_drewN ?_ _) | (with_reducible refine Kd.C_drew ?_))); (case side2 => exact HC0_0.out); (case side3 => repeat (first | exact (Kd.C_below HR0_1.out HB.out) | (with_reducible refine Kd.C_alloc ?_ _) | (with_reducible refine Kd.C_drewN ?_ _) | (with_reducible refine Kd.C_drew ?_))); (case side4 => exact HC0_1.out); (case side5 => repeat (first | exact (Kd.C_below HR1.out HB.out) | (with_reducible refine Kd.C_alloc ?_ _) | (with_reducible refine Kd.C_drewN ?_ _) | (with_reducible refine Kd.C_drew ?_))); (case side6 => exact HC1.out); rintro e w14 ⟨rfl, hb⟩; refine ⟨_, rfl, ?_⟩; have n0_ := Aside0.mk (blk_below (g := gb254) (o := .cells #[.slice A0_0 l0_0.length c0_0, .slice A0_1 l0_1.length c0_1] 25 (0, 0)) s13q5 hb); have n1_ := Aside0.mk (blk_below (g := gb255) (o := .cells #[.slice A2_0 l2_0.length c2_0, .int .i64 a2_1] 29 (0, 0)) s13q6 hb); have n2_ := Aside0.mk (below_step s13q11 hb); clear BK254; clear BK255; clear HB; have BK254 := n0_; have BK255 := n1_; have HB := n2_; clear n0_ n1_ n2_; (try clear hb); (try clear hb2); (try clear hk); (try clear hi); have hcz15_0 : w14.cell? ⟨gb255, 0, none⟩ = some (.slice A2_0 l2_0.length c2_0) := (blk_cell BK255.out 0).trans rfl; have hcz15_1 : w14.cell? ⟨gb255, 1, none⟩ = some (.int .i64 a2_1) := (blk_cell BK255.out 1).trans rfl; have hfz15_0 := blk_frozen BK255.out 0; have hfz15_1 := blk_frozen BK255.out 1) | ((with_reducible refine gate_callee (f := 12) rfl ?_); refine goesL_ (some 25) rfl rfl Tryd.func12 s13q0 rfl #[.int .i64 (l2_0.length : Int), .int .i64 1, .int .i64 8192] rfl s13q9 ?_; (with_reducible refine (kit_In.calls (l2_0.length : Int) 1 8192 true _ A6.out).mono ?_); rintro e w' ⟨rfl, ⟨nd, rfl⟩⟩; refine ⟨_, rfl, ?_⟩) | ((with_reducible refine gate_callee (f := 12) rfl ?_); refine goesL_ (some 29) rfl rfl Tryd.func12 s13q0 rfl #[.int .i64 a2_1, .int .i64 1, .int .i64 5] rfl s13q9 ?_; (with_reducible refine (kit_In.calls a2_1 1 5 true _ A8.out).mono ?_); rintro e w' ⟨rfl, ⟨nd, rfl⟩⟩; refine ⟨_, rfl, ?_⟩; have hcz16_0 : w14.cell? ⟨gb254, 0, none⟩ = some (.slice A0_0 l0_0.length c0_0) := (blk_cell BK254.out 0).trans rfl; have hcz16_1 : w14.cell? ⟨gb254, 1, none⟩ = some (.slice A0_1 l0_1.length c0_1) := (blk_cell BK254.out 1).trans rfl; have hfz16_0 := blk_frozen BK254.out 0; have hfz16_1 := blk_frozen BK254.out 1))
 go_loopg [9, 34] k (fun kq v9 v34 w' => ∃ (x9_1 : List Int) (x34_1 : Int), v34 = .int .i64 x34_1 ∧ Aside0 (join_Kept.l0 kq l1 x9_1 l0_1 (l0_1.length : Int) x34_1 l2_0 a2_1 = some (r1, r2)) ∧ Aside0 (kq ≤ k) ∧ Aside0 (Kd.R (Kd.int .i64) 3 w' w.heap.size (fun _ => True) v9 x9_1) ∧ Aside0 (w'.heap[gb254]? = some (.cells #[(.slice A0_0 l0_0.length c0_0), (.slice A0_1 l0_1.length c0_1)] 25 (0, 0))) ∧ Aside0 (w'.heap[gb255]? = some (.cells #[(.slice A2_0 l2_0.length c2_0), .int .i64 a2_1] 29 (0, 0))) ∧ Aside0 (Below w.heap.size w w'))
 case atStart => exact ⟨(([] : List Int)), (0), s13q1, H', ⟨Nat.le_refl _⟩, ⟨by first | exact Kd.R_nil _ _ _ _ _ | exact Kd.N_nil _ _ _ _ _ | exact Kd.V_nil _ _ _ _ _ | exact Kd.Q_nil _ _ _ _ _ | exact Kd.S_nil _ _ _ _ _⟩, ⟨by (with_reducible repeat (first | refine blk_drewN ?_ _ | refine blk_drew ?_ | refine blk_alloc ?_ _)); exact BK254.out⟩, ⟨by (with_reducible repeat (first | refine blk_drewN ?_ _ | refine blk_drew ?_ | refine blk_alloc ?_ _)); exact BK255.out⟩, ⟨by repeat (first | (with_reducible first | exact HB.out | apply below_alloc | apply pw_below_drewN | apply below_drew1 | refine below_set ?_ GE254.out | refine below_set ?_ GE255.out) | exact HB.out)⟩⟩
 clear H'
 try clear c1
 try clear c2
 try clear p2
 try clear c5
 try clear c5b0
 try clear c5b1
 try clear c7
 try clear c9
 try clear c11
 try clear c12
 try clear hcz13_0
 try clear hcz13_1
 try clear hcz15_0
 try clear hcz15_1
 try clear hcz16_0
 try clear hcz16_1
 try clear hfz13_0
 try clear hfz13_1
 try clear hfz15_0
 try clear hfz15_1
 try clear hfz16_0
 try clear hfz16_1
 obtain ⟨x9_1, x34_1, rfl, HA, HK1, HO_9, BK254, BK255, HB⟩ := hrel
 cases gk with
 | zero => exact absurd HA.out (by simp [join_Kept.l0])
 | succ k1 => ?_
 have H := HA.out
 clear HA
 simp only [join_Kept.l0] at H
 by_cases c17 : x34_1 < (l0_1.length : Int)
 case neg =>
  rw [if_neg c17] at H
  have c17b0 : decide (x34_1 < (l0_1.length : Int)) = false := decide_eq_false c17
  clear c17
  simp only [Option.some.injEq, Prod.mk.injEq] at H
  obtain ⟨rfl, rfl⟩ := H
  go_wp2
  go_ret2
  exact ⟨_, by first | rfl | (simp [errW_none, errW_some] <;> rfl) | (simp [*, errW_none, errW_some] <;> rfl), by (with_reducible repeat (first | apply Kd.R_alloc | apply Kd.R_drewN | apply Kd.R_drew)); exact HO_9.out, by repeat (first | (with_reducible first | exact HB.out | apply below_alloc | apply pw_below_drewN | apply below_drew1 | refine below_set ?_ GE254.out | refine below_set ?_ GE255.out) | exact HB.out)⟩
 rw [if_pos c17] at H
 have c17b0 : decide (x34_1 < (l0_1.length : Int)) = true := decide_eq_true c17
 clear c17
 by_cases c18 : 0 ≤ x34_1
 case neg =>
  rw [if_neg c18] at H
  exact absurd H (by simp)
 rw [if_pos c18] at H
 have c18b0 : decide (0 ≤ x34_1) = true := decide_eq_true c18
 clear c18
 by_cases c19 : x34_1 < (l0_1.length : Int)
 case neg =>
  rw [if_neg c19] at H
  exact absurd H (by simp)
 rw [if_pos c19] at H
 have c19b0 : decide (x34_1 < (l0_1.length : Int)) = true := decide_eq_true c19
 clear c19
 replace H := Option.bind_eq_some_iff.mp H
 obtain ⟨⟨t261, t264⟩, A200, H⟩ := H
 replace H : (join_Kept.l1 k1 l1 x9_1 x34_1 t261 t264 l0_1 (l0_1.length : Int) x34_1 a2_1 0 l2_0 a2_1) = some (r1, r2) := H
 have A20 := Aside0.mk A200
 clear A200
 have H' := Aside0.mk H
 clear H
 have p259 : 0 ≤ (x34_1 : Int) := of_decide_eq_true s13q2
 have q259 : x34_1 < (l0_1.length : Int) := of_decide_eq_true s13q2
 obtain ⟨ad259, A259_0, c259_0, e259, hx259_0, hl259_0, hi259_0⟩ := at_T43 HR0_1.out x34_1 p259 q259
 cases e259
 replace hx259_0 := (HB.out.cell (World.block_lt_of_cell? w _ hx259_0)).trans hx259_0
 have HR259_0 := Aside0.mk hi259_0
 have HC259_0 := Aside0.mk hl259_0
 clear hi259_0 hl259_0
 replace p259 := eq_true p259
 replace q259 := eq_true q259
 go_wp2_with (first | ((with_reducible refine gate_dst (N := 11) rfl ?_); refine box_event ?hg (N := 11) ?hd (cs := #[.slice none 0 0]) (t := 43) ?hr ?_; (case hd => rfl); (case hg => rfl); (case hr => first | (go_simp; done) | (go_simp; rfl)); intro gb260 hg w21 hbox hb; have n0_ := Aside0.mk (Kd.R_below s13q3 hb); have n1_ := Aside0.mk (blk_below (g := gb254) (o := .cells #[.slice A0_0 l0_0.length c0_0, .slice (some ad259) l0_1.length c0_1] 25 (0, 0)) s13q5 hb); have n2_ := Aside0.mk (blk_below (g := gb255) (o := .cells #[.slice A2_0 l2_0.length c2_0, .int .i64 a2_1] 29 (0, 0)) s13q6 hb); have n3_ := Aside0.mk (below_step s13q11 hb); have n4_ := Aside0.mk (hbox); have n5_ := Aside0.mk (((by rw [hg]; exact (below_size s13q11)) : w.heap.size ≤ gb260)); have n6_ := Aside0.mk (((by rw [hg]; exact (below_size s13q11)) : w.heap.size ≤ gb260)); have n7_ := Aside0.mk ((by rw [hg]; exact Nat.ne_of_lt (blk_lt (g := gb254) (o := .cells #[.slice A0_0 l0_0.length c0_0, .slice (some ad259) l0_1.length c0_1] 25 (0, 0)) s13q5) : gb254 ≠ gb260)); have n8_ := Aside0.mk ((by rw [hg]; exact Nat.ne_of_gt (blk_lt (g := gb254) (o := .cells #[.slice A0_0 l0_0.length c0_0, .slice (some ad259) l0_1.length c0_1] 25 (0, 0)) s13q5) : gb260 ≠ gb254)); have n9_ := Aside0.mk ((by rw [hg]; exact Nat.ne_of_lt (blk_lt (g := gb255) (o := .cells #[.slice A2_0 l2_0.length c2_0, .int .i64 a2_1] 29 (0, 0)) s13q6) : gb255 ≠ gb260)); have n10_ := Aside0.mk ((by rw [hg]; exact Nat.ne_of_gt (blk_lt (g := gb255) (o := .cells #[.slice A2_0 l2_0.length c2_0, .int .i64 a2_1] 29 (0, 0)) s13q6) : gb260 ≠ gb255)); clear HO_9; clear BK254; clear BK255; clear HB; have HO_9 := n0_; have BK254 := n1_; have BK255 := n2_; have HB := n3_; have BK260 := n4_; have GW260 := n5_; have GE260 := n6_; have NB254_260 := n7_; have NB260_254 := n8_; have NB255_260 := n9_; have NB260_255 := n10_; clear n0_ n1_ n2_ n3_ n4_ n5_ n6_ n7_ n8_ n9_ n10_; clear hb hbox hg; have hnb22 := NB260_254.out; have hnc22 := NB254_260.out; have hnb23 := NB260_255.out; have hnc23 := NB255_260.out; have hcz24_0 : w21.cell? ⟨gb260, 0, none⟩ = some (.slice none 0 0) := (blk_cell BK260.out 0).trans rfl; have hfz24_0 := blk_frozen BK260.out 0) | ((with_reducible refine gate_callee (f := 13) rfl ?_); refine goesL_ (some 42) rfl rfl Tryd.func13 s13q0 rfl #[.agg #[.slice A259_0 ((rd_T43 l0_1 x34_1).f0).length c259_0], .slice A1 l1.length c1] rfl s13q9 ?_; (with_reducible refine (join_key.calls k1 _ _ ((rd_T43 l0_1 x34_1).f0) _ _ l1 t261 t264 _ ?side1 ?side2 ?side3 ?side4 A20.out).mono ?_); (case side1 => exact Kd.C_below HR259_0.out s13q12); (case side2 => exact HC259_0.out); (case side3 => exact Kd.C_below HR1.out s13q12); (case side4 => exact HC1.out); rintro e w25 ⟨v262, rfl, ho0, hb⟩; refine ⟨_, rfl, ?_⟩; have n0_ := Aside0.mk (Kd.R_below (by (with_reducible repeat (first | apply Kd.R_alloc | apply Kd.R_drewN | apply Kd.R_drew)); exact (Kd.R_mono (Kd.R_far (p := ⟨gb260, 0, none⟩) (Kd.R_types HO_9.out BK260.out (by decide)) (fun _ hk => hk.2) (.slice A259_0 ((rd_T43 l0_1 x34_1).f0).length c259_0)) (fun _ h_ => h_.1))) hb); have n1_ := Aside0.mk (Kd.R_lower ho0 (below_size s13q12)); have n2_ := Aside0.mk (blk_below (g := gb254) (o := .cells #[.slice A0_0 l0_0.length c0_0, .slice (some ad259) l0_1.length c0_1] 25 (0, 0)) (by (with_reducible repeat (first | refine blk_drewN ?_ _ | refine blk_drew ?_ | refine blk_alloc ?_ _)); refine blk_far ?_ NB254_260.out _; (with_reducible repeat (first | refine blk_drewN ?_ _ | refine blk_drew ?_ | refine blk_alloc ?_ _)); exact BK254.out) hb); have n3_ := Aside0.mk (blk_below (g := gb255) (o := .cells #[.slice A2_0 l2_0.length c2_0, .int .i64 a2_1] 29 (0, 0)) (by (with_reducible repeat (first | refine blk_drewN ?_ _ | refine blk_drew ?_ | refine blk_alloc ?_ _)); refine blk_far ?_ NB255_260.out _; (with_reducible repeat (first | refine blk_drewN ?_ _ | refine blk_drew ?_ | refine blk_alloc ?_ _)); exact BK255.out) hb); have n4_ := Aside0.mk (blk_below (g := gb260) (o := .cells #[.slice A259_0 ((rd_T43 l0_1 x34_1).f0).length c259_0] 43 (0, 0)) (by (with_reducible repeat (first | refine blk_drewN ?_ _ | refine blk_drew ?_ | refine blk_alloc ?_ _)); refine blk_put (cs := #[.slice none 0 0]) ?_ 0 _ rfl; (with_reducible repeat (first | refine blk_drewN ?_ _ | refine blk_drew ?_ | refine blk_alloc ?_ _)); exact BK260.out) hb); have n5_ := Aside0.mk (below_step s13q12 hb); clear HO_9; clear BK254; clear BK255; clear BK260; clear HB; have HO_9 := n0_; have HO263 := n1_; have BK254 := n2_; have BK255 := n3_; have BK260 := n4_; have HB := n5_; clear n0_ n1_ n2_ n3_ n4_ n5_; (try clear hb); (try clear hb2); (try clear hk); (try clear hi); (try clear ho0); have hnb26 := NB255_254.out; have hnc26 := NB254_255.out; have hcz27_0 : w25.cell? ⟨gb255, 0, none⟩ = some (.slice A2_0 l2_0.length c2_0) := (blk_cell BK255.out 0).trans rfl; have hcz27_1 : w25.cell? ⟨gb255, 1, none⟩ = some (.int .i64 a2_1) := (blk_cell BK255.out 1).trans rfl; have hfz27_0 := blk_frozen BK255.out 0; have hfz27_1 := blk_frozen BK255.out 1))
 go_loopg [13, 47] k1 (fun kq v13 v47 w' => ∃ (x13_2 : Bool) (x47_2 : Int), v13 = .bool x13_2 ∧ v47 = .int .i64 x47_2 ∧ Aside0 (join_Kept.l1 kq l1 x9_1 x34_1 t261 x13_2 l0_1 (l0_1.length : Int) x34_1 a2_1 x47_2 l2_0 a2_1 = some (r1, r2)) ∧ Aside0 (kq ≤ k1) ∧ Aside0 (Kd.R (Kd.int .i64) 3 w' w.heap.size (fun _ => True) u9 x9_1) ∧ Aside0 (Kd.R k54 54 w' w.heap.size (fun _ => True) v262 t261) ∧ Aside0 (w'.heap[gb254]? = some (.cells #[(.slice A0_0 l0_0.length c0_0), (.slice (some ad259) l0_1.length c0_1)] 25 (0, 0))) ∧ Aside0 (w'.heap[gb255]? = some (.cells #[(.slice A2_0 l2_0.length c2_0), .int .i64 a2_1] 29 (0, 0))) ∧ Aside0 (w'.heap[gb260]? = some (.cells #[(.slice A259_0 ((rd_T43 l0_1 x34_1).f0).length c259_0)] 43 (0, 0))) ∧ Aside0 (Below w.heap.size w w'))
 case atStart => exact ⟨(t264), (0), s13q1, s13q1, H', ⟨Nat.le_refl _⟩, ⟨by (with_reducible repeat (first | apply Kd.R_alloc | apply Kd.R_drewN | apply Kd.R_drew)); exact HO_9.out⟩, ⟨by (with_reducible repeat (first | apply Kd.R_alloc | apply Kd.R_drewN | apply Kd.R_drew)); exact HO263.out⟩, ⟨by (with_reducible repeat (first | refine blk_drewN ?_ _ | refine blk_drew ?_ | refine blk_alloc ?_ _)); exact BK254.out⟩, ⟨by (with_reducible repeat (first | refine blk_drewN ?_ _ | refine blk_drew ?_ | refine blk_alloc ?_ _)); exact BK255.out⟩, ⟨by (with_reducible repeat (first | refine blk_drewN ?_ _ | refine blk_drew ?_ | refine blk_alloc ?_ _)); exact BK260.out⟩, ⟨by repeat (first | (with_reducible first | exact HB.out | apply below_alloc | apply pw_below_drewN | apply below_drew1 | refine below_set ?_ GE254.out | refine below_set ?_ GE255.out | refine below_set ?_ GE260.out) | exact HB.out)⟩⟩
 clear H'
 try clear c1
 try clear c2
 try clear p2
 try clear q2
 try clear hx2
 try clear c5
 try clear c5b0
 try clear c5b1
 try clear c7
 try clear c9
 try clear c11
 try clear c12
 try clear c13
 try clear c17
 try clear c17b0
 try clear c18
 try clear c18b0
 try clear c19
 try clear c19b0
 try clear c22
 try clear c23
 try clear c25
 try clear p25
 try clear q25
 try clear hx25
 try clear c26
 try clear hcz13_0
 try clear hcz13_1
 try clear hcz15_0
 try clear hcz15_1
 try clear hcz16_0
 try clear hcz16_1
 try clear hcz24_0
 try clear hcz27_0
 try clear hcz27_1
 try clear hfz13_0
 try clear hfz13_1
 try clear hfz15_0
 try clear hfz15_1
 try clear hfz16_0
 try clear hfz16_1
 try clear hfz24_0
 try clear hfz27_0
 try clear hfz27_1
 try clear hx259_0
 try clear p2
 try clear p259
 try clear q259
 obtain ⟨x13_2, x47_2, rfl, rfl, HA, HK2, HO_9, HO_12, BK254, BK255, BK260, HB⟩ := hrel
 cases gk with
 | zero => exact absurd HA.out (by simp [join_Kept.l1])
 | succ k2 => ?_
 have H := HA.out
 clear HA
 simp only [join_Kept.l1] at H
 by_cases c28 : x47_2 < a2_1
 case neg =>
  rw [if_neg c28] at H
  have c28b0 : decide (x47_2 < a2_1) = false := decide_eq_false c28
  clear c28
  by_cases c47 : x13_2 = true
  case neg =>
   replace c47 := Bool.eq_false_iff.mpr c47
   subst c47
   have H1 : (join_Kept.l0 k2 l1 x9_1 l0_1 (l0_1.length : Int) (wrap64 (x34_1 + 1)) l2_0 a2_1) = some (r1, r2) := s13q17
   clear H
   have H := H1
   clear H1
   have H' := Aside0.mk H
   clear H
   go_wp2
   first | go_roundg k2 | (refine Handed.intro k2 ?measure ?_; rotate_left; go_step; (repeat apply Exists.intro); simp only [add_plain]; refine ⟨?rel, rfl⟩)
   case measure => have := HK1.out; have := HK2.out; omega
   case rel => exact ⟨(x9_1), (wrap64 (x34_1 + 1)), s13q1, H', ⟨by have := HK1.out; have := HK2.out; omega⟩, ⟨by (with_reducible repeat (first | apply Kd.R_alloc | apply Kd.R_drewN | apply Kd.R_drew)); exact HO_9.out⟩, ⟨by (with_reducible repeat (first | refine blk_drewN ?_ _ | refine blk_drew ?_ | refine blk_alloc ?_ _)); exact BK254.out⟩, ⟨by (with_reducible repeat (first | refine blk_drewN ?_ _ | refine blk_drew ?_ | refine blk_alloc ?_ _)); exact BK255.out⟩, ⟨by repeat (first | (with_reducible first | exact HB.out | apply below_alloc | apply pw_below_drewN | apply below_drew1 | refine below_set ?_ GE254.out | refine below_set ?_ GE255.out | refine below_set ?_ GE260.out) | exact HB.out)⟩⟩
  subst c47
  have H1 : (if x9_1.length < 17592186044416 then (join_Kept.l0 k2 l1 (x9_1 ++ [x34_1]) l0_1 (l0_1.length : Int) (wrap64 (x34_1 + 1)) l2_0 a2_1) else (none)) = some (r1, r2) := s13q18
  clear H
  have H := H1
  clear H1
  by_cases c48 : x9_1.length < 17592186044416
  case neg =>
   rw [if_neg c48] at H
   exact absurd H (by simp)
  rw [if_pos c48] at H
  have LMc48 := Aside0.mk c48
  clear c48
  obtain ⟨y267, hy267⟩ : ∃ y_ : List Int, y_ = (x9_1 ++ [x34_1]) := ⟨_, rfl⟩
  replace H : (join_Kept.l0 k2 l1 y267 l0_1 (l0_1.length : Int) (wrap64 (x34_1 + 1)) l2_0 a2_1) = some (r1, r2) := sqz hy267 H
  have Ny267 := Aside0.mk hy267
  clear hy267
  have H' := Aside0.mk H
  clear H
  go_wp2_with (first | ((with_reducible refine gate_builtin (b := .append) (xs := #[.tmp 74, .tmp 76]) rfl ?_); at_builtin; refine Kd.R_append (Kd.int .i64) (w0 := w) w.heap.size rfl (.tmp 74) (.tmp 76) 26 3 (.int .i64 0) 8 rfl Tryd.underlying26 info3 rfl (by decide) (by omega) u9 x9_1 x34_1 [.int .i64 x34_1] (fun _ => True) (fun _ => False) rfl rfl ?aP (fun _ hk => hk.elim) ?aF ?aO ?aB ?aS ?aL ?_; (case aP => exact rfl); (case aB => exact s13q12); (case aF => exact (fun _ _ => trivial)); (case aO => exact s13q3); (case aS => exact (below_size s13q12)); (case aL => have := LMc48.out; omega); intro v268 w49 ho hb hg hat; rw [← Ny267.out] at ho; have n0_ := Aside0.mk (Kd.R_over' s13q4 (Kd.R_typed s13q3) (by decide) hg); have n1_ := Aside0.mk (blk_grown (g := gb254) (o := .cells #[.slice A0_0 l0_0.length c0_0, .slice (some ad259) l0_1.length c0_1] 25 (0, 0)) s13q5 hg (Kd.R_ne HO_9.out BK254.out (by decide))); have n2_ := Aside0.mk (blk_grown (g := gb255) (o := .cells #[.slice A2_0 l2_0.length c2_0, .int .i64 a2_1] 29 (0, 0)) s13q6 hg (Kd.R_ne HO_9.out BK255.out (by decide))); have n3_ := Aside0.mk (blk_grown (g := gb260) (o := .cells #[.slice A259_0 ((rd_T43 l0_1 x34_1).f0).length c259_0] 43 (0, 0)) s13q7 hg (Kd.R_ne HO_9.out BK260.out (by decide))); have n4_ := Aside0.mk (hb); have n5_ := Aside0.mk (ho); clear HO_12; clear BK254; clear BK255; clear BK260; clear HB; clear HO_9; have HO_12 := n0_; have BK254 := n1_; have BK255 := n2_; have BK260 := n3_; have HB := n4_; have HO269 := n5_; clear n0_ n1_ n2_ n3_ n4_ n5_; clear ho hb hg hat))
  first | go_roundg k2 | (refine Handed.intro k2 ?measure ?_; rotate_left; go_step; (repeat apply Exists.intro); simp only [add_plain]; refine ⟨?rel, rfl⟩)
  case measure => have := HK1.out; have := HK2.out; omega
  case rel => exact ⟨(y267), (wrap64 (x34_1 + 1)), s13q1, H', ⟨by have := HK1.out; have := HK2.out; omega⟩, ⟨by (with_reducible repeat (first | apply Kd.R_alloc | apply Kd.R_drewN | apply Kd.R_drew)); exact HO269.out⟩, ⟨by (with_reducible repeat (first | refine blk_drewN ?_ _ | refine blk_drew ?_ | refine blk_alloc ?_ _)); exact BK254.out⟩, ⟨by (with_reducible repeat (first | refine blk_drewN ?_ _ | refine blk_drew ?_ | refine blk_alloc ?_ _)); exact BK255.out⟩, ⟨by repeat (first | (with_reducible first | exact HB.out | apply below_alloc | apply pw_below_drewN | apply below_drew1 | refine below_set ?_ GE254.out | refine below_set ?_ GE255.out | refine below_set ?_ GE260.out) | exact HB.out)⟩⟩
 rw [if_pos c28] at H
 have c28b0 : decide (x47_2 < a2_1) = true := decide_eq_true c28
 clear c28
 replace H := Option.bind_eq_some_iff.mp H
 obtain ⟨t265, A290, H⟩ := H
 replace H : (if (wrap64 (8 * (l2_0.length : Int))) = 0 then (none) else (if x13_2 = true then (if 0 ≤ (wrap64 (Int.tdiv (Int.tmod t265 (wrap64 (8 * (l2_0.length : Int)))) 8)) then (if (wrap64 (Int.tdiv (Int.tmod t265 (wrap64 (8 * (l2_0.length : Int)))) 8)) < (l2_0.length : Int) then (if 0 ≤ (Int.tmod (Int.tmod t265 (wrap64 (8 * (l2_0.length : Int)))) 8) then (join_Kept.l1 k2 l1 x9_1 x34_1 t261 ((Go.bits .and .u8 (shr .u8 (rd l2_0 (wrap64 (Int.tdiv (Int.tmod t265 (wrap64 (8 * (l2_0.length : Int)))) 8))) (Int.tmod (Int.tmod t265 (wrap64 (8 * (l2_0.length : Int)))) 8)) 1) == 1) l0_1 (l0_1.length : Int) x34_1 a2_1 (wrap64 (x47_2 + 1)) l2_0 a2_1) else (none)) else (none)) else (none)) else (join_Kept.l1 k2 l1 x9_1 x34_1 t261 false l0_1 (l0_1.length : Int) x34_1 a2_1 (wrap64 (x47_2 + 1)) l2_0 a2_1))) = some (r1, r2) := H
 have A29 := Aside0.mk A290
 clear A290
 by_cases c30 : (wrap64 (8 * (l2_0.length : Int))) = 0
 · rw [if_pos c30] at H
   exact absurd H (by simp)
 rw [if_neg c30] at H
 have c30b0 : ((wrap64 (8 * (l2_0.length : Int))) == 0) = false := beq_eq_false_iff_ne.mpr c30
 have c30b1 : ((wrap64 (8 * (l2_0.length : Int))) != 0) = true := bne_iff_ne.mpr c30
 by_cases c31 : x13_2 = true
 case neg =>
  replace c31 := Bool.eq_false_iff.mpr c31
  subst c31
  have H1 : (join_Kept.l1 k2 l1 x9_1 x34_1 t261 false l0_1 (l0_1.length : Int) x34_1 a2_1 (wrap64 (x47_2 + 1)) l2_0 a2_1) = some (r1, r2) := s13q17
  clear H
  have H := H1
  clear H1
  have H' := Aside0.mk H
  clear H
  try go_wp2
  have n0_ := Aside0.mk (Kd.R_drew HO_9.out)
  have n1_ := Aside0.mk (Kd.R_drew HO_12.out)
  have n2_ := Aside0.mk (blk_drew BK254.out)
  have n3_ := Aside0.mk (blk_drew BK255.out)
  have n4_ := Aside0.mk (blk_drew BK260.out)
  have n5_ := Aside0.mk (below_drew1 HB.out)
  clear HO_9
  clear HO_12
  clear BK254
  clear BK255
  clear BK260
  clear HB
  have HO_9 := n0_
  have HO_12 := n1_
  have BK254 := n2_
  have BK255 := n3_
  have BK260 := n4_
  have HB := n5_
  clear n0_ n1_ n2_ n3_ n4_ n5_
  obtain ⟨Ao45, co45, eo45⟩ := Kd.R_slice HO_12.out
  (first | subst eo45 | (injection eo45 with f1_ f2_ f3_; have f4_ := f1_.symm; have f5_ := f3_.symm; clear f1_ f2_ f3_; subst f4_; subst f5_))
  refine start_ (n := 9) (S := fun w' => w'.cell? ⟨gb255, 0, none⟩ = some (.slice A2_0 l2_0.length c2_0) ∧ w'.cell? ⟨gb255, 1, none⟩ = some (.int .i64 a2_1)) (ds := []) #[false, false, false, false, false, false, false, false, false] s13q0 rfl rfl ⟨(blk_cell BK255.out 0).trans rfl, (blk_cell BK255.out 1).trans rfl⟩ (fun hHeld => ?_); refine with_tabW join_Kept.tab16 join_Kept.bits16 (fun HT_ HW_ => ?_)
  generalize wr.drew = w44 at HO_9 HO_12 BK254 BK255 BK260 HB hHeld ⊢
  refine pure_ (i := 0) (N := some 50) (v := ?_) (a' := ?_) #[true, false, false, false, false, false, false, false, false] rfl rfl (any_of HT_.out s13q0) (fun _ _ _ h => h) (Or.inl ⟨by rfl, ?_⟩) ?_ ?_
  rotate_left
  · intro w'
    go_simp
    with_reducible rfl
  rotate_left
  · simp only [Act.put, sqa, sqb, sqc, i64_w, i32_w]
    rfl
  refine pure_ (i := 1) (N := some 51) (v := ?_) (a' := ?_) #[true, true, false, false, false, false, false, false, false] rfl rfl (any_of HT_.out s13q0) (fun _ _ _ h => h) (Or.inl ⟨by rfl, ?_⟩) ?_ ?_
  rotate_left
  · intro w'
    go_simp
    with_reducible rfl
  rotate_left
  · simp only [Act.put, sqa, sqb, sqc, i64_w, i32_w]
    rfl
  refine pure_ (i := 3) (N := some 53) (v := ?_) (a' := ?_) #[true, true, false, true, false, false, false, false, false] rfl rfl (any_of HT_.out s13q0) (fun _ _ _ h => h) (Or.inl ⟨by rfl, ?_⟩) ?_ ?_
  rotate_left
  · intro w'
    go_simp
    with_reducible rfl
  rotate_left
  · simp only [Act.put, sqa, sqb, sqc, i64_w, i32_w]
    rfl
  refine take_ (i := 4) (N := some 54) (v := ?_) (a' := ?_) #[true, true, false, true, true, false, false, false, false] rfl rfl (take_ofW HT_.out HW_.out s13q0) (fun _ _ _ h => h) (Or.inl ⟨by rfl, ?_⟩) hHeld ?_ ?_
  rotate_left
  · rintro w' ⟨s0, s1⟩
    go_simp
    with_reducible rfl
  rotate_left
  · simp only [Act.put, sqa, sqb, sqc, i64_w, i32_w]
    rfl
  refine pure_ (i := 5) (N := some 55) (v := ?_) (a' := ?_) #[true, true, false, true, true, true, false, false, false] rfl rfl (any_of HT_.out s13q0) (fun _ _ _ h => h) (Or.inl ⟨by rfl, ?_⟩) ?_ ?_
  rotate_left
  · intro w'
    go_simp
    with_reducible rfl
  rotate_left
  · simp only [Act.put, sqa, sqb, sqc, i64_w, i32_w]
    rfl
  refine pure_ (i := 6) (N := some 56) (v := ?_) (a' := ?_) #[true, true, false, true, true, true, true, false, false] rfl rfl (any_of HT_.out s13q0) (fun _ _ _ h => h) (Or.inl ⟨by rfl, ?_⟩) ?_ ?_
  rotate_left
  · intro w'
    go_simp
    with_reducible rfl
  rotate_left
  · simp only [Act.put, sqa, sqb, sqc, i64_w, i32_w]
    rfl
  refine one_ (i := 2) (N := some 52) #[true, true, true, true, true, true, true, false, false] rfl rfl (one_of HT_.out s13q0) (by decide) (fun K hK => ?_)
  refine goes_ Tryd.func14 s13q0 rfl #[.slice Ao45 t261.length co45, .int .i64 x47_2] (by rfl) rfl rfl s13q9 ?_
  with_reducible refine (join_hash.calls k2 _ _ t261 x47_2 t265 _ ?side1 ?side2 ?side3 A29.out).mono ?_
  (case side1 => repeat (first | exact (Kd.R_reads' HO_12.out).2.2 | (with_reducible refine Kd.C_alloc ?_ _) | (with_reducible refine Kd.C_drewN ?_ _) | (with_reducible refine Kd.C_drew ?_)))
  (case side2 => exact (Kd.R_reads' HO_12.out).2.1)
  (case side3 => exact Glob_below HG.out s13q12)
  rintro e w46 ⟨rfl, hb⟩
  refine ⟨_, rfl, ?_⟩
  have n0_ := Aside0.mk (Kd.R_below s13q3 hb)
  have n1_ := Aside0.mk (Kd.R_below s13q4 hb)
  have n2_ := Aside0.mk (blk_below (g := gb254) (o := .cells #[.slice A0_0 l0_0.length c0_0, .slice (some ad259) l0_1.length c0_1] 25 (0, 0)) s13q5 hb)
  have n3_ := Aside0.mk (blk_below (g := gb255) (o := .cells #[.slice A2_0 l2_0.length c2_0, .int .i64 a2_1] 29 (0, 0)) s13q6 hb)
  have n4_ := Aside0.mk (blk_below (g := gb260) (o := .cells #[.slice A259_0 ((rd_T43 l0_1 x34_1).f0).length c259_0] 43 (0, 0)) s13q7 hb)
  have n5_ := Aside0.mk (below_step s13q12 hb)
  clear HO_9
  clear HO_12
  clear BK254
  clear BK255
  clear BK260
  clear HB
  have HO_9 := n0_
  have HO_12 := n1_
  have BK254 := n2_
  have BK255 := n3_
  have BK260 := n4_
  have HB := n5_
  clear n0_ n1_ n2_ n3_ n4_ n5_
  (try clear hb)
  (try clear hb2)
  (try clear hk)
  (try clear hi)
  refine hK.out _ _ ⟨(blk_cell BK255.out 0).trans rfl, (blk_cell BK255.out 1).trans rfl⟩ (fun hHeld => ?_)
  clear hK K
  refine norm_ (a' := ?_) ?_ ?_
  rotate_left
  · show Act.put _ (some 52) _ = _
    simp only [Act.put, sqa, sqb, sqc, i64_w, i32_w]
    rfl
  refine pure_ (i := 7) (N := some 57) (v := ?_) (a' := ?_) #[true, true, true, true, true, true, true, true, false] rfl rfl (any_of HT_.out s13q0) (fun _ _ _ h => h) (Or.inl ⟨by rfl, ?_⟩) ?_ ?_
  rotate_left
  · intro w'
    go_simp
    with_reducible rfl
  rotate_left
  · simp only [Act.put, sqa, sqb, sqc, i64_w, i32_w]
    rfl
  refine pure_ (i := 8) (N := some 15) (v := ?_) (a' := ?_) #[true, true, true, true, true, true, true, true, true] rfl rfl (any_of HT_.out s13q0) (fun _ _ _ h => h) (Or.inl ⟨by rfl, ?_⟩) ?_ ?_
  rotate_left
  · intro w'
    go_simp
    with_reducible rfl
  rotate_left
  · simp only [Act.put, sqa, sqb, sqc, i64_w, i32_w]
    rfl
  refine done_ (done_of HT_.out s13q0) ?_
  try go_wp2
  first | go_roundg k2 | (refine Handed.intro k2 ?measure ?_; rotate_left; go_step; (repeat apply Exists.intro); simp only [add_plain]; refine ⟨?rel, rfl⟩)
  case measure => have := HK1.out; have := HK2.out; omega
  case rel => exact ⟨(false), (wrap64 (x47_2 + 1)), s13q1, s13q1, H', ⟨by have := HK1.out; have := HK2.out; omega⟩, ⟨by (with_reducible repeat (first | apply Kd.R_alloc | apply Kd.R_drewN | apply Kd.R_drew)); exact HO_9.out⟩, ⟨by (with_reducible repeat (first | apply Kd.R_alloc | apply Kd.R_drewN | apply Kd.R_drew)); exact HO_12.out⟩, ⟨by (with_reducible repeat (first | refine blk_drewN ?_ _ | refine blk_drew ?_ | refine blk_alloc ?_ _)); exact BK254.out⟩, ⟨by (with_reducible repeat (first | refine blk_drewN ?_ _ | refine blk_drew ?_ | refine blk_alloc ?_ _)); exact BK255.out⟩, ⟨by (with_reducible repeat (first | refine blk_drewN ?_ _ | refine blk_drew ?_ | refine blk_alloc ?_ _)); exact BK260.out⟩, ⟨by repeat (first | (with_reducible first | exact HB.out | apply below_alloc | apply pw_below_drewN | apply below_drew1 | refine below_set ?_ GE254.out | refine below_set ?_ GE255.out | refine below_set ?_ GE260.out) | exact HB.out)⟩⟩
 subst c31
 have H1 : (if 0 ≤ (wrap64 (Int.tdiv (Int.tmod t265 (wrap64 (8 * (l2_0.length : Int)))) 8)) then (if (wrap64 (Int.tdiv (Int.tmod t265 (wrap64 (8 * (l2_0.length : Int)))) 8)) < (l2_0.length : Int) then (if 0 ≤ (Int.tmod (Int.tmod t265 (wrap64 (8 * (l2_0.length : Int)))) 8) then (join_Kept.l1 k2 l1 x9_1 x34_1 t261 ((Go.bits .and .u8 (shr .u8 (rd l2_0 (wrap64 (Int.tdiv (Int.tmod t265 (wrap64 (8 * (l2_0.length : Int)))) 8))) (Int.tmod (Int.tmod t265 (wrap64 (8 * (l2_0.length : Int)))) 8)) 1) == 1) l0_1 (l0_1.length : Int) x34_1 a2_1 (wrap64 (x47_2 + 1)) l2_0 a2_1) else (none)) else (none)) else (none)) = some (r1, r2) := s13q18
 clear H
 have H := H1
 clear H1
 obtain ⟨ji32, hji32⟩ : ∃ j_ : Int, (wrap64 (Int.tdiv (Int.tmod t265 (wrap64 (8 * (l2_0.length : Int)))) 8)) = j_ := ⟨_, rfl⟩
 replace H : (if 0 ≤ (ji32) then (if (ji32) < (l2_0.length : Int) then (if 0 ≤ (Int.tmod (Int.tmod t265 (wrap64 (8 * (l2_0.length : Int)))) 8) then (join_Kept.l1 k2 l1 x9_1 x34_1 t261 ((Go.bits .and .u8 (shr .u8 (rd l2_0 (ji32)) (Int.tmod (Int.tmod t265 (wrap64 (8 * (l2_0.length : Int)))) 8)) 1) == 1) l0_1 (l0_1.length : Int) x34_1 a2_1 (wrap64 (x47_2 + 1)) l2_0 a2_1) else (none)) else (none)) else (none)) = some (r1, r2) := by first | (rw [hji32] at H; exact H) | (simp only [hji32] at H ⊢; exact H)
 (try rw [hji32] at A29)
 have hji32w : (IntKind.i64.wrap (Int.tdiv (Int.tmod t265 (wrap64 (8 * (l2_0.length : Int)))) 8)) = ji32 := (i64_w _).trans hji32
 by_cases c33 : 0 ≤ (ji32)
 case neg =>
  rw [if_neg c33] at H
  exact absurd H (by simp)
 rw [if_pos c33] at H
 have c33b0 : decide (0 ≤ (ji32)) = true := decide_eq_true c33
 clear c33
 by_cases c34 : (ji32) < (l2_0.length : Int)
 case neg =>
  rw [if_neg c34] at H
  exact absurd H (by simp)
 rw [if_pos c34] at H
 have c34b0 : decide ((ji32) < (l2_0.length : Int)) = true := decide_eq_true c34
 clear c34
 obtain ⟨ji35, hji35⟩ : ∃ j_ : Int, (Int.tmod (Int.tmod t265 (wrap64 (8 * (l2_0.length : Int)))) 8) = j_ := ⟨_, rfl⟩
 replace H : (if 0 ≤ (ji35) then (join_Kept.l1 k2 l1 x9_1 x34_1 t261 ((Go.bits .and .u8 (shr .u8 (rd l2_0 (ji32)) (ji35)) 1) == 1) l0_1 (l0_1.length : Int) x34_1 a2_1 (wrap64 (x47_2 + 1)) l2_0 a2_1) else (none)) = some (r1, r2) := by first | (rw [hji35] at H; exact H) | (simp only [hji35] at H ⊢; exact H)
 (try rw [hji35] at A29)
 by_cases c36 : 0 ≤ (ji35)
 case neg =>
  rw [if_neg c36] at H
  exact absurd H (by simp)
 rw [if_pos c36] at H
 have c36b0 := eq_true c36
 have c36b1 : decide (0 ≤ (ji35)) = true := decide_eq_true c36
 clear c36
 obtain ⟨ji37, hji37⟩ : ∃ j_ : Int, (shr .u8 (rd l2_0 (ji32)) (ji35)) = j_ := ⟨_, rfl⟩
 replace H : (join_Kept.l1 k2 l1 x9_1 x34_1 t261 ((Go.bits .and .u8 (ji37) 1) == 1) l0_1 (l0_1.length : Int) x34_1 a2_1 (wrap64 (x47_2 + 1)) l2_0 a2_1) = some (r1, r2) := by first | (rw [hji37] at H; exact H) | (simp only [hji37] at H ⊢; exact H)
 (try rw [hji37] at A29)
 have hji37_ : ((rd l2_0 (ji32)) / 2 ^ min (ji35).toNat 8) = ji37 := hji37
 have hji37z : (ji35) ≤ 8 → ((rd l2_0 (ji32)) / 2 ^ (ji35).toNat) = ji37 := shr_small hji37
 have H' := Aside0.mk H
 clear H
 try go_wp2
 have n0_ := Aside0.mk (Kd.R_drew HO_9.out)
 have n1_ := Aside0.mk (Kd.R_drew HO_12.out)
 have n2_ := Aside0.mk (blk_drew BK254.out)
 have n3_ := Aside0.mk (blk_drew BK255.out)
 have n4_ := Aside0.mk (blk_drew BK260.out)
 have n5_ := Aside0.mk (below_drew1 HB.out)
 clear HO_9
 clear HO_12
 clear BK254
 clear BK255
 clear BK260
 clear HB
 have HO_9 := n0_
 have HO_12 := n1_
 have BK254 := n2_
 have BK255 := n3_
 have BK260 := n4_
 have HB := n5_
 clear n0_ n1_ n2_ n3_ n4_ n5_
 obtain ⟨Ao39, co39, eo39⟩ := Kd.R_slice HO_12.out
 (first | subst eo39 | (injection eo39 with f1_ f2_ f3_; have f4_ := f1_.symm; have f5_ := f3_.symm; clear f1_ f2_ f3_; subst f4_; subst f5_))
 refine start_ (n := 9) (S := fun w' => w'.cell? ⟨gb255, 0, none⟩ = some (.slice A2_0 l2_0.length c2_0) ∧ w'.cell? ⟨gb255, 1, none⟩ = some (.int .i64 a2_1)) (ds := []) #[false, false, false, false, false, false, false, false, false] s13q0 rfl rfl ⟨(blk_cell BK255.out 0).trans rfl, (blk_cell BK255.out 1).trans rfl⟩ (fun hHeld => ?_); refine with_tabW join_Kept.tab16 join_Kept.bits16 (fun HT_ HW_ => ?_)
 generalize wr.drew = w38 at HO_9 HO_12 BK254 BK255 BK260 HB hHeld ⊢
 refine pure_ (i := 0) (N := some 50) (v := ?_) (a' := ?_) #[true, false, false, false, false, false, false, false, false] rfl rfl (any_of HT_.out s13q0) (fun _ _ _ h => h) (Or.inl ⟨by rfl, ?_⟩) ?_ ?_
 rotate_left
 · intro w'
   go_simp
   with_reducible rfl
 rotate_left
 · simp only [Act.put, sqa, sqb, sqc, i64_w, i32_w]
   rfl
 refine pure_ (i := 1) (N := some 51) (v := ?_) (a' := ?_) #[true, true, false, false, false, false, false, false, false] rfl rfl (any_of HT_.out s13q0) (fun _ _ _ h => h) (Or.inl ⟨by rfl, ?_⟩) ?_ ?_
 rotate_left
 · intro w'
   go_simp
   with_reducible rfl
 rotate_left
 · simp only [Act.put, sqa, sqb, sqc, i64_w, i32_w]
   rfl
 refine pure_ (i := 3) (N := some 53) (v := ?_) (a' := ?_) #[true, true, false, true, false, false, false, false, false] rfl rfl (any_of HT_.out s13q0) (fun _ _ _ h => h) (Or.inl ⟨by rfl, ?_⟩) ?_ ?_
 rotate_left
 · intro w'
   go_simp
   with_reducible rfl
 rotate_left
 · simp only [Act.put, sqa, sqb, sqc, i64_w, i32_w]
   rfl
 refine take_ (i := 4) (N := some 54) (v := ?_) (a' := ?_) #[true, true, false, true, true, false, false, false, false] rfl rfl (take_ofW HT_.out HW_.out s13q0) (fun _ _ _ h => h) (Or.inl ⟨by rfl, ?_⟩) hHeld ?_ ?_
 rotate_left
 · rintro w' ⟨s0, s1⟩
   go_simp
   with_reducible rfl
 rotate_left
 · simp only [Act.put, sqa, sqb, sqc, i64_w, i32_w]
   rfl
 refine pure_ (i := 5) (N := some 55) (v := ?_) (a' := ?_) #[true, true, false, true, true, true, false, false, false] rfl rfl (any_of HT_.out s13q0) (fun _ _ _ h => h) (Or.inl ⟨by rfl, ?_⟩) ?_ ?_
 rotate_left
 · intro w'
   go_simp
   with_reducible rfl
 rotate_left
 · simp only [Act.put, sqa, sqb, sqc, i64_w, i32_w]
   rfl
 refine pure_ (i := 6) (N := some 56) (v := ?_) (a' := ?_) #[true, true, false, true, true, true, true, false, false] rfl rfl (any_of HT_.out s13q0) (fun _ _ _ h => h) (Or.inl ⟨by rfl, ?_⟩) ?_ ?_
 rotate_left
 · intro w'
   go_simp
   with_reducible rfl
 rotate_left
 · simp only [Act.put, sqa, sqb, sqc, i64_w, i32_w]
   rfl
 refine one_ (i := 2) (N := some 52) #[true, true, true, true, true, true, true, false, false] rfl rfl (one_of HT_.out s13q0) (by decide) (fun K hK => ?_)
 refine goes_ Tryd.func14 s13q0 rfl #[.slice Ao39 t261.length co39, .int .i64 x47_2] (by rfl) rfl rfl s13q9 ?_
 with_reducible refine (join_hash.calls k2 _ _ t261 x47_2 t265 _ ?side1 ?side2 ?side3 A29.out).mono ?_
 (case side1 => repeat (first | exact (Kd.R_reads' HO_12.out).2.2 | (with_reducible refine Kd.C_alloc ?_ _) | (with_reducible refine Kd.C_drewN ?_ _) | (with_reducible refine Kd.C_drew ?_)))
 (case side2 => exact (Kd.R_reads' HO_12.out).2.1)
 (case side3 => exact Glob_below HG.out s13q12)
 rintro e w40 ⟨rfl, hb⟩
 refine ⟨_, rfl, ?_⟩
 have n0_ := Aside0.mk (Kd.R_below s13q3 hb)
 have n1_ := Aside0.mk (Kd.R_below s13q4 hb)
 have n2_ := Aside0.mk (blk_below (g := gb254) (o := .cells #[.slice A0_0 l0_0.length c0_0, .slice (some ad259) l0_1.length c0_1] 25 (0, 0)) s13q5 hb)
 have n3_ := Aside0.mk (blk_below (g := gb255) (o := .cells #[.slice A2_0 l2_0.length c2_0, .int .i64 a2_1] 29 (0, 0)) s13q6 hb)
 have n4_ := Aside0.mk (blk_below (g := gb260) (o := .cells #[.slice A259_0 ((rd_T43 l0_1 x34_1).f0).length c259_0] 43 (0, 0)) s13q7 hb)
 have n5_ := Aside0.mk (below_step s13q12 hb)
 clear HO_9
 clear HO_12
 clear BK254
 clear BK255
 clear BK260
 clear HB
 have HO_9 := n0_
 have HO_12 := n1_
 have BK254 := n2_
 have BK255 := n3_
 have BK260 := n4_
 have HB := n5_
 clear n0_ n1_ n2_ n3_ n4_ n5_
 (try clear hb)
 (try clear hb2)
 (try clear hk)
 (try clear hi)
 refine hK.out _ _ ⟨(blk_cell BK255.out 0).trans rfl, (blk_cell BK255.out 1).trans rfl⟩ (fun hHeld => ?_)
 clear hK K
 refine norm_ (a' := ?_) ?_ ?_
 rotate_left
 · show Act.put _ (some 52) _ = _
   simp only [Act.put, sqa, sqb, sqc, i64_w, i32_w]
   rfl
 refine pure_ (i := 7) (N := some 57) (v := ?_) (a' := ?_) #[true, true, true, true, true, true, true, true, false] rfl rfl (any_of HT_.out s13q0) (fun _ _ _ h => h) (Or.inl ⟨by rfl, ?_⟩) ?_ ?_
 rotate_left
 · intro w'
   go_simp
   with_reducible rfl
 rotate_left
 · simp only [Act.put, sqa, sqb, sqc, i64_w, i32_w]
   rfl
 refine pure_ (i := 8) (N := some 15) (v := ?_) (a' := ?_) #[true, true, true, true, true, true, true, true, true] rfl rfl (any_of HT_.out s13q0) (fun _ _ _ h => h) (Or.inl ⟨by rfl, ?_⟩) ?_ ?_
 rotate_left
 · intro w'
   go_simp
   with_reducible rfl
 rotate_left
 · simp only [Act.put, sqa, sqb, sqc, i64_w, i32_w]
   rfl
 refine done_ (done_of HT_.out s13q0) ?_
 have hnb41 := NB255_254.out
 have hnc41 := NB254_255.out
 have hnb42 := NB255_260.out
 have hnc42 := NB260_255.out
 have hcz43_0 : w40.cell? ⟨gb255, 0, none⟩ = some (.slice A2_0 l2_0.length c2_0) := (blk_cell BK255.out 0).trans rfl
 have hcz43_1 : w40.cell? ⟨gb255, 1, none⟩ = some (.int .i64 a2_1) := (blk_cell BK255.out 1).trans rfl
 have hfz43_0 := blk_frozen BK255.out 0
 have hfz43_1 := blk_frozen BK255.out 1
 have p266 : 0 ≤ ((ji32) : Int) := of_decide_eq_true s13q2
 have q266 : (ji32) < (l2_0.length : Int) := of_decide_eq_true s13q2
 obtain ⟨ad266, e266, hx266_0⟩ := Kd.at_int HR2_0.out (ji32) p266 q266
 cases e266
 replace hx266_0 := (HB.out.cell (World.block_lt_of_cell? w _ hx266_0)).trans hx266_0
 replace p266 := eq_true p266
 replace q266 := eq_true q266
 try go_wp2
 first | go_roundg k2 | (refine Handed.intro k2 ?measure ?_; rotate_left; go_step; (repeat apply Exists.intro); simp only [add_plain]; refine ⟨?rel, rfl⟩)
 case measure => have := HK1.out; have := HK2.out; omega
 case rel => exact ⟨(((Go.bits .and .u8 (ji37) 1) == 1)), (wrap64 (x47_2 + 1)), (by first | rfl | (simp; done) | (simp only [← hji37] <;> (first | rfl | simp)) | (simp [*]; done)), s13q1, H', ⟨by have := HK1.out; have := HK2.out; omega⟩, ⟨by (with_reducible repeat (first | apply Kd.R_alloc | apply Kd.R_drewN | apply Kd.R_drew)); exact HO_9.out⟩, ⟨by (with_reducible repeat (first | apply Kd.R_alloc | apply Kd.R_drewN | apply Kd.R_drew)); exact HO_12.out⟩, ⟨by (with_reducible repeat (first | refine blk_drewN ?_ _ | refine blk_drew ?_ | refine blk_alloc ?_ _)); exact BK254.out⟩, ⟨by (with_reducible repeat (first | refine blk_drewN ?_ _ | refine blk_drew ?_ | refine blk_alloc ?_ _)); exact BK255.out⟩, ⟨by (with_reducible repeat (first | refine blk_drewN ?_ _ | refine blk_drew ?_ | refine blk_alloc ?_ _)); exact BK260.out⟩, ⟨by repeat (first | (with_reducible first | exact HB.out | apply below_alloc | apply pw_below_drewN | apply below_drew1 | refine below_set ?_ GE254.out | refine below_set ?_ GE255.out | refine below_set ?_ GE260.out) | exact HB.out)⟩⟩
end Go.Proofs.YtgdbkhbaekeijaaDoor.F
