-- Printed by a program of this session (a patched print).
import Derived.Test.YtgdbkhbaekeijaaDoorFx0
import Derived.Test.YtgdbkhbaekeijaaDoorFx6
import Derived.Test.YtgdbkhbaekeijaaDoorFx9
import Derived.Test.YtgdbkhbaekeijaaDoorFx10
import Derived.Test.YtgdbkhbaekeijaaDoorFx11
namespace Go.Proofs.YtgdbkhbaekeijaaDoor.F
open Go.RowKit Go.Proofs.YtgdbkhbaekeijaaDoorW.PrintWords Go.Proofs.YtgdbkhbaekeijaaDoorW.PrintLast Go.Proofs.YtgdbkhbaekeijaaDoorW.PrintMore
attribute [local go_sem] max2_int min2_int max_two min_two max_three min_three max_four min_four   -- for this text's walks alone
set_option linter.unusedVariables false
set_option linter.unusedSimpArgs false

theorem s14q0 {p : Prop} (h : p := by kernel_rfl) : p := h
theorem s14q1 {p : Prop} (h : p := by first | rfl | (simp; done) | (simp [*]; done)) : p := h
theorem s14q2 {p : Prop} (h : p := by first | (with_reducible assumption) | assumption) : p := h
theorem s14q3 {p : Prop} (h : p := by (with_reducible repeat (first | apply Kd.R_alloc | apply Kd.R_drewN | apply Kd.R_drew)); exact HO_9.out) : p := h
theorem s14q4 {p : Prop} (h : p := by (with_reducible repeat (first | apply Kd.R_alloc | apply Kd.R_drewN | apply Kd.R_drew)); exact HO282.out) : p := h
theorem s14q5 {p : Prop} (h : p := by (with_reducible repeat (first | refine blk_drewN ?_ _ | refine blk_drew ?_ | refine blk_alloc ?_ _)); exact BK270.out) : p := h
theorem s14q6 {p : Prop} (h : p := by (with_reducible repeat (first | refine blk_drewN ?_ _ | refine blk_drew ?_ | refine blk_alloc ?_ _)); exact BK273.out) : p := h
theorem s14q7 {p : Prop} (h : p := by (with_reducible repeat (first | refine blk_drewN ?_ _ | refine blk_drew ?_ | refine blk_alloc ?_ _)); exact BK274.out) : p := h
theorem s14q8 {p : Prop} (h : p := by (with_reducible repeat (first | refine blk_drewN ?_ _ | refine blk_drew ?_ | refine blk_alloc ?_ _)); exact BK279.out) : p := h
theorem s14q9 {p : Prop} (h : p := by repeat (first | (with_reducible first | exact HB.out | apply below_alloc | apply pw_below_drewN | apply below_drew1) | exact HB.out)) : p := h
theorem s14q10 {p : Prop} (h : p := by (try simp only [List.map_toArray, List.map_cons, List.map_nil]); first | done | rfl | (simp only [List.length_drop, List.length_take]; rfl)) : p := h
theorem s14q11 {p : Prop} (h : p := by repeat (first | (with_reducible first | exact HB.out | apply below_alloc | apply pw_below_drewN | apply below_drew1 | refine below_set ?_ GE270.out) | exact HB.out)) : p := h
theorem s14q12 {p : Prop} (h : p := by repeat (first | (with_reducible first | exact HB.out | apply below_alloc | apply pw_below_drewN | apply below_drew1 | refine below_set ?_ GE273.out) | exact HB.out)) : p := h
theorem s14q13 {p : Prop} (h : p := by repeat (first | (with_reducible first | exact HB.out | apply below_alloc | apply pw_below_drewN | apply below_drew1 | refine below_set ?_ GE273.out | refine below_set ?_ GE274.out) | exact HB.out)) : p := h
theorem s14q14 {p : Prop} (h : p := by repeat (first | (with_reducible first | exact HB.out | apply below_alloc | apply pw_below_drewN | apply below_drew1 | refine below_set ?_ GE273.out | refine below_set ?_ GE274.out | refine below_set ?_ GE279.out) | exact HB.out)) : p := h
theorem s14q15 {p : Prop} (h : p := by (with_reducible repeat (first | refine blk_drewN ?_ _ | refine blk_drew ?_ | refine blk_alloc ?_ _)); refine blk_far ?_ NB273_279.out _; (with_reducible repeat (first | refine blk_drewN ?_ _ | refine blk_drew ?_ | refine blk_alloc ?_ _)); exact BK273.out) : p := h
theorem s14q16 {p : Prop} (h : p := by (with_reducible repeat (first | refine blk_drewN ?_ _ | refine blk_drew ?_ | refine blk_alloc ?_ _)); refine blk_far ?_ NB274_279.out _; (with_reducible repeat (first | refine blk_drewN ?_ _ | refine blk_drew ?_ | refine blk_alloc ?_ _)); exact BK274.out) : p := h
theorem s14q17 {p : Prop} (h : p := by (with_reducible repeat (first | refine blk_drewN ?_ _ | refine blk_drew ?_ | refine blk_alloc ?_ _)); refine blk_put (cs := #[.slice none 0 0]) ?_ 0 _ rfl; (with_reducible repeat (first | refine blk_drewN ?_ _ | refine blk_drew ?_ | refine blk_alloc ?_ _)); exact BK279.out) : p := h
theorem s14q18 {p : Prop} (h : p := by (with_reducible repeat (first | apply Kd.R_alloc | apply Kd.R_drewN | apply Kd.R_drew)); exact (Kd.R_mono (Kd.R_far (p := ⟨gb279, 0, none⟩) (Kd.R_types HO_9.out BK279.out (by decide)) (fun _ hk => hk.2) (.slice A278_0 ((rd_T43 l0_1 x32_1).f0).length c278_0)) (fun _ h_ => h_.1))) : p := h
theorem s14q19 {p : Prop} (h : p := by rw [hg]; exact (below_size s14q9)) : p := h
theorem s14q20 {p : Prop} (h : p := by rw [hg]; exact (below_size s14q12)) : p := h
theorem s14q21 {p : Prop} (h : p := by rw [hg]; exact (below_size s14q13)) : p := h
theorem s14q22 {p : Prop} (h : p := by rw [hg]; exact Nat.ne_of_gt (blk_lt (g := gb274) (o := .cells #[.slice A2_0 l2_0.length c2_0, .int .i64 a2_1] 29 (0, 0)) s14q7)) : p := h
theorem s14q23 {p : Prop} (h : p := by rw [hg]; exact Nat.ne_of_lt (blk_lt (g := gb274) (o := .cells #[.slice A2_0 l2_0.length c2_0, .int .i64 a2_1] 29 (0, 0)) s14q7)) : p := h
theorem s14q24 {p : Prop} (h : p := by rw [hg]; exact Nat.ne_of_gt (blk_lt (g := gb273) (o := .cells #[.slice A0_0 l0_0.length c0_0, .slice A0_1 l0_1.length c0_1] 25 (0, 0)) s14q6)) : p := h
theorem s14q25 {p : Prop} (h : p := by rw [hg]; exact Nat.ne_of_lt (blk_lt (g := gb273) (o := .cells #[.slice A0_0 l0_0.length c0_0, .slice A0_1 l0_1.length c0_1] 25 (0, 0)) s14q6)) : p := h
theorem s14q26 {p : Prop} (h : p := by rw [hg]; exact Nat.ne_of_gt (blk_lt (g := gb273) (o := .cells #[.slice A0_0 l0_0.length c0_0, .slice (some ad278) l0_1.length c0_1] 25 (0, 0)) s14q6)) : p := h
theorem s14q27 {p : Prop} (h : p := by rw [hg]; exact Nat.ne_of_lt (blk_lt (g := gb273) (o := .cells #[.slice A0_0 l0_0.length c0_0, .slice (some ad278) l0_1.length c0_1] 25 (0, 0)) s14q6)) : p := h
theorem s14q28 {p : Prop} (h : p := by rw [if_neg (show ¬ (false = true) by decide)] at H; exact H) : p := h
theorem s14q29 {p : Prop} (h : p := by rw [if_pos rfl] at H; exact H) : p := h
/-! ### peristyleref8_passes: function 21 -/
def peristyleref8_passes.l0 : Nat → List (S54) → Int → Int → List Int → Int → Option (Bool)
  | 0, _, _, _, _, _ => none
  | k + 1, x1, x8, x9, x271000, x271001 => if x9 < x8 then ((peristyleref8_hash.f k x1 x9).bind fun t271 => (if (wrap64 (8 * (x271000.length : Int))) = 0 then (none) else (if 0 ≤ (wrap64 (Int.tdiv (Int.tmod t271 (wrap64 (8 * (x271000.length : Int)))) 8)) then (if (wrap64 (Int.tdiv (Int.tmod t271 (wrap64 (8 * (x271000.length : Int)))) 8)) < (x271000.length : Int) then (if 0 ≤ (Int.tmod (Int.tmod t271 (wrap64 (8 * (x271000.length : Int)))) 8) then (if (Go.bits .and .u8 (shr .u8 (rd x271000 (wrap64 (Int.tdiv (Int.tmod t271 (wrap64 (8 * (x271000.length : Int)))) 8))) (Int.tmod (Int.tmod t271 (wrap64 (8 * (x271000.length : Int)))) 8)) 1) = 0 then (some false) else (peristyleref8_passes.l0 k x1 x8 (wrap64 (x9 + 1)) x271000 x271001)) else (none)) else (none)) else (none)))) else (some true)
def peristyleref8_passes.f (k : Nat) (l0_0 : List Int) (a0_1 : Int) (l1 : List (S54)) : Option (Bool) := peristyleref8_passes.l0 k l1 a0_1 0 l0_0 a0_1
theorem peristyleref8_passes.mono_l : ∀ k, (∀ y0 y1 y2 y3 y4, LeO (peristyleref8_passes.l0 k y0 y1 y2 y3 y4) (peristyleref8_passes.l0 (k + 1) y0 y1 y2 y3 y4))
  | 0 => fun _ _ _ _ _ r h => by simp [peristyleref8_passes.l0] at h
  | k + 1 => by
    have ih0 := peristyleref8_passes.mono_l k
    · intro y0 y1 y2 y3 y4
      unfold peristyleref8_passes.l0
      repeat' first | (with_reducible exact ih0 _ _ _ _ _) | (with_reducible exact peristyleref8_hash.mono _ _ _) | (with_reducible exact LeO.refl _) | (with_reducible exact LeO.none _) | (with_reducible refine LeO.ite ?_ ?_) | (with_reducible refine LeO.bind ?_ (fun _ => ?_)) | exact ih0 _ _ _ _ _ | exact peristyleref8_hash.mono _ _ _ | exact LeO.none _ | refine LeO.ite ?_ ?_ | refine LeO.bind ?_ (fun _ => ?_)
theorem peristyleref8_passes.mono : ∀ a0 a1 a2 k, LeO (peristyleref8_passes.f k a0 a1 a2) (peristyleref8_passes.f (k + 1) a0 a1 a2) := by
 intro a0 a1 a2 k
 have ih0 := peristyleref8_passes.mono_l k
 unfold peristyleref8_passes.f
 repeat' first
  | (with_reducible exact ih0 _ _ _ _ _)
  | (with_reducible exact peristyleref8_hash.mono _ _ _)
  | (with_reducible exact LeO.refl _)
  | (with_reducible exact LeO.none _)
  | (with_reducible refine LeO.ite ?_ ?_)
  | (with_reducible refine LeO.bind ?_ (fun _ => ?_))
  | exact ih0 _ _ _ _ _
  | exact peristyleref8_hash.mono _ _ _
  | exact LeO.none _
  | refine LeO.ite ?_ ?_
  | refine LeO.bind ?_ (fun _ => ?_)
def peristyleref8_passes.T4 : Bool × List (List Nat × List Nat) := (true, [([], []), ([], []), ([0, 1], [0, 1]), ([], []), ([3], [3]), ([4], [4]), ([5], [5]), ([2, 6], [2, 6]), ([7, 2, 0, 1, 2, 3, 4, 5, 6, 7], [7])])
def peristyleref8_passes.B4 : List Nat := [0, 0, 3, 0, 8, 24, 56, 127, 255]
theorem peristyleref8_passes.tab4 : rtab .any (opsOf Tryd.f21 4) = peristyleref8_passes.T4 := by kernel_rfl
theorem peristyleref8_passes.bits4 : waitsOk peristyleref8_passes.T4.2 peristyleref8_passes.B4 = true := by kernel_rfl
set_option maxHeartbeats 8000000 in
set_option maxRecDepth 100000 in
theorem peristyleref8_passes.calls (k : Nat) (A0_0 : Option Addr) (c0_0 : Nat) (l0_0 : List Int) (a0_1 : Int) (A1 : Option Addr) (c1 : Nat) (l1 : List (S54)) (r : Bool) (w : World) (hr0_0 : Kd.C (Kd.int .u8) w A0_0 l0_0.length l0_0) (hc0_0 : l0_0.length ≤ c0_0) (hr1 : Kd.C k54 w A1 l1.length l1) (hc1 : l1.length ≤ c1) (hG : Glob w) (h : peristyleref8_passes.f k l0_0 a0_1 l1 = some r) :
    Calls Tryd.prog 21 #[.agg #[.slice A0_0 l0_0.length c0_0, .int .i64 a0_1], .slice A1 l1.length c1] w fun e w' => e = .returned (.bool r) ∧ Below w.heap.size w w' := by
 have hu29 := Tryd.underlying29
 have HG := Aside0.mk hG
 clear hG
 have HR0_0 := Aside0.mk hr0_0
 have HC0_0 := Aside0.mk hc0_0
 clear hr0_0 hc0_0
 have HR1 := Aside0.mk hr1
 have HC1 := Aside0.mk hc1
 clear hr1 hc1
 have HB := Aside0.mk (Below.refl w.heap.size w)
 have H : (peristyleref8_passes.l0 k l1 a0_1 0 l0_0 a0_1) = some r := h
 clear h
 have H' := Aside0.mk H
 clear H
 go_enter Tryd.func21, Tryd.ntmps21
 go_wp2_with (first | ((with_reducible refine gate_dst (N := 2) rfl ?_); refine box_event ?hg (N := 2) ?hd (cs := #[.slice A0_0 l0_0.length c0_0, .int .i64 a0_1]) (t := 29) ?hr ?_; (case hd => rfl); (case hg => rfl); (case hr => first | (go_simp; done) | (go_simp; rfl)); intro gb270 hg w3 hbox hb; have n0_ := Aside0.mk (below_step s14q9 hb); have n1_ := Aside0.mk (hbox); have n2_ := Aside0.mk ((s14q19 : w.heap.size ≤ gb270)); have n3_ := Aside0.mk ((s14q19 : w.heap.size ≤ gb270)); clear HB; have HB := n0_; have BK270 := n1_; have GW270 := n2_; have GE270 := n3_; clear n0_ n1_ n2_ n3_; clear hb hbox hg; have hcz4_0 : w3.cell? ⟨gb270, 0, none⟩ = some (.slice A0_0 l0_0.length c0_0) := (blk_cell BK270.out 0).trans rfl; have hcz4_1 : w3.cell? ⟨gb270, 1, none⟩ = some (.int .i64 a0_1) := (blk_cell BK270.out 1).trans rfl; have hfz4_0 := blk_frozen BK270.out 0; have hfz4_1 := blk_frozen BK270.out 1))
 go_loopg [9] k (fun kq v9 w' => ∃ (x9_1 : Int), v9 = .int .i64 x9_1 ∧ Aside0 (peristyleref8_passes.l0 kq l1 a0_1 x9_1 l0_0 a0_1 = some r) ∧ Aside0 (kq ≤ k) ∧ Aside0 (w'.heap[gb270]? = some (.cells #[(.slice A0_0 l0_0.length c0_0), .int .i64 a0_1] 29 (0, 0))) ∧ Aside0 (Below w.heap.size w w'))
 case atStart => exact ⟨(0), s14q1, H', ⟨Nat.le_refl _⟩, ⟨by (with_reducible repeat (first | refine blk_drewN ?_ _ | refine blk_drew ?_ | refine blk_alloc ?_ _)); exact BK270.out⟩, ⟨by repeat (first | (with_reducible first | exact HB.out | apply below_alloc | apply pw_below_drewN | apply below_drew1 | refine below_set ?_ GE270.out) | exact HB.out)⟩⟩
 clear H'
 try clear c1
 try clear c2
 try clear p2
 try clear hcz4_0
 try clear hcz4_1
 try clear hfz4_0
 try clear hfz4_1
 obtain ⟨x9_1, rfl, HA, HK1, BK270, HB⟩ := hrel
 cases gk with
 | zero => exact absurd HA.out (by simp [peristyleref8_passes.l0])
 | succ k1 => ?_
 have H := HA.out
 clear HA
 simp only [peristyleref8_passes.l0] at H
 by_cases c5 : x9_1 < a0_1
 case neg =>
  rw [if_neg c5] at H
  have c5b0 : decide (x9_1 < a0_1) = false := decide_eq_false c5
  clear c5
  obtain rfl := Option.some.inj H
  go_wp2
  go_ret
  exact ⟨by first | rfl | (simp [errW_none, errW_some] <;> rfl) | (simp [*, errW_none, errW_some] <;> rfl), by repeat (first | (with_reducible first | exact HB.out | apply below_alloc | apply pw_below_drewN | apply below_drew1 | refine below_set ?_ GE270.out) | exact HB.out)⟩
 rw [if_pos c5] at H
 have c5b0 : decide (x9_1 < a0_1) = true := decide_eq_true c5
 clear c5
 replace H := Option.bind_eq_some_iff.mp H
 obtain ⟨t271, A60, H⟩ := H
 replace H : (if (wrap64 (8 * (l0_0.length : Int))) = 0 then (none) else (if 0 ≤ (wrap64 (Int.tdiv (Int.tmod t271 (wrap64 (8 * (l0_0.length : Int)))) 8)) then (if (wrap64 (Int.tdiv (Int.tmod t271 (wrap64 (8 * (l0_0.length : Int)))) 8)) < (l0_0.length : Int) then (if 0 ≤ (Int.tmod (Int.tmod t271 (wrap64 (8 * (l0_0.length : Int)))) 8) then (if (Go.bits .and .u8 (shr .u8 (rd l0_0 (wrap64 (Int.tdiv (Int.tmod t271 (wrap64 (8 * (l0_0.length : Int)))) 8))) (Int.tmod (Int.tmod t271 (wrap64 (8 * (l0_0.length : Int)))) 8)) 1) = 0 then (some false) else (peristyleref8_passes.l0 k1 l1 a0_1 (wrap64 (x9_1 + 1)) l0_0 a0_1)) else (none)) else (none)) else (none))) = some r := H
 have A6 := Aside0.mk A60
 clear A60
 by_cases c7 : (wrap64 (8 * (l0_0.length : Int))) = 0
 · rw [if_pos c7] at H
   exact absurd H (by simp)
 rw [if_neg c7] at H
 have c7b0 : ((wrap64 (8 * (l0_0.length : Int))) == 0) = false := beq_eq_false_iff_ne.mpr c7
 have c7b1 : ((wrap64 (8 * (l0_0.length : Int))) != 0) = true := bne_iff_ne.mpr c7
 obtain ⟨ji8, hji8⟩ : ∃ j_ : Int, (wrap64 (Int.tdiv (Int.tmod t271 (wrap64 (8 * (l0_0.length : Int)))) 8)) = j_ := ⟨_, rfl⟩
 replace H : (if 0 ≤ (ji8) then (if (ji8) < (l0_0.length : Int) then (if 0 ≤ (Int.tmod (Int.tmod t271 (wrap64 (8 * (l0_0.length : Int)))) 8) then (if (Go.bits .and .u8 (shr .u8 (rd l0_0 (ji8)) (Int.tmod (Int.tmod t271 (wrap64 (8 * (l0_0.length : Int)))) 8)) 1) = 0 then (some false) else (peristyleref8_passes.l0 k1 l1 a0_1 (wrap64 (x9_1 + 1)) l0_0 a0_1)) else (none)) else (none)) else (none)) = some r := by first | (rw [hji8] at H; exact H) | (simp only [hji8] at H ⊢; exact H)
 (try rw [hji8] at A6)
 have hji8w : (IntKind.i64.wrap (Int.tdiv (Int.tmod t271 (wrap64 (8 * (l0_0.length : Int)))) 8)) = ji8 := (i64_w _).trans hji8
 by_cases c9 : 0 ≤ (ji8)
 case neg =>
  rw [if_neg c9] at H
  exact absurd H (by simp)
 rw [if_pos c9] at H
 have c9b0 : decide (0 ≤ (ji8)) = true := decide_eq_true c9
 clear c9
 by_cases c10 : (ji8) < (l0_0.length : Int)
 case neg =>
  rw [if_neg c10] at H
  exact absurd H (by simp)
 rw [if_pos c10] at H
 have c10b0 : decide ((ji8) < (l0_0.length : Int)) = true := decide_eq_true c10
 clear c10
 obtain ⟨ji11, hji11⟩ : ∃ j_ : Int, (Int.tmod (Int.tmod t271 (wrap64 (8 * (l0_0.length : Int)))) 8) = j_ := ⟨_, rfl⟩
 replace H : (if 0 ≤ (ji11) then (if (Go.bits .and .u8 (shr .u8 (rd l0_0 (ji8)) (ji11)) 1) = 0 then (some false) else (peristyleref8_passes.l0 k1 l1 a0_1 (wrap64 (x9_1 + 1)) l0_0 a0_1)) else (none)) = some r := by first | (rw [hji11] at H; exact H) | (simp only [hji11] at H ⊢; exact H)
 (try rw [hji11] at A6)
 by_cases c12 : 0 ≤ (ji11)
 case neg =>
  rw [if_neg c12] at H
  exact absurd H (by simp)
 rw [if_pos c12] at H
 have c12b0 := eq_true c12
 have c12b1 : decide (0 ≤ (ji11)) = true := decide_eq_true c12
 clear c12
 obtain ⟨ji13, hji13⟩ : ∃ j_ : Int, (shr .u8 (rd l0_0 (ji8)) (ji11)) = j_ := ⟨_, rfl⟩
 replace H : (if (Go.bits .and .u8 (ji13) 1) = 0 then (some false) else (peristyleref8_passes.l0 k1 l1 a0_1 (wrap64 (x9_1 + 1)) l0_0 a0_1)) = some r := by first | (rw [hji13] at H; exact H) | (simp only [hji13] at H ⊢; exact H)
 (try rw [hji13] at A6)
 have hji13_ : ((rd l0_0 (ji8)) / 2 ^ min (ji11).toNat 8) = ji13 := hji13
 have hji13z : (ji11) ≤ 8 → ((rd l0_0 (ji8)) / 2 ^ (ji11).toNat) = ji13 := shr_small hji13
 by_cases c14 : (Go.bits .and .u8 (ji13) 1) = 0
 · rw [if_pos c14] at H
   have c14b0 : ((Go.bits .and .u8 (ji13) 1) == 0) = true := beq_iff_eq.mpr c14
   have c14b1 : ((Go.bits .and .u8 (ji13) 1) != 0) = false := bne_eq_false_iff_eq.mpr c14
   clear c14
   obtain rfl := Option.some.inj H
   try go_wp2
   have n0_ := Aside0.mk (blk_drew BK270.out)
   have n1_ := Aside0.mk (below_drew1 HB.out)
   clear BK270
   clear HB
   have BK270 := n0_
   have HB := n1_
   clear n0_ n1_
   refine start_ (n := 9) (S := fun w' => w'.cell? ⟨gb270, 0, none⟩ = some (.slice A0_0 l0_0.length c0_0) ∧ w'.cell? ⟨gb270, 1, none⟩ = some (.int .i64 a0_1)) (ds := []) #[false, false, false, false, false, false, false, false, false] s14q0 rfl rfl ⟨(blk_cell BK270.out 0).trans rfl, (blk_cell BK270.out 1).trans rfl⟩ (fun hHeld => ?_); refine with_tabW peristyleref8_passes.tab4 peristyleref8_passes.bits4 (fun HT_ HW_ => ?_)
   generalize wr.drew = w15 at BK270 HB hHeld ⊢
   refine pure_ (i := 0) (N := some 12) (v := ?_) (a' := ?_) #[true, false, false, false, false, false, false, false, false] rfl rfl (any_of HT_.out s14q0) (fun _ _ _ h => h) (Or.inl ⟨by rfl, ?_⟩) ?_ ?_
   rotate_left
   · intro w'
     go_simp
     with_reducible rfl
   rotate_left
   · simp only [Act.put, sqa, sqb, sqc, i64_w, i32_w]
     rfl
   refine pure_ (i := 1) (N := some 13) (v := ?_) (a' := ?_) #[true, true, false, false, false, false, false, false, false] rfl rfl (any_of HT_.out s14q0) (fun _ _ _ h => h) (Or.inl ⟨by rfl, ?_⟩) ?_ ?_
   rotate_left
   · intro w'
     go_simp
     with_reducible rfl
   rotate_left
   · simp only [Act.put, sqa, sqb, sqc, i64_w, i32_w]
     rfl
   refine pure_ (i := 3) (N := some 15) (v := ?_) (a' := ?_) #[true, true, false, true, false, false, false, false, false] rfl rfl (any_of HT_.out s14q0) (fun _ _ _ h => h) (Or.inl ⟨by rfl, ?_⟩) ?_ ?_
   rotate_left
   · intro w'
     go_simp
     with_reducible rfl
   rotate_left
   · simp only [Act.put, sqa, sqb, sqc, i64_w, i32_w]
     rfl
   refine take_ (i := 4) (N := some 16) (v := ?_) (a' := ?_) #[true, true, false, true, true, false, false, false, false] rfl rfl (take_ofW HT_.out HW_.out s14q0) (fun _ _ _ h => h) (Or.inl ⟨by rfl, ?_⟩) hHeld ?_ ?_
   rotate_left
   · rintro w' ⟨s0, s1⟩
     go_simp
     with_reducible rfl
   rotate_left
   · simp only [Act.put, sqa, sqb, sqc, i64_w, i32_w]
     rfl
   refine pure_ (i := 5) (N := some 17) (v := ?_) (a' := ?_) #[true, true, false, true, true, true, false, false, false] rfl rfl (any_of HT_.out s14q0) (fun _ _ _ h => h) (Or.inl ⟨by rfl, ?_⟩) ?_ ?_
   rotate_left
   · intro w'
     go_simp
     with_reducible rfl
   rotate_left
   · simp only [Act.put, sqa, sqb, sqc, i64_w, i32_w]
     rfl
   refine pure_ (i := 6) (N := some 18) (v := ?_) (a' := ?_) #[true, true, false, true, true, true, true, false, false] rfl rfl (any_of HT_.out s14q0) (fun _ _ _ h => h) (Or.inl ⟨by rfl, ?_⟩) ?_ ?_
   rotate_left
   · intro w'
     go_simp
     with_reducible rfl
   rotate_left
   · simp only [Act.put, sqa, sqb, sqc, i64_w, i32_w]
     rfl
   refine one_ (i := 2) (N := some 14) #[true, true, true, true, true, true, true, false, false] rfl rfl (one_of HT_.out s14q0) (by decide) (fun K hK => ?_)
   refine goes_ Tryd.func18 s14q0 rfl #[.slice A1 l1.length c1, .int .i64 x9_1] (by rfl) rfl rfl s14q10 ?_
   with_reducible refine (peristyleref8_hash.calls k1 _ _ l1 x9_1 t271 _ ?side1 ?side2 ?side3 A6.out).mono ?_
   (case side1 => repeat (first | exact (Kd.C_below HR1.out HB.out) | (with_reducible refine Kd.C_alloc ?_ _) | (with_reducible refine Kd.C_drewN ?_ _) | (with_reducible refine Kd.C_drew ?_)))
   (case side2 => exact HC1.out)
   (case side3 => exact Glob_below HG.out s14q11)
   rintro e w16 ⟨rfl, hb⟩
   refine ⟨_, rfl, ?_⟩
   have n0_ := Aside0.mk (blk_below (g := gb270) (o := .cells #[.slice A0_0 l0_0.length c0_0, .int .i64 a0_1] 29 (0, 0)) s14q5 hb)
   have n1_ := Aside0.mk (below_step s14q11 hb)
   clear BK270
   clear HB
   have BK270 := n0_
   have HB := n1_
   clear n0_ n1_
   (try clear hb)
   (try clear hb2)
   (try clear hk)
   (try clear hi)
   refine hK.out _ _ ⟨(blk_cell BK270.out 0).trans rfl, (blk_cell BK270.out 1).trans rfl⟩ (fun hHeld => ?_)
   clear hK K
   refine norm_ (a' := ?_) ?_ ?_
   rotate_left
   · show Act.put _ (some 14) _ = _
     simp only [Act.put, sqa, sqb, sqc, i64_w, i32_w]
     rfl
   refine pure_ (i := 7) (N := some 19) (v := ?_) (a' := ?_) #[true, true, true, true, true, true, true, true, false] rfl rfl (any_of HT_.out s14q0) (fun _ _ _ h => h) (Or.inl ⟨by rfl, ?_⟩) ?_ ?_
   rotate_left
   · intro w'
     go_simp
     with_reducible rfl
   rotate_left
   · simp only [Act.put, sqa, sqb, sqc, i64_w, i32_w]
     rfl
   refine pure_ (i := 8) (N := some 6) (v := ?_) (a' := ?_) #[true, true, true, true, true, true, true, true, true] rfl rfl (any_of HT_.out s14q0) (fun _ _ _ h => h) (Or.inl ⟨by rfl, ?_⟩) ?_ ?_
   rotate_left
   · intro w'
     go_simp
     with_reducible rfl
   rotate_left
   · simp only [Act.put, sqa, sqb, sqc, i64_w, i32_w]
     rfl
   refine done_ (done_of HT_.out s14q0) ?_
   have hcz17_0 : w16.cell? ⟨gb270, 0, none⟩ = some (.slice A0_0 l0_0.length c0_0) := (blk_cell BK270.out 0).trans rfl
   have hcz17_1 : w16.cell? ⟨gb270, 1, none⟩ = some (.int .i64 a0_1) := (blk_cell BK270.out 1).trans rfl
   have hfz17_0 := blk_frozen BK270.out 0
   have hfz17_1 := blk_frozen BK270.out 1
   have p272 : 0 ≤ ((ji8) : Int) := of_decide_eq_true s14q2
   have q272 : (ji8) < (l0_0.length : Int) := of_decide_eq_true s14q2
   obtain ⟨ad272, e272, hx272_0⟩ := Kd.at_int HR0_0.out (ji8) p272 q272
   cases e272
   replace hx272_0 := (HB.out.cell (World.block_lt_of_cell? w _ hx272_0)).trans hx272_0
   replace p272 := eq_true p272
   replace q272 := eq_true q272
   try go_wp2
   go_ret
   exact ⟨by first | rfl | (simp [errW_none, errW_some] <;> rfl) | (simp only [← hji8, ← hji11, ← hji13]; first | rfl | (simp [errW_none, errW_some] <;> rfl)) | (simp [*, errW_none, errW_some] <;> rfl), by repeat (first | (with_reducible first | exact HB.out | apply below_alloc | apply pw_below_drewN | apply below_drew1 | refine below_set ?_ GE270.out) | exact HB.out)⟩
 rw [if_neg c14] at H
 have c14b0 : ((Go.bits .and .u8 (ji13) 1) == 0) = false := beq_eq_false_iff_ne.mpr c14
 have c14b1 : ((Go.bits .and .u8 (ji13) 1) != 0) = true := bne_iff_ne.mpr c14
 have H' := Aside0.mk H
 clear H
 try go_wp2
 have n0_ := Aside0.mk (blk_drew BK270.out)
 have n1_ := Aside0.mk (below_drew1 HB.out)
 clear BK270
 clear HB
 have BK270 := n0_
 have HB := n1_
 clear n0_ n1_
 refine start_ (n := 9) (S := fun w' => w'.cell? ⟨gb270, 0, none⟩ = some (.slice A0_0 l0_0.length c0_0) ∧ w'.cell? ⟨gb270, 1, none⟩ = some (.int .i64 a0_1)) (ds := []) #[false, false, false, false, false, false, false, false, false] s14q0 rfl rfl ⟨(blk_cell BK270.out 0).trans rfl, (blk_cell BK270.out 1).trans rfl⟩ (fun hHeld => ?_); refine with_tabW peristyleref8_passes.tab4 peristyleref8_passes.bits4 (fun HT_ HW_ => ?_)
 generalize wr.drew = w18 at BK270 HB hHeld ⊢
 refine pure_ (i := 0) (N := some 12) (v := ?_) (a' := ?_) #[true, false, false, false, false, false, false, false, false] rfl rfl (any_of HT_.out s14q0) (fun _ _ _ h => h) (Or.inl ⟨by rfl, ?_⟩) ?_ ?_
 rotate_left
 · intro w'
   go_simp
   with_reducible rfl
 rotate_left
 · simp only [Act.put, sqa, sqb, sqc, i64_w, i32_w]
   rfl
 refine pure_ (i := 1) (N := some 13) (v := ?_) (a' := ?_) #[true, true, false, false, false, false, false, false, false] rfl rfl (any_of HT_.out s14q0) (fun _ _ _ h => h) (Or.inl ⟨by rfl, ?_⟩) ?_ ?_
 rotate_left
 · intro w'
   go_simp
   with_reducible rfl
 rotate_left
 · simp only [Act.put, sqa, sqb, sqc, i64_w, i32_w]
   rfl
 refine pure_ (i := 3) (N := some 15) (v := ?_) (a' := ?_) #[true, true, false, true, false, false, false, false, false] rfl rfl (any_of HT_.out s14q0) (fun _ _ _ h => h) (Or.inl ⟨by rfl, ?_⟩) ?_ ?_
 rotate_left
 · intro w'
   go_simp
   with_reducible rfl
 rotate_left
 · simp only [Act.put, sqa, sqb, sqc, i64_w, i32_w]
   rfl
 refine take_ (i := 4) (N := some 16) (v := ?_) (a' := ?_) #[true, true, false, true, true, false, false, false, false] rfl rfl (take_ofW HT_.out HW_.out s14q0) (fun _ _ _ h => h) (Or.inl ⟨by rfl, ?_⟩) hHeld ?_ ?_
 rotate_left
 · rintro w' ⟨s0, s1⟩
   go_simp
   with_reducible rfl
 rotate_left
 · simp only [Act.put, sqa, sqb, sqc, i64_w, i32_w]
   rfl
 refine pure_ (i := 5) (N := some 17) (v := ?_) (a' := ?_) #[true, true, false, true, true, true, false, false, false] rfl rfl (any_of HT_.out s14q0) (fun _ _ _ h => h) (Or.inl ⟨by rfl, ?_⟩) ?_ ?_
 rotate_left
 · intro w'
   go_simp
   with_reducible rfl
 rotate_left
 · simp only [Act.put, sqa, sqb, sqc, i64_w, i32_w]
   rfl
 refine pure_ (i := 6) (N := some 18) (v := ?_) (a' := ?_) #[true, true, false, true, true, true, true, false, false] rfl rfl (any_of HT_.out s14q0) (fun _ _ _ h => h) (Or.inl ⟨by rfl, ?_⟩) ?_ ?_
 rotate_left
 · intro w'
   go_simp
   with_reducible rfl
 rotate_left
 · simp only [Act.put, sqa, sqb, sqc, i64_w, i32_w]
   rfl
 refine one_ (i := 2) (N := some 14) #[true, true, true, true, true, true, true, false, false] rfl rfl (one_of HT_.out s14q0) (by decide) (fun K hK => ?_)
 refine goes_ Tryd.func18 s14q0 rfl #[.slice A1 l1.length c1, .int .i64 x9_1] (by rfl) rfl rfl s14q10 ?_
 with_reducible refine (peristyleref8_hash.calls k1 _ _ l1 x9_1 t271 _ ?side1 ?side2 ?side3 A6.out).mono ?_
 (case side1 => repeat (first | exact (Kd.C_below HR1.out HB.out) | (with_reducible refine Kd.C_alloc ?_ _) | (with_reducible refine Kd.C_drewN ?_ _) | (with_reducible refine Kd.C_drew ?_)))
 (case side2 => exact HC1.out)
 (case side3 => exact Glob_below HG.out s14q11)
 rintro e w19 ⟨rfl, hb⟩
 refine ⟨_, rfl, ?_⟩
 have n0_ := Aside0.mk (blk_below (g := gb270) (o := .cells #[.slice A0_0 l0_0.length c0_0, .int .i64 a0_1] 29 (0, 0)) s14q5 hb)
 have n1_ := Aside0.mk (below_step s14q11 hb)
 clear BK270
 clear HB
 have BK270 := n0_
 have HB := n1_
 clear n0_ n1_
 (try clear hb)
 (try clear hb2)
 (try clear hk)
 (try clear hi)
 refine hK.out _ _ ⟨(blk_cell BK270.out 0).trans rfl, (blk_cell BK270.out 1).trans rfl⟩ (fun hHeld => ?_)
 clear hK K
 refine norm_ (a' := ?_) ?_ ?_
 rotate_left
 · show Act.put _ (some 14) _ = _
   simp only [Act.put, sqa, sqb, sqc, i64_w, i32_w]
   rfl
 refine pure_ (i := 7) (N := some 19) (v := ?_) (a' := ?_) #[true, true, true, true, true, true, true, true, false] rfl rfl (any_of HT_.out s14q0) (fun _ _ _ h => h) (Or.inl ⟨by rfl, ?_⟩) ?_ ?_
 rotate_left
 · intro w'
   go_simp
   with_reducible rfl
 rotate_left
 · simp only [Act.put, sqa, sqb, sqc, i64_w, i32_w]
   rfl
 refine pure_ (i := 8) (N := some 6) (v := ?_) (a' := ?_) #[true, true, true, true, true, true, true, true, true] rfl rfl (any_of HT_.out s14q0) (fun _ _ _ h => h) (Or.inl ⟨by rfl, ?_⟩) ?_ ?_
 rotate_left
 · intro w'
   go_simp
   with_reducible rfl
 rotate_left
 · simp only [Act.put, sqa, sqb, sqc, i64_w, i32_w]
   rfl
 refine done_ (done_of HT_.out s14q0) ?_
 have hcz20_0 : w19.cell? ⟨gb270, 0, none⟩ = some (.slice A0_0 l0_0.length c0_0) := (blk_cell BK270.out 0).trans rfl
 have hcz20_1 : w19.cell? ⟨gb270, 1, none⟩ = some (.int .i64 a0_1) := (blk_cell BK270.out 1).trans rfl
 have hfz20_0 := blk_frozen BK270.out 0
 have hfz20_1 := blk_frozen BK270.out 1
 have p272 : 0 ≤ ((ji8) : Int) := of_decide_eq_true s14q2
 have q272 : (ji8) < (l0_0.length : Int) := of_decide_eq_true s14q2
 obtain ⟨ad272, e272, hx272_0⟩ := Kd.at_int HR0_0.out (ji8) p272 q272
 cases e272
 replace hx272_0 := (HB.out.cell (World.block_lt_of_cell? w _ hx272_0)).trans hx272_0
 replace p272 := eq_true p272
 replace q272 := eq_true q272
 try go_wp2
 first | go_roundg k1 | (refine Handed.intro k1 ?measure ?_; rotate_left; go_step; (repeat apply Exists.intro); simp only [add_plain]; refine ⟨?rel, rfl⟩)
 case measure => have := HK1.out; omega
 case rel => exact ⟨(wrap64 (x9_1 + 1)), s14q1, H', ⟨by have := HK1.out; omega⟩, ⟨by (with_reducible repeat (first | refine blk_drewN ?_ _ | refine blk_drew ?_ | refine blk_alloc ?_ _)); exact BK270.out⟩, ⟨by repeat (first | (with_reducible first | exact HB.out | apply below_alloc | apply pw_below_drewN | apply below_drew1 | refine below_set ?_ GE270.out) | exact HB.out)⟩⟩
/-! ### peristyleref8_Kept: function 8 -/
def peristyleref8_Kept.l0 : Nat → List Int → List Int → List (S43) → Int → Int → List Int → Int → Option (List Int × Int)
  | 0, _, _, _, _, _, _, _ => none
  | k + 1, x1, x9, x30, x31, x32, x275000, x275001 => if x32 < x31 then (if 0 ≤ x32 then (if x32 < (x30.length : Int) then ((peristyleref8_key.f k ((rd_T43 x30 x32).f0) x1).bind fun bt280 => (if bt280.2 = true then ((peristyleref8_passes.f k x275000 x275001 bt280.1).bind fun t284 => (if t284 = true then (if x9.length < 17592186044416 then (peristyleref8_Kept.l0 k x1 (x9 ++ [x32]) x30 x31 (wrap64 (x32 + 1)) x275000 x275001) else (none)) else (peristyleref8_Kept.l0 k x1 x9 x30 x31 (wrap64 (x32 + 1)) x275000 x275001))) else (peristyleref8_Kept.l0 k x1 x9 x30 x31 (wrap64 (x32 + 1)) x275000 x275001))) else (none)) else (none)) else (some (x9, 0))
def peristyleref8_Kept.f (k : Nat) (l0_0 : List (S69)) (l0_1 : List (S43)) (l1 : List Int) (l2_0 : List Int) (a2_1 : Int) : Option (List Int × Int) := (peristyleref8_checkColumns.f k l0_0 l0_1 l1).bind fun t275 => (if t275 = 0 then ((peristyleref8_within.f (l2_0.length : Int) 1 8192).bind fun t276 => (if t276 = true then ((peristyleref8_within.f a2_1 1 5).bind fun t277 => (if t277 = true then (peristyleref8_Kept.l0 k l1 ([] : List Int) l0_1 (l0_1.length : Int) 0 l2_0 a2_1) else (some (([] : List Int), 1)))) else (some (([] : List Int), 3)))) else (some (([] : List Int), t275)))
theorem peristyleref8_Kept.mono_l : ∀ k, (∀ y0 y1 y2 y3 y4 y5 y6, LeO (peristyleref8_Kept.l0 k y0 y1 y2 y3 y4 y5 y6) (peristyleref8_Kept.l0 (k + 1) y0 y1 y2 y3 y4 y5 y6))
  | 0 => fun _ _ _ _ _ _ _ r h => by simp [peristyleref8_Kept.l0] at h
  | k + 1 => by
    have ih0 := peristyleref8_Kept.mono_l k
    · intro y0 y1 y2 y3 y4 y5 y6
      unfold peristyleref8_Kept.l0
      repeat' first | (with_reducible exact ih0 _ _ _ _ _ _ _) | (with_reducible exact peristyleref8_checkColumns.mono _ _ _ _) | (with_reducible exact peristyleref8_key.mono _ _ _) | (with_reducible exact peristyleref8_passes.mono _ _ _ _) | (with_reducible exact LeO.refl _) | (with_reducible exact LeO.none _) | (with_reducible refine LeO.ite ?_ ?_) | (with_reducible refine LeO.bind ?_ (fun _ => ?_)) | exact ih0 _ _ _ _ _ _ _ | exact peristyleref8_checkColumns.mono _ _ _ _ | exact peristyleref8_key.mono _ _ _ | exact peristyleref8_passes.mono _ _ _ _ | exact LeO.none _ | refine LeO.ite ?_ ?_ | refine LeO.bind ?_ (fun _ => ?_)
theorem peristyleref8_Kept.mono : ∀ a0 a1 a2 a3 a4 k, LeO (peristyleref8_Kept.f k a0 a1 a2 a3 a4) (peristyleref8_Kept.f (k + 1) a0 a1 a2 a3 a4) := by
 intro a0 a1 a2 a3 a4 k
 have ih0 := peristyleref8_Kept.mono_l k
 unfold peristyleref8_Kept.f
 repeat' first
  | (with_reducible exact ih0 _ _ _ _ _ _ _)
  | (with_reducible exact peristyleref8_checkColumns.mono _ _ _ _)
  | (with_reducible exact peristyleref8_key.mono _ _ _)
  | (with_reducible exact peristyleref8_passes.mono _ _ _ _)
  | (with_reducible exact LeO.refl _)
  | (with_reducible exact LeO.none _)
  | (with_reducible refine LeO.ite ?_ ?_)
  | (with_reducible refine LeO.bind ?_ (fun _ => ?_))
  | exact ih0 _ _ _ _ _ _ _
  | exact peristyleref8_checkColumns.mono _ _ _ _
  | exact peristyleref8_key.mono _ _ _
  | exact peristyleref8_passes.mono _ _ _ _
  | exact LeO.none _
  | refine LeO.ite ?_ ?_
  | refine LeO.bind ?_ (fun _ => ?_)
set_option maxHeartbeats 8000000 in
set_option maxRecDepth 100000 in
theorem peristyleref8_Kept.calls (k : Nat) (A0_0 : Option Addr) (c0_0 : Nat) (l0_0 : List (S69)) (A0_1 : Option Addr) (c0_1 : Nat) (l0_1 : List (S43)) (A1 : Option Addr) (c1 : Nat) (l1 : List Int) (A2_0 : Option Addr) (c2_0 : Nat) (l2_0 : List Int) (a2_1 : Int) (r1 : List Int) (r2 : Int) (w : World) (hr0_0 : Kd.C k69 w A0_0 l0_0.length l0_0) (hc0_0 : l0_0.length ≤ c0_0) (hr0_1 : Kd.C k43 w A0_1 l0_1.length l0_1) (hc0_1 : l0_1.length ≤ c0_1) (hr1 : Kd.C (Kd.int .i64) w A1 l1.length l1) (hc1 : l1.length ≤ c1) (hr2_0 : Kd.C (Kd.int .u8) w A2_0 l2_0.length l2_0) (hc2_0 : l2_0.length ≤ c2_0) (hG : Glob w) (h : peristyleref8_Kept.f k l0_0 l0_1 l1 l2_0 a2_1 = some (r1, r2)) :
    Calls Tryd.prog 8 #[.agg #[.slice A0_0 l0_0.length c0_0, .slice A0_1 l0_1.length c0_1], .slice A1 l1.length c1, .agg #[.slice A2_0 l2_0.length c2_0, .int .i64 a2_1]] w fun e w' => ∃ v0_ : Value, e = .returned (.tuple #[v0_, .int .i64 r2]) ∧ Kd.R (Kd.int .i64) 3 w' w.heap.size (fun _ => True) v0_ r1 ∧ Below w.heap.size w w' := by
 have hu25 := Tryd.underlying25
 have hu29 := Tryd.underlying29
 have hu43 := Tryd.underlying43
 have HG := Aside0.mk hG
 clear hG
 have HR0_0 := Aside0.mk hr0_0
 have HC0_0 := Aside0.mk hc0_0
 clear hr0_0 hc0_0
 have HR0_1 := Aside0.mk hr0_1
 have HC0_1 := Aside0.mk hc0_1
 clear hr0_1 hc0_1
 have HR1 := Aside0.mk hr1
 have HC1 := Aside0.mk hc1
 clear hr1 hc1
 have HR2_0 := Aside0.mk hr2_0
 have HC2_0 := Aside0.mk hc2_0
 clear hr2_0 hc2_0
 have HB := Aside0.mk (Below.refl w.heap.size w)
 have H : ((peristyleref8_checkColumns.f k l0_0 l0_1 l1).bind fun t275 => (if t275 = 0 then ((peristyleref8_within.f (l2_0.length : Int) 1 8192).bind fun t276 => (if t276 = true then ((peristyleref8_within.f a2_1 1 5).bind fun t277 => (if t277 = true then (peristyleref8_Kept.l0 k l1 ([] : List Int) l0_1 (l0_1.length : Int) 0 l2_0 a2_1) else (some (([] : List Int), 1)))) else (some (([] : List Int), 3)))) else (some (([] : List Int), t275)))) = some (r1, r2) := h
 clear h
 replace H := Option.bind_eq_some_iff.mp H
 obtain ⟨t275, A40, H⟩ := H
 replace H : (if t275 = 0 then ((peristyleref8_within.f (l2_0.length : Int) 1 8192).bind fun t276 => (if t276 = true then ((peristyleref8_within.f a2_1 1 5).bind fun t277 => (if t277 = true then (peristyleref8_Kept.l0 k l1 ([] : List Int) l0_1 (l0_1.length : Int) 0 l2_0 a2_1) else (some (([] : List Int), 1)))) else (some (([] : List Int), 3)))) else (some (([] : List Int), t275))) = some (r1, r2) := H
 have A4 := Aside0.mk A40
 clear A40
 by_cases c5 : t275 = 0
 case neg =>
  rw [if_neg c5] at H
  have c5b0 : (t275 == 0) = false := beq_eq_false_iff_ne.mpr c5
  have c5b1 : (t275 != 0) = true := bne_iff_ne.mpr c5
  simp only [Option.some.injEq, Prod.mk.injEq] at H
  obtain ⟨rfl, rfl⟩ := H
  go_enter Tryd.func8, Tryd.ntmps8
  go_wp2_with (first | ((with_reducible refine gate_dst (N := 3) rfl ?_); refine box_event ?hg (N := 3) ?hd (cs := #[.slice A0_0 l0_0.length c0_0, .slice A0_1 l0_1.length c0_1]) (t := 25) ?hr ?_; (case hd => rfl); (case hg => rfl); (case hr => first | (go_simp; done) | (go_simp; rfl)); intro gb273 hg w61 hbox hb; have n0_ := Aside0.mk (below_step s14q9 hb); have n1_ := Aside0.mk (hbox); have n2_ := Aside0.mk ((s14q19 : w.heap.size ≤ gb273)); have n3_ := Aside0.mk ((s14q19 : w.heap.size ≤ gb273)); clear HB; have HB := n0_; have BK273 := n1_; have GW273 := n2_; have GE273 := n3_; clear n0_ n1_ n2_ n3_; clear hb hbox hg) | ((with_reducible refine gate_dst (N := 5) rfl ?_); refine box_event ?hg (N := 5) ?hd (cs := #[.slice A2_0 l2_0.length c2_0, .int .i64 a2_1]) (t := 29) ?hr ?_; (case hd => rfl); (case hg => rfl); (case hr => first | (go_simp; done) | (go_simp; rfl)); intro gb274 hg w62 hbox hb; have n0_ := Aside0.mk (blk_below (g := gb273) (o := .cells #[.slice A0_0 l0_0.length c0_0, .slice A0_1 l0_1.length c0_1] 25 (0, 0)) s14q6 hb); have n1_ := Aside0.mk (below_step s14q12 hb); have n2_ := Aside0.mk (hbox); have n3_ := Aside0.mk ((s14q20 : w.heap.size ≤ gb274)); have n4_ := Aside0.mk ((s14q20 : w.heap.size ≤ gb274)); have n5_ := Aside0.mk ((s14q25 : gb273 ≠ gb274)); have n6_ := Aside0.mk ((s14q24 : gb274 ≠ gb273)); clear BK273; clear HB; have BK273 := n0_; have HB := n1_; have BK274 := n2_; have GW274 := n3_; have GE274 := n4_; have NB273_274 := n5_; have NB274_273 := n6_; clear n0_ n1_ n2_ n3_ n4_ n5_ n6_; clear hb hbox hg; have hnb63 := NB273_274.out; have hnc63 := NB274_273.out; have hcz64_0 : w62.cell? ⟨gb273, 0, none⟩ = some (.slice A0_0 l0_0.length c0_0) := (blk_cell BK273.out 0).trans rfl; have hcz64_1 : w62.cell? ⟨gb273, 1, none⟩ = some (.slice A0_1 l0_1.length c0_1) := (blk_cell BK273.out 1).trans rfl; have hfz64_0 := blk_frozen BK273.out 0; have hfz64_1 := blk_frozen BK273.out 1) | ((with_reducible refine gate_callee (f := 15) rfl ?_); refine goesL_ (some 16) rfl rfl Tryd.func15 s14q0 rfl #[.agg #[.slice A0_0 l0_0.length c0_0, .slice A0_1 l0_1.length c0_1], .slice A1 l1.length c1] rfl s14q10 ?_; (with_reducible refine (peristyleref8_checkColumns.calls k _ _ l0_0 _ _ l0_1 _ _ l1 t275 _ ?side1 ?side2 ?side3 ?side4 ?side5 ?side6 A4.out).mono ?_); (case side1 => repeat (first | exact (Kd.C_below HR0_0.out HB.out) | (with_reducible refine Kd.C_alloc ?_ _) | (with_reducible refine Kd.C_drewN ?_ _) | (with_reducible refine Kd.C_drew ?_))); (case side2 => exact HC0_0.out); (case side3 => repeat (first | exact (Kd.C_below HR0_1.out HB.out) | (with_reducible refine Kd.C_alloc ?_ _) | (with_reducible refine Kd.C_drewN ?_ _) | (with_reducible refine Kd.C_drew ?_))); (case side4 => exact HC0_1.out); (case side5 => repeat (first | exact (Kd.C_below HR1.out HB.out) | (with_reducible refine Kd.C_alloc ?_ _) | (with_reducible refine Kd.C_drewN ?_ _) | (with_reducible refine Kd.C_drew ?_))); (case side6 => exact HC1.out); rintro e w65 ⟨rfl, hb⟩; refine ⟨_, rfl, ?_⟩; have n0_ := Aside0.mk (blk_below (g := gb273) (o := .cells #[.slice A0_0 l0_0.length c0_0, .slice A0_1 l0_1.length c0_1] 25 (0, 0)) s14q6 hb); have n1_ := Aside0.mk (blk_below (g := gb274) (o := .cells #[.slice A2_0 l2_0.length c2_0, .int .i64 a2_1] 29 (0, 0)) s14q7 hb); have n2_ := Aside0.mk (below_step s14q13 hb); clear BK273; clear BK274; clear HB; have BK273 := n0_; have BK274 := n1_; have HB := n2_; clear n0_ n1_ n2_; (try clear hb); (try clear hb2); (try clear hk); (try clear hi)))
  go_ret2
  exact ⟨_, by first | rfl | (simp [errW_none, errW_some] <;> rfl) | (simp [*, errW_none, errW_some] <;> rfl), by first | exact Kd.R_nil _ _ _ _ _ | exact Kd.N_nil _ _ _ _ _ | exact Kd.V_nil _ _ _ _ _ | exact Kd.Q_nil _ _ _ _ _ | exact Kd.S_nil _ _ _ _ _, by repeat (first | (with_reducible first | exact HB.out | apply below_alloc | apply pw_below_drewN | apply below_drew1 | refine below_set ?_ GE273.out | refine below_set ?_ GE274.out) | exact HB.out)⟩
 rw [if_pos c5] at H
 have c5b0 : (t275 == 0) = true := beq_iff_eq.mpr c5
 have c5b1 : (t275 != 0) = false := bne_eq_false_iff_eq.mpr c5
 clear c5
 replace H := Option.bind_eq_some_iff.mp H
 obtain ⟨t276, A60, H⟩ := H
 replace H : (if t276 = true then ((peristyleref8_within.f a2_1 1 5).bind fun t277 => (if t277 = true then (peristyleref8_Kept.l0 k l1 ([] : List Int) l0_1 (l0_1.length : Int) 0 l2_0 a2_1) else (some (([] : List Int), 1)))) else (some (([] : List Int), 3))) = some (r1, r2) := H
 have A6 := Aside0.mk A60
 clear A60
 by_cases c7 : t276 = true
 case neg =>
  replace c7 := Bool.eq_false_iff.mpr c7
  subst c7
  have H1 : (some (([] : List Int), 3)) = some (r1, r2) := s14q28
  clear H
  have H := H1
  clear H1
  simp only [Option.some.injEq, Prod.mk.injEq] at H
  obtain ⟨rfl, rfl⟩ := H
  go_enter Tryd.func8, Tryd.ntmps8
  go_wp2_with (first | ((with_reducible refine gate_dst (N := 3) rfl ?_); refine box_event ?hg (N := 3) ?hd (cs := #[.slice A0_0 l0_0.length c0_0, .slice A0_1 l0_1.length c0_1]) (t := 25) ?hr ?_; (case hd => rfl); (case hg => rfl); (case hr => first | (go_simp; done) | (go_simp; rfl)); intro gb273 hg w55 hbox hb; have n0_ := Aside0.mk (below_step s14q9 hb); have n1_ := Aside0.mk (hbox); have n2_ := Aside0.mk ((s14q19 : w.heap.size ≤ gb273)); have n3_ := Aside0.mk ((s14q19 : w.heap.size ≤ gb273)); clear HB; have HB := n0_; have BK273 := n1_; have GW273 := n2_; have GE273 := n3_; clear n0_ n1_ n2_ n3_; clear hb hbox hg) | ((with_reducible refine gate_dst (N := 5) rfl ?_); refine box_event ?hg (N := 5) ?hd (cs := #[.slice A2_0 l2_0.length c2_0, .int .i64 a2_1]) (t := 29) ?hr ?_; (case hd => rfl); (case hg => rfl); (case hr => first | (go_simp; done) | (go_simp; rfl)); intro gb274 hg w56 hbox hb; have n0_ := Aside0.mk (blk_below (g := gb273) (o := .cells #[.slice A0_0 l0_0.length c0_0, .slice A0_1 l0_1.length c0_1] 25 (0, 0)) s14q6 hb); have n1_ := Aside0.mk (below_step s14q12 hb); have n2_ := Aside0.mk (hbox); have n3_ := Aside0.mk ((s14q20 : w.heap.size ≤ gb274)); have n4_ := Aside0.mk ((s14q20 : w.heap.size ≤ gb274)); have n5_ := Aside0.mk ((s14q25 : gb273 ≠ gb274)); have n6_ := Aside0.mk ((s14q24 : gb274 ≠ gb273)); clear BK273; clear HB; have BK273 := n0_; have HB := n1_; have BK274 := n2_; have GW274 := n3_; have GE274 := n4_; have NB273_274 := n5_; have NB274_273 := n6_; clear n0_ n1_ n2_ n3_ n4_ n5_ n6_; clear hb hbox hg; have hnb57 := NB273_274.out; have hnc57 := NB274_273.out; have hcz58_0 : w56.cell? ⟨gb273, 0, none⟩ = some (.slice A0_0 l0_0.length c0_0) := (blk_cell BK273.out 0).trans rfl; have hcz58_1 : w56.cell? ⟨gb273, 1, none⟩ = some (.slice A0_1 l0_1.length c0_1) := (blk_cell BK273.out 1).trans rfl; have hfz58_0 := blk_frozen BK273.out 0; have hfz58_1 := blk_frozen BK273.out 1) | ((with_reducible refine gate_callee (f := 15) rfl ?_); refine goesL_ (some 16) rfl rfl Tryd.func15 s14q0 rfl #[.agg #[.slice A0_0 l0_0.length c0_0, .slice A0_1 l0_1.length c0_1], .slice A1 l1.length c1] rfl s14q10 ?_; (with_reducible refine (peristyleref8_checkColumns.calls k _ _ l0_0 _ _ l0_1 _ _ l1 t275 _ ?side1 ?side2 ?side3 ?side4 ?side5 ?side6 A4.out).mono ?_); (case side1 => repeat (first | exact (Kd.C_below HR0_0.out HB.out) | (with_reducible refine Kd.C_alloc ?_ _) | (with_reducible refine Kd.C_drewN ?_ _) | (with_reducible refine Kd.C_drew ?_))); (case side2 => exact HC0_0.out); (case side3 => repeat (first | exact (Kd.C_below HR0_1.out HB.out) | (with_reducible refine Kd.C_alloc ?_ _) | (with_reducible refine Kd.C_drewN ?_ _) | (with_reducible refine Kd.C_drew ?_))); (case side4 => exact HC0_1.out); (case side5 => repeat (first | exact (Kd.C_below HR1.out HB.out) | (with_reducible refine Kd.C_alloc ?_ _) | (with_reducible refine Kd.C_drewN ?_ _) | (with_reducible refine Kd.C_drew ?_))); (case side6 => exact HC1.out); rintro e w59 ⟨rfl, hb⟩; refine ⟨_, rfl, ?_⟩; have n0_ := Aside0.mk (blk_below (g := gb273) (o := .cells #[.slice A0_0 l0_0.length c0_0, .slice A0_1 l0_1.length c0_1] 25 (0, 0)) s14q6 hb); have n1_ := Aside0.mk (blk_below (g := gb274) (o := .cells #[.slice A2_0 l2_0.length c2_0, .int .i64 a2_1] 29 (0, 0)) s14q7 hb); have n2_ := Aside0.mk (below_step s14q13 hb); clear BK273; clear BK274; clear HB; have BK273 := n0_; have BK274 := n1_; have HB := n2_; clear n0_ n1_ n2_; (try clear hb); (try clear hb2); (try clear hk); (try clear hi); have hcz60_0 : w59.cell? ⟨gb274, 0, none⟩ = some (.slice A2_0 l2_0.length c2_0) := (blk_cell BK274.out 0).trans rfl; have hcz60_1 : w59.cell? ⟨gb274, 1, none⟩ = some (.int .i64 a2_1) := (blk_cell BK274.out 1).trans rfl; have hfz60_0 := blk_frozen BK274.out 0; have hfz60_1 := blk_frozen BK274.out 1) | ((with_reducible refine gate_callee (f := 16) rfl ?_); refine goesL_ (some 23) rfl rfl Tryd.func16 s14q0 rfl #[.int .i64 (l2_0.length : Int), .int .i64 1, .int .i64 8192] rfl s14q10 ?_; (with_reducible refine (peristyleref8_within.calls (l2_0.length : Int) 1 8192 false _ A6.out).mono ?_); rintro e w' ⟨rfl, ⟨nd, rfl⟩⟩; refine ⟨_, rfl, ?_⟩))
  go_ret2
  exact ⟨_, by first | rfl | (simp [errW_none, errW_some] <;> rfl) | (simp [*, errW_none, errW_some] <;> rfl), by first | exact Kd.R_nil _ _ _ _ _ | exact Kd.N_nil _ _ _ _ _ | exact Kd.V_nil _ _ _ _ _ | exact Kd.Q_nil _ _ _ _ _ | exact Kd.S_nil _ _ _ _ _, by repeat (first | (with_reducible first | exact HB.out | apply below_alloc | apply pw_below_drewN | apply below_drew1 | refine below_set ?_ GE273.out | refine below_set ?_ GE274.out) | exact HB.out)⟩
 subst c7
 have H1 : ((peristyleref8_within.f a2_1 1 5).bind fun t277 => (if t277 = true then (peristyleref8_Kept.l0 k l1 ([] : List Int) l0_1 (l0_1.length : Int) 0 l2_0 a2_1) else (some (([] : List Int), 1)))) = some (r1, r2) := s14q29
 clear H
 have H := H1
 clear H1
 replace H := Option.bind_eq_some_iff.mp H
 obtain ⟨t277, A80, H⟩ := H
 replace H : (if t277 = true then (peristyleref8_Kept.l0 k l1 ([] : List Int) l0_1 (l0_1.length : Int) 0 l2_0 a2_1) else (some (([] : List Int), 1))) = some (r1, r2) := H
 have A8 := Aside0.mk A80
 clear A80
 by_cases c9 : t277 = true
 case neg =>
  replace c9 := Bool.eq_false_iff.mpr c9
  subst c9
  have H1 : (some (([] : List Int), 1)) = some (r1, r2) := s14q28
  clear H
  have H := H1
  clear H1
  simp only [Option.some.injEq, Prod.mk.injEq] at H
  obtain ⟨rfl, rfl⟩ := H
  go_enter Tryd.func8, Tryd.ntmps8
  go_wp2_with (first | ((with_reducible refine gate_dst (N := 3) rfl ?_); refine box_event ?hg (N := 3) ?hd (cs := #[.slice A0_0 l0_0.length c0_0, .slice A0_1 l0_1.length c0_1]) (t := 25) ?hr ?_; (case hd => rfl); (case hg => rfl); (case hr => first | (go_simp; done) | (go_simp; rfl)); intro gb273 hg w49 hbox hb; have n0_ := Aside0.mk (below_step s14q9 hb); have n1_ := Aside0.mk (hbox); have n2_ := Aside0.mk ((s14q19 : w.heap.size ≤ gb273)); have n3_ := Aside0.mk ((s14q19 : w.heap.size ≤ gb273)); clear HB; have HB := n0_; have BK273 := n1_; have GW273 := n2_; have GE273 := n3_; clear n0_ n1_ n2_ n3_; clear hb hbox hg) | ((with_reducible refine gate_dst (N := 5) rfl ?_); refine box_event ?hg (N := 5) ?hd (cs := #[.slice A2_0 l2_0.length c2_0, .int .i64 a2_1]) (t := 29) ?hr ?_; (case hd => rfl); (case hg => rfl); (case hr => first | (go_simp; done) | (go_simp; rfl)); intro gb274 hg w50 hbox hb; have n0_ := Aside0.mk (blk_below (g := gb273) (o := .cells #[.slice A0_0 l0_0.length c0_0, .slice A0_1 l0_1.length c0_1] 25 (0, 0)) s14q6 hb); have n1_ := Aside0.mk (below_step s14q12 hb); have n2_ := Aside0.mk (hbox); have n3_ := Aside0.mk ((s14q20 : w.heap.size ≤ gb274)); have n4_ := Aside0.mk ((s14q20 : w.heap.size ≤ gb274)); have n5_ := Aside0.mk ((s14q25 : gb273 ≠ gb274)); have n6_ := Aside0.mk ((s14q24 : gb274 ≠ gb273)); clear BK273; clear HB; have BK273 := n0_; have HB := n1_; have BK274 := n2_; have GW274 := n3_; have GE274 := n4_; have NB273_274 := n5_; have NB274_273 := n6_; clear n0_ n1_ n2_ n3_ n4_ n5_ n6_; clear hb hbox hg; have hnb51 := NB273_274.out; have hnc51 := NB274_273.out; have hcz52_0 : w50.cell? ⟨gb273, 0, none⟩ = some (.slice A0_0 l0_0.length c0_0) := (blk_cell BK273.out 0).trans rfl; have hcz52_1 : w50.cell? ⟨gb273, 1, none⟩ = some (.slice A0_1 l0_1.length c0_1) := (blk_cell BK273.out 1).trans rfl; have hfz52_0 := blk_frozen BK273.out 0; have hfz52_1 := blk_frozen BK273.out 1) | ((with_reducible refine gate_callee (f := 15) rfl ?_); refine goesL_ (some 16) rfl rfl Tryd.func15 s14q0 rfl #[.agg #[.slice A0_0 l0_0.length c0_0, .slice A0_1 l0_1.length c0_1], .slice A1 l1.length c1] rfl s14q10 ?_; (with_reducible refine (peristyleref8_checkColumns.calls k _ _ l0_0 _ _ l0_1 _ _ l1 t275 _ ?side1 ?side2 ?side3 ?side4 ?side5 ?side6 A4.out).mono ?_); (case side1 => repeat (first | exact (Kd.C_below HR0_0.out HB.out) | (with_reducible refine Kd.C_alloc ?_ _) | (with_reducible refine Kd.C_drewN ?_ _) | (with_reducible refine Kd.C_drew ?_))); (case side2 => exact HC0_0.out); (case side3 => repeat (first | exact (Kd.C_below HR0_1.out HB.out) | (with_reducible refine Kd.C_alloc ?_ _) | (with_reducible refine Kd.C_drewN ?_ _) | (with_reducible refine Kd.C_drew ?_))); (case side4 => exact HC0_1.out); (case side5 => repeat (first | exact (Kd.C_below HR1.out HB.out) | (with_reducible refine Kd.C_alloc ?_ _) | (with_reducible refine Kd.C_drewN ?_ _) | (with_reducible refine Kd.C_drew ?_))); (case side6 => exact HC1.out); rintro e w53 ⟨rfl, hb⟩; refine ⟨_, rfl, ?_⟩; have n0_ := Aside0.mk (blk_below (g := gb273) (o := .cells #[.slice A0_0 l0_0.length c0_0, .slice A0_1 l0_1.length c0_1] 25 (0, 0)) s14q6 hb); have n1_ := Aside0.mk (blk_below (g := gb274) (o := .cells #[.slice A2_0 l2_0.length c2_0, .int .i64 a2_1] 29 (0, 0)) s14q7 hb); have n2_ := Aside0.mk (below_step s14q13 hb); clear BK273; clear BK274; clear HB; have BK273 := n0_; have BK274 := n1_; have HB := n2_; clear n0_ n1_ n2_; (try clear hb); (try clear hb2); (try clear hk); (try clear hi); have hcz54_0 : w53.cell? ⟨gb274, 0, none⟩ = some (.slice A2_0 l2_0.length c2_0) := (blk_cell BK274.out 0).trans rfl; have hcz54_1 : w53.cell? ⟨gb274, 1, none⟩ = some (.int .i64 a2_1) := (blk_cell BK274.out 1).trans rfl; have hfz54_0 := blk_frozen BK274.out 0; have hfz54_1 := blk_frozen BK274.out 1) | ((with_reducible refine gate_callee (f := 16) rfl ?_); refine goesL_ (some 23) rfl rfl Tryd.func16 s14q0 rfl #[.int .i64 (l2_0.length : Int), .int .i64 1, .int .i64 8192] rfl s14q10 ?_; (with_reducible refine (peristyleref8_within.calls (l2_0.length : Int) 1 8192 true _ A6.out).mono ?_); rintro e w' ⟨rfl, ⟨nd, rfl⟩⟩; refine ⟨_, rfl, ?_⟩) | ((with_reducible refine gate_callee (f := 16) rfl ?_); refine goesL_ (some 27) rfl rfl Tryd.func16 s14q0 rfl #[.int .i64 a2_1, .int .i64 1, .int .i64 5] rfl s14q10 ?_; (with_reducible refine (peristyleref8_within.calls a2_1 1 5 false _ A8.out).mono ?_); rintro e w' ⟨rfl, ⟨nd, rfl⟩⟩; refine ⟨_, rfl, ?_⟩))
  go_ret2
  exact ⟨_, by first | rfl | (simp [errW_none, errW_some] <;> rfl) | (simp [*, errW_none, errW_some] <;> rfl), by first | exact Kd.R_nil _ _ _ _ _ | exact Kd.N_nil _ _ _ _ _ | exact Kd.V_nil _ _ _ _ _ | exact Kd.Q_nil _ _ _ _ _ | exact Kd.S_nil _ _ _ _ _, by repeat (first | (with_reducible first | exact HB.out | apply below_alloc | apply pw_below_drewN | apply below_drew1 | refine below_set ?_ GE273.out | refine below_set ?_ GE274.out) | exact HB.out)⟩
 subst c9
 have H1 : (peristyleref8_Kept.l0 k l1 ([] : List Int) l0_1 (l0_1.length : Int) 0 l2_0 a2_1) = some (r1, r2) := s14q29
 clear H
 have H := H1
 clear H1
 have H' := Aside0.mk H
 clear H
 go_enter Tryd.func8, Tryd.ntmps8
 go_wp2_with (first | ((with_reducible refine gate_dst (N := 3) rfl ?_); refine box_event ?hg (N := 3) ?hd (cs := #[.slice A0_0 l0_0.length c0_0, .slice A0_1 l0_1.length c0_1]) (t := 25) ?hr ?_; (case hd => rfl); (case hg => rfl); (case hr => first | (go_simp; done) | (go_simp; rfl)); intro gb273 hg w10 hbox hb; have n0_ := Aside0.mk (below_step s14q9 hb); have n1_ := Aside0.mk (hbox); have n2_ := Aside0.mk ((s14q19 : w.heap.size ≤ gb273)); have n3_ := Aside0.mk ((s14q19 : w.heap.size ≤ gb273)); clear HB; have HB := n0_; have BK273 := n1_; have GW273 := n2_; have GE273 := n3_; clear n0_ n1_ n2_ n3_; clear hb hbox hg) | ((with_reducible refine gate_dst (N := 5) rfl ?_); refine box_event ?hg (N := 5) ?hd (cs := #[.slice A2_0 l2_0.length c2_0, .int .i64 a2_1]) (t := 29) ?hr ?_; (case hd => rfl); (case hg => rfl); (case hr => first | (go_simp; done) | (go_simp; rfl)); intro gb274 hg w11 hbox hb; have n0_ := Aside0.mk (blk_below (g := gb273) (o := .cells #[.slice A0_0 l0_0.length c0_0, .slice A0_1 l0_1.length c0_1] 25 (0, 0)) s14q6 hb); have n1_ := Aside0.mk (below_step s14q12 hb); have n2_ := Aside0.mk (hbox); have n3_ := Aside0.mk ((s14q20 : w.heap.size ≤ gb274)); have n4_ := Aside0.mk ((s14q20 : w.heap.size ≤ gb274)); have n5_ := Aside0.mk ((s14q25 : gb273 ≠ gb274)); have n6_ := Aside0.mk ((s14q24 : gb274 ≠ gb273)); clear BK273; clear HB; have BK273 := n0_; have HB := n1_; have BK274 := n2_; have GW274 := n3_; have GE274 := n4_; have NB273_274 := n5_; have NB274_273 := n6_; clear n0_ n1_ n2_ n3_ n4_ n5_ n6_; clear hb hbox hg; have hnb12 := NB273_274.out; have hnc12 := NB274_273.out; have hcz13_0 : w11.cell? ⟨gb273, 0, none⟩ = some (.slice A0_0 l0_0.length c0_0) := (blk_cell BK273.out 0).trans rfl; have hcz13_1 : w11.cell? ⟨gb273, 1, none⟩ = some (.slice A0_1 l0_1.length c0_1) := (blk_cell BK273.out 1).trans rfl; have hfz13_0 := blk_frozen BK273.out 0; have hfz13_1 := blk_frozen BK273.out 1) | ((with_reducible refine gate_callee (f := 15) rfl ?_); refine goesL_ (some 16) rfl rfl Tryd.func15 s14q0 rfl #[.agg #[.slice A0_0 l0_0.length c0_0, .slice A0_1 l0_1.length c0_1], .slice A1 l1.length c1] rfl s14q10 ?_; (with_reducible refine (peristyleref8_checkColumns.calls k _ _ l0_0 _ _ l0_1 _ _ l1 t275 _ ?side1 ?side2 ?side3 ?side4 ?side5 ?side6 A4.out).mono ?_); (case side1 => repeat (first | exact (Kd.C_below HR0_0.out HB.out) | (with_reducible refine Kd.C_alloc ?_ _) | (with_reducible refine Kd.C_drewN ?_ _) | (with_reducible refine Kd.C_drew ?_))); (case side2 => exact HC0_0.out); (case side3 => repeat (first | exact (Kd.C_below HR0_1.out HB.out) | (with_reducible refine Kd.C_alloc ?_ _) | (with_reducible refine Kd.C_drewN ?_ _) | (with_reducible refine Kd.C_drew ?_))); (case side4 => exact HC0_1.out); (case side5 => repeat (first | exact (Kd.C_below HR1.out HB.out) | (with_reducible refine Kd.C_alloc ?_ _) | (with_reducible refine Kd.C_drewN ?_ _) | (with_reducible refine Kd.C_drew ?_))); (case side6 => exact HC1.out); rintro e w14 ⟨rfl, hb⟩; refine ⟨_, rfl, ?_⟩; have n0_ := Aside0.mk (blk_below (g := gb273) (o := .cells #[.slice A0_0 l0_0.length c0_0, .slice A0_1 l0_1.length c0_1] 25 (0, 0)) s14q6 hb); have n1_ := Aside0.mk (blk_below (g := gb274) (o := .cells #[.slice A2_0 l2_0.length c2_0, .int .i64 a2_1] 29 (0, 0)) s14q7 hb); have n2_ := Aside0.mk (below_step s14q13 hb); clear BK273; clear BK274; clear HB; have BK273 := n0_; have BK274 := n1_; have HB := n2_; clear n0_ n1_ n2_; (try clear hb); (try clear hb2); (try clear hk); (try clear hi); have hcz15_0 : w14.cell? ⟨gb274, 0, none⟩ = some (.slice A2_0 l2_0.length c2_0) := (blk_cell BK274.out 0).trans rfl; have hcz15_1 : w14.cell? ⟨gb274, 1, none⟩ = some (.int .i64 a2_1) := (blk_cell BK274.out 1).trans rfl; have hfz15_0 := blk_frozen BK274.out 0; have hfz15_1 := blk_frozen BK274.out 1) | ((with_reducible refine gate_callee (f := 16) rfl ?_); refine goesL_ (some 23) rfl rfl Tryd.func16 s14q0 rfl #[.int .i64 (l2_0.length : Int), .int .i64 1, .int .i64 8192] rfl s14q10 ?_; (with_reducible refine (peristyleref8_within.calls (l2_0.length : Int) 1 8192 true _ A6.out).mono ?_); rintro e w' ⟨rfl, ⟨nd, rfl⟩⟩; refine ⟨_, rfl, ?_⟩) | ((with_reducible refine gate_callee (f := 16) rfl ?_); refine goesL_ (some 27) rfl rfl Tryd.func16 s14q0 rfl #[.int .i64 a2_1, .int .i64 1, .int .i64 5] rfl s14q10 ?_; (with_reducible refine (peristyleref8_within.calls a2_1 1 5 true _ A8.out).mono ?_); rintro e w' ⟨rfl, ⟨nd, rfl⟩⟩; refine ⟨_, rfl, ?_⟩; have hcz16_0 : w14.cell? ⟨gb273, 0, none⟩ = some (.slice A0_0 l0_0.length c0_0) := (blk_cell BK273.out 0).trans rfl; have hcz16_1 : w14.cell? ⟨gb273, 1, none⟩ = some (.slice A0_1 l0_1.length c0_1) := (blk_cell BK273.out 1).trans rfl; have hfz16_0 := blk_frozen BK273.out 0; have hfz16_1 := blk_frozen BK273.out 1))
 go_loopg [9, 32] k (fun kq v9 v32 w' => ∃ (x9_1 : List Int) (x32_1 : Int), v32 = .int .i64 x32_1 ∧ Aside0 (peristyleref8_Kept.l0 kq l1 x9_1 l0_1 (l0_1.length : Int) x32_1 l2_0 a2_1 = some (r1, r2)) ∧ Aside0 (kq ≤ k) ∧ Aside0 (Kd.R (Kd.int .i64) 3 w' w.heap.size (fun _ => True) v9 x9_1) ∧ Aside0 (w'.heap[gb273]? = some (.cells #[(.slice A0_0 l0_0.length c0_0), (.slice A0_1 l0_1.length c0_1)] 25 (0, 0))) ∧ Aside0 (w'.heap[gb274]? = some (.cells #[(.slice A2_0 l2_0.length c2_0), .int .i64 a2_1] 29 (0, 0))) ∧ Aside0 (Below w.heap.size w w'))
 case atStart => exact ⟨(([] : List Int)), (0), s14q1, H', ⟨Nat.le_refl _⟩, ⟨by first | exact Kd.R_nil _ _ _ _ _ | exact Kd.N_nil _ _ _ _ _ | exact Kd.V_nil _ _ _ _ _ | exact Kd.Q_nil _ _ _ _ _ | exact Kd.S_nil _ _ _ _ _⟩, ⟨by (with_reducible repeat (first | refine blk_drewN ?_ _ | refine blk_drew ?_ | refine blk_alloc ?_ _)); exact BK273.out⟩, ⟨by (with_reducible repeat (first | refine blk_drewN ?_ _ | refine blk_drew ?_ | refine blk_alloc ?_ _)); exact BK274.out⟩, ⟨by repeat (first | (with_reducible first | exact HB.out | apply below_alloc | apply pw_below_drewN | apply below_drew1 | refine below_set ?_ GE273.out | refine below_set ?_ GE274.out) | exact HB.out)⟩⟩
 clear H'
 try clear c1
 try clear c2
 try clear p2
 try clear c5
 try clear c5b0
 try clear c5b1
 try clear c7
 try clear c8
 try clear c9
 try clear c12
 try clear c15
 try clear c16
 try clear hcz13_0
 try clear hcz13_1
 try clear hcz15_0
 try clear hcz15_1
 try clear hcz16_0
 try clear hcz16_1
 try clear hfz13_0
 try clear hfz13_1
 try clear hfz15_0
 try clear hfz15_1
 try clear hfz16_0
 try clear hfz16_1
 obtain ⟨x9_1, x32_1, rfl, HA, HK1, HO_9, BK273, BK274, HB⟩ := hrel
 cases gk with
 | zero => exact absurd HA.out (by simp [peristyleref8_Kept.l0])
 | succ k1 => ?_
 have H := HA.out
 clear HA
 simp only [peristyleref8_Kept.l0] at H
 by_cases c17 : x32_1 < (l0_1.length : Int)
 case neg =>
  rw [if_neg c17] at H
  have c17b0 : decide (x32_1 < (l0_1.length : Int)) = false := decide_eq_false c17
  clear c17
  simp only [Option.some.injEq, Prod.mk.injEq] at H
  obtain ⟨rfl, rfl⟩ := H
  go_wp2
  go_ret2
  exact ⟨_, by first | rfl | (simp [errW_none, errW_some] <;> rfl) | (simp [*, errW_none, errW_some] <;> rfl), by (with_reducible repeat (first | apply Kd.R_alloc | apply Kd.R_drewN | apply Kd.R_drew)); exact HO_9.out, by repeat (first | (with_reducible first | exact HB.out | apply below_alloc | apply pw_below_drewN | apply below_drew1 | refine below_set ?_ GE273.out | refine below_set ?_ GE274.out) | exact HB.out)⟩
 rw [if_pos c17] at H
 have c17b0 : decide (x32_1 < (l0_1.length : Int)) = true := decide_eq_true c17
 clear c17
 by_cases c18 : 0 ≤ x32_1
 case neg =>
  rw [if_neg c18] at H
  exact absurd H (by simp)
 rw [if_pos c18] at H
 have c18b0 : decide (0 ≤ x32_1) = true := decide_eq_true c18
 clear c18
 by_cases c19 : x32_1 < (l0_1.length : Int)
 case neg =>
  rw [if_neg c19] at H
  exact absurd H (by simp)
 rw [if_pos c19] at H
 have c19b0 : decide (x32_1 < (l0_1.length : Int)) = true := decide_eq_true c19
 clear c19
 replace H := Option.bind_eq_some_iff.mp H
 obtain ⟨⟨t280, t283⟩, A200, H⟩ := H
 replace H : (if t283 = true then ((peristyleref8_passes.f k1 l2_0 a2_1 t280).bind fun t284 => (if t284 = true then (if x9_1.length < 17592186044416 then (peristyleref8_Kept.l0 k1 l1 (x9_1 ++ [x32_1]) l0_1 (l0_1.length : Int) (wrap64 (x32_1 + 1)) l2_0 a2_1) else (none)) else (peristyleref8_Kept.l0 k1 l1 x9_1 l0_1 (l0_1.length : Int) (wrap64 (x32_1 + 1)) l2_0 a2_1))) else (peristyleref8_Kept.l0 k1 l1 x9_1 l0_1 (l0_1.length : Int) (wrap64 (x32_1 + 1)) l2_0 a2_1)) = some (r1, r2) := H
 have A20 := Aside0.mk A200
 clear A200
 by_cases c21 : t283 = true
 case neg =>
  replace c21 := Bool.eq_false_iff.mpr c21
  subst c21
  have H1 : (peristyleref8_Kept.l0 k1 l1 x9_1 l0_1 (l0_1.length : Int) (wrap64 (x32_1 + 1)) l2_0 a2_1) = some (r1, r2) := s14q28
  clear H
  have H := H1
  clear H1
  have H' := Aside0.mk H
  clear H
  have p278 : 0 ≤ (x32_1 : Int) := of_decide_eq_true s14q2
  have q278 : x32_1 < (l0_1.length : Int) := of_decide_eq_true s14q2
  obtain ⟨ad278, A278_0, c278_0, e278, hx278_0, hl278_0, hi278_0⟩ := at_T43 HR0_1.out x32_1 p278 q278
  cases e278
  replace hx278_0 := (HB.out.cell (World.block_lt_of_cell? w _ hx278_0)).trans hx278_0
  have HR278_0 := Aside0.mk hi278_0
  have HC278_0 := Aside0.mk hl278_0
  clear hi278_0 hl278_0
  replace p278 := eq_true p278
  replace q278 := eq_true q278
  go_wp2_with (first | ((with_reducible refine gate_dst (N := 11) rfl ?_); refine box_event ?hg (N := 11) ?hd (cs := #[.slice none 0 0]) (t := 43) ?hr ?_; (case hd => rfl); (case hg => rfl); (case hr => first | (go_simp; done) | (go_simp; rfl)); intro gb279 hg w44 hbox hb; have n0_ := Aside0.mk (Kd.R_below s14q3 hb); have n1_ := Aside0.mk (blk_below (g := gb273) (o := .cells #[.slice A0_0 l0_0.length c0_0, .slice (some ad278) l0_1.length c0_1] 25 (0, 0)) s14q6 hb); have n2_ := Aside0.mk (blk_below (g := gb274) (o := .cells #[.slice A2_0 l2_0.length c2_0, .int .i64 a2_1] 29 (0, 0)) s14q7 hb); have n3_ := Aside0.mk (below_step s14q13 hb); have n4_ := Aside0.mk (hbox); have n5_ := Aside0.mk ((s14q21 : w.heap.size ≤ gb279)); have n6_ := Aside0.mk ((s14q21 : w.heap.size ≤ gb279)); have n7_ := Aside0.mk ((s14q27 : gb273 ≠ gb279)); have n8_ := Aside0.mk ((s14q26 : gb279 ≠ gb273)); have n9_ := Aside0.mk ((s14q23 : gb274 ≠ gb279)); have n10_ := Aside0.mk ((s14q22 : gb279 ≠ gb274)); clear HO_9; clear BK273; clear BK274; clear HB; have HO_9 := n0_; have BK273 := n1_; have BK274 := n2_; have HB := n3_; have BK279 := n4_; have GW279 := n5_; have GE279 := n6_; have NB273_279 := n7_; have NB279_273 := n8_; have NB274_279 := n9_; have NB279_274 := n10_; clear n0_ n1_ n2_ n3_ n4_ n5_ n6_ n7_ n8_ n9_ n10_; clear hb hbox hg; have hnb45 := NB279_273.out; have hnc45 := NB273_279.out; have hnb46 := NB279_274.out; have hnc46 := NB274_279.out; have hcz47_0 : w44.cell? ⟨gb279, 0, none⟩ = some (.slice none 0 0) := (blk_cell BK279.out 0).trans rfl; have hfz47_0 := blk_frozen BK279.out 0) | ((with_reducible refine gate_callee (f := 20) rfl ?_); refine goesL_ (some 40) rfl rfl Tryd.func20 s14q0 rfl #[.agg #[.slice A278_0 ((rd_T43 l0_1 x32_1).f0).length c278_0], .slice A1 l1.length c1] rfl s14q10 ?_; (with_reducible refine (peristyleref8_key.calls k1 _ _ ((rd_T43 l0_1 x32_1).f0) _ _ l1 t280 false _ ?side1 ?side2 ?side3 ?side4 A20.out).mono ?_); (case side1 => exact Kd.C_below HR278_0.out s14q14); (case side2 => exact HC278_0.out); (case side3 => exact Kd.C_below HR1.out s14q14); (case side4 => exact HC1.out); rintro e w48 ⟨v281, rfl, ho0, hb⟩; refine ⟨_, rfl, ?_⟩; have n0_ := Aside0.mk (Kd.R_below s14q18 hb); have n1_ := Aside0.mk (Kd.R_lower ho0 (below_size s14q14)); have n2_ := Aside0.mk (blk_below (g := gb273) (o := .cells #[.slice A0_0 l0_0.length c0_0, .slice (some ad278) l0_1.length c0_1] 25 (0, 0)) s14q15 hb); have n3_ := Aside0.mk (blk_below (g := gb274) (o := .cells #[.slice A2_0 l2_0.length c2_0, .int .i64 a2_1] 29 (0, 0)) s14q16 hb); have n4_ := Aside0.mk (blk_below (g := gb279) (o := .cells #[.slice A278_0 ((rd_T43 l0_1 x32_1).f0).length c278_0] 43 (0, 0)) s14q17 hb); have n5_ := Aside0.mk (below_step s14q14 hb); clear HO_9; clear BK273; clear BK274; clear BK279; clear HB; have HO_9 := n0_; have HO282 := n1_; have BK273 := n2_; have BK274 := n3_; have BK279 := n4_; have HB := n5_; clear n0_ n1_ n2_ n3_ n4_ n5_; (try clear hb); (try clear hb2); (try clear hk); (try clear hi); (try clear ho0)))
  first | go_roundg k1 | (refine Handed.intro k1 ?measure ?_; rotate_left; go_step; (repeat apply Exists.intro); simp only [add_plain]; refine ⟨?rel, rfl⟩)
  case measure => have := HK1.out; omega
  case rel => exact ⟨(x9_1), (wrap64 (x32_1 + 1)), s14q1, H', ⟨by have := HK1.out; omega⟩, ⟨by (with_reducible repeat (first | apply Kd.R_alloc | apply Kd.R_drewN | apply Kd.R_drew)); exact HO_9.out⟩, ⟨by (with_reducible repeat (first | refine blk_drewN ?_ _ | refine blk_drew ?_ | refine blk_alloc ?_ _)); exact BK273.out⟩, ⟨by (with_reducible repeat (first | refine blk_drewN ?_ _ | refine blk_drew ?_ | refine blk_alloc ?_ _)); exact BK274.out⟩, ⟨by repeat (first | (with_reducible first | exact HB.out | apply below_alloc | apply pw_below_drewN | apply below_drew1 | refine below_set ?_ GE273.out | refine below_set ?_ GE274.out | refine below_set ?_ GE279.out) | exact HB.out)⟩⟩
 subst c21
 have H1 : ((peristyleref8_passes.f k1 l2_0 a2_1 t280).bind fun t284 => (if t284 = true then (if x9_1.length < 17592186044416 then (peristyleref8_Kept.l0 k1 l1 (x9_1 ++ [x32_1]) l0_1 (l0_1.length : Int) (wrap64 (x32_1 + 1)) l2_0 a2_1) else (none)) else (peristyleref8_Kept.l0 k1 l1 x9_1 l0_1 (l0_1.length : Int) (wrap64 (x32_1 + 1)) l2_0 a2_1))) = some (r1, r2) := s14q29
 clear H
 have H := H1
 clear H1
 replace H := Option.bind_eq_some_iff.mp H
 obtain ⟨t284, A220, H⟩ := H
 replace H : (if t284 = true then (if x9_1.length < 17592186044416 then (peristyleref8_Kept.l0 k1 l1 (x9_1 ++ [x32_1]) l0_1 (l0_1.length : Int) (wrap64 (x32_1 + 1)) l2_0 a2_1) else (none)) else (peristyleref8_Kept.l0 k1 l1 x9_1 l0_1 (l0_1.length : Int) (wrap64 (x32_1 + 1)) l2_0 a2_1)) = some (r1, r2) := H
 have A22 := Aside0.mk A220
 clear A220
 by_cases c23 : t284 = true
 case neg =>
  replace c23 := Bool.eq_false_iff.mpr c23
  subst c23
  have H1 : (peristyleref8_Kept.l0 k1 l1 x9_1 l0_1 (l0_1.length : Int) (wrap64 (x32_1 + 1)) l2_0 a2_1) = some (r1, r2) := s14q28
  clear H
  have H := H1
  clear H1
  have H' := Aside0.mk H
  clear H
  have p278 : 0 ≤ (x32_1 : Int) := of_decide_eq_true s14q2
  have q278 : x32_1 < (l0_1.length : Int) := of_decide_eq_true s14q2
  obtain ⟨ad278, A278_0, c278_0, e278, hx278_0, hl278_0, hi278_0⟩ := at_T43 HR0_1.out x32_1 p278 q278
  cases e278
  replace hx278_0 := (HB.out.cell (World.block_lt_of_cell? w _ hx278_0)).trans hx278_0
  have HR278_0 := Aside0.mk hi278_0
  have HC278_0 := Aside0.mk hl278_0
  clear hi278_0 hl278_0
  replace p278 := eq_true p278
  replace q278 := eq_true q278
  go_wp2_with (first | ((with_reducible refine gate_dst (N := 11) rfl ?_); refine box_event ?hg (N := 11) ?hd (cs := #[.slice none 0 0]) (t := 43) ?hr ?_; (case hd => rfl); (case hg => rfl); (case hr => first | (go_simp; done) | (go_simp; rfl)); intro gb279 hg w35 hbox hb; have n0_ := Aside0.mk (Kd.R_below s14q3 hb); have n1_ := Aside0.mk (blk_below (g := gb273) (o := .cells #[.slice A0_0 l0_0.length c0_0, .slice (some ad278) l0_1.length c0_1] 25 (0, 0)) s14q6 hb); have n2_ := Aside0.mk (blk_below (g := gb274) (o := .cells #[.slice A2_0 l2_0.length c2_0, .int .i64 a2_1] 29 (0, 0)) s14q7 hb); have n3_ := Aside0.mk (below_step s14q13 hb); have n4_ := Aside0.mk (hbox); have n5_ := Aside0.mk ((s14q21 : w.heap.size ≤ gb279)); have n6_ := Aside0.mk ((s14q21 : w.heap.size ≤ gb279)); have n7_ := Aside0.mk ((s14q27 : gb273 ≠ gb279)); have n8_ := Aside0.mk ((s14q26 : gb279 ≠ gb273)); have n9_ := Aside0.mk ((s14q23 : gb274 ≠ gb279)); have n10_ := Aside0.mk ((s14q22 : gb279 ≠ gb274)); clear HO_9; clear BK273; clear BK274; clear HB; have HO_9 := n0_; have BK273 := n1_; have BK274 := n2_; have HB := n3_; have BK279 := n4_; have GW279 := n5_; have GE279 := n6_; have NB273_279 := n7_; have NB279_273 := n8_; have NB274_279 := n9_; have NB279_274 := n10_; clear n0_ n1_ n2_ n3_ n4_ n5_ n6_ n7_ n8_ n9_ n10_; clear hb hbox hg; have hnb36 := NB279_273.out; have hnc36 := NB273_279.out; have hnb37 := NB279_274.out; have hnc37 := NB274_279.out; have hcz38_0 : w35.cell? ⟨gb279, 0, none⟩ = some (.slice none 0 0) := (blk_cell BK279.out 0).trans rfl; have hfz38_0 := blk_frozen BK279.out 0) | ((with_reducible refine gate_callee (f := 20) rfl ?_); refine goesL_ (some 40) rfl rfl Tryd.func20 s14q0 rfl #[.agg #[.slice A278_0 ((rd_T43 l0_1 x32_1).f0).length c278_0], .slice A1 l1.length c1] rfl s14q10 ?_; (with_reducible refine (peristyleref8_key.calls k1 _ _ ((rd_T43 l0_1 x32_1).f0) _ _ l1 t280 true _ ?side1 ?side2 ?side3 ?side4 A20.out).mono ?_); (case side1 => exact Kd.C_below HR278_0.out s14q14); (case side2 => exact HC278_0.out); (case side3 => exact Kd.C_below HR1.out s14q14); (case side4 => exact HC1.out); rintro e w39 ⟨v281, rfl, ho0, hb⟩; refine ⟨_, rfl, ?_⟩; have n0_ := Aside0.mk (Kd.R_below s14q18 hb); have n1_ := Aside0.mk (Kd.R_lower ho0 (below_size s14q14)); have n2_ := Aside0.mk (blk_below (g := gb273) (o := .cells #[.slice A0_0 l0_0.length c0_0, .slice (some ad278) l0_1.length c0_1] 25 (0, 0)) s14q15 hb); have n3_ := Aside0.mk (blk_below (g := gb274) (o := .cells #[.slice A2_0 l2_0.length c2_0, .int .i64 a2_1] 29 (0, 0)) s14q16 hb); have n4_ := Aside0.mk (blk_below (g := gb279) (o := .cells #[.slice A278_0 ((rd_T43 l0_1 x32_1).f0).length c278_0] 43 (0, 0)) s14q17 hb); have n5_ := Aside0.mk (below_step s14q14 hb); clear HO_9; clear BK273; clear BK274; clear BK279; clear HB; have HO_9 := n0_; have HO282 := n1_; have BK273 := n2_; have BK274 := n3_; have BK279 := n4_; have HB := n5_; clear n0_ n1_ n2_ n3_ n4_ n5_; (try clear hb); (try clear hb2); (try clear hk); (try clear hi); (try clear ho0); have hnb40 := NB274_273.out; have hnc40 := NB273_274.out; have hcz41_0 : w39.cell? ⟨gb274, 0, none⟩ = some (.slice A2_0 l2_0.length c2_0) := (blk_cell BK274.out 0).trans rfl; have hcz41_1 : w39.cell? ⟨gb274, 1, none⟩ = some (.int .i64 a2_1) := (blk_cell BK274.out 1).trans rfl; have hfz41_0 := blk_frozen BK274.out 0; have hfz41_1 := blk_frozen BK274.out 1; obtain ⟨Ao42, co42, eo42⟩ := Kd.R_slice HO282.out; subst eo42) | (go_at_call 21; (with_reducible refine (peristyleref8_passes.calls k1 _ _ l2_0 a2_1 _ _ t280 false _ ?side1 ?side2 ?side3 ?side4 ?side5 A22.out).mono ?_); (case side1 => repeat (first | exact (Kd.C_below HR2_0.out HB.out) | (with_reducible refine Kd.C_alloc ?_ _) | (with_reducible refine Kd.C_drewN ?_ _) | (with_reducible refine Kd.C_drew ?_))); (case side2 => exact HC2_0.out); (case side3 => repeat (first | exact (Kd.R_reads' HO282.out).2.2 | (with_reducible refine Kd.C_alloc ?_ _) | (with_reducible refine Kd.C_drewN ?_ _) | (with_reducible refine Kd.C_drew ?_))); (case side4 => exact (Kd.R_reads' HO282.out).2.1); (case side5 => exact Glob_below HG.out s14q14); rintro e w43 ⟨rfl, hb⟩; have n0_ := Aside0.mk (Kd.R_below s14q3 hb); have n1_ := Aside0.mk (Kd.R_below s14q4 hb); have n2_ := Aside0.mk (blk_below (g := gb273) (o := .cells #[.slice A0_0 l0_0.length c0_0, .slice (some ad278) l0_1.length c0_1] 25 (0, 0)) s14q6 hb); have n3_ := Aside0.mk (blk_below (g := gb274) (o := .cells #[.slice A2_0 l2_0.length c2_0, .int .i64 a2_1] 29 (0, 0)) s14q7 hb); have n4_ := Aside0.mk (blk_below (g := gb279) (o := .cells #[.slice A278_0 ((rd_T43 l0_1 x32_1).f0).length c278_0] 43 (0, 0)) s14q8 hb); have n5_ := Aside0.mk (below_step s14q14 hb); clear HO_9; clear HO282; clear BK273; clear BK274; clear BK279; clear HB; have HO_9 := n0_; have HO282 := n1_; have BK273 := n2_; have BK274 := n3_; have BK279 := n4_; have HB := n5_; clear n0_ n1_ n2_ n3_ n4_ n5_; (try clear hb); (try clear hb2); (try clear hk); (try clear hi)))
  first | go_roundg k1 | (refine Handed.intro k1 ?measure ?_; rotate_left; go_step; (repeat apply Exists.intro); simp only [add_plain]; refine ⟨?rel, rfl⟩)
  case measure => have := HK1.out; omega
  case rel => exact ⟨(x9_1), (wrap64 (x32_1 + 1)), s14q1, H', ⟨by have := HK1.out; omega⟩, ⟨by (with_reducible repeat (first | apply Kd.R_alloc | apply Kd.R_drewN | apply Kd.R_drew)); exact HO_9.out⟩, ⟨by (with_reducible repeat (first | refine blk_drewN ?_ _ | refine blk_drew ?_ | refine blk_alloc ?_ _)); exact BK273.out⟩, ⟨by (with_reducible repeat (first | refine blk_drewN ?_ _ | refine blk_drew ?_ | refine blk_alloc ?_ _)); exact BK274.out⟩, ⟨by repeat (first | (with_reducible first | exact HB.out | apply below_alloc | apply pw_below_drewN | apply below_drew1 | refine below_set ?_ GE273.out | refine below_set ?_ GE274.out | refine below_set ?_ GE279.out) | exact HB.out)⟩⟩
 subst c23
 have H1 : (if x9_1.length < 17592186044416 then (peristyleref8_Kept.l0 k1 l1 (x9_1 ++ [x32_1]) l0_1 (l0_1.length : Int) (wrap64 (x32_1 + 1)) l2_0 a2_1) else (none)) = some (r1, r2) := s14q29
 clear H
 have H := H1
 clear H1
 by_cases c24 : x9_1.length < 17592186044416
 case neg =>
  rw [if_neg c24] at H
  exact absurd H (by simp)
 rw [if_pos c24] at H
 have LMc24 := Aside0.mk c24
 clear c24
 obtain ⟨y285, hy285⟩ : ∃ y_ : List Int, y_ = (x9_1 ++ [x32_1]) := ⟨_, rfl⟩
 replace H : (peristyleref8_Kept.l0 k1 l1 y285 l0_1 (l0_1.length : Int) (wrap64 (x32_1 + 1)) l2_0 a2_1) = some (r1, r2) := sqz hy285 H
 have Ny285 := Aside0.mk hy285
 clear hy285
 have H' := Aside0.mk H
 clear H
 have p278 : 0 ≤ (x32_1 : Int) := of_decide_eq_true s14q2
 have q278 : x32_1 < (l0_1.length : Int) := of_decide_eq_true s14q2
 obtain ⟨ad278, A278_0, c278_0, e278, hx278_0, hl278_0, hi278_0⟩ := at_T43 HR0_1.out x32_1 p278 q278
 cases e278
 replace hx278_0 := (HB.out.cell (World.block_lt_of_cell? w _ hx278_0)).trans hx278_0
 have HR278_0 := Aside0.mk hi278_0
 have HC278_0 := Aside0.mk hl278_0
 clear hi278_0 hl278_0
 replace p278 := eq_true p278
 replace q278 := eq_true q278
 go_wp2_with (first | ((with_reducible refine gate_dst (N := 11) rfl ?_); refine box_event ?hg (N := 11) ?hd (cs := #[.slice none 0 0]) (t := 43) ?hr ?_; (case hd => rfl); (case hg => rfl); (case hr => first | (go_simp; done) | (go_simp; rfl)); intro gb279 hg w25 hbox hb; have n0_ := Aside0.mk (Kd.R_below s14q3 hb); have n1_ := Aside0.mk (blk_below (g := gb273) (o := .cells #[.slice A0_0 l0_0.length c0_0, .slice (some ad278) l0_1.length c0_1] 25 (0, 0)) s14q6 hb); have n2_ := Aside0.mk (blk_below (g := gb274) (o := .cells #[.slice A2_0 l2_0.length c2_0, .int .i64 a2_1] 29 (0, 0)) s14q7 hb); have n3_ := Aside0.mk (below_step s14q13 hb); have n4_ := Aside0.mk (hbox); have n5_ := Aside0.mk ((s14q21 : w.heap.size ≤ gb279)); have n6_ := Aside0.mk ((s14q21 : w.heap.size ≤ gb279)); have n7_ := Aside0.mk ((s14q27 : gb273 ≠ gb279)); have n8_ := Aside0.mk ((s14q26 : gb279 ≠ gb273)); have n9_ := Aside0.mk ((s14q23 : gb274 ≠ gb279)); have n10_ := Aside0.mk ((s14q22 : gb279 ≠ gb274)); clear HO_9; clear BK273; clear BK274; clear HB; have HO_9 := n0_; have BK273 := n1_; have BK274 := n2_; have HB := n3_; have BK279 := n4_; have GW279 := n5_; have GE279 := n6_; have NB273_279 := n7_; have NB279_273 := n8_; have NB274_279 := n9_; have NB279_274 := n10_; clear n0_ n1_ n2_ n3_ n4_ n5_ n6_ n7_ n8_ n9_ n10_; clear hb hbox hg; have hnb26 := NB279_273.out; have hnc26 := NB273_279.out; have hnb27 := NB279_274.out; have hnc27 := NB274_279.out; have hcz28_0 : w25.cell? ⟨gb279, 0, none⟩ = some (.slice none 0 0) := (blk_cell BK279.out 0).trans rfl; have hfz28_0 := blk_frozen BK279.out 0) | ((with_reducible refine gate_callee (f := 20) rfl ?_); refine goesL_ (some 40) rfl rfl Tryd.func20 s14q0 rfl #[.agg #[.slice A278_0 ((rd_T43 l0_1 x32_1).f0).length c278_0], .slice A1 l1.length c1] rfl s14q10 ?_; (with_reducible refine (peristyleref8_key.calls k1 _ _ ((rd_T43 l0_1 x32_1).f0) _ _ l1 t280 true _ ?side1 ?side2 ?side3 ?side4 A20.out).mono ?_); (case side1 => exact Kd.C_below HR278_0.out s14q14); (case side2 => exact HC278_0.out); (case side3 => exact Kd.C_below HR1.out s14q14); (case side4 => exact HC1.out); rintro e w29 ⟨v281, rfl, ho0, hb⟩; refine ⟨_, rfl, ?_⟩; have n0_ := Aside0.mk (Kd.R_below s14q18 hb); have n1_ := Aside0.mk (Kd.R_lower ho0 (below_size s14q14)); have n2_ := Aside0.mk (blk_below (g := gb273) (o := .cells #[.slice A0_0 l0_0.length c0_0, .slice (some ad278) l0_1.length c0_1] 25 (0, 0)) s14q15 hb); have n3_ := Aside0.mk (blk_below (g := gb274) (o := .cells #[.slice A2_0 l2_0.length c2_0, .int .i64 a2_1] 29 (0, 0)) s14q16 hb); have n4_ := Aside0.mk (blk_below (g := gb279) (o := .cells #[.slice A278_0 ((rd_T43 l0_1 x32_1).f0).length c278_0] 43 (0, 0)) s14q17 hb); have n5_ := Aside0.mk (below_step s14q14 hb); clear HO_9; clear BK273; clear BK274; clear BK279; clear HB; have HO_9 := n0_; have HO282 := n1_; have BK273 := n2_; have BK274 := n3_; have BK279 := n4_; have HB := n5_; clear n0_ n1_ n2_ n3_ n4_ n5_; (try clear hb); (try clear hb2); (try clear hk); (try clear hi); (try clear ho0); have hnb30 := NB274_273.out; have hnc30 := NB273_274.out; have hcz31_0 : w29.cell? ⟨gb274, 0, none⟩ = some (.slice A2_0 l2_0.length c2_0) := (blk_cell BK274.out 0).trans rfl; have hcz31_1 : w29.cell? ⟨gb274, 1, none⟩ = some (.int .i64 a2_1) := (blk_cell BK274.out 1).trans rfl; have hfz31_0 := blk_frozen BK274.out 0; have hfz31_1 := blk_frozen BK274.out 1; obtain ⟨Ao32, co32, eo32⟩ := Kd.R_slice HO282.out; subst eo32) | (go_at_call 21; (with_reducible refine (peristyleref8_passes.calls k1 _ _ l2_0 a2_1 _ _ t280 true _ ?side1 ?side2 ?side3 ?side4 ?side5 A22.out).mono ?_); (case side1 => repeat (first | exact (Kd.C_below HR2_0.out HB.out) | (with_reducible refine Kd.C_alloc ?_ _) | (with_reducible refine Kd.C_drewN ?_ _) | (with_reducible refine Kd.C_drew ?_))); (case side2 => exact HC2_0.out); (case side3 => repeat (first | exact (Kd.R_reads' HO282.out).2.2 | (with_reducible refine Kd.C_alloc ?_ _) | (with_reducible refine Kd.C_drewN ?_ _) | (with_reducible refine Kd.C_drew ?_))); (case side4 => exact (Kd.R_reads' HO282.out).2.1); (case side5 => exact Glob_below HG.out s14q14); rintro e w33 ⟨rfl, hb⟩; have n0_ := Aside0.mk (Kd.R_below s14q3 hb); have n1_ := Aside0.mk (Kd.R_below s14q4 hb); have n2_ := Aside0.mk (blk_below (g := gb273) (o := .cells #[.slice A0_0 l0_0.length c0_0, .slice (some ad278) l0_1.length c0_1] 25 (0, 0)) s14q6 hb); have n3_ := Aside0.mk (blk_below (g := gb274) (o := .cells #[.slice A2_0 l2_0.length c2_0, .int .i64 a2_1] 29 (0, 0)) s14q7 hb); have n4_ := Aside0.mk (blk_below (g := gb279) (o := .cells #[.slice A278_0 ((rd_T43 l0_1 x32_1).f0).length c278_0] 43 (0, 0)) s14q8 hb); have n5_ := Aside0.mk (below_step s14q14 hb); clear HO_9; clear HO282; clear BK273; clear BK274; clear BK279; clear HB; have HO_9 := n0_; have HO282 := n1_; have BK273 := n2_; have BK274 := n3_; have BK279 := n4_; have HB := n5_; clear n0_ n1_ n2_ n3_ n4_ n5_; (try clear hb); (try clear hb2); (try clear hk); (try clear hi)) | ((with_reducible refine gate_builtin (b := .append) (xs := #[.tmp 49, .tmp 51]) rfl ?_); at_builtin; refine Kd.R_append (Kd.int .i64) (w0 := w) w.heap.size rfl (.tmp 49) (.tmp 51) 26 3 (.int .i64 0) 8 rfl Tryd.underlying26 info3 rfl (by decide) (by omega) u9 x9_1 x32_1 [.int .i64 x32_1] (fun _ => True) (fun _ => False) rfl rfl ?aP (fun _ hk => hk.elim) ?aF ?aO ?aB ?aS ?aL ?_; (case aP => exact rfl); (case aB => exact s14q14); (case aF => exact (fun _ _ => trivial)); (case aO => exact s14q3); (case aS => exact (below_size s14q14)); (case aL => have := LMc24.out; omega); intro v286 w34 ho hb hg hat; rw [← Ny285.out] at ho; have n0_ := Aside0.mk (blk_grown (g := gb273) (o := .cells #[.slice A0_0 l0_0.length c0_0, .slice (some ad278) l0_1.length c0_1] 25 (0, 0)) s14q6 hg (Kd.R_ne HO_9.out BK273.out (by decide))); have n1_ := Aside0.mk (blk_grown (g := gb274) (o := .cells #[.slice A2_0 l2_0.length c2_0, .int .i64 a2_1] 29 (0, 0)) s14q7 hg (Kd.R_ne HO_9.out BK274.out (by decide))); have n2_ := Aside0.mk (blk_grown (g := gb279) (o := .cells #[.slice A278_0 ((rd_T43 l0_1 x32_1).f0).length c278_0] 43 (0, 0)) s14q8 hg (Kd.R_ne HO_9.out BK279.out (by decide))); have n3_ := Aside0.mk (Kd.R_over' s14q4 (Kd.R_typed s14q3) (by decide) hg); have n4_ := Aside0.mk (hb); have n5_ := Aside0.mk (ho); clear BK273; clear BK274; clear BK279; clear HO282; clear HB; clear HO_9; have BK273 := n0_; have BK274 := n1_; have BK279 := n2_; have HO282 := n3_; have HB := n4_; have HO287 := n5_; clear n0_ n1_ n2_ n3_ n4_ n5_; clear ho hb hg hat))
 first | go_roundg k1 | (refine Handed.intro k1 ?measure ?_; rotate_left; go_step; (repeat apply Exists.intro); simp only [add_plain]; refine ⟨?rel, rfl⟩)
 case measure => have := HK1.out; omega
 case rel => exact ⟨(y285), (wrap64 (x32_1 + 1)), s14q1, H', ⟨by have := HK1.out; omega⟩, ⟨by (with_reducible repeat (first | apply Kd.R_alloc | apply Kd.R_drewN | apply Kd.R_drew)); exact HO287.out⟩, ⟨by (with_reducible repeat (first | refine blk_drewN ?_ _ | refine blk_drew ?_ | refine blk_alloc ?_ _)); exact BK273.out⟩, ⟨by (with_reducible repeat (first | refine blk_drewN ?_ _ | refine blk_drew ?_ | refine blk_alloc ?_ _)); exact BK274.out⟩, ⟨by repeat (first | (with_reducible first | exact HB.out | apply below_alloc | apply pw_below_drewN | apply below_drew1 | refine below_set ?_ GE273.out | refine below_set ?_ GE274.out | refine below_set ?_ GE279.out) | exact HB.out)⟩⟩
/-! ### slices_Equal_int_int: function 9 -/
def slices_Equal_int_int.l0 : Nat → List Int → List Int → Int → Int → Option (Bool)
  | 0, _, _, _, _ => none
  | k + 1, x0, x1, x12, x13 => if x13 < x12 then (if 0 ≤ x13 then (if x13 < (x0.length : Int) then (if x13 < (x1.length : Int) then (if (rd x0 x13) = (rd x1 x13) then (slices_Equal_int_int.l0 k x0 x1 x12 (wrap64 (x13 + 1))) else (some false)) else (none)) else (none)) else (none)) else (some true)
def slices_Equal_int_int.f (k : Nat) (l0 : List Int) (l1 : List Int) : Option (Bool) := if (l0.length : Int) = (l1.length : Int) then (slices_Equal_int_int.l0 k l0 l1 (l0.length : Int) 0) else (some false)
theorem slices_Equal_int_int.mono_l : ∀ k, (∀ y0 y1 y2 y3, LeO (slices_Equal_int_int.l0 k y0 y1 y2 y3) (slices_Equal_int_int.l0 (k + 1) y0 y1 y2 y3))
  | 0 => fun _ _ _ _ r h => by simp [slices_Equal_int_int.l0] at h
  | k + 1 => by
    have ih0 := slices_Equal_int_int.mono_l k
    · intro y0 y1 y2 y3
      unfold slices_Equal_int_int.l0
      repeat' first | (with_reducible exact ih0 _ _ _ _) | (with_reducible exact LeO.refl _) | (with_reducible exact LeO.none _) | (with_reducible refine LeO.ite ?_ ?_) | (with_reducible refine LeO.bind ?_ (fun _ => ?_)) | exact ih0 _ _ _ _ | exact LeO.none _ | refine LeO.ite ?_ ?_ | refine LeO.bind ?_ (fun _ => ?_)
theorem slices_Equal_int_int.mono : ∀ a0 a1 k, LeO (slices_Equal_int_int.f k a0 a1) (slices_Equal_int_int.f (k + 1) a0 a1) := by
 intro a0 a1 k
 have ih0 := slices_Equal_int_int.mono_l k
 unfold slices_Equal_int_int.f
 repeat' first
  | (with_reducible exact ih0 _ _ _ _)
  | (with_reducible exact LeO.refl _)
  | (with_reducible exact LeO.none _)
  | (with_reducible refine LeO.ite ?_ ?_)
  | (with_reducible refine LeO.bind ?_ (fun _ => ?_))
  | exact ih0 _ _ _ _
  | exact LeO.none _
  | refine LeO.ite ?_ ?_
  | refine LeO.bind ?_ (fun _ => ?_)
set_option maxHeartbeats 8000000 in
set_option maxRecDepth 100000 in
theorem slices_Equal_int_int.calls (k : Nat) (A0 : Option Addr) (c0 : Nat) (l0 : List Int) (A1 : Option Addr) (c1 : Nat) (l1 : List Int) (r : Bool) (w : World) (hr0 : Kd.C (Kd.int .i64) w A0 l0.length l0) (hc0 : l0.length ≤ c0) (hr1 : Kd.C (Kd.int .i64) w A1 l1.length l1) (hc1 : l1.length ≤ c1) (h : slices_Equal_int_int.f k l0 l1 = some r) :
    Calls Tryd.prog 9 #[.slice A0 l0.length c0, .slice A1 l1.length c1] w fun e w' => e = .returned (.bool r) ∧ Drawn0 w w' := by
 have HR0 := Aside0.mk hr0
 have HC0 := Aside0.mk hc0
 clear hr0 hc0
 have HR1 := Aside0.mk hr1
 have HC1 := Aside0.mk hc1
 clear hr1 hc1
 have H : (if (l0.length : Int) = (l1.length : Int) then (slices_Equal_int_int.l0 k l0 l1 (l0.length : Int) 0) else (some false)) = some r := h
 clear h
 by_cases c3 : (l0.length : Int) = (l1.length : Int)
 case neg =>
  rw [if_neg c3] at H
  have c3b0 : ((l0.length : Int) == (l1.length : Int)) = false := beq_eq_false_iff_ne.mpr c3
  have c3b1 : ((l0.length : Int) != (l1.length : Int)) = true := bne_iff_ne.mpr c3
  have c3b2 : (l0.length == l1.length) = false := by first | simpa using c3 | (simp at c3 ⊢; omega)
  obtain rfl := Option.some.inj H
  go_enter Tryd.func9, Tryd.ntmps9
  go_wp2
  repeat (go_quiet (fail); try go_wp2)
  go_ret
  exact ⟨by first | rfl | (simp; done) | (simp [*]; done), by repeat (first | exact Drawn0.refl _ | apply Drawn0.step)⟩
 rw [if_pos c3] at H
 have c3b0 : ((l0.length : Int) == (l1.length : Int)) = true := beq_iff_eq.mpr c3
 have c3b1 : ((l0.length : Int) != (l1.length : Int)) = false := bne_eq_false_iff_eq.mpr c3
 have c3b2 : (l0.length == l1.length) = true := by first | simpa using c3 | (simp at c3 ⊢; omega)
 clear c3
 have H' := Aside0.mk H
 clear H
 go_enter Tryd.func9, Tryd.ntmps9
 go_wp2
 go_loopg [13] k (fun kq v13 w' => ∃ (x13_1 : Int), v13 = .int .i64 x13_1 ∧ Aside0 (slices_Equal_int_int.l0 kq l0 l1 (l0.length : Int) x13_1 = some r) ∧ Aside0 (kq ≤ k) ∧ Drawn0 w w')
 case atStart => exact ⟨(0), s14q1, H', ⟨Nat.le_refl _⟩, by repeat (first | exact Drawn0.refl _ | apply Drawn0.step)⟩
 clear H'
 try clear c1
 try clear p2
 try clear c3
 try clear c3b0
 try clear c3b1
 try clear c3b2
 obtain ⟨x13_1, rfl, HA, HK1, ⟨m1, rfl⟩⟩ := hrel
 cases gk with
 | zero => exact absurd HA.out (by simp [slices_Equal_int_int.l0])
 | succ k1 => ?_
 have H := HA.out
 clear HA
 simp only [slices_Equal_int_int.l0] at H
 by_cases c4 : x13_1 < (l0.length : Int)
 case neg =>
  rw [if_neg c4] at H
  have c4b0 : decide (x13_1 < (l0.length : Int)) = false := decide_eq_false c4
  clear c4
  obtain rfl := Option.some.inj H
  go_wp2
  repeat (go_quiet (fail); try go_wp2)
  go_ret
  exact ⟨by first | rfl | (simp; done) | (simp [*]; done), by repeat (first | exact Drawn0.refl _ | apply Drawn0.step)⟩
 rw [if_pos c4] at H
 have c4b0 : decide (x13_1 < (l0.length : Int)) = true := decide_eq_true c4
 clear c4
 by_cases c5 : 0 ≤ x13_1
 case neg =>
  rw [if_neg c5] at H
  exact absurd H (by simp)
 rw [if_pos c5] at H
 have c5b0 : decide (0 ≤ x13_1) = true := decide_eq_true c5
 clear c5
 by_cases c6 : x13_1 < (l0.length : Int)
 case neg =>
  rw [if_neg c6] at H
  exact absurd H (by simp)
 rw [if_pos c6] at H
 have c6b0 : decide (x13_1 < (l0.length : Int)) = true := decide_eq_true c6
 clear c6
 by_cases c7 : x13_1 < (l1.length : Int)
 case neg =>
  rw [if_neg c7] at H
  exact absurd H (by simp)
 rw [if_pos c7] at H
 have c7b0 : decide (x13_1 < (l1.length : Int)) = true := decide_eq_true c7
 clear c7
 by_cases c8 : (rd l0 x13_1) = (rd l1 x13_1)
 case neg =>
  rw [if_neg c8] at H
  have c8b0 : ((rd l0 x13_1) == (rd l1 x13_1)) = false := beq_eq_false_iff_ne.mpr c8
  have c8b1 : ((rd l0 x13_1) != (rd l1 x13_1)) = true := bne_iff_ne.mpr c8
  obtain rfl := Option.some.inj H
  have p288 : 0 ≤ (x13_1 : Int) := of_decide_eq_true s14q2
  have q288 : x13_1 < (l0.length : Int) := of_decide_eq_true s14q2
  obtain ⟨ad288, e288, hx288_0⟩ := Kd.at_int HR0.out x13_1 p288 q288
  cases e288
  replace p288 := eq_true p288
  replace q288 := eq_true q288
  have p289 : 0 ≤ (x13_1 : Int) := of_decide_eq_true s14q2
  have q289 : x13_1 < (l1.length : Int) := of_decide_eq_true s14q2
  obtain ⟨ad289, e289, hx289_0⟩ := Kd.at_int HR1.out x13_1 p289 q289
  cases e289
  replace p289 := eq_true p289
  replace q289 := eq_true q289
  go_wp2
  repeat (go_quiet (fail); try go_wp2)
  go_ret
  exact ⟨by first | rfl | (simp; done) | (simp [*]; done), by repeat (first | exact Drawn0.refl _ | apply Drawn0.step)⟩
 rw [if_pos c8] at H
 have c8b0 : ((rd l0 x13_1) == (rd l1 x13_1)) = true := beq_iff_eq.mpr c8
 have c8b1 : ((rd l0 x13_1) != (rd l1 x13_1)) = false := bne_eq_false_iff_eq.mpr c8
 clear c8
 have H' := Aside0.mk H
 clear H
 have p288 : 0 ≤ (x13_1 : Int) := of_decide_eq_true s14q2
 have q288 : x13_1 < (l0.length : Int) := of_decide_eq_true s14q2
 obtain ⟨ad288, e288, hx288_0⟩ := Kd.at_int HR0.out x13_1 p288 q288
 cases e288
 replace p288 := eq_true p288
 replace q288 := eq_true q288
 have p289 : 0 ≤ (x13_1 : Int) := of_decide_eq_true s14q2
 have q289 : x13_1 < (l1.length : Int) := of_decide_eq_true s14q2
 obtain ⟨ad289, e289, hx289_0⟩ := Kd.at_int HR1.out x13_1 p289 q289
 cases e289
 replace p289 := eq_true p289
 replace q289 := eq_true q289
 go_wp2
 repeat (go_quiet (fail); try go_wp2)
 first | go_roundg k1 | (refine Handed.intro k1 ?measure ?_; rotate_left; go_step; (repeat apply Exists.intro); simp only [add_plain]; refine ⟨?rel, rfl⟩)
 case measure => have := HK1.out; omega
 case rel => exact ⟨(wrap64 (x13_1 + 1)), s14q1, H', ⟨by have := HK1.out; omega⟩, by repeat (first | exact Drawn0.refl _ | apply Drawn0.step)⟩
end Go.Proofs.YtgdbkhbaekeijaaDoor.F
