-- Printed by a program of this session (a patched print).
import Derived.Test.YtgcijejmmhjibaaDoorGx0
import Derived.Test.YtgcijejmmhjibaaDoorGx4
namespace Go.Proofs.YtgcijejmmhjibaaDoor.G
open Go.RowKit Go.Proofs.YtgcijejmmhjibaaDoorW.PrintWords Go.Proofs.YtgcijejmmhjibaaDoorW.PrintLast Go.Proofs.YtgcijejmmhjibaaDoorW.PrintMore
attribute [local go_sem] max2_int min2_int max_two min_two max_three min_three max_four min_four   -- for this text's walks alone
set_option linter.unusedVariables false
set_option linter.unusedSimpArgs false

theorem s5qm0 {p : Prop} (h : p := by repeat' first | (with_reducible exact ih0 _ _ _ _ _ _) | (with_reducible exact ih1 _ _ _ _ _) | (with_reducible exact LeO.refl _) | (with_reducible exact LeO.none _) | (with_reducible refine LeO.ite ?_ ?_) | (with_reducible refine LeO.bind ?_ (fun _ => ?_)) | exact ih0 _ _ _ _ _ _ | exact ih1 _ _ _ _ _ | exact LeO.none _ | refine LeO.ite ?_ ?_ | refine LeO.bind ?_ (fun _ => ?_)) : p := h
theorem s5q0 {p : Prop} (h : p := by first | rfl | (simp; done) | (simp [*]; done)) : p := h
theorem s5q1 {p : Prop} (h : p := by first | (with_reducible assumption) | assumption) : p := h
theorem s5q2 {p : Prop} (h : p := by repeat (first | (with_reducible first | exact HB.out | apply below_alloc | apply pw_below_drewN | apply below_drew1) | exact HB.out)) : p := h
theorem s5q3 {p : Prop} (h : p := by rw [hg]; exact (below_size s5q2)) : p := h
/-! ### peristyleref10_size: function 45 -/
mutual
def peristyleref10_size.l0 : Nat → List (S75) → Int → Int → List Int → Int → Int → Option (Int)
  | 0, _, _, _, _, _, _ => none
  | k + 1, x1, x2, x7, x12, x13, x14 => if x14 < x13 then (if 0 ≤ x14 then (if x14 < (x12.length : Int) then (if (Go.bits .and .i64 (shr .i64 x2 x14) 1) = 1 then ((peristyleref10_product.f x7 (rd x12 x14)).bind fun t187 => (peristyleref10_size.l0 k x1 x2 t187 x12 x13 (wrap64 (x14 + 1)))) else (peristyleref10_size.l0 k x1 x2 x7 x12 x13 (wrap64 (x14 + 1)))) else (none)) else (none)) else (peristyleref10_size.l1 k x2 x7 x1 (x1.length : Int) 0)
def peristyleref10_size.l1 : Nat → Int → Int → List (S75) → Int → Int → Option (Int)
  | 0, _, _, _, _, _ => none
  | k + 1, x2, x7, x28, x29, x30 => if x30 < x29 then (if 0 ≤ x30 then (if x30 < (x28.length : Int) then (if 0 ≤ ((rd_T75 x28 x30).f0) then (if (Go.bits .and .i64 (shr .i64 x2 ((rd_T75 x28 x30).f0)) 1) = 1 then (if 0 ≤ ((rd_T75 x28 x30).f1) then (if (Go.bits .and .i64 (shr .i64 x2 ((rd_T75 x28 x30).f1)) 1) = 1 then (if ((rd_T75 x28 x30).f2) = 0 then (none) else (peristyleref10_size.l1 k x2 (mx 1 (wrap64 (Int.tdiv x7 ((rd_T75 x28 x30).f2)))) x28 x29 (wrap64 (x30 + 1)))) else (peristyleref10_size.l1 k x2 x7 x28 x29 (wrap64 (x30 + 1)))) else (none)) else (peristyleref10_size.l1 k x2 x7 x28 x29 (wrap64 (x30 + 1)))) else (none)) else (none)) else (none)) else (some x7)
end
def peristyleref10_size.f (k : Nat) (l0 : List Int) (l1 : List (S75)) (a2 : Int) : Option (Int) := peristyleref10_size.l0 k l1 a2 1 l0 (l0.length : Int) 0
theorem peristyleref10_size.mono_l : ∀ k, (∀ y0 y1 y2 y3 y4 y5, LeO (peristyleref10_size.l0 k y0 y1 y2 y3 y4 y5) (peristyleref10_size.l0 (k + 1) y0 y1 y2 y3 y4 y5)) ∧ (∀ y0 y1 y2 y3 y4, LeO (peristyleref10_size.l1 k y0 y1 y2 y3 y4) (peristyleref10_size.l1 (k + 1) y0 y1 y2 y3 y4))
  | 0 => ⟨fun _ _ _ _ _ _ r h => by simp [peristyleref10_size.l0] at h, fun _ _ _ _ _ r h => by simp [peristyleref10_size.l1] at h⟩
  | k + 1 => by
    obtain ⟨ih0, ih1⟩ := peristyleref10_size.mono_l k
    refine ⟨?_, ?_⟩
    · intro y0 y1 y2 y3 y4 y5
      unfold peristyleref10_size.l0
      exact s5qm0
    · intro y0 y1 y2 y3 y4
      unfold peristyleref10_size.l1
      exact s5qm0
theorem peristyleref10_size.mono : ∀ a0 a1 a2 k, LeO (peristyleref10_size.f k a0 a1 a2) (peristyleref10_size.f (k + 1) a0 a1 a2) := by
 intro a0 a1 a2 k
 obtain ⟨ih0, ih1⟩ := peristyleref10_size.mono_l k
 unfold peristyleref10_size.f
 repeat' first
  | (with_reducible exact ih0 _ _ _ _ _ _)
  | (with_reducible exact ih1 _ _ _ _ _)
  | (with_reducible exact LeO.refl _)
  | (with_reducible exact LeO.none _)
  | (with_reducible refine LeO.ite ?_ ?_)
  | (with_reducible refine LeO.bind ?_ (fun _ => ?_))
  | exact ih0 _ _ _ _ _ _
  | exact ih1 _ _ _ _ _
  | exact LeO.none _
  | refine LeO.ite ?_ ?_
  | refine LeO.bind ?_ (fun _ => ?_)
set_option maxHeartbeats 8000000 in
set_option maxRecDepth 100000 in
theorem peristyleref10_size.calls (k : Nat) (A0 : Option Addr) (c0 : Nat) (l0 : List Int) (A1 : Option Addr) (c1 : Nat) (l1 : List (S75)) (a2 : Int) (r : Int) (w : World) (hr0 : Kd.C (Kd.int .i64) w A0 l0.length l0) (hc0 : l0.length ≤ c0) (hr1 : Kd.C k75 w A1 l1.length l1) (hc1 : l1.length ≤ c1) (h : peristyleref10_size.f k l0 l1 a2 = some r) :
    Calls Tryd.prog 45 #[.slice A0 l0.length c0, .slice A1 l1.length c1, .int .i64 a2] w fun e w' => e = .returned (.int .i64 r) ∧ Below w.heap.size w w' := by
 have hu75 := Tryd.underlying75
 have HR0 := Aside0.mk hr0
 have HC0 := Aside0.mk hc0
 clear hr0 hc0
 have HR1 := Aside0.mk hr1
 have HC1 := Aside0.mk hc1
 clear hr1 hc1
 have HB := Aside0.mk (Below.refl w.heap.size w)
 have H : (peristyleref10_size.l0 k l1 a2 1 l0 (l0.length : Int) 0) = some r := h
 clear h
 have H' := Aside0.mk H
 clear H
 go_enter Tryd.func45, Tryd.ntmps45
 go_wp2
 go_loopg [7, 14] k (fun kq v7 v14 w' => ∃ (x7_1 : Int) (x14_1 : Int), v7 = .int .i64 x7_1 ∧ v14 = .int .i64 x14_1 ∧ Aside0 (peristyleref10_size.l0 kq l1 a2 x7_1 l0 (l0.length : Int) x14_1 = some r) ∧ Aside0 (kq ≤ k) ∧ Aside0 (Below w.heap.size w w'))
 case atStart => exact ⟨(1), (0), s5q0, s5q0, H', ⟨Nat.le_refl _⟩, ⟨by repeat (first | (with_reducible first | exact HB.out | apply below_alloc | apply pw_below_drewN | apply below_drew1) | exact HB.out)⟩⟩
 clear H'
 try clear c1
 try clear p2
 obtain ⟨x7_1, x14_1, rfl, rfl, HA, HK1, HB⟩ := hrel
 cases gk with
 | zero => exact absurd HA.out (by simp [peristyleref10_size.l0])
 | succ k1 => ?_
 have H := HA.out
 clear HA
 simp only [peristyleref10_size.l0] at H
 by_cases c4 : x14_1 < (l0.length : Int)
 · rw [if_pos c4] at H
   have c4b0 : decide (x14_1 < (l0.length : Int)) = true := decide_eq_true c4
   clear c4
   by_cases c5 : 0 ≤ x14_1
   case neg =>
    rw [if_neg c5] at H
    exact absurd H (by simp)
   rw [if_pos c5] at H
   have c5b0 : decide (0 ≤ x14_1) = true := decide_eq_true c5
   clear c5
   by_cases c6 : x14_1 < (l0.length : Int)
   case neg =>
    rw [if_neg c6] at H
    exact absurd H (by simp)
   rw [if_pos c6] at H
   have c6b0 : decide (x14_1 < (l0.length : Int)) = true := decide_eq_true c6
   clear c6
   have c7b0 := eq_true (of_decide_eq_true s5q1 : 0 ≤ x14_1)
   obtain ⟨ji8, hji8⟩ : ∃ j_ : Int, (shr .i64 a2 x14_1) = j_ := ⟨_, rfl⟩
   replace H : (if (Go.bits .and .i64 (ji8) 1) = 1 then ((peristyleref10_product.f x7_1 (rd l0 x14_1)).bind fun t187 => (peristyleref10_size.l0 k1 l1 a2 t187 l0 (l0.length : Int) (wrap64 (x14_1 + 1)))) else (peristyleref10_size.l0 k1 l1 a2 x7_1 l0 (l0.length : Int) (wrap64 (x14_1 + 1)))) = some r := by first | (rw [hji8] at H; exact H) | (simp only [hji8] at H ⊢; exact H)
   have hji8_ : (a2 / 2 ^ min x14_1.toNat 64) = ji8 := hji8
   have hji8z : x14_1 ≤ 64 → (a2 / 2 ^ x14_1.toNat) = ji8 := shr_small hji8
   by_cases c9 : (Go.bits .and .i64 (ji8) 1) = 1
   case neg =>
    rw [if_neg c9] at H
    have c9b0 : ((Go.bits .and .i64 (ji8) 1) == 1) = false := beq_eq_false_iff_ne.mpr c9
    have c9b1 : ((Go.bits .and .i64 (ji8) 1) != 1) = true := bne_iff_ne.mpr c9
    have H' := Aside0.mk H
    clear H
    have p186 : 0 ≤ (x14_1 : Int) := of_decide_eq_true s5q1
    have q186 : x14_1 < (l0.length : Int) := of_decide_eq_true s5q1
    obtain ⟨ad186, e186, hx186_0⟩ := Kd.at_int HR0.out x14_1 p186 q186
    cases e186
    replace hx186_0 := (HB.out.cell (World.block_lt_of_cell? w _ hx186_0)).trans hx186_0
    replace p186 := eq_true p186
    replace q186 := eq_true q186
    go_wp2
    first | go_roundg k1 | (refine Handed.intro k1 ?measure ?_; rotate_left; go_step; (repeat apply Exists.intro); simp only [add_plain]; refine ⟨?rel, rfl⟩)
    case measure => have := HK1.out; omega
    case rel => exact ⟨(x7_1), (wrap64 (x14_1 + 1)), s5q0, s5q0, H', ⟨by have := HK1.out; omega⟩, ⟨by repeat (first | (with_reducible first | exact HB.out | apply below_alloc | apply pw_below_drewN | apply below_drew1) | exact HB.out)⟩⟩
   rw [if_pos c9] at H
   have c9b0 : ((Go.bits .and .i64 (ji8) 1) == 1) = true := beq_iff_eq.mpr c9
   have c9b1 : ((Go.bits .and .i64 (ji8) 1) != 1) = false := bne_eq_false_iff_eq.mpr c9
   clear c9
   replace H := Option.bind_eq_some_iff.mp H
   obtain ⟨t187, A100, H⟩ := H
   replace H : (peristyleref10_size.l0 k1 l1 a2 t187 l0 (l0.length : Int) (wrap64 (x14_1 + 1))) = some r := H
   have A10 := Aside0.mk A100
   clear A100
   have H' := Aside0.mk H
   clear H
   have p186 : 0 ≤ (x14_1 : Int) := of_decide_eq_true s5q1
   have q186 : x14_1 < (l0.length : Int) := of_decide_eq_true s5q1
   obtain ⟨ad186, e186, hx186_0⟩ := Kd.at_int HR0.out x14_1 p186 q186
   cases e186
   replace hx186_0 := (HB.out.cell (World.block_lt_of_cell? w _ hx186_0)).trans hx186_0
   replace p186 := eq_true p186
   replace q186 := eq_true q186
   go_wp2_with (first | ((with_reducible refine gate_callee (f := 88) rfl ?_); refine goesL_ (some 26) rfl rfl Tryd.func88 (by kernel_rfl) rfl #[.int .i64 x7_1, .int .i64 (rd l0 x14_1)] rfl (by (try simp only [List.map_toArray, List.map_cons, List.map_nil]); first | done | rfl | (simp only [List.length_drop, List.length_take]; rfl)) ?_; (with_reducible refine (peristyleref10_product.calls x7_1 (rd l0 x14_1) t187 _ A10.out).mono ?_); rintro e w' ⟨rfl, ⟨nd, rfl⟩⟩; refine ⟨_, rfl, ?_⟩))
   first | go_roundg k1 | (refine Handed.intro k1 ?measure ?_; rotate_left; go_step; (repeat apply Exists.intro); simp only [add_plain]; refine ⟨?rel, rfl⟩)
   case measure => have := HK1.out; omega
   case rel => exact ⟨(t187), (wrap64 (x14_1 + 1)), s5q0, s5q0, H', ⟨by have := HK1.out; omega⟩, ⟨by repeat (first | (with_reducible first | exact HB.out | apply below_alloc | apply pw_below_drewN | apply below_drew1) | exact HB.out)⟩⟩
 rw [if_neg c4] at H
 have c4b0 : decide (x14_1 < (l0.length : Int)) = false := decide_eq_false c4
 clear c4
 have H' := Aside0.mk H
 clear H
 go_wp2
 go_loopg [7, 30] k1 (fun kq v7 v30 w' => ∃ (x7_2 : Int) (x30_2 : Int), v7 = .int .i64 x7_2 ∧ v30 = .int .i64 x30_2 ∧ Aside0 (peristyleref10_size.l1 kq a2 x7_2 l1 (l1.length : Int) x30_2 = some r) ∧ Aside0 (kq ≤ k1) ∧ Aside0 (Below w.heap.size w w'))
 case atStart => exact ⟨(x7_1), (0), s5q0, s5q0, H', ⟨Nat.le_refl _⟩, ⟨by repeat (first | (with_reducible first | exact HB.out | apply below_alloc | apply pw_below_drewN | apply below_drew1) | exact HB.out)⟩⟩
 clear H'
 try clear c1
 try clear p1
 try clear q1
 try clear hx1
 try clear p2
 try clear c4
 try clear c4b0
 try clear c5
 try clear c5b0
 try clear c6
 try clear c6b0
 try clear p6
 try clear c7
 try clear c7b0
 try clear c8
 try clear c9
 try clear c9b0
 try clear c9b1
 try clear hx186_0
 try clear p186
 try clear p2
 try clear q186
 obtain ⟨x7_2, x30_2, rfl, rfl, HA, HK2, HB⟩ := hrel
 cases gk with
 | zero => exact absurd HA.out (by simp [peristyleref10_size.l1])
 | succ k2 => ?_
 have H := HA.out
 clear HA
 simp only [peristyleref10_size.l1] at H
 by_cases c11 : x30_2 < (l1.length : Int)
 case neg =>
  rw [if_neg c11] at H
  have c11b0 : decide (x30_2 < (l1.length : Int)) = false := decide_eq_false c11
  clear c11
  obtain rfl := Option.some.inj H
  go_wp2
  go_ret
  exact ⟨by first | rfl | (simp [errW_none, errW_some] <;> rfl) | (simp [*, errW_none, errW_some] <;> rfl), by repeat (first | (with_reducible first | exact HB.out | apply below_alloc | apply pw_below_drewN | apply below_drew1) | exact HB.out)⟩
 rw [if_pos c11] at H
 have c11b0 : decide (x30_2 < (l1.length : Int)) = true := decide_eq_true c11
 clear c11
 by_cases c12 : 0 ≤ x30_2
 case neg =>
  rw [if_neg c12] at H
  exact absurd H (by simp)
 rw [if_pos c12] at H
 have c12b0 : decide (0 ≤ x30_2) = true := decide_eq_true c12
 clear c12
 by_cases c13 : x30_2 < (l1.length : Int)
 case neg =>
  rw [if_neg c13] at H
  exact absurd H (by simp)
 rw [if_pos c13] at H
 have c13b0 : decide (x30_2 < (l1.length : Int)) = true := decide_eq_true c13
 clear c13
 by_cases c14 : 0 ≤ ((rd_T75 l1 x30_2).f0)
 case neg =>
  rw [if_neg c14] at H
  exact absurd H (by simp)
 rw [if_pos c14] at H
 have c14b0 := eq_true c14
 have c14b1 : decide (0 ≤ ((rd_T75 l1 x30_2).f0)) = true := decide_eq_true c14
 clear c14
 obtain ⟨ji15, hji15⟩ : ∃ j_ : Int, (shr .i64 a2 ((rd_T75 l1 x30_2).f0)) = j_ := ⟨_, rfl⟩
 replace H : (if (Go.bits .and .i64 (ji15) 1) = 1 then (if 0 ≤ ((rd_T75 l1 x30_2).f1) then (if (Go.bits .and .i64 (shr .i64 a2 ((rd_T75 l1 x30_2).f1)) 1) = 1 then (if ((rd_T75 l1 x30_2).f2) = 0 then (none) else (peristyleref10_size.l1 k2 a2 (mx 1 (wrap64 (Int.tdiv x7_2 ((rd_T75 l1 x30_2).f2)))) l1 (l1.length : Int) (wrap64 (x30_2 + 1)))) else (peristyleref10_size.l1 k2 a2 x7_2 l1 (l1.length : Int) (wrap64 (x30_2 + 1)))) else (none)) else (peristyleref10_size.l1 k2 a2 x7_2 l1 (l1.length : Int) (wrap64 (x30_2 + 1)))) = some r := by first | (rw [hji15] at H; exact H) | (simp only [hji15] at H ⊢; exact H)
 have hji15_ : (a2 / 2 ^ min ((rd_T75 l1 x30_2).f0).toNat 64) = ji15 := hji15
 have hji15z : ((rd_T75 l1 x30_2).f0) ≤ 64 → (a2 / 2 ^ ((rd_T75 l1 x30_2).f0).toNat) = ji15 := shr_small hji15
 by_cases c16 : (Go.bits .and .i64 (ji15) 1) = 1
 case neg =>
  rw [if_neg c16] at H
  have c16b0 : ((Go.bits .and .i64 (ji15) 1) == 1) = false := beq_eq_false_iff_ne.mpr c16
  have c16b1 : ((Go.bits .and .i64 (ji15) 1) != 1) = true := bne_iff_ne.mpr c16
  have H' := Aside0.mk H
  clear H
  have p188 : 0 ≤ (x30_2 : Int) := of_decide_eq_true s5q1
  have q188 : x30_2 < (l1.length : Int) := of_decide_eq_true s5q1
  obtain ⟨ad188, e188, hx188_0, hx188_1, hx188_2⟩ := at_T75 HR1.out x30_2 p188 q188
  cases e188
  replace hx188_0 := (HB.out.cell (World.block_lt_of_cell? w _ hx188_0)).trans hx188_0
  replace hx188_1 := (HB.out.cell (World.block_lt_of_cell? w _ hx188_1)).trans hx188_1
  replace hx188_2 := (HB.out.cell (World.block_lt_of_cell? w _ hx188_2)).trans hx188_2
  replace p188 := eq_true p188
  replace q188 := eq_true q188
  go_wp2_with (first | ((with_reducible refine gate_dst (N := 11) rfl ?_); refine box_event ?hg (N := 11) ?hd (cs := #[.int .i64 0, .int .i64 0, .int .i64 0]) (t := 75) ?hr ?_; (case hd => rfl); (case hg => rfl); (case hr => first | (go_simp; done) | (go_simp; rfl)); intro gb189 hg w26 hbox hb; have n0_ := Aside0.mk (below_step s5q2 hb); have n1_ := Aside0.mk (hbox); have n2_ := Aside0.mk ((s5q3 : w.heap.size ≤ gb189)); have n3_ := Aside0.mk ((s5q3 : w.heap.size ≤ gb189)); clear HB; have HB := n0_; have BK189 := n1_; have GW189 := n2_; have GE189 := n3_; clear n0_ n1_ n2_ n3_; clear hb hbox hg; have hcz27_0 : w26.cell? ⟨gb189, 0, none⟩ = some (.int .i64 0) := (blk_cell BK189.out 0).trans rfl; have hcz27_1 : w26.cell? ⟨gb189, 1, none⟩ = some (.int .i64 0) := (blk_cell BK189.out 1).trans rfl; have hcz27_2 : w26.cell? ⟨gb189, 2, none⟩ = some (.int .i64 0) := (blk_cell BK189.out 2).trans rfl; have hfz27_0 := blk_frozen BK189.out 0; have hfz27_1 := blk_frozen BK189.out 1; have hfz27_2 := blk_frozen BK189.out 2))
  first | go_roundg k2 | (refine Handed.intro k2 ?measure ?_; rotate_left; go_step; (repeat apply Exists.intro); simp only [add_plain]; refine ⟨?rel, rfl⟩)
  case measure => have := HK1.out; have := HK2.out; omega
  case rel => exact ⟨(x7_2), (wrap64 (x30_2 + 1)), s5q0, s5q0, H', ⟨by have := HK1.out; have := HK2.out; omega⟩, ⟨by repeat (first | (with_reducible first | exact HB.out | apply below_alloc | apply pw_below_drewN | apply below_drew1 | refine below_set ?_ GE189.out) | exact HB.out)⟩⟩
 rw [if_pos c16] at H
 have c16b0 : ((Go.bits .and .i64 (ji15) 1) == 1) = true := beq_iff_eq.mpr c16
 have c16b1 : ((Go.bits .and .i64 (ji15) 1) != 1) = false := bne_eq_false_iff_eq.mpr c16
 clear c16
 by_cases c17 : 0 ≤ ((rd_T75 l1 x30_2).f1)
 case neg =>
  rw [if_neg c17] at H
  exact absurd H (by simp)
 rw [if_pos c17] at H
 have c17b0 := eq_true c17
 have c17b1 : decide (0 ≤ ((rd_T75 l1 x30_2).f1)) = true := decide_eq_true c17
 clear c17
 obtain ⟨ji18, hji18⟩ : ∃ j_ : Int, (shr .i64 a2 ((rd_T75 l1 x30_2).f1)) = j_ := ⟨_, rfl⟩
 replace H : (if (Go.bits .and .i64 (ji18) 1) = 1 then (if ((rd_T75 l1 x30_2).f2) = 0 then (none) else (peristyleref10_size.l1 k2 a2 (mx 1 (wrap64 (Int.tdiv x7_2 ((rd_T75 l1 x30_2).f2)))) l1 (l1.length : Int) (wrap64 (x30_2 + 1)))) else (peristyleref10_size.l1 k2 a2 x7_2 l1 (l1.length : Int) (wrap64 (x30_2 + 1)))) = some r := by first | (rw [hji18] at H; exact H) | (simp only [hji18] at H ⊢; exact H)
 have hji18_ : (a2 / 2 ^ min ((rd_T75 l1 x30_2).f1).toNat 64) = ji18 := hji18
 have hji18z : ((rd_T75 l1 x30_2).f1) ≤ 64 → (a2 / 2 ^ ((rd_T75 l1 x30_2).f1).toNat) = ji18 := shr_small hji18
 by_cases c19 : (Go.bits .and .i64 (ji18) 1) = 1
 case neg =>
  rw [if_neg c19] at H
  have c19b0 : ((Go.bits .and .i64 (ji18) 1) == 1) = false := beq_eq_false_iff_ne.mpr c19
  have c19b1 : ((Go.bits .and .i64 (ji18) 1) != 1) = true := bne_iff_ne.mpr c19
  have H' := Aside0.mk H
  clear H
  have p188 : 0 ≤ (x30_2 : Int) := of_decide_eq_true s5q1
  have q188 : x30_2 < (l1.length : Int) := of_decide_eq_true s5q1
  obtain ⟨ad188, e188, hx188_0, hx188_1, hx188_2⟩ := at_T75 HR1.out x30_2 p188 q188
  cases e188
  replace hx188_0 := (HB.out.cell (World.block_lt_of_cell? w _ hx188_0)).trans hx188_0
  replace hx188_1 := (HB.out.cell (World.block_lt_of_cell? w _ hx188_1)).trans hx188_1
  replace hx188_2 := (HB.out.cell (World.block_lt_of_cell? w _ hx188_2)).trans hx188_2
  replace p188 := eq_true p188
  replace q188 := eq_true q188
  go_wp2_with (first | ((with_reducible refine gate_dst (N := 11) rfl ?_); refine box_event ?hg (N := 11) ?hd (cs := #[.int .i64 0, .int .i64 0, .int .i64 0]) (t := 75) ?hr ?_; (case hd => rfl); (case hg => rfl); (case hr => first | (go_simp; done) | (go_simp; rfl)); intro gb189 hg w24 hbox hb; have n0_ := Aside0.mk (below_step s5q2 hb); have n1_ := Aside0.mk (hbox); have n2_ := Aside0.mk ((s5q3 : w.heap.size ≤ gb189)); have n3_ := Aside0.mk ((s5q3 : w.heap.size ≤ gb189)); clear HB; have HB := n0_; have BK189 := n1_; have GW189 := n2_; have GE189 := n3_; clear n0_ n1_ n2_ n3_; clear hb hbox hg; have hcz25_0 : w24.cell? ⟨gb189, 0, none⟩ = some (.int .i64 0) := (blk_cell BK189.out 0).trans rfl; have hcz25_1 : w24.cell? ⟨gb189, 1, none⟩ = some (.int .i64 0) := (blk_cell BK189.out 1).trans rfl; have hcz25_2 : w24.cell? ⟨gb189, 2, none⟩ = some (.int .i64 0) := (blk_cell BK189.out 2).trans rfl; have hfz25_0 := blk_frozen BK189.out 0; have hfz25_1 := blk_frozen BK189.out 1; have hfz25_2 := blk_frozen BK189.out 2))
  first | go_roundg k2 | (refine Handed.intro k2 ?measure ?_; rotate_left; go_step; (repeat apply Exists.intro); simp only [add_plain]; refine ⟨?rel, rfl⟩)
  case measure => have := HK1.out; have := HK2.out; omega
  case rel => exact ⟨(x7_2), (wrap64 (x30_2 + 1)), s5q0, s5q0, H', ⟨by have := HK1.out; have := HK2.out; omega⟩, ⟨by repeat (first | (with_reducible first | exact HB.out | apply below_alloc | apply pw_below_drewN | apply below_drew1 | refine below_set ?_ GE189.out) | exact HB.out)⟩⟩
 rw [if_pos c19] at H
 have c19b0 : ((Go.bits .and .i64 (ji18) 1) == 1) = true := beq_iff_eq.mpr c19
 have c19b1 : ((Go.bits .and .i64 (ji18) 1) != 1) = false := bne_eq_false_iff_eq.mpr c19
 clear c19
 by_cases c20 : ((rd_T75 l1 x30_2).f2) = 0
 · rw [if_pos c20] at H
   exact absurd H (by simp)
 rw [if_neg c20] at H
 have c20b0 : (((rd_T75 l1 x30_2).f2) == 0) = false := beq_eq_false_iff_ne.mpr c20
 have c20b1 : (((rd_T75 l1 x30_2).f2) != 0) = true := bne_iff_ne.mpr c20
 obtain ⟨ji21, hji21⟩ : ∃ j_ : Int, (mx 1 (wrap64 (Int.tdiv x7_2 ((rd_T75 l1 x30_2).f2)))) = j_ := ⟨_, rfl⟩
 replace H : (peristyleref10_size.l1 k2 a2 ji21 l1 (l1.length : Int) (wrap64 (x30_2 + 1))) = some r := by first | (rw [hji21] at H; exact H) | (simp only [hji21] at H ⊢; exact H)
 have hji21_ : (if 1 < (wrap64 (Int.tdiv x7_2 ((rd_T75 l1 x30_2).f2))) then (wrap64 (Int.tdiv x7_2 ((rd_T75 l1 x30_2).f2))) else 1) = ji21 := hji21
 have H' := Aside0.mk H
 clear H
 have p188 : 0 ≤ (x30_2 : Int) := of_decide_eq_true s5q1
 have q188 : x30_2 < (l1.length : Int) := of_decide_eq_true s5q1
 obtain ⟨ad188, e188, hx188_0, hx188_1, hx188_2⟩ := at_T75 HR1.out x30_2 p188 q188
 cases e188
 replace hx188_0 := (HB.out.cell (World.block_lt_of_cell? w _ hx188_0)).trans hx188_0
 replace hx188_1 := (HB.out.cell (World.block_lt_of_cell? w _ hx188_1)).trans hx188_1
 replace hx188_2 := (HB.out.cell (World.block_lt_of_cell? w _ hx188_2)).trans hx188_2
 replace p188 := eq_true p188
 replace q188 := eq_true q188
 go_wp2_with (first | ((with_reducible refine gate_dst (N := 11) rfl ?_); refine box_event ?hg (N := 11) ?hd (cs := #[.int .i64 0, .int .i64 0, .int .i64 0]) (t := 75) ?hr ?_; (case hd => rfl); (case hg => rfl); (case hr => first | (go_simp; done) | (go_simp; rfl)); intro gb189 hg w22 hbox hb; have n0_ := Aside0.mk (below_step s5q2 hb); have n1_ := Aside0.mk (hbox); have n2_ := Aside0.mk ((s5q3 : w.heap.size ≤ gb189)); have n3_ := Aside0.mk ((s5q3 : w.heap.size ≤ gb189)); clear HB; have HB := n0_; have BK189 := n1_; have GW189 := n2_; have GE189 := n3_; clear n0_ n1_ n2_ n3_; clear hb hbox hg; have hcz23_0 : w22.cell? ⟨gb189, 0, none⟩ = some (.int .i64 0) := (blk_cell BK189.out 0).trans rfl; have hcz23_1 : w22.cell? ⟨gb189, 1, none⟩ = some (.int .i64 0) := (blk_cell BK189.out 1).trans rfl; have hcz23_2 : w22.cell? ⟨gb189, 2, none⟩ = some (.int .i64 0) := (blk_cell BK189.out 2).trans rfl; have hfz23_0 := blk_frozen BK189.out 0; have hfz23_1 := blk_frozen BK189.out 1; have hfz23_2 := blk_frozen BK189.out 2))
 first | go_roundg k2 | (refine Handed.intro k2 ?measure ?_; rotate_left; go_step; (repeat apply Exists.intro); simp only [add_plain]; refine ⟨?rel, rfl⟩)
 case measure => have := HK1.out; have := HK2.out; omega
 case rel => exact ⟨(ji21), (wrap64 (x30_2 + 1)), (by first | rfl | (simp; done) | (simp only [← hji21] <;> (first | rfl | simp)) | (simp [*]; done)), s5q0, H', ⟨by have := HK1.out; have := HK2.out; omega⟩, ⟨by repeat (first | (with_reducible first | exact HB.out | apply below_alloc | apply pw_below_drewN | apply below_drew1 | refine below_set ?_ GE189.out) | exact HB.out)⟩⟩
/-! ### peristyleref10_least: function 91 -/
def peristyleref10_least.f (a0 : Int) : Option (Int) := some (Go.bits .and .i64 a0 (wrap64 (-a0)))
set_option maxHeartbeats 8000000 in
set_option maxRecDepth 100000 in
theorem peristyleref10_least.calls (a0 : Int) (r : Int) (w : World) (h : peristyleref10_least.f a0 = some r) :
    Calls Tryd.prog 91 #[.int .i64 a0] w fun e w' => e = .returned (.int .i64 r) ∧ Drawn0 w w' := by
 have H : (some (Go.bits .and .i64 a0 (wrap64 (-a0)))) = some r := h
 clear h
 obtain rfl := Option.some.inj H
 go_enter Tryd.func91, Tryd.ntmps91
 go_wp2
 go_ret
 exact ⟨by first | rfl | (simp; done) | (simp [*]; done), by repeat (first | exact Drawn0.refl _ | apply Drawn0.step)⟩
end Go.Proofs.YtgcijejmmhjibaaDoor.G
