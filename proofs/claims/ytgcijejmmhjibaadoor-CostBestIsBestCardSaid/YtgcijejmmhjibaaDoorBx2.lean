-- Printed by a program of this session (a patched print).
import Derived.Test.YtgcijejmmhjibaaDoorBx0
import Derived.Test.YtgcijejmmhjibaaDoorBx1
namespace Go.Proofs.YtgcijejmmhjibaaDoor.B
open Go.RowKit Go.Proofs.YtgcijejmmhjibaaDoorW.PrintWords Go.Proofs.YtgcijejmmhjibaaDoorW.PrintLast Go.Proofs.YtgcijejmmhjibaaDoorW.PrintMore
attribute [local go_sem] max2_int min2_int max_two min_two max_three min_three max_four min_four   -- for this text's walks alone
set_option linter.unusedVariables false
set_option linter.unusedSimpArgs false

theorem s2qm0 {p : Prop} (h : p := by repeat' first | (with_reducible exact ih0 _ _ _ _ _ _) | (with_reducible exact ih1 _ _ _ _ _) | (with_reducible exact cost_product.mono _ _ _) | (with_reducible exact LeO.refl _) | (with_reducible exact LeO.none _) | (with_reducible refine LeO.ite ?_ ?_) | (with_reducible refine LeO.bind ?_ (fun _ => ?_)) | exact ih0 _ _ _ _ _ _ | exact ih1 _ _ _ _ _ | exact cost_product.mono _ _ _ | exact LeO.none _ | refine LeO.ite ?_ ?_ | refine LeO.bind ?_ (fun _ => ?_)) : p := h
theorem s2q0 {p : Prop} (h : p := by first | rfl | (simp; done) | (simp [*]; done)) : p := h
theorem s2q1 {p : Prop} (h : p := by first | (with_reducible assumption) | assumption) : p := h
theorem s2q2 {p : Prop} (h : p := by repeat (first | (with_reducible first | exact HB.out | apply below_alloc | apply pw_below_drewN | apply below_drew1) | exact HB.out)) : p := h
theorem s2q3 {p : Prop} (h : p := by rw [hg]; exact (below_size s2q2)) : p := h
/-! ### cost_size: function 42 -/
mutual
def cost_size.l0 : Nat → List (S75) → Int → Int → List Int → Int → Int → Option (Int)
  | 0, _, _, _, _, _, _ => none
  | k + 1, x1, x2, x7, x12, x13, x14 => if x14 < x13 then (if 0 ≤ x14 then (if x14 < (x12.length : Int) then (if (Go.bits .and .i64 (shr .i64 x2 x14) 1) = 1 then ((cost_product.f k x7 (rd x12 x14)).bind fun t110 => (cost_size.l0 k x1 x2 t110 x12 x13 (wrap64 (x14 + 1)))) else (cost_size.l0 k x1 x2 x7 x12 x13 (wrap64 (x14 + 1)))) else (none)) else (none)) else (cost_size.l1 k x2 x7 x1 (x1.length : Int) 0)
def cost_size.l1 : Nat → Int → Int → List (S75) → Int → Int → Option (Int)
  | 0, _, _, _, _, _ => none
  | k + 1, x2, x7, x28, x29, x30 => if x30 < x29 then (if 0 ≤ x30 then (if x30 < (x28.length : Int) then (if 0 ≤ ((rd_T75 x28 x30).f0) then (if (Go.bits .and .i64 (shr .i64 x2 ((rd_T75 x28 x30).f0)) 1) = 1 then (if 0 ≤ ((rd_T75 x28 x30).f1) then (if (Go.bits .and .i64 (shr .i64 x2 ((rd_T75 x28 x30).f1)) 1) = 1 then (if ((rd_T75 x28 x30).f2) = 0 then (none) else (cost_size.l1 k x2 (mx 1 (wrap64 (Int.tdiv x7 ((rd_T75 x28 x30).f2)))) x28 x29 (wrap64 (x30 + 1)))) else (cost_size.l1 k x2 x7 x28 x29 (wrap64 (x30 + 1)))) else (none)) else (cost_size.l1 k x2 x7 x28 x29 (wrap64 (x30 + 1)))) else (none)) else (none)) else (none)) else (some x7)
end
def cost_size.f (k : Nat) (l0 : List Int) (l1 : List (S75)) (a2 : Int) : Option (Int) := cost_size.l0 k l1 a2 1 l0 (l0.length : Int) 0
theorem cost_size.mono_l : ∀ k, (∀ y0 y1 y2 y3 y4 y5, LeO (cost_size.l0 k y0 y1 y2 y3 y4 y5) (cost_size.l0 (k + 1) y0 y1 y2 y3 y4 y5)) ∧ (∀ y0 y1 y2 y3 y4, LeO (cost_size.l1 k y0 y1 y2 y3 y4) (cost_size.l1 (k + 1) y0 y1 y2 y3 y4))
  | 0 => ⟨fun _ _ _ _ _ _ r h => by simp [cost_size.l0] at h, fun _ _ _ _ _ r h => by simp [cost_size.l1] at h⟩
  | k + 1 => by
    obtain ⟨ih0, ih1⟩ := cost_size.mono_l k
    refine ⟨?_, ?_⟩
    · intro y0 y1 y2 y3 y4 y5
      unfold cost_size.l0
      exact s2qm0
    · intro y0 y1 y2 y3 y4
      unfold cost_size.l1
      exact s2qm0
theorem cost_size.mono : ∀ a0 a1 a2 k, LeO (cost_size.f k a0 a1 a2) (cost_size.f (k + 1) a0 a1 a2) := by
 intro a0 a1 a2 k
 obtain ⟨ih0, ih1⟩ := cost_size.mono_l k
 unfold cost_size.f
 repeat' first
  | (with_reducible exact ih0 _ _ _ _ _ _)
  | (with_reducible exact ih1 _ _ _ _ _)
  | (with_reducible exact cost_product.mono _ _ _)
  | (with_reducible exact LeO.refl _)
  | (with_reducible exact LeO.none _)
  | (with_reducible refine LeO.ite ?_ ?_)
  | (with_reducible refine LeO.bind ?_ (fun _ => ?_))
  | exact ih0 _ _ _ _ _ _
  | exact ih1 _ _ _ _ _
  | exact cost_product.mono _ _ _
  | exact LeO.none _
  | refine LeO.ite ?_ ?_
  | refine LeO.bind ?_ (fun _ => ?_)
set_option maxHeartbeats 8000000 in
set_option maxRecDepth 100000 in
theorem cost_size.calls (k : Nat) (A0 : Option Addr) (c0 : Nat) (l0 : List Int) (A1 : Option Addr) (c1 : Nat) (l1 : List (S75)) (a2 : Int) (r : Int) (w : World) (hr0 : Kd.C (Kd.int .i64) w A0 l0.length l0) (hc0 : l0.length ≤ c0) (hr1 : Kd.C k75 w A1 l1.length l1) (hc1 : l1.length ≤ c1) (h : cost_size.f k l0 l1 a2 = some r) :
    Calls Tryd.prog 42 #[.slice A0 l0.length c0, .slice A1 l1.length c1, .int .i64 a2] w fun e w' => e = .returned (.int .i64 r) ∧ Below w.heap.size w w' := by
 have hu75 := Tryd.underlying75
 have HR0 := Aside0.mk hr0
 have HC0 := Aside0.mk hc0
 clear hr0 hc0
 have HR1 := Aside0.mk hr1
 have HC1 := Aside0.mk hc1
 clear hr1 hc1
 have HB := Aside0.mk (Below.refl w.heap.size w)
 have H : (cost_size.l0 k l1 a2 1 l0 (l0.length : Int) 0) = some r := h
 clear h
 have H' := Aside0.mk H
 clear H
 go_enter Tryd.func42, Tryd.ntmps42
 go_wp2
 go_loopg [7, 14] k (fun kq v7 v14 w' => ∃ (x7_1 : Int) (x14_1 : Int), v7 = .int .i64 x7_1 ∧ v14 = .int .i64 x14_1 ∧ Aside0 (cost_size.l0 kq l1 a2 x7_1 l0 (l0.length : Int) x14_1 = some r) ∧ Aside0 (kq ≤ k) ∧ Aside0 (Below w.heap.size w w'))
 case atStart => exact ⟨(1), (0), s2q0, s2q0, H', ⟨Nat.le_refl _⟩, ⟨by repeat (first | (with_reducible first | exact HB.out | apply below_alloc | apply pw_below_drewN | apply below_drew1) | exact HB.out)⟩⟩
 clear H'
 try clear c1
 try clear p2
 obtain ⟨x7_1, x14_1, rfl, rfl, HA, HK1, HB⟩ := hrel
 cases gk with
 | zero => exact absurd HA.out (by simp [cost_size.l0])
 | succ k1 => ?_
 have H := HA.out
 clear HA
 simp only [cost_size.l0] at H
 by_cases c4 : x14_1 < (l0.length : Int)
 · rw [if_pos c4] at H
   have c4b0 : decide (x14_1 < (l0.length : Int)) = true := decide_eq_true c4
   clear c4
   by_cases c5 : 0 ≤ x14_1
   case neg =>
    rw [if_neg c5] at H
    exact absurd H (by simp)
   rw [if_pos c5] at H
   have c5b0 : decide (0 ≤ x14_1) = true := decide_eq_true c5
   clear c5
   by_cases c6 : x14_1 < (l0.length : Int)
   case neg =>
    rw [if_neg c6] at H
    exact absurd H (by simp)
   rw [if_pos c6] at H
   have c6b0 : decide (x14_1 < (l0.length : Int)) = true := decide_eq_true c6
   clear c6
   have c7b0 := eq_true (of_decide_eq_true s2q1 : 0 ≤ x14_1)
   obtain ⟨ji8, hji8⟩ : ∃ j_ : Int, (shr .i64 a2 x14_1) = j_ := ⟨_, rfl⟩
   replace H : (if (Go.bits .and .i64 (ji8) 1) = 1 then ((cost_product.f k1 x7_1 (rd l0 x14_1)).bind fun t110 => (cost_size.l0 k1 l1 a2 t110 l0 (l0.length : Int) (wrap64 (x14_1 + 1)))) else (cost_size.l0 k1 l1 a2 x7_1 l0 (l0.length : Int) (wrap64 (x14_1 + 1)))) = some r := by first | (rw [hji8] at H; exact H) | (simp only [hji8] at H ⊢; exact H)
   have hji8_ : (a2 / 2 ^ min x14_1.toNat 64) = ji8 := hji8
   have hji8z : x14_1 ≤ 64 → (a2 / 2 ^ x14_1.toNat) = ji8 := shr_small hji8
   by_cases c9 : (Go.bits .and .i64 (ji8) 1) = 1
   case neg =>
    rw [if_neg c9] at H
    have c9b0 : ((Go.bits .and .i64 (ji8) 1) == 1) = false := beq_eq_false_iff_ne.mpr c9
    have c9b1 : ((Go.bits .and .i64 (ji8) 1) != 1) = true := bne_iff_ne.mpr c9
    have H' := Aside0.mk H
    clear H
    have p109 : 0 ≤ (x14_1 : Int) := of_decide_eq_true s2q1
    have q109 : x14_1 < (l0.length : Int) := of_decide_eq_true s2q1
    obtain ⟨ad109, e109, hx109_0⟩ := Kd.at_int HR0.out x14_1 p109 q109
    cases e109
    replace hx109_0 := (HB.out.cell (World.block_lt_of_cell? w _ hx109_0)).trans hx109_0
    replace p109 := eq_true p109
    replace q109 := eq_true q109
    go_wp2
    first | go_roundg k1 | (refine Handed.intro k1 ?measure ?_; rotate_left; go_step; (repeat apply Exists.intro); simp only [add_plain]; refine ⟨?rel, rfl⟩)
    case measure => have := HK1.out; omega
    case rel => exact ⟨(x7_1), (wrap64 (x14_1 + 1)), s2q0, s2q0, H', ⟨by have := HK1.out; omega⟩, ⟨by repeat (first | (with_reducible first | exact HB.out | apply below_alloc | apply pw_below_drewN | apply below_drew1) | exact HB.out)⟩⟩
   rw [if_pos c9] at H
   have c9b0 : ((Go.bits .and .i64 (ji8) 1) == 1) = true := beq_iff_eq.mpr c9
   have c9b1 : ((Go.bits .and .i64 (ji8) 1) != 1) = false := bne_eq_false_iff_eq.mpr c9
   clear c9
   replace H := Option.bind_eq_some_iff.mp H
   obtain ⟨t110, A100, H⟩ := H
   replace H : (cost_size.l0 k1 l1 a2 t110 l0 (l0.length : Int) (wrap64 (x14_1 + 1))) = some r := H
   have A10 := Aside0.mk A100
   clear A100
   have H' := Aside0.mk H
   clear H
   have p109 : 0 ≤ (x14_1 : Int) := of_decide_eq_true s2q1
   have q109 : x14_1 < (l0.length : Int) := of_decide_eq_true s2q1
   obtain ⟨ad109, e109, hx109_0⟩ := Kd.at_int HR0.out x14_1 p109 q109
   cases e109
   replace hx109_0 := (HB.out.cell (World.block_lt_of_cell? w _ hx109_0)).trans hx109_0
   replace p109 := eq_true p109
   replace q109 := eq_true q109
   go_wp2_with (first | ((with_reducible refine gate_callee (f := 87) rfl ?_); refine goesL_ (some 26) rfl rfl Tryd.func87 (by kernel_rfl) rfl #[.int .i64 x7_1, .int .i64 (rd l0 x14_1)] rfl (by (try simp only [List.map_toArray, List.map_cons, List.map_nil]); first | done | rfl | (simp only [List.length_drop, List.length_take]; rfl)) ?_; (with_reducible refine (cost_product.calls k1 x7_1 (rd l0 x14_1) t110 _ A10.out).mono ?_); rintro e w11 ⟨rfl, hb⟩; refine ⟨_, rfl, ?_⟩; have n0_ := Aside0.mk (below_step s2q2 hb); clear HB; have HB := n0_; clear n0_; (try clear hb); (try clear hb2); (try clear hk); (try clear hi)))
   first | go_roundg k1 | (refine Handed.intro k1 ?measure ?_; rotate_left; go_step; (repeat apply Exists.intro); simp only [add_plain]; refine ⟨?rel, rfl⟩)
   case measure => have := HK1.out; omega
   case rel => exact ⟨(t110), (wrap64 (x14_1 + 1)), s2q0, s2q0, H', ⟨by have := HK1.out; omega⟩, ⟨by repeat (first | (with_reducible first | exact HB.out | apply below_alloc | apply pw_below_drewN | apply below_drew1) | exact HB.out)⟩⟩
 rw [if_neg c4] at H
 have c4b0 : decide (x14_1 < (l0.length : Int)) = false := decide_eq_false c4
 clear c4
 have H' := Aside0.mk H
 clear H
 go_wp2
 go_loopg [7, 30] k1 (fun kq v7 v30 w' => ∃ (x7_2 : Int) (x30_2 : Int), v7 = .int .i64 x7_2 ∧ v30 = .int .i64 x30_2 ∧ Aside0 (cost_size.l1 kq a2 x7_2 l1 (l1.length : Int) x30_2 = some r) ∧ Aside0 (kq ≤ k1) ∧ Aside0 (Below w.heap.size w w'))
 case atStart => exact ⟨(x7_1), (0), s2q0, s2q0, H', ⟨Nat.le_refl _⟩, ⟨by repeat (first | (with_reducible first | exact HB.out | apply below_alloc | apply pw_below_drewN | apply below_drew1) | exact HB.out)⟩⟩
 clear H'
 try clear c1
 try clear p1
 try clear q1
 try clear hx1
 try clear p2
 try clear c4
 try clear c4b0
 try clear c5
 try clear c5b0
 try clear c6
 try clear c6b0
 try clear p6
 try clear c7
 try clear c7b0
 try clear c8
 try clear c9
 try clear c9b0
 try clear c9b1
 try clear p10
 try clear q10
 try clear hx10
 try clear hx109_0
 try clear p109
 try clear p2
 try clear q109
 obtain ⟨x7_2, x30_2, rfl, rfl, HA, HK2, HB⟩ := hrel
 cases gk with
 | zero => exact absurd HA.out (by simp [cost_size.l1])
 | succ k2 => ?_
 have H := HA.out
 clear HA
 simp only [cost_size.l1] at H
 by_cases c12 : x30_2 < (l1.length : Int)
 case neg =>
  rw [if_neg c12] at H
  have c12b0 : decide (x30_2 < (l1.length : Int)) = false := decide_eq_false c12
  clear c12
  obtain rfl := Option.some.inj H
  go_wp2
  go_ret
  exact ⟨by first | rfl | (simp [errW_none, errW_some] <;> rfl) | (simp [*, errW_none, errW_some] <;> rfl), by repeat (first | (with_reducible first | exact HB.out | apply below_alloc | apply pw_below_drewN | apply below_drew1) | exact HB.out)⟩
 rw [if_pos c12] at H
 have c12b0 : decide (x30_2 < (l1.length : Int)) = true := decide_eq_true c12
 clear c12
 by_cases c13 : 0 ≤ x30_2
 case neg =>
  rw [if_neg c13] at H
  exact absurd H (by simp)
 rw [if_pos c13] at H
 have c13b0 : decide (0 ≤ x30_2) = true := decide_eq_true c13
 clear c13
 by_cases c14 : x30_2 < (l1.length : Int)
 case neg =>
  rw [if_neg c14] at H
  exact absurd H (by simp)
 rw [if_pos c14] at H
 have c14b0 : decide (x30_2 < (l1.length : Int)) = true := decide_eq_true c14
 clear c14
 by_cases c15 : 0 ≤ ((rd_T75 l1 x30_2).f0)
 case neg =>
  rw [if_neg c15] at H
  exact absurd H (by simp)
 rw [if_pos c15] at H
 have c15b0 := eq_true c15
 have c15b1 : decide (0 ≤ ((rd_T75 l1 x30_2).f0)) = true := decide_eq_true c15
 clear c15
 obtain ⟨ji16, hji16⟩ : ∃ j_ : Int, (shr .i64 a2 ((rd_T75 l1 x30_2).f0)) = j_ := ⟨_, rfl⟩
 replace H : (if (Go.bits .and .i64 (ji16) 1) = 1 then (if 0 ≤ ((rd_T75 l1 x30_2).f1) then (if (Go.bits .and .i64 (shr .i64 a2 ((rd_T75 l1 x30_2).f1)) 1) = 1 then (if ((rd_T75 l1 x30_2).f2) = 0 then (none) else (cost_size.l1 k2 a2 (mx 1 (wrap64 (Int.tdiv x7_2 ((rd_T75 l1 x30_2).f2)))) l1 (l1.length : Int) (wrap64 (x30_2 + 1)))) else (cost_size.l1 k2 a2 x7_2 l1 (l1.length : Int) (wrap64 (x30_2 + 1)))) else (none)) else (cost_size.l1 k2 a2 x7_2 l1 (l1.length : Int) (wrap64 (x30_2 + 1)))) = some r := by first | (rw [hji16] at H; exact H) | (simp only [hji16] at H ⊢; exact H)
 have hji16_ : (a2 / 2 ^ min ((rd_T75 l1 x30_2).f0).toNat 64) = ji16 := hji16
 have hji16z : ((rd_T75 l1 x30_2).f0) ≤ 64 → (a2 / 2 ^ ((rd_T75 l1 x30_2).f0).toNat) = ji16 := shr_small hji16
 by_cases c17 : (Go.bits .and .i64 (ji16) 1) = 1
 case neg =>
  rw [if_neg c17] at H
  have c17b0 : ((Go.bits .and .i64 (ji16) 1) == 1) = false := beq_eq_false_iff_ne.mpr c17
  have c17b1 : ((Go.bits .and .i64 (ji16) 1) != 1) = true := bne_iff_ne.mpr c17
  have H' := Aside0.mk H
  clear H
  have p111 : 0 ≤ (x30_2 : Int) := of_decide_eq_true s2q1
  have q111 : x30_2 < (l1.length : Int) := of_decide_eq_true s2q1
  obtain ⟨ad111, e111, hx111_0, hx111_1, hx111_2⟩ := at_T75 HR1.out x30_2 p111 q111
  cases e111
  replace hx111_0 := (HB.out.cell (World.block_lt_of_cell? w _ hx111_0)).trans hx111_0
  replace hx111_1 := (HB.out.cell (World.block_lt_of_cell? w _ hx111_1)).trans hx111_1
  replace hx111_2 := (HB.out.cell (World.block_lt_of_cell? w _ hx111_2)).trans hx111_2
  replace p111 := eq_true p111
  replace q111 := eq_true q111
  go_wp2_with (first | ((with_reducible refine gate_dst (N := 11) rfl ?_); refine box_event ?hg (N := 11) ?hd (cs := #[.int .i64 0, .int .i64 0, .int .i64 0]) (t := 75) ?hr ?_; (case hd => rfl); (case hg => rfl); (case hr => first | (go_simp; done) | (go_simp; rfl)); intro gb112 hg w27 hbox hb; have n0_ := Aside0.mk (below_step s2q2 hb); have n1_ := Aside0.mk (hbox); have n2_ := Aside0.mk ((s2q3 : w.heap.size ≤ gb112)); have n3_ := Aside0.mk ((s2q3 : w.heap.size ≤ gb112)); clear HB; have HB := n0_; have BK112 := n1_; have GW112 := n2_; have GE112 := n3_; clear n0_ n1_ n2_ n3_; clear hb hbox hg; have hcz28_0 : w27.cell? ⟨gb112, 0, none⟩ = some (.int .i64 0) := (blk_cell BK112.out 0).trans rfl; have hcz28_1 : w27.cell? ⟨gb112, 1, none⟩ = some (.int .i64 0) := (blk_cell BK112.out 1).trans rfl; have hcz28_2 : w27.cell? ⟨gb112, 2, none⟩ = some (.int .i64 0) := (blk_cell BK112.out 2).trans rfl; have hfz28_0 := blk_frozen BK112.out 0; have hfz28_1 := blk_frozen BK112.out 1; have hfz28_2 := blk_frozen BK112.out 2))
  first | go_roundg k2 | (refine Handed.intro k2 ?measure ?_; rotate_left; go_step; (repeat apply Exists.intro); simp only [add_plain]; refine ⟨?rel, rfl⟩)
  case measure => have := HK1.out; have := HK2.out; omega
  case rel => exact ⟨(x7_2), (wrap64 (x30_2 + 1)), s2q0, s2q0, H', ⟨by have := HK1.out; have := HK2.out; omega⟩, ⟨by repeat (first | (with_reducible first | exact HB.out | apply below_alloc | apply pw_below_drewN | apply below_drew1 | refine below_set ?_ GE112.out) | exact HB.out)⟩⟩
 rw [if_pos c17] at H
 have c17b0 : ((Go.bits .and .i64 (ji16) 1) == 1) = true := beq_iff_eq.mpr c17
 have c17b1 : ((Go.bits .and .i64 (ji16) 1) != 1) = false := bne_eq_false_iff_eq.mpr c17
 clear c17
 by_cases c18 : 0 ≤ ((rd_T75 l1 x30_2).f1)
 case neg =>
  rw [if_neg c18] at H
  exact absurd H (by simp)
 rw [if_pos c18] at H
 have c18b0 := eq_true c18
 have c18b1 : decide (0 ≤ ((rd_T75 l1 x30_2).f1)) = true := decide_eq_true c18
 clear c18
 obtain ⟨ji19, hji19⟩ : ∃ j_ : Int, (shr .i64 a2 ((rd_T75 l1 x30_2).f1)) = j_ := ⟨_, rfl⟩
 replace H : (if (Go.bits .and .i64 (ji19) 1) = 1 then (if ((rd_T75 l1 x30_2).f2) = 0 then (none) else (cost_size.l1 k2 a2 (mx 1 (wrap64 (Int.tdiv x7_2 ((rd_T75 l1 x30_2).f2)))) l1 (l1.length : Int) (wrap64 (x30_2 + 1)))) else (cost_size.l1 k2 a2 x7_2 l1 (l1.length : Int) (wrap64 (x30_2 + 1)))) = some r := by first | (rw [hji19] at H; exact H) | (simp only [hji19] at H ⊢; exact H)
 have hji19_ : (a2 / 2 ^ min ((rd_T75 l1 x30_2).f1).toNat 64) = ji19 := hji19
 have hji19z : ((rd_T75 l1 x30_2).f1) ≤ 64 → (a2 / 2 ^ ((rd_T75 l1 x30_2).f1).toNat) = ji19 := shr_small hji19
 by_cases c20 : (Go.bits .and .i64 (ji19) 1) = 1
 case neg =>
  rw [if_neg c20] at H
  have c20b0 : ((Go.bits .and .i64 (ji19) 1) == 1) = false := beq_eq_false_iff_ne.mpr c20
  have c20b1 : ((Go.bits .and .i64 (ji19) 1) != 1) = true := bne_iff_ne.mpr c20
  have H' := Aside0.mk H
  clear H
  have p111 : 0 ≤ (x30_2 : Int) := of_decide_eq_true s2q1
  have q111 : x30_2 < (l1.length : Int) := of_decide_eq_true s2q1
  obtain ⟨ad111, e111, hx111_0, hx111_1, hx111_2⟩ := at_T75 HR1.out x30_2 p111 q111
  cases e111
  replace hx111_0 := (HB.out.cell (World.block_lt_of_cell? w _ hx111_0)).trans hx111_0
  replace hx111_1 := (HB.out.cell (World.block_lt_of_cell? w _ hx111_1)).trans hx111_1
  replace hx111_2 := (HB.out.cell (World.block_lt_of_cell? w _ hx111_2)).trans hx111_2
  replace p111 := eq_true p111
  replace q111 := eq_true q111
  go_wp2_with (first | ((with_reducible refine gate_dst (N := 11) rfl ?_); refine box_event ?hg (N := 11) ?hd (cs := #[.int .i64 0, .int .i64 0, .int .i64 0]) (t := 75) ?hr ?_; (case hd => rfl); (case hg => rfl); (case hr => first | (go_simp; done) | (go_simp; rfl)); intro gb112 hg w25 hbox hb; have n0_ := Aside0.mk (below_step s2q2 hb); have n1_ := Aside0.mk (hbox); have n2_ := Aside0.mk ((s2q3 : w.heap.size ≤ gb112)); have n3_ := Aside0.mk ((s2q3 : w.heap.size ≤ gb112)); clear HB; have HB := n0_; have BK112 := n1_; have GW112 := n2_; have GE112 := n3_; clear n0_ n1_ n2_ n3_; clear hb hbox hg; have hcz26_0 : w25.cell? ⟨gb112, 0, none⟩ = some (.int .i64 0) := (blk_cell BK112.out 0).trans rfl; have hcz26_1 : w25.cell? ⟨gb112, 1, none⟩ = some (.int .i64 0) := (blk_cell BK112.out 1).trans rfl; have hcz26_2 : w25.cell? ⟨gb112, 2, none⟩ = some (.int .i64 0) := (blk_cell BK112.out 2).trans rfl; have hfz26_0 := blk_frozen BK112.out 0; have hfz26_1 := blk_frozen BK112.out 1; have hfz26_2 := blk_frozen BK112.out 2))
  first | go_roundg k2 | (refine Handed.intro k2 ?measure ?_; rotate_left; go_step; (repeat apply Exists.intro); simp only [add_plain]; refine ⟨?rel, rfl⟩)
  case measure => have := HK1.out; have := HK2.out; omega
  case rel => exact ⟨(x7_2), (wrap64 (x30_2 + 1)), s2q0, s2q0, H', ⟨by have := HK1.out; have := HK2.out; omega⟩, ⟨by repeat (first | (with_reducible first | exact HB.out | apply below_alloc | apply pw_below_drewN | apply below_drew1 | refine below_set ?_ GE112.out) | exact HB.out)⟩⟩
 rw [if_pos c20] at H
 have c20b0 : ((Go.bits .and .i64 (ji19) 1) == 1) = true := beq_iff_eq.mpr c20
 have c20b1 : ((Go.bits .and .i64 (ji19) 1) != 1) = false := bne_eq_false_iff_eq.mpr c20
 clear c20
 by_cases c21 : ((rd_T75 l1 x30_2).f2) = 0
 · rw [if_pos c21] at H
   exact absurd H (by simp)
 rw [if_neg c21] at H
 have c21b0 : (((rd_T75 l1 x30_2).f2) == 0) = false := beq_eq_false_iff_ne.mpr c21
 have c21b1 : (((rd_T75 l1 x30_2).f2) != 0) = true := bne_iff_ne.mpr c21
 obtain ⟨ji22, hji22⟩ : ∃ j_ : Int, (mx 1 (wrap64 (Int.tdiv x7_2 ((rd_T75 l1 x30_2).f2)))) = j_ := ⟨_, rfl⟩
 replace H : (cost_size.l1 k2 a2 ji22 l1 (l1.length : Int) (wrap64 (x30_2 + 1))) = some r := by first | (rw [hji22] at H; exact H) | (simp only [hji22] at H ⊢; exact H)
 have hji22_ : (if 1 < (wrap64 (Int.tdiv x7_2 ((rd_T75 l1 x30_2).f2))) then (wrap64 (Int.tdiv x7_2 ((rd_T75 l1 x30_2).f2))) else 1) = ji22 := hji22
 have H' := Aside0.mk H
 clear H
 have p111 : 0 ≤ (x30_2 : Int) := of_decide_eq_true s2q1
 have q111 : x30_2 < (l1.length : Int) := of_decide_eq_true s2q1
 obtain ⟨ad111, e111, hx111_0, hx111_1, hx111_2⟩ := at_T75 HR1.out x30_2 p111 q111
 cases e111
 replace hx111_0 := (HB.out.cell (World.block_lt_of_cell? w _ hx111_0)).trans hx111_0
 replace hx111_1 := (HB.out.cell (World.block_lt_of_cell? w _ hx111_1)).trans hx111_1
 replace hx111_2 := (HB.out.cell (World.block_lt_of_cell? w _ hx111_2)).trans hx111_2
 replace p111 := eq_true p111
 replace q111 := eq_true q111
 go_wp2_with (first | ((with_reducible refine gate_dst (N := 11) rfl ?_); refine box_event ?hg (N := 11) ?hd (cs := #[.int .i64 0, .int .i64 0, .int .i64 0]) (t := 75) ?hr ?_; (case hd => rfl); (case hg => rfl); (case hr => first | (go_simp; done) | (go_simp; rfl)); intro gb112 hg w23 hbox hb; have n0_ := Aside0.mk (below_step s2q2 hb); have n1_ := Aside0.mk (hbox); have n2_ := Aside0.mk ((s2q3 : w.heap.size ≤ gb112)); have n3_ := Aside0.mk ((s2q3 : w.heap.size ≤ gb112)); clear HB; have HB := n0_; have BK112 := n1_; have GW112 := n2_; have GE112 := n3_; clear n0_ n1_ n2_ n3_; clear hb hbox hg; have hcz24_0 : w23.cell? ⟨gb112, 0, none⟩ = some (.int .i64 0) := (blk_cell BK112.out 0).trans rfl; have hcz24_1 : w23.cell? ⟨gb112, 1, none⟩ = some (.int .i64 0) := (blk_cell BK112.out 1).trans rfl; have hcz24_2 : w23.cell? ⟨gb112, 2, none⟩ = some (.int .i64 0) := (blk_cell BK112.out 2).trans rfl; have hfz24_0 := blk_frozen BK112.out 0; have hfz24_1 := blk_frozen BK112.out 1; have hfz24_2 := blk_frozen BK112.out 2))
 first | go_roundg k2 | (refine Handed.intro k2 ?measure ?_; rotate_left; go_step; (repeat apply Exists.intro); simp only [add_plain]; refine ⟨?rel, rfl⟩)
 case measure => have := HK1.out; have := HK2.out; omega
 case rel => exact ⟨(ji22), (wrap64 (x30_2 + 1)), (by first | rfl | (simp; done) | (simp only [← hji22] <;> (first | rfl | simp)) | (simp [*]; done)), s2q0, H', ⟨by have := HK1.out; have := HK2.out; omega⟩, ⟨by repeat (first | (with_reducible first | exact HB.out | apply below_alloc | apply pw_below_drewN | apply below_drew1 | refine below_set ?_ GE112.out) | exact HB.out)⟩⟩
end Go.Proofs.YtgcijejmmhjibaaDoor.B
