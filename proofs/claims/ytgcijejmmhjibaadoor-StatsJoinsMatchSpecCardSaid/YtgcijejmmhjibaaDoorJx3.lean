-- Printed by a program of this session (a patched print).
import Derived.Test.YtgcijejmmhjibaaDoorJx0
import Derived.Test.YtgcijejmmhjibaaDoorJx2
namespace Go.Proofs.YtgcijejmmhjibaaDoor.J
open Go.RowKit Go.Proofs.YtgcijejmmhjibaaDoorW.PrintWords Go.Proofs.YtgcijejmmhjibaaDoorW.PrintLast Go.Proofs.YtgcijejmmhjibaaDoorW.PrintMore
attribute [local go_sem] max2_int min2_int max_two min_two max_three min_three max_four min_four   -- for this text's walks alone
set_option linter.unusedVariables false
set_option linter.unusedSimpArgs false

theorem s3z1 {p : Prop} (h : p := by repeat (first | (with_reducible first | exact HB.out | apply below_alloc | apply pw_below_drewN | apply below_drew1 | refine below_set ?_ GE112.out) | exact HB.out)) : p := h
theorem s3qm0 {p : Prop} (h : p := by repeat' first | (with_reducible exact ih0 _ _ _ _ _ _) | (with_reducible exact ih1 _ _ _ _ _) | (with_reducible exact cost_product.mono _ _ _) | (with_reducible exact LeO.refl _) | (with_reducible exact LeO.none _) | (with_reducible refine LeO.ite ?_ ?_) | (with_reducible refine LeO.bind ?_ (fun _ => ?_)) | exact ih0 _ _ _ _ _ _ | exact ih1 _ _ _ _ _ | exact cost_product.mono _ _ _ | exact LeO.none _ | refine LeO.ite ?_ ?_ | refine LeO.bind ?_ (fun _ => ?_)) : p := h
theorem s3qm1 {p : Prop} (h : p := by repeat' first | (with_reducible exact ih0 _ _ _ _ _) | (with_reducible exact ih1 _ _ _ _) | (with_reducible exact LeO.refl _) | (with_reducible exact LeO.none _) | (with_reducible refine LeO.ite ?_ ?_) | (with_reducible refine LeO.bind ?_ (fun _ => ?_)) | exact ih0 _ _ _ _ _ | exact ih1 _ _ _ _ | exact LeO.none _ | refine LeO.ite ?_ ?_ | refine LeO.bind ?_ (fun _ => ?_)) : p := h
theorem s3q0 {p : Prop} (h : p := by simp) : p := h
theorem s3q3 {p : Prop} (h : p := by (with_reducible repeat (first | apply Kd.V_alloc | apply Kd.V_drewN | apply Kd.V_drew)); exact HO0.out) : p := h
theorem s3q4 {p : Prop} (h : p := by (with_reducible repeat (first | apply Kd.V_alloc | apply Kd.V_drewN | apply Kd.V_drew)); exact HO1.out) : p := h
theorem s3q7 {p : Prop} (h : p := by rw [hg]; exact (below_size q1_)) : p := h
/-! ### cost_size: function 42 -/
mutual
def cost_size.l0 : Nat → List (S75) → Int → Int → List Int → Int → Int → Option (Int)
  | 0, _, _, _, _, _, _ => none
  | k + 1, x1, x2, x7, x12, x13, x14 => if x14 < x13 then (if 0 ≤ x14 then (if x14 < (x12.length : Int) then (if (Go.bits .and .i64 (shr .i64 x2 x14) 1) = 1 then ((cost_product.f k x7 (rd x12 x14)).bind fun t110 => (cost_size.l0 k x1 x2 t110 x12 x13 (wrap64 (x14 + 1)))) else (cost_size.l0 k x1 x2 x7 x12 x13 (wrap64 (x14 + 1)))) else (none)) else (none)) else (cost_size.l1 k x2 x7 x1 (x1.length : Int) 0)
def cost_size.l1 : Nat → Int → Int → List (S75) → Int → Int → Option (Int)
  | 0, _, _, _, _, _ => none
  | k + 1, x2, x7, x28, x29, x30 => if x30 < x29 then (if 0 ≤ x30 then (if x30 < (x28.length : Int) then (if 0 ≤ ((rd_T75 x28 x30).f0) then (if (Go.bits .and .i64 (shr .i64 x2 ((rd_T75 x28 x30).f0)) 1) = 1 then (if 0 ≤ ((rd_T75 x28 x30).f1) then (if (Go.bits .and .i64 (shr .i64 x2 ((rd_T75 x28 x30).f1)) 1) = 1 then (if ((rd_T75 x28 x30).f2) = 0 then (none) else (cost_size.l1 k x2 (mx 1 (wrap64 (Int.tdiv x7 ((rd_T75 x28 x30).f2)))) x28 x29 (wrap64 (x30 + 1)))) else (cost_size.l1 k x2 x7 x28 x29 (wrap64 (x30 + 1)))) else (none)) else (cost_size.l1 k x2 x7 x28 x29 (wrap64 (x30 + 1)))) else (none)) else (none)) else (none)) else (some x7)
end
def cost_size.f (k : Nat) (l0 : List Int) (l1 : List (S75)) (a2 : Int) : Option (Int) := cost_size.l0 k l1 a2 1 l0 (l0.length : Int) 0
theorem cost_size.mono_l : ∀ k, (∀ y0 y1 y2 y3 y4 y5, LeO (cost_size.l0 k y0 y1 y2 y3 y4 y5) (cost_size.l0 (k + 1) y0 y1 y2 y3 y4 y5)) ∧ (∀ y0 y1 y2 y3 y4, LeO (cost_size.l1 k y0 y1 y2 y3 y4) (cost_size.l1 (k + 1) y0 y1 y2 y3 y4))
  | 0 => ⟨fun _ _ _ _ _ _ r h => by simp [cost_size.l0] at h, fun _ _ _ _ _ r h => by simp [cost_size.l1] at h⟩
  | k + 1 => by
    obtain ⟨ih0, ih1⟩ := cost_size.mono_l k
    refine ⟨?_, ?_⟩
    · intro y0 y1 y2 y3 y4 y5
      unfold cost_size.l0
      exact s3qm0
    · intro y0 y1 y2 y3 y4
      unfold cost_size.l1
      exact s3qm0
theorem cost_size.mono : ∀ a0 a1 a2 k, LeO (cost_size.f k a0 a1 a2) (cost_size.f (k + 1) a0 a1 a2) := by
 intro a0 a1 a2 k
 obtain ⟨ih0, ih1⟩ := cost_size.mono_l k
 unfold cost_size.f
 repeat' first
  | (with_reducible exact ih0 _ _ _ _ _ _)
  | (with_reducible exact ih1 _ _ _ _ _)
  | (with_reducible exact cost_product.mono _ _ _)
  | (with_reducible exact LeO.refl _)
  | (with_reducible exact LeO.none _)
  | (with_reducible refine LeO.ite ?_ ?_)
  | (with_reducible refine LeO.bind ?_ (fun _ => ?_))
  | exact ih0 _ _ _ _ _ _
  | exact ih1 _ _ _ _ _
  | exact cost_product.mono _ _ _
  | exact LeO.none _
  | refine LeO.ite ?_ ?_
  | refine LeO.bind ?_ (fun _ => ?_)
set_option maxHeartbeats 8000000 in
set_option maxRecDepth 100000 in
theorem cost_size.calls (k : Nat) (A0 : Option Addr) (c0 : Nat) (l0 : List Int) (A1 : Option Addr) (c1 : Nat) (l1 : List (S75)) (a2 : Int) (r : Int) (w : World) (hr0 : Kd.C (Kd.int .i64) w A0 l0.length l0) (hc0 : l0.length ≤ c0) (hr1 : Kd.C k75 w A1 l1.length l1) (hc1 : l1.length ≤ c1) (h : cost_size.f k l0 l1 a2 = some r) :
    Calls Tryd.prog 42 #[.slice A0 l0.length c0, .slice A1 l1.length c1, .int .i64 a2] w fun e w' => e = .returned (.int .i64 r) ∧ Below w.heap.size w w' := by
 have hu75 := Tryd.underlying75
 have HR0 := aM hr0
 have HC0 := aM hc0
 clear hr0 hc0
 have HR1 := aM hr1
 have HC1 := aM hc1
 clear hr1 hc1
 have HB := aM (Below.refl w.heap.size w)
 have H : (cost_size.l0 k l1 a2 1 l0 (l0.length : Int) 0) = some r := h
 clear h
 have H' := aM H
 clear H
 go_enter Tryd.func42, Tryd.ntmps42
 go_wp2
 go_loopg [7, 14] k (fun kq v7 v14 w' => ∃ (x7_1 : Int) (x14_1 : Int), v7 = .int .i64 x7_1 ∧ v14 = .int .i64 x14_1 ∧ Aside0 (cost_size.l0 kq l1 a2 x7_1 l0 (l0.length : Int) x14_1 = some r) ∧ Aside0 (kq ≤ k) ∧ Aside0 (Below w.heap.size w w'))
 case atStart => exact ⟨(1), (0), q4_, q4_, H', ⟨Nat.le_refl _⟩, ⟨q1_⟩⟩
 clear H'
 try clear c1
 try clear p2
 obtain ⟨x7_1, x14_1, rfl, rfl, HA, HK1, HB⟩ := hrel
 cases gk with
 | zero => exact absurd HA.out (by simp [cost_size.l0])
 | succ k1 => ?_
 have H := HA.out
 clear HA
 simp only [cost_size.l0] at H
 by_cases c4 : x14_1 < (l0.length : Int)
 · rw [if_pos c4] at H
   have c4b0 : decide (x14_1 < (l0.length : Int)) = true := decide_eq_true c4
   clear c4
   by_cases c5 : 0 ≤ x14_1
   case neg =>
    rw [if_neg c5] at H
    exact absurd H s3q0
   rw [if_pos c5] at H
   have c5b0 : decide (0 ≤ x14_1) = true := decide_eq_true c5
   clear c5
   by_cases c6 : x14_1 < (l0.length : Int)
   case neg =>
    rw [if_neg c6] at H
    exact absurd H s3q0
   rw [if_pos c6] at H
   have c6b0 : decide (x14_1 < (l0.length : Int)) = true := decide_eq_true c6
   clear c6
   have c7b0 := eq_true (of_decide_eq_true q3_ : 0 ≤ x14_1)
   obtain ⟨ji8, hji8⟩ : ∃ j_ : Int, (shr .i64 a2 x14_1) = j_ := ⟨_, rfl⟩
   replace H : (if (Go.bits .and .i64 (ji8) 1) = 1 then ((cost_product.f k1 x7_1 (rd l0 x14_1)).bind fun t110 => (cost_size.l0 k1 l1 a2 t110 l0 (l0.length : Int) (wrap64 (x14_1 + 1)))) else (cost_size.l0 k1 l1 a2 x7_1 l0 (l0.length : Int) (wrap64 (x14_1 + 1)))) = some r := by first | (rw [hji8] at H; exact H) | (simp only [hji8] at H ⊢; exact H)
   have hji8_ : (a2 / 2 ^ min x14_1.toNat 64) = ji8 := hji8
   have hji8z : x14_1 ≤ 64 → (a2 / 2 ^ x14_1.toNat) = ji8 := shr_small hji8
   by_cases c9 : (Go.bits .and .i64 (ji8) 1) = 1
   case neg =>
    rw [if_neg c9] at H
    have c9b0 : ((Go.bits .and .i64 (ji8) 1) == 1) = false := beq_eq_false_iff_ne.mpr c9
    have c9b1 : ((Go.bits .and .i64 (ji8) 1) != 1) = true := bne_iff_ne.mpr c9
    have H' := aM H
    clear H
    have p109 : 0 ≤ (x14_1 : Int) := of_decide_eq_true q3_
    have q109 : x14_1 < (l0.length : Int) := of_decide_eq_true q3_
    obtain ⟨ad109, e109, hx109_0⟩ := Kd.at_int HR0.out x14_1 p109 q109
    cases e109
    replace hx109_0 := up_ HB.out hx109_0
    replace p109 := eq_true p109
    replace q109 := eq_true q109
    go_wp2
    first | go_roundg k1 | (refine Handed.intro k1 ?measure ?_; rotate_left; go_step; (repeat apply Exists.intro); simp only [add_plain]; refine ⟨?rel, rfl⟩)
    case measure => have := HK1.out; omega
    case rel => exact ⟨(x7_1), (wrap64 (x14_1 + 1)), q4_, q4_, H', ⟨by have := HK1.out; omega⟩, ⟨q1_⟩⟩
   rw [if_pos c9] at H
   have c9b0 : ((Go.bits .and .i64 (ji8) 1) == 1) = true := beq_iff_eq.mpr c9
   have c9b1 : ((Go.bits .and .i64 (ji8) 1) != 1) = false := bne_eq_false_iff_eq.mpr c9
   clear c9
   replace H := Option.bind_eq_some_iff.mp H
   obtain ⟨t110, A100, H⟩ := H
   replace H : (cost_size.l0 k1 l1 a2 t110 l0 (l0.length : Int) (wrap64 (x14_1 + 1))) = some r := H
   have A10 := aM A100
   clear A100
   have H' := aM H
   clear H
   have p109 : 0 ≤ (x14_1 : Int) := of_decide_eq_true q3_
   have q109 : x14_1 < (l0.length : Int) := of_decide_eq_true q3_
   obtain ⟨ad109, e109, hx109_0⟩ := Kd.at_int HR0.out x14_1 p109 q109
   cases e109
   replace hx109_0 := up_ HB.out hx109_0
   replace p109 := eq_true p109
   replace q109 := eq_true q109
   go_wp2_with (first | ((with_reducible refine gate_callee (f := 87) rfl ?_); refine goesL_ (some 26) rfl rfl Tryd.func87 (by kernel_rfl) rfl #[.int .i64 x7_1, .int .i64 (rd l0 x14_1)] rfl q2_ ?_; (with_reducible refine (cost_product.calls k1 x7_1 (rd l0 x14_1) t110 _ A10.out).mono ?_); rintro e w11 ⟨rfl, hb⟩; refine ⟨_, rfl, ?_⟩; replace HB := aM (below_step q1_ hb); (try clear hb); (try clear hb2); (try clear hk); (try clear hi)))
   first | go_roundg k1 | (refine Handed.intro k1 ?measure ?_; rotate_left; go_step; (repeat apply Exists.intro); simp only [add_plain]; refine ⟨?rel, rfl⟩)
   case measure => have := HK1.out; omega
   case rel => exact ⟨(t110), (wrap64 (x14_1 + 1)), q4_, q4_, H', ⟨by have := HK1.out; omega⟩, ⟨q1_⟩⟩
 rw [if_neg c4] at H
 have c4b0 : decide (x14_1 < (l0.length : Int)) = false := decide_eq_false c4
 clear c4
 have H' := aM H
 clear H
 go_wp2
 go_loopg [7, 30] k1 (fun kq v7 v30 w' => ∃ (x7_2 : Int) (x30_2 : Int), v7 = .int .i64 x7_2 ∧ v30 = .int .i64 x30_2 ∧ Aside0 (cost_size.l1 kq a2 x7_2 l1 (l1.length : Int) x30_2 = some r) ∧ Aside0 (kq ≤ k1) ∧ Aside0 (Below w.heap.size w w'))
 case atStart => exact ⟨(x7_1), (0), q4_, q4_, H', ⟨Nat.le_refl _⟩, ⟨q1_⟩⟩
 clear H'
 try clear c1
 try clear p1
 try clear q1
 try clear hx1
 try clear p2
 try clear c4
 try clear c4b0
 try clear c5
 try clear c5b0
 try clear c6
 try clear c6b0
 try clear p6
 try clear c7
 try clear c7b0
 try clear c8
 try clear c9
 try clear c9b0
 try clear c9b1
 try clear p10
 try clear q10
 try clear hx10
 try clear hx109_0
 try clear p109
 try clear p2
 try clear q109
 obtain ⟨x7_2, x30_2, rfl, rfl, HA, HK2, HB⟩ := hrel
 cases gk with
 | zero => exact absurd HA.out (by simp [cost_size.l1])
 | succ k2 => ?_
 have H := HA.out
 clear HA
 simp only [cost_size.l1] at H
 by_cases c12 : x30_2 < (l1.length : Int)
 case neg =>
  rw [if_neg c12] at H
  have c12b0 : decide (x30_2 < (l1.length : Int)) = false := decide_eq_false c12
  clear c12
  obtain rfl := Option.some.inj H
  go_wp2
  go_ret
  exact ⟨eqR, q1_⟩
 rw [if_pos c12] at H
 have c12b0 : decide (x30_2 < (l1.length : Int)) = true := decide_eq_true c12
 clear c12
 by_cases c13 : 0 ≤ x30_2
 case neg =>
  rw [if_neg c13] at H
  exact absurd H s3q0
 rw [if_pos c13] at H
 have c13b0 : decide (0 ≤ x30_2) = true := decide_eq_true c13
 clear c13
 by_cases c14 : x30_2 < (l1.length : Int)
 case neg =>
  rw [if_neg c14] at H
  exact absurd H s3q0
 rw [if_pos c14] at H
 have c14b0 : decide (x30_2 < (l1.length : Int)) = true := decide_eq_true c14
 clear c14
 by_cases c15 : 0 ≤ ((rd_T75 l1 x30_2).f0)
 case neg =>
  rw [if_neg c15] at H
  exact absurd H s3q0
 rw [if_pos c15] at H
 have c15b0 := eq_true c15
 have c15b1 : decide (0 ≤ ((rd_T75 l1 x30_2).f0)) = true := decide_eq_true c15
 clear c15
 obtain ⟨ji16, hji16⟩ : ∃ j_ : Int, (shr .i64 a2 ((rd_T75 l1 x30_2).f0)) = j_ := ⟨_, rfl⟩
 replace H : (if (Go.bits .and .i64 (ji16) 1) = 1 then (if 0 ≤ ((rd_T75 l1 x30_2).f1) then (if (Go.bits .and .i64 (shr .i64 a2 ((rd_T75 l1 x30_2).f1)) 1) = 1 then (if ((rd_T75 l1 x30_2).f2) = 0 then (none) else (cost_size.l1 k2 a2 (mx 1 (wrap64 (Int.tdiv x7_2 ((rd_T75 l1 x30_2).f2)))) l1 (l1.length : Int) (wrap64 (x30_2 + 1)))) else (cost_size.l1 k2 a2 x7_2 l1 (l1.length : Int) (wrap64 (x30_2 + 1)))) else (none)) else (cost_size.l1 k2 a2 x7_2 l1 (l1.length : Int) (wrap64 (x30_2 + 1)))) = some r := by first | (rw [hji16] at H; exact H) | (simp only [hji16] at H ⊢; exact H)
 have hji16_ : (a2 / 2 ^ min ((rd_T75 l1 x30_2).f0).toNat 64) = ji16 := hji16
 have hji16z : ((rd_T75 l1 x30_2).f0) ≤ 64 → (a2 / 2 ^ ((rd_T75 l1 x30_2).f0).toNat) = ji16 := shr_small hji16
 by_cases c17 : (Go.bits .and .i64 (ji16) 1) = 1
 case neg =>
  rw [if_neg c17] at H
  have c17b0 : ((Go.bits .and .i64 (ji16) 1) == 1) = false := beq_eq_false_iff_ne.mpr c17
  have c17b1 : ((Go.bits .and .i64 (ji16) 1) != 1) = true := bne_iff_ne.mpr c17
  have H' := aM H
  clear H
  have p111 : 0 ≤ (x30_2 : Int) := of_decide_eq_true q3_
  have q111 : x30_2 < (l1.length : Int) := of_decide_eq_true q3_
  obtain ⟨ad111, e111, hx111_0, hx111_1, hx111_2⟩ := at_T75 HR1.out x30_2 p111 q111
  cases e111
  replace hx111_0 := up_ HB.out hx111_0
  replace hx111_1 := up_ HB.out hx111_1
  replace hx111_2 := up_ HB.out hx111_2
  replace p111 := eq_true p111
  replace q111 := eq_true q111
  go_wp2_with (first | ((with_reducible refine gate_dst (N := 11) rfl ?_); refine box_event ?hg (N := 11) ?hd (cs := #[.int .i64 0, .int .i64 0, .int .i64 0]) (t := 75) ?hr ?_; (case hd => rfl); (case hg => rfl); (case hr => first | (go_simp; done) | (go_simp; rfl)); intro gb112 hg w27 hbox hb; have BK112 := aM hbox; have GW112 := aM (s3q7 : w.heap.size ≤ gb112); have GE112 := GW112; replace HB := aM (below_step q1_ hb); clear hb hbox hg; obtain ⟨hcz28_0, hcz28_1, hcz28_2, hfz28_0, hfz28_1, hfz28_2⟩ := cells3 BK112.out))
  first | go_roundg k2 | (refine Handed.intro k2 ?measure ?_; rotate_left; go_step; (repeat apply Exists.intro); simp only [add_plain]; refine ⟨?rel, rfl⟩)
  case measure => have := HK1.out; have := HK2.out; omega
  case rel => exact ⟨(x7_2), (wrap64 (x30_2 + 1)), q4_, q4_, H', ⟨by have := HK1.out; have := HK2.out; omega⟩, ⟨s3z1⟩⟩
 rw [if_pos c17] at H
 have c17b0 : ((Go.bits .and .i64 (ji16) 1) == 1) = true := beq_iff_eq.mpr c17
 have c17b1 : ((Go.bits .and .i64 (ji16) 1) != 1) = false := bne_eq_false_iff_eq.mpr c17
 clear c17
 by_cases c18 : 0 ≤ ((rd_T75 l1 x30_2).f1)
 case neg =>
  rw [if_neg c18] at H
  exact absurd H s3q0
 rw [if_pos c18] at H
 have c18b0 := eq_true c18
 have c18b1 : decide (0 ≤ ((rd_T75 l1 x30_2).f1)) = true := decide_eq_true c18
 clear c18
 obtain ⟨ji19, hji19⟩ : ∃ j_ : Int, (shr .i64 a2 ((rd_T75 l1 x30_2).f1)) = j_ := ⟨_, rfl⟩
 replace H : (if (Go.bits .and .i64 (ji19) 1) = 1 then (if ((rd_T75 l1 x30_2).f2) = 0 then (none) else (cost_size.l1 k2 a2 (mx 1 (wrap64 (Int.tdiv x7_2 ((rd_T75 l1 x30_2).f2)))) l1 (l1.length : Int) (wrap64 (x30_2 + 1)))) else (cost_size.l1 k2 a2 x7_2 l1 (l1.length : Int) (wrap64 (x30_2 + 1)))) = some r := by first | (rw [hji19] at H; exact H) | (simp only [hji19] at H ⊢; exact H)
 have hji19_ : (a2 / 2 ^ min ((rd_T75 l1 x30_2).f1).toNat 64) = ji19 := hji19
 have hji19z : ((rd_T75 l1 x30_2).f1) ≤ 64 → (a2 / 2 ^ ((rd_T75 l1 x30_2).f1).toNat) = ji19 := shr_small hji19
 by_cases c20 : (Go.bits .and .i64 (ji19) 1) = 1
 case neg =>
  rw [if_neg c20] at H
  have c20b0 : ((Go.bits .and .i64 (ji19) 1) == 1) = false := beq_eq_false_iff_ne.mpr c20
  have c20b1 : ((Go.bits .and .i64 (ji19) 1) != 1) = true := bne_iff_ne.mpr c20
  have H' := aM H
  clear H
  have p111 : 0 ≤ (x30_2 : Int) := of_decide_eq_true q3_
  have q111 : x30_2 < (l1.length : Int) := of_decide_eq_true q3_
  obtain ⟨ad111, e111, hx111_0, hx111_1, hx111_2⟩ := at_T75 HR1.out x30_2 p111 q111
  cases e111
  replace hx111_0 := up_ HB.out hx111_0
  replace hx111_1 := up_ HB.out hx111_1
  replace hx111_2 := up_ HB.out hx111_2
  replace p111 := eq_true p111
  replace q111 := eq_true q111
  go_wp2_with (first | ((with_reducible refine gate_dst (N := 11) rfl ?_); refine box_event ?hg (N := 11) ?hd (cs := #[.int .i64 0, .int .i64 0, .int .i64 0]) (t := 75) ?hr ?_; (case hd => rfl); (case hg => rfl); (case hr => first | (go_simp; done) | (go_simp; rfl)); intro gb112 hg w25 hbox hb; have BK112 := aM hbox; have GW112 := aM (s3q7 : w.heap.size ≤ gb112); have GE112 := GW112; replace HB := aM (below_step q1_ hb); clear hb hbox hg; obtain ⟨hcz26_0, hcz26_1, hcz26_2, hfz26_0, hfz26_1, hfz26_2⟩ := cells3 BK112.out))
  first | go_roundg k2 | (refine Handed.intro k2 ?measure ?_; rotate_left; go_step; (repeat apply Exists.intro); simp only [add_plain]; refine ⟨?rel, rfl⟩)
  case measure => have := HK1.out; have := HK2.out; omega
  case rel => exact ⟨(x7_2), (wrap64 (x30_2 + 1)), q4_, q4_, H', ⟨by have := HK1.out; have := HK2.out; omega⟩, ⟨s3z1⟩⟩
 rw [if_pos c20] at H
 have c20b0 : ((Go.bits .and .i64 (ji19) 1) == 1) = true := beq_iff_eq.mpr c20
 have c20b1 : ((Go.bits .and .i64 (ji19) 1) != 1) = false := bne_eq_false_iff_eq.mpr c20
 clear c20
 by_cases c21 : ((rd_T75 l1 x30_2).f2) = 0
 · rw [if_pos c21] at H
   exact absurd H s3q0
 rw [if_neg c21] at H
 have c21b0 : (((rd_T75 l1 x30_2).f2) == 0) = false := beq_eq_false_iff_ne.mpr c21
 have c21b1 : (((rd_T75 l1 x30_2).f2) != 0) = true := bne_iff_ne.mpr c21
 obtain ⟨ji22, hji22⟩ : ∃ j_ : Int, (mx 1 (wrap64 (Int.tdiv x7_2 ((rd_T75 l1 x30_2).f2)))) = j_ := ⟨_, rfl⟩
 replace H : (cost_size.l1 k2 a2 ji22 l1 (l1.length : Int) (wrap64 (x30_2 + 1))) = some r := by first | (rw [hji22] at H; exact H) | (simp only [hji22] at H ⊢; exact H)
 have hji22_ : (if 1 < (wrap64 (Int.tdiv x7_2 ((rd_T75 l1 x30_2).f2))) then (wrap64 (Int.tdiv x7_2 ((rd_T75 l1 x30_2).f2))) else 1) = ji22 := hji22
 have H' := aM H
 clear H
 have p111 : 0 ≤ (x30_2 : Int) := of_decide_eq_true q3_
 have q111 : x30_2 < (l1.length : Int) := of_decide_eq_true q3_
 obtain ⟨ad111, e111, hx111_0, hx111_1, hx111_2⟩ := at_T75 HR1.out x30_2 p111 q111
 cases e111
 replace hx111_0 := up_ HB.out hx111_0
 replace hx111_1 := up_ HB.out hx111_1
 replace hx111_2 := up_ HB.out hx111_2
 replace p111 := eq_true p111
 replace q111 := eq_true q111
 go_wp2_with (first | ((with_reducible refine gate_dst (N := 11) rfl ?_); refine box_event ?hg (N := 11) ?hd (cs := #[.int .i64 0, .int .i64 0, .int .i64 0]) (t := 75) ?hr ?_; (case hd => rfl); (case hg => rfl); (case hr => first | (go_simp; done) | (go_simp; rfl)); intro gb112 hg w23 hbox hb; have BK112 := aM hbox; have GW112 := aM (s3q7 : w.heap.size ≤ gb112); have GE112 := GW112; replace HB := aM (below_step q1_ hb); clear hb hbox hg; obtain ⟨hcz24_0, hcz24_1, hcz24_2, hfz24_0, hfz24_1, hfz24_2⟩ := cells3 BK112.out))
 first | go_roundg k2 | (refine Handed.intro k2 ?measure ?_; rotate_left; go_step; (repeat apply Exists.intro); simp only [add_plain]; refine ⟨?rel, rfl⟩)
 case measure => have := HK1.out; have := HK2.out; omega
 case rel => exact ⟨(ji22), (wrap64 (x30_2 + 1)), (by first | rfl | (simp; done) | (simp only [← hji22] <;> (first | rfl | simp)) | (simp [*]; done)), q4_, H', ⟨by have := HK1.out; have := HK2.out; omega⟩, ⟨s3z1⟩⟩
-- NOT PRINTED: function 89 (bits_TrailingZeros32)

-- NOT PRINTED: function 90 (bits_TrailingZeros64)

/-! ### bits_TrailingZeros: function 46 (by hand) -/
set_option maxHeartbeats 1000000 in
theorem tz_core (x k idx : Nat) (w : World) (hx0 : ((x : Int) == 0) = false)
    (key : IntKind.u64.wrap (bits BinOp.and IntKind.u64 (x : Int) (IntKind.u64.wrap (-(x : Int))) * 285870213051353865) / 288230376151711744 = (idx : Int))
    (hi : idx < 64) (hk : k < 64) (hcell : w.cell? ⟨1, idx, none⟩ = some (.int .u8 k)) :
    Calls Tryd.prog 90 #[.int .u64 x] w fun e w' => e = .returned (.int .i64 k) ∧ w = w' := by
 go_enter Tryd.func90, Tryd.ntmps90
 go_wp2_with (simp only [key])
 go_ret
 exact ⟨rfl, rfl⟩
theorem tz_key (x a : Nat) (hx : x < 18446744073709551616) (hx0 : x ≠ 0) (hlow : x &&& (18446744073709551616 - x) = a) :
    IntKind.u64.wrap (bits BinOp.and IntKind.u64 (x : Int) (IntKind.u64.wrap (-(x : Int))) * 285870213051353865) / 288230376151711744 = ((a * 285870213051353865 % 18446744073709551616 / 288230376151711744 : Nat) : Int) := by
 have e1 : IntKind.u64.wrap (-(x : Int)) = ((18446744073709551616 - x : Nat) : Int) := by rw [IntKind.wrap_u64]; omega
 rw [e1, bits_and_u64_nat x _ hx (by omega), hlow, IntKind.wrap_u64]
 omega
theorem tz_zero (w : World) :
    Calls Tryd.prog 90 #[.int .u64 0] w fun e w' => e = .returned (.int .i64 64) ∧ w = w' := by
 go_enter Tryd.func90, Tryd.ntmps90
 go_wp2
 go_ret
 exact ⟨rfl, rfl⟩
theorem tz64 (x : Nat) (hx : x < 18446744073709551616) (w : World) (hG : Glob w) :
    Calls Tryd.prog 90 #[.int .u64 x] w fun e w' => e = .returned (.int .i64 (Lib.ctz 64 x)) ∧ w = w' := by
 by_cases hx0 : x = 0
 · subst hx0
   exact tz_zero w
 obtain ⟨hlow, hk⟩ := Lib.lowest_bit 64 x hx0 hx
 obtain ⟨hi, htab⟩ := Lib.deBruijn64_at _ hk
 have hcell := Glob_at hG _ hi
 rw [htab] at hcell
 exact tz_core x _ _ w (by simp; omega) (tz_key x _ hx hx0 hlow) hi hk hcell
def bits_TrailingZeros.f (a0 : Int) : Option Int := if 0 ≤ a0 ∧ a0 < 18446744073709551616 then some (Lib.ctz 64 a0.toNat) else none
theorem bits_TrailingZeros.calls (a0 : Int) (r : Int) (w : World) (hG : Glob w) (h : bits_TrailingZeros.f a0 = some r) :
    Calls Tryd.prog 46 #[.int .u64 a0] w fun e w' => e = .returned (.int .i64 r) ∧ Drawn0 w w' := by
 unfold bits_TrailingZeros.f at h
 split at h
 case isFalse => cases h
 rename_i hc
 obtain ⟨x, rfl⟩ := Int.eq_ofNat_of_zero_le hc.1
 obtain rfl := Option.some.inj h
 have c64 := aM (tz64 x (by omega) w hG)
 have hw : IntKind.u64.wrap (x : Int) = (x : Int) := by rw [IntKind.wrap_u64]; omega
 clear h hG
 go_enter Tryd.func46, Tryd.ntmps46
 go_wp2_with (go_at_call 90; refine c64.out.mono ?_; rintro e w' ⟨rfl, rfl⟩)
 go_ret
 exact ⟨by simp, Drawn0.refl _⟩
/-! ### slices_Grow_int_int: function 92 -/
def slices_Grow_int_int.f  (a1 : Int) : Option (List Int) := if a1 < 0 then (none) else (if (wrap64 (a1)) > 0 then (if 0 ≤ (wrap64 (a1)) then (if ([] : List Int).length + (wrap64 (a1) : Int).toNat < 17592186044416 then ((some (([] : List Int) ++ List.replicate (wrap64 (a1) : Int).toNat 0 : List Int)).bind fun y113 => (if 0 ≤ (y113.length : Int) then (some (y113.take (0 : Int).toNat)) else (none))) else (none)) else (none)) else (some ([] : List Int)))
set_option maxHeartbeats 8000000 in
set_option maxRecDepth 100000 in
theorem slices_Grow_int_int.calls  (a1 : Int) (r : List Int) (w : World) (h : slices_Grow_int_int.f a1 = some r) :
    Calls Tryd.prog 92 #[(.slice none 0 0), .int .i64 a1] w fun e w' => ∃ v0_ : Value, e = .returned (v0_) ∧ Kd.R (Kd.int .i64) 3 w' w.heap.size (fun _ => True) v0_ r ∧ Below w.heap.size w w' := by
 have HB := aM (Below.refl w.heap.size w)
 have H : (if a1 < 0 then (none) else (if (wrap64 (a1)) > 0 then (if 0 ≤ (wrap64 (a1)) then (if ([] : List Int).length + (wrap64 (a1) : Int).toNat < 17592186044416 then ((some (([] : List Int) ++ List.replicate (wrap64 (a1) : Int).toNat 0 : List Int)).bind fun y113 => (if 0 ≤ (y113.length : Int) then (some (y113.take (0 : Int).toNat)) else (none))) else (none)) else (none)) else (some ([] : List Int)))) = some r := h
 clear h
 by_cases c3 : a1 < 0
 · rw [if_pos c3] at H
   exact absurd H s3q0
 rw [if_neg c3] at H
 have c3b0 : decide (a1 < 0) = false := decide_eq_false c3
 clear c3
 by_cases c4 : (wrap64 (a1)) > 0
 case neg =>
  rw [if_neg c4] at H
  have c4b0 : decide (0 < (wrap64 (a1))) = false := decide_eq_false c4
  clear c4
  obtain rfl := Option.some.inj H
  go_enter Tryd.func92, Tryd.ntmps92
  go_wp2
  go_ret
  exact ⟨_, eqR, by first | exact Kd.R_nil _ _ _ _ _ | exact Kd.N_nil _ _ _ _ _ | exact Kd.V_nil _ _ _ _ _ | exact Kd.Q_nil _ _ _ _ _ | exact Kd.S_nil _ _ _ _ _, q1_⟩
 rw [if_pos c4] at H
 have c4b0 : decide (0 < (wrap64 (a1))) = true := decide_eq_true c4
 clear c4
 obtain ⟨ji5, hji5⟩ : ∃ j_ : Int, (wrap64 (a1)) = j_ := ⟨_, rfl⟩
 replace H : (if 0 ≤ (ji5) then (if ([] : List Int).length + (ji5 : Int).toNat < 17592186044416 then ((some (([] : List Int) ++ List.replicate (ji5 : Int).toNat 0 : List Int)).bind fun y113 => (if 0 ≤ (y113.length : Int) then (some (y113.take (0 : Int).toNat)) else (none))) else (none)) else (none)) = some r := by first | (rw [hji5] at H; exact H) | (simp only [hji5] at H ⊢; exact H)
 (try rw [hji5] at c4b0)
 have hji5w : (IntKind.i64.wrap (a1)) = ji5 := (i64_w _).trans hji5
 by_cases c6 : 0 ≤ (ji5)
 case neg =>
  rw [if_neg c6] at H
  exact absurd H s3q0
 rw [if_pos c6] at H
 have c6b0 := eq_true c6
 have c6b1 : decide (0 ≤ (ji5)) = true := decide_eq_true c6
 clear c6
 by_cases c7 : ([] : List Int).length + (ji5 : Int).toNat < 17592186044416
 case neg =>
  rw [if_neg c7] at H
  exact absurd H s3q0
 rw [if_pos c7] at H
 have LMc7 := aM c7
 clear c7
 obtain ⟨y113, hy113⟩ : ∃ y_ : List Int, y_ = (([] : List Int) ++ List.replicate (ji5 : Int).toNat 0) := ⟨_, rfl⟩
 replace H : (if 0 ≤ (y113.length : Int) then (some (y113.take (0 : Int).toNat)) else (none)) = some r := sqz hy113 H
 have Ny113 := aM hy113
 clear hy113
 by_cases c8 : 0 ≤ (y113.length : Int)
 case neg =>
  rw [if_neg c8] at H
  exact absurd H s3q0
 rw [if_pos c8] at H
 have c8b0 := eq_true c8
 have c8b1 : decide (0 ≤ (y113.length : Int)) = true := decide_eq_true c8
 clear c8
 obtain ⟨y116, hy116⟩ : ∃ y_ : List Int, y_ = (y113.take (0 : Int).toNat) := ⟨_, rfl⟩
 replace H : (some y116) = some r := sqz hy116 H
 have Ny116 := aM hy116
 clear hy116
 obtain rfl := Option.some.inj H
 go_enter Tryd.func92, Tryd.ntmps92
 go_wp2_with (first | (at_builtin; refine Kd.R_append_zeros (Kd.int .i64) (w0 := w) w.heap.size rfl (.tmp 20) (.tmp 21) 22 3 3 (.int .i64 0) 8 rfl Tryd.underlying22 Tryd.underlying3 info3 rfl (by decide) (by omega) (.slice none 0 0) ([] : List Int) 0 (ji5 : Int) (fun _ => True) rfl rfl rfl ?aF ?aO (of_decide_eq_true q3_) ?aB ?aS ?aL ?_; (case aB => exact q1_); (case aF => exact (fun _ _ => trivial)); (case aO => exact ((Kd.R_nil _ _ _ _ (fun _ => True)))); (case aS => exact (below_size q1_)); (case aL => have := LMc7.out; omega); intro v114 w9 ho hb hg hat; rw [← Ny113.out] at ho; have HO115 := aM ho; replace HB := aM hb; clear ho hb hg hat; obtain ⟨Ao10, co10, eo10⟩ := Kd.R_slice HO115.out; subst eo10; have q11 : (0 : Int) ≤ ((y113.length : Int) : Int) := of_decide_eq_true q3_; obtain ⟨i011, hi011, _, hsz11, _⟩ := info_parts info3; have hcut11 := cut_to (P := Tryd.prog) 22 3 .i64 Tryd.underlying22 hi011 Ao10 y113.length co10 0 (by omega) q11 (Kd.R_reads' HO115.out).2.1; have hr11 := Kd.R_take (m := (0 : Int).toNat) HO115.out (by omega); have hy11 : y116.length = (0 : Int).toNat := (by rw [Ny116.out, List.length_take]; omega); rw [← Ny116.out] at hr11; rw [← hy11] at hr11 hcut11; clear hy11 hi011 hsz11 HO115; have HO118 := aM hr11; clear hr11; replace q11 := eq_true q11))
 go_ret
 exact ⟨_, by first | rfl | (simp [errW_none, errW_some] <;> rfl) | (simp only [← hji5]; first | rfl | (simp [errW_none, errW_some] <;> rfl)) | (simp [*, errW_none, errW_some] <;> rfl), by (with_reducible repeat (first | apply Kd.R_alloc | apply Kd.R_drewN | apply Kd.R_drew)); exact HO118.out, q1_⟩
/-! ### slices_Concat_int_int: function 51 -/
mutual
def slices_Concat_int_int.l0 : Nat → List (List Int) → Int → List (List Int) → Int → Int → Option (List Int)
  | 0, _, _, _, _, _ => none
  | k + 1, x0, x3, x9, x10, x11 => if x11 < x10 then (if 0 ≤ x11 then (if x11 < (x9.length : Int) then (if (wrap64 (x3 + ((rd_L3 x9 x11).length : Int))) < 0 then (none) else (slices_Concat_int_int.l0 k x0 (wrap64 (x3 + ((rd_L3 x9 x11).length : Int))) x9 x10 (wrap64 (x11 + 1)))) else (none)) else (none)) else ((slices_Grow_int_int.f x3).bind fun t120 => (slices_Concat_int_int.l1 k t120 x0 (x0.length : Int) 0))
def slices_Concat_int_int.l1 : Nat → List Int → List (List Int) → Int → Int → Option (List Int)
  | 0, _, _, _, _ => none
  | k + 1, x6, x25, x26, x27 => if x27 < x26 then (if 0 ≤ x27 then (if x27 < (x25.length : Int) then (if x6.length + (rd_L3 x25 x27).length < 17592186044416 then (slices_Concat_int_int.l1 k (x6 ++ (rd_L3 x25 x27)) x25 x26 (wrap64 (x27 + 1))) else (none)) else (none)) else (none)) else (some x6)
end
def slices_Concat_int_int.f (k : Nat) (l0 : List (List Int)) : Option (List Int) := slices_Concat_int_int.l0 k l0 0 l0 (l0.length : Int) 0
theorem slices_Concat_int_int.mono_l : ∀ k, (∀ y0 y1 y2 y3 y4, LeO (slices_Concat_int_int.l0 k y0 y1 y2 y3 y4) (slices_Concat_int_int.l0 (k + 1) y0 y1 y2 y3 y4)) ∧ (∀ y0 y1 y2 y3, LeO (slices_Concat_int_int.l1 k y0 y1 y2 y3) (slices_Concat_int_int.l1 (k + 1) y0 y1 y2 y3))
  | 0 => ⟨fun _ _ _ _ _ r h => by simp [slices_Concat_int_int.l0] at h, fun _ _ _ _ r h => by simp [slices_Concat_int_int.l1] at h⟩
  | k + 1 => by
    obtain ⟨ih0, ih1⟩ := slices_Concat_int_int.mono_l k
    refine ⟨?_, ?_⟩
    · intro y0 y1 y2 y3 y4
      unfold slices_Concat_int_int.l0
      exact s3qm1
    · intro y0 y1 y2 y3
      unfold slices_Concat_int_int.l1
      exact s3qm1
theorem slices_Concat_int_int.mono : ∀ a0 k, LeO (slices_Concat_int_int.f k a0) (slices_Concat_int_int.f (k + 1) a0) := by
 intro a0 k
 obtain ⟨ih0, ih1⟩ := slices_Concat_int_int.mono_l k
 unfold slices_Concat_int_int.f
 repeat' first
  | (with_reducible exact ih0 _ _ _ _ _)
  | (with_reducible exact ih1 _ _ _ _)
  | (with_reducible exact LeO.refl _)
  | (with_reducible exact LeO.none _)
  | (with_reducible refine LeO.ite ?_ ?_)
  | (with_reducible refine LeO.bind ?_ (fun _ => ?_))
  | exact ih0 _ _ _ _ _
  | exact ih1 _ _ _ _
  | exact LeO.none _
  | refine LeO.ite ?_ ?_
  | refine LeO.bind ?_ (fun _ => ?_)
set_option maxHeartbeats 8000000 in
set_option maxRecDepth 100000 in
theorem slices_Concat_int_int.calls (k : Nat) (A0 : Option Addr) (c0 : Nat) (l0 : List (List Int)) (r : List Int) (w : World) (hr0 : Kd.C (Kd.slice 3 (Kd.int .i64)) w A0 l0.length l0) (hc0 : l0.length ≤ c0) (h : slices_Concat_int_int.f k l0 = some r) :
    Calls Tryd.prog 51 #[.slice A0 l0.length c0] w fun e w' => ∃ v0_ : Value, e = .returned (v0_) ∧ Kd.R (Kd.int .i64) 3 w' w.heap.size (fun _ => True) v0_ r ∧ Below w.heap.size w w' := by
 have HR0 := aM hr0
 have HC0 := aM hc0
 clear hr0 hc0
 have HB := aM (Below.refl w.heap.size w)
 have H : (slices_Concat_int_int.l0 k l0 0 l0 (l0.length : Int) 0) = some r := h
 clear h
 have H' := aM H
 clear H
 go_enter Tryd.func51, Tryd.ntmps51
 go_wp2
 go_loopg [3, 11] k (fun kq v3 v11 w' => ∃ (x3_1 : Int) (x11_1 : Int), v3 = .int .i64 x3_1 ∧ v11 = .int .i64 x11_1 ∧ Aside0 (slices_Concat_int_int.l0 kq l0 x3_1 l0 (l0.length : Int) x11_1 = some r) ∧ Aside0 (kq ≤ k) ∧ Aside0 (Below w.heap.size w w'))
 case atStart => exact ⟨(0), (0), q4_, q4_, H', ⟨Nat.le_refl _⟩, ⟨q1_⟩⟩
 clear H'
 obtain ⟨x3_1, x11_1, rfl, rfl, HA, HK1, HB⟩ := hrel
 cases gk with
 | zero => exact absurd HA.out (by simp [slices_Concat_int_int.l0])
 | succ k1 => ?_
 have H := HA.out
 clear HA
 simp only [slices_Concat_int_int.l0] at H
 by_cases c2 : x11_1 < (l0.length : Int)
 · rw [if_pos c2] at H
   have c2b0 : decide (x11_1 < (l0.length : Int)) = true := decide_eq_true c2
   clear c2
   by_cases c3 : 0 ≤ x11_1
   case neg =>
    rw [if_neg c3] at H
    exact absurd H s3q0
   rw [if_pos c3] at H
   have c3b0 : decide (0 ≤ x11_1) = true := decide_eq_true c3
   clear c3
   by_cases c4 : x11_1 < (l0.length : Int)
   case neg =>
    rw [if_neg c4] at H
    exact absurd H s3q0
   rw [if_pos c4] at H
   have c4b0 : decide (x11_1 < (l0.length : Int)) = true := decide_eq_true c4
   clear c4
   by_cases c5 : (wrap64 (x3_1 + ((rd_L3 l0 x11_1).length : Int))) < 0
   · rw [if_pos c5] at H
     exact absurd H s3q0
   rw [if_neg c5] at H
   have c5b0 : decide ((wrap64 (x3_1 + ((rd_L3 l0 x11_1).length : Int))) < 0) = false := decide_eq_false c5
   clear c5
   have H' := aM H
   clear H
   have p119 : 0 ≤ (x11_1 : Int) := of_decide_eq_true q3_
   have q119 : x11_1 < (l0.length : Int) := of_decide_eq_true q3_
   obtain ⟨ad119, A119_0, c119_0, e119, hx119_0, hl119_0, hi119_0⟩ := at_L3 HR0.out x11_1 p119 q119
   cases e119
   replace hx119_0 := up_ HB.out hx119_0
   have HR119_0 := aM hi119_0
   have HC119_0 := aM hl119_0
   clear hi119_0 hl119_0
   replace p119 := eq_true p119
   replace q119 := eq_true q119
   go_wp2
   first | go_roundg k1 | (refine Handed.intro k1 ?measure ?_; rotate_left; go_step; (repeat apply Exists.intro); simp only [add_plain]; refine ⟨?rel, rfl⟩)
   case measure => have := HK1.out; omega
   case rel => exact ⟨(wrap64 (x3_1 + ((rd_L3 l0 x11_1).length : Int))), (wrap64 (x11_1 + 1)), q4_, q4_, H', ⟨by have := HK1.out; omega⟩, ⟨q1_⟩⟩
 rw [if_neg c2] at H
 have c2b0 : decide (x11_1 < (l0.length : Int)) = false := decide_eq_false c2
 clear c2
 replace H := Option.bind_eq_some_iff.mp H
 obtain ⟨t120, A60, H⟩ := H
 replace H : (slices_Concat_int_int.l1 k1 t120 l0 (l0.length : Int) 0) = some r := H
 have A6 := aM A60
 clear A60
 have H' := aM H
 clear H
 go_wp2_with (first | ((with_reducible refine gate_callee (f := 92) rfl ?_); refine goesL_ (some 24) rfl rfl Tryd.func92 (by kernel_rfl) rfl #[(.slice none 0 0), .int .i64 x3_1] rfl q2_ ?_; (with_reducible refine (slices_Grow_int_int.calls  x3_1 t120 _ A6.out).mono ?_); rintro e w7 ⟨v121, rfl, ho0, hb⟩; refine ⟨_, rfl, ?_⟩; have HO122 := aM (Kd.R_lower ho0 (below_size q1_)); replace HB := aM (below_step q1_ hb); (try clear hb); (try clear hb2); (try clear hk); (try clear hi); (try clear ho0)))
 go_loopg [6, 27] k1 (fun kq v6 v27 w' => ∃ (x6_2 : List Int) (x27_2 : Int), v27 = .int .i64 x27_2 ∧ Aside0 (slices_Concat_int_int.l1 kq x6_2 l0 (l0.length : Int) x27_2 = some r) ∧ Aside0 (kq ≤ k1) ∧ Aside0 (Kd.R (Kd.int .i64) 3 w' w.heap.size (fun _ => True) v6 x6_2) ∧ Aside0 (Below w.heap.size w w'))
 case atStart => exact ⟨(t120), (0), q4_, H', ⟨Nat.le_refl _⟩, ⟨by (with_reducible repeat (first | apply Kd.R_alloc | apply Kd.R_drewN | apply Kd.R_drew)); exact HO122.out⟩, ⟨q1_⟩⟩
 clear H'
 try clear c1
 try clear p1
 try clear q1
 try clear hx1
 try clear c2
 try clear c2b0
 try clear p2
 try clear c3
 try clear c3b0
 try clear c4
 try clear c4b0
 try clear c5
 try clear c5b0
 try clear p6
 try clear hx119_0
 try clear p119
 try clear q119
 obtain ⟨x6_2, x27_2, rfl, HA, HK2, HO_6, HB⟩ := hrel
 cases gk with
 | zero => exact absurd HA.out (by simp [slices_Concat_int_int.l1])
 | succ k2 => ?_
 have H := HA.out
 clear HA
 simp only [slices_Concat_int_int.l1] at H
 by_cases c8 : x27_2 < (l0.length : Int)
 case neg =>
  rw [if_neg c8] at H
  have c8b0 : decide (x27_2 < (l0.length : Int)) = false := decide_eq_false c8
  clear c8
  obtain rfl := Option.some.inj H
  go_wp2
  go_ret
  exact ⟨_, eqR, by (with_reducible repeat (first | apply Kd.R_alloc | apply Kd.R_drewN | apply Kd.R_drew)); exact HO_6.out, q1_⟩
 rw [if_pos c8] at H
 have c8b0 : decide (x27_2 < (l0.length : Int)) = true := decide_eq_true c8
 clear c8
 by_cases c9 : 0 ≤ x27_2
 case neg =>
  rw [if_neg c9] at H
  exact absurd H s3q0
 rw [if_pos c9] at H
 have c9b0 : decide (0 ≤ x27_2) = true := decide_eq_true c9
 clear c9
 by_cases c10 : x27_2 < (l0.length : Int)
 case neg =>
  rw [if_neg c10] at H
  exact absurd H s3q0
 rw [if_pos c10] at H
 have c10b0 : decide (x27_2 < (l0.length : Int)) = true := decide_eq_true c10
 clear c10
 by_cases c11 : x6_2.length + (rd_L3 l0 x27_2).length < 17592186044416
 case neg =>
  rw [if_neg c11] at H
  exact absurd H s3q0
 rw [if_pos c11] at H
 have LMc11 := aM c11
 clear c11
 obtain ⟨y124, hy124⟩ : ∃ y_ : List Int, y_ = (x6_2 ++ (rd_L3 l0 x27_2)) := ⟨_, rfl⟩
 replace H : (slices_Concat_int_int.l1 k2 y124 l0 (l0.length : Int) (wrap64 (x27_2 + 1))) = some r := sqz hy124 H
 have Ny124 := aM hy124
 clear hy124
 have H' := aM H
 clear H
 have p123 : 0 ≤ (x27_2 : Int) := of_decide_eq_true q3_
 have q123 : x27_2 < (l0.length : Int) := of_decide_eq_true q3_
 obtain ⟨ad123, A123_0, c123_0, e123, hx123_0, hl123_0, hi123_0⟩ := at_L3 HR0.out x27_2 p123 q123
 cases e123
 replace hx123_0 := up_ HB.out hx123_0
 have HR123_0 := aM hi123_0
 have HC123_0 := aM hl123_0
 clear hi123_0 hl123_0
 replace p123 := eq_true p123
 replace q123 := eq_true q123
 go_wp2_with (first | ((with_reducible refine gate_builtin (b := .append) (xs := #[.tmp 31, .tmp 32]) rfl ?_); at_builtin; refine Kd.R_append_rows (Kd.int .i64) (w0 := w) w.heap.size rfl (.tmp 31) (.tmp 32) 22 3 (.int .i64 0) 8 rfl Tryd.underlying22 info3 rfl (by decide) (by omega) u6 x6_2 (rd_L3 l0 x27_2) _ _ _ (fun _ => True) (fun _ => False) rfl rfl ?aO ?aR (fun _ _ h => h) (fun _ h => h.elim) ?aF ?aB ?aS ?aL ?_; (case aR => repeat (first | exact (Kd.C_below HR123_0.out HB.out) | (with_reducible refine Kd.C_alloc ?_ _) | (with_reducible refine Kd.C_drewN ?_ _) | (with_reducible refine Kd.C_drew ?_))); (case aB => exact q1_); (case aF => exact (fun _ _ => trivial)); (case aO => exact (by (with_reducible repeat (first | apply Kd.R_alloc | apply Kd.R_drewN | apply Kd.R_drew)); exact HO_6.out)); (case aS => exact (below_size q1_)); (case aL => have := LMc11.out; omega); intro v125 w12 ho hb hg hat; rw [← Ny124.out] at ho; have n0_ := aM hb; have n1_ := aM ho; clear HB; clear HO_6; have HB := n0_; have HO126 := n1_; clear n0_ n1_; clear ho hb hg hat))
 first | go_roundg k2 | (refine Handed.intro k2 ?measure ?_; rotate_left; go_step; (repeat apply Exists.intro); simp only [add_plain]; refine ⟨?rel, rfl⟩)
 case measure => have := HK1.out; have := HK2.out; omega
 case rel => exact ⟨(y124), (wrap64 (x27_2 + 1)), q4_, H', ⟨by have := HK1.out; have := HK2.out; omega⟩, ⟨by (with_reducible repeat (first | apply Kd.R_alloc | apply Kd.R_drewN | apply Kd.R_drew)); exact HO126.out⟩, ⟨q1_⟩⟩
/-! ### cost_joined: function 47 -/
def cost_joined.f (k : Nat) (l0 : List Int) (l1 : List Int) : Option (List Int) := (slices_Concat_int_int.f k (([l0, l1, (([(-1)] : List Int))] : List (List Int)))).bind fun t133 => (some t133)
theorem cost_joined.mono : ∀ a0 a1 k, LeO (cost_joined.f k a0 a1) (cost_joined.f (k + 1) a0 a1) := by
 intro a0 a1 k
 unfold cost_joined.f
 repeat' first
  | (with_reducible exact slices_Concat_int_int.mono _ _)
  | (with_reducible exact LeO.refl _)
  | (with_reducible exact LeO.none _)
  | (with_reducible refine LeO.ite ?_ ?_)
  | (with_reducible refine LeO.bind ?_ (fun _ => ?_))
  | exact slices_Concat_int_int.mono _ _
  | exact LeO.none _
  | refine LeO.ite ?_ ?_
  | refine LeO.bind ?_ (fun _ => ?_)
set_option maxHeartbeats 8000000 in
set_option maxRecDepth 100000 in
theorem cost_joined.callsV (k : Nat) (P0_ : Nat → Prop) (A0 : Option Addr) (c0 : Nat) (l0 : List Int) (P1_ : Nat → Prop) (A1 : Option Addr) (c1 : Nat) (l1 : List Int) (r : List Int) (w : World) (hs0 : Kd.V (Kd.int .i64) 3 w w.heap.size (fun k_ => P0_ k_) (.slice A0 l0.length c0) l0) (hs1 : Kd.V (Kd.int .i64) 3 w w.heap.size (fun k_ => P1_ k_) (.slice A1 l1.length c1) l1) (h : cost_joined.f k l0 l1 = some r) :
    Calls Tryd.prog 47 #[.slice A0 l0.length c0, .slice A1 l1.length c1] w fun e w' => ∃ v0_ : Value, e = .returned (v0_) ∧ Kd.R (Kd.int .i64) 3 w' w.heap.size (fun k_ => (w.heap.size ≤ k_)) v0_ r ∧ Below w.heap.size w w' := by
 have HO0 := aM (show Kd.V (Kd.int .i64) 3 w w.heap.size (fun k_ => ((P0_ k_ ∨ P1_ k_) ∨ w.heap.size ≤ k_)) (.slice A0 l0.length c0) l0 from Kd.V_mono hs0 (fun k_ hk => .inl (.inl hk)))
 have HO1 := aM (show Kd.V (Kd.int .i64) 3 w w.heap.size (fun k_ => ((P0_ k_ ∨ P1_ k_) ∨ w.heap.size ≤ k_)) (.slice A1 l1.length c1) l1 from Kd.V_mono hs1 (fun k_ hk => .inl (.inr hk)))
 have HB := aM (Below.refl w.heap.size w)
 have H : ((slices_Concat_int_int.f k (([l0, l1, (([(-1)] : List Int))] : List (List Int)))).bind fun t133 => (some t133)) = some r := h
 clear h
 obtain ⟨y127, hy127⟩ : ∃ y_ : List Int, y_ = (([(-1)] : List Int)) := ⟨_, rfl⟩
 replace H : ((slices_Concat_int_int.f k (([l0, l1, y127] : List (List Int)))).bind fun t133 => (some t133)) = some r := sqz hy127 H
 have Ny127 := aM hy127
 clear hy127
 obtain ⟨y130, hy130⟩ : ∃ y_ : List (List Int), y_ = (([l0, l1, y127] : List (List Int))) := ⟨_, rfl⟩
 replace H : ((slices_Concat_int_int.f k y130).bind fun t133 => (some t133)) = some r := sqz hy130 H
 have Ny130 := aM hy130
 clear hy130
 replace H := Option.bind_eq_some_iff.mp H
 obtain ⟨t133, A30, H⟩ := H
 replace H : (some t133) = some r := H
 have A3 := aM A30
 clear A30
 obtain rfl := Option.some.inj H
 go_enter Tryd.func47, Tryd.ntmps47
 go_wp2_with (first | ((with_reducible refine gate_dst (N := 7) rfl ?_); refine Kd.R_lit (Kd.int .i64) _ 3 ?hg (N := 7) ?hd (xs := ([(-1)] : List Int)) (inner := [.int .i64 (-1)]) (ok := fun _ => True) (okp := fun _ => True) ?hr ?hp (fun _ hk => hk) trivial (Below.refl _ _) (Nat.le_refl _) s3q0 ?_; (case hd => rfl); (case hg => rfl); (case hr => first | (go_simp; done) | (go_simp; rfl)); (case hp => exact (Reps.one (show Kd.M (Kd.int .i64) _ _ _ (-1) [.int .i64 (-1)] from rfl) (Reps.none _ _))); intro v128 w4 ho5 hb hg_ hnew_; clear hg_ hnew_; (first | rw [← Ny127.out] at ho5 | (simp only [Int.reduceToNat] at ho5; rw [← Ny127.out] at ho5)); have HO129 := aM (Kd.R_lower (Kd.R_newM (M := fun k_ => (w.heap.size ≤ k_)) ho5 (below_size q1_) (fun k_ h_ => h_)) (below_size q1_)); replace HO0 := aM (Kd.V_elder' s3q3 (Kd.R_base ho5) hb); replace HO1 := aM (Kd.V_elder' s3q4 (Kd.R_base ho5) hb); replace HB := aM (below_step q1_ hb); clear hb ho5; obtain ⟨Ao6, co6, eo6⟩ := Kd.R_slice HO129.out; subst eo6) | ((with_reducible refine gate_dst (N := 8) rfl ?_); refine Kd.N_lit (Kd.slice 3 (Kd.int .i64)) _ 22 ?hg (N' := 8) ?hd (xs := ([l0, l1, y127] : List (List Int))) (inner := [.slice A0 l0.length c0, .slice A1 l1.length c1, .slice Ao6 y127.length co6]) (ok := (fun k_ => ((P0_ k_ ∨ P1_ k_) ∨ w.heap.size ≤ k_))) (okp := (fun k_ => ((P0_ k_ ∨ P1_ k_) ∨ w.heap.size ≤ k_))) ?hr ?hp (fun _ hk => hk) ((show ∀ k_, w4.heap.size ≤ k_ → (fun k_ => ((P0_ k_ ∨ P1_ k_) ∨ w.heap.size ≤ k_)) k_ from fun k_ hk => (.inr (Nat.le_trans (below_size q1_) hk))) _ (Nat.le_refl _)) (Below.refl _ _) (Nat.le_refl _) s3q0 ?_; (case hd => rfl); (case hg => rfl); (case hr => first | (go_simp; done) | (go_simp; rfl)); (case hp => exact (Reps.one (show Kd.FK (Kd.slice 3 (Kd.int .i64)) _ _ l0 [.slice A0 l0.length c0] from (Kd.FK_slice_mk (Kd.V_reads' (Kd.V_mono (ok' := (fun k_ => ((P0_ k_ ∨ P1_ k_) ∨ w.heap.size ≤ k_))) (HO0.out) (fun k_ hk => hk.1))).2.1 (Kd.V_F (Kd.V_mono (ok' := (fun k_ => ((P0_ k_ ∨ P1_ k_) ∨ w.heap.size ≤ k_))) (HO0.out) (fun k_ hk => hk.1))))) (Reps.one (show Kd.FK (Kd.slice 3 (Kd.int .i64)) _ _ l1 [.slice A1 l1.length c1] from (Kd.FK_slice_mk (Kd.V_reads' (Kd.V_mono (ok' := (fun k_ => ((P0_ k_ ∨ P1_ k_) ∨ w.heap.size ≤ k_))) (HO1.out) (fun k_ hk => hk.1))).2.1 (Kd.V_F (Kd.V_mono (ok' := (fun k_ => ((P0_ k_ ∨ P1_ k_) ∨ w.heap.size ≤ k_))) (HO1.out) (fun k_ hk => hk.1))))) (Reps.one (show Kd.FK (Kd.slice 3 (Kd.int .i64)) _ _ y127 [.slice Ao6 y127.length co6] from (Kd.FK_slice_mk (Kd.R_reads' (Kd.R_mono (ok' := (fun k_ => ((P0_ k_ ∨ P1_ k_) ∨ w.heap.size ≤ k_))) (HO129.out) (fun k_ hk => (.inr (hk.1))))).2.1 (Kd.R_F (Kd.R_mono (ok' := (fun k_ => ((P0_ k_ ∨ P1_ k_) ∨ w.heap.size ≤ k_))) (HO129.out) (fun k_ hk => (.inr (hk.1))))))) (Reps.none _ _))))); intro v131 w7 ho8 hb hg_ hnew_; clear hg_ hnew_; (first | rw [← Ny130.out] at ho8 | (simp only [Int.reduceToNat] at ho8; rw [← Ny130.out] at ho8)); have n0_ := aM (Kd.V_elder' s3q3 (Kd.N_base ho8) hb); have n1_ := aM (Kd.V_elder' s3q4 (Kd.N_base ho8) hb); have n2_ := aM (Kd.N_lower ho8 (below_size q1_)); have n3_ := aM (below_step q1_ hb); clear HO0; clear HO1; clear HB; clear HO129; have HO0 := n0_; have HO1 := n1_; have HO132 := n2_; have HB := n3_; clear n0_ n1_ n2_ n3_; clear hb ho8; obtain ⟨Ao9, co9, eo9⟩ := Kd.N_slice HO132.out; subst eo9) | ((with_reducible refine gate_callee (f := 51) rfl ?_); refine goesL_ (some 9) rfl rfl Tryd.func51 (by kernel_rfl) rfl #[.slice Ao9 y130.length co9] rfl q2_ ?_; (with_reducible refine (slices_Concat_int_int.calls k _ _ y130 t133 _ ?side1 ?side2 A3.out).mono ?_); (case side1 => repeat (first | exact (Kd.N_reads' HO132.out).2.2 | (with_reducible refine Kd.C_alloc ?_ _) | (with_reducible refine Kd.C_drewN ?_ _) | (with_reducible refine Kd.C_drew ?_))); (case side2 => exact (Kd.N_reads' HO132.out).2.1); rintro e w10 ⟨v134, rfl, ho0, hb⟩; refine ⟨_, rfl, ?_⟩; have HO135 := aM (Kd.R_lower (Kd.R_newM (M := fun k_ => (w.heap.size ≤ k_)) ho0 (below_size q1_) (fun k_ h_ => h_)) (below_size q1_)); replace HO0 := aM (Kd.V_elder' s3q3 (Kd.R_base ho0) hb); replace HO1 := aM (Kd.V_elder' s3q4 (Kd.R_base ho0) hb); replace HO132 := aM (Kd.N_elder' (by (with_reducible repeat (first | apply Kd.N_alloc | apply Kd.N_drewN | apply Kd.N_drew)); exact HO132.out) (Kd.R_base ho0) hb); replace HB := aM (below_step q1_ hb); (try clear hb); (try clear hb2); (try clear hk); (try clear hi); (try clear ho0)))
 go_ret
 exact ⟨_, eqR, by (with_reducible repeat (first | apply Kd.R_alloc | apply Kd.R_drewN | apply Kd.R_drew)); exact Kd.R_mono HO135.out (fun _ hk => hk.1), q1_⟩
theorem cost_joined.calls (k : Nat) (A0 : Option Addr) (c0 : Nat) (l0 : List Int) (A1 : Option Addr) (c1 : Nat) (l1 : List Int) (r : List Int) (w : World) (hr0 : Kd.C (Kd.int .i64) w A0 l0.length l0) (hc0 : l0.length ≤ c0) (hr1 : Kd.C (Kd.int .i64) w A1 l1.length l1) (hc1 : l1.length ≤ c1) (h : cost_joined.f k l0 l1 = some r) :
    Calls Tryd.prog 47 #[.slice A0 l0.length c0, .slice A1 l1.length c1] w fun e w' => ∃ v0_ : Value, e = .returned (v0_) ∧ Kd.R (Kd.int .i64) 3 w' w.heap.size (fun _ => True) v0_ r ∧ Below w.heap.size w w' :=
  (cost_joined.callsV k (fun k_ => k_ < w.heap.size) A0 c0 l0 (fun k_ => k_ < w.heap.size) A1 c1 l1 r w (Kd.V_mk hc0 (Kd.C_F (Kd.heap_int .i64) hr0)) (Kd.V_mk hc1 (Kd.C_F (Kd.heap_int .i64) hr1)) h).mono (by rintro e w' ⟨v0_, rfl, ho0, hb⟩; exact ⟨v0_, rfl, Kd.R_mono ho0 (fun _ _ => trivial), hb⟩)

end Go.Proofs.YtgcijejmmhjibaaDoor.J
