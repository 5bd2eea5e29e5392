-- Printed by a program of this session (a patched print).
import Derived.Test.YtgcijejmmhjibaaDoorJx0
import Derived.Test.YtgcijejmmhjibaaDoorJx2
import Derived.Test.YtgcijejmmhjibaaDoorJx5
namespace Go.Proofs.YtgcijejmmhjibaaDoor.J
open Go.RowKit Go.Proofs.YtgcijejmmhjibaaDoorW.PrintWords Go.Proofs.YtgcijejmmhjibaaDoorW.PrintLast Go.Proofs.YtgcijejmmhjibaaDoorW.PrintMore
attribute [local go_sem] max2_int min2_int max_two min_two max_three min_three max_four min_four   -- for this text's walks alone
set_option linter.unusedVariables false
set_option linter.unusedSimpArgs false

theorem s6q7 {p : Prop} (h : p := by repeat (first | (with_reducible first | exact HB.out | apply below_alloc | apply pw_below_drewN | apply below_drew1 | refine below_set ?_ GE189.out) | exact HB.out)) : p := h
theorem s6q8 {p : Prop} (h : p := by repeat (first | (with_reducible first | exact HB.out | apply below_alloc | apply pw_below_drewN | apply below_drew1 | refine below_set ?_ GE192.out) | exact HB.out)) : p := h
theorem s6q10 {p : Prop} (h : p := by (with_reducible repeat (first | refine blk_drewN ?_ _ | refine blk_drew ?_ | refine blk_alloc ?_ _)); refine blk_put (cs := #[.int .i64 ((rd_T100 l1 x10_1).f0.f0), .int .i64 ((rd_T100 l1 x10_1).f0.f1), .string ((rd_T100 l1 x10_1).f0.f2), .int .i64 0]) ?_ 3 _ rfl; (with_reducible repeat (first | refine blk_drewN ?_ _ | refine blk_drew ?_ | refine blk_alloc ?_ _)); refine blk_put (cs := #[.int .i64 ((rd_T100 l1 x10_1).f0.f0), .int .i64 ((rd_T100 l1 x10_1).f0.f1), .string (⟨#[]⟩ : ByteArray), .int .i64 0]) ?_ 2 _ rfl; (with_reducible repeat (first | refine blk_drewN ?_ _ | refine blk_drew ?_ | refine blk_alloc ?_ _)); refine blk_put (cs := #[.int .i64 ((rd_T100 l1 x10_1).f0.f0), .int .i64 0, .string (⟨#[]⟩ : ByteArray), .int .i64 0]) ?_ 1 _ rfl; (with_reducible repeat (first | refine blk_drewN ?_ _ | refine blk_drew ?_ | refine blk_alloc ?_ _)); refine blk_put (cs := #[.int .i64 0, .int .i64 0, .string (⟨#[]⟩ : ByteArray), .int .i64 0]) ?_ 0 _ rfl; (with_reducible repeat (first | refine blk_drewN ?_ _ | refine blk_drew ?_ | refine blk_alloc ?_ _)); exact BK192.out) : p := h
theorem s6q11 {p : Prop} (h : p := by rw [hg]; exact (below_size q1_)) : p := h
/-! ### cost_checkValue: function 110 -/
def cost_checkValue.f (k : Nat) (a0 : Int) (a1_0 : Int) (a1_1 : Int) (a1_2 : ByteArray) : Option (Int) := (value_CheckValue.f k a1_0 a1_1 a1_2).bind fun t190 => (if t190 = 0 then (if a1_0 = a0 then (some 0) else (some 10)) else (some t190))
theorem cost_checkValue.mono : ∀ a0 a1 a2 a3 k, LeO (cost_checkValue.f k a0 a1 a2 a3) (cost_checkValue.f (k + 1) a0 a1 a2 a3) := by
 intro a0 a1 a2 a3 k
 unfold cost_checkValue.f
 repeat' first
  | (with_reducible exact value_CheckValue.mono _ _ _ _)
  | (with_reducible exact LeO.refl _)
  | (with_reducible exact LeO.none _)
  | (with_reducible refine LeO.ite ?_ ?_)
  | (with_reducible refine LeO.bind ?_ (fun _ => ?_))
  | exact value_CheckValue.mono _ _ _ _
  | exact LeO.none _
  | refine LeO.ite ?_ ?_
  | refine LeO.bind ?_ (fun _ => ?_)
set_option maxHeartbeats 8000000 in
set_option maxRecDepth 100000 in
theorem cost_checkValue.calls (k : Nat) (a0 : Int) (a1_0 : Int) (a1_1 : Int) (a1_2 : ByteArray) (r : Int) (w : World) (h : cost_checkValue.f k a0 a1_0 a1_1 a1_2 = some r) :
    Calls Tryd.prog 110 #[.int .i64 a0, .agg #[.int .i64 a1_0, .int .i64 a1_1, .string a1_2]] w fun e w' => e = .returned (.int .i64 r) ∧ Below w.heap.size w w' := by
 have hu48 := Tryd.underlying48
 have HB := aM (Below.refl w.heap.size w)
 have H : ((value_CheckValue.f k a1_0 a1_1 a1_2).bind fun t190 => (if t190 = 0 then (if a1_0 = a0 then (some 0) else (some 10)) else (some t190))) = some r := h
 clear h
 replace H := Option.bind_eq_some_iff.mp H
 obtain ⟨t190, A30, H⟩ := H
 replace H : (if t190 = 0 then (if a1_0 = a0 then (some 0) else (some 10)) else (some t190)) = some r := H
 have A3 := aM A30
 clear A30
 by_cases c4 : t190 = 0
 case neg =>
  rw [if_neg c4] at H
  have c4b0 : (t190 == 0) = false := beq_eq_false_iff_ne.mpr c4
  have c4b1 : (t190 != 0) = true := bne_iff_ne.mpr c4
  obtain rfl := Option.some.inj H
  go_enter Tryd.func110, Tryd.ntmps110
  go_wp2_with (first | ((with_reducible refine gate_dst (N := 3) rfl ?_); refine box_event ?hg (N := 3) ?hd (cs := #[.int .i64 a1_0, .int .i64 a1_1, .string a1_2]) (t := 48) ?hr ?_; (case hd => rfl); (case hg => rfl); (case hr => first | (go_simp; done) | (go_simp; rfl)); intro gb189 hg w14 hbox hb; have BK189 := aM hbox; have GW189 := aM (s6q11 : w.heap.size ≤ gb189); have GE189 := GW189; replace HB := aM (below_step q1_ hb); clear hb hbox hg; obtain ⟨hcz15_0, hcz15_1, hcz15_2, hfz15_0, hfz15_1, hfz15_2⟩ := cells3 BK189.out) | ((with_reducible refine gate_callee (f := 111) rfl ?_); refine goesL_ (some 7) rfl rfl Tryd.func111 q5_ rfl #[.agg #[.int .i64 a1_0, .int .i64 a1_1, .string a1_2]] rfl q2_ ?_; (with_reducible refine (value_CheckValue.calls k a1_0 a1_1 a1_2 t190 _ A3.out).mono ?_); rintro e w16 ⟨rfl, hb⟩; refine ⟨_, rfl, ?_⟩; replace BK189 := aM (bbR BK189.out hb); replace HB := aM (below_step s6q7 hb); (try clear hb); (try clear hb2); (try clear hk); (try clear hi)))
  go_ret
  exact ⟨eqR, s6q7⟩
 rw [if_pos c4] at H
 have c4b0 : (t190 == 0) = true := beq_iff_eq.mpr c4
 have c4b1 : (t190 != 0) = false := bne_eq_false_iff_eq.mpr c4
 clear c4
 by_cases c5 : a1_0 = a0
 · rw [if_pos c5] at H
   have c5b0 : (a1_0 == a0) = true := beq_iff_eq.mpr c5
   have c5b1 : (a1_0 != a0) = false := bne_eq_false_iff_eq.mpr c5
   clear c5
   obtain rfl := Option.some.inj H
   go_enter Tryd.func110, Tryd.ntmps110
   go_wp2_with (first | ((with_reducible refine gate_dst (N := 3) rfl ?_); refine box_event ?hg (N := 3) ?hd (cs := #[.int .i64 a1_0, .int .i64 a1_1, .string a1_2]) (t := 48) ?hr ?_; (case hd => rfl); (case hg => rfl); (case hr => first | (go_simp; done) | (go_simp; rfl)); intro gb189 hg w6 hbox hb; have BK189 := aM hbox; have GW189 := aM (s6q11 : w.heap.size ≤ gb189); have GE189 := GW189; replace HB := aM (below_step q1_ hb); clear hb hbox hg; obtain ⟨hcz7_0, hcz7_1, hcz7_2, hfz7_0, hfz7_1, hfz7_2⟩ := cells3 BK189.out) | ((with_reducible refine gate_callee (f := 111) rfl ?_); refine goesL_ (some 7) rfl rfl Tryd.func111 q5_ rfl #[.agg #[.int .i64 a1_0, .int .i64 a1_1, .string a1_2]] rfl q2_ ?_; (with_reducible refine (value_CheckValue.calls k a1_0 a1_1 a1_2 t190 _ A3.out).mono ?_); rintro e w8 ⟨rfl, hb⟩; refine ⟨_, rfl, ?_⟩; replace BK189 := aM (bbR BK189.out hb); replace HB := aM (below_step s6q7 hb); (try clear hb); (try clear hb2); (try clear hk); (try clear hi); obtain ⟨hcz9_0, hcz9_1, hcz9_2, hfz9_0, hfz9_1, hfz9_2⟩ := cells3 BK189.out))
   go_ret
   exact ⟨eqR, s6q7⟩
 rw [if_neg c5] at H
 have c5b0 : (a1_0 == a0) = false := beq_eq_false_iff_ne.mpr c5
 have c5b1 : (a1_0 != a0) = true := bne_iff_ne.mpr c5
 obtain rfl := Option.some.inj H
 go_enter Tryd.func110, Tryd.ntmps110
 go_wp2_with (first | ((with_reducible refine gate_dst (N := 3) rfl ?_); refine box_event ?hg (N := 3) ?hd (cs := #[.int .i64 a1_0, .int .i64 a1_1, .string a1_2]) (t := 48) ?hr ?_; (case hd => rfl); (case hg => rfl); (case hr => first | (go_simp; done) | (go_simp; rfl)); intro gb189 hg w10 hbox hb; have BK189 := aM hbox; have GW189 := aM (s6q11 : w.heap.size ≤ gb189); have GE189 := GW189; replace HB := aM (below_step q1_ hb); clear hb hbox hg; obtain ⟨hcz11_0, hcz11_1, hcz11_2, hfz11_0, hfz11_1, hfz11_2⟩ := cells3 BK189.out) | ((with_reducible refine gate_callee (f := 111) rfl ?_); refine goesL_ (some 7) rfl rfl Tryd.func111 q5_ rfl #[.agg #[.int .i64 a1_0, .int .i64 a1_1, .string a1_2]] rfl q2_ ?_; (with_reducible refine (value_CheckValue.calls k a1_0 a1_1 a1_2 t190 _ A3.out).mono ?_); rintro e w12 ⟨rfl, hb⟩; refine ⟨_, rfl, ?_⟩; replace BK189 := aM (bbR BK189.out hb); replace HB := aM (below_step s6q7 hb); (try clear hb); (try clear hb2); (try clear hk); (try clear hi); obtain ⟨hcz13_0, hcz13_1, hcz13_2, hfz13_0, hfz13_1, hfz13_2⟩ := cells3 BK189.out))
 go_ret
 exact ⟨eqR, s6q7⟩
/-! ### cost_checkOften: function 76 -/
def cost_checkOften.l0 : Nat → Int → List (S100) → List (S100) → Int → Int → Option (Int)
  | 0, _, _, _, _, _ => none
  | k + 1, x0, x1, x8, x9, x10 => if x10 < x9 then (if 0 ≤ x10 then (if x10 < (x8.length : Int) then ((cost_checkValue.f k x0 ((rd_T100 x8 x10).f0.f0) ((rd_T100 x8 x10).f0.f1) ((rd_T100 x8 x10).f0.f2)).bind fun t193 => (if t193 = 0 then ((kit_In.f ((rd_T100 x8 x10).f1) 1 2000).bind fun t194 => (if t194 = true then (if x10 > 0 then (if 0 ≤ (wrap64 (x10 - 1)) then (if (wrap64 (x10 - 1)) < (x1.length : Int) then ((kit_Compare.f ((rd_T100 x1 (wrap64 (x10 - 1))).f0.f0) ((rd_T100 x1 (wrap64 (x10 - 1))).f0.f1) ((rd_T100 x1 (wrap64 (x10 - 1))).f0.f2) ((rd_T100 x8 x10).f0.f0) ((rd_T100 x8 x10).f0.f1) ((rd_T100 x8 x10).f0.f2)).bind fun t196 => (if t196 ≥ 0 then (some 8) else (cost_checkOften.l0 k x0 x1 x8 x9 (wrap64 (x10 + 1))))) else (none)) else (none)) else (cost_checkOften.l0 k x0 x1 x8 x9 (wrap64 (x10 + 1)))) else (some 1))) else (some t193))) else (none)) else (none)) else (some 0)
def cost_checkOften.f (k : Nat) (a0 : Int) (l1 : List (S100)) : Option (Int) := cost_checkOften.l0 k a0 l1 l1 (l1.length : Int) 0
theorem cost_checkOften.mono_l : ∀ k, (∀ y0 y1 y2 y3 y4, LeO (cost_checkOften.l0 k y0 y1 y2 y3 y4) (cost_checkOften.l0 (k + 1) y0 y1 y2 y3 y4))
  | 0 => fun _ _ _ _ _ r h => by simp [cost_checkOften.l0] at h
  | k + 1 => by
    have ih0 := cost_checkOften.mono_l k
    · intro y0 y1 y2 y3 y4
      unfold cost_checkOften.l0
      repeat' first | (with_reducible exact ih0 _ _ _ _ _) | (with_reducible exact cost_checkValue.mono _ _ _ _ _) | (with_reducible exact LeO.refl _) | (with_reducible exact LeO.none _) | (with_reducible refine LeO.ite ?_ ?_) | (with_reducible refine LeO.bind ?_ (fun _ => ?_)) | exact ih0 _ _ _ _ _ | exact cost_checkValue.mono _ _ _ _ _ | exact LeO.none _ | refine LeO.ite ?_ ?_ | refine LeO.bind ?_ (fun _ => ?_)
theorem cost_checkOften.mono : ∀ a0 a1 k, LeO (cost_checkOften.f k a0 a1) (cost_checkOften.f (k + 1) a0 a1) := by
 intro a0 a1 k
 have ih0 := cost_checkOften.mono_l k
 unfold cost_checkOften.f
 repeat' first
  | (with_reducible exact ih0 _ _ _ _ _)
  | (with_reducible exact cost_checkValue.mono _ _ _ _ _)
  | (with_reducible exact LeO.refl _)
  | (with_reducible exact LeO.none _)
  | (with_reducible refine LeO.ite ?_ ?_)
  | (with_reducible refine LeO.bind ?_ (fun _ => ?_))
  | exact ih0 _ _ _ _ _
  | exact cost_checkValue.mono _ _ _ _ _
  | exact LeO.none _
  | refine LeO.ite ?_ ?_
  | refine LeO.bind ?_ (fun _ => ?_)
def cost_checkOften.T9 : Bool × List (List Nat × List Nat) := (true, [([], []), ([0], [0]), ([1], [1]), ([2], [2]), ([2], [2]), ([4, 2], [2, 4]), ([3, 5, 2], [2, 3, 5]), ([6, 2], [2, 6]), ([7, 2], [2, 7]), ([2], [2]), ([9, 2], [2, 9]), ([8, 10, 2, 2], [2, 8, 10]), ([11, 2], [2, 11]), ([2, 12], [2, 12])])
def cost_checkOften.B9 : List Nat := [0, 1, 3, 7, 7, 23, 63, 127, 255, 7, 519, 2047, 4095, 8191]
theorem cost_checkOften.tab9 : rtab .any (opsOf Tryd.f76 9) = cost_checkOften.T9 := by kernel_rfl
theorem cost_checkOften.bits9 : waitsOk cost_checkOften.T9.2 cost_checkOften.B9 = true := by kernel_rfl
set_option maxHeartbeats 8000000 in
set_option maxRecDepth 100000 in
theorem cost_checkOften.calls (k : Nat) (a0 : Int) (A1 : Option Addr) (c1 : Nat) (l1 : List (S100)) (r : Int) (w : World) (hr1 : Kd.C k100 w A1 l1.length l1) (hc1 : l1.length ≤ c1) (h : cost_checkOften.f k a0 l1 = some r) :
    Calls Tryd.prog 76 #[.int .i64 a0, .slice A1 l1.length c1] w fun e w' => e = .returned (.int .i64 r) ∧ Below w.heap.size w w' := by
 have hu100 := Tryd.underlying100
 have hu48 := Tryd.underlying48
 have HR1 := aM hr1
 have HC1 := aM hc1
 clear hr1 hc1
 have HB := aM (Below.refl w.heap.size w)
 have H : (cost_checkOften.l0 k a0 l1 l1 (l1.length : Int) 0) = some r := h
 clear h
 have H' := aM H
 clear H
 go_enter Tryd.func76, Tryd.ntmps76
 go_wp2
 go_loopg [10] k (fun kq v10 w' => ∃ (x10_1 : Int), v10 = .int .i64 x10_1 ∧ Aside0 (cost_checkOften.l0 kq a0 l1 l1 (l1.length : Int) x10_1 = some r) ∧ Aside0 (kq ≤ k) ∧ Aside0 (Below w.heap.size w w'))
 case atStart => exact ⟨(0), q4_, H', ⟨Nat.le_refl _⟩, ⟨q1_⟩⟩
 clear H'
 try clear c1
 try clear p2
 obtain ⟨x10_1, rfl, HA, HK1, HB⟩ := hrel
 cases gk with
 | zero => exact absurd HA.out (by simp [cost_checkOften.l0])
 | succ k1 => ?_
 have H := HA.out
 clear HA
 simp only [cost_checkOften.l0] at H
 by_cases c3 : x10_1 < (l1.length : Int)
 case neg =>
  rw [if_neg c3] at H
  have c3b0 : decide (x10_1 < (l1.length : Int)) = false := decide_eq_false c3
  clear c3
  obtain rfl := Option.some.inj H
  go_wp2
  go_ret
  exact ⟨eqR, q1_⟩
 rw [if_pos c3] at H
 have c3b0 : decide (x10_1 < (l1.length : Int)) = true := decide_eq_true c3
 clear c3
 by_cases c4 : 0 ≤ x10_1
 case neg =>
  rw [if_neg c4] at H
  exact absurd H (by simp)
 rw [if_pos c4] at H
 have c4b0 : decide (0 ≤ x10_1) = true := decide_eq_true c4
 clear c4
 by_cases c5 : x10_1 < (l1.length : Int)
 case neg =>
  rw [if_neg c5] at H
  exact absurd H (by simp)
 rw [if_pos c5] at H
 have c5b0 : decide (x10_1 < (l1.length : Int)) = true := decide_eq_true c5
 clear c5
 replace H := Option.bind_eq_some_iff.mp H
 obtain ⟨t193, A60, H⟩ := H
 replace H : (if t193 = 0 then ((kit_In.f ((rd_T100 l1 x10_1).f1) 1 2000).bind fun t194 => (if t194 = true then (if x10_1 > 0 then (if 0 ≤ (wrap64 (x10_1 - 1)) then (if (wrap64 (x10_1 - 1)) < (l1.length : Int) then ((kit_Compare.f ((rd_T100 l1 (wrap64 (x10_1 - 1))).f0.f0) ((rd_T100 l1 (wrap64 (x10_1 - 1))).f0.f1) ((rd_T100 l1 (wrap64 (x10_1 - 1))).f0.f2) ((rd_T100 l1 x10_1).f0.f0) ((rd_T100 l1 x10_1).f0.f1) ((rd_T100 l1 x10_1).f0.f2)).bind fun t196 => (if t196 ≥ 0 then (some 8) else (cost_checkOften.l0 k1 a0 l1 l1 (l1.length : Int) (wrap64 (x10_1 + 1))))) else (none)) else (none)) else (cost_checkOften.l0 k1 a0 l1 l1 (l1.length : Int) (wrap64 (x10_1 + 1)))) else (some 1))) else (some t193)) = some r := H
 have A6 := aM A60
 clear A60
 by_cases c7 : t193 = 0
 case neg =>
  rw [if_neg c7] at H
  have c7b0 : (t193 == 0) = false := beq_eq_false_iff_ne.mpr c7
  have c7b1 : (t193 != 0) = true := bne_iff_ne.mpr c7
  obtain rfl := Option.some.inj H
  have p191 : 0 ≤ (x10_1 : Int) := of_decide_eq_true q3_
  have q191 : x10_1 < (l1.length : Int) := of_decide_eq_true q3_
  obtain ⟨ad191, e191, hx191_0, hx191_1, hx191_2, hx191_3⟩ := at_T100 HR1.out x10_1 p191 q191
  cases e191
  replace hx191_0 := up_ HB.out hx191_0
  replace hx191_1 := up_ HB.out hx191_1
  replace hx191_2 := up_ HB.out hx191_2
  replace hx191_3 := up_ HB.out hx191_3
  replace p191 := eq_true p191
  replace q191 := eq_true q191
  go_wp2_with (first | ((with_reducible refine gate_dst (N := 6) rfl ?_); refine box_event ?hg (N := 6) ?hd (cs := #[.int .i64 0, .int .i64 0, .string (⟨#[]⟩ : ByteArray), .int .i64 0]) (t := 100) ?hr ?_; (case hd => rfl); (case hg => rfl); (case hr => first | (go_simp; done) | (go_simp; rfl)); intro gb192 hg w37 hbox hb; have BK192 := aM hbox; have GW192 := aM (s6q11 : w.heap.size ≤ gb192); have GE192 := GW192; replace HB := aM (below_step q1_ hb); clear hb hbox hg; obtain ⟨hcz38_0, hcz38_1, hcz38_2, hcz38_3, hfz38_0, hfz38_1, hfz38_2, hfz38_3⟩ := cells4 BK192.out) | ((with_reducible refine gate_callee (f := 110) rfl ?_); refine goesL_ (some 18) rfl rfl Tryd.func110 q5_ rfl #[.int .i64 a0, .agg #[.int .i64 ((rd_T100 l1 x10_1).f0.f0), .int .i64 ((rd_T100 l1 x10_1).f0.f1), .string ((rd_T100 l1 x10_1).f0.f2)]] rfl q2_ ?_; (with_reducible refine (cost_checkValue.calls k1 a0 ((rd_T100 l1 x10_1).f0.f0) ((rd_T100 l1 x10_1).f0.f1) ((rd_T100 l1 x10_1).f0.f2) t193 _ A6.out).mono ?_); rintro e w39 ⟨rfl, hb⟩; refine ⟨_, rfl, ?_⟩; replace BK192 := aM (blk_below (g := gb192) (o := .cells #[.int .i64 ((rd_T100 l1 x10_1).f0.f0), .int .i64 ((rd_T100 l1 x10_1).f0.f1), .string ((rd_T100 l1 x10_1).f0.f2), .int .i64 ((rd_T100 l1 x10_1).f1)] 100 (0, 0)) s6q10 hb); replace HB := aM (below_step s6q8 hb); (try clear hb); (try clear hb2); (try clear hk); (try clear hi)))
  go_ret
  exact ⟨eqR, s6q8⟩
 rw [if_pos c7] at H
 have c7b0 : (t193 == 0) = true := beq_iff_eq.mpr c7
 have c7b1 : (t193 != 0) = false := bne_eq_false_iff_eq.mpr c7
 clear c7
 replace H := Option.bind_eq_some_iff.mp H
 obtain ⟨t194, A80, H⟩ := H
 replace H : (if t194 = true then (if x10_1 > 0 then (if 0 ≤ (wrap64 (x10_1 - 1)) then (if (wrap64 (x10_1 - 1)) < (l1.length : Int) then ((kit_Compare.f ((rd_T100 l1 (wrap64 (x10_1 - 1))).f0.f0) ((rd_T100 l1 (wrap64 (x10_1 - 1))).f0.f1) ((rd_T100 l1 (wrap64 (x10_1 - 1))).f0.f2) ((rd_T100 l1 x10_1).f0.f0) ((rd_T100 l1 x10_1).f0.f1) ((rd_T100 l1 x10_1).f0.f2)).bind fun t196 => (if t196 ≥ 0 then (some 8) else (cost_checkOften.l0 k1 a0 l1 l1 (l1.length : Int) (wrap64 (x10_1 + 1))))) else (none)) else (none)) else (cost_checkOften.l0 k1 a0 l1 l1 (l1.length : Int) (wrap64 (x10_1 + 1)))) else (some 1)) = some r := H
 have A8 := aM A80
 clear A80
 by_cases c9 : t194 = true
 case neg =>
  replace c9 := Bool.eq_false_iff.mpr c9
  subst c9
  have H1 : (some 1) = some r := by rw [if_neg (show ¬ (false = true) by decide)] at H; exact H
  clear H
  have H := H1
  clear H1
  obtain rfl := Option.some.inj H
  have p191 : 0 ≤ (x10_1 : Int) := of_decide_eq_true q3_
  have q191 : x10_1 < (l1.length : Int) := of_decide_eq_true q3_
  obtain ⟨ad191, e191, hx191_0, hx191_1, hx191_2, hx191_3⟩ := at_T100 HR1.out x10_1 p191 q191
  cases e191
  replace hx191_0 := up_ HB.out hx191_0
  replace hx191_1 := up_ HB.out hx191_1
  replace hx191_2 := up_ HB.out hx191_2
  replace hx191_3 := up_ HB.out hx191_3
  replace p191 := eq_true p191
  replace q191 := eq_true q191
  go_wp2_with (first | ((with_reducible refine gate_dst (N := 6) rfl ?_); refine box_event ?hg (N := 6) ?hd (cs := #[.int .i64 0, .int .i64 0, .string (⟨#[]⟩ : ByteArray), .int .i64 0]) (t := 100) ?hr ?_; (case hd => rfl); (case hg => rfl); (case hr => first | (go_simp; done) | (go_simp; rfl)); intro gb192 hg w33 hbox hb; have BK192 := aM hbox; have GW192 := aM (s6q11 : w.heap.size ≤ gb192); have GE192 := GW192; replace HB := aM (below_step q1_ hb); clear hb hbox hg; obtain ⟨hcz34_0, hcz34_1, hcz34_2, hcz34_3, hfz34_0, hfz34_1, hfz34_2, hfz34_3⟩ := cells4 BK192.out) | ((with_reducible refine gate_callee (f := 110) rfl ?_); refine goesL_ (some 18) rfl rfl Tryd.func110 q5_ rfl #[.int .i64 a0, .agg #[.int .i64 ((rd_T100 l1 x10_1).f0.f0), .int .i64 ((rd_T100 l1 x10_1).f0.f1), .string ((rd_T100 l1 x10_1).f0.f2)]] rfl q2_ ?_; (with_reducible refine (cost_checkValue.calls k1 a0 ((rd_T100 l1 x10_1).f0.f0) ((rd_T100 l1 x10_1).f0.f1) ((rd_T100 l1 x10_1).f0.f2) t193 _ A6.out).mono ?_); rintro e w35 ⟨rfl, hb⟩; refine ⟨_, rfl, ?_⟩; replace BK192 := aM (blk_below (g := gb192) (o := .cells #[.int .i64 ((rd_T100 l1 x10_1).f0.f0), .int .i64 ((rd_T100 l1 x10_1).f0.f1), .string ((rd_T100 l1 x10_1).f0.f2), .int .i64 ((rd_T100 l1 x10_1).f1)] 100 (0, 0)) s6q10 hb); replace HB := aM (below_step s6q8 hb); (try clear hb); (try clear hb2); (try clear hk); (try clear hi); obtain ⟨hcz36_0, hcz36_1, hcz36_2, hcz36_3, hfz36_0, hfz36_1, hfz36_2, hfz36_3⟩ := cells4 BK192.out) | ((with_reducible refine gate_callee (f := 41) rfl ?_); refine goesL_ (some 24) rfl rfl Tryd.func41 q5_ rfl #[.int .i64 ((rd_T100 l1 x10_1).f1), .int .i64 1, .int .i64 2000] rfl q2_ ?_; (with_reducible refine (kit_In.calls ((rd_T100 l1 x10_1).f1) 1 2000 false _ A8.out).mono ?_); rintro e w' ⟨rfl, ⟨nd, rfl⟩⟩; refine ⟨_, rfl, ?_⟩))
  go_ret
  exact ⟨eqR, s6q8⟩
 subst c9
 have H1 : (if x10_1 > 0 then (if 0 ≤ (wrap64 (x10_1 - 1)) then (if (wrap64 (x10_1 - 1)) < (l1.length : Int) then ((kit_Compare.f ((rd_T100 l1 (wrap64 (x10_1 - 1))).f0.f0) ((rd_T100 l1 (wrap64 (x10_1 - 1))).f0.f1) ((rd_T100 l1 (wrap64 (x10_1 - 1))).f0.f2) ((rd_T100 l1 x10_1).f0.f0) ((rd_T100 l1 x10_1).f0.f1) ((rd_T100 l1 x10_1).f0.f2)).bind fun t196 => (if t196 ≥ 0 then (some 8) else (cost_checkOften.l0 k1 a0 l1 l1 (l1.length : Int) (wrap64 (x10_1 + 1))))) else (none)) else (none)) else (cost_checkOften.l0 k1 a0 l1 l1 (l1.length : Int) (wrap64 (x10_1 + 1)))) = some r := by rw [if_pos rfl] at H; exact H
 clear H
 have H := H1
 clear H1
 by_cases c10 : x10_1 > 0
 case neg =>
  rw [if_neg c10] at H
  have c10b0 : decide (0 < x10_1) = false := decide_eq_false c10
  clear c10
  have H' := aM H
  clear H
  have p191 : 0 ≤ (x10_1 : Int) := of_decide_eq_true q3_
  have q191 : x10_1 < (l1.length : Int) := of_decide_eq_true q3_
  obtain ⟨ad191, e191, hx191_0, hx191_1, hx191_2, hx191_3⟩ := at_T100 HR1.out x10_1 p191 q191
  cases e191
  replace hx191_0 := up_ HB.out hx191_0
  replace hx191_1 := up_ HB.out hx191_1
  replace hx191_2 := up_ HB.out hx191_2
  replace hx191_3 := up_ HB.out hx191_3
  replace p191 := eq_true p191
  replace q191 := eq_true q191
  try go_wp2_with (first | ((with_reducible refine gate_dst (N := 6) rfl ?_); refine box_event ?hg (N := 6) ?hd (cs := #[.int .i64 0, .int .i64 0, .string (⟨#[]⟩ : ByteArray), .int .i64 0]) (t := 100) ?hr ?_; (case hd => rfl); (case hg => rfl); (case hr => first | (go_simp; done) | (go_simp; rfl)); intro gb192 hg w28 hbox hb; have BK192 := aM hbox; have GW192 := aM (s6q11 : w.heap.size ≤ gb192); have GE192 := GW192; replace HB := aM (below_step q1_ hb); clear hb hbox hg; obtain ⟨hcz29_0, hcz29_1, hcz29_2, hcz29_3, hfz29_0, hfz29_1, hfz29_2, hfz29_3⟩ := cells4 BK192.out) | ((with_reducible refine gate_callee (f := 110) rfl ?_); refine goesL_ (some 18) rfl rfl Tryd.func110 q5_ rfl #[.int .i64 a0, .agg #[.int .i64 ((rd_T100 l1 x10_1).f0.f0), .int .i64 ((rd_T100 l1 x10_1).f0.f1), .string ((rd_T100 l1 x10_1).f0.f2)]] rfl q2_ ?_; (with_reducible refine (cost_checkValue.calls k1 a0 ((rd_T100 l1 x10_1).f0.f0) ((rd_T100 l1 x10_1).f0.f1) ((rd_T100 l1 x10_1).f0.f2) t193 _ A6.out).mono ?_); rintro e w30 ⟨rfl, hb⟩; refine ⟨_, rfl, ?_⟩; replace BK192 := aM (blk_below (g := gb192) (o := .cells #[.int .i64 ((rd_T100 l1 x10_1).f0.f0), .int .i64 ((rd_T100 l1 x10_1).f0.f1), .string ((rd_T100 l1 x10_1).f0.f2), .int .i64 ((rd_T100 l1 x10_1).f1)] 100 (0, 0)) s6q10 hb); replace HB := aM (below_step s6q8 hb); (try clear hb); (try clear hb2); (try clear hk); (try clear hi); obtain ⟨hcz31_0, hcz31_1, hcz31_2, hcz31_3, hfz31_0, hfz31_1, hfz31_2, hfz31_3⟩ := cells4 BK192.out) | ((with_reducible refine gate_callee (f := 41) rfl ?_); refine goesL_ (some 24) rfl rfl Tryd.func41 q5_ rfl #[.int .i64 ((rd_T100 l1 x10_1).f1), .int .i64 1, .int .i64 2000] rfl q2_ ?_; (with_reducible refine (kit_In.calls ((rd_T100 l1 x10_1).f1) 1 2000 true _ A8.out).mono ?_); rintro e w' ⟨rfl, ⟨nd, rfl⟩⟩; refine ⟨_, rfl, ?_⟩))
  (try (rw [drewN_self w30]; generalize hq_ : World.drewN w30 _ = w30; have n0_ : Aside0 (w30.heap[gb192]? = some (.cells #[.int .i64 ((rd_T100 l1 x10_1).f0.f0), .int .i64 ((rd_T100 l1 x10_1).f0.f1), .string ((rd_T100 l1 x10_1).f0.f2), .int .i64 ((rd_T100 l1 x10_1).f1)] 100 (0, 0))) := ⟨by rw [← hq_]; exact (blkR BK192.out)⟩; have n1_ : Aside0 (Below w.heap.size w w30) := ⟨by rw [← hq_]; exact s6q8⟩; clear BK192 HB hq_; have BK192 := n0_; have HB := n1_; clear n0_ n1_))
  have n0_ := aM (blk_drew BK192.out)
  have n1_ := aM (below_drew1 HB.out)
  clear BK192
  clear HB
  have BK192 := n0_
  have HB := n1_
  clear n0_ n1_
  refine start_ (n := 14) (S := fun w' => True) (ds := []) #[fF, fF, fF, fF, fF, fF, fF, fF, fF, fF, fF, fF, fF, fF] q5_ rfl rfl trivial (fun hHeld => ?_); refine with_tabW cost_checkOften.tab9 cost_checkOften.bits9 (fun HT_ HW_ => ?_)
  generalize w30.drew = w32 at BK192 HB hHeld ⊢
  refine pure_ (i := 0) (N := some 26) (v := ?_) (a' := ?_) #[tT, fF, fF, fF, fF, fF, fF, fF, fF, fF, fF, fF, fF, fF] rfl rfl (any_of HT_.out q5_) (fun _ _ _ h => h) (Or.inl ⟨by rfl, ?_⟩) ?_ ?_
  rotate_left
  · intro w'
    go_simp
    with_reducible rfl
  rotate_left
  · simp only [Act.put, sqa, sqb, sqc, i64_w, i32_w]
    rfl
  refine pure_ (i := 1) (N := some 27) (v := ?_) (a' := ?_) #[tT, tT, fF, fF, fF, fF, fF, fF, fF, fF, fF, fF, fF, fF] rfl rfl (any_of HT_.out q5_) (fun _ _ _ h => h) (Or.inl ⟨by rfl, ?_⟩) ?_ ?_
  rotate_left
  · intro w'
    go_simp
    with_reducible rfl
  rotate_left
  · simp only [Act.put, sqa, sqb, sqc, i64_w, i32_w]
    rfl
  refine pure_ (i := 2) (N := some 28) (v := ?_) (a' := ?_) #[tT, tT, tT, fF, fF, fF, fF, fF, fF, fF, fF, fF, fF, fF] rfl rfl (any_of HT_.out q5_) (fun _ _ _ h => h) (Or.inl ⟨by rfl, ?_⟩) ?_ ?_
  rotate_left
  · intro w'
    go_simp
    with_reducible rfl
  rotate_left
  · simp only [Act.put, sqa, sqb, sqc, i64_w, i32_w]
    rfl
  refine pure_ (i := 3) (N := some 29) (v := undef) (a' := ?_) #[tT, tT, tT, tT, fF, fF, fF, fF, fF, fF, fF, fF, fF, fF] rfl rfl (any_of HT_.out q5_) (fun _ _ _ h => h) (Or.inr ⟨by rfl, rfl⟩) ?_ ?_
  rotate_left
  · simp only [Act.put, sqa, sqb, sqc, i64_w, i32_w]
    rfl
  refine pure_ (i := 4) (N := some 30) (v := undef) (a' := ?_) #[tT, tT, tT, tT, tT, fF, fF, fF, fF, fF, fF, fF, fF, fF] rfl rfl (any_of HT_.out q5_) (fun _ _ _ h => h) (Or.inr ⟨by rfl, rfl⟩) ?_ ?_
  rotate_left
  · simp only [Act.put, sqa, sqb, sqc, i64_w, i32_w]
    rfl
  refine pure_ (i := 5) (N := some 31) (v := undef) (a' := ?_) #[tT, tT, tT, tT, tT, tT, fF, fF, fF, fF, fF, fF, fF, fF] rfl rfl (any_of HT_.out q5_) (fun _ _ _ h => h) (Or.inr ⟨by rfl, rfl⟩) ?_ ?_
  rotate_left
  · simp only [Act.put, sqa, sqb, sqc, i64_w, i32_w]
    rfl
  refine pure_ (i := 6) (N := some 32) (v := undef) (a' := ?_) #[tT, tT, tT, tT, tT, tT, tT, fF, fF, fF, fF, fF, fF, fF] rfl rfl (any_of HT_.out q5_) (fun _ _ _ h => h) (Or.inr ⟨by rfl, rfl⟩) ?_ ?_
  rotate_left
  · simp only [Act.put, sqa, sqb, sqc, i64_w, i32_w]
    rfl
  refine pure_ (i := 7) (N := some 33) (v := undef) (a' := ?_) #[tT, tT, tT, tT, tT, tT, tT, tT, fF, fF, fF, fF, fF, fF] rfl rfl (any_of HT_.out q5_) (fun _ _ _ h => h) (Or.inr ⟨by rfl, rfl⟩) ?_ ?_
  rotate_left
  · simp only [Act.put, sqa, sqb, sqc, i64_w, i32_w]
    rfl
  refine pure_ (i := 8) (N := some 34) (v := undef) (a' := ?_) #[tT, tT, tT, tT, tT, tT, tT, tT, tT, fF, fF, fF, fF, fF] rfl rfl (any_of HT_.out q5_) (fun _ _ _ h => h) (Or.inr ⟨by rfl, rfl⟩) ?_ ?_
  rotate_left
  · simp only [Act.put, sqa, sqb, sqc, i64_w, i32_w]
    rfl
  refine pure_ (i := 9) (N := some 35) (v := undef) (a' := ?_) #[tT, tT, tT, tT, tT, tT, tT, tT, tT, tT, fF, fF, fF, fF] rfl rfl (any_of HT_.out q5_) (fun _ _ _ h => h) (Or.inr ⟨by rfl, rfl⟩) ?_ ?_
  rotate_left
  · simp only [Act.put, sqa, sqb, sqc, i64_w, i32_w]
    rfl
  refine pure_ (i := 10) (N := some 36) (v := undef) (a' := ?_) #[tT, tT, tT, tT, tT, tT, tT, tT, tT, tT, tT, fF, fF, fF] rfl rfl (any_of HT_.out q5_) (fun _ _ _ h => h) (Or.inr ⟨by rfl, rfl⟩) ?_ ?_
  rotate_left
  · simp only [Act.put, sqa, sqb, sqc, i64_w, i32_w]
    rfl
  refine pure_ (i := 11) (N := some 37) (v := undef) (a' := ?_) #[tT, tT, tT, tT, tT, tT, tT, tT, tT, tT, tT, tT, fF, fF] rfl rfl (any_of HT_.out q5_) (fun _ _ _ h => h) (Or.inr ⟨by rfl, rfl⟩) ?_ ?_
  rotate_left
  · simp only [Act.put, sqa, sqb, sqc, i64_w, i32_w]
    rfl
  refine pure_ (i := 12) (N := some 38) (v := undef) (a' := ?_) #[tT, tT, tT, tT, tT, tT, tT, tT, tT, tT, tT, tT, tT, fF] rfl rfl (any_of HT_.out q5_) (fun _ _ _ h => h) (Or.inr ⟨by rfl, rfl⟩) ?_ ?_
  rotate_left
  · simp only [Act.put, sqa, sqb, sqc, i64_w, i32_w]
    rfl
  refine pure_ (i := 13) (N := some 39) (v := ?_) (a' := ?_) #[tT, tT, tT, tT, tT, tT, tT, tT, tT, tT, tT, tT, tT, tT] rfl rfl (any_of HT_.out q5_) (fun _ _ _ h => h) (Or.inl ⟨by rfl, ?_⟩) ?_ ?_
  rotate_left
  · intro w'
    go_simp
    with_reducible rfl
  rotate_left
  · simp only [Act.put, sqa, sqb, sqc, i64_w, i32_w]
    rfl
  refine done_ (done_of HT_.out q5_) ?_
  try go_wp2
  first | go_roundg k1 | (refine Handed.intro k1 ?measure ?_; rotate_left; go_step; (repeat apply Exists.intro); simp only [add_plain]; refine ⟨?rel, rfl⟩)
  case measure => have := HK1.out; omega
  case rel => exact ⟨(wrap64 (x10_1 + 1)), q4_, H', ⟨by have := HK1.out; omega⟩, ⟨s6q8⟩⟩
 rw [if_pos c10] at H
 have c10b0 : decide (0 < x10_1) = true := decide_eq_true c10
 clear c10
 obtain ⟨ji11, hji11⟩ : ∃ j_ : Int, (wrap64 (x10_1 - 1)) = j_ := ⟨_, rfl⟩
 replace H : (if 0 ≤ (ji11) then (if (ji11) < (l1.length : Int) then ((kit_Compare.f ((rd_T100 l1 (ji11)).f0.f0) ((rd_T100 l1 (ji11)).f0.f1) ((rd_T100 l1 (ji11)).f0.f2) ((rd_T100 l1 x10_1).f0.f0) ((rd_T100 l1 x10_1).f0.f1) ((rd_T100 l1 x10_1).f0.f2)).bind fun t196 => (if t196 ≥ 0 then (some 8) else (cost_checkOften.l0 k1 a0 l1 l1 (l1.length : Int) (wrap64 (x10_1 + 1))))) else (none)) else (none)) = some r := by first | (rw [hji11] at H; exact H) | (simp only [hji11] at H ⊢; exact H)
 (try rw [hji11] at A6)
 (try rw [hji11] at A8)
 have hji11w : (IntKind.i64.wrap (x10_1 - 1)) = ji11 := (i64_w _).trans hji11
 by_cases c12 : 0 ≤ (ji11)
 case neg =>
  rw [if_neg c12] at H
  exact absurd H (by simp)
 rw [if_pos c12] at H
 have c12b0 : decide (0 ≤ (ji11)) = true := decide_eq_true c12
 clear c12
 by_cases c13 : (ji11) < (l1.length : Int)
 case neg =>
  rw [if_neg c13] at H
  exact absurd H (by simp)
 rw [if_pos c13] at H
 have c13b0 : decide ((ji11) < (l1.length : Int)) = true := decide_eq_true c13
 clear c13
 replace H := Option.bind_eq_some_iff.mp H
 obtain ⟨t196, A140, H⟩ := H
 replace H : (if t196 ≥ 0 then (some 8) else (cost_checkOften.l0 k1 a0 l1 l1 (l1.length : Int) (wrap64 (x10_1 + 1)))) = some r := H
 have A14 := aM A140
 clear A140
 by_cases c15 : t196 ≥ 0
 · rw [if_pos c15] at H
   have c15b0 : decide (0 ≤ t196) = true := decide_eq_true c15
   clear c15
   obtain rfl := Option.some.inj H
   have p191 : 0 ≤ (x10_1 : Int) := of_decide_eq_true q3_
   have q191 : x10_1 < (l1.length : Int) := of_decide_eq_true q3_
   obtain ⟨ad191, e191, hx191_0, hx191_1, hx191_2, hx191_3⟩ := at_T100 HR1.out x10_1 p191 q191
   cases e191
   replace hx191_0 := up_ HB.out hx191_0
   replace hx191_1 := up_ HB.out hx191_1
   replace hx191_2 := up_ HB.out hx191_2
   replace hx191_3 := up_ HB.out hx191_3
   replace p191 := eq_true p191
   replace q191 := eq_true q191
   try go_wp2_with (first | ((with_reducible refine gate_dst (N := 6) rfl ?_); refine box_event ?hg (N := 6) ?hd (cs := #[.int .i64 0, .int .i64 0, .string (⟨#[]⟩ : ByteArray), .int .i64 0]) (t := 100) ?hr ?_; (case hd => rfl); (case hg => rfl); (case hr => first | (go_simp; done) | (go_simp; rfl)); intro gb192 hg w16 hbox hb; have BK192 := aM hbox; have GW192 := aM (s6q11 : w.heap.size ≤ gb192); have GE192 := GW192; replace HB := aM (below_step q1_ hb); clear hb hbox hg; obtain ⟨hcz17_0, hcz17_1, hcz17_2, hcz17_3, hfz17_0, hfz17_1, hfz17_2, hfz17_3⟩ := cells4 BK192.out) | ((with_reducible refine gate_callee (f := 110) rfl ?_); refine goesL_ (some 18) rfl rfl Tryd.func110 q5_ rfl #[.int .i64 a0, .agg #[.int .i64 ((rd_T100 l1 x10_1).f0.f0), .int .i64 ((rd_T100 l1 x10_1).f0.f1), .string ((rd_T100 l1 x10_1).f0.f2)]] rfl q2_ ?_; (with_reducible refine (cost_checkValue.calls k1 a0 ((rd_T100 l1 x10_1).f0.f0) ((rd_T100 l1 x10_1).f0.f1) ((rd_T100 l1 x10_1).f0.f2) t193 _ A6.out).mono ?_); rintro e w18 ⟨rfl, hb⟩; refine ⟨_, rfl, ?_⟩; replace BK192 := aM (blk_below (g := gb192) (o := .cells #[.int .i64 ((rd_T100 l1 x10_1).f0.f0), .int .i64 ((rd_T100 l1 x10_1).f0.f1), .string ((rd_T100 l1 x10_1).f0.f2), .int .i64 ((rd_T100 l1 x10_1).f1)] 100 (0, 0)) s6q10 hb); replace HB := aM (below_step s6q8 hb); (try clear hb); (try clear hb2); (try clear hk); (try clear hi); obtain ⟨hcz19_0, hcz19_1, hcz19_2, hcz19_3, hfz19_0, hfz19_1, hfz19_2, hfz19_3⟩ := cells4 BK192.out) | ((with_reducible refine gate_callee (f := 41) rfl ?_); refine goesL_ (some 24) rfl rfl Tryd.func41 q5_ rfl #[.int .i64 ((rd_T100 l1 x10_1).f1), .int .i64 1, .int .i64 2000] rfl q2_ ?_; (with_reducible refine (kit_In.calls ((rd_T100 l1 x10_1).f1) 1 2000 true _ A8.out).mono ?_); rintro e w' ⟨rfl, ⟨nd, rfl⟩⟩; refine ⟨_, rfl, ?_⟩))
   (try (rw [drewN_self w18]; generalize hq_ : World.drewN w18 _ = w18; have n0_ : Aside0 (w18.heap[gb192]? = some (.cells #[.int .i64 ((rd_T100 l1 x10_1).f0.f0), .int .i64 ((rd_T100 l1 x10_1).f0.f1), .string ((rd_T100 l1 x10_1).f0.f2), .int .i64 ((rd_T100 l1 x10_1).f1)] 100 (0, 0))) := ⟨by rw [← hq_]; exact (blkR BK192.out)⟩; have n1_ : Aside0 (Below w.heap.size w w18) := ⟨by rw [← hq_]; exact s6q8⟩; clear BK192 HB hq_; have BK192 := n0_; have HB := n1_; clear n0_ n1_))
   have n0_ := aM (blk_drew BK192.out)
   have n1_ := aM (below_drew1 HB.out)
   clear BK192
   clear HB
   have BK192 := n0_
   have HB := n1_
   clear n0_ n1_
   have p195 : 0 ≤ ((ji11) : Int) := of_decide_eq_true q3_
   have q195 : (ji11) < (l1.length : Int) := of_decide_eq_true q3_
   obtain ⟨ad195, e195, hx195_0, hx195_1, hx195_2, hx195_3⟩ := at_T100 HR1.out (ji11) p195 q195
   have hw195_3 := hx195_3
   have hw195_2 := hx195_2
   have hw195_1 := hx195_1
   have hw195_0 := hx195_0
   obtain rfl : ad191 = ad195 := (by injection e195)
   replace hx195_0 := up_ HB.out hx195_0
   replace hx195_1 := up_ HB.out hx195_1
   replace hx195_2 := up_ HB.out hx195_2
   replace hx195_3 := up_ HB.out hx195_3
   replace p195 := eq_true p195
   replace q195 := eq_true q195
   refine start_ (n := 14) (S := fun w' => w'.cell? ⟨gb192, 0, none⟩ = some (.int .i64 ((rd_T100 l1 x10_1).f0.f0)) ∧ w'.cell? ⟨gb192, 1, none⟩ = some (.int .i64 ((rd_T100 l1 x10_1).f0.f1)) ∧ w'.cell? ⟨gb192, 2, none⟩ = some (.string ((rd_T100 l1 x10_1).f0.f2)) ∧ w'.cell? ⟨gb192, 3, none⟩ = some (.int .i64 ((rd_T100 l1 x10_1).f1)) ∧ w'.cell? (ad191.add (((ji11)).toNat * 4)) = some (.int .i64 ((rd_T100 l1 (ji11)).f0.f0)) ∧ w'.cell? ⟨(ad191.add (((ji11)).toNat * 4)).block, (ad191.add (((ji11)).toNat * 4)).off + 1, none⟩ = some (.int .i64 ((rd_T100 l1 (ji11)).f0.f1)) ∧ w'.cell? ⟨(ad191.add (((ji11)).toNat * 4)).block, (ad191.add (((ji11)).toNat * 4)).off + 2, none⟩ = some (.string ((rd_T100 l1 (ji11)).f0.f2)) ∧ w'.cell? ⟨(ad191.add (((ji11)).toNat * 4)).block, (ad191.add (((ji11)).toNat * 4)).off + 3, none⟩ = some (.int .i64 ((rd_T100 l1 (ji11)).f1))) (ds := []) #[fF, fF, fF, fF, fF, fF, fF, fF, fF, fF, fF, fF, fF, fF] q5_ rfl rfl ⟨(blk_cell BK192.out 0).trans rfl, (blk_cell BK192.out 1).trans rfl, (blk_cell BK192.out 2).trans rfl, (blk_cell BK192.out 3).trans rfl, (up_ HB.out hw195_0), (up_ HB.out hw195_1), (up_ HB.out hw195_2), (up_ HB.out hw195_3)⟩ (fun hHeld => ?_); refine with_tabW cost_checkOften.tab9 cost_checkOften.bits9 (fun HT_ HW_ => ?_)
   generalize w18.drew = w20 at BK192 HB hx195_0 hx195_1 hx195_2 hx195_3 hHeld ⊢
   refine pure_ (i := 0) (N := some 26) (v := ?_) (a' := ?_) #[tT, fF, fF, fF, fF, fF, fF, fF, fF, fF, fF, fF, fF, fF] rfl rfl (any_of HT_.out q5_) (fun _ _ _ h => h) (Or.inl ⟨by rfl, ?_⟩) ?_ ?_
   rotate_left
   · intro w'
     go_simp
     with_reducible rfl
   rotate_left
   · simp only [Act.put, sqa, sqb, sqc, i64_w, i32_w]
     rfl
   refine pure_ (i := 1) (N := some 27) (v := ?_) (a' := ?_) #[tT, tT, fF, fF, fF, fF, fF, fF, fF, fF, fF, fF, fF, fF] rfl rfl (any_of HT_.out q5_) (fun _ _ _ h => h) (Or.inl ⟨by rfl, ?_⟩) ?_ ?_
   rotate_left
   · intro w'
     go_simp
     with_reducible rfl
   rotate_left
   · simp only [Act.put, sqa, sqb, sqc, i64_w, i32_w]
     rfl
   refine pure_ (i := 2) (N := some 28) (v := ?_) (a' := ?_) #[tT, tT, tT, fF, fF, fF, fF, fF, fF, fF, fF, fF, fF, fF] rfl rfl (any_of HT_.out q5_) (fun _ _ _ h => h) (Or.inl ⟨by rfl, ?_⟩) ?_ ?_
   rotate_left
   · intro w'
     go_simp
     with_reducible rfl
   rotate_left
   · simp only [Act.put, sqa, sqb, sqc, i64_w, i32_w]
     rfl
   refine pure_ (i := 3) (N := some 29) (v := ?_) (a' := ?_) #[tT, tT, tT, tT, fF, fF, fF, fF, fF, fF, fF, fF, fF, fF] rfl rfl (any_of HT_.out q5_) (fun _ _ _ h => h) (Or.inl ⟨by rfl, ?_⟩) ?_ ?_
   rotate_left
   · intro w'
     go_simp
     with_reducible rfl
   rotate_left
   · simp only [Act.put, sqa, sqb, sqc, i64_w, i32_w]
     rfl
   refine pure_ (i := 4) (N := some 30) (v := ?_) (a' := ?_) #[tT, tT, tT, tT, tT, fF, fF, fF, fF, fF, fF, fF, fF, fF] rfl rfl (any_of HT_.out q5_) (fun _ _ _ h => h) (Or.inl ⟨by rfl, ?_⟩) ?_ ?_
   rotate_left
   · intro w'
     go_simp
     with_reducible rfl
   rotate_left
   · simp only [Act.put, sqa, sqb, sqc, i64_w, i32_w]
     rfl
   refine pure_ (i := 5) (N := some 31) (v := ?_) (a' := ?_) #[tT, tT, tT, tT, tT, tT, fF, fF, fF, fF, fF, fF, fF, fF] rfl rfl (any_of HT_.out q5_) (fun _ _ _ h => h) (Or.inl ⟨by rfl, ?_⟩) ?_ ?_
   rotate_left
   · intro w'
     go_simp
     with_reducible rfl
   rotate_left
   · simp only [Act.put, sqa, sqb, sqc, i64_w, i32_w]
     rfl
   refine pure_ (i := 6) (N := some 32) (v := ?_) (a' := ?_) #[tT, tT, tT, tT, tT, tT, tT, fF, fF, fF, fF, fF, fF, fF] rfl rfl (any_of HT_.out q5_) (fun _ _ _ h => h) (Or.inl ⟨by rfl, ?_⟩) ?_ ?_
   rotate_left
   · intro w'
     go_simp
     with_reducible rfl
   rotate_left
   · simp only [Act.put, sqa, sqb, sqc, i64_w, i32_w]
     rfl
   refine pure_ (i := 7) (N := some 33) (v := ?_) (a' := ?_) #[tT, tT, tT, tT, tT, tT, tT, tT, fF, fF, fF, fF, fF, fF] rfl rfl (any_of HT_.out q5_) (fun _ _ _ h => h) (Or.inl ⟨by rfl, ?_⟩) ?_ ?_
   rotate_left
   · intro w'
     go_simp
     with_reducible rfl
   rotate_left
   · simp only [Act.put, sqa, sqb, sqc, i64_w, i32_w]
     rfl
   refine pure_ (i := 9) (N := some 35) (v := ?_) (a' := ?_) #[tT, tT, tT, tT, tT, tT, tT, tT, fF, tT, fF, fF, fF, fF] rfl rfl (any_of HT_.out q5_) (fun _ _ _ h => h) (Or.inl ⟨by rfl, ?_⟩) ?_ ?_
   rotate_left
   · intro w'
     go_simp
     with_reducible rfl
   rotate_left
   · simp only [Act.put, sqa, sqb, sqc, i64_w, i32_w]
     rfl
   refine take_ (i := 8) (N := some 34) (v := ?_) (a' := ?_) #[tT, tT, tT, tT, tT, tT, tT, tT, tT, tT, fF, fF, fF, fF] rfl rfl (take_ofW HT_.out HW_.out q5_) (fun _ _ _ h => h) (Or.inl ⟨by rfl, ?_⟩) hHeld ?_ ?_
   rotate_left
   · rintro w' ⟨s0, s1, s2, s3, s4, s5, s6, s7⟩
     go_simp
     with_reducible rfl
   rotate_left
   · simp only [Act.put, sqa, sqb, sqc, i64_w, i32_w]
     rfl
   refine take_ (i := 10) (N := some 36) (v := ?_) (a' := ?_) #[tT, tT, tT, tT, tT, tT, tT, tT, tT, tT, tT, fF, fF, fF] rfl rfl (take_ofW HT_.out HW_.out q5_) (fun _ _ _ h => h) (Or.inl ⟨by rfl, ?_⟩) hHeld ?_ ?_
   rotate_left
   · rintro w' ⟨s0, s1, s2, s3, s4, s5, s6, s7⟩
     go_simp
     with_reducible rfl
   rotate_left
   · simp only [Act.put, sqa, sqb, sqc, i64_w, i32_w]
     rfl
   refine one_ (i := 11) (N := some 37) #[tT, tT, tT, tT, tT, tT, tT, tT, tT, tT, tT, tT, fF, fF] rfl rfl (one_of HT_.out q5_) (by decide) (fun K hK => ?_)
   refine goes_ Tryd.func97 q5_ rfl #[.agg #[.int .i64 ((rd_T100 l1 (ji11)).f0.f0), .int .i64 ((rd_T100 l1 (ji11)).f0.f1), .string ((rd_T100 l1 (ji11)).f0.f2)], .agg #[.int .i64 ((rd_T100 l1 x10_1).f0.f0), .int .i64 ((rd_T100 l1 x10_1).f0.f1), .string ((rd_T100 l1 x10_1).f0.f2)]] (by rfl) rfl rfl q8_ ?_
   with_reducible refine (kit_Compare.calls ((rd_T100 l1 (ji11)).f0.f0) ((rd_T100 l1 (ji11)).f0.f1) ((rd_T100 l1 (ji11)).f0.f2) ((rd_T100 l1 x10_1).f0.f0) ((rd_T100 l1 x10_1).f0.f1) ((rd_T100 l1 x10_1).f0.f2) t196 _ A14.out).mono ?_
   rintro e w21 ⟨rfl, hb⟩
   refine ⟨_, rfl, ?_⟩
   have n0_ := aM (bbR BK192.out hb)
   have n1_ := aM (below_step s6q8 hb)
   clear BK192
   clear HB
   have BK192 := n0_
   have HB := n1_
   clear n0_ n1_
   (try clear hb)
   (try clear hb2)
   (try clear hk)
   (try clear hi)
   refine hK.out _ _ ⟨(blk_cell BK192.out 0).trans rfl, (blk_cell BK192.out 1).trans rfl, (blk_cell BK192.out 2).trans rfl, (blk_cell BK192.out 3).trans rfl, (up_ HB.out hw195_0), (up_ HB.out hw195_1), (up_ HB.out hw195_2), (up_ HB.out hw195_3)⟩ (fun hHeld => ?_)
   clear hK K
   refine norm_ (a' := ?_) ?_ ?_
   rotate_left
   · show Act.put _ (some 37) _ = _
     simp only [Act.put, sqa, sqb, sqc, i64_w, i32_w]
     rfl
   refine pure_ (i := 12) (N := some 38) (v := ?_) (a' := ?_) #[tT, tT, tT, tT, tT, tT, tT, tT, tT, tT, tT, tT, tT, fF] rfl rfl (any_of HT_.out q5_) (fun _ _ _ h => h) (Or.inl ⟨by rfl, ?_⟩) ?_ ?_
   rotate_left
   · intro w'
     go_simp
     with_reducible rfl
   rotate_left
   · simp only [Act.put, sqa, sqb, sqc, i64_w, i32_w]
     rfl
   refine pure_ (i := 13) (N := some 39) (v := ?_) (a' := ?_) #[tT, tT, tT, tT, tT, tT, tT, tT, tT, tT, tT, tT, tT, tT] rfl rfl (any_of HT_.out q5_) (fun _ _ _ h => h) (Or.inl ⟨by rfl, ?_⟩) ?_ ?_
   rotate_left
   · intro w'
     go_simp
     with_reducible rfl
   rotate_left
   · simp only [Act.put, sqa, sqb, sqc, i64_w, i32_w]
     rfl
   refine done_ (done_of HT_.out q5_) ?_
   try go_wp2
   go_ret
   exact ⟨by first | rfl | (simp [errW_none, errW_some] <;> rfl) | (simp only [← hji11]; first | rfl | (simp [errW_none, errW_some] <;> rfl)) | (simp [*, errW_none, errW_some] <;> rfl), s6q8⟩
 rw [if_neg c15] at H
 have c15b0 : decide (0 ≤ t196) = false := decide_eq_false c15
 clear c15
 have H' := aM H
 clear H
 have p191 : 0 ≤ (x10_1 : Int) := of_decide_eq_true q3_
 have q191 : x10_1 < (l1.length : Int) := of_decide_eq_true q3_
 obtain ⟨ad191, e191, hx191_0, hx191_1, hx191_2, hx191_3⟩ := at_T100 HR1.out x10_1 p191 q191
 cases e191
 replace hx191_0 := up_ HB.out hx191_0
 replace hx191_1 := up_ HB.out hx191_1
 replace hx191_2 := up_ HB.out hx191_2
 replace hx191_3 := up_ HB.out hx191_3
 replace p191 := eq_true p191
 replace q191 := eq_true q191
 try go_wp2_with (first | ((with_reducible refine gate_dst (N := 6) rfl ?_); refine box_event ?hg (N := 6) ?hd (cs := #[.int .i64 0, .int .i64 0, .string (⟨#[]⟩ : ByteArray), .int .i64 0]) (t := 100) ?hr ?_; (case hd => rfl); (case hg => rfl); (case hr => first | (go_simp; done) | (go_simp; rfl)); intro gb192 hg w22 hbox hb; have BK192 := aM hbox; have GW192 := aM (s6q11 : w.heap.size ≤ gb192); have GE192 := GW192; replace HB := aM (below_step q1_ hb); clear hb hbox hg; obtain ⟨hcz23_0, hcz23_1, hcz23_2, hcz23_3, hfz23_0, hfz23_1, hfz23_2, hfz23_3⟩ := cells4 BK192.out) | ((with_reducible refine gate_callee (f := 110) rfl ?_); refine goesL_ (some 18) rfl rfl Tryd.func110 q5_ rfl #[.int .i64 a0, .agg #[.int .i64 ((rd_T100 l1 x10_1).f0.f0), .int .i64 ((rd_T100 l1 x10_1).f0.f1), .string ((rd_T100 l1 x10_1).f0.f2)]] rfl q2_ ?_; (with_reducible refine (cost_checkValue.calls k1 a0 ((rd_T100 l1 x10_1).f0.f0) ((rd_T100 l1 x10_1).f0.f1) ((rd_T100 l1 x10_1).f0.f2) t193 _ A6.out).mono ?_); rintro e w24 ⟨rfl, hb⟩; refine ⟨_, rfl, ?_⟩; replace BK192 := aM (blk_below (g := gb192) (o := .cells #[.int .i64 ((rd_T100 l1 x10_1).f0.f0), .int .i64 ((rd_T100 l1 x10_1).f0.f1), .string ((rd_T100 l1 x10_1).f0.f2), .int .i64 ((rd_T100 l1 x10_1).f1)] 100 (0, 0)) s6q10 hb); replace HB := aM (below_step s6q8 hb); (try clear hb); (try clear hb2); (try clear hk); (try clear hi); obtain ⟨hcz25_0, hcz25_1, hcz25_2, hcz25_3, hfz25_0, hfz25_1, hfz25_2, hfz25_3⟩ := cells4 BK192.out) | ((with_reducible refine gate_callee (f := 41) rfl ?_); refine goesL_ (some 24) rfl rfl Tryd.func41 q5_ rfl #[.int .i64 ((rd_T100 l1 x10_1).f1), .int .i64 1, .int .i64 2000] rfl q2_ ?_; (with_reducible refine (kit_In.calls ((rd_T100 l1 x10_1).f1) 1 2000 true _ A8.out).mono ?_); rintro e w' ⟨rfl, ⟨nd, rfl⟩⟩; refine ⟨_, rfl, ?_⟩))
 (try (rw [drewN_self w24]; generalize hq_ : World.drewN w24 _ = w24; have n0_ : Aside0 (w24.heap[gb192]? = some (.cells #[.int .i64 ((rd_T100 l1 x10_1).f0.f0), .int .i64 ((rd_T100 l1 x10_1).f0.f1), .string ((rd_T100 l1 x10_1).f0.f2), .int .i64 ((rd_T100 l1 x10_1).f1)] 100 (0, 0))) := ⟨by rw [← hq_]; exact (blkR BK192.out)⟩; have n1_ : Aside0 (Below w.heap.size w w24) := ⟨by rw [← hq_]; exact s6q8⟩; clear BK192 HB hq_; have BK192 := n0_; have HB := n1_; clear n0_ n1_))
 have n0_ := aM (blk_drew BK192.out)
 have n1_ := aM (below_drew1 HB.out)
 clear BK192
 clear HB
 have BK192 := n0_
 have HB := n1_
 clear n0_ n1_
 have p195 : 0 ≤ ((ji11) : Int) := of_decide_eq_true q3_
 have q195 : (ji11) < (l1.length : Int) := of_decide_eq_true q3_
 obtain ⟨ad195, e195, hx195_0, hx195_1, hx195_2, hx195_3⟩ := at_T100 HR1.out (ji11) p195 q195
 have hw195_3 := hx195_3
 have hw195_2 := hx195_2
 have hw195_1 := hx195_1
 have hw195_0 := hx195_0
 obtain rfl : ad191 = ad195 := (by injection e195)
 replace hx195_0 := up_ HB.out hx195_0
 replace hx195_1 := up_ HB.out hx195_1
 replace hx195_2 := up_ HB.out hx195_2
 replace hx195_3 := up_ HB.out hx195_3
 replace p195 := eq_true p195
 replace q195 := eq_true q195
 refine start_ (n := 14) (S := fun w' => w'.cell? ⟨gb192, 0, none⟩ = some (.int .i64 ((rd_T100 l1 x10_1).f0.f0)) ∧ w'.cell? ⟨gb192, 1, none⟩ = some (.int .i64 ((rd_T100 l1 x10_1).f0.f1)) ∧ w'.cell? ⟨gb192, 2, none⟩ = some (.string ((rd_T100 l1 x10_1).f0.f2)) ∧ w'.cell? ⟨gb192, 3, none⟩ = some (.int .i64 ((rd_T100 l1 x10_1).f1)) ∧ w'.cell? (ad191.add (((ji11)).toNat * 4)) = some (.int .i64 ((rd_T100 l1 (ji11)).f0.f0)) ∧ w'.cell? ⟨(ad191.add (((ji11)).toNat * 4)).block, (ad191.add (((ji11)).toNat * 4)).off + 1, none⟩ = some (.int .i64 ((rd_T100 l1 (ji11)).f0.f1)) ∧ w'.cell? ⟨(ad191.add (((ji11)).toNat * 4)).block, (ad191.add (((ji11)).toNat * 4)).off + 2, none⟩ = some (.string ((rd_T100 l1 (ji11)).f0.f2)) ∧ w'.cell? ⟨(ad191.add (((ji11)).toNat * 4)).block, (ad191.add (((ji11)).toNat * 4)).off + 3, none⟩ = some (.int .i64 ((rd_T100 l1 (ji11)).f1))) (ds := []) #[fF, fF, fF, fF, fF, fF, fF, fF, fF, fF, fF, fF, fF, fF] q5_ rfl rfl ⟨(blk_cell BK192.out 0).trans rfl, (blk_cell BK192.out 1).trans rfl, (blk_cell BK192.out 2).trans rfl, (blk_cell BK192.out 3).trans rfl, (up_ HB.out hw195_0), (up_ HB.out hw195_1), (up_ HB.out hw195_2), (up_ HB.out hw195_3)⟩ (fun hHeld => ?_); refine with_tabW cost_checkOften.tab9 cost_checkOften.bits9 (fun HT_ HW_ => ?_)
 generalize w24.drew = w26 at BK192 HB hx195_0 hx195_1 hx195_2 hx195_3 hHeld ⊢
 refine pure_ (i := 0) (N := some 26) (v := ?_) (a' := ?_) #[tT, fF, fF, fF, fF, fF, fF, fF, fF, fF, fF, fF, fF, fF] rfl rfl (any_of HT_.out q5_) (fun _ _ _ h => h) (Or.inl ⟨by rfl, ?_⟩) ?_ ?_
 rotate_left
 · intro w'
   go_simp
   with_reducible rfl
 rotate_left
 · simp only [Act.put, sqa, sqb, sqc, i64_w, i32_w]
   rfl
 refine pure_ (i := 1) (N := some 27) (v := ?_) (a' := ?_) #[tT, tT, fF, fF, fF, fF, fF, fF, fF, fF, fF, fF, fF, fF] rfl rfl (any_of HT_.out q5_) (fun _ _ _ h => h) (Or.inl ⟨by rfl, ?_⟩) ?_ ?_
 rotate_left
 · intro w'
   go_simp
   with_reducible rfl
 rotate_left
 · simp only [Act.put, sqa, sqb, sqc, i64_w, i32_w]
   rfl
 refine pure_ (i := 2) (N := some 28) (v := ?_) (a' := ?_) #[tT, tT, tT, fF, fF, fF, fF, fF, fF, fF, fF, fF, fF, fF] rfl rfl (any_of HT_.out q5_) (fun _ _ _ h => h) (Or.inl ⟨by rfl, ?_⟩) ?_ ?_
 rotate_left
 · intro w'
   go_simp
   with_reducible rfl
 rotate_left
 · simp only [Act.put, sqa, sqb, sqc, i64_w, i32_w]
   rfl
 refine pure_ (i := 3) (N := some 29) (v := ?_) (a' := ?_) #[tT, tT, tT, tT, fF, fF, fF, fF, fF, fF, fF, fF, fF, fF] rfl rfl (any_of HT_.out q5_) (fun _ _ _ h => h) (Or.inl ⟨by rfl, ?_⟩) ?_ ?_
 rotate_left
 · intro w'
   go_simp
   with_reducible rfl
 rotate_left
 · simp only [Act.put, sqa, sqb, sqc, i64_w, i32_w]
   rfl
 refine pure_ (i := 4) (N := some 30) (v := ?_) (a' := ?_) #[tT, tT, tT, tT, tT, fF, fF, fF, fF, fF, fF, fF, fF, fF] rfl rfl (any_of HT_.out q5_) (fun _ _ _ h => h) (Or.inl ⟨by rfl, ?_⟩) ?_ ?_
 rotate_left
 · intro w'
   go_simp
   with_reducible rfl
 rotate_left
 · simp only [Act.put, sqa, sqb, sqc, i64_w, i32_w]
   rfl
 refine pure_ (i := 5) (N := some 31) (v := ?_) (a' := ?_) #[tT, tT, tT, tT, tT, tT, fF, fF, fF, fF, fF, fF, fF, fF] rfl rfl (any_of HT_.out q5_) (fun _ _ _ h => h) (Or.inl ⟨by rfl, ?_⟩) ?_ ?_
 rotate_left
 · intro w'
   go_simp
   with_reducible rfl
 rotate_left
 · simp only [Act.put, sqa, sqb, sqc, i64_w, i32_w]
   rfl
 refine pure_ (i := 6) (N := some 32) (v := ?_) (a' := ?_) #[tT, tT, tT, tT, tT, tT, tT, fF, fF, fF, fF, fF, fF, fF] rfl rfl (any_of HT_.out q5_) (fun _ _ _ h => h) (Or.inl ⟨by rfl, ?_⟩) ?_ ?_
 rotate_left
 · intro w'
   go_simp
   with_reducible rfl
 rotate_left
 · simp only [Act.put, sqa, sqb, sqc, i64_w, i32_w]
   rfl
 refine pure_ (i := 7) (N := some 33) (v := ?_) (a' := ?_) #[tT, tT, tT, tT, tT, tT, tT, tT, fF, fF, fF, fF, fF, fF] rfl rfl (any_of HT_.out q5_) (fun _ _ _ h => h) (Or.inl ⟨by rfl, ?_⟩) ?_ ?_
 rotate_left
 · intro w'
   go_simp
   with_reducible rfl
 rotate_left
 · simp only [Act.put, sqa, sqb, sqc, i64_w, i32_w]
   rfl
 refine pure_ (i := 9) (N := some 35) (v := ?_) (a' := ?_) #[tT, tT, tT, tT, tT, tT, tT, tT, fF, tT, fF, fF, fF, fF] rfl rfl (any_of HT_.out q5_) (fun _ _ _ h => h) (Or.inl ⟨by rfl, ?_⟩) ?_ ?_
 rotate_left
 · intro w'
   go_simp
   with_reducible rfl
 rotate_left
 · simp only [Act.put, sqa, sqb, sqc, i64_w, i32_w]
   rfl
 refine take_ (i := 8) (N := some 34) (v := ?_) (a' := ?_) #[tT, tT, tT, tT, tT, tT, tT, tT, tT, tT, fF, fF, fF, fF] rfl rfl (take_ofW HT_.out HW_.out q5_) (fun _ _ _ h => h) (Or.inl ⟨by rfl, ?_⟩) hHeld ?_ ?_
 rotate_left
 · rintro w' ⟨s0, s1, s2, s3, s4, s5, s6, s7⟩
   go_simp
   with_reducible rfl
 rotate_left
 · simp only [Act.put, sqa, sqb, sqc, i64_w, i32_w]
   rfl
 refine take_ (i := 10) (N := some 36) (v := ?_) (a' := ?_) #[tT, tT, tT, tT, tT, tT, tT, tT, tT, tT, tT, fF, fF, fF] rfl rfl (take_ofW HT_.out HW_.out q5_) (fun _ _ _ h => h) (Or.inl ⟨by rfl, ?_⟩) hHeld ?_ ?_
 rotate_left
 · rintro w' ⟨s0, s1, s2, s3, s4, s5, s6, s7⟩
   go_simp
   with_reducible rfl
 rotate_left
 · simp only [Act.put, sqa, sqb, sqc, i64_w, i32_w]
   rfl
 refine one_ (i := 11) (N := some 37) #[tT, tT, tT, tT, tT, tT, tT, tT, tT, tT, tT, tT, fF, fF] rfl rfl (one_of HT_.out q5_) (by decide) (fun K hK => ?_)
 refine goes_ Tryd.func97 q5_ rfl #[.agg #[.int .i64 ((rd_T100 l1 (ji11)).f0.f0), .int .i64 ((rd_T100 l1 (ji11)).f0.f1), .string ((rd_T100 l1 (ji11)).f0.f2)], .agg #[.int .i64 ((rd_T100 l1 x10_1).f0.f0), .int .i64 ((rd_T100 l1 x10_1).f0.f1), .string ((rd_T100 l1 x10_1).f0.f2)]] (by rfl) rfl rfl q8_ ?_
 with_reducible refine (kit_Compare.calls ((rd_T100 l1 (ji11)).f0.f0) ((rd_T100 l1 (ji11)).f0.f1) ((rd_T100 l1 (ji11)).f0.f2) ((rd_T100 l1 x10_1).f0.f0) ((rd_T100 l1 x10_1).f0.f1) ((rd_T100 l1 x10_1).f0.f2) t196 _ A14.out).mono ?_
 rintro e w27 ⟨rfl, hb⟩
 refine ⟨_, rfl, ?_⟩
 have n0_ := aM (bbR BK192.out hb)
 have n1_ := aM (below_step s6q8 hb)
 clear BK192
 clear HB
 have BK192 := n0_
 have HB := n1_
 clear n0_ n1_
 (try clear hb)
 (try clear hb2)
 (try clear hk)
 (try clear hi)
 refine hK.out _ _ ⟨(blk_cell BK192.out 0).trans rfl, (blk_cell BK192.out 1).trans rfl, (blk_cell BK192.out 2).trans rfl, (blk_cell BK192.out 3).trans rfl, (up_ HB.out hw195_0), (up_ HB.out hw195_1), (up_ HB.out hw195_2), (up_ HB.out hw195_3)⟩ (fun hHeld => ?_)
 clear hK K
 refine norm_ (a' := ?_) ?_ ?_
 rotate_left
 · show Act.put _ (some 37) _ = _
   simp only [Act.put, sqa, sqb, sqc, i64_w, i32_w]
   rfl
 refine pure_ (i := 12) (N := some 38) (v := ?_) (a' := ?_) #[tT, tT, tT, tT, tT, tT, tT, tT, tT, tT, tT, tT, tT, fF] rfl rfl (any_of HT_.out q5_) (fun _ _ _ h => h) (Or.inl ⟨by rfl, ?_⟩) ?_ ?_
 rotate_left
 · intro w'
   go_simp
   with_reducible rfl
 rotate_left
 · simp only [Act.put, sqa, sqb, sqc, i64_w, i32_w]
   rfl
 refine pure_ (i := 13) (N := some 39) (v := ?_) (a' := ?_) #[tT, tT, tT, tT, tT, tT, tT, tT, tT, tT, tT, tT, tT, tT] rfl rfl (any_of HT_.out q5_) (fun _ _ _ h => h) (Or.inl ⟨by rfl, ?_⟩) ?_ ?_
 rotate_left
 · intro w'
   go_simp
   with_reducible rfl
 rotate_left
 · simp only [Act.put, sqa, sqb, sqc, i64_w, i32_w]
   rfl
 refine done_ (done_of HT_.out q5_) ?_
 try go_wp2
 first | go_roundg k1 | (refine Handed.intro k1 ?measure ?_; rotate_left; go_step; (repeat apply Exists.intro); simp only [add_plain]; refine ⟨?rel, rfl⟩)
 case measure => have := HK1.out; omega
 case rel => exact ⟨(wrap64 (x10_1 + 1)), q4_, H', ⟨by have := HK1.out; omega⟩, ⟨s6q8⟩⟩
/-! ### kit_First: function 93 -/
def kit_First.l0 : Nat → List Int → Int → Int → Option (Int)
  | 0, _, _, _ => none
  | k + 1, x5, x6, x7 => if x7 < x6 then (if 0 ≤ x7 then (if x7 < (x5.length : Int) then (if (rd x5 x7) = 0 then (kit_First.l0 k x5 x6 (wrap64 (x7 + 1))) else (some (rd x5 x7))) else (none)) else (none)) else (some 0)
def kit_First.f (k : Nat) (l0 : List Int) : Option (Int) := kit_First.l0 k l0 (l0.length : Int) 0
theorem kit_First.mono_l : ∀ k, (∀ y0 y1 y2, LeO (kit_First.l0 k y0 y1 y2) (kit_First.l0 (k + 1) y0 y1 y2))
  | 0 => fun _ _ _ r h => by simp [kit_First.l0] at h
  | k + 1 => by
    have ih0 := kit_First.mono_l k
    · intro y0 y1 y2
      unfold kit_First.l0
      repeat' first | (with_reducible exact ih0 _ _ _) | (with_reducible exact LeO.refl _) | (with_reducible exact LeO.none _) | (with_reducible refine LeO.ite ?_ ?_) | (with_reducible refine LeO.bind ?_ (fun _ => ?_)) | exact ih0 _ _ _ | exact LeO.none _ | refine LeO.ite ?_ ?_ | refine LeO.bind ?_ (fun _ => ?_)
theorem kit_First.mono : ∀ a0 k, LeO (kit_First.f k a0) (kit_First.f (k + 1) a0) := by
 intro a0 k
 have ih0 := kit_First.mono_l k
 unfold kit_First.f
 repeat' first
  | (with_reducible exact ih0 _ _ _)
  | (with_reducible exact LeO.refl _)
  | (with_reducible exact LeO.none _)
  | (with_reducible refine LeO.ite ?_ ?_)
  | (with_reducible refine LeO.bind ?_ (fun _ => ?_))
  | exact ih0 _ _ _
  | exact LeO.none _
  | refine LeO.ite ?_ ?_
  | refine LeO.bind ?_ (fun _ => ?_)
set_option maxHeartbeats 8000000 in
set_option maxRecDepth 100000 in
theorem kit_First.calls (k : Nat) (A0 : Option Addr) (c0 : Nat) (l0 : List Int) (r : Int) (w : World) (hr0 : Kd.C (Kd.int .i64) w A0 l0.length l0) (hc0 : l0.length ≤ c0) (h : kit_First.f k l0 = some r) :
    Calls Tryd.prog 93 #[.slice A0 l0.length c0] w fun e w' => e = .returned (.int .i64 r) ∧ Drawn0 w w' := by
 have HR0 := aM hr0
 have HC0 := aM hc0
 clear hr0 hc0
 have H : (kit_First.l0 k l0 (l0.length : Int) 0) = some r := h
 clear h
 have H' := aM H
 clear H
 go_enter Tryd.func93, Tryd.ntmps93
 go_wp2
 go_loopg [7] k (fun kq v7 w' => ∃ (x7_1 : Int), v7 = .int .i64 x7_1 ∧ Aside0 (kit_First.l0 kq l0 (l0.length : Int) x7_1 = some r) ∧ Aside0 (kq ≤ k) ∧ Drawn0 w w')
 case atStart => exact ⟨(0), q4_, H', ⟨Nat.le_refl _⟩, by repeat (first | exact Drawn0.refl _ | apply Drawn0.step)⟩
 clear H'
 obtain ⟨x7_1, rfl, HA, HK1, ⟨m1, rfl⟩⟩ := hrel
 cases gk with
 | zero => exact absurd HA.out (by simp [kit_First.l0])
 | succ k1 => ?_
 have H := HA.out
 clear HA
 simp only [kit_First.l0] at H
 by_cases c2 : x7_1 < (l0.length : Int)
 case neg =>
  rw [if_neg c2] at H
  have c2b0 : decide (x7_1 < (l0.length : Int)) = false := decide_eq_false c2
  clear c2
  obtain rfl := Option.some.inj H
  go_wp2
  go_ret
  exact ⟨by first | rfl | (simp; done) | (simp [*]; done), by repeat (first | exact Drawn0.refl _ | apply Drawn0.step)⟩
 rw [if_pos c2] at H
 have c2b0 : decide (x7_1 < (l0.length : Int)) = true := decide_eq_true c2
 clear c2
 by_cases c3 : 0 ≤ x7_1
 case neg =>
  rw [if_neg c3] at H
  exact absurd H (by simp)
 rw [if_pos c3] at H
 have c3b0 : decide (0 ≤ x7_1) = true := decide_eq_true c3
 clear c3
 by_cases c4 : x7_1 < (l0.length : Int)
 case neg =>
  rw [if_neg c4] at H
  exact absurd H (by simp)
 rw [if_pos c4] at H
 have c4b0 : decide (x7_1 < (l0.length : Int)) = true := decide_eq_true c4
 clear c4
 by_cases c5 : (rd l0 x7_1) = 0
 case neg =>
  rw [if_neg c5] at H
  have c5b0 : ((rd l0 x7_1) == 0) = false := beq_eq_false_iff_ne.mpr c5
  have c5b1 : ((rd l0 x7_1) != 0) = true := bne_iff_ne.mpr c5
  obtain rfl := Option.some.inj H
  have p197 : 0 ≤ (x7_1 : Int) := of_decide_eq_true q3_
  have q197 : x7_1 < (l0.length : Int) := of_decide_eq_true q3_
  obtain ⟨ad197, e197, hx197_0⟩ := Kd.at_int HR0.out x7_1 p197 q197
  cases e197
  replace p197 := eq_true p197
  replace q197 := eq_true q197
  go_wp2
  go_ret
  exact ⟨by first | rfl | (simp; done) | (simp [*]; done), by repeat (first | exact Drawn0.refl _ | apply Drawn0.step)⟩
 rw [if_pos c5] at H
 have c5b0 : ((rd l0 x7_1) == 0) = true := beq_iff_eq.mpr c5
 have c5b1 : ((rd l0 x7_1) != 0) = false := bne_eq_false_iff_eq.mpr c5
 clear c5
 have H' := aM H
 clear H
 have p197 : 0 ≤ (x7_1 : Int) := of_decide_eq_true q3_
 have q197 : x7_1 < (l0.length : Int) := of_decide_eq_true q3_
 obtain ⟨ad197, e197, hx197_0⟩ := Kd.at_int HR0.out x7_1 p197 q197
 cases e197
 replace p197 := eq_true p197
 replace q197 := eq_true q197
 go_wp2
 first | go_roundg k1 | (refine Handed.intro k1 ?measure ?_; rotate_left; go_step; (repeat apply Exists.intro); simp only [add_plain]; refine ⟨?rel, rfl⟩)
 case measure => have := HK1.out; omega
 case rel => exact ⟨(wrap64 (x7_1 + 1)), q4_, H', ⟨by have := HK1.out; omega⟩, by repeat (first | exact Drawn0.refl _ | apply Drawn0.step)⟩
end Go.Proofs.YtgcijejmmhjibaaDoor.J
