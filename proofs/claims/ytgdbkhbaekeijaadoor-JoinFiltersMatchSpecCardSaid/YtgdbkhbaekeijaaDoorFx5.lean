-- Printed by a program of this session (a patched print).
import Derived.Test.YtgdbkhbaekeijaaDoorFx0
import Derived.Test.YtgdbkhbaekeijaaDoorFx4
namespace Go.Proofs.YtgdbkhbaekeijaaDoor.F
open Go.RowKit Go.Proofs.YtgdbkhbaekeijaaDoorW.PrintWords Go.Proofs.YtgdbkhbaekeijaaDoorW.PrintLast Go.Proofs.YtgdbkhbaekeijaaDoorW.PrintMore
attribute [local go_sem] max2_int min2_int max_two min_two max_three min_three max_four min_four   -- for this text's walks alone
set_option linter.unusedVariables false
set_option linter.unusedSimpArgs false

theorem s5q0 {p : Prop} (h : p := by first | rfl | (simp; done) | (simp [*]; done)) : p := h
theorem s5q1 {p : Prop} (h : p := by first | (with_reducible assumption) | assumption) : p := h
theorem s5q2 {p : Prop} (h : p := by repeat (first | (with_reducible first | exact HB.out | apply below_alloc | apply pw_below_drewN | apply below_drew1) | exact HB.out)) : p := h
theorem s5q3 {p : Prop} (h : p := by (try simp only [List.map_toArray, List.map_cons, List.map_nil]); first | done | rfl | (simp only [List.length_drop, List.length_take]; rfl)) : p := h
theorem s5q4 {p : Prop} (h : p := by repeat (first | (with_reducible first | exact HB.out | apply below_alloc | apply pw_below_drewN | apply below_drew1 | refine below_set ?_ GE155.out) | exact HB.out)) : p := h
theorem s5q5 {p : Prop} (h : p := by (with_reducible repeat (first | refine blk_drewN ?_ _ | refine blk_drew ?_ | refine blk_alloc ?_ _)); refine blk_put (cs := #[.int .i64 ((rd_T54 l0 x10_1).f0), .int .i64 ((rd_T54 l0 x10_1).f1), .string (⟨#[]⟩ : ByteArray)]) ?_ 2 _ rfl; (with_reducible repeat (first | refine blk_drewN ?_ _ | refine blk_drew ?_ | refine blk_alloc ?_ _)); refine blk_put (cs := #[.int .i64 ((rd_T54 l0 x10_1).f0), .int .i64 0, .string (⟨#[]⟩ : ByteArray)]) ?_ 1 _ rfl; (with_reducible repeat (first | refine blk_drewN ?_ _ | refine blk_drew ?_ | refine blk_alloc ?_ _)); refine blk_put (cs := #[.int .i64 0, .int .i64 0, .string (⟨#[]⟩ : ByteArray)]) ?_ 0 _ rfl; (with_reducible repeat (first | refine blk_drewN ?_ _ | refine blk_drew ?_ | refine blk_alloc ?_ _)); exact BK155.out) : p := h
theorem s5q6 {p : Prop} (h : p := by rw [hg]; exact (below_size s5q2)) : p := h
/-! ### join_text: function 26 -/
def join_text.l0 : Nat → ByteArray → List (S54) → Int → Int → Option (ByteArray)
  | 0, _, _, _, _ => none
  | k + 1, x3, x8, x9, x10 => if x10 < x9 then (if 0 ≤ x10 then (if x10 < (x8.length : Int) then (if x10 > 0 then (if x3.size + 1 ≤ 9223372036854775807 then ((value_TextOf.f k ((rd_T54 x8 x10).f0) ((rd_T54 x8 x10).f1) ((rd_T54 x8 x10).f2)).bind fun bt156 => (if x3.size + 1 + bt156.1.size ≤ 9223372036854775807 then (join_text.l0 k ((x3 ++ (⟨#[44]⟩ : ByteArray)) ++ bt156.1) x8 x9 (wrap64 (x10 + 1))) else (none))) else (none)) else ((value_TextOf.f k ((rd_T54 x8 x10).f0) ((rd_T54 x8 x10).f1) ((rd_T54 x8 x10).f2)).bind fun bt158 => (if x3.size + bt158.1.size ≤ 9223372036854775807 then (join_text.l0 k (x3 ++ bt158.1) x8 x9 (wrap64 (x10 + 1))) else (none)))) else (none)) else (none)) else (some x3)
def join_text.f (k : Nat) (l0 : List (S54)) : Option (ByteArray) := join_text.l0 k (⟨#[]⟩ : ByteArray) l0 (l0.length : Int) 0
theorem join_text.mono_l : ∀ k, (∀ y0 y1 y2 y3, LeO (join_text.l0 k y0 y1 y2 y3) (join_text.l0 (k + 1) y0 y1 y2 y3))
  | 0 => fun _ _ _ _ r h => by simp [join_text.l0] at h
  | k + 1 => by
    have ih0 := join_text.mono_l k
    · intro y0 y1 y2 y3
      unfold join_text.l0
      repeat' first | (with_reducible exact ih0 _ _ _ _) | (with_reducible exact value_TextOf.mono _ _ _ _) | (with_reducible exact LeO.refl _) | (with_reducible exact LeO.none _) | (with_reducible refine LeO.ite ?_ ?_) | (with_reducible refine LeO.bind ?_ (fun _ => ?_)) | exact ih0 _ _ _ _ | exact value_TextOf.mono _ _ _ _ | exact LeO.none _ | refine LeO.ite ?_ ?_ | refine LeO.bind ?_ (fun _ => ?_)
theorem join_text.mono : ∀ a0 k, LeO (join_text.f k a0) (join_text.f (k + 1) a0) := by
 intro a0 k
 have ih0 := join_text.mono_l k
 unfold join_text.f
 repeat' first
  | (with_reducible exact ih0 _ _ _ _)
  | (with_reducible exact value_TextOf.mono _ _ _ _)
  | (with_reducible exact LeO.refl _)
  | (with_reducible exact LeO.none _)
  | (with_reducible refine LeO.ite ?_ ?_)
  | (with_reducible refine LeO.bind ?_ (fun _ => ?_))
  | exact ih0 _ _ _ _
  | exact value_TextOf.mono _ _ _ _
  | exact LeO.none _
  | refine LeO.ite ?_ ?_
  | refine LeO.bind ?_ (fun _ => ?_)
set_option maxHeartbeats 8000000 in
set_option maxRecDepth 100000 in
theorem join_text.calls (k : Nat) (A0 : Option Addr) (c0 : Nat) (l0 : List (S54)) (r : ByteArray) (w : World) (hr0 : Kd.C k54 w A0 l0.length l0) (hc0 : l0.length ≤ c0) (hG : Glob w) (h : join_text.f k l0 = some r) :
    Calls Tryd.prog 26 #[.slice A0 l0.length c0] w fun e w' => e = .returned (.string r) ∧ Below w.heap.size w w' := by
 have hu54 := Tryd.underlying54
 have HG := Aside0.mk hG
 clear hG
 have HR0 := Aside0.mk hr0
 have HC0 := Aside0.mk hc0
 clear hr0 hc0
 have HB := Aside0.mk (Below.refl w.heap.size w)
 have H : (join_text.l0 k (⟨#[]⟩ : ByteArray) l0 (l0.length : Int) 0) = some r := h
 clear h
 have H' := Aside0.mk H
 clear H
 go_enter Tryd.func26, Tryd.ntmps26
 go_wp2
 go_loopg [3, 10] k (fun kq v3 v10 w' => ∃ (x3_1 : ByteArray) (x10_1 : Int), v3 = .string x3_1 ∧ v10 = .int .i64 x10_1 ∧ Aside0 (join_text.l0 kq x3_1 l0 (l0.length : Int) x10_1 = some r) ∧ Aside0 (kq ≤ k) ∧ Aside0 (Below w.heap.size w w'))
 case atStart => exact ⟨((⟨#[]⟩ : ByteArray)), (0), s5q0, s5q0, H', ⟨Nat.le_refl _⟩, ⟨by repeat (first | (with_reducible first | exact HB.out | apply below_alloc | apply pw_below_drewN | apply below_drew1) | exact HB.out)⟩⟩
 clear H'
 obtain ⟨x3_1, x10_1, rfl, rfl, HA, HK1, HB⟩ := hrel
 cases gk with
 | zero => exact absurd HA.out (by simp [join_text.l0])
 | succ k1 => ?_
 have H := HA.out
 clear HA
 simp only [join_text.l0] at H
 by_cases c2 : x10_1 < (l0.length : Int)
 case neg =>
  rw [if_neg c2] at H
  have c2b0 : decide (x10_1 < (l0.length : Int)) = false := decide_eq_false c2
  clear c2
  obtain rfl := Option.some.inj H
  go_wp2
  go_ret
  exact ⟨by first | rfl | (simp [errW_none, errW_some] <;> rfl) | (simp [*, errW_none, errW_some] <;> rfl), by repeat (first | (with_reducible first | exact HB.out | apply below_alloc | apply pw_below_drewN | apply below_drew1) | exact HB.out)⟩
 rw [if_pos c2] at H
 have c2b0 : decide (x10_1 < (l0.length : Int)) = true := decide_eq_true c2
 clear c2
 by_cases c3 : 0 ≤ x10_1
 case neg =>
  rw [if_neg c3] at H
  exact absurd H (by simp)
 rw [if_pos c3] at H
 have c3b0 : decide (0 ≤ x10_1) = true := decide_eq_true c3
 clear c3
 by_cases c4 : x10_1 < (l0.length : Int)
 case neg =>
  rw [if_neg c4] at H
  exact absurd H (by simp)
 rw [if_pos c4] at H
 have c4b0 : decide (x10_1 < (l0.length : Int)) = true := decide_eq_true c4
 clear c4
 by_cases c5 : x10_1 > 0
 case neg =>
  rw [if_neg c5] at H
  have c5b0 : decide (0 < x10_1) = false := decide_eq_false c5
  clear c5
  replace H := Option.bind_eq_some_iff.mp H
  obtain ⟨⟨t158, t159⟩, A120, H⟩ := H
  replace H : (if x3_1.size + t158.size ≤ 9223372036854775807 then (join_text.l0 k1 (x3_1 ++ t158) l0 (l0.length : Int) (wrap64 (x10_1 + 1))) else (none)) = some r := H
  have A12 := Aside0.mk A120
  clear A120
  by_cases c13 : x3_1.size + t158.size ≤ 9223372036854775807
  case neg =>
   rw [if_neg c13] at H
   exact absurd H (by simp)
  rw [if_pos c13] at H
  have c13b0 := eq_true c13
  have c13b1 : decide (x3_1.size + t158.size ≤ 9223372036854775807) = true := decide_eq_true c13
  try have c13b2 : (9223372036854775807 < x3_1.size + t158.size) = False := eq_false (Nat.not_lt.2 c13)
  have H' := Aside0.mk H
  clear H
  have p154 : 0 ≤ (x10_1 : Int) := of_decide_eq_true s5q1
  have q154 : x10_1 < (l0.length : Int) := of_decide_eq_true s5q1
  obtain ⟨ad154, e154, hx154_0, hx154_1, hx154_2⟩ := at_T54 HR0.out x10_1 p154 q154
  cases e154
  replace hx154_0 := (HB.out.cell (World.block_lt_of_cell? w _ hx154_0)).trans hx154_0
  replace hx154_1 := (HB.out.cell (World.block_lt_of_cell? w _ hx154_1)).trans hx154_1
  replace hx154_2 := (HB.out.cell (World.block_lt_of_cell? w _ hx154_2)).trans hx154_2
  replace p154 := eq_true p154
  replace q154 := eq_true q154
  go_wp2_with (first | ((with_reducible refine gate_dst (N := 5) rfl ?_); refine box_event ?hg (N := 5) ?hd (cs := #[.int .i64 0, .int .i64 0, .string (⟨#[]⟩ : ByteArray)]) (t := 54) ?hr ?_; (case hd => rfl); (case hg => rfl); (case hr => first | (go_simp; done) | (go_simp; rfl)); intro gb155 hg w14 hbox hb; have n0_ := Aside0.mk (below_step s5q2 hb); have n1_ := Aside0.mk (hbox); have n2_ := Aside0.mk ((s5q6 : w.heap.size ≤ gb155)); have n3_ := Aside0.mk ((s5q6 : w.heap.size ≤ gb155)); clear HB; have HB := n0_; have BK155 := n1_; have GW155 := n2_; have GE155 := n3_; clear n0_ n1_ n2_ n3_; clear hb hbox hg; have hcz15_0 : w14.cell? ⟨gb155, 0, none⟩ = some (.int .i64 0) := (blk_cell BK155.out 0).trans rfl; have hcz15_1 : w14.cell? ⟨gb155, 1, none⟩ = some (.int .i64 0) := (blk_cell BK155.out 1).trans rfl; have hcz15_2 : w14.cell? ⟨gb155, 2, none⟩ = some (.string (⟨#[]⟩ : ByteArray)) := (blk_cell BK155.out 2).trans rfl; have hfz15_0 := blk_frozen BK155.out 0; have hfz15_1 := blk_frozen BK155.out 1; have hfz15_2 := blk_frozen BK155.out 2) | ((with_reducible refine gate_callee (f := 33) rfl ?_); refine goesL_ (some 21) rfl rfl Tryd.func33 (by kernel_rfl) rfl #[.agg #[.int .i64 ((rd_T54 l0 x10_1).f0), .int .i64 ((rd_T54 l0 x10_1).f1), .string ((rd_T54 l0 x10_1).f2)]] rfl s5q3 ?_; (with_reducible refine (value_TextOf.calls k1 ((rd_T54 l0 x10_1).f0) ((rd_T54 l0 x10_1).f1) ((rd_T54 l0 x10_1).f2) t158 t159 _ ?side1 A12.out).mono ?_); (case side1 => exact Glob_below HG.out s5q4); rintro e w16 ⟨rfl, hb⟩; refine ⟨_, rfl, ?_⟩; have n0_ := Aside0.mk (blk_below (g := gb155) (o := .cells #[.int .i64 ((rd_T54 l0 x10_1).f0), .int .i64 ((rd_T54 l0 x10_1).f1), .string ((rd_T54 l0 x10_1).f2)] 54 (0, 0)) s5q5 hb); have n1_ := Aside0.mk (below_step s5q4 hb); clear BK155; clear HB; have BK155 := n0_; have HB := n1_; clear n0_ n1_; (try clear hb); (try clear hb2); (try clear hk); (try clear hi)))
  first | go_roundg k1 | (refine Handed.intro k1 ?measure ?_; rotate_left; go_step; (repeat apply Exists.intro); simp only [add_plain]; refine ⟨?rel, rfl⟩)
  case measure => have := HK1.out; omega
  case rel => exact ⟨(x3_1 ++ t158), (wrap64 (x10_1 + 1)), s5q0, s5q0, H', ⟨by have := HK1.out; omega⟩, ⟨by repeat (first | (with_reducible first | exact HB.out | apply below_alloc | apply pw_below_drewN | apply below_drew1 | refine below_set ?_ GE155.out) | exact HB.out)⟩⟩
 rw [if_pos c5] at H
 have c5b0 : decide (0 < x10_1) = true := decide_eq_true c5
 clear c5
 by_cases c6 : x3_1.size + 1 ≤ 9223372036854775807
 case neg =>
  rw [if_neg c6] at H
  exact absurd H (by simp)
 rw [if_pos c6] at H
 have c6b0 := eq_true c6
 have c6b1 : decide (x3_1.size + 1 ≤ 9223372036854775807) = true := decide_eq_true c6
 try have c6b2 : (9223372036854775807 < x3_1.size + 1) = False := eq_false (Nat.not_lt.2 c6)
 replace H := Option.bind_eq_some_iff.mp H
 obtain ⟨⟨t156, t157⟩, A70, H⟩ := H
 replace H : (if x3_1.size + 1 + t156.size ≤ 9223372036854775807 then (join_text.l0 k1 ((x3_1 ++ (⟨#[44]⟩ : ByteArray)) ++ t156) l0 (l0.length : Int) (wrap64 (x10_1 + 1))) else (none)) = some r := H
 have A7 := Aside0.mk A70
 clear A70
 by_cases c8 : x3_1.size + 1 + t156.size ≤ 9223372036854775807
 case neg =>
  rw [if_neg c8] at H
  exact absurd H (by simp)
 rw [if_pos c8] at H
 have c8b0 := eq_true c8
 have c8b1 : decide (x3_1.size + 1 + t156.size ≤ 9223372036854775807) = true := decide_eq_true c8
 try have c8b2 : (9223372036854775807 < x3_1.size + 1 + t156.size) = False := eq_false (Nat.not_lt.2 c8)
 have H' := Aside0.mk H
 clear H
 have p154 : 0 ≤ (x10_1 : Int) := of_decide_eq_true s5q1
 have q154 : x10_1 < (l0.length : Int) := of_decide_eq_true s5q1
 obtain ⟨ad154, e154, hx154_0, hx154_1, hx154_2⟩ := at_T54 HR0.out x10_1 p154 q154
 cases e154
 replace hx154_0 := (HB.out.cell (World.block_lt_of_cell? w _ hx154_0)).trans hx154_0
 replace hx154_1 := (HB.out.cell (World.block_lt_of_cell? w _ hx154_1)).trans hx154_1
 replace hx154_2 := (HB.out.cell (World.block_lt_of_cell? w _ hx154_2)).trans hx154_2
 replace p154 := eq_true p154
 replace q154 := eq_true q154
 go_wp2_with (first | ((with_reducible refine gate_dst (N := 5) rfl ?_); refine box_event ?hg (N := 5) ?hd (cs := #[.int .i64 0, .int .i64 0, .string (⟨#[]⟩ : ByteArray)]) (t := 54) ?hr ?_; (case hd => rfl); (case hg => rfl); (case hr => first | (go_simp; done) | (go_simp; rfl)); intro gb155 hg w9 hbox hb; have n0_ := Aside0.mk (below_step s5q2 hb); have n1_ := Aside0.mk (hbox); have n2_ := Aside0.mk ((s5q6 : w.heap.size ≤ gb155)); have n3_ := Aside0.mk ((s5q6 : w.heap.size ≤ gb155)); clear HB; have HB := n0_; have BK155 := n1_; have GW155 := n2_; have GE155 := n3_; clear n0_ n1_ n2_ n3_; clear hb hbox hg; have hcz10_0 : w9.cell? ⟨gb155, 0, none⟩ = some (.int .i64 0) := (blk_cell BK155.out 0).trans rfl; have hcz10_1 : w9.cell? ⟨gb155, 1, none⟩ = some (.int .i64 0) := (blk_cell BK155.out 1).trans rfl; have hcz10_2 : w9.cell? ⟨gb155, 2, none⟩ = some (.string (⟨#[]⟩ : ByteArray)) := (blk_cell BK155.out 2).trans rfl; have hfz10_0 := blk_frozen BK155.out 0; have hfz10_1 := blk_frozen BK155.out 1; have hfz10_2 := blk_frozen BK155.out 2) | ((with_reducible refine gate_callee (f := 33) rfl ?_); refine goesL_ (some 21) rfl rfl Tryd.func33 (by kernel_rfl) rfl #[.agg #[.int .i64 ((rd_T54 l0 x10_1).f0), .int .i64 ((rd_T54 l0 x10_1).f1), .string ((rd_T54 l0 x10_1).f2)]] rfl s5q3 ?_; (with_reducible refine (value_TextOf.calls k1 ((rd_T54 l0 x10_1).f0) ((rd_T54 l0 x10_1).f1) ((rd_T54 l0 x10_1).f2) t156 t157 _ ?side1 A7.out).mono ?_); (case side1 => exact Glob_below HG.out s5q4); rintro e w11 ⟨rfl, hb⟩; refine ⟨_, rfl, ?_⟩; have n0_ := Aside0.mk (blk_below (g := gb155) (o := .cells #[.int .i64 ((rd_T54 l0 x10_1).f0), .int .i64 ((rd_T54 l0 x10_1).f1), .string ((rd_T54 l0 x10_1).f2)] 54 (0, 0)) s5q5 hb); have n1_ := Aside0.mk (below_step s5q4 hb); clear BK155; clear HB; have BK155 := n0_; have HB := n1_; clear n0_ n1_; (try clear hb); (try clear hb2); (try clear hk); (try clear hi)))
 first | go_roundg k1 | (refine Handed.intro k1 ?measure ?_; rotate_left; go_step; (repeat apply Exists.intro); simp only [add_plain]; refine ⟨?rel, rfl⟩)
 case measure => have := HK1.out; omega
 case rel => exact ⟨((x3_1 ++ (⟨#[44]⟩ : ByteArray)) ++ t156), (wrap64 (x10_1 + 1)), s5q0, s5q0, H', ⟨by have := HK1.out; omega⟩, ⟨by repeat (first | (with_reducible first | exact HB.out | apply below_alloc | apply pw_below_drewN | apply below_drew1 | refine below_set ?_ GE155.out) | exact HB.out)⟩⟩
/-! ### join_hash: function 14 (by hand) -/
def join_hash.l0 : Nat → ByteArray → Int → Int → Option (Int)
  | 0, _, _, _ => none
  | k + 1, s, i, h => if i < (s.size : Int) then (if 0 ≤ i then (join_hash.l0 k s (wrap64 (i + 1)) (IntKind.u32.wrap (Go.bits .xor .u32 h (IntKind.u32.wrap (bt s i)) * 16777619))) else (none)) else (some (wrap64 h))
def join_hash.f (k : Nat) (l0 : List (S54)) (a1 : Int) : Option (Int) := (join_text.f k l0).bind fun t => (if t.size ≤ 9223372036854775807 then (join_hash.l0 k t 0 (Go.bits .xor .u32 2166136261 (IntKind.u32.wrap a1))) else (none))
theorem join_hash.mono_l : ∀ k, (∀ y0 y1 y2, LeO (join_hash.l0 k y0 y1 y2) (join_hash.l0 (k + 1) y0 y1 y2))
  | 0 => fun _ _ _ r h => by simp [join_hash.l0] at h
  | k + 1 => by
    have ih0 := join_hash.mono_l k
    intro y0 y1 y2
    unfold join_hash.l0
    repeat' first
      | (with_reducible exact ih0 _ _ _)
      | (with_reducible exact LeO.refl _)
      | (with_reducible exact LeO.none _)
      | (with_reducible refine LeO.ite ?_ ?_)
theorem join_hash.mono : ∀ a0 a1 k, LeO (join_hash.f k a0 a1) (join_hash.f (k + 1) a0 a1) := by
 intro a0 a1 k
 unfold join_hash.f
 refine LeO.bind (join_text.mono _ _) (fun _ => LeO.ite (join_hash.mono_l _ _ _ _) (LeO.none _))
set_option maxHeartbeats 8000000 in
set_option maxRecDepth 100000 in
theorem join_hash.calls (k : Nat) (A0 : Option Addr) (c0 : Nat) (l0 : List (S54)) (a1 : Int) (r : Int) (w : World) (hr0 : Kd.C k54 w A0 l0.length l0) (hc0 : l0.length ≤ c0) (hG : Glob w) (h : join_hash.f k l0 a1 = some r) :
    Calls Tryd.prog 14 #[.slice A0 l0.length c0, .int .i64 a1] w fun e w' => e = .returned (.int .i64 r) ∧ Below w.heap.size w w' := by
 obtain ⟨t, A3, H⟩ := Option.bind_eq_some_iff.mp h
 replace H : (if t.size ≤ 9223372036854775807 then (join_hash.l0 k t 0 (Go.bits .xor .u32 2166136261 (IntKind.u32.wrap a1))) else (none)) = some r := H
 by_cases hs : t.size ≤ 9223372036854775807
 case neg => rw [if_neg hs] at H; cases H
 rw [if_pos hs] at H
 clear h
 have HC := Aside0.mk ((join_text.calls k A0 c0 l0 t w hr0 hc0 hG A3))
 have H' := Aside0.mk H
 have HS := Aside0.mk hs
 clear hr0 hc0 hG A3 H hs
 have kb := fun W => print_bytes (P := Tryd.prog) 9 27 5 Tryd.underlying9 Tryd.underlying27 Tryd.underlying5 t W
 go_enter Tryd.func14, Tryd.ntmps14
 go_wp2_with (first | (go_at_call 26; refine HC.out.mono ?_; rintro e w1 ⟨rfl, hb⟩; have HB := Aside0.mk hb; clear hb))
 have HB2 := Aside0.mk (bytes_below HB.out HB.out.size 5 t)
 have HCell : Aside0 (∀ j : Nat, j < t.size → (Lib.bytesWorld w1 5 t).cell? ⟨w1.heap.size, j, none⟩ = some (.int .u8 (bt t j))) := ⟨fun j hj => by
  rw [Lib.bytesWorld_cell w1 5 t j hj]
  have h' : j < t.data.toList.length := by rw [data_length]; exact hj
  have e1 : t.data.toList.getD j 0 = t[j]'hj := by
   rw [List.getD_eq_getElem?_getD, List.getElem?_eq_getElem h']; rfl
  have e2 : bt t (j : Int) = ((t[j]'hj).toNat : Int) := by
   unfold bt
   exact dif_pos hj
  rw [e1, e2]⟩
 clear kb HB HC
 generalize Lib.bytesWorld w1 5 t = w2 at HB2 HCell ⊢
 generalize w1.heap.size = g at HCell ⊢
 go_loopg [5, 7, 15] k (fun kq v5 v7 v15 w' => ∃ (x5 x15 : Int), v5 = .int .u32 x5 ∧ v15 = .int .i64 x15 ∧ Aside0 (join_hash.l0 kq t x15 x5 = some r) ∧ Aside0 (kq ≤ k) ∧ Aside0 (∀ j : Nat, j < t.size → w'.cell? ⟨g, j, none⟩ = some (.int .u8 (bt t j))) ∧ Aside0 (Below w.heap.size w w'))
 case atStart => exact ⟨_, 0, rfl, rfl, H', ⟨Nat.le_refl _⟩, HCell, HB2⟩
 clear H' HCell HB2
 obtain ⟨x5, x15, rfl, rfl, HA, HK1, HCell, HB⟩ := hrel
 cases gk with
 | zero => exact absurd HA.out (by simp [join_hash.l0])
 | succ k1 => ?_
 have H := HA.out
 clear HA
 simp only [join_hash.l0] at H
 by_cases c4 : x15 < (t.size : Int)
 case neg =>
  rw [if_neg c4] at H
  have c4b : decide (x15 < (t.size : Int)) = false := decide_eq_false c4
  clear c4
  obtain rfl := Option.some.inj H
  go_wp2
  go_ret
  exact ⟨by first | rfl | (simp [*]; done), HB.out⟩
 rw [if_pos c4] at H
 by_cases c5 : 0 ≤ x15
 case neg =>
  rw [if_neg c5] at H; cases H
 rw [if_pos c5] at H
 have H' := Aside0.mk H
 clear H
 obtain ⟨j, rfl⟩ := Int.eq_ofNat_of_zero_le c5
 have hj : j < t.size := by omega
 have hcell := HCell.out j hj
 have c4b : decide ((j : Int) < (t.size : Int)) = true := decide_eq_true c4
 have c5b : decide (0 ≤ (j : Int)) = true := decide_eq_true c5
 clear c4 c5
 go_wp2
 first | go_roundg k1 | (refine Handed.intro k1 ?measure ?_; rotate_left; go_step; (repeat apply Exists.intro); simp only [add_plain]; refine ⟨?rel, rfl⟩)
 case measure => have := HK1.out; omega
 case rel => exact ⟨_, _, rfl, rfl, H', ⟨by have := HK1.out; omega⟩, HCell, HB⟩
end Go.Proofs.YtgdbkhbaekeijaaDoor.F
