-- Printed by a program of this session (a patched print).
import Derived.Test.YtgdbkhbaekeijaaDoorFx0
import Derived.Test.YtgdbkhbaekeijaaDoorFx10
namespace Go.Proofs.YtgdbkhbaekeijaaDoor.F
open Go.RowKit Go.Proofs.YtgdbkhbaekeijaaDoorW.PrintWords Go.Proofs.YtgdbkhbaekeijaaDoorW.PrintLast Go.Proofs.YtgdbkhbaekeijaaDoorW.PrintMore
attribute [local go_sem] max2_int min2_int max_two min_two max_three min_three max_four min_four   -- for this text's walks alone
set_option linter.unusedVariables false
set_option linter.unusedSimpArgs false

theorem s11qm0 {p : Prop} (h : p := by repeat' first | (with_reducible exact ih0 _ _ _ _) | (with_reducible exact ih1 _ _ _ _ _) | (with_reducible exact ih2 _ _ _ _ _ _ _) | (with_reducible exact peristyleref1_TextOf.mono _ _ _ _) | (with_reducible exact LeO.refl _) | (with_reducible exact LeO.none _) | (with_reducible refine LeO.ite ?_ ?_) | (with_reducible refine LeO.bind ?_ (fun _ => ?_)) | exact ih0 _ _ _ _ | exact ih1 _ _ _ _ _ | exact ih2 _ _ _ _ _ _ _ | exact peristyleref1_TextOf.mono _ _ _ _ | exact LeO.none _ | refine LeO.ite ?_ ?_ | refine LeO.bind ?_ (fun _ => ?_)) : p := h
theorem s11q0 {p : Prop} (h : p := by first | rfl | (simp; done) | (simp [*]; done)) : p := h
theorem s11q1 {p : Prop} (h : p := by first | (with_reducible assumption) | assumption) : p := h
theorem s11q2 {p : Prop} (h : p := by repeat (first | (with_reducible first | exact HB.out | apply below_alloc | apply pw_below_drewN | apply below_drew1) | exact HB.out)) : p := h
theorem s11q3 {p : Prop} (h : p := by repeat (first | (with_reducible first | exact HB.out | apply below_alloc | apply pw_below_drewN | apply below_drew1 | refine below_set ?_ GE230.out) | exact HB.out)) : p := h
/-! ### peristyleref8_hash: function 18 -/
mutual
def peristyleref8_hash.l0 : Nat → Int → List (S54) → Int → Int → Option (Int)
  | 0, _, _, _, _ => none
  | k + 1, x5, x13, x14, x15 => if x15 < x14 then (if 0 ≤ x15 then (if x15 < (x13.length : Int) then ((peristyleref1_TextOf.f k ((rd_T54 x13 x15).f0) ((rd_T54 x13 x15).f1) ((rd_T54 x13 x15).f2)).bind fun bt231 => (if x15 > 0 then (if 1 + bt231.1.size ≤ 9223372036854775807 then (peristyleref8_hash.j1 k x5 ((⟨#[44]⟩ : ByteArray) ++ bt231.1) x13 x14 x15) else (none)) else (peristyleref8_hash.j1 k x5 bt231.1 x13 x14 x15))) else (none)) else (none)) else (some x5)
def peristyleref8_hash.j1 : Nat → Int → ByteArray → List (S54) → Int → Int → Option (Int)
  | 0, _, _, _, _, _ => none
  | k + 1, x5, x8, x13, x14, x15 => peristyleref8_hash.l1 k x5 x8 x13 x14 x15 (x8.size : Int) 0
def peristyleref8_hash.l1 : Nat → Int → ByteArray → List (S54) → Int → Int → Int → Int → Option (Int)
  | 0, _, _, _, _, _, _, _ => none
  | k + 1, x5, x8, x13, x14, x15, x30, x31 => if x31 < x30 then (if 0 ≤ x31 then (if x31 < (x8.size : Int) then (peristyleref8_hash.l1 k (Int.tmod (wrap64 ((Go.bits .xor .i64 x5 (wrap64 (bt x8 x31))) * 16777619)) 4294967296) x8 x13 x14 x15 x30 (wrap64 (x31 + 1))) else (none)) else (none)) else (peristyleref8_hash.l0 k x5 x13 x14 (wrap64 (x15 + 1)))
end
def peristyleref8_hash.f (k : Nat) (l0 : List (S54)) (a1 : Int) : Option (Int) := peristyleref8_hash.l0 k (Go.bits .xor .i64 2166136261 a1) l0 (l0.length : Int) 0
theorem peristyleref8_hash.mono_l : ∀ k, (∀ y0 y1 y2 y3, LeO (peristyleref8_hash.l0 k y0 y1 y2 y3) (peristyleref8_hash.l0 (k + 1) y0 y1 y2 y3)) ∧ (∀ y0 y1 y2 y3 y4, LeO (peristyleref8_hash.j1 k y0 y1 y2 y3 y4) (peristyleref8_hash.j1 (k + 1) y0 y1 y2 y3 y4)) ∧ (∀ y0 y1 y2 y3 y4 y5 y6, LeO (peristyleref8_hash.l1 k y0 y1 y2 y3 y4 y5 y6) (peristyleref8_hash.l1 (k + 1) y0 y1 y2 y3 y4 y5 y6))
  | 0 => ⟨fun _ _ _ _ r h => by simp [peristyleref8_hash.l0] at h, fun _ _ _ _ _ r h => by simp [peristyleref8_hash.j1] at h, fun _ _ _ _ _ _ _ r h => by simp [peristyleref8_hash.l1] at h⟩
  | k + 1 => by
    obtain ⟨ih0, ih1, ih2⟩ := peristyleref8_hash.mono_l k
    refine ⟨?_, ?_, ?_⟩
    · intro y0 y1 y2 y3
      unfold peristyleref8_hash.l0
      exact s11qm0
    · intro y0 y1 y2 y3 y4
      unfold peristyleref8_hash.j1
      exact s11qm0
    · intro y0 y1 y2 y3 y4 y5 y6
      unfold peristyleref8_hash.l1
      exact s11qm0
theorem peristyleref8_hash.mono : ∀ a0 a1 k, LeO (peristyleref8_hash.f k a0 a1) (peristyleref8_hash.f (k + 1) a0 a1) := by
 intro a0 a1 k
 obtain ⟨ih0, ih1, ih2⟩ := peristyleref8_hash.mono_l k
 unfold peristyleref8_hash.f
 repeat' first
  | (with_reducible exact ih0 _ _ _ _)
  | (with_reducible exact ih1 _ _ _ _ _)
  | (with_reducible exact ih2 _ _ _ _ _ _ _)
  | (with_reducible exact peristyleref1_TextOf.mono _ _ _ _)
  | (with_reducible exact LeO.refl _)
  | (with_reducible exact LeO.none _)
  | (with_reducible refine LeO.ite ?_ ?_)
  | (with_reducible refine LeO.bind ?_ (fun _ => ?_))
  | exact ih0 _ _ _ _
  | exact ih1 _ _ _ _ _
  | exact ih2 _ _ _ _ _ _ _
  | exact peristyleref1_TextOf.mono _ _ _ _
  | exact LeO.none _
  | refine LeO.ite ?_ ?_
  | refine LeO.bind ?_ (fun _ => ?_)
set_option maxHeartbeats 8000000 in
set_option maxRecDepth 100000 in
theorem peristyleref8_hash.calls (k : Nat) (A0 : Option Addr) (c0 : Nat) (l0 : List (S54)) (a1 : Int) (r : Int) (w : World) (hr0 : Kd.C k54 w A0 l0.length l0) (hc0 : l0.length ≤ c0) (hG : Glob w) (h : peristyleref8_hash.f k l0 a1 = some r) :
    Calls Tryd.prog 18 #[.slice A0 l0.length c0, .int .i64 a1] w fun e w' => e = .returned (.int .i64 r) ∧ Below w.heap.size w w' := by
 have hu54 := Tryd.underlying54
 have HG := Aside0.mk hG
 clear hG
 have HR0 := Aside0.mk hr0
 have HC0 := Aside0.mk hc0
 clear hr0 hc0
 have HB := Aside0.mk (Below.refl w.heap.size w)
 have H : (peristyleref8_hash.l0 k (Go.bits .xor .i64 2166136261 a1) l0 (l0.length : Int) 0) = some r := h
 clear h
 have H' := Aside0.mk H
 clear H
 go_enter Tryd.func18, Tryd.ntmps18
 go_wp2
 go_loopg [5, 15] k (fun kq v5 v15 w' => ∃ (x5_1 : Int) (x15_1 : Int), v5 = .int .i64 x5_1 ∧ v15 = .int .i64 x15_1 ∧ Aside0 (peristyleref8_hash.l0 kq x5_1 l0 (l0.length : Int) x15_1 = some r) ∧ Aside0 (kq ≤ k) ∧ Aside0 (Below w.heap.size w w'))
 case atStart => exact ⟨(Go.bits .xor .i64 2166136261 a1), (0), s11q0, s11q0, H', ⟨Nat.le_refl _⟩, ⟨by repeat (first | (with_reducible first | exact HB.out | apply below_alloc | apply pw_below_drewN | apply below_drew1) | exact HB.out)⟩⟩
 clear H'
 try clear c1
 try clear p2
 obtain ⟨x5_1, x15_1, rfl, rfl, HA, HK1, HB⟩ := hrel
 cases gk with
 | zero => exact absurd HA.out (by simp [peristyleref8_hash.l0])
 | succ k1 => ?_
 have H := HA.out
 clear HA
 simp only [peristyleref8_hash.l0] at H
 by_cases c3 : x15_1 < (l0.length : Int)
 case neg =>
  rw [if_neg c3] at H
  have c3b0 : decide (x15_1 < (l0.length : Int)) = false := decide_eq_false c3
  clear c3
  obtain rfl := Option.some.inj H
  go_wp2
  go_ret
  exact ⟨by first | rfl | (simp [errW_none, errW_some] <;> rfl) | (simp [*, errW_none, errW_some] <;> rfl), by repeat (first | (with_reducible first | exact HB.out | apply below_alloc | apply pw_below_drewN | apply below_drew1) | exact HB.out)⟩
 rw [if_pos c3] at H
 have c3b0 : decide (x15_1 < (l0.length : Int)) = true := decide_eq_true c3
 clear c3
 by_cases c4 : 0 ≤ x15_1
 case neg =>
  rw [if_neg c4] at H
  exact absurd H (by simp)
 rw [if_pos c4] at H
 have c4b0 : decide (0 ≤ x15_1) = true := decide_eq_true c4
 clear c4
 by_cases c5 : x15_1 < (l0.length : Int)
 case neg =>
  rw [if_neg c5] at H
  exact absurd H (by simp)
 rw [if_pos c5] at H
 have c5b0 : decide (x15_1 < (l0.length : Int)) = true := decide_eq_true c5
 clear c5
 replace H := Option.bind_eq_some_iff.mp H
 obtain ⟨⟨t231, t232⟩, A60, H⟩ := H
 replace H : (if x15_1 > 0 then (if 1 + t231.size ≤ 9223372036854775807 then (peristyleref8_hash.j1 k1 x5_1 ((⟨#[44]⟩ : ByteArray) ++ t231) l0 (l0.length : Int) x15_1) else (none)) else (peristyleref8_hash.j1 k1 x5_1 t231 l0 (l0.length : Int) x15_1)) = some r := H
 have A6 := Aside0.mk A60
 clear A60
 have HC7 := Aside0.mk H
 clear H
 have p229 : 0 ≤ (x15_1 : Int) := of_decide_eq_true s11q1
 have q229 : x15_1 < (l0.length : Int) := of_decide_eq_true s11q1
 obtain ⟨ad229, e229, hx229_0, hx229_1, hx229_2⟩ := at_T54 HR0.out x15_1 p229 q229
 cases e229
 replace hx229_0 := (HB.out.cell (World.block_lt_of_cell? w _ hx229_0)).trans hx229_0
 replace hx229_1 := (HB.out.cell (World.block_lt_of_cell? w _ hx229_1)).trans hx229_1
 replace hx229_2 := (HB.out.cell (World.block_lt_of_cell? w _ hx229_2)).trans hx229_2
 replace p229 := eq_true p229
 replace q229 := eq_true q229
 go_upto_if 26 with (first | ((with_reducible refine gate_dst (N := 7) rfl ?_); refine box_event ?hg (N := 7) ?hd (cs := #[.int .i64 0, .int .i64 0, .string (⟨#[]⟩ : ByteArray)]) (t := 54) ?hr ?_; (case hd => rfl); (case hg => rfl); (case hr => first | (go_simp; done) | (go_simp; rfl)); intro gb230 hg w8 hbox hb; have n0_ := Aside0.mk (below_step s11q2 hb); have n1_ := Aside0.mk (hbox); have n2_ := Aside0.mk (((by rw [hg]; exact (below_size s11q2)) : w.heap.size ≤ gb230)); have n3_ := Aside0.mk (((by rw [hg]; exact (below_size s11q2)) : w.heap.size ≤ gb230)); clear HB; have HB := n0_; have BK230 := n1_; have GW230 := n2_; have GE230 := n3_; clear n0_ n1_ n2_ n3_; clear hb hbox hg; have hcz9_0 : w8.cell? ⟨gb230, 0, none⟩ = some (.int .i64 0) := (blk_cell BK230.out 0).trans rfl; have hcz9_1 : w8.cell? ⟨gb230, 1, none⟩ = some (.int .i64 0) := (blk_cell BK230.out 1).trans rfl; have hcz9_2 : w8.cell? ⟨gb230, 2, none⟩ = some (.string (⟨#[]⟩ : ByteArray)) := (blk_cell BK230.out 2).trans rfl; have hfz9_0 := blk_frozen BK230.out 0; have hfz9_1 := blk_frozen BK230.out 1; have hfz9_2 := blk_frozen BK230.out 2) | ((with_reducible refine gate_callee (f := 28) rfl ?_); refine goesL_ (some 22) rfl rfl Tryd.func28 (by kernel_rfl) rfl #[.agg #[.int .i64 ((rd_T54 l0 x15_1).f0), .int .i64 ((rd_T54 l0 x15_1).f1), .string ((rd_T54 l0 x15_1).f2)]] rfl (by (try simp only [List.map_toArray, List.map_cons, List.map_nil]); first | done | rfl | (simp only [List.length_drop, List.length_take]; rfl)) ?_; (with_reducible refine (peristyleref1_TextOf.calls k1 ((rd_T54 l0 x15_1).f0) ((rd_T54 l0 x15_1).f1) ((rd_T54 l0 x15_1).f2) t231 t232 _ ?side1 A6.out).mono ?_); (case side1 => exact Glob_below HG.out s11q3); rintro e w10 ⟨rfl, hb⟩; refine ⟨_, rfl, ?_⟩; have n0_ := Aside0.mk (blk_below (g := gb230) (o := .cells #[.int .i64 ((rd_T54 l0 x15_1).f0), .int .i64 ((rd_T54 l0 x15_1).f1), .string ((rd_T54 l0 x15_1).f2)] 54 (0, 0)) (by (with_reducible repeat (first | refine blk_drewN ?_ _ | refine blk_drew ?_ | refine blk_alloc ?_ _)); refine blk_put (cs := #[.int .i64 ((rd_T54 l0 x15_1).f0), .int .i64 ((rd_T54 l0 x15_1).f1), .string (⟨#[]⟩ : ByteArray)]) ?_ 2 _ rfl; (with_reducible repeat (first | refine blk_drewN ?_ _ | refine blk_drew ?_ | refine blk_alloc ?_ _)); refine blk_put (cs := #[.int .i64 ((rd_T54 l0 x15_1).f0), .int .i64 0, .string (⟨#[]⟩ : ByteArray)]) ?_ 1 _ rfl; (with_reducible repeat (first | refine blk_drewN ?_ _ | refine blk_drew ?_ | refine blk_alloc ?_ _)); refine blk_put (cs := #[.int .i64 0, .int .i64 0, .string (⟨#[]⟩ : ByteArray)]) ?_ 0 _ rfl; (with_reducible repeat (first | refine blk_drewN ?_ _ | refine blk_drew ?_ | refine blk_alloc ?_ _)); exact BK230.out) hb); have n1_ := Aside0.mk (below_step s11q3 hb); clear BK230; clear HB; have BK230 := n0_; have HB := n1_; clear n0_ n1_; (try clear hb); (try clear hb2); (try clear hk); (try clear hi)))
 (try simp only [Act.put, sqa, sqb, sqc])
 go_cut [8] (fun v8 wc => ∃ (kq : Nat) (x8_6 : ByteArray), v8 = .string x8_6 ∧ Aside0 (peristyleref8_hash.j1 kq x5_1 x8_6 l0 (l0.length : Int) x15_1 = some r) ∧ Aside0 (kq ≤ k1) ∧ Aside0 (wc.heap[gb230]? = some (.cells #[.int .i64 ((rd_T54 l0 x15_1).f0), .int .i64 ((rd_T54 l0 x15_1).f1), .string ((rd_T54 l0 x15_1).f2)] 54 (0, 0))) ∧ Aside0 (Below w.heap.size w wc))
 case first =>
  have H := HC7.out
  clear HC7
  by_cases c11 : x15_1 > 0
  case neg =>
   rw [if_neg c11] at H
   have c11b0 : decide (0 < x15_1) = false := decide_eq_false c11
   clear c11
   (first | rw [c11b0] | (simp only [i64_w, i32_w]; rw [c11b0]) | skip)
   have H' := Aside0.mk H
   clear H
   go_wp2
   go_meet
   case rel => exact ⟨_, (t231), s11q0, H', ⟨by have := HK1.out; first | omega | exact Nat.le_refl _⟩, ⟨by (with_reducible repeat (first | refine blk_drewN ?_ _ | refine blk_drew ?_ | refine blk_alloc ?_ _)); exact BK230.out⟩, ⟨by repeat (first | (with_reducible first | exact HB.out | apply below_alloc | apply pw_below_drewN | apply below_drew1 | refine below_set ?_ GE230.out) | exact HB.out)⟩⟩
  rw [if_pos c11] at H
  have c11b0 : decide (0 < x15_1) = true := decide_eq_true c11
  clear c11
  (first | rw [c11b0] | (simp only [i64_w, i32_w]; rw [c11b0]) | skip)
  by_cases c12 : 1 + t231.size ≤ 9223372036854775807
  case neg =>
   rw [if_neg c12] at H
   exact absurd H (by simp)
  rw [if_pos c12] at H
  have c12b0 := eq_true c12
  have c12b1 : decide (1 + t231.size ≤ 9223372036854775807) = true := decide_eq_true c12
  try have c12b2 : (9223372036854775807 < 1 + t231.size) = False := eq_false (Nat.not_lt.2 c12)
  have H' := Aside0.mk H
  clear H
  go_wp2
  go_meet
  case rel => exact ⟨_, ((⟨#[44]⟩ : ByteArray) ++ t231), s11q0, H', ⟨by have := HK1.out; first | omega | exact Nat.le_refl _⟩, ⟨by (with_reducible repeat (first | refine blk_drewN ?_ _ | refine blk_drew ?_ | refine blk_alloc ?_ _)); exact BK230.out⟩, ⟨by repeat (first | (with_reducible first | exact HB.out | apply below_alloc | apply pw_below_drewN | apply below_drew1 | refine below_set ?_ GE230.out) | exact HB.out)⟩⟩
 clear HC7
 try clear c1
 try clear c2
 try clear p2
 try clear q2
 try clear hx2
 try clear c3
 try clear c3b0
 try clear c4
 try clear c4b0
 try clear c5
 try clear c5b0
 try clear c11
 try clear c11b0
 try clear c12
 try clear c12b0
 try clear c12b1
 try clear c12b2
 try clear hcz9_0
 try clear hcz9_1
 try clear hcz9_2
 try clear hfz9_0
 try clear hfz9_1
 try clear hfz9_2
 try clear hx229_0
 try clear hx229_1
 try clear hx229_2
 try clear p2
 try clear p229
 try clear q229
 obtain ⟨kq, x8_6, rfl, HA, HJ6, BK230, HB⟩ := hcut
 cases kq with
 | zero => exact absurd HA.out (by simp [peristyleref8_hash.j1])
 | succ kj6 => ?_
 have H := HA.out
 clear HA
 simp only [peristyleref8_hash.j1] at H
 have H' := Aside0.mk H
 clear H
 go_wp2
 go_loopg [5, 31] kj6 (fun kq v5 v31 w' => ∃ (x5_3 : Int) (x31_3 : Int), v5 = .int .i64 x5_3 ∧ v31 = .int .i64 x31_3 ∧ Aside0 (peristyleref8_hash.l1 kq x5_3 x8_6 l0 (l0.length : Int) x15_1 (x8_6.size : Int) x31_3 = some r) ∧ Aside0 (kq ≤ kj6) ∧ Aside0 (w'.heap[gb230]? = some (.cells #[.int .i64 ((rd_T54 l0 x15_1).f0), .int .i64 ((rd_T54 l0 x15_1).f1), .string ((rd_T54 l0 x15_1).f2)] 54 (0, 0))) ∧ Aside0 (Below w.heap.size w w'))
 case atStart => exact ⟨(x5_1), (0), s11q0, s11q0, H', ⟨Nat.le_refl _⟩, ⟨by (with_reducible repeat (first | refine blk_drewN ?_ _ | refine blk_drew ?_ | refine blk_alloc ?_ _)); exact BK230.out⟩, ⟨by repeat (first | (with_reducible first | exact HB.out | apply below_alloc | apply pw_below_drewN | apply below_drew1 | refine below_set ?_ GE230.out) | exact HB.out)⟩⟩
 clear H'
 try clear c1
 try clear c2
 try clear p2
 try clear q2
 try clear hx2
 try clear c3
 try clear c3b0
 try clear c4
 try clear c4b0
 try clear c5
 try clear c5b0
 try clear c11
 try clear c11b0
 try clear c12
 try clear c12b0
 try clear c12b1
 try clear c12b2
 try clear hcz9_0
 try clear hcz9_1
 try clear hcz9_2
 try clear hfz9_0
 try clear hfz9_1
 try clear hfz9_2
 try clear hx229_0
 try clear hx229_1
 try clear hx229_2
 try clear p2
 try clear p229
 try clear q2
 try clear q229
 obtain ⟨x5_3, x31_3, rfl, rfl, HA, HK3, BK230, HB⟩ := hrel
 cases gk with
 | zero => exact absurd HA.out (by simp [peristyleref8_hash.l1])
 | succ k3 => ?_
 have H := HA.out
 clear HA
 simp only [peristyleref8_hash.l1] at H
 by_cases c13 : x31_3 < (x8_6.size : Int)
 case neg =>
  rw [if_neg c13] at H
  have c13b0 : decide (x31_3 < (x8_6.size : Int)) = false := decide_eq_false c13
  clear c13
  have H' := Aside0.mk H
  clear H
  go_wp2
  first | go_roundg k3 | (refine Handed.intro k3 ?measure ?_; rotate_left; go_step; (repeat apply Exists.intro); simp only [add_plain]; refine ⟨?rel, rfl⟩)
  case measure => have := HK1.out; have := HJ6.out; have := HK3.out; omega
  case rel => exact ⟨(x5_3), (wrap64 (x15_1 + 1)), s11q0, s11q0, H', ⟨by have := HK1.out; have := HJ6.out; have := HK3.out; omega⟩, ⟨by repeat (first | (with_reducible first | exact HB.out | apply below_alloc | apply pw_below_drewN | apply below_drew1 | refine below_set ?_ GE230.out) | exact HB.out)⟩⟩
 rw [if_pos c13] at H
 have c13b0 : decide (x31_3 < (x8_6.size : Int)) = true := decide_eq_true c13
 clear c13
 by_cases c14 : 0 ≤ x31_3
 case neg =>
  rw [if_neg c14] at H
  exact absurd H (by simp)
 rw [if_pos c14] at H
 have c14b0 : decide (0 ≤ x31_3) = true := decide_eq_true c14
 clear c14
 by_cases c15 : x31_3 < (x8_6.size : Int)
 case neg =>
  rw [if_neg c15] at H
  exact absurd H (by simp)
 rw [if_pos c15] at H
 have c15b0 : decide (x31_3 < (x8_6.size : Int)) = true := decide_eq_true c15
 clear c15
 have H' := Aside0.mk H
 clear H
 have p16 : 0 ≤ (x31_3 : Int) := of_decide_eq_true s11q1
 have q16 : x31_3 < (x8_6.size : Int) := of_decide_eq_true s11q1
 have hx16 := bt_at x8_6 x31_3
 replace p16 := eq_true p16
 replace q16 := eq_true q16
 go_wp2
 first | go_roundg k3 | (refine Handed.intro k3 ?measure ?_; rotate_left; go_step; (repeat apply Exists.intro); simp only [add_plain]; refine ⟨?rel, rfl⟩)
 case measure => have := HK1.out; have := HJ6.out; have := HK3.out; omega
 case rel => exact ⟨(Int.tmod (wrap64 ((Go.bits .xor .i64 x5_3 (wrap64 (bt x8_6 x31_3))) * 16777619)) 4294967296), (wrap64 (x31_3 + 1)), s11q0, s11q0, H', ⟨by have := HK1.out; have := HJ6.out; have := HK3.out; omega⟩, ⟨by (with_reducible repeat (first | refine blk_drewN ?_ _ | refine blk_drew ?_ | refine blk_alloc ?_ _)); exact BK230.out⟩, ⟨by repeat (first | (with_reducible first | exact HB.out | apply below_alloc | apply pw_below_drewN | apply below_drew1 | refine below_set ?_ GE230.out) | exact HB.out)⟩⟩
end Go.Proofs.YtgdbkhbaekeijaaDoor.F
