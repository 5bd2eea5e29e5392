-- Printed by a program of this session (a patched print).
import Derived.Test.YtgcijejmmhjibaaDoorTx0
import Derived.Test.YtgcijejmmhjibaaDoorTx2
import Derived.Test.YtgcijejmmhjibaaDoorTx3
namespace Go.Proofs.YtgcijejmmhjibaaDoor.T
open Go.RowKit Go.Proofs.YtgcijejmmhjibaaDoorW.PrintWords Go.Proofs.YtgcijejmmhjibaaDoorW.PrintLast Go.Proofs.YtgcijejmmhjibaaDoorW.PrintMore
attribute [local go_sem] max2_int min2_int max_two min_two max_three min_three max_four min_four   -- for this text's walks alone
set_option linter.unusedVariables false
set_option linter.unusedSimpArgs false

/-! ### peristyleref10_Size: function 13 -/
def peristyleref10_Size.l0 : Nat → List Int → List (S75) → List Int → Int → List Int → Int → Int → Option (Int × Int)
  | 0, _, _, _, _, _, _, _ => none
  | k + 1, x0, x1, x2, x9, x18, x19, x20 => if x20 < x19 then (if 0 ≤ x20 then (if x20 < (x18.length : Int) then ((peristyleref10_within.f (rd x18 x20) 0 (wrap64 ((x0.length : Int) - 1))).bind fun t132 => (if t132 = true then (if x20 > 0 then (if 0 ≤ (wrap64 (x20 - 1)) then (if (wrap64 (x20 - 1)) < (x2.length : Int) then (if (rd x18 x20) ≤ (rd x2 (wrap64 (x20 - 1))) then (some (0, 8)) else (if 0 ≤ (rd x18 x20) then (peristyleref10_Size.l0 k x0 x1 x2 (Go.bits .or .i64 x9 (shl .i64 1 (rd x18 x20))) x18 x19 (wrap64 (x20 + 1))) else (none))) else (none)) else (none)) else (if 0 ≤ (rd x18 x20) then (peristyleref10_Size.l0 k x0 x1 x2 (Go.bits .or .i64 x9 (shl .i64 1 (rd x18 x20))) x18 x19 (wrap64 (x20 + 1))) else (none))) else (some (0, 1)))) else (none)) else (none)) else (if (x2.length : Int) = 0 then (some (0, 6)) else ((peristyleref10_size.f k x0 x1 x9).bind fun t130 => (some (t130, 0))))
def peristyleref10_Size.f (k : Nat) (l0 : List Int) (l1 : List (S75)) (l2 : List Int) : Option (Int × Int) := (peristyleref10_checkGraph.f k l0 l1).bind fun t129 => (if t129 = 0 then (peristyleref10_Size.l0 k l0 l1 l2 0 l2 (l2.length : Int) 0) else (some (0, t129)))
theorem peristyleref10_Size.mono_l : ∀ k, (∀ y0 y1 y2 y3 y4 y5 y6, LeO (peristyleref10_Size.l0 k y0 y1 y2 y3 y4 y5 y6) (peristyleref10_Size.l0 (k + 1) y0 y1 y2 y3 y4 y5 y6))
  | 0 => fun _ _ _ _ _ _ _ r h => by simp [peristyleref10_Size.l0] at h
  | k + 1 => by
    have ih0 := peristyleref10_Size.mono_l k
    · intro y0 y1 y2 y3 y4 y5 y6
      unfold peristyleref10_Size.l0
      repeat' first
      | (with_reducible exact ih0 _ _ _ _ _ _ _)
      | (with_reducible exact peristyleref10_checkGraph.mono _ _ _)
      | (with_reducible exact peristyleref10_size.mono _ _ _ _)
      | (with_reducible exact LeO.refl _)
      | (with_reducible exact LeO.none _)
      | (with_reducible refine LeO.ite ?_ ?_)
      | (with_reducible refine LeO.bind ?_ (fun _ => ?_))
      | exact ih0 _ _ _ _ _ _ _
      | exact peristyleref10_checkGraph.mono _ _ _
      | exact peristyleref10_size.mono _ _ _ _
      | exact LeO.none _
      | refine LeO.ite ?_ ?_
      | refine LeO.bind ?_ (fun _ => ?_)
theorem peristyleref10_Size.mono : ∀ a0 a1 a2 k, LeO (peristyleref10_Size.f k a0 a1 a2) (peristyleref10_Size.f (k + 1) a0 a1 a2) := by
  intro a0 a1 a2 k
  have ih0 := peristyleref10_Size.mono_l k
  unfold peristyleref10_Size.f
  repeat' first
      | (with_reducible exact ih0 _ _ _ _ _ _ _)
      | (with_reducible exact peristyleref10_checkGraph.mono _ _ _)
      | (with_reducible exact peristyleref10_size.mono _ _ _ _)
      | (with_reducible exact LeO.refl _)
      | (with_reducible exact LeO.none _)
      | (with_reducible refine LeO.ite ?_ ?_)
      | (with_reducible refine LeO.bind ?_ (fun _ => ?_))
      | exact ih0 _ _ _ _ _ _ _
      | exact peristyleref10_checkGraph.mono _ _ _
      | exact peristyleref10_size.mono _ _ _ _
      | exact LeO.none _
      | refine LeO.ite ?_ ?_
      | refine LeO.bind ?_ (fun _ => ?_)
set_option maxHeartbeats 8000000 in
set_option maxRecDepth 100000 in
theorem peristyleref10_Size.calls (k : Nat) (A0 : Option Addr) (c0 : Nat) (l0 : List Int) (A1 : Option Addr) (c1 : Nat) (l1 : List (S75)) (A2 : Option Addr) (c2 : Nat) (l2 : List Int) (r1 : Int) (r2 : Int) (w : World) (hr0 : Kd.C (Kd.int .i64) w A0 l0.length l0) (hc0 : l0.length ≤ c0) (hr1 : Kd.C k75 w A1 l1.length l1) (hc1 : l1.length ≤ c1) (hr2 : Kd.C (Kd.int .i64) w A2 l2.length l2) (hc2 : l2.length ≤ c2) (h : peristyleref10_Size.f k l0 l1 l2 = some (r1, r2)) :
    Calls Tryd.prog 13 #[.slice A0 l0.length c0, .slice A1 l1.length c1, .slice A2 l2.length c2] w fun e w' => e = .returned (.tuple #[.int .i64 r1, .int .i64 r2]) ∧ Below w.heap.size w w' := by
  have HR0 := Aside0.mk hr0
  have HC0 := Aside0.mk hc0
  clear hr0 hc0
  have HR1 := Aside0.mk hr1
  have HC1 := Aside0.mk hc1
  clear hr1 hc1
  have HR2 := Aside0.mk hr2
  have HC2 := Aside0.mk hc2
  clear hr2 hc2
  have HB := Aside0.mk (Below.refl w.heap.size w)
  have H : ((peristyleref10_checkGraph.f k l0 l1).bind fun t129 => (if t129 = 0 then (peristyleref10_Size.l0 k l0 l1 l2 0 l2 (l2.length : Int) 0) else (some (0, t129)))) = some (r1, r2) := h
  clear h
  replace H := Option.bind_eq_some_iff.mp H
  obtain ⟨t129, A40, H⟩ := H
  replace H : (if t129 = 0 then (peristyleref10_Size.l0 k l0 l1 l2 0 l2 (l2.length : Int) 0) else (some (0, t129))) = some (r1, r2) := H
  have A4 := Aside0.mk A40
  clear A40
  by_cases c5 : t129 = 0
  · rw [if_pos c5] at H
    have c5b0 : (t129 == 0) = true := beq_iff_eq.mpr c5
    have c5b1 : (t129 != 0) = false := bne_eq_false_iff_eq.mpr c5
    clear c5
    have H' := Aside0.mk H
    clear H
    go_enter Tryd.func13, Tryd.ntmps13
    go_wp2_with (first | ((with_reducible refine gate_callee (f := 43) rfl ?_); refine goesL_ (some 14) rfl rfl Tryd.func43 (by kernel_rfl) rfl #[.slice A0 l0.length c0, .slice A1 l1.length c1] rfl (by (try simp only [List.map_toArray, List.map_cons, List.map_nil]); first | done | rfl | (simp only [List.length_drop, List.length_take]; rfl)) ?_; (with_reducible refine (peristyleref10_checkGraph.calls k _ _ l0 _ _ l1 t129 _ ?side1 ?side2 ?side3 ?side4 A4.out).mono ?_); (case side1 => repeat (first | exact HR0.out | (with_reducible refine Kd.C_alloc ?_ _) | (with_reducible refine Kd.C_drewN ?_ _) | (with_reducible refine Kd.C_drew ?_))); (case side2 => exact HC0.out); (case side3 => repeat (first | exact HR1.out | (with_reducible refine Kd.C_alloc ?_ _) | (with_reducible refine Kd.C_drewN ?_ _) | (with_reducible refine Kd.C_drew ?_))); (case side4 => exact HC1.out); rintro e w6 ⟨rfl, hb⟩; refine ⟨_, rfl, ?_⟩; have n0_ := Aside0.mk (below_step (by repeat (first | (with_reducible first | exact HB.out | apply below_alloc | apply pw_below_drewN | apply below_drew1) | exact HB.out)) hb); clear HB; have HB := n0_; clear n0_; (try clear hb); (try clear hb2); (try clear hk); (try clear hi)))
    go_loopg [9, 20] k (fun kq v9 v20 w' => ∃ (x9_1 : Int) (x20_1 : Int), v9 = .int .i64 x9_1 ∧ v20 = .int .i64 x20_1 ∧ Aside0 (peristyleref10_Size.l0 kq l0 l1 l2 x9_1 l2 (l2.length : Int) x20_1 = some (r1, r2)) ∧ Aside0 (kq ≤ k) ∧ Aside0 (Below w.heap.size w w'))
    case atStart => exact ⟨(0), (0), (by first | rfl | (simp; done) | (simp [*]; done)), (by first | rfl | (simp; done) | (simp [*]; done)), H', ⟨Nat.le_refl _⟩, ⟨by repeat (first | (with_reducible first | exact HB.out | apply below_alloc | apply pw_below_drewN | apply below_drew1) | exact HB.out)⟩⟩
    case round =>
      clear H'
      try clear c1
      try clear c2
      try clear p2
      try clear c4
      try clear c5
      try clear c5b0
      try clear c5b1
      obtain ⟨x9_1, x20_1, rfl, rfl, HA, HK1, HB⟩ := hrel
      cases gk with
      | zero => exact absurd HA.out (by simp [peristyleref10_Size.l0])
      | succ k1 =>
        have H := HA.out
        clear HA
        simp only [peristyleref10_Size.l0] at H
        by_cases c7 : x20_1 < (l2.length : Int)
        · rw [if_pos c7] at H
          have c7b0 : decide (x20_1 < (l2.length : Int)) = true := decide_eq_true c7
          clear c7
          by_cases c8 : 0 ≤ x20_1
          · rw [if_pos c8] at H
            have c8b0 : decide (0 ≤ x20_1) = true := decide_eq_true c8
            clear c8
            by_cases c9 : x20_1 < (l2.length : Int)
            · rw [if_pos c9] at H
              have c9b0 : decide (x20_1 < (l2.length : Int)) = true := decide_eq_true c9
              clear c9
              replace H := Option.bind_eq_some_iff.mp H
              obtain ⟨t132, A100, H⟩ := H
              replace H : (if t132 = true then (if x20_1 > 0 then (if 0 ≤ (wrap64 (x20_1 - 1)) then (if (wrap64 (x20_1 - 1)) < (l2.length : Int) then (if (rd l2 x20_1) ≤ (rd l2 (wrap64 (x20_1 - 1))) then (some (0, 8)) else (if 0 ≤ (rd l2 x20_1) then (peristyleref10_Size.l0 k1 l0 l1 l2 (Go.bits .or .i64 x9_1 (shl .i64 1 (rd l2 x20_1))) l2 (l2.length : Int) (wrap64 (x20_1 + 1))) else (none))) else (none)) else (none)) else (if 0 ≤ (rd l2 x20_1) then (peristyleref10_Size.l0 k1 l0 l1 l2 (Go.bits .or .i64 x9_1 (shl .i64 1 (rd l2 x20_1))) l2 (l2.length : Int) (wrap64 (x20_1 + 1))) else (none))) else (some (0, 1))) = some (r1, r2) := H
              have A10 := Aside0.mk A100
              clear A100
              by_cases c11 : t132 = true
              · subst c11
                have H1 : (if x20_1 > 0 then (if 0 ≤ (wrap64 (x20_1 - 1)) then (if (wrap64 (x20_1 - 1)) < (l2.length : Int) then (if (rd l2 x20_1) ≤ (rd l2 (wrap64 (x20_1 - 1))) then (some (0, 8)) else (if 0 ≤ (rd l2 x20_1) then (peristyleref10_Size.l0 k1 l0 l1 l2 (Go.bits .or .i64 x9_1 (shl .i64 1 (rd l2 x20_1))) l2 (l2.length : Int) (wrap64 (x20_1 + 1))) else (none))) else (none)) else (none)) else (if 0 ≤ (rd l2 x20_1) then (peristyleref10_Size.l0 k1 l0 l1 l2 (Go.bits .or .i64 x9_1 (shl .i64 1 (rd l2 x20_1))) l2 (l2.length : Int) (wrap64 (x20_1 + 1))) else (none))) = some (r1, r2) := by rw [if_pos rfl] at H; exact H
                clear H
                have H := H1
                clear H1
                by_cases c12 : x20_1 > 0
                · rw [if_pos c12] at H
                  have c12b0 : decide (0 < x20_1) = true := decide_eq_true c12
                  clear c12
                  obtain ⟨ji13, hji13⟩ : ∃ j_ : Int, (wrap64 (x20_1 - 1)) = j_ := ⟨_, rfl⟩
                  replace H : (if 0 ≤ (ji13) then (if (ji13) < (l2.length : Int) then (if (rd l2 x20_1) ≤ (rd l2 (ji13)) then (some (0, 8)) else (if 0 ≤ (rd l2 x20_1) then (peristyleref10_Size.l0 k1 l0 l1 l2 (Go.bits .or .i64 x9_1 (shl .i64 1 (rd l2 x20_1))) l2 (l2.length : Int) (wrap64 (x20_1 + 1))) else (none))) else (none)) else (none)) = some (r1, r2) := by first | (rw [hji13] at H; exact H) | (simp only [hji13] at H ⊢; exact H)
                  (try rw [hji13] at A10)
                  have hji13w : (IntKind.i64.wrap (x20_1 - 1)) = ji13 := (i64_w _).trans hji13
                  by_cases c14 : 0 ≤ (ji13)
                  · rw [if_pos c14] at H
                    have c14b0 : decide (0 ≤ (ji13)) = true := decide_eq_true c14
                    clear c14
                    by_cases c15 : (ji13) < (l2.length : Int)
                    · rw [if_pos c15] at H
                      have c15b0 : decide ((ji13) < (l2.length : Int)) = true := decide_eq_true c15
                      clear c15
                      by_cases c16 : (rd l2 x20_1) ≤ (rd l2 (ji13))
                      · rw [if_pos c16] at H
                        have c16b0 : decide ((rd l2 x20_1) ≤ (rd l2 (ji13))) = true := decide_eq_true c16
                        clear c16
                        simp only [Option.some.injEq, Prod.mk.injEq] at H
                        obtain ⟨rfl, rfl⟩ := H
                        have p131 : 0 ≤ (x20_1 : Int) := of_decide_eq_true (by first | (with_reducible assumption) | assumption)
                        have q131 : x20_1 < (l2.length : Int) := of_decide_eq_true (by first | (with_reducible assumption) | assumption)
                        obtain ⟨ad131, e131, hx131_0⟩ := Kd.at_int HR2.out x20_1 p131 q131
                        cases e131
                        replace hx131_0 := (HB.out.cell (World.block_lt_of_cell? w _ hx131_0)).trans hx131_0
                        replace p131 := eq_true p131
                        replace q131 := eq_true q131
                        go_wp2_with (first | ((with_reducible refine gate_callee (f := 44) rfl ?_); refine goesL_ (some 29) rfl rfl Tryd.func44 (by kernel_rfl) rfl #[.int .i64 (rd l2 x20_1), .int .i64 0, .int .i64 (wrap64 ((l0.length : Int) - 1))] rfl (by (try simp only [List.map_toArray, List.map_cons, List.map_nil]); first | done | rfl | (simp only [List.length_drop, List.length_take]; rfl)) ?_; (with_reducible refine (peristyleref10_within.calls (rd l2 x20_1) 0 (wrap64 ((l0.length : Int) - 1)) true _ A10.out).mono ?_); rintro e w' ⟨rfl, ⟨nd, rfl⟩⟩; refine ⟨_, rfl, ?_⟩; have p133 : 0 ≤ ((ji13) : Int) := of_decide_eq_true (by first | (with_reducible assumption) | assumption); have q133 : (ji13) < (l2.length : Int) := of_decide_eq_true (by first | (with_reducible assumption) | assumption); obtain ⟨ad133, e133, hx133_0⟩ := Kd.at_int HR2.out (ji13) p133 q133; obtain rfl : ad131 = ad133 := (by injection e133); replace hx133_0 := (HB.out.cell (World.block_lt_of_cell? w _ hx133_0)).trans hx133_0; replace p133 := eq_true p133; replace q133 := eq_true q133))
                        go_ret2
                        exact ⟨by first | rfl | (simp [errW_none, errW_some] <;> rfl) | (simp only [← hji13]; first | rfl | (simp [errW_none, errW_some] <;> rfl)) | (simp [*, errW_none, errW_some] <;> rfl), by repeat (first | (with_reducible first | exact HB.out | apply below_alloc | apply pw_below_drewN | apply below_drew1) | exact HB.out)⟩
                      · rw [if_neg c16] at H
                        have c16b0 : decide ((rd l2 x20_1) ≤ (rd l2 (ji13))) = false := decide_eq_false c16
                        clear c16
                        by_cases c17 : 0 ≤ (rd l2 x20_1)
                        · rw [if_pos c17] at H
                          have c17b0 := eq_true c17
                          have c17b1 : decide (0 ≤ (rd l2 x20_1)) = true := decide_eq_true c17
                          clear c17
                          obtain ⟨ji18, hji18⟩ : ∃ j_ : Int, (shl .i64 1 (rd l2 x20_1)) = j_ := ⟨_, rfl⟩
                          replace H : (peristyleref10_Size.l0 k1 l0 l1 l2 (Go.bits .or .i64 x9_1 (ji18)) l2 (l2.length : Int) (wrap64 (x20_1 + 1))) = some (r1, r2) := by first | (rw [hji18] at H; exact H) | (simp only [hji18] at H ⊢; exact H)
                          (try rw [hji18] at A10)
                          have hji18_ : (IntKind.i64.wrap (1 * 2 ^ min (rd l2 x20_1).toNat 64)) = ji18 := hji18
                          have hji18z : (rd l2 x20_1) ≤ 64 → (IntKind.i64.wrap (1 * 2 ^ (rd l2 x20_1).toNat)) = ji18 := shl_small hji18
                          have hji18u : (IntKind.i64.wrap (2 ^ min (rd l2 x20_1).toNat 64)) = ji18 := by have h_ := hji18_; rw [Int.one_mul] at h_; exact h_
                          have hji18v : (rd l2 x20_1) ≤ 64 → (IntKind.i64.wrap (2 ^ (rd l2 x20_1).toNat)) = ji18 := fun hle_ => by have h_ := hji18z hle_; rw [Int.one_mul] at h_; exact h_
                          have hji18y : (wrap64 (1 * 2 ^ min (rd l2 x20_1).toNat 64)) = ji18 := (i64_w _).symm.trans hji18_
                          have hji18x : (rd l2 x20_1) ≤ 64 → (wrap64 (1 * 2 ^ (rd l2 x20_1).toNat)) = ji18 := fun h_ => (i64_w _).symm.trans (hji18z h_)
                          have H' := Aside0.mk H
                          clear H
                          have p131 : 0 ≤ (x20_1 : Int) := of_decide_eq_true (by first | (with_reducible assumption) | assumption)
                          have q131 : x20_1 < (l2.length : Int) := of_decide_eq_true (by first | (with_reducible assumption) | assumption)
                          obtain ⟨ad131, e131, hx131_0⟩ := Kd.at_int HR2.out x20_1 p131 q131
                          cases e131
                          replace hx131_0 := (HB.out.cell (World.block_lt_of_cell? w _ hx131_0)).trans hx131_0
                          replace p131 := eq_true p131
                          replace q131 := eq_true q131
                          go_wp2_with (first | ((with_reducible refine gate_callee (f := 44) rfl ?_); refine goesL_ (some 29) rfl rfl Tryd.func44 (by kernel_rfl) rfl #[.int .i64 (rd l2 x20_1), .int .i64 0, .int .i64 (wrap64 ((l0.length : Int) - 1))] rfl (by (try simp only [List.map_toArray, List.map_cons, List.map_nil]); first | done | rfl | (simp only [List.length_drop, List.length_take]; rfl)) ?_; (with_reducible refine (peristyleref10_within.calls (rd l2 x20_1) 0 (wrap64 ((l0.length : Int) - 1)) true _ A10.out).mono ?_); rintro e w' ⟨rfl, ⟨nd, rfl⟩⟩; refine ⟨_, rfl, ?_⟩; have p133 : 0 ≤ ((ji13) : Int) := of_decide_eq_true (by first | (with_reducible assumption) | assumption); have q133 : (ji13) < (l2.length : Int) := of_decide_eq_true (by first | (with_reducible assumption) | assumption); obtain ⟨ad133, e133, hx133_0⟩ := Kd.at_int HR2.out (ji13) p133 q133; obtain rfl : ad131 = ad133 := (by injection e133); replace hx133_0 := (HB.out.cell (World.block_lt_of_cell? w _ hx133_0)).trans hx133_0; replace p133 := eq_true p133; replace q133 := eq_true q133))
                          go_roundg k1
                          case measure => have := HK1.out; omega
                          case rel => exact ⟨(Go.bits .or .i64 x9_1 (ji18)), (wrap64 (x20_1 + 1)), (by first | rfl | (simp; done) | (simp only [← hji18] <;> (first | rfl | simp)) | (simp [*]; done)), (by first | rfl | (simp; done) | (simp [*]; done)), H', ⟨by have := HK1.out; omega⟩, ⟨by repeat (first | (with_reducible first | exact HB.out | apply below_alloc | apply pw_below_drewN | apply below_drew1) | exact HB.out)⟩⟩
                        · rw [if_neg c17] at H
                          exact absurd H (by simp)
                    · rw [if_neg c15] at H
                      exact absurd H (by simp)
                  · rw [if_neg c14] at H
                    exact absurd H (by simp)
                · rw [if_neg c12] at H
                  have c12b0 : decide (0 < x20_1) = false := decide_eq_false c12
                  clear c12
                  by_cases c19 : 0 ≤ (rd l2 x20_1)
                  · rw [if_pos c19] at H
                    have c19b0 := eq_true c19
                    have c19b1 : decide (0 ≤ (rd l2 x20_1)) = true := decide_eq_true c19
                    clear c19
                    obtain ⟨ji20, hji20⟩ : ∃ j_ : Int, (shl .i64 1 (rd l2 x20_1)) = j_ := ⟨_, rfl⟩
                    replace H : (peristyleref10_Size.l0 k1 l0 l1 l2 (Go.bits .or .i64 x9_1 (ji20)) l2 (l2.length : Int) (wrap64 (x20_1 + 1))) = some (r1, r2) := by first | (rw [hji20] at H; exact H) | (simp only [hji20] at H ⊢; exact H)
                    (try rw [hji20] at A10)
                    have hji20_ : (IntKind.i64.wrap (1 * 2 ^ min (rd l2 x20_1).toNat 64)) = ji20 := hji20
                    have hji20z : (rd l2 x20_1) ≤ 64 → (IntKind.i64.wrap (1 * 2 ^ (rd l2 x20_1).toNat)) = ji20 := shl_small hji20
                    have hji20u : (IntKind.i64.wrap (2 ^ min (rd l2 x20_1).toNat 64)) = ji20 := by have h_ := hji20_; rw [Int.one_mul] at h_; exact h_
                    have hji20v : (rd l2 x20_1) ≤ 64 → (IntKind.i64.wrap (2 ^ (rd l2 x20_1).toNat)) = ji20 := fun hle_ => by have h_ := hji20z hle_; rw [Int.one_mul] at h_; exact h_
                    have hji20y : (wrap64 (1 * 2 ^ min (rd l2 x20_1).toNat 64)) = ji20 := (i64_w _).symm.trans hji20_
                    have hji20x : (rd l2 x20_1) ≤ 64 → (wrap64 (1 * 2 ^ (rd l2 x20_1).toNat)) = ji20 := fun h_ => (i64_w _).symm.trans (hji20z h_)
                    have H' := Aside0.mk H
                    clear H
                    have p131 : 0 ≤ (x20_1 : Int) := of_decide_eq_true (by first | (with_reducible assumption) | assumption)
                    have q131 : x20_1 < (l2.length : Int) := of_decide_eq_true (by first | (with_reducible assumption) | assumption)
                    obtain ⟨ad131, e131, hx131_0⟩ := Kd.at_int HR2.out x20_1 p131 q131
                    cases e131
                    replace hx131_0 := (HB.out.cell (World.block_lt_of_cell? w _ hx131_0)).trans hx131_0
                    replace p131 := eq_true p131
                    replace q131 := eq_true q131
                    go_wp2_with (first | ((with_reducible refine gate_callee (f := 44) rfl ?_); refine goesL_ (some 29) rfl rfl Tryd.func44 (by kernel_rfl) rfl #[.int .i64 (rd l2 x20_1), .int .i64 0, .int .i64 (wrap64 ((l0.length : Int) - 1))] rfl (by (try simp only [List.map_toArray, List.map_cons, List.map_nil]); first | done | rfl | (simp only [List.length_drop, List.length_take]; rfl)) ?_; (with_reducible refine (peristyleref10_within.calls (rd l2 x20_1) 0 (wrap64 ((l0.length : Int) - 1)) true _ A10.out).mono ?_); rintro e w' ⟨rfl, ⟨nd, rfl⟩⟩; refine ⟨_, rfl, ?_⟩))
                    go_roundg k1
                    case measure => have := HK1.out; omega
                    case rel => exact ⟨(Go.bits .or .i64 x9_1 (ji20)), (wrap64 (x20_1 + 1)), (by first | rfl | (simp; done) | (simp only [← hji20] <;> (first | rfl | simp)) | (simp [*]; done)), (by first | rfl | (simp; done) | (simp [*]; done)), H', ⟨by have := HK1.out; omega⟩, ⟨by repeat (first | (with_reducible first | exact HB.out | apply below_alloc | apply pw_below_drewN | apply below_drew1) | exact HB.out)⟩⟩
                  · rw [if_neg c19] at H
                    exact absurd H (by simp)
              · replace c11 := Bool.eq_false_iff.mpr c11
                subst c11
                have H1 : (some (0, 1)) = some (r1, r2) := by rw [if_neg (show ¬ (false = true) by decide)] at H; exact H
                clear H
                have H := H1
                clear H1
                simp only [Option.some.injEq, Prod.mk.injEq] at H
                obtain ⟨rfl, rfl⟩ := H
                have p131 : 0 ≤ (x20_1 : Int) := of_decide_eq_true (by first | (with_reducible assumption) | assumption)
                have q131 : x20_1 < (l2.length : Int) := of_decide_eq_true (by first | (with_reducible assumption) | assumption)
                obtain ⟨ad131, e131, hx131_0⟩ := Kd.at_int HR2.out x20_1 p131 q131
                cases e131
                replace hx131_0 := (HB.out.cell (World.block_lt_of_cell? w _ hx131_0)).trans hx131_0
                replace p131 := eq_true p131
                replace q131 := eq_true q131
                go_wp2_with (first | ((with_reducible refine gate_callee (f := 44) rfl ?_); refine goesL_ (some 29) rfl rfl Tryd.func44 (by kernel_rfl) rfl #[.int .i64 (rd l2 x20_1), .int .i64 0, .int .i64 (wrap64 ((l0.length : Int) - 1))] rfl (by (try simp only [List.map_toArray, List.map_cons, List.map_nil]); first | done | rfl | (simp only [List.length_drop, List.length_take]; rfl)) ?_; (with_reducible refine (peristyleref10_within.calls (rd l2 x20_1) 0 (wrap64 ((l0.length : Int) - 1)) false _ A10.out).mono ?_); rintro e w' ⟨rfl, ⟨nd, rfl⟩⟩; refine ⟨_, rfl, ?_⟩))
                go_ret2
                exact ⟨by first | rfl | (simp [errW_none, errW_some] <;> rfl) | (simp [*, errW_none, errW_some] <;> rfl), by repeat (first | (with_reducible first | exact HB.out | apply below_alloc | apply pw_below_drewN | apply below_drew1) | exact HB.out)⟩
            · rw [if_neg c9] at H
              exact absurd H (by simp)
          · rw [if_neg c8] at H
            exact absurd H (by simp)
        · rw [if_neg c7] at H
          have c7b0 : decide (x20_1 < (l2.length : Int)) = false := decide_eq_false c7
          clear c7
          by_cases c21 : (l2.length : Int) = 0
          · rw [if_pos c21] at H
            have c21b0 : ((l2.length : Int) == 0) = true := beq_iff_eq.mpr c21
            have c21b1 : ((l2.length : Int) != 0) = false := bne_eq_false_iff_eq.mpr c21
            clear c21
            simp only [Option.some.injEq, Prod.mk.injEq] at H
            obtain ⟨rfl, rfl⟩ := H
            go_wp2
            go_ret2
            exact ⟨by first | rfl | (simp [errW_none, errW_some] <;> rfl) | (simp [*, errW_none, errW_some] <;> rfl), by repeat (first | (with_reducible first | exact HB.out | apply below_alloc | apply pw_below_drewN | apply below_drew1) | exact HB.out)⟩
          · rw [if_neg c21] at H
            have c21b0 : ((l2.length : Int) == 0) = false := beq_eq_false_iff_ne.mpr c21
            have c21b1 : ((l2.length : Int) != 0) = true := bne_iff_ne.mpr c21
            have c21b2 : ¬ (l2 = []) := fun h_ => c21 (by rw [h_]; rfl)
            replace H := Option.bind_eq_some_iff.mp H
            obtain ⟨t130, A220, H⟩ := H
            replace H : (some (t130, 0)) = some (r1, r2) := H
            have A22 := Aside0.mk A220
            clear A220
            simp only [Option.some.injEq, Prod.mk.injEq] at H
            obtain ⟨rfl, rfl⟩ := H
            go_wp2_with (first | ((with_reducible refine gate_callee (f := 45) rfl ?_); refine goesL_ (some 53) rfl rfl Tryd.func45 (by kernel_rfl) rfl #[.slice A0 l0.length c0, .slice A1 l1.length c1, .int .i64 x9_1] rfl (by (try simp only [List.map_toArray, List.map_cons, List.map_nil]); first | done | rfl | (simp only [List.length_drop, List.length_take]; rfl)) ?_; (with_reducible refine (peristyleref10_size.calls k1 _ _ l0 _ _ l1 x9_1 t130 _ ?side1 ?side2 ?side3 ?side4 A22.out).mono ?_); (case side1 => repeat (first | exact (Kd.C_below HR0.out HB.out) | (with_reducible refine Kd.C_alloc ?_ _) | (with_reducible refine Kd.C_drewN ?_ _) | (with_reducible refine Kd.C_drew ?_))); (case side2 => exact HC0.out); (case side3 => repeat (first | exact (Kd.C_below HR1.out HB.out) | (with_reducible refine Kd.C_alloc ?_ _) | (with_reducible refine Kd.C_drewN ?_ _) | (with_reducible refine Kd.C_drew ?_))); (case side4 => exact HC1.out); rintro e w23 ⟨rfl, hb⟩; refine ⟨_, rfl, ?_⟩; have n0_ := Aside0.mk (below_step (by repeat (first | (with_reducible first | exact HB.out | apply below_alloc | apply pw_below_drewN | apply below_drew1) | exact HB.out)) hb); clear HB; have HB := n0_; clear n0_; (try clear hb); (try clear hb2); (try clear hk); (try clear hi)))
            go_ret2
            exact ⟨by first | rfl | (simp [errW_none, errW_some] <;> rfl) | (simp [*, errW_none, errW_some] <;> rfl), by repeat (first | (with_reducible first | exact HB.out | apply below_alloc | apply pw_below_drewN | apply below_drew1) | exact HB.out)⟩
  · rw [if_neg c5] at H
    have c5b0 : (t129 == 0) = false := beq_eq_false_iff_ne.mpr c5
    have c5b1 : (t129 != 0) = true := bne_iff_ne.mpr c5
    simp only [Option.some.injEq, Prod.mk.injEq] at H
    obtain ⟨rfl, rfl⟩ := H
    go_enter Tryd.func13, Tryd.ntmps13
    go_wp2_with (first | ((with_reducible refine gate_callee (f := 43) rfl ?_); refine goesL_ (some 14) rfl rfl Tryd.func43 (by kernel_rfl) rfl #[.slice A0 l0.length c0, .slice A1 l1.length c1] rfl (by (try simp only [List.map_toArray, List.map_cons, List.map_nil]); first | done | rfl | (simp only [List.length_drop, List.length_take]; rfl)) ?_; (with_reducible refine (peristyleref10_checkGraph.calls k _ _ l0 _ _ l1 t129 _ ?side1 ?side2 ?side3 ?side4 A4.out).mono ?_); (case side1 => repeat (first | exact HR0.out | (with_reducible refine Kd.C_alloc ?_ _) | (with_reducible refine Kd.C_drewN ?_ _) | (with_reducible refine Kd.C_drew ?_))); (case side2 => exact HC0.out); (case side3 => repeat (first | exact HR1.out | (with_reducible refine Kd.C_alloc ?_ _) | (with_reducible refine Kd.C_drewN ?_ _) | (with_reducible refine Kd.C_drew ?_))); (case side4 => exact HC1.out); rintro e w24 ⟨rfl, hb⟩; refine ⟨_, rfl, ?_⟩; have n0_ := Aside0.mk (below_step (by repeat (first | (with_reducible first | exact HB.out | apply below_alloc | apply pw_below_drewN | apply below_drew1) | exact HB.out)) hb); clear HB; have HB := n0_; clear n0_; (try clear hb); (try clear hb2); (try clear hk); (try clear hi)))
    go_ret2
    exact ⟨by first | rfl | (simp [errW_none, errW_some] <;> rfl) | (simp [*, errW_none, errW_some] <;> rfl), by repeat (first | (with_reducible first | exact HB.out | apply below_alloc | apply pw_below_drewN | apply below_drew1) | exact HB.out)⟩

end Go.Proofs.YtgcijejmmhjibaaDoor.T
