/- peristyle/peristylelaw10.CostBestIsBest: for every input the call of the law CostBestIsBest returns true, and each argument reads behind the call as it read before; conditions: none beside those that the given row itself bears. -/
import Derived.Test.YtgcijejmmhjibaaDoorRows
import Derived.Test.YtgcijejmmhjibaaDoorBx8
import Derived.Test.YtgcijejmmhjibaaDoorBo
import Derived.Test.YtgcijejmmhjibaaDoorPureCostBestIsBest
import Derived.Test.YtgcijejmmhjibaaDoorTie
import Derived.Test.YtgcijejmmhjibaaDoorCards
import Derived.SevenTiedAt
namespace Go.Proofs.YtgcijejmmhjibaaDoor.B.costBestIsBest
open Go.ChangeShapes Go.WideShapes Go.ChangeAt Go.RowKit Go.Proofs.YtgcijejmmhjibaaDoorW.PrintWords Go.Proofs.YtgcijejmmhjibaaDoorW.PrintLast Go.Proofs.YtgcijejmmhjibaaDoorW.PrintMore
open Go.ChangeMaps (open_string shut_string)
set_option linter.unusedVariables false
set_option linter.unusedSimpArgs false
theorem own : ownKnob Tryd.prog.godebug = none := by kernel_rfl
theorem laidOut : laidOutB Tryd.prog = true := by kernel_rfl
abbrev laids : List (String × DataW Unit) := [("math/bits.deBruijn32tab", Rows.laid_math_bits_deBruijn32tab), ("math/bits.deBruijn64tab", Rows.laid_math_bits_deBruijn64tab)]
theorem door_met (os : Os) (args : Array Value) : laidMetH Tryd.prog laids ((World.doorLaid Tryd.prog 400 os).forCall (fun _ _ => 0) ⟨#[], args, []⟩).memory :=
  laidMetH_of_parts3 (fuel := 8) (laidMet_of_run' 8 (by kernel_rfl) (by kernel_rfl)) (by kernel_rfl) (by kernel_rfl)
theorem glob {W : World} (hL : laidMetH Tryd.prog laids W) : Glob W := by
  rw [MakeChecks.laidMetH_plain _ _ _ (by kernel_rfl)] at hL
  exact Lib.tabIs_of_head (zs := Lib.deBruijn64tab.map Int.ofNat) glob_named (by kernel_rfl) Tryd.underlying155 Tryd.underlying5 (by kernel_rfl) (by kernel_rfl) (laidMet.tail (hL))
set_option maxRecDepth 100000 in
theorem lifted (os : Os) (started : os.Started) (H : Type) (enc : TypeId × Value → H) :
    ReturnsInHanded {} Tryd.checked os 5 .any (fun w args => (Rows.costBestIsBestSpec.pre enc Tryd.prog Tryd.f5 [] false w args ∧ laidMetH Tryd.prog laids w) ∧ sizedMet enc Tryd.prog Tryd.f5 (OpenSpec.ofChange Rows.costBestIsBestSpec) false w args)
      (Rows.costBestIsBestSpec.post enc Tryd.prog Tryd.f5 false true false false) := by
  refine returnsInHanded_of_change_and (C := Tryd.checked) (X := fun w _ => laidMetH Tryd.prog laids w) (fun _ _ _ hh h => h.of_heap hh) own started (by kernel_rfl) Tryd.func5
    (ChangeSpec.witness_shaped (enc := enc) (C := Tryd.checked) (os := os) (X := fun w _ => laidMetH Tryd.prog laids w) false (World.doorLaid Tryd.prog 400 os) #[.slice none 0 0, .slice none 0 0, .slice none 0 0] 8 rfl (World.shaped_of_RefB (by kernel_rfl) (by kernel_rfl)) (by kernel_rfl) (by kernel_rfl) (by kernel_rfl) (door_met os _)) ?_
  intro W base args ds gs before hval0 hW _ _ hL _
  have hG := glob hL
  have hval : ∀ (j : Nat) t v, Tryd.f5.params[j]? = some t → args[j]? = some v → Value.okWide Tryd.prog W .any base t v := hval0
  have hW' := hW
  obtain ⟨p, q, hA0, hV, rfl, hfz, hnd⟩ := hW
  have hA : DataW.TrodAll enc Tryd.prog W 0 (fun _ => true) true Tryd.f5.params.toList args.toList ds p := hA0
  rw [Tryd.params5] at hA hval
  obtain ⟨v0, vs0, d0, ds0, p0, q0, hargs, rfl, rfl, h0, r0⟩ := trodAll_cons hA
  obtain ⟨v1, vs1, d1, ds1, p1, q1, rfl, rfl, rfl, h1, r1⟩ := trodAll_cons r0
  obtain ⟨v2, vs2, d2, ds2, p2, q2, rfl, rfl, rfl, h2, r2⟩ := trodAll_cons r1
  obtain ⟨rfl, rfl, rfl⟩ := trodAll_nil r2
  obtain rfl : args = #[v0, v1, v2] := by cases args; simp_all
  obtain ⟨rfl, rfl⟩ := trodVars_none hV
  have k0 := h0
  have lt0 : ∀ x ∈ p0, x.block < W.heap.size := by obtain ⟨m, hm⟩ := k0; exact DataW.trod_lt m _ _ _ hm
  obtain ⟨a0, len0, cap0, rfl⟩ := okWide_slice Tryd.underlying22 (hval 0 22 v0 rfl rfl)
  obtain ⟨l0, ⟨A0, c0, hcs0, hc0, hr0⟩, ok0⟩ : ∃ l : List Int, (Kd.slice 3 (Kd.int .i64)).K W l [.slice a0 len0 cap0] ∧ (∀ z1 ∈ l, (Lit.int .i64 z1).wf = true) := by
    obtain ⟨m, hm⟩ := k0
    exact ((opens_slice Tryd.underlying22 (by kernel_rfl) (opens_int Tryd.underlying3)) : OpensK enc Tryd.prog W 22 (Kd.slice 3 (Kd.int .i64)) (fun x => (∀ z1 ∈ x, (Lit.int .i64 z1).wf = true))) m _ _ hm
  simp only [List.cons.injEq, Value.slice.injEq, and_true] at hcs0
  obtain ⟨rfl, rfl, rfl⟩ := hcs0
  have k1 := h1
  have lt1 : ∀ x ∈ p1, x.block < W.heap.size := by obtain ⟨m, hm⟩ := k1; exact DataW.trod_lt m _ _ _ hm
  obtain ⟨a1, len1, cap1, rfl⟩ := okWide_slice Tryd.underlying23 (hval 1 23 v1 rfl rfl)
  obtain ⟨l1, ⟨A1, c1, hcs1, hc1, hr1⟩, ok1⟩ : ∃ l : List (S75), (Kd.slice 75 k75).K W l [.slice a1 len1 cap1] ∧ (∀ z1 ∈ l, ok75 z1) := by
    obtain ⟨m, hm⟩ := k1
    exact ((opens_slice Tryd.underlying23 (by kernel_rfl) opens75) : OpensK enc Tryd.prog W 23 (Kd.slice 75 k75) (fun x => (∀ z1 ∈ x, ok75 z1))) m _ _ hm
  simp only [List.cons.injEq, Value.slice.injEq, and_true] at hcs1
  obtain ⟨rfl, rfl, rfl⟩ := hcs1
  have k2 := h2
  have lt2 : ∀ x ∈ p2, x.block < W.heap.size := by obtain ⟨m, hm⟩ := k2; exact DataW.trod_lt m _ _ _ hm
  obtain ⟨a2, len2, cap2, rfl⟩ := okWide_slice Tryd.underlying22 (hval 2 22 v2 rfl rfl)
  obtain ⟨l2, ⟨A2, c2, hcs2, hc2, hr2⟩, ok2⟩ : ∃ l : List Int, (Kd.slice 3 (Kd.int .i64)).K W l [.slice a2 len2 cap2] ∧ (∀ z1 ∈ l, (Lit.int .i64 z1).wf = true) := by
    obtain ⟨m, hm⟩ := k2
    exact ((opens_slice Tryd.underlying22 (by kernel_rfl) (opens_int Tryd.underlying3)) : OpensK enc Tryd.prog W 22 (Kd.slice 3 (Kd.int .i64)) (fun x => (∀ z1 ∈ x, (Lit.int .i64 z1).wf = true))) m _ _ hm
  simp only [List.cons.injEq, Value.slice.injEq, and_true] at hcs2
  obtain ⟨rfl, rfl, rfl⟩ := hcs2
  clear hA0 hval0
  simp only [List.append_nil] at hW'
  obtain ⟨k, h⟩ := Go.Proofs.YtgcijejmmhjibaaDoor.B.Pure.CostBestIsBest l0 l1 l2 (Kd.C_max hr0) ok0 (Kd.C_max hr1) ok1 (Kd.C_max hr2) ok2
  refine (peristylelaw10_CostBestIsBest.calls k _ _ l0 _ _ l1 _ _ l2 true W hr0 hc0 hr1 hc1 hr2 hc2 hG h).mono fun e W' ⟨he, bel0⟩ => ?_
  have bel := bel0
  subst he
  exact ⟨_, rfl, _, _, _, [], _, [], hW', trodAll_mk1 (shut_bool Tryd.underlying4 _), (trodAll_cons_mk (Below.trod laidOut (by kernel_rfl) (of_decide_eq_true (by kernel_rfl)) k0 bel lt0) (trodAll_cons_mk (Below.trod laidOut (by kernel_rfl) (of_decide_eq_true (by kernel_rfl)) k1 bel lt1) (trodAll_cons_mk (Below.trod laidOut (by kernel_rfl) (of_decide_eq_true (by kernel_rfl)) k2 bel lt2) trodAll_mk0))), rfl, bel.frame _, fun h => by cases h⟩
theorem over : Rows.costBestIsBestRow.holds Tryd.pinned (OpenSpec.ofChange Rows.costBestIsBestSpec) :=
  OpenClaim.holds_of_wide 5 Tryd.f5 rfl rfl rfl rfl rfl rfl rfl ⟨rfl, rfl, rfl, rfl, rfl⟩ rfl rfl rfl rfl rfl (by kernel_rfl) Tryd.func5 (by kernel_rfl)
    (of_decide_eq_true (by kernel_rfl)) (by unfold Func.isWrapper; first | (rw [if_pos (by decide +kernel)]; kernel_rfl) | (rw [if_neg (by decide +kernel)]; exact ⟨rfl, rfl⟩))
    (fun os started H enc _ => lifted os started H enc)
end Go.Proofs.YtgcijejmmhjibaaDoor.B.costBestIsBest
namespace Go.Proofs.YtgcijejmmhjibaaDoor
open Go
theorem costBestIsBest_card : Rows.CostBestIsBestCardSaid :=
  Claim7.holds_tied_plain_at .later [] [.data, .data] true (true, "aa68b2f94afb3aaa2f5b2f836d69f388ad7b35e471de56ddddf3aefa16189c9b") false
    Go.Proofs.YtgcijejmmhjibaaDoor.B.costBestIsBest.over (fun _ h => by cases h) (by kernel_rfl) (fun _ h => by cases h) costBestIsBest_row_tie rfl ⟨rfl, rfl⟩ (by kernel_rfl) rfl
    (fun f fn hf hfn => by
      obtain rfl : f = 5 := Option.some.inj ((show Tryd.prog.funcNamed "peristyle/peristylelaw10.CostBestIsBest" = some 5 by kernel_rfl).symm.trans hf) |>.symm
      obtain rfl : fn = Tryd.f5 := (Option.some.inj (Tryd.func5.symm.trans hfn)).symm
      exact ⟨by kernel_rfl, fun j t ht => by
        rw [Tryd.params5] at ht
        have hm : t ∈ [22, 23, 22] := by simpa using Array.mem_of_getElem? ht
        have hall : ([22, 23, 22].all fun u => !Tryd.prog.wantsStandIn u) = true := by kernel_rfl
        exact (show Tryd.prog.wantsStandIn t = false by simpa using List.all_eq_true.1 hall t hm)⟩)
    (by kernel_rfl)
#print axioms costBestIsBest_card
end Go.Proofs.YtgcijejmmhjibaaDoor
