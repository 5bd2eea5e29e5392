/- peristyle/peristylelaw10.StatsJoinsMatchSpec: for every input the call of the law StatsJoinsMatchSpec returns true, and each argument reads behind the call as it read before; conditions: none beside those that the given row itself bears. -/
import Derived.Test.YtgcijejmmhjibaaDoorRows
import Derived.Test.YtgcijejmmhjibaaDoorJx19
import Derived.Test.YtgcijejmmhjibaaDoorJo
import Derived.Test.YtgcijejmmhjibaaDoorPureStatsJoinsMatchSpec
import Derived.Test.YtgcijejmmhjibaaDoorTie
import Derived.Test.YtgcijejmmhjibaaDoorCards
import Derived.SevenTiedAt
namespace Go.Proofs.YtgcijejmmhjibaaDoor.J.statsJoinsMatchSpec
open Go.ChangeShapes Go.WideShapes Go.ChangeAt Go.RowKit Go.Proofs.YtgcijejmmhjibaaDoorW.PrintWords Go.Proofs.YtgcijejmmhjibaaDoorW.PrintLast Go.Proofs.YtgcijejmmhjibaaDoorW.PrintMore
open Go.ChangeMaps (open_string shut_string)
set_option linter.unusedVariables false
set_option linter.unusedSimpArgs false
theorem own : ownKnob Tryd.prog.godebug = none := by kernel_rfl
theorem laidOut : laidOutB Tryd.prog = true := by kernel_rfl
abbrev laids : List (String × DataW Unit) := [("math/bits.deBruijn32tab", Rows.laid_math_bits_deBruijn32tab), ("math/bits.deBruijn64tab", Rows.laid_math_bits_deBruijn64tab)]
theorem door_met (os : Os) (args : Array Value) : laidMetH Tryd.prog laids ((World.doorLaid Tryd.prog 400 os).forCall (fun _ _ => 0) ⟨#[], args, []⟩).memory :=
  laidMetH_of_parts3 (fuel := 8) (laidMet_of_run' 8 (by kernel_rfl) (by kernel_rfl)) (by kernel_rfl) (by kernel_rfl)
theorem glob {W : World} (hL : laidMetH Tryd.prog laids W) : Glob W := by
  rw [MakeChecks.laidMetH_plain _ _ _ (by kernel_rfl)] at hL
  exact Lib.tabIs_of_head (zs := Lib.deBruijn64tab.map Int.ofNat) glob_named (by kernel_rfl) Tryd.underlying155 Tryd.underlying5 (by kernel_rfl) (by kernel_rfl) (laidMet.tail (hL))
set_option maxRecDepth 100000 in
theorem lifted (os : Os) (started : os.Started) (H : Type) (enc : TypeId × Value → H) :
    ReturnsInHanded {} Tryd.checked os 7 .any (fun w args => (Rows.statsJoinsMatchSpecSpec.pre enc Tryd.prog Tryd.f7 [] false w args ∧ laidMetH Tryd.prog laids w) ∧ sizedMet enc Tryd.prog Tryd.f7 (OpenSpec.ofChange Rows.statsJoinsMatchSpecSpec) false w args)
      (Rows.statsJoinsMatchSpecSpec.post enc Tryd.prog Tryd.f7 false true false false) := by
  refine returnsInHanded_of_change_and (C := Tryd.checked) (X := fun w _ => laidMetH Tryd.prog laids w) (fun _ _ _ hh h => h.of_heap hh) own started (by kernel_rfl) Tryd.func7
    (ChangeSpec.witness_shaped (enc := enc) (C := Tryd.checked) (os := os) (X := fun w _ => laidMetH Tryd.prog laids w) false (World.doorLaid Tryd.prog 400 os) #[.int .i64 0, .agg #[.int .i64 0, .int .i64 0, .slice none 0 0, .slice none 0 0], .agg #[.int .i64 0, .int .i64 0, .slice none 0 0, .slice none 0 0]] 8 rfl (World.shaped_of_RefB (by kernel_rfl) (by kernel_rfl)) (by kernel_rfl) (by kernel_rfl) (by kernel_rfl) (door_met os _)) ?_
  intro W base args ds gs before hval0 hW _ _ hL _
  have hG := glob hL
  have hval : ∀ (j : Nat) t v, Tryd.f7.params[j]? = some t → args[j]? = some v → Value.okWide Tryd.prog W .any base t v := hval0
  have hW' := hW
  obtain ⟨p, q, hA0, hV, rfl, hfz, hnd⟩ := hW
  have hA : DataW.TrodAll enc Tryd.prog W 0 (fun _ => true) true Tryd.f7.params.toList args.toList ds p := hA0
  rw [Tryd.params7] at hA hval
  obtain ⟨v0, vs0, d0, ds0, p0, q0, hargs, rfl, rfl, h0, r0⟩ := trodAll_cons hA
  obtain ⟨v1, vs1, d1, ds1, p1, q1, rfl, rfl, rfl, h1, r1⟩ := trodAll_cons r0
  obtain ⟨v2, vs2, d2, ds2, p2, q2, rfl, rfl, rfl, h2, r2⟩ := trodAll_cons r1
  obtain ⟨rfl, rfl, rfl⟩ := trodAll_nil r2
  obtain rfl : args = #[v0, v1, v2] := by cases args; simp_all
  obtain ⟨rfl, rfl⟩ := trodVars_none hV
  have k0 := h0
  have lt0 : ∀ x ∈ p0, x.block < W.heap.size := by obtain ⟨m, hm⟩ := k0; exact DataW.trod_lt m _ _ _ hm
  obtain ⟨a0, rfl, rfl, rfl, w0⟩ := open_int Tryd.underlying3 (hval 0 3 v0 rfl rfl) h0
  have k1 := h1
  have lt1 : ∀ x ∈ p1, x.block < W.heap.size := by obtain ⟨m, hm⟩ := k1; exact DataW.trod_lt m _ _ _ hm
  obtain ⟨cs1, rfl, _⟩ := okWide_struct Tryd.underlying44 (hval 1 44 v1 rfl rfl)
  obtain ⟨x1, hx1, ok1⟩ : ∃ x : S44, k44.K W x cs1.toList ∧ ok44 x := by
    obtain ⟨m, hm⟩ := k1
    exact (opens44 : OpensK enc Tryd.prog W 44 k44 ok44) m _ _ hm
  obtain ⟨cs1⟩ := cs1
  obtain ⟨A1_2, c1_2, A1_3, c1_3, hcs1, hc1_2, hr1_2, hc1_3, hr1_3⟩ := k44_open hx1
  dsimp only at hcs1
  subst hcs1
  have k2 := h2
  have lt2 : ∀ x ∈ p2, x.block < W.heap.size := by obtain ⟨m, hm⟩ := k2; exact DataW.trod_lt m _ _ _ hm
  obtain ⟨cs2, rfl, _⟩ := okWide_struct Tryd.underlying44 (hval 2 44 v2 rfl rfl)
  obtain ⟨x2, hx2, ok2⟩ : ∃ x : S44, k44.K W x cs2.toList ∧ ok44 x := by
    obtain ⟨m, hm⟩ := k2
    exact (opens44 : OpensK enc Tryd.prog W 44 k44 ok44) m _ _ hm
  obtain ⟨cs2⟩ := cs2
  obtain ⟨A2_2, c2_2, A2_3, c2_3, hcs2, hc2_2, hr2_2, hc2_3, hr2_3⟩ := k44_open hx2
  dsimp only at hcs2
  subst hcs2
  clear hA0 hval0
  simp only [List.append_nil] at hW'
  obtain ⟨k, h⟩ := Go.Proofs.YtgcijejmmhjibaaDoor.J.Pure.StatsJoinsMatchSpec a0 x1 x2 w0 ok1 ok2
  refine (peristylelaw10_StatsJoinsMatchSpec.calls k a0 x1.f0 x1.f1 _ _ x1.f2 _ _ x1.f3 x2.f0 x2.f1 _ _ x2.f2 _ _ x2.f3 true W hr1_2 hc1_2 hr1_3 hc1_3 hr2_2 hc2_2 hr2_3 hc2_3 hG h).mono fun e W' ⟨he, bel0⟩ => ?_
  have bel := bel0
  subst he
  exact ⟨_, rfl, _, _, _, [], _, [], hW', trodAll_mk1 (shut_bool Tryd.underlying4 _), (trodAll_cons_mk (Below.trod laidOut (by kernel_rfl) (of_decide_eq_true (by kernel_rfl)) k0 bel lt0) (trodAll_cons_mk (Below.trod laidOut (by kernel_rfl) (of_decide_eq_true (by kernel_rfl)) k1 bel lt1) (trodAll_cons_mk (Below.trod laidOut (by kernel_rfl) (of_decide_eq_true (by kernel_rfl)) k2 bel lt2) trodAll_mk0))), rfl, bel.frame _, fun h => by cases h⟩
theorem over : Rows.statsJoinsMatchSpecRow.holds Tryd.pinned (OpenSpec.ofChange Rows.statsJoinsMatchSpecSpec) :=
  OpenClaim.holds_of_wide 7 Tryd.f7 rfl rfl rfl rfl rfl rfl rfl ⟨rfl, rfl, rfl, rfl, rfl⟩ rfl rfl rfl rfl rfl (by kernel_rfl) Tryd.func7 (by kernel_rfl)
    (of_decide_eq_true (by kernel_rfl)) (by unfold Func.isWrapper; first | (rw [if_pos (by decide +kernel)]; kernel_rfl) | (rw [if_neg (by decide +kernel)]; exact ⟨rfl, rfl⟩))
    (fun os started H enc _ => lifted os started H enc)
end Go.Proofs.YtgcijejmmhjibaaDoor.J.statsJoinsMatchSpec
namespace Go.Proofs.YtgcijejmmhjibaaDoor
open Go
theorem statsJoinsMatchSpec_card : Rows.StatsJoinsMatchSpecCardSaid :=
  Claim7.holds_tied_plain_at .later [] [.data, .data] true (true, "aa68b2f94afb3aaa2f5b2f836d69f388ad7b35e471de56ddddf3aefa16189c9b") false
    Go.Proofs.YtgcijejmmhjibaaDoor.J.statsJoinsMatchSpec.over (fun _ h => by cases h) (by kernel_rfl) (fun _ h => by cases h) statsJoinsMatchSpec_row_tie rfl ⟨rfl, rfl⟩ (by kernel_rfl) rfl
    (fun f fn hf hfn => by
      obtain rfl : f = 7 := Option.some.inj ((show Tryd.prog.funcNamed "peristyle/peristylelaw10.StatsJoinsMatchSpec" = some 7 by kernel_rfl).symm.trans hf) |>.symm
      obtain rfl : fn = Tryd.f7 := (Option.some.inj (Tryd.func7.symm.trans hfn)).symm
      exact ⟨by kernel_rfl, fun j t ht => by
        rw [Tryd.params7] at ht
        have hm : t ∈ [3, 44, 44] := by simpa using Array.mem_of_getElem? ht
        have hall : ([3, 44, 44].all fun u => !Tryd.prog.wantsStandIn u) = true := by kernel_rfl
        exact (show Tryd.prog.wantsStandIn t = false by simpa using List.all_eq_true.1 hall t hm)⟩)
    (by kernel_rfl)
#print axioms statsJoinsMatchSpec_card
end Go.Proofs.YtgcijejmmhjibaaDoor
