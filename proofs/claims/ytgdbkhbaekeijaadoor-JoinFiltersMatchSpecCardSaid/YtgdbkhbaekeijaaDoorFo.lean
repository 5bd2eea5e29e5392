-- Printed by a program of this session (a patched print).
import Derived.Test.YtgdbkhbaekeijaaDoorFx0
import Derived.ProofKit
import Derived.WalkKit
import Derived.OpenShut
import Derived.ShutString
import Derived.ChangeOld
import Derived.ChangeSame
import Derived.Below
import Derived.Lib.LaidTab
import Derived.Deep.Slices
import Derived.LaidMore
import Derived.LaidLaws
import Derived.Stop.LaidErr
import Derived.Stop.Joined
import Derived.SizedLaws
namespace Go.Proofs.YtgdbkhbaekeijaaDoor.F
open Go.RowKit Go.Proofs.YtgdbkhbaekeijaaDoorW.PrintWords Go.Proofs.YtgdbkhbaekeijaaDoorW.PrintLast Go.Proofs.YtgdbkhbaekeijaaDoorW.PrintMore
attribute [local go_sem] max2_int min2_int max_two min_two max_three min_three max_four min_four   -- for this text's walks alone
set_option linter.unusedVariables false
set_option linter.unusedSimpArgs false

/-! ### what came in, by its type: from the reader's own words to a kind's -/
section
variable {H : Type} {enc : TypeId × Value → H} {P : Program} {W : World}
def OpensK (enc : TypeId × Value → H) (P : Program) (W : World) (t : TypeId) {α : Type} (d : Kd α) (ok : α → Prop) : Prop :=
  ∀ (fuel : Nat) (cs : List Value) (z : DataW H × List MemPlace), DataW.trod enc P W 0 (fun _ => true) true fuel t cs = some z → ∃ x, d.K W x cs ∧ ok x
def OpensF (enc : TypeId × Value → H) (P : Program) (W : World) (fs : List Field) (o : Nat) {α : Type} (d : Kd α) (ok : α → Prop) : Prop :=
  ∀ (fuel : Nat) (cs : List Value) (z : List (DataW H × List MemPlace)), (fs.mapM fun f => DataW.trod enc P W 0 (fun _ => true) true fuel f.type ((cs.drop f.offset).take (P.cellsOf f.type))) = some z → cs.length = o + d.sz → ∃ x, d.K W x (cs.drop o) ∧ ok x
theorem opens_int {t : TypeId} {k : IntKind} (ht : P.underlying t = some (.int k)) : OpensK enc P W t (Kd.int k) (fun n => (Lit.int k n).wf = true) := by
  intro fuel cs z h
  obtain ⟨n, e, _, hw⟩ := DataW.trod_int ht h
  exact ⟨n, e, hw⟩
theorem opens_bool {t : TypeId} (ht : P.underlying t = some .bool) : OpensK enc P W t Kd.bool (fun _ => True) := by
  intro fuel cs z h
  obtain ⟨b, e, _⟩ := DataW.trod_bool ht h
  exact ⟨b, e, trivial⟩
theorem opens_string {t : TypeId} (ht : P.underlying t = some .string) : OpensK enc P W t Kd.string (fun s => s.size ≤ maxLen) := by
  intro fuel cs z h
  obtain ⟨s, e, _, hs⟩ := DataW.trod_string ht h
  exact ⟨s, e, hs⟩
theorem addr_add_add (a : Addr) (m j : Nat) : (a.add m).add j = a.add (m + j) := by
  unfold Addr.add
  by_cases hj : j = 0
  · subst hj; simp
  · by_cases hm : m = 0
    · subst hm; simp
    · rw [if_neg hj, if_neg hm, if_neg (by omega)]; simp [Nat.add_assoc]
theorem list_choose {α : Type} {Q : Nat → α → Prop} : ∀ n : Nat, (∀ i, i < n → ∃ x, Q i x) → ∃ xs : List α, xs.length = n ∧ ∀ i x, xs[i]? = some x → Q i x
  | 0, _ => ⟨[], rfl, fun i x h => by simp at h⟩
  | n + 1, h => by
    obtain ⟨xs, hl, hx⟩ := list_choose n (fun i hi => h i (by omega))
    obtain ⟨y, hy⟩ := h n (by omega)
    refine ⟨xs ++ [y], by simp [hl], fun i x hi => ?_⟩
    rw [List.getElem?_append] at hi
    split at hi
    · exact hx i x hi
    · rename_i hge
      have : i - xs.length = 0 := by
        rcases Nat.eq_zero_or_pos (i - xs.length) with h0 | h0
        · exact h0
        · rw [List.getElem?_eq_none (by simp; omega)] at hi; cases hi
      rw [this] at hi
      simp at hi
      subst hi
      have : i = n := by omega
      subst this
      exact hy
theorem opens_slice {α : Type} {t e e' : TypeId} {d : Kd α} {ok : α → Prop} (ht : P.underlying t = some (.slice e)) (hsz : P.cellsOf e = d.sz) (he : OpensK enc P W e d ok) : OpensK enc P W t (Kd.slice e' d) (fun xs => ∀ x ∈ xs, ok x) := by
  intro fuel cs z h
  rcases Go.Deep.open_slice ht h with ⟨rfl, _⟩ | ⟨a, len, cap, m, n, D, Pl, rfl, _, hl1, hm, hmm, _, hx⟩
  · exact ⟨[], ⟨none, 0, rfl, Nat.le_refl _, Kd.C_nil d W⟩, fun x hx => by simp at hx⟩
  · rw [if_pos rfl] at hmm
    have hel : ∀ i, i < len → ∃ x : α, (∃ c : List Value, c.length = d.sz ∧ d.K W x c ∧ ∀ (j : Nat) (u : Value), c[j]? = some u → W.cell? (a.add (i * d.sz + j)) = some u) ∧ ok x := by
      intro i hi
      obtain ⟨c, hc, hy⟩ := hx i (by omega)
      obtain ⟨x, hx, hok⟩ := he _ _ _ hy
      refine ⟨x, ⟨c, d.K_len hx, hx, fun j u hu => ?_⟩, hok⟩
      unfold World.cells? at hc
      rw [if_pos (Nat.zero_le _), hsz] at hc
      have hl := Lib.mapM_length hc
      have hj : j < c.length := (List.getElem?_eq_some_iff.1 hu).1
      rw [hl, List.length_range] at hj
      obtain ⟨u', hu', hv⟩ := Lib.mapM_at hc j j (by simp [hj])
      rw [hu] at hu'
      injection hu' with hu'
      subst hu'
      rw [← addr_add_add]
      exact hv
    obtain ⟨xs, hl, hx⟩ := list_choose len hel
    refine ⟨xs, ⟨some a, cap, by rw [hl], by rw [hl]; exact hl1, rfl, ?_, fun _ => ⟨a, rfl, fun j p hp => (hx j p hp).1⟩⟩, fun x hm => ?_⟩
    · unfold maxLen at hm; omega
    · obtain ⟨i, hi⟩ := List.getElem?_of_mem hm
      exact (hx i x hi).2
theorem opensF_one {α : Type} {f : Field} {o : Nat} {d : Kd α} {ok : α → Prop} (ho : f.offset = o) (hs : P.cellsOf f.type = d.sz) (h : OpensK enc P W f.type d ok) : OpensF enc P W [f] o d ok := by
  intro fuel cs z hz hl
  obtain ⟨y, _, hy⟩ := Lib.mapM_at hz 0 f rfl
  obtain ⟨x, hx, hok⟩ := h _ _ _ hy
  refine ⟨x, ?_, hok⟩
  rw [ho, hs, List.take_of_length_le (by simp; omega)] at hx
  exact hx
theorem opensF_cons {α β : Type} {f : Field} {fs : List Field} {o : Nat} {a : Kd α} {b : Kd β} {ok1 : α → Prop} {ok2 : β → Prop} (ho : f.offset = o) (hs : P.cellsOf f.type = a.sz) (h : OpensK enc P W f.type a ok1) (hr : OpensF enc P W fs (o + a.sz) b ok2) :
    OpensF enc P W (f :: fs) o (Kd.pair a b) (fun x => ok1 x.1 ∧ ok2 x.2) := by
  intro fuel cs z hz hl
  rw [List.mapM_cons] at hz
  obtain ⟨y, hy, hz⟩ := Option.bind_eq_some_iff.1 hz
  obtain ⟨ys, hys, _⟩ := Option.bind_eq_some_iff.1 hz
  have hl2 : cs.length = o + a.sz + b.sz := by rw [hl, Nat.add_assoc]; rfl
  obtain ⟨x1, hx1, k1⟩ := h _ _ _ hy
  obtain ⟨x2, hx2, k2⟩ := hr _ _ _ hys hl2
  refine ⟨(x1, x2), ⟨_, _, ?_, hx1, hx2⟩, k1, k2⟩
  rw [ho, hs, ← List.drop_drop, List.take_append_drop]
theorem opens_struct {α : Type} {t : TypeId} {fs : Array Field} {d : Kd α} {ok : α → Prop} (ht : P.underlying t = some (.struct fs)) (hs : P.cellsOf t = d.sz) (h : OpensF enc P W fs.toList 0 d ok) : OpensK enc P W t d ok := by
  intro fuel cs z hz
  cases fuel with
  | zero => simp [DataW.trod] at hz
  | succ fuel =>
    simp only [DataW.trod, ht] at hz
    split at hz
    · rename_i hl
      obtain ⟨xs, hm, _⟩ := Option.map_eq_some_iff.1 hz
      obtain ⟨x, hx, k⟩ := h _ _ _ hm (by rw [hl, hs, Nat.zero_add])
      exact ⟨x, by simpa using hx, k⟩
    · cases hz
theorem opens_iso {α β : Type} {t : TypeId} {d : Kd α} {ok : α → Prop} (f : β → α) (g : α → β) (hfg : ∀ a, f (g a) = a) (h : OpensK enc P W t d ok) : OpensK enc P W t (Kd.iso d f) (fun x => ok (f x)) := by
  intro fuel cs z hz
  obtain ⟨x, hx, k⟩ := h _ _ _ hz
  exact ⟨g x, by show d.K W (f (g x)) cs; rw [hfg]; exact hx, by show ok (f (g x)); rw [hfg]; exact k⟩
end

def ok69 (x : S69) : Prop := x.f0.size ≤ maxLen ∧ (Lit.int .i64 x.f1).wf = true
theorem opens69 {H : Type} {enc : TypeId × Value → H} {W : World} : OpensK enc Tryd.prog W 69 k69 ok69 :=
  opens_iso (fun x : S69 => (x.f0, x.f1)) (fun a => ⟨a.1, a.2⟩) (fun _ => rfl) (opens_struct Tryd.underlying69 (by kernel_rfl) (opensF_cons rfl (by kernel_rfl) (opens_string Tryd.underlying9) (opensF_one rfl (by kernel_rfl) (opens_int Tryd.underlying3))))
def ok54 (x : S54) : Prop := (Lit.int .i64 x.f0).wf = true ∧ (Lit.int .i64 x.f1).wf = true ∧ x.f2.size ≤ maxLen
theorem opens54 {H : Type} {enc : TypeId × Value → H} {W : World} : OpensK enc Tryd.prog W 54 k54 ok54 :=
  opens_iso (fun x : S54 => (x.f0, x.f1, x.f2)) (fun a => ⟨a.1, a.2.1, a.2.2⟩) (fun _ => rfl) (opens_struct Tryd.underlying54 (by kernel_rfl) (opensF_cons rfl (by kernel_rfl) (opens_int Tryd.underlying3) (opensF_cons rfl (by kernel_rfl) (opens_int Tryd.underlying3) (opensF_one rfl (by kernel_rfl) (opens_string Tryd.underlying9)))))
def ok43 (x : S43) : Prop := (∀ z1 ∈ x.f0, ok54 z1)
theorem opens43 {H : Type} {enc : TypeId × Value → H} {W : World} : OpensK enc Tryd.prog W 43 k43 ok43 :=
  opens_iso (fun x : S43 => x.f0) (fun a => ⟨a⟩) (fun _ => rfl) (opens_struct Tryd.underlying43 (by kernel_rfl) (opensF_one rfl (by kernel_rfl) (opens_slice Tryd.underlying41 (by kernel_rfl) opens54)))
def ok25 (x : S25) : Prop := (∀ z1 ∈ x.f0, ok69 z1) ∧ (∀ z1 ∈ x.f1, ok43 z1)
theorem opens25 {H : Type} {enc : TypeId × Value → H} {W : World} : OpensK enc Tryd.prog W 25 k25 ok25 :=
  opens_iso (fun x : S25 => (x.f0, x.f1)) (fun a => ⟨a.1, a.2⟩) (fun _ => rfl) (opens_struct Tryd.underlying25 (by kernel_rfl) (opensF_cons rfl (by kernel_rfl) (opens_slice Tryd.underlying22 (by kernel_rfl) opens69) (opensF_one rfl (by kernel_rfl) (opens_slice Tryd.underlying23 (by kernel_rfl) opens43))))
def ok29 (x : S29) : Prop := (∀ z1 ∈ x.f0, (Lit.int .u8 z1).wf = true) ∧ (Lit.int .i64 x.f1).wf = true
theorem opens29 {H : Type} {enc : TypeId × Value → H} {W : World} : OpensK enc Tryd.prog W 29 k29 ok29 :=
  opens_iso (fun x : S29 => (x.f0, x.f1)) (fun a => ⟨a.1, a.2⟩) (fun _ => rfl) (opens_struct Tryd.underlying29 (by kernel_rfl) (opensF_cons rfl (by kernel_rfl) (opens_slice Tryd.underlying27 (by kernel_rfl) (opens_int Tryd.underlying5)) (opensF_one rfl (by kernel_rfl) (opens_int Tryd.underlying3))))
end Go.Proofs.YtgdbkhbaekeijaaDoor.F
