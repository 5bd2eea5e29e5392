/- The printed forms of the two packages' functions for the ways answer alike, so the law CostWaysMatchSpec's printed form is true at every input; conditions: none beside those that the given row itself bears. -/
import Derived.Test.YtgcijejmmhjibaaDoorVx6
import Derived.Test.YtgcijejmmhjibaaDoorVo
set_option linter.unusedVariables false
set_option linter.unusedSimpArgs false
namespace Go.Proofs.YtgcijejmmhjibaaDoor.V.Pure
open Go.RowKit Go.Proofs.YtgcijejmmhjibaaDoor.V Go.Proofs.YtgcijejmmhjibaaDoorW.PrintWords Go.Proofs.YtgcijejmmhjibaaDoorW.PrintLast

/-! Two printed functions side by side. -/
def Two {α : Type} (g h : Nat → Option α) (P : α → Prop) : Prop := ∃ r, (∃ K, ∀ k, K ≤ k → g k = some r ∧ h k = some r) ∧ P r
theorem Two.ret {α : Type} {P : α → Prop} (r : α) (h : P r) : Two (fun _ => some r) (fun _ => some r) P := ⟨r, ⟨0, fun _ _ => ⟨rfl, rfl⟩⟩, h⟩
theorem Two.step {α : Type} {g h g' h' : Nat → Option α} {P : α → Prop} (e : ∀ k, g (k + 1) = g' k) (e' : ∀ k, h (k + 1) = h' k) (H : Two g' h' P) : Two g h P := by
  obtain ⟨r, ⟨K, hK⟩, hP⟩ := H
  refine ⟨r, ⟨K + 1, fun k hk => ?_⟩, hP⟩
  obtain ⟨j, rfl⟩ : ∃ j, k = j + 1 := ⟨k - 1, by omega⟩
  rw [e, e']; exact hK j (by omega)
theorem Two.congr {α : Type} {g h g' h' : Nat → Option α} {P : α → Prop} (e : ∀ k, g k = g' k) (e' : ∀ k, h k = h' k) (H : Two g' h' P) : Two g h P := by
  obtain rfl : g = g' := funext e
  obtain rfl : h = h' := funext e'
  exact H
theorem Two.bind {α β : Type} {g h : Nat → Option α} {f f' : Nat → α → Option β} {P : α → Prop} {Q : β → Prop} (H : Two g h P) (k : ∀ a, P a → Two (fun n => f n a) (fun n => f' n a) Q) : Two (fun n => (g n).bind (f n)) (fun n => (h n).bind (f' n)) Q := by
  obtain ⟨a, ⟨K, hK⟩, hP⟩ := H
  obtain ⟨r, ⟨K', hK'⟩, hQ⟩ := k a hP
  refine ⟨r, ⟨K + K', fun n hn => ?_⟩, hQ⟩
  show (g n).bind (f n) = some r ∧ (h n).bind (f' n) = some r
  rw [(hK n (by omega)).1, (hK n (by omega)).2]
  exact hK' n (by omega)
theorem Two.ite {α : Type} {c c' : Prop} [Decidable c] [Decidable c'] {g h g' h' : Nat → Option α} {P : α → Prop} (hc : c ↔ c') (H : c → Two g h P) (H' : ¬ c → Two g' h' P) : Two (fun k => if c then g k else g' k) (fun k => if c' then h k else h' k) P := by
  by_cases x : c
  · have x' := hc.1 x
    simp only [if_pos x, if_pos x']; exact H x
  · have x' : ¬ c' := fun y => x (hc.2 y)
    simp only [if_neg x, if_neg x']; exact H' x
theorem Two.left {α : Type} {c : Prop} [Decidable c] {g h g' : Nat → Option α} {P : α → Prop} (x : c) (H : Two g h P) : Two (fun k => if c then g k else g' k) h P := by
  simp only [if_pos x]; exact H
theorem Two.right {α : Type} {c : Prop} [Decidable c] {g h g' : Nat → Option α} {P : α → Prop} (x : c) (H : Two h g P) : Two h (fun k => if c then g k else g' k) P := by
  simp only [if_pos x]; exact H
theorem Two.both {α : Type} {c c' : Prop} [Decidable c] [Decidable c'] {g h g' h' : Nat → Option α} {P : α → Prop} (x : c) (x' : c') (H : Two g h P) : Two (fun k => if c then g k else g' k) (fun k => if c' then h k else h' k) P := by
  simp only [if_pos x, if_pos x']; exact H
theorem Two.not {α : Type} {c c' : Prop} [Decidable c] [Decidable c'] {g h g' h' : Nat → Option α} {P : α → Prop} (x : ¬ c) (x' : ¬ c') (H : Two g' h' P) : Two (fun k => if c then g k else g' k) (fun k => if c' then h k else h' k) P := by
  simp only [if_neg x, if_neg x']; exact H
theorem Two.imp {α : Type} {g h : Nat → Option α} {P Q : α → Prop} (H : Two g h P) (i : ∀ r, P r → Q r) : Two g h Q := by
  obtain ⟨r, hK, hP⟩ := H; exact ⟨r, hK, i r hP⟩

theorem wnext (n : Nat) (h : n < 9223372036854775807) : wrap64 ((n : Int) + 1) = ((n + 1 : Nat) : Int) := by unfold wrap64; omega
theorem in_eq (a b c : Int) : kit_In.f a b c = some (decide (b ≤ a ∧ a ≤ c)) := by
  unfold kit_In.f; by_cases h : b ≤ a <;> simp [h]
theorem within_eq (a b c : Int) : peristyleref10_within.f a b c = some (decide (b ≤ a ∧ a ≤ c)) := by
  unfold peristyleref10_within.f; by_cases h : b ≤ a <;> simp [h]
theorem awake400 : peristylelaw10_awake.f 400 = some true := by kernel_rfl
theorem awakeEv : ∃ K, ∀ k, K ≤ k → peristylelaw10_awake.f k = some true := ⟨400, fun k hk => at_rounds peristylelaw10_awake.mono hk awake400⟩

def TwoR {α β : Type} (g : Nat → Option α) (h : Nat → Option β) (R : α → β → Prop) : Prop := ∃ r s, (∃ K, ∀ k, K ≤ k → g k = some r ∧ h k = some s) ∧ R r s
theorem TwoR.bind {α β γ : Type} {g : Nat → Option α} {h : Nat → Option β} {f : Nat → α → Option γ} {f' : Nat → β → Option γ} {R : α → β → Prop} {Q : γ → Prop} (H : TwoR g h R) (k : ∀ a b, R a b → Two (fun n => f n a) (fun n => f' n b) Q) : Two (fun n => (g n).bind (f n)) (fun n => (h n).bind (f' n)) Q := by
  obtain ⟨a, b, ⟨K, hK⟩, hP⟩ := H
  obtain ⟨r, ⟨K', hK'⟩, hQ⟩ := k a b hP
  refine ⟨r, ⟨K + K', fun n hn => ?_⟩, hQ⟩
  show (g n).bind (f n) = some r ∧ (h n).bind (f' n) = some r
  rw [(hK n (by omega)).1, (hK n (by omega)).2]
  exact hK' n (by omega)

theorem Ev.itep {α : Type} {c : Prop} [Decidable c] {g h : Nat → Option α} {r : α} (x : c) (H : Ev g r) : Ev (fun k => if c then g k else h k) r := by simp only [if_pos x]; exact H
theorem Ev.iten {α : Type} {c : Prop} [Decidable c] {g h : Nat → Option α} {r : α} (x : ¬ c) (H : Ev h r) : Ev (fun k => if c then g k else h k) r := by simp only [if_neg x]; exact H

theorem len_j0 (x y : Int) : ∃ r, Ev (fun k => bits_Len64.j0 k x y) r := by
  have ev : ∀ r : Option Int, r ≠ none → ∃ s, Ev (fun _ => r) s := fun r h => by
    cases r with
    | none => exact absurd rfl h
    | some s => exact ⟨s, Ev.now s⟩
  obtain ⟨s, hs⟩ := ev _ (show bits_Len64.j0 1 x y ≠ none by
    rw [bits_Len64.j0.eq_2]
    have m : ∀ z : Int, 0 ≤ z % 256 ∧ z % 256 < 256 := fun z => by omega
    by_cases a : x ≥ 65536
    · rw [if_pos a]
      by_cases b : x / 65536 ≥ 256
      · rw [if_pos b, if_pos (m _).1, if_pos (m _).2]; exact Option.some_ne_none _
      · rw [if_neg b, if_pos (m _).1, if_pos (m _).2]; exact Option.some_ne_none _
    · rw [if_neg a]
      by_cases b : x ≥ 256
      · rw [if_pos b, if_pos (m _).1, if_pos (m _).2]; exact Option.some_ne_none _
      · rw [if_neg b, if_pos (m _).1, if_pos (m _).2]; exact Option.some_ne_none _)
  refine ⟨s, 1, fun k hk => ?_⟩
  obtain ⟨j, rfl⟩ : ∃ j, k = j + 1 := ⟨k - 1, by omega⟩
  obtain ⟨K, hK⟩ := hs
  have h : bits_Len64.j0 1 x y = some s := hK K (Nat.le_refl _)
  have e : bits_Len64.j0 (j + 1) x y = bits_Len64.j0 1 x y := by rw [bits_Len64.j0.eq_2, bits_Len64.j0.eq_2]
  exact e.trans h
theorem len_ev (x : Int) : ∃ r, Ev (fun k => bits_Len.f k x) r := by
  have h : ∃ r, Ev (fun k => bits_Len64.f k x) r := by
    unfold bits_Len64.f
    by_cases a : x ≥ 4294967296
    · simp only [if_pos a]; exact len_j0 _ _
    · simp only [if_neg a]; exact len_j0 _ _
  obtain ⟨r, hr⟩ := h
  refine ⟨r, ?_⟩
  unfold bits_Len.f
  exact Ev.bind hr (Ev.now r)

def WR (a b : Int × Bool) : Prop := a.2 = b.2 ∧ (a.2 = true → a.1 = b.1) ∧ (a.2 = false → a.1 = 0)
theorem TwoR.of {α β : Type} {g : Nat → Option α} {h : Nat → Option β} {R : α → β → Prop} {r : α} {s : β} (hg : Ev g r) (hh : Ev h s) (k : R r s) : TwoR g h R := by
  obtain ⟨K, hK⟩ := hg
  obtain ⟨K', hK'⟩ := hh
  exact ⟨r, s, ⟨K + K', fun n hn => ⟨hK n (by omega), hK' n (by omega)⟩⟩, k⟩

theorem way_two (i p : Int) (p1 p2 : Bool) (q : Int) (q1 q2 : Bool) (m : Int) : TwoR (fun k => cost_wayCost.f k i p p1 p2 q q1 q2 m) (fun k => peristyleref10_wayCost.f k i p p1 p2 q q1 q2 m) WR := by
  obtain ⟨Lp, hp⟩ := len_ev (IntKind.u64.wrap p)
  obtain ⟨Lq, hq⟩ := len_ev (IntKind.u64.wrap q)
  by_cases h1 : i = 1
  · refine TwoR.of (Ev.congr (fun k => by rw [cost_wayCost.f, if_pos h1]) (Ev.now _)) (Ev.congr (fun k => by rw [peristyleref10_wayCost.f, if_pos h1]) (Ev.now _)) ⟨rfl, fun _ => rfl, fun h => by cases h⟩
  by_cases h2 : i = 2
  · by_cases h : q ≤ m
    · refine TwoR.of (Ev.congr (fun k => by rw [cost_wayCost.f, if_neg h1, if_pos h2, if_pos h]) (Ev.now _)) (Ev.congr (fun k => by rw [peristyleref10_wayCost.f, if_neg h1, if_pos h2, if_pos h]) (Ev.now _)) ⟨rfl, fun _ => rfl, fun h => by cases h⟩
    · refine TwoR.of (Ev.congr (fun k => by rw [cost_wayCost.f, if_neg h1, if_pos h2, if_neg h]) (Ev.now _)) (Ev.congr (fun k => by rw [peristyleref10_wayCost.f, if_neg h1, if_pos h2, if_neg h]) (Ev.now _)) ⟨rfl, fun _ => rfl, fun h => by cases h⟩
  by_cases h3 : i = 3
  · let A : Int := if p1 = true then wrap64 (p + q) else wrap64 (wrap64 (p + q) + wrap64 (p * Lp))
    let B : Int := if q1 = true then A else wrap64 (A + wrap64 (q * Lq))
    have c1 : Ev (fun k => cost_wayCost.j0 k q A q q1 q2) (B, true) := by
      refine Ev.step (fun k => cost_wayCost.j0.eq_2 ..) ?_
      by_cases h : q1 = true
      · simp only [if_pos h, B]; exact Ev.now _
      · simp only [if_neg h, B]; exact Ev.bind hq (Ev.now _)
    have c2 : Ev (fun k => peristyleref10_wayCost.l0 k A [(⟨p, p1, p2⟩ : S35), (⟨q, q1, q2⟩ : S35)] 2 1) (B, true) := by
      refine Ev.step (fun k => peristyleref10_wayCost.l0.eq_2 ..) ?_
      have e : rd_T35 [(⟨p, p1, p2⟩ : S35), (⟨q, q1, q2⟩ : S35)] 1 = ⟨q, q1, q2⟩ := rfl
      have fin : ∀ x, Ev (fun k => peristyleref10_wayCost.l0 k x [(⟨p, p1, p2⟩ : S35), (⟨q, q1, q2⟩ : S35)] 2 (wrap64 (1 + 1))) (x, true) := fun x => Ev.step (fun k => peristyleref10_wayCost.l0.eq_2 ..) (Ev.iten (by unfold wrap64; omega) (Ev.now _))
      refine Ev.itep (by omega) (Ev.itep (by omega) (Ev.itep (by simp) ?_))
      rw [e]
      by_cases h : q1 = true
      · simp only [if_pos h, B]; exact fin _
      · simp only [if_neg h, B]; exact Ev.bind hq (fin _)
    refine TwoR.of (r := (B, true)) (s := (B, true)) (Ev.congr (fun k => by rw [cost_wayCost.f, if_neg h1, if_neg h2, if_pos h3]) ?_) (Ev.congr (fun k => by rw [peristyleref10_wayCost.f, if_neg h1, if_neg h2, if_pos h3, Option.bind_some]) ?_) ⟨rfl, fun _ => rfl, fun h => by cases h⟩
    · by_cases h : p1 = true
      · have : A = wrap64 (p + q) := by simp only [A, if_pos h]
        rw [this] at c1
        exact Ev.itep h c1
      · have : A = wrap64 (wrap64 (p + q) + wrap64 (p * Lp)) := by simp only [A, if_neg h]
        rw [this] at c1
        exact Ev.iten h (Ev.bind hp c1)
    · show Ev (fun k => peristyleref10_wayCost.l0 k (wrap64 (p + q)) [(⟨p, p1, p2⟩ : S35), (⟨q, q1, q2⟩ : S35)] 2 0) (B, true)
      refine Ev.step (fun k => peristyleref10_wayCost.l0.eq_2 ..) ?_
      have e : rd_T35 [(⟨p, p1, p2⟩ : S35), (⟨q, q1, q2⟩ : S35)] 0 = ⟨p, p1, p2⟩ := rfl
      have w : wrap64 (0 + 1) = 1 := by unfold wrap64; omega
      refine Ev.itep (by omega) (Ev.itep (by omega) (Ev.itep (by simp) ?_))
      rw [e, w]
      by_cases h : p1 = true
      · have : A = wrap64 (p + q) := by simp only [A, if_pos h]
        rw [this] at c2
        exact Ev.itep h c2
      · have : A = wrap64 (wrap64 (p + q) + wrap64 (p * Lp)) := by simp only [A, if_neg h]
        rw [this] at c2
        exact Ev.iten h (Ev.bind hp c2)
  · have r : Ev (fun k => peristyleref10_wayCost.f k i p p1 p2 q q1 q2 m) (wrap64 (p * wrap64 (1 + Lq)), q2) := Ev.congr (fun k => by rw [peristyleref10_wayCost.f, if_neg h1, if_neg h2, if_neg h3]) (Ev.bind hq (Ev.now _))
    by_cases h : q2 = true
    · exact TwoR.of (r := (wrap64 (p * wrap64 (1 + Lq)), true)) (Ev.congr (fun k => by rw [cost_wayCost.f, if_neg h1, if_neg h2, if_neg h3, if_pos h]) (Ev.bind hq (Ev.now _))) r ⟨h.symm, fun _ => rfl, fun h => by cases h⟩
    · exact TwoR.of (r := (0, false)) (Ev.congr (fun k => by rw [cost_wayCost.f, if_neg h1, if_neg h2, if_neg h3, if_neg h]) (Ev.now _)) r ⟨(show false = q2 from (by simpa using h : q2 = false).symm), (fun h' => by cases h'), (fun _ => rfl)⟩

theorem inputs_two (p : Int) (p1 p2 : Bool) (q : Int) (q1 q2 : Bool) (m : Int) : Two (fun k => cost_checkInputs.f k p p1 p2 q q1 q2 m) (fun k => peristyleref10_checkInputs.f p p1 p2 q q1 q2 m) (fun _ => True) := by
  have range : ∀ a b c : Int, kit_Range.f a b c = some (if b ≤ a ∧ a ≤ c then 0 else 1) := by
    intro a b c; rw [kit_Range.f, in_eq, Option.bind_some]; by_cases h : b ≤ a ∧ a ≤ c <;> simp [h]
  have first : ∀ x y z : Int, Ev (fun k => kit_First.f k [x, y, z]) (if x = 0 then if y = 0 then z else y else x) := by
    intro x y z
    have w : wrap64 1 = 1 := by unfold wrap64; omega
    have w1 : wrap64 2 = 2 := by unfold wrap64; omega
    have w2 : wrap64 3 = 3 := by unfold wrap64; omega
    refine ⟨4, fun k hk => ?_⟩
    obtain ⟨j, rfl⟩ : ∃ j, k = j + 1 + 1 + 1 + 1 := ⟨k - 4, by omega⟩
    show kit_First.l0 (j + 1 + 1 + 1 + 1) [x, y, z] 3 0 = _
    by_cases hx : x = 0
    · by_cases hy : y = 0
      · by_cases hz : z = 0 <;> simp [kit_First.l0, rd, hx, hy, hz, w, w1, w2]
      · simp [kit_First.l0, rd, hx, hy, w]
    · simp [kit_First.l0, rd, hx]
  simp only [cost_checkInputs.f, range, Option.bind_some, Option.bind_fun_some]
  simp only [peristyleref10_checkInputs.f, within_eq, Option.bind_some, decide_eq_true_eq]
  obtain ⟨K, hK⟩ := first (if 0 ≤ p ∧ p ≤ 1000000 then 0 else 1) (if 0 ≤ q ∧ q ≤ 1000000 then 0 else 1) (if 1 ≤ m ∧ m ≤ 2000 then 0 else 1)
  refine ⟨_, ⟨K, fun k hk => ⟨hK k hk, ?_⟩⟩, trivial⟩
  show (if 0 ≤ p ∧ p ≤ 1000000 then if 0 ≤ q ∧ q ≤ 1000000 then if 1 ≤ m ∧ m ≤ 2000 then some (0 : Int) else some 1 else some 1 else some 1) = _
  by_cases a : 0 ≤ p ∧ p ≤ 1000000 <;> by_cases b : 0 ≤ q ∧ q ≤ 1000000 <;> by_cases c : 1 ≤ m ∧ m ≤ 2000 <;> simp [a, b, c]

/-- One loop over the ways. -/
theorem Way_l0 (p : Int) (p1 p2 : Bool) (q : Int) (q1 q2 : Bool) (a2 : Int) (v : Int → Int × Bool) (v' : Int → Int × Bool) (hv : ∀ i, Ev (fun k => cost_wayCost.f k i p p1 p2 q q1 q2 a2) (v i)) (hv' : ∀ i, Ev (fun k => peristyleref10_wayCost.f k i p p1 p2 q q1 q2 a2) (v' i)) (hr : ∀ i, WR (v i) (v' i)) :
    ∀ m i : Nat, 1 ≤ i → i + m = 5 → ∀ x y : Int, Two (fun k => cost_Way.l0 k a2 x y i p p1 p2 q q1 q2) (fun k => peristyleref10_Way.l0 k a2 x y i p p1 p2 q q1 q2) (fun r => r.2.2 = 0 ∧ (x ≠ 0 → r.2.1 ≤ y) ∧ ∀ j : Nat, i ≤ j → j ≤ 4 → (v j).2 = true → r.2.1 ≤ (v j).1) := by
  intro m
  induction m with
  | zero =>
    intro i h1 hi x y
    refine Two.step (fun k => cost_Way.l0.eq_2 ..) (fun k => peristyleref10_Way.l0.eq_2 ..) (Two.not (by omega) (by omega) (Two.ret _ ⟨rfl, fun _ => Int.le_refl _, fun j hj hj' => by omega⟩))
  | succ m ih =>
    intro i h1 hi x y
    refine Two.step (fun k => cost_Way.l0.eq_2 ..) (fun k => peristyleref10_Way.l0.eq_2 ..) (Two.both (by omega) (by omega) ?_)
    refine TwoR.bind (R := fun a b => a = v i ∧ b = v' i) (TwoR.of (hv i) (hv' i) ⟨rfl, rfl⟩) (fun a b hab => ?_)
    obtain ⟨rfl, rfl⟩ := hab
    obtain ⟨r1, r2, r3⟩ := hr i
    rw [wnext i (by omega)]
    have skip : ((v i).2 = true → x ≠ 0 ∧ y ≤ (v i).1) → Two (fun k => cost_Way.l0 k a2 x y ((i + 1 : Nat) : Int) p p1 p2 q q1 q2) (fun k => peristyleref10_Way.l0 k a2 x y ((i + 1 : Nat) : Int) p p1 p2 q q1 q2) (fun r => r.2.2 = 0 ∧ (x ≠ 0 → r.2.1 ≤ y) ∧ ∀ j : Nat, i ≤ j → j ≤ 4 → (v j).2 = true → r.2.1 ≤ (v j).1) := by
      intro h
      refine (ih (i + 1) (by omega) (by omega) x y).imp fun r hr => ⟨hr.1, hr.2.1, fun j hj hj' hv => ?_⟩
      rcases Nat.lt_or_ge i j with g | g
      · exact hr.2.2 j g hj' hv
      · obtain rfl : j = i := by omega
        exact Int.le_trans (hr.2.1 (h hv).1) (h hv).2
    have take : (x ≠ 0 → (v i).1 ≤ y) → Two (fun k => cost_Way.l0 k a2 i (v i).1 ((i + 1 : Nat) : Int) p p1 p2 q q1 q2) (fun k => peristyleref10_Way.l0 k a2 i (v i).1 ((i + 1 : Nat) : Int) p p1 p2 q q1 q2) (fun r => r.2.2 = 0 ∧ (x ≠ 0 → r.2.1 ≤ y) ∧ ∀ j : Nat, i ≤ j → j ≤ 4 → (v j).2 = true → r.2.1 ≤ (v j).1) := by
      intro h
      refine (ih (i + 1) (by omega) (by omega) i (v i).1).imp fun r hr => ⟨hr.1, fun hx => Int.le_trans (hr.2.1 (by omega)) (h hx), fun j hj hj' hv => ?_⟩
      rcases Nat.lt_or_ge i j with g | g
      · exact hr.2.2 j g hj' hv
      · obtain rfl : j = i := by omega
        exact hr.2.1 (by omega)
    refine Two.ite (by rw [r1]) (fun hb => ?_) (fun hb => skip (fun h => absurd h hb))
    rw [← r2 hb]
    refine Two.ite Iff.rfl (fun hx => take (fun h => absurd hx h)) (fun hx => Two.ite Iff.rfl (fun hlt => take (fun _ => by omega)) (fun hlt => skip (fun _ => ⟨hx, by omega⟩)))

theorem CostWaysMatchSpec : ∀ (a0 : Int) (x1 : S35) (x2 : S35) (a3 : Int), (Lit.int .i64 a0).wf = true → ok35 x1 → ok35 x2 → (Lit.int .i64 a3).wf = true → ∃ k, peristylelaw10_CostWaysMatchSpec.f k a0 x1.f0 x1.f1 x1.f2 x2.f0 x2.f1 x2.f2 a3 = some true := by
  intro a0 x1 x2 a3 _ _ _ _
  obtain ⟨p, p1, p2⟩ := x1
  obtain ⟨q, q1, q2⟩ := x2
  show ∃ k, peristylelaw10_CostWaysMatchSpec.f k a0 p p1 p2 q q1 q2 a3 = some true
  have hw : ∃ v v' : Int → Int × Bool, (∀ i, Ev (fun k => cost_wayCost.f k i p p1 p2 q q1 q2 a3) (v i)) ∧ (∀ i, Ev (fun k => peristyleref10_wayCost.f k i p p1 p2 q q1 q2 a3) (v' i)) ∧ ∀ i, WR (v i) (v' i) := by
    have h : ∀ i, ∃ a b, Ev (fun k => cost_wayCost.f k i p p1 p2 q q1 q2 a3) a ∧ Ev (fun k => peristyleref10_wayCost.f k i p p1 p2 q q1 q2 a3) b ∧ WR a b := by
      intro i
      obtain ⟨a, b, ⟨K, hK⟩, hr⟩ := way_two i p p1 p2 q q1 q2 a3
      exact ⟨a, b, ⟨K, fun k hk => (hK k hk).1⟩, ⟨K, fun k hk => (hK k hk).2⟩, hr⟩
    exact ⟨fun i => (h i).choose, fun i => (h i).choose_spec.choose, fun i => (h i).choose_spec.choose_spec.1, fun i => (h i).choose_spec.choose_spec.2.1, fun i => (h i).choose_spec.choose_spec.2.2⟩
  obtain ⟨v, v', hv, hv', hr⟩ := hw
  obtain ⟨e, ⟨K0, hK0⟩, -⟩ := inputs_two p p1 p2 q q1 q2 a3
  have he : Two (fun k => cost_checkInputs.f k p p1 p2 q q1 q2 a3) (fun k => peristyleref10_checkInputs.f p p1 p2 q q1 q2 a3) (fun r => r = e) := ⟨e, ⟨K0, hK0⟩, rfl⟩
  have wc : Two (fun k => cost_WayCost.f k a0 p p1 p2 q q1 q2 a3) (fun k => peristyleref10_WayCost.f k a0 p p1 p2 q q1 q2 a3) (fun r => r.2.1 = true → e = 0 ∧ (1 ≤ a0 ∧ a0 ≤ 4) ∧ (v a0).2 = true ∧ r.1 = (v a0).1) := by
    refine Two.congr (fun k => by rw [cost_WayCost.f, in_eq, Option.bind_some]) (fun k => by rw [peristyleref10_WayCost.f, within_eq, Option.bind_some]) ?_
    refine Two.ite Iff.rfl (fun ha => ?_) (fun _ => Two.ret _ (fun h => by cases h))
    refine Two.bind he (fun t ht => ?_)
    subst ht
    refine Two.ite Iff.rfl (fun h0 => ?_) (fun _ => Two.ret _ (fun h => by cases h))
    refine TwoR.bind (R := fun a b => a = v a0 ∧ b = v' a0) (TwoR.of (hv a0) (hv' a0) ⟨rfl, rfl⟩) (fun a b hab => ?_)
    obtain ⟨rfl, rfl⟩ := hab
    obtain ⟨r1, r2, r3⟩ := hr a0
    by_cases hb : (v a0).2 = true
    · refine Two.right (r1 ▸ hb) ?_
      rw [← r2 hb, hb]
      exact Two.ret _ (fun _ => ⟨h0, by simpa using ha, rfl, rfl⟩)
    · have hb' : (v a0).2 = false := by simpa using hb
      have hb'' : ¬ (v' a0).2 = true := by rw [← r1]; exact hb
      simp only [if_neg hb'']
      rw [r3 hb', hb']
      exact Two.ret _ (fun h => by cases h)
  have wy : Two (fun k => cost_Way.f k p p1 p2 q q1 q2 a3) (fun k => peristyleref10_Way.f k p p1 p2 q q1 q2 a3) (fun r => (e = 0 → ∀ j : Nat, 1 ≤ j → j ≤ 4 → (v j).2 = true → r.2.1 ≤ (v j).1)) := by
    refine Two.congr (fun k => cost_Way.f.eq_1 ..) (fun k => peristyleref10_Way.f.eq_1 ..) ?_
    refine Two.bind he (fun t ht => ?_)
    subst ht
    refine Two.ite Iff.rfl (fun h0 => ?_) (fun h0 => Two.ret _ (fun h => absurd h h0))
    exact (Way_l0 p p1 p2 q q1 q2 a3 v v' hv hv' hr 4 1 (by omega) (by omega) 0 0).imp fun r hr _ => hr.2.2
  obtain ⟨r, ⟨K1, hK1⟩, h1⟩ := wc
  obtain ⟨s, ⟨K2, hK2⟩, h2⟩ := wy
  obtain ⟨K3, hK3⟩ := awakeEv
  refine ⟨K1 + K2 + K3 + 1, ?_⟩
  obtain ⟨a, a'⟩ : cost_WayCost.f (K1 + K2 + K3 + 1) a0 p p1 p2 q q1 q2 a3 = some r ∧ peristyleref10_WayCost.f (K1 + K2 + K3 + 1) a0 p p1 p2 q q1 q2 a3 = some r := hK1 (K1 + K2 + K3 + 1) (by omega)
  obtain ⟨b, b'⟩ : cost_Way.f (K1 + K2 + K3) p p1 p2 q q1 q2 a3 = some s ∧ peristyleref10_Way.f (K1 + K2 + K3) p p1 p2 q q1 q2 a3 = some s := hK2 (K1 + K2 + K3) (by omega)
  have c := hK3 (K1 + K2 + K3) (by omega)
  rw [peristylelaw10_CostWaysMatchSpec.f, a, a']
  have key : r.2.1 = true → s.2.1 ≤ r.1 := by
    intro h
    obtain ⟨e0, ⟨g1, g2⟩, hv, hre⟩ := h1 h
    rw [hre]
    obtain ⟨n, rfl⟩ := Int.eq_ofNat_of_zero_le (by omega : 0 ≤ a0)
    exact h2 e0 n (by omega) (by omega) hv
  by_cases h : r.2.1 = true
  · have := key h
    by_cases h' : s.2.2 = 0 <;> simp [peristylelaw10_CostWaysMatchSpec.j0, b, b', c, h, h', this]
  · simp [peristylelaw10_CostWaysMatchSpec.j0, b, b', c, h]

end Go.Proofs.YtgcijejmmhjibaaDoor.V.Pure
