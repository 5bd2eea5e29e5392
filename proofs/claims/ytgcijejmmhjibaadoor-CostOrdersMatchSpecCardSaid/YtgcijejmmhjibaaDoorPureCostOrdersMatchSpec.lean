/- The printed forms of Best, BestLine and Greedy of the two packages answer alike, so the law CostOrdersMatchSpec's printed form is true at every input; conditions: none beside those that the given row itself bears. -/
import Derived.Test.YtgcijejmmhjibaaDoorGx12
import Derived.Test.YtgcijejmmhjibaaDoorGo
set_option linter.unusedVariables false
set_option linter.unusedSimpArgs false
namespace Go.Proofs.YtgcijejmmhjibaaDoor.G.Pure
open Go.RowKit Go.Proofs.YtgcijejmmhjibaaDoor.G Go.Proofs.YtgcijejmmhjibaaDoorW.PrintWords Go.Proofs.YtgcijejmmhjibaaDoorW.PrintLast
/-! Facts of the bits of small numbers, by the kernel. -/
def subOk (s p : Nat) : Bool := ((Go.bits .andNot .i64 (p : Int) (s : Int) == 0) == (Go.bits .and .i64 (p : Int) (s : Int) == p)) && (!(Go.bits .and .i64 (p : Int) (s : Int) == p) || (Go.bits .andNot .i64 (s : Int) (p : Int) == ((s - p : Nat) : Int)))
theorem subAll : ((List.range 256).all fun s => (List.range s).all fun p => subOk s p) = true := by kernel_rfl
def powOk (s : Nat) : Bool := s == 0 || ((Go.bits .and .i64 (s : Int) (wrap64 ((s : Int) - 1)) == 0) == (2 ^ Lib.ctz 64 s == s)) && (2 ^ Lib.ctz 64 s == s || (List.range 8).all fun i => 2 ^ i != s)
theorem powAll : ((List.range 256).all fun s => powOk s) = true := by kernel_rfl
theorem shlAll : ((List.range 9).all fun i => shl .i64 1 (i : Int) == ((2 ^ i : Nat) : Int) && Lib.ctz 64 (2 ^ i) == i) = true := by kernel_rfl
def bitOk (s : Nat) : Bool := (List.range 8).all fun i => Go.bits .and .i64 (shr .i64 (s : Int) (i : Int)) 1 == 0 || Go.bits .andNot .i64 (s : Int) (shl .i64 1 (i : Int)) == ((s - 2 ^ i : Nat) : Int) && decide (2 ^ i ≤ s)
theorem bitAll : ((List.range 256).all fun s => bitOk s) = true := by kernel_rfl

/-! Two printed functions side by side. -/
def Two {α : Type} (g h : Nat → Option α) (P : α → Prop) : Prop := ∃ r, (∃ K, ∀ k, K ≤ k → g k = some r ∧ h k = some r) ∧ P r
theorem Two.ret {α : Type} {P : α → Prop} (r : α) (h : P r) : Two (fun _ => some r) (fun _ => some r) P := ⟨r, ⟨0, fun _ _ => ⟨rfl, rfl⟩⟩, h⟩
theorem Two.step {α : Type} {g h g' h' : Nat → Option α} {P : α → Prop} (e : ∀ k, g (k + 1) = g' k) (e' : ∀ k, h (k + 1) = h' k) (H : Two g' h' P) : Two g h P := by
  obtain ⟨r, ⟨K, hK⟩, hP⟩ := H
  refine ⟨r, ⟨K + 1, fun k hk => ?_⟩, hP⟩
  obtain ⟨j, rfl⟩ : ∃ j, k = j + 1 := ⟨k - 1, by omega⟩
  rw [e, e']; exact hK j (by omega)
theorem Two.congr {α : Type} {g h g' h' : Nat → Option α} {P : α → Prop} (e : ∀ k, g k = g' k) (e' : ∀ k, h k = h' k) (H : Two g' h' P) : Two g h P := by
  obtain rfl : g = g' := funext e
  obtain rfl : h = h' := funext e'
  exact H
theorem Two.bind {α β : Type} {g h : Nat → Option α} {f f' : Nat → α → Option β} {P : α → Prop} {Q : β → Prop} (H : Two g h P) (k : ∀ a, P a → Two (fun n => f n a) (fun n => f' n a) Q) : Two (fun n => (g n).bind (f n)) (fun n => (h n).bind (f' n)) Q := by
  obtain ⟨a, ⟨K, hK⟩, hP⟩ := H
  obtain ⟨r, ⟨K', hK'⟩, hQ⟩ := k a hP
  refine ⟨r, ⟨K + K', fun n hn => ?_⟩, hQ⟩
  show (g n).bind (f n) = some r ∧ (h n).bind (f' n) = some r
  rw [(hK n (by omega)).1, (hK n (by omega)).2]
  exact hK' n (by omega)
theorem Two.ite {α : Type} {c c' : Prop} [Decidable c] [Decidable c'] {g h g' h' : Nat → Option α} {P : α → Prop} (hc : c ↔ c') (H : c → Two g h P) (H' : ¬ c → Two g' h' P) : Two (fun k => if c then g k else g' k) (fun k => if c' then h k else h' k) P := by
  by_cases x : c
  · have x' := hc.1 x
    simp only [if_pos x, if_pos x']; exact H x
  · have x' : ¬ c' := fun y => x (hc.2 y)
    simp only [if_neg x, if_neg x']; exact H' x
theorem Two.left {α : Type} {c : Prop} [Decidable c] {g h g' : Nat → Option α} {P : α → Prop} (x : c) (H : Two g h P) : Two (fun k => if c then g k else g' k) h P := by
  simp only [if_pos x]; exact H
theorem Two.right {α : Type} {c : Prop} [Decidable c] {g h g' : Nat → Option α} {P : α → Prop} (x : c) (H : Two h g P) : Two h (fun k => if c then g k else g' k) P := by
  simp only [if_pos x]; exact H
theorem Two.both {α : Type} {c c' : Prop} [Decidable c] [Decidable c'] {g h g' h' : Nat → Option α} {P : α → Prop} (x : c) (x' : c') (H : Two g h P) : Two (fun k => if c then g k else g' k) (fun k => if c' then h k else h' k) P := by
  simp only [if_pos x, if_pos x']; exact H
theorem Two.not {α : Type} {c c' : Prop} [Decidable c] [Decidable c'] {g h g' h' : Nat → Option α} {P : α → Prop} (x : ¬ c) (x' : ¬ c') (H : Two g' h' P) : Two (fun k => if c then g k else g' k) (fun k => if c' then h k else h' k) P := by
  simp only [if_neg x, if_neg x']; exact H
theorem Two.imp {α : Type} {g h : Nat → Option α} {P Q : α → Prop} (H : Two g h P) (i : ∀ r, P r → Q r) : Two g h Q := by
  obtain ⟨r, hK, hP⟩ := H; exact ⟨r, hK, i r hP⟩

theorem wnext (n : Nat) (h : n < 9223372036854775807) : wrap64 ((n : Int) + 1) = ((n + 1 : Nat) : Int) := by unfold wrap64; omega
theorem in_eq (a b c : Int) : kit_In.f a b c = some (decide (b ≤ a ∧ a ≤ c)) := by
  unfold kit_In.f; by_cases h : b ≤ a <;> simp [h]
theorem within_eq (a b c : Int) : peristyleref10_within.f a b c = some (decide (b ≤ a ∧ a ≤ c)) := by
  unfold peristyleref10_within.f; by_cases h : b ≤ a <;> simp [h]
theorem rd_at (xs : List Int) (i : Nat) : rd xs (i : Int) = xs.getD i 0 := by simp [rd]
theorem rdT_at (xs : List S75) (i : Nat) : rd_T75 xs (i : Int) = xs.getD i z75 := by simp [rd_T75]

def GoodE (n : Nat) (e : S75) : Prop := 0 ≤ e.f0 ∧ e.f0 < n ∧ 0 ≤ e.f1 ∧ e.f1 < n ∧ 1 ≤ e.f2 ∧ e.f2 ≤ 1000000

theorem chk_l1 (l0 : List Int) (l1 : List S75) (h8 : l0.length ≤ 8) (h0 : l0.length ≠ 0) (hl : l1.length ≤ 20) : ∀ m i : Nat, i + m = l1.length → Two (fun k => cost_checkRelations.l1 k l0 l1 l1.length i) (fun k => peristyleref10_checkGraph.l1 k l0 l1 l1.length i) (fun r => r = 0 → ∀ j, i ≤ j → j < l1.length → GoodE l0.length (l1.getD j z75)) := by
  have hw : wrap64 ((l0.length : Int) - 1) = (l0.length : Int) - 1 := by unfold wrap64; omega
  intro m
  induction m with
  | zero =>
    intro i hi
    refine Two.step (fun k => cost_checkRelations.l1.eq_2 ..) (fun k => peristyleref10_checkGraph.l1.eq_2 ..) ?_
    refine Two.not (by omega) (by omega) (Two.ret _ ?_)
    intro _ j hj hj'; omega
  | succ m ih =>
    intro i hi
    refine Two.step (fun k => cost_checkRelations.l1.eq_2 ..) (fun k => peristyleref10_checkGraph.l1.eq_2 ..) ?_
    refine Two.both (by omega) (by omega) (Two.both (by omega) (by omega) (Two.both (by omega) (by omega) ?_))
    simp only [in_eq, within_eq, Option.bind_some, hw, rdT_at]
    generalize he : l1.getD i z75 = e
    have key : ∀ b : Bool, (b = false → GoodE l0.length e) → Two (fun k => cost_checkRelations.j2 k l0 l1 l1.length i b e.f0 e.f1 e.f2) (fun k => peristyleref10_checkGraph.j2 k l0 l1 l1.length i b e.f0 e.f1 e.f2) (fun r => r = 0 → ∀ j, i ≤ j → j < l1.length → GoodE l0.length (l1.getD j z75)) := by
      intro b hb
      refine Two.step (fun k => cost_checkRelations.j2.eq_2 ..) (fun k => peristyleref10_checkGraph.j2.eq_2 ..) ?_
      refine Two.ite Iff.rfl (fun _ => Two.ret _ (fun h => by omega)) (fun hb' => ?_)
      have hb := hb (by simpa using hb')
      refine Two.ite Iff.rfl (fun _ => Two.ret _ (fun h => by omega)) (fun _ => ?_)
      rw [wnext i (by omega)]
      refine (ih (i + 1) (by omega)).imp fun r hr h0 j hj hj' => ?_
      rcases Nat.lt_or_ge i j with h | h
      · exact hr h0 j h hj'
      · obtain rfl : j = i := by omega
        rw [he]; exact hb
    refine Two.ite Iff.rfl (fun a => Two.ite Iff.rfl (fun b => key _ ?_) (fun _ => key _ (by simp))) (fun _ => key _ (by simp))
    intro c
    simp at a b c
    exact ⟨a.1, by omega, b.1, by omega, c.1, c.2⟩

theorem chk_l0 (l0 : List Int) (l1 : List S75) (h8 : l0.length ≤ 8) (h0 : l0.length ≠ 0) : ∀ m i : Nat, i + m = l0.length → Two (fun k => cost_checkRelations.l0 k l0 l1 l0 l0.length i) (fun k => peristyleref10_checkGraph.l0 k l0 l1 l0 l0.length i) (fun r => r = 0 → (∀ j, i ≤ j → j < l0.length → 1 ≤ l0.getD j 0 ∧ l0.getD j 0 ≤ 2000) ∧ l1.length ≤ 20 ∧ ∀ j, j < l1.length → GoodE l0.length (l1.getD j z75)) := by
  intro m
  induction m with
  | zero =>
    intro i hi
    refine Two.step (fun k => cost_checkRelations.l0.eq_2 ..) (fun k => peristyleref10_checkGraph.l0.eq_2 ..) ?_
    refine Two.not (by omega) (by omega) (Two.ite Iff.rfl (fun _ => Two.ret _ (fun h => by omega)) (fun h => ?_))
    refine (chk_l1 l0 l1 h8 h0 (by omega) l1.length 0 (by omega)).imp fun r hr h0 => ⟨fun j hj hj' => by omega, by omega, fun j hj => hr h0 j (by omega) hj⟩
  | succ m ih =>
    intro i hi
    refine Two.step (fun k => cost_checkRelations.l0.eq_2 ..) (fun k => peristyleref10_checkGraph.l0.eq_2 ..) ?_
    refine Two.both (by omega) (by omega) (Two.both (by omega) (by omega) (Two.both (by omega) (by omega) ?_))
    simp only [in_eq, within_eq, Option.bind_some, rd_at]
    refine Two.ite Iff.rfl (fun a => ?_) (fun _ => Two.ret _ (fun h => by omega))
    simp at a
    rw [wnext i (by omega)]
    refine (ih (i + 1) (by omega)).imp fun r hr h0 => ⟨fun j hj hj' => ?_, (hr h0).2⟩
    rcases Nat.lt_or_ge i j with h | h
    · exact (hr h0).1 j h hj'
    · obtain rfl : j = i := by omega
      simpa using a

/-- What a checked graph holds. -/
structure GoodG (l0 : List Int) (l1 : List S75) : Prop where
  pos : l0.length ≠ 0
  le8 : l0.length ≤ 8
  rows : ∀ j, j < l0.length → 1 ≤ l0.getD j 0 ∧ l0.getD j 0 ≤ 2000
  le20 : l1.length ≤ 20
  edges : ∀ j, j < l1.length → GoodE l0.length (l1.getD j z75)

theorem chk (l0 : List Int) (l1 : List S75) : Two (fun k => cost_checkRelations.f k l0 l1) (fun k => peristyleref10_checkGraph.f k l0 l1) (fun r => r = 0 → GoodG l0 l1) := by
  refine Two.congr (fun k => cost_checkRelations.f.eq_1 ..) (fun k => peristyleref10_checkGraph.f.eq_1 ..) ?_
  refine Two.ite Iff.rfl (fun _ => Two.ret _ (fun h => by omega)) (fun h0 => Two.ite Iff.rfl (fun _ => Two.ret _ (fun h => by omega)) (fun h8 => ?_))
  refine (chk_l0 l0 l1 (by omega) (by omega) l0.length 0 (by omega)).imp fun r hr h => ⟨by omega, by omega, fun j hj => (hr h).1 j (by omega) hj, (hr h).2.1, (hr h).2.2⟩

theorem prod_eq (a b : Int) (ha : 1 ≤ a) (ha' : a ≤ 1000000000000000) (hb : 1 ≤ b) (hb' : b ≤ 2000) : Two (fun k => cost_product.f k a b) (fun _ => peristyleref10_product.f a b) (fun r => 1 ≤ r ∧ r ≤ 1000000000000000) := by
  have hmx : ∀ x : Int, 1 ≤ x → x ≤ 1000000000000000 → mx x (wrap64 (-x)) = x := by intro x h h'; unfold mx wrap64; omega
  have hw : ∀ x : Int, 1 ≤ x → wrap64 ((1000000000000000 : Int) / x) = 1000000000000000 / x := by
    intro x h
    have : (1000000000000000 : Int) / x ≤ 1000000000000000 := Int.ediv_le_self _ (by omega)
    have : 0 ≤ (1000000000000000 : Int) / x := Int.ediv_nonneg (by omega) (by omega)
    unfold wrap64; omega
  have h1 : (a > 1000000000000000 / b) ↔ 1000000000000000 < a * b := Int.ediv_lt_iff_lt_mul (by omega)
  have h2 : (b > 1000000000000000 / a) ↔ 1000000000000000 < a * b := by rw [Int.mul_comm]; exact Int.ediv_lt_iff_lt_mul (by omega)
  have h3 : 1 ≤ a * b := by have := Int.mul_le_mul ha hb (by omega) (by omega); omega
  refine Two.congr (fun k => by rw [cost_product.f, value_Product.f, if_neg (by omega : ¬ a = 0)]) (fun k => by rw [peristyleref10_product.f, if_pos (by omega : a > 0), if_neg (by omega : ¬ a = 0), hw a ha]) ?_
  have hb0 : (b == 0) = false := by simp; omega
  rw [hb0]
  refine Two.step (g' := fun k => if a * b > 1000000000000000 then some 1000000000000000 else some (a * b)) (h' := fun k => if a * b > 1000000000000000 then some 1000000000000000 else some (a * b)) (fun k => ?_) (fun k => ?_) ?_
  · rw [value_Product.j0, if_neg (by simp), hmx a ha ha', hmx b hb (by omega), if_neg (by omega), hw b hb]
    by_cases h : 1000000000000000 < a * b
    · rw [if_pos (h1.2 h), if_pos h]; simp [mn]
    · rw [if_neg (fun x => h (h1.1 x)), if_neg (by omega)]
      have : wrap64 (a * b) = a * b := by unfold wrap64; omega
      rw [this, Option.bind_some]; congr 1; unfold mn; omega
  · by_cases h : 1000000000000000 < a * b
    · rw [if_pos (h2.2 h), if_pos h]
    · rw [if_neg (fun x => h (h2.1 x)), if_neg (by omega)]
      have : wrap64 (a * b) = a * b := by unfold wrap64; omega
      rw [this]
  · exact Two.ite Iff.rfl (fun _ => Two.ret _ (by omega)) (fun _ => Two.ret _ (by omega))

theorem getD_mem0 {α : Type} (l : List α) (d : α) (j : Nat) (h : j < l.length) : l.getD j d ∈ l := by
  rw [List.getD_eq_getElem?_getD, List.getElem?_eq_getElem h]; simp

theorem size_l1 (l0 : List Int) (l1 : List S75) (hg : GoodG l0 l1) (a2 : Int) : ∀ m i : Nat, i + m = l1.length → ∀ n : Int, 1 ≤ n → n ≤ 1000000000000000 → Two (fun k => cost_size.l1 k a2 n l1 l1.length i) (fun k => peristyleref10_size.l1 k a2 n l1 l1.length i) (fun r => 1 ≤ r ∧ r ≤ 1000000000000000) := by
  have h20 := hg.le20
  intro m
  induction m with
  | zero =>
    intro i hi n h1 h2
    refine Two.step (fun k => cost_size.l1.eq_2 ..) (fun k => peristyleref10_size.l1.eq_2 ..) ?_
    exact Two.not (by omega) (by omega) (Two.ret _ ⟨h1, h2⟩)
  | succ m ih =>
    intro i hi n h1 h2
    have hge := hg.edges i (by omega)
    obtain ⟨g1, g2, g3, g4, g5, g6⟩ := hge
    refine Two.step (fun k => cost_size.l1.eq_2 ..) (fun k => peristyleref10_size.l1.eq_2 ..) ?_
    refine Two.both (by omega) (by omega) (Two.both (by omega) (by omega) (Two.both (by omega) (by omega) ?_))
    simp only [rdT_at, wnext i (by omega)]
    refine Two.both g1 g1 (Two.ite Iff.rfl (fun _ => Two.both g3 g3 (Two.ite Iff.rfl (fun _ => Two.not (by omega) (by omega) ?_) (fun _ => ih _ (by omega) n h1 h2))) (fun _ => ih _ (by omega) n h1 h2))
    have hd0 : 0 ≤ Int.tdiv n (l1.getD i z75).f2 := Int.tdiv_nonneg (by omega) (by omega)
    have hd1 : Int.tdiv n (l1.getD i z75).f2 ≤ n := by
      rw [Int.tdiv_eq_ediv_of_nonneg (by omega)]; exact Int.ediv_le_self _ (by omega)
    refine ih _ (by omega) _ ?_ ?_ <;> (unfold mx wrap64; omega)

theorem size_l0 (l0 : List Int) (l1 : List S75) (hg : GoodG l0 l1) (a2 : Int) : ∀ m i : Nat, i + m = l0.length → ∀ n : Int, 1 ≤ n → n ≤ 1000000000000000 → Two (fun k => cost_size.l0 k l1 a2 n l0 l0.length i) (fun k => peristyleref10_size.l0 k l1 a2 n l0 l0.length i) (fun r => 1 ≤ r ∧ r ≤ 1000000000000000) := by
  have h8 := hg.le8
  intro m
  induction m with
  | zero =>
    intro i hi n h1 h2
    refine Two.step (fun k => cost_size.l0.eq_2 ..) (fun k => peristyleref10_size.l0.eq_2 ..) ?_
    exact Two.not (by omega) (by omega) (size_l1 l0 l1 hg a2 l1.length 0 (by omega) n h1 h2)
  | succ m ih =>
    intro i hi n h1 h2
    have hr := hg.rows i (by omega)
    refine Two.step (fun k => cost_size.l0.eq_2 ..) (fun k => peristyleref10_size.l0.eq_2 ..) ?_
    refine Two.both (by omega) (by omega) (Two.both (by omega) (by omega) (Two.both (by omega) (by omega) ?_))
    simp only [rd_at, wnext i (by omega)]
    refine Two.ite Iff.rfl (fun _ => Two.bind (prod_eq n _ h1 h2 hr.1 hr.2) (fun t ht => ih _ (by omega) t ht.1 ht.2)) (fun _ => ih _ (by omega) n h1 h2)

theorem size_two (l0 : List Int) (l1 : List S75) (hg : GoodG l0 l1) (a2 : Int) : Two (fun k => cost_size.f k l0 l1 a2) (fun k => peristyleref10_size.f k l0 l1 a2) (fun r => 1 ≤ r ∧ r ≤ 1000000000000000) :=
  size_l0 l0 l1 hg a2 l0.length 0 (by omega) 1 (by omega) (by omega)

/-! Two printed functions side by side, their results related. -/
def TwoR {α β : Type} (g : Nat → Option α) (h : Nat → Option β) (R : α → β → Prop) : Prop := ∃ r s, (∃ K, ∀ k, K ≤ k → g k = some r ∧ h k = some s) ∧ R r s
section
variable {α β γ δ : Type} {R : α → β → Prop} {g g' : Nat → Option α} {h h' : Nat → Option β} {c c' : Prop} [Decidable c] [Decidable c']
theorem TwoR.ret {r : α} {s : β} (x : R r s) : TwoR (fun _ => some r) (fun _ => some s) R := ⟨r, s, ⟨0, fun _ _ => ⟨rfl, rfl⟩⟩, x⟩
theorem TwoR.step (e : ∀ k, g (k + 1) = g' k) (e' : ∀ k, h (k + 1) = h' k) (H : TwoR g' h' R) : TwoR g h R := by
  obtain ⟨r, s, ⟨K, hK⟩, x⟩ := H
  refine ⟨r, s, ⟨K + 1, fun k hk => ?_⟩, x⟩
  obtain ⟨j, rfl⟩ : ∃ j, k = j + 1 := ⟨k - 1, by omega⟩
  rw [e, e']; exact hK j (by omega)
theorem TwoR.stepL (e : ∀ k, g (k + 1) = g' k) (H : TwoR g' h R) : TwoR g h R := by
  obtain ⟨r, s, ⟨K, hK⟩, x⟩ := H
  refine ⟨r, s, ⟨K + 1, fun k hk => ?_⟩, x⟩
  obtain ⟨j, rfl⟩ : ∃ j, k = j + 1 := ⟨k - 1, by omega⟩
  rw [e]; exact ⟨(hK j (by omega)).1, (hK (j + 1) (by omega)).2⟩
theorem TwoR.stepR (e' : ∀ k, h (k + 1) = h' k) (H : TwoR g h' R) : TwoR g h R := by
  obtain ⟨r, s, ⟨K, hK⟩, x⟩ := H
  refine ⟨r, s, ⟨K + 1, fun k hk => ?_⟩, x⟩
  obtain ⟨j, rfl⟩ : ∃ j, k = j + 1 := ⟨k - 1, by omega⟩
  rw [e']; exact ⟨(hK (j + 1) (by omega)).1, (hK j (by omega)).2⟩
theorem TwoR.congr (e : ∀ k, g k = g' k) (e' : ∀ k, h k = h' k) (H : TwoR g' h' R) : TwoR g h R := by
  obtain rfl : g = g' := funext e
  obtain rfl : h = h' := funext e'
  exact H
theorem TwoR.bind {Q : γ → δ → Prop} {f : Nat → α → Option γ} {f' : Nat → β → Option δ} (H : TwoR g h R) (k : ∀ a b, R a b → TwoR (fun n => f n a) (fun n => f' n b) Q) : TwoR (fun n => (g n).bind (f n)) (fun n => (h n).bind (f' n)) Q := by
  obtain ⟨a, b, ⟨K, hK⟩, x⟩ := H
  obtain ⟨r, s, ⟨K', hK'⟩, y⟩ := k a b x
  refine ⟨r, s, ⟨K + K', fun n hn => ?_⟩, y⟩
  show (g n).bind (f n) = some r ∧ (h n).bind (f' n) = some s
  rw [(hK n (by omega)).1, (hK n (by omega)).2]
  exact hK' n (by omega)
theorem TwoR.bindL {Q : γ → β → Prop} {f : Nat → α → Option γ} {a : α} (H : Ev g a) (k : TwoR (fun n => f n a) h Q) : TwoR (fun n => (g n).bind (f n)) h Q := by
  obtain ⟨K, hK⟩ := H
  obtain ⟨r, s, ⟨K', hK'⟩, y⟩ := k
  refine ⟨r, s, ⟨K + K', fun n hn => ⟨?_, (hK' n (by omega)).2⟩⟩, y⟩
  show (g n).bind (f n) = some r
  rw [hK n (by omega)]
  exact (hK' n (by omega)).1
theorem TwoR.bindR {Q : α → γ → Prop} {f : Nat → β → Option γ} {b : β} (H : Ev h b) (k : TwoR g (fun n => f n b) Q) : TwoR g (fun n => (h n).bind (f n)) Q := by
  obtain ⟨K, hK⟩ := H
  obtain ⟨r, s, ⟨K', hK'⟩, y⟩ := k
  refine ⟨r, s, ⟨K + K', fun n hn => ⟨(hK' n (by omega)).1, ?_⟩⟩, y⟩
  show (h n).bind (f n) = some s
  rw [hK n (by omega)]
  exact (hK' n (by omega)).2
theorem TwoR.of2 {g h : Nat → Option α} {P : α → Prop} (H : Two g h P) : TwoR g h (fun a b => a = b ∧ P a) := by
  obtain ⟨r, hK, x⟩ := H
  exact ⟨r, r, hK, rfl, x⟩
theorem TwoR.to2 {g h : Nat → Option α} (H : TwoR g h (fun a b => a = b)) : Two g h (fun _ => True) := by
  obtain ⟨r, s, hK, rfl⟩ := H
  exact ⟨r, hK, trivial⟩
theorem TwoR.ite (hc : c ↔ c') (H : c → TwoR g h R) (H' : ¬ c → TwoR g' h' R) : TwoR (fun k => if c then g k else g' k) (fun k => if c' then h k else h' k) R := by
  by_cases x : c
  · have x' := hc.1 x
    simp only [if_pos x, if_pos x']; exact H x
  · have x' : ¬ c' := fun y => x (hc.2 y)
    simp only [if_neg x, if_neg x']; exact H' x
theorem TwoR.left (x : c) (H : TwoR g h R) : TwoR (fun k => if c then g k else g' k) h R := by simp only [if_pos x]; exact H
theorem TwoR.right (x : c) (H : TwoR g h R) : TwoR g (fun k => if c then h k else h' k) R := by simp only [if_pos x]; exact H
theorem TwoR.leftn (x : ¬ c) (H : TwoR g' h R) : TwoR (fun k => if c then g k else g' k) h R := by simp only [if_neg x]; exact H
theorem TwoR.rightn (x : ¬ c) (H : TwoR g h' R) : TwoR g (fun k => if c then h k else h' k) R := by simp only [if_neg x]; exact H
theorem TwoR.both (x : c) (x' : c') (H : TwoR g h R) : TwoR (fun k => if c then g k else g' k) (fun k => if c' then h k else h' k) R := TwoR.left x (TwoR.right x' H)
theorem TwoR.not (x : ¬ c) (x' : ¬ c') (H : TwoR g' h' R) : TwoR (fun k => if c then g k else g' k) (fun k => if c' then h k else h' k) R := TwoR.leftn x (TwoR.rightn x' H)
theorem TwoR.imp {Q : α → β → Prop} (H : TwoR g h R) (i : ∀ a b, R a b → Q a b) : TwoR g h Q := by
  obtain ⟨r, s, hK, x⟩ := H; exact ⟨r, s, hK, i r s x⟩
theorem Ev.itep {r : α} (x : c) (H : Ev g r) : Ev (fun k => if c then g k else g' k) r := by simp only [if_pos x]; exact H
theorem Ev.iten {r : α} (x : ¬ c) (H : Ev g' r) : Ev (fun k => if c then g k else g' k) r := by simp only [if_neg x]; exact H
end

/-! Concat, joined, Clone. -/
theorem wsmall (n : Nat) (h : n ≤ 9223372036854775807) : wrap64 (n : Int) = (n : Int) := by unfold wrap64; omega
theorem grow_small (n : Nat) (h : n < 17592186044416) : slices_Grow_int_int.f (n : Int) = some [] := by
  unfold slices_Grow_int_int.f
  rw [if_neg (by omega), wsmall n (by omega)]
  by_cases h0 : (n : Int) > 0
  · rw [if_pos h0, if_pos (by omega), if_pos (by simp; omega)]
    simp
  · rw [if_neg h0]
def tot (l : List (List Int)) : Nat := (l.map List.length).sum
theorem rdL_mid (a : List (List Int)) (x : List Int) (b : List (List Int)) : rd_L3 (a ++ x :: b) (a.length : Int) = x := by
  simp [rd_L3]
theorem concat_l1 (ls : List (List Int)) (ht : tot ls < 17592186044416) (hl : ls.length < 1000) : ∀ (b a : List (List Int)), ls = a ++ b → Ev (fun k => slices_Concat_int_int.l1 k a.flatten ls ls.length a.length) ls.flatten := by
  intro b
  induction b with
  | nil =>
    intro a e
    obtain rfl : ls = a := by simpa using e
    exact Ev.step (fun k => slices_Concat_int_int.l1.eq_2 ..) (Ev.iten (by omega) (Ev.now _))
  | cons x b ih =>
    intro a e
    have hlen : ls.length = a.length + (b.length + 1) := by rw [e]; simp
    have htt : tot ls = tot a + (x.length + tot b) := by rw [e]; simp [tot]
    have hf : a.flatten.length = tot a := by simp [tot, List.length_flatten]
    refine Ev.step (fun k => slices_Concat_int_int.l1.eq_2 ..) ?_
    have hx : rd_L3 ls (a.length : Int) = x := by rw [e]; exact rdL_mid a x b
    rw [hx, wnext _ (by omega)]
    refine Ev.itep (by omega) (Ev.itep (by omega) (Ev.itep (by omega) (Ev.itep (by omega) ?_)))
    have := ih (a ++ [x]) (by rw [e]; simp)
    simpa using this
theorem concat_l0 (ls : List (List Int)) (ht : tot ls < 17592186044416) (hl : ls.length < 1000) : ∀ (b a : List (List Int)), ls = a ++ b → Ev (fun k => slices_Concat_int_int.l0 k ls (tot a : Nat) ls ls.length a.length) ls.flatten := by
  intro b
  induction b with
  | nil =>
    intro a e
    obtain rfl : ls = a := by simpa using e
    refine Ev.step (fun k => slices_Concat_int_int.l0.eq_2 ..) (Ev.iten (by omega) ?_)
    rw [grow_small _ ht]
    exact concat_l1 ls ht hl ls [] (by simp)
  | cons x b ih =>
    intro a e
    have hlen : ls.length = a.length + (b.length + 1) := by rw [e]; simp
    have htt : tot ls = tot a + (x.length + tot b) := by rw [e]; simp [tot]
    have hx : rd_L3 ls (a.length : Int) = x := by rw [e]; exact rdL_mid a x b
    have hw : wrap64 ((tot a : Int) + (x.length : Int)) = ((tot (a ++ [x]) : Nat) : Int) := by
      have h2 : tot (a ++ [x]) = tot a + x.length := by simp [tot]
      rw [h2]; unfold wrap64; omega
    refine Ev.step (fun k => slices_Concat_int_int.l0.eq_2 ..) ?_
    rw [hx, hw, wnext _ (by omega)]
    refine Ev.itep (by omega) (Ev.itep (by omega) (Ev.itep (by omega) (Ev.iten (by omega) ?_)))
    have := ih (a ++ [x]) (by rw [e]; simp)
    simpa using this
theorem concat_ev (ls : List (List Int)) (ht : tot ls < 17592186044416) (hl : ls.length < 1000) : Ev (fun k => slices_Concat_int_int.f k ls) ls.flatten :=
  concat_l0 ls ht hl ls [] (by simp)
theorem joined_ev (a b : List Int) (h : a.length + b.length < 1000000) : Ev (fun k => cost_joined.f k a b) (a ++ b ++ [-1]) := by
  unfold cost_joined.f
  have := concat_ev [a, b, [-1]] (by simp [tot]; omega) (by simp)
  exact Ev.bind (by simpa using this) (Ev.now _)
theorem concat2_ev (a b : List Int) (h : a.length + b.length < 1000000) : Ev (fun k => slices_Concat_int_int.f k [a, b]) (a ++ b) := by
  have := concat_ev [a, b] (by simp [tot]; omega) (by simp)
  simpa using this
theorem equal_l0 (l : List Int) (hl : l.length < 1000000) : ∀ m i : Nat, i + m = l.length → Ev (fun k => slices_Equal_int_int.l0 k l l l.length i) true := by
  intro m
  induction m with
  | zero => intro i hi; exact Ev.step (fun k => slices_Equal_int_int.l0.eq_2 ..) (Ev.iten (by omega) (Ev.now _))
  | succ m ih =>
    intro i hi
    refine Ev.step (fun k => slices_Equal_int_int.l0.eq_2 ..) ?_
    rw [wnext i (by omega)]
    exact Ev.itep (by omega) (Ev.itep (by omega) (Ev.itep (by omega) (Ev.itep (by omega) (Ev.itep rfl (ih (i + 1) (by omega))))))
theorem equal_ev (l : List Int) (hl : l.length < 1000000) : Ev (fun k => slices_Equal_int_int.f k l l) true := by
  unfold slices_Equal_int_int.f
  exact Ev.itep rfl (equal_l0 l hl l.length 0 (by omega))
theorem awake400 : peristylelaw10_awake.f 400 = some true := by kernel_rfl
theorem awakeEv : ∃ K, ∀ k, K ≤ k → peristylelaw10_awake.f k = some true := ⟨400, fun k hk => at_rounds peristylelaw10_awake.mono hk awake400⟩

/-! The tables of Best and BestLine. -/
theorem sub_facts {s p : Nat} (hs : s < 256) (hp : p < s) : (Go.bits .andNot .i64 (p : Int) (s : Int) = 0 ↔ Go.bits .and .i64 (p : Int) (s : Int) = p) ∧ (Go.bits .and .i64 (p : Int) (s : Int) = p → Go.bits .andNot .i64 (s : Int) (p : Int) = ((s - p : Nat) : Int)) := by
  have h := List.all_eq_true.1 (List.all_eq_true.1 subAll s (List.mem_range.2 hs)) p (List.mem_range.2 hp)
  unfold subOk at h
  generalize Go.bits .andNot .i64 (p : Int) (s : Int) = X at h ⊢
  generalize Go.bits .and .i64 (p : Int) (s : Int) = Y at h ⊢
  generalize Go.bits .andNot .i64 (s : Int) (p : Int) = Z at h ⊢
  by_cases a : X = 0 <;> by_cases b : Y = p <;> by_cases c : Z = ((s - p : Nat) : Int) <;> simp_all
theorem pow_facts {s : Nat} (hs : s < 256) (h0 : s ≠ 0) : (Go.bits .and .i64 (s : Int) (wrap64 ((s : Int) - 1)) = 0 ↔ 2 ^ Lib.ctz 64 s = s) := by
  have h := List.all_eq_true.1 powAll s (List.mem_range.2 hs)
  simp [powOk, h0] at h
  have := h.1
  by_cases a : Go.bits .and .i64 (s : Int) (wrap64 ((s : Int) - 1)) = 0 <;> by_cases b : 2 ^ Lib.ctz 64 s = s <;> simp_all
theorem shl_facts {i : Nat} (hi : i < 9) : shl .i64 1 (i : Int) = ((2 ^ i : Nat) : Int) ∧ Lib.ctz 64 (2 ^ i) = i := by
  have h := List.all_eq_true.1 shlAll i (List.mem_range.2 hi)
  simp only [Bool.and_eq_true, beq_iff_eq] at h
  exact h
theorem bit_facts {s i : Nat} (hs : s < 256) (hi : i < 8) (h : ¬ Go.bits .and .i64 (shr .i64 (s : Int) (i : Int)) 1 = 0) : Go.bits .andNot .i64 (s : Int) (shl .i64 1 (i : Int)) = ((s - 2 ^ i : Nat) : Int) ∧ 2 ^ i ≤ s := by
  have hh := List.all_eq_true.1 (List.all_eq_true.1 bitAll s (List.mem_range.2 hs)) i (List.mem_range.2 hi)
  simp only [Bool.or_eq_true, Bool.and_eq_true, beq_iff_eq, decide_eq_true_eq] at hh
  exact hh.resolve_left h

def ini (m j : Nat) : S85 := if 2 ^ Lib.ctz 64 j = j ∧ Lib.ctz 64 j < m then ⟨0, [(Lib.ctz 64 j : Int)], true⟩ else z85
/-- One set's entries alike. -/
structure RE (j : Nat) (a : S80) (b : S85) : Prop where
  cost : b.f0 = a.f1
  tree : b.f1 = a.f0
  is : b.f2 = true ↔ a.f0 ≠ []
  len : a.f0.length ≤ 2 * j - 1
/-- The tables alike, up to set s. -/
structure RT (n s : Nat) (x8 : List S80) (x5 : List S85) : Prop where
  l8 : x8.length = 2 ^ n
  l5 : x5.length = 2 ^ n
  lo : ∀ j, j < s → j < 2 ^ n → RE j (x8.getD j z80) (x5.getD j z85)
  hi : ∀ j, s ≤ j → j < 2 ^ n → x8.getD j z80 = z80 ∧ x5.getD j z85 = ini n j

theorem getD_set {α : Type} (l : List α) (d x : α) (i j : Nat) (h : i < l.length) : (l.set i x).getD j d = if j = i then x else l.getD j d := by
  rw [List.getD_eq_getElem?_getD, List.getElem?_set]
  by_cases e : i = j
  · subst e; simp [h]
  · have : ¬ j = i := fun h => e h.symm
    simp [e, this, List.getD_eq_getElem?_getD]

theorem RT.put {n s : Nat} {x8 : List S80} {x5 : List S85} (h : RT n (s + 1) x8 x5) (hs : s < 2 ^ n) (a : S80) (b : S85) (hr : RE s a b) : RT n (s + 1) (x8.set s a) (x5.set s b) := by
  have h8 := h.l8; have h5 := h.l5
  refine ⟨by simp [h8], by simp [h5], fun j hj hj' => ?_, fun j hj hj' => ?_⟩
  · rw [getD_set _ _ _ _ _ (by omega), getD_set _ _ _ _ _ (by omega)]
    by_cases e : j = s
    · subst e; simp only [if_pos rfl]; exact hr
    · simp only [if_neg e]; exact h.lo j hj hj'
  · rw [getD_set _ _ _ _ _ (by omega), getD_set _ _ _ _ _ (by omega), if_neg (by omega), if_neg (by omega)]
    exact h.hi j hj hj'
theorem rd80 (xs : List S80) (i : Nat) : rd_T80 xs (i : Int) = xs.getD i z80 := by simp [rd_T80]
theorem rd85 (xs : List S85) (i : Nat) : rd_T85 xs (i : Int) = xs.getD i z85 := by simp [rd_T85]
theorem pow_le256 {n : Nat} (hn : n ≤ 8) : 2 ^ n ≤ 256 := by
  have : 2 ^ n ≤ 2 ^ 8 := Nat.pow_le_pow_right (by omega) hn
  omega

theorem Best_l2 (l0 : List Int) (l1 : List S75) (hg : GoodG l0 l1) (s : Nat) (hs : s < 2 ^ l0.length) (hs0 : 1 ≤ s) (w : Int)
    (Rest : (List Int × Int × Int) → List S85 → Prop)
    (hnext : ∀ x8 x5, RT l0.length (s + 1) x8 x5 → TwoR (fun k => cost_Best.l0 k l0 l1 x8 ((s + 1 : Nat) : Int)) (fun k => peristyleref10_best.l1 k l0 l1 x5 ((s + 1 : Nat) : Int)) Rest) :
    ∀ m p : Nat, p + m = s → 1 ≤ p → ∀ x8 x5, RT l0.length (s + 1) x8 x5 → TwoR (fun k => cost_Best.l1 k l0 l1 x8 s w (Go.bits .and .i64 s (wrap64 (-(s : Int)))) p) (fun k => peristyleref10_best.l2 k l0 l1 x5 s w p) Rest := by
  have h256 := pow_le256 hg.le8
  intro m
  induction m with
  | zero =>
    intro p hp h1 x8 x5 hR
    refine TwoR.step (fun k => cost_Best.l1.eq_2 ..) (fun k => peristyleref10_best.l2.eq_2 ..) (TwoR.not (by omega) (by omega) ?_)
    rw [wnext s (by omega)]
    exact hnext x8 x5 hR
  | succ m ih =>
    intro p hp h1 x8 x5 hR
    obtain ⟨f1, f2⟩ := sub_facts (s := s) (p := p) (by omega) (by omega)
    have h8 := hR.l8; have h5 := hR.l5
    have key : ∀ b : Bool, (b = false → Go.bits .and .i64 (p : Int) (s : Int) = p) → TwoR (fun k => cost_Best.j2 k l0 l1 x8 s w (Go.bits .and .i64 s (wrap64 (-(s : Int)))) p b) (fun k => peristyleref10_best.j3 k l0 l1 x5 s w p b) Rest := by
      intro b hb
      refine TwoR.step (fun k => cost_Best.j2.eq_2 ..) (fun k => peristyleref10_best.j3.eq_2 ..) ?_
      rw [wnext p (by omega)]
      refine TwoR.ite Iff.rfl (fun _ => ih (p + 1) (by omega) (by omega) x8 x5 hR) (fun hb' => ?_)
      have hq := f2 (hb (by simpa using hb'))
      rw [hq]
      refine TwoR.both (by omega) (by omega) (TwoR.both (by omega) (by omega) (TwoR.both (by omega) (by omega) (TwoR.both (by omega) (by omega) (TwoR.both (by omega) (by omega) (TwoR.both (by omega) (by omega) ?_)))))
      simp only [rd80, rd85, Int.toNat_natCast]
      have ra := hR.lo p (by omega) (by omega)
      have rb := hR.lo (s - p) (by omega) (by omega)
      have rs := hR.lo s (by omega) hs
      rw [ra.cost, rb.cost, ra.tree, rb.tree, rs.cost]
      generalize mn 1000000000000000 (wrap64 (wrap64 ((x8.getD p z80).f1 + (x8.getD (s - p) z80).f1) + w)) = cst
      have hla := ra.len; have hlb := rb.len
      have fin : TwoR (fun k => (cost_joined.f k (x8.getD p z80).f0 (x8.getD (s - p) z80).f0).bind fun t => if (t.length : Int) = 0 then none else cost_Best.l1 k l0 l1 (x8.set s ⟨t, cst⟩) s w (Go.bits .and .i64 s (wrap64 (-(s : Int)))) ((p + 1 : Nat) : Int))
          (fun k => (slices_Concat_int_int.f k [(x8.getD p z80).f0, (x8.getD (s - p) z80).f0]).bind fun t => if t.length < 17592186044416 then peristyleref10_best.l2 k l0 l1 (x5.set s ⟨cst, t ++ [-1], true⟩) s w ((p + 1 : Nat) : Int) else none) Rest := by
        refine TwoR.bindL (joined_ev _ _ (by omega)) (TwoR.bindR (concat2_ev _ _ (by omega)) ?_)
        refine TwoR.leftn (by simp only [List.length_append, List.length_singleton]; omega) (TwoR.right (by simp only [List.length_append]; omega) ?_)
        refine ih (p + 1) (by omega) (by omega) _ _ (hR.put hs _ _ ⟨rfl, rfl, by simp, ?_⟩)
        simp only [List.length_append, List.length_singleton]; omega
      by_cases hi : (x5.getD s z85).f2 = true
      · have hne := rs.is.1 hi
        refine TwoR.leftn (by simpa using hne) (TwoR.right hi ?_)
        exact TwoR.ite Iff.rfl (fun _ => fin) (fun _ => ih (p + 1) (by omega) (by omega) x8 x5 hR)
      · have he : (x8.getD s z80).f0 = [] := by
          by_cases x : (x8.getD s z80).f0 = []
          · exact x
          · exact absurd (rs.is.2 x) hi
        refine TwoR.left (by rw [he]; rfl) (TwoR.rightn hi fin)
    refine TwoR.step (fun k => cost_Best.l1.eq_2 ..) (fun k => peristyleref10_best.l2.eq_2 ..) (TwoR.both (by omega) (by omega) ?_)
    simp only [peristyleref10_least.f, Option.bind_some]
    refine TwoR.ite f1 (fun a => key _ (fun _ => f1.1 a)) (fun a => key true (fun h => by cases h))

theorem ctz_lt {n s : Nat} (hs : s < 2 ^ n) (hp : 2 ^ Lib.ctz 64 s = s) : Lib.ctz 64 s < n := by
  rw [← hp] at hs
  exact (Nat.pow_lt_pow_iff_right (by omega)).1 hs
theorem tz_ev {s : Nat} (hs : s < 256) : bits_TrailingZeros.f (IntKind.u64.wrap (s : Int)) = some ((Lib.ctz 64 s : Nat) : Int) := by
  have hw : IntKind.u64.wrap (s : Int) = (s : Int) := by rw [IntKind.wrap_u64]; omega
  rw [hw]; unfold bits_TrailingZeros.f
  rw [if_pos ⟨by omega, by omega⟩]; simp

def TripleOf (n : Nat) (r : List Int × Int × Int) (all : List S85) : Prop := all.length = 2 ^ n ∧ r.2.2 = 0 ∧ (all.getD (2 ^ n - 1) z85).f1 = r.1 ∧ (all.getD (2 ^ n - 1) z85).f0 = r.2.1 ∧ r.1.length ≤ 1000

theorem RT.next {n s : Nat} {x8 : List S80} {x5 : List S85} (h : RT n s x8 x5) (hp : ¬ 2 ^ Lib.ctz 64 s = s) (hs : s < 2 ^ n) : RT n (s + 1) x8 x5 := by
  refine ⟨h.l8, h.l5, fun j hj hj' => ?_, fun j hj hj' => h.hi j (by omega) hj'⟩
  rcases Nat.lt_or_ge j s with g | g
  · exact h.lo j g hj'
  · obtain rfl : j = s := by omega
    obtain ⟨e1, e2⟩ := h.hi j (Nat.le_refl _) hj'
    rw [e1, e2]
    have : ini n j = z85 := by unfold ini; rw [if_neg (fun x => hp x.1)]
    rw [this]
    exact ⟨rfl, rfl, by simp [z80, z85], by simp [z80]⟩
theorem RT.single {n s : Nat} {x8 : List S80} {x5 : List S85} (h : RT n s x8 x5) (hp : 2 ^ Lib.ctz 64 s = s) (hs : s < 2 ^ n) (h0 : 1 ≤ s) : (x5.getD s z85).f2 = true ∧ RT n (s + 1) (x8.set s ⟨[((Lib.ctz 64 s : Nat) : Int)], (x8.getD s z80).f1⟩) x5 := by
  obtain ⟨e1, e2⟩ := h.hi s (Nat.le_refl _) hs
  have hi : ini n s = ⟨0, [((Lib.ctz 64 s : Nat) : Int)], true⟩ := by unfold ini; rw [if_pos ⟨hp, ctz_lt hs hp⟩]
  refine ⟨by rw [e2, hi], by simp [h.l8], h.l5, fun j hj hj' => ?_, fun j hj hj' => ?_⟩
  · rw [getD_set _ _ _ _ _ (by rw [h.l8]; exact hs)]
    by_cases e : j = s
    · subst e
      rw [if_pos rfl, e2, hi, e1]
      exact ⟨rfl, rfl, by simp, by simp; omega⟩
    · rw [if_neg e]; exact h.lo j (by omega) hj'
  · rw [getD_set _ _ _ _ _ (by rw [h.l8]; exact hs), if_neg (by omega)]
    exact h.hi j (by omega) hj'

theorem Best_l1 (l0 : List Int) (l1 : List S75) (hg : GoodG l0 l1) : ∀ m s : Nat, s + m = 2 ^ l0.length → 1 ≤ s → ∀ x8 x5, RT l0.length s x8 x5 → TwoR (fun k => cost_Best.l0 k l0 l1 x8 s) (fun k => peristyleref10_best.l1 k l0 l1 x5 s) (TripleOf l0.length) := by
  have h256 := pow_le256 hg.le8
  intro m
  induction m with
  | zero =>
    intro s hs h1 x8 x5 hR
    have h8 := hR.l8; have h5 := hR.l5
    refine TwoR.step (fun k => cost_Best.l0.eq_2 ..) (fun k => peristyleref10_best.l1.eq_2 ..) (TwoR.not (by omega) (by omega) ?_)
    have hw : wrap64 ((x8.length : Int) - 1) = ((2 ^ l0.length - 1 : Nat) : Int) := by rw [h8]; unfold wrap64; omega
    rw [hw]
    refine TwoR.left (by omega) (TwoR.left (by omega) (TwoR.ret ?_))
    have hr := hR.lo (2 ^ l0.length - 1) (by omega) (by omega)
    refine ⟨h5, rfl, ?_, ?_, ?_⟩
    · rw [rd80, hr.tree]
    · rw [rd80, hr.cost]
    · rw [rd80]; have := hr.len; show (x8.getD (2 ^ l0.length - 1) z80).f0.length ≤ 1000; omega
  | succ m ih =>
    intro s hs h1 x8 x5 hR
    have h8 := hR.l8; have h5 := hR.l5
    have hp := pow_facts (s := s) (by omega) (by omega)
    refine TwoR.step (fun k => cost_Best.l0.eq_2 ..) (fun k => peristyleref10_best.l1.eq_2 ..) (TwoR.both (by omega) (by omega) ?_)
    rw [wnext s (by omega), tz_ev (by omega)]
    simp only [Option.bind_some, rd80, rd85, Int.toNat_natCast]
    refine TwoR.right (by omega) ?_
    by_cases hpw : 2 ^ Lib.ctz 64 s = s
    · obtain ⟨q1, q2⟩ := hR.single hpw (by omega) h1
      refine TwoR.left (hp.2 hpw) (TwoR.left (by omega) (TwoR.leftn (by simp) (TwoR.right q1 ?_)))
      exact ih (s + 1) (by omega) (by omega) _ _ q2
    · obtain ⟨e1, e2⟩ := hR.hi s (Nat.le_refl _) (by omega)
      have hi : ini l0.length s = z85 := by unfold ini; rw [if_neg (fun x => hpw x.1)]
      refine TwoR.leftn (fun x => hpw (hp.1 x)) (TwoR.rightn (by rw [e2, hi]; simp [z85]) ?_)
      refine TwoR.bind (TwoR.of2 (size_two l0 l1 hg s)) (fun a b hab => ?_)
      obtain ⟨rfl, -⟩ := hab
      exact Best_l2 l0 l1 hg s (by omega) h1 a (TripleOf l0.length) (fun y8 y5 h => ih (s + 1) (by omega) (by omega) y8 y5 h) (s - 1) 1 (by omega) (by omega) x8 x5 (hR.next hpw (by omega))

/-- What ref's first loop has laid. -/
structure RI (n i : Nat) (x5 : List S85) : Prop where
  l5 : x5.length = 2 ^ n
  at_ : ∀ j, j < 2 ^ n → x5.getD j z85 = ini i j
theorem RI.put {n i : Nat} {x5 : List S85} (h : RI n i x5) (hi : i < n) (hn : n ≤ 8) : RI n (i + 1) (x5.set (2 ^ i) ⟨0, [(i : Int)], true⟩) := by
  have h2 : 2 ^ i < 2 ^ n := (Nat.pow_lt_pow_iff_right (by omega)).2 hi
  refine ⟨by simp [h.l5], fun j hj => ?_⟩
  rw [getD_set _ _ _ _ _ (by rw [h.l5]; exact h2)]
  have hc := (shl_facts (i := i) (by omega)).2
  by_cases e : j = 2 ^ i
  · subst e
    rw [if_pos rfl]; unfold ini; rw [hc, if_pos ⟨rfl, by omega⟩]
  · rw [if_neg e, h.at_ j hj]
    unfold ini
    by_cases a : 2 ^ Lib.ctz 64 j = j ∧ Lib.ctz 64 j < i
    · rw [if_pos a, if_pos ⟨a.1, by omega⟩]
    · rw [if_neg a, if_neg (fun b => a ⟨b.1, by
        have : Lib.ctz 64 j ≠ i := fun c => e (by rw [← c]; exact b.1.symm)
        omega⟩)]
theorem getD_rep {α : Type} (n j : Nat) (d : α) : (List.replicate n d).getD j d = d := by
  rw [List.getD_eq_getElem?_getD, List.getElem?_replicate]; split <;> rfl
theorem RI.zero (n : Nat) : RI n 0 (List.replicate (2 ^ n) z85) := ⟨by simp, fun j hj => by rw [getD_rep]; unfold ini; rw [if_neg (by omega)]⟩
theorem RT.first {n : Nat} {x5 : List S85} (h : RI n n x5) : RT n 1 (List.replicate (2 ^ n) z80) x5 → RT n 1 (List.replicate (2 ^ n) z80) x5 := id
theorem RT.start {n : Nat} {x5 : List S85} (h : RI n n x5) : RT n 1 (List.replicate (2 ^ n) z80) x5 := by
  refine ⟨by simp, h.l5, fun j hj hj' => ?_, fun j hj hj' => ⟨getD_rep _ _ _, h.at_ j hj'⟩⟩
  obtain rfl : j = 0 := by omega
  rw [getD_rep, h.at_ 0 hj']
  have : ini n 0 = z85 := by
    unfold ini; rw [if_neg]; intro x
    have : 0 < 2 ^ Lib.ctz 64 0 := Nat.pow_pos (by omega)
    omega
  rw [this]; exact ⟨rfl, rfl, by simp [z80, z85], by simp [z80]⟩

theorem Best_l0 (l0 : List Int) (l1 : List S75) (hg : GoodG l0 l1) {β : Type} (g : Nat → Option β) (Q : β → List S85 → Prop) (hnext : ∀ x5, RI l0.length l0.length x5 → TwoR g (fun k => peristyleref10_best.l1 k l0 l1 x5 1) Q) :
    ∀ m i : Nat, i + m = l0.length → ∀ x5, RI l0.length i x5 → TwoR g (fun k => peristyleref10_best.l0 k l0 l1 x5 l0.length i) Q := by
  have h8 := hg.le8
  intro m
  induction m with
  | zero =>
    intro i hi x5 h
    obtain rfl : i = l0.length := by omega
    exact TwoR.stepR (fun k => peristyleref10_best.l0.eq_2 ..) (TwoR.rightn (by omega) (hnext x5 h))
  | succ m ih =>
    intro i hi x5 h
    have h2 : 2 ^ i < 2 ^ l0.length := (Nat.pow_lt_pow_iff_right (by omega)).2 (by omega)
    have h5 := h.l5
    refine TwoR.stepR (fun k => peristyleref10_best.l0.eq_2 ..) ?_
    rw [(shl_facts (i := i) (by omega)).1, wnext i (by omega), Int.toNat_natCast]
    refine TwoR.right (by omega) (TwoR.right (by omega) (TwoR.right (Int.natCast_nonneg _) (TwoR.right (Int.ofNat_lt.2 (by omega)) ?_)))
    exact ih (i + 1) (by omega) _ (h.put (by omega) h8)

theorem Best_two (l0 : List Int) (l1 : List S75) : TwoR (fun k => cost_Best.f k l0 l1) (fun k => peristyleref10_Best.f k l0 l1) (fun a b => a = b ∧ a.1.length ≤ 1000) := by
  refine TwoR.congr (fun k => cost_Best.f.eq_1 ..) (fun k => peristyleref10_Best.f.eq_1 ..) ?_
  refine TwoR.bind (TwoR.of2 (chk l0 l1)) (fun a b hab => ?_)
  obtain ⟨rfl, ht⟩ := hab
  refine TwoR.ite Iff.rfl (fun h0 => ?_) (fun _ => TwoR.ret ⟨rfl, by simp⟩)
  have hg := ht h0
  have h256 := pow_le256 hg.le8
  have h8 := hg.le8
  have hsh := (shl_facts (i := l0.length) (by omega)).1
  have hp : 1 ≤ 2 ^ l0.length := Nat.pow_pos (by omega)
  rw [hsh, Int.toNat_natCast]
  refine TwoR.left (Int.natCast_nonneg _) (TwoR.left (by omega) ?_)
  -- cost's triple against ref's table, and then the table's last entry
  have tbl : TwoR (fun k => cost_Best.l0 k l0 l1 (List.replicate (2 ^ l0.length) z80) 1) (fun k => peristyleref10_best.f k l0 l1) (TripleOf l0.length) := by
    refine TwoR.congr (fun _ => rfl) (fun k => peristyleref10_best.f.eq_1 ..) ?_
    rw [hsh, Int.toNat_natCast]
    refine TwoR.right (Int.natCast_nonneg _) (TwoR.right (by omega) ?_)
    refine Best_l0 l0 l1 hg _ _ (fun x5 h => ?_) l0.length 0 (by omega) _ (RI.zero _)
    exact Best_l1 l0 l1 hg (2 ^ l0.length - 1) 1 (by omega) (by omega) _ _ (RT.start h)
  obtain ⟨r, all, ⟨K, hK⟩, t1, t2, t3, t4, t5⟩ := tbl
  have hw : wrap64 ((all.length : Int) - 1) = ((2 ^ l0.length - 1 : Nat) : Int) := by rw [t1]; unfold wrap64; omega
  refine ⟨r, r, ⟨K, fun k hk => ⟨(hK k hk).1, ?_⟩⟩, rfl, t5⟩
  show (peristyleref10_best.f k l0 l1).bind _ = some r
  have e : peristyleref10_best.f k l0 l1 = some all := (hK k hk).2
  rw [e, Option.bind_some, hw, rd85, t3, t4, if_pos (by omega), if_pos (by omega), ← t2]

/-! BestLine. -/
theorem clone_eq (l : List Int) (h : l.length < 17592186044416) : slices_Clone_int_int.f l = some l := by
  unfold slices_Clone_int_int.f
  by_cases e : (l.length : Int) = 0
  · have : l = [] := List.eq_nil_of_length_eq_zero (by omega)
    rw [if_pos e, this]
  · rw [if_neg e, Option.bind_some, if_pos (by simp; omega)]; simp
theorem Line_l2 (l0 : List Int) (l1 : List S75) (hg : GoodG l0 l1) (s : Nat) (hs : s < 2 ^ l0.length) (hs0 : 2 ≤ s) (w : Int)
    (Rest : (List Int × Int × Int) → (List Int × Int × Int) → Prop)
    (hnext : ∀ x8 x5, RT l0.length (s + 1) x8 x5 → TwoR (fun k => cost_BestLine.l0 k l0 l1 x8 ((s + 1 : Nat) : Int)) (fun k => peristyleref10_BestLine.l1 k l0 l1 x5 ((s + 1 : Nat) : Int)) Rest) :
    ∀ m r : Nat, r + m = l0.length → ∀ x8 x5, RT l0.length (s + 1) x8 x5 → TwoR (fun k => cost_BestLine.l1 k l0 l1 x8 s w l0.length r) (fun k => peristyleref10_BestLine.l2 k l0 l1 x5 s w l0.length r) Rest := by
  have h256 := pow_le256 hg.le8
  have hl8 := hg.le8
  intro m
  induction m with
  | zero =>
    intro r hr x8 x5 hR
    refine TwoR.step (fun k => cost_BestLine.l1.eq_2 ..) (fun k => peristyleref10_BestLine.l2.eq_2 ..) (TwoR.not (by omega) (by omega) ?_)
    rw [wnext s (by omega)]
    exact hnext x8 x5 hR
  | succ m ih =>
    intro r hr x8 x5 hR
    have h8 := hR.l8; have h5 := hR.l5
    refine TwoR.step (fun k => cost_BestLine.l1.eq_2 ..) (fun k => peristyleref10_BestLine.l2.eq_2 ..) (TwoR.both (by omega) (by omega) (TwoR.both (by omega) (by omega) ?_))
    rw [wnext r (by omega)]
    refine TwoR.ite Iff.rfl (fun _ => ih (r + 1) (by omega) x8 x5 hR) (fun hb => ?_)
    obtain ⟨hq, hle⟩ := bit_facts (s := s) (i := r) (by omega) (by omega) hb
    have hp : 1 ≤ 2 ^ r := Nat.pow_pos (by omega)
    rw [hq]
    generalize 2 ^ r = e at hq hle hp
    refine TwoR.both (by omega) (by omega) (TwoR.both (by omega) (by omega) (TwoR.both (by omega) (by omega) (TwoR.both (by omega) (by omega) ?_)))
    simp only [rd80, rd85, Int.toNat_natCast]
    have rb := hR.lo (s - e) (by omega) (by omega)
    have rs := hR.lo s (by omega) hs
    rw [rb.cost, rb.tree, rs.cost]
    generalize mn 1000000000000000 (wrap64 ((x8.getD (s - e) z80).f1 + w)) = cst
    have hlb := rb.len
    have fin : TwoR (fun k => (cost_joined.f k (x8.getD (s - e) z80).f0 [(r : Int)]).bind fun t => if (t.length : Int) = 0 then none else cost_BestLine.l1 k l0 l1 (x8.set s ⟨t, cst⟩) s w l0.length ((r + 1 : Nat) : Int))
        (fun k => (slices_Clone_int_int.f (x8.getD (s - e) z80).f0).bind fun t => (some [(r : Int), (-1)]).bind fun y => if t.length + y.length < 17592186044416 then peristyleref10_BestLine.l2 k l0 l1 (x5.set s ⟨cst, t ++ y, true⟩) s w l0.length ((r + 1 : Nat) : Int) else none) Rest := by
      refine TwoR.bindL (joined_ev _ _ (by simp only [List.length_singleton]; omega)) ?_
      rw [clone_eq _ (by omega)]
      simp only [Option.bind_some]
      refine TwoR.leftn (by simp only [List.length_append, List.length_singleton]; omega) (TwoR.right (by simp only [List.length_cons, List.length_nil]; omega) ?_)
      refine ih (r + 1) (by omega) _ _ (hR.put hs _ _ ⟨rfl, by simp, by simp, ?_⟩)
      simp only [List.length_append, List.length_singleton]; omega
    by_cases hi : (x5.getD s z85).f2 = true
    · have hne := rs.is.1 hi
      refine TwoR.leftn (by simpa using hne) (TwoR.right hi ?_)
      exact TwoR.ite Iff.rfl (fun _ => fin) (fun _ => ih (r + 1) (by omega) x8 x5 hR)
    · have he : (x8.getD s z80).f0 = [] := by
        by_cases x : (x8.getD s z80).f0 = []
        · exact x
        · exact absurd (rs.is.2 x) hi
      exact TwoR.left (by rw [he]; rfl) (TwoR.rightn hi fin)

def Same (a b : List Int × Int × Int) : Prop := a = b ∧ a.1.length ≤ 10000
theorem Line_l1 (l0 : List Int) (l1 : List S75) (hg : GoodG l0 l1) : ∀ m s : Nat, s + m = 2 ^ l0.length → 1 ≤ s → ∀ x8 x5, RT l0.length s x8 x5 → TwoR (fun k => cost_BestLine.l0 k l0 l1 x8 s) (fun k => peristyleref10_BestLine.l1 k l0 l1 x5 s) Same := by
  have h256 := pow_le256 hg.le8
  intro m
  induction m with
  | zero =>
    intro s hs h1 x8 x5 hR
    have h8 := hR.l8; have h5 := hR.l5
    refine TwoR.step (fun k => cost_BestLine.l0.eq_2 ..) (fun k => peristyleref10_BestLine.l1.eq_2 ..) (TwoR.not (by omega) (by omega) ?_)
    have hw : wrap64 ((x8.length : Int) - 1) = ((2 ^ l0.length - 1 : Nat) : Int) := by rw [h8]; unfold wrap64; omega
    have hw' : wrap64 ((x5.length : Int) - 1) = ((2 ^ l0.length - 1 : Nat) : Int) := by rw [h5]; unfold wrap64; omega
    rw [hw, hw']
    have hr := hR.lo (2 ^ l0.length - 1) (by omega) (by omega)
    refine TwoR.both (by omega) (by omega) (TwoR.both (by omega) (by omega) (TwoR.ret ?_))
    rw [rd80, rd85, hr.tree, hr.cost]
    refine ⟨rfl, ?_⟩
    have := hr.len; show (x8.getD (2 ^ l0.length - 1) z80).f0.length ≤ 10000; omega
  | succ m ih =>
    intro s hs h1 x8 x5 hR
    have h8 := hR.l8; have h5 := hR.l5
    have hp := pow_facts (s := s) (by omega) (by omega)
    refine TwoR.step (fun k => cost_BestLine.l0.eq_2 ..) (fun k => peristyleref10_BestLine.l1.eq_2 ..) (TwoR.both (by omega) (by omega) ?_)
    rw [wnext s (by omega), tz_ev (by omega)]
    simp only [Option.bind_some, rd80, rd85, Int.toNat_natCast]
    refine TwoR.right (by omega) ?_
    by_cases hpw : 2 ^ Lib.ctz 64 s = s
    · obtain ⟨q1, q2⟩ := hR.single hpw (by omega) h1
      refine TwoR.left (hp.2 hpw) (TwoR.left (by omega) (TwoR.leftn (by simp) (TwoR.right q1 ?_)))
      exact ih (s + 1) (by omega) (by omega) _ _ q2
    · obtain ⟨e1, e2⟩ := hR.hi s (Nat.le_refl _) (by omega)
      have hi : ini l0.length s = z85 := by unfold ini; rw [if_neg (fun x => hpw x.1)]
      have hs2 : 2 ≤ s := by
        rcases Nat.lt_or_ge s 2 with g | g
        · obtain rfl : s = 1 := by omega
          exact absurd (by rw [(shl_facts (i := 0) (by omega)).2]) hpw
        · exact g
      refine TwoR.leftn (fun x => hpw (hp.1 x)) (TwoR.rightn (by rw [e2, hi]; simp [z85]) ?_)
      refine TwoR.bind (TwoR.of2 (size_two l0 l1 hg s)) (fun a b hab => ?_)
      obtain ⟨rfl, -⟩ := hab
      exact Line_l2 l0 l1 hg s (by omega) hs2 a Same (fun y8 y5 h => ih (s + 1) (by omega) (by omega) y8 y5 h) l0.length 0 (by omega) x8 x5 (hR.next hpw (by omega))
theorem Line_l0 (l0 : List Int) (l1 : List S75) (hg : GoodG l0 l1) {β : Type} (g : Nat → Option β) (Q : β → (List Int × Int × Int) → Prop) (hnext : ∀ x5, RI l0.length l0.length x5 → TwoR g (fun k => peristyleref10_BestLine.l1 k l0 l1 x5 1) Q) :
    ∀ m i : Nat, i + m = l0.length → ∀ x5, RI l0.length i x5 → TwoR g (fun k => peristyleref10_BestLine.l0 k l0 l1 x5 l0.length i) Q := by
  have h8 := hg.le8
  intro m
  induction m with
  | zero =>
    intro i hi x5 h
    obtain rfl : i = l0.length := by omega
    exact TwoR.stepR (fun k => peristyleref10_BestLine.l0.eq_2 ..) (TwoR.rightn (by omega) (hnext x5 h))
  | succ m ih =>
    intro i hi x5 h
    have h2 : 2 ^ i < 2 ^ l0.length := (Nat.pow_lt_pow_iff_right (by omega)).2 (by omega)
    have h5 := h.l5
    refine TwoR.stepR (fun k => peristyleref10_BestLine.l0.eq_2 ..) ?_
    rw [(shl_facts (i := i) (by omega)).1, wnext i (by omega), Int.toNat_natCast]
    refine TwoR.right (by omega) (TwoR.right (by omega) (TwoR.right (Int.natCast_nonneg _) (TwoR.right (Int.ofNat_lt.2 (by omega)) ?_)))
    exact ih (i + 1) (by omega) _ (h.put (by omega) h8)
theorem Line_two (l0 : List Int) (l1 : List S75) : TwoR (fun k => cost_BestLine.f k l0 l1) (fun k => peristyleref10_BestLine.f k l0 l1) Same := by
  refine TwoR.congr (fun k => cost_BestLine.f.eq_1 ..) (fun k => peristyleref10_BestLine.f.eq_1 ..) ?_
  refine TwoR.bind (TwoR.of2 (chk l0 l1)) (fun a b hab => ?_)
  obtain ⟨rfl, ht⟩ := hab
  refine TwoR.ite Iff.rfl (fun h0 => ?_) (fun _ => TwoR.ret ⟨rfl, by simp⟩)
  have hg := ht h0
  have h256 := pow_le256 hg.le8
  have h8 := hg.le8
  have hsh := (shl_facts (i := l0.length) (by omega)).1
  have hp : 1 ≤ 2 ^ l0.length := Nat.pow_pos (by omega)
  rw [hsh, Int.toNat_natCast]
  refine TwoR.both (Int.natCast_nonneg _) (Int.natCast_nonneg _) (TwoR.both (by omega) (by omega) ?_)
  refine Line_l0 l0 l1 hg _ _ (fun x5 h => ?_) l0.length 0 (by omega) _ (RI.zero _)
  exact Line_l1 l0 l1 hg (2 ^ l0.length - 1) 1 (by omega) (by omega) _ _ (RT.start h)

/-! Greedy. -/
theorem map_erase {α β : Type} (f : α → β) (l : List α) : ∀ i, (l.map f).eraseIdx i = (l.eraseIdx i).map f := by
  induction l with
  | nil => intro i; rfl
  | cons a l ih => intro i; cases i with
    | zero => rfl
    | succ i => simp [List.eraseIdx, ih i]
def cv (a : S89) : S93 := ⟨a.f0, a.f1⟩
theorem rd89 (xs : List S89) (i : Nat) : rd_T89 xs (i : Int) = xs.getD i z89 := by simp [rd_T89]
theorem rd93 (xs : List S89) (i : Nat) : rd_T93 (xs.map cv) (i : Int) = cv (xs.getD i z89) := by
  simp only [rd_T93, Int.toNat_natCast, List.getD_eq_getElem?_getD, List.getElem?_map]
  cases xs[i]? <;> rfl
/-- The list of trees. -/
structure GL (n : Nat) (x : List S89) : Prop where
  one : 1 ≤ x.length
  le : x.length ≤ n
  len : ∀ e ∈ x, e.f1.length ≤ 3 ^ (n - x.length)
theorem GL.at_ {n : Nat} {x : List S89} (h : GL n x) (hn : n ≤ 8) (j : Nat) : (x.getD j z89).f1.length ≤ 3 ^ (n - x.length) := by
  rcases Nat.lt_or_ge j x.length with g | g
  · exact h.len _ (getD_mem0 x z89 j g)
  · rw [List.getD_eq_getElem?_getD, List.getElem?_eq_none g]; simp [z89]
theorem pow3 {k : Nat} (h : k ≤ 8) : 3 ^ k ≤ 6561 := by
  have : 3 ^ k ≤ 3 ^ 8 := Nat.pow_le_pow_right (by omega) h
  omega
theorem GL.merge {n : Nat} {x : List S89} (h : GL n x) (h2 : 2 ≤ x.length) (a b : Nat) (ha : a < b) (hb : b < x.length) (e : S89) (he : e.f1.length ≤ 3 * 3 ^ (n - x.length)) : GL n ((x.set a e).eraseIdx b) := by
  have hl : ((x.set a e).eraseIdx b).length = x.length - 1 := by rw [List.length_eraseIdx_of_lt (by simp; omega), List.length_set]
  have hle := h.le
  have hp : 3 ^ (n - (x.length - 1)) = 3 * 3 ^ (n - x.length) := by
    rw [show n - (x.length - 1) = (n - x.length) + 1 by omega, Nat.pow_succ, Nat.mul_comm]
  refine ⟨by omega, by omega, fun q hq => ?_⟩
  rw [hl, hp]
  rcases List.mem_or_eq_of_mem_set (List.mem_of_mem_eraseIdx hq) with g | g
  · have := h.len q g; omega
  · rw [g]; exact he

theorem Greedy_l3 (l0 : List Int) (l1 : List S75) (hg : GoodG l0 l1) (x : List S89) (hx : GL l0.length x) (c : Int) (i : Nat) (hi : i < x.length) (Rest : (List Int × Int × Int) → (List Int × Int × Int) → Prop)
    (hnext : ∀ (a b : Nat) (n : Int), a < b → b < x.length → 1 ≤ n → TwoR (fun k => cost_Greedy.l2 k l0 l1 x c a b n x.length ((i + 1 : Nat) : Int)) (fun k => peristyleref10_Greedy.l2 k l0 l1 (x.map cv) c a b n x.length ((i + 1 : Nat) : Int)) Rest) :
    ∀ m k : Nat, k + m = x.length → i < k → ∀ (a b : Nat) (n : Int), a < b → b < x.length → 1 ≤ n → TwoR (fun f => cost_Greedy.l3 f l0 l1 x c a b n i k x.length i) (fun f => peristyleref10_Greedy.l3 f l0 l1 (x.map cv) c a b n i k x.length i) Rest := by
  have h8 := hg.le8
  have hle := hx.le
  have hml : (x.map cv).length = x.length := List.length_map ..
  intro m
  induction m with
  | zero =>
    intro k hk hik a b n hab hb hn
    refine TwoR.step (fun f => cost_Greedy.l3.eq_2 ..) (fun f => peristyleref10_Greedy.l3.eq_2 ..) (TwoR.not (by omega) (by omega) ?_)
    rw [wnext i (by omega)]
    exact hnext a b n hab hb hn
  | succ m ih =>
    intro k hk hik a b n hab hb hn
    refine TwoR.step (fun f => cost_Greedy.l3.eq_2 ..) (fun f => peristyleref10_Greedy.l3.eq_2 ..) (TwoR.both (by omega) (by omega) (TwoR.both (by omega) (by omega) (TwoR.both (by omega) (by omega) (TwoR.both (by omega) (by omega) ?_))))
    rw [wnext k (by omega), rd89, rd89, rd93, rd93]
    refine TwoR.bind (TwoR.of2 (size_two l0 l1 hg _)) (fun t t' htt => ?_)
    obtain ⟨rfl, ht, -⟩ := htt
    refine TwoR.leftn (by omega) (TwoR.rightn (by omega) ?_)
    exact TwoR.ite Iff.rfl (fun _ => ih (k + 1) (by omega) (by omega) i k t hik (by omega) ht) (fun _ => ih (k + 1) (by omega) (by omega) a b n hab hb hn)
/-- The merge of two trees, and the rounds behind it. -/
theorem Greedy_l2 (l0 : List Int) (l1 : List S75) (hg : GoodG l0 l1) (x : List S89) (hx : GL l0.length x) (h2 : 2 ≤ x.length) (c : Int) (Rest : (List Int × Int × Int) → (List Int × Int × Int) → Prop)
    (hnext : ∀ (y : List S89) (c : Int), GL l0.length y → y.length + 1 = x.length → TwoR (fun k => cost_Greedy.l1 k l0 l1 y c) (fun k => peristyleref10_Greedy.l1 k l0 l1 (y.map cv) c) Rest) :
    ∀ m i : Nat, i + m = x.length → ∀ (a b : Nat) (n : Int), a < b → b < x.length → 1 ≤ n → TwoR (fun k => cost_Greedy.l2 k l0 l1 x c a b n x.length i) (fun k => peristyleref10_Greedy.l2 k l0 l1 (x.map cv) c a b n x.length i) Rest := by
  have h8 := hg.le8
  have hle := hx.le
  have hml : (x.map cv).length = x.length := List.length_map ..
  intro m
  induction m with
  | zero =>
    intro i hi a b n hab hb hn
    refine TwoR.step (fun k => cost_Greedy.l2.eq_2 ..) (fun k => peristyleref10_Greedy.l2.eq_2 ..) (TwoR.not (by omega) (by omega) (TwoR.both (by omega) (by omega) (TwoR.both (by omega) (by omega) (TwoR.both (by omega) (by omega) (TwoR.both (by omega) (by omega) ?_)))))
    rw [rd89, rd89, rd93, rd93]
    have ha := hx.at_ h8 a
    have hb' := hx.at_ h8 b
    have h3 := pow3 (k := l0.length - x.length) (by omega)
    have hp1 : 1 ≤ 3 ^ (l0.length - x.length) := Nat.pow_pos (by omega)
    show TwoR (fun k => (cost_joined.f k (x.getD a z89).f1 (x.getD b z89).f1).bind _) (fun k => (slices_Concat_int_int.f k [(x.getD a z89).f1, (x.getD b z89).f1]).bind _) Rest
    refine TwoR.bindL (joined_ev _ _ (by omega)) (TwoR.bindR (concat2_ev _ _ (by omega)) ?_)
    simp only [Option.bind_some, Int.toNat_natCast]
    refine TwoR.right (by simp only [List.length_append, List.length_singleton]; omega) ?_
    have hm : ((x.map cv).set a ⟨Go.bits .or .i64 (cv (x.getD a z89)).f0 (cv (x.getD b z89)).f0, (x.getD a z89).f1 ++ (x.getD b z89).f1 ++ [-1]⟩).eraseIdx b = ((x.set a ⟨Go.bits .or .i64 (x.getD a z89).f0 (x.getD b z89).f0, (x.getD a z89).f1 ++ (x.getD b z89).f1 ++ [-1]⟩).eraseIdx b).map cv := by
      rw [← map_erase, List.map_set]; rfl
    rw [hm]
    refine hnext _ _ (hx.merge h2 a b hab hb _ ?_) ?_
    · simp only [List.length_append, List.length_singleton]; omega
    · rw [List.length_eraseIdx_of_lt (by simp; omega), List.length_set]; omega
  | succ m ih =>
    intro i hi a b n hab hb hn
    refine TwoR.step (fun k => cost_Greedy.l2.eq_2 ..) (fun k => peristyleref10_Greedy.l2.eq_2 ..) (TwoR.both (by omega) (by omega) ?_)
    rw [wnext i (by omega)]
    exact Greedy_l3 l0 l1 hg x hx c i (by omega) Rest (fun a b n hab hb hn => ih (i + 1) (by omega) a b n hab hb hn) (x.length - (i + 1)) (i + 1) (by omega) (by omega) a b n hab hb hn
theorem Greedy_l1 (l0 : List Int) (l1 : List S75) (hg : GoodG l0 l1) : ∀ n : Nat, ∀ (x : List S89) (c : Int), x.length = n → GL l0.length x → TwoR (fun k => cost_Greedy.l1 k l0 l1 x c) (fun k => peristyleref10_Greedy.l1 k l0 l1 (x.map cv) c) Same := by
  have h8 := hg.le8
  intro n
  induction n with
  | zero => intro x c h hx; have := hx.one; omega
  | succ n ih =>
    intro x c h hx
    have hle := hx.le
    have hml : (x.map cv).length = x.length := List.length_map ..
    refine TwoR.step (fun k => cost_Greedy.l1.eq_2 ..) (fun k => peristyleref10_Greedy.l1.eq_2 ..) ?_
    rw [hml]
    refine TwoR.ite Iff.rfl (fun h2 => ?_) (fun h2 => ?_)
    · -- the first pair is taken, whatever stood there
      have fin := fun i hi a b n' hab hb hn => Greedy_l2 l0 l1 hg x hx (by omega) c Same (fun y c' hy hl => ih y c' (by omega) hy) (x.length - i) i hi a b n' hab hb hn
      refine TwoR.step (fun k => cost_Greedy.l2.eq_2 ..) (fun k => peristyleref10_Greedy.l2.eq_2 ..) (TwoR.both (by omega) (by omega) ?_)
      have w1 : wrap64 (0 + 1) = ((1 : Nat) : Int) := by unfold wrap64; omega
      have w2 : wrap64 (((1 : Nat) : Int) + 1) = ((2 : Nat) : Int) := by unfold wrap64; omega
      rw [w1]
      refine TwoR.step (fun k => cost_Greedy.l3.eq_2 ..) (fun k => peristyleref10_Greedy.l3.eq_2 ..) (TwoR.both (by omega) (by omega) (TwoR.both (by omega) (by omega) (TwoR.both (by omega) (by omega) (TwoR.both (by omega) (by omega) ?_))))
      have e0 : rd_T89 x 0 = x.getD 0 z89 := rd89 x 0
      have e0' : rd_T93 (x.map cv) 0 = cv (x.getD 0 z89) := rd93 x 0
      rw [w2, e0, e0', rd89, rd93]
      refine TwoR.bind (TwoR.of2 (size_two l0 l1 hg _)) (fun t t' htt => ?_)
      obtain ⟨rfl, ht, -⟩ := htt
      refine TwoR.left rfl (TwoR.right (by omega) ?_)
      exact Greedy_l3 l0 l1 hg x hx c 0 (by omega) Same (fun a b n' hab hb hn => fin 1 (by omega) a b n' hab hb hn) (x.length - 2) 2 (by omega) (by omega) 0 1 t (by omega) (by omega) ht
    · refine TwoR.both (by omega) (by omega) (TwoR.ret ?_)
      have e0 : rd_T89 x 0 = x.getD 0 z89 := rd89 x 0
      have e0' : rd_T93 (x.map cv) 0 = cv (x.getD 0 z89) := rd93 x 0
      rw [e0, e0']
      have ha := hx.at_ h8 0
      have h3 := pow3 (k := l0.length - x.length) (by omega)
      exact ⟨rfl, by show (x.getD 0 z89).f1.length ≤ 10000; omega⟩
theorem Greedy_l0 (l0 : List Int) (l1 : List S75) (hg : GoodG l0 l1) : ∀ m i : Nat, i + m = l0.length → ∀ x : List S89, x.length = i → (∀ e ∈ x, e.f1.length ≤ 1) → TwoR (fun k => cost_Greedy.l0 k l0 l1 x l0.length i) (fun k => peristyleref10_Greedy.l0 k l0 l1 (x.map cv) l0.length i) Same := by
  have h8 := hg.le8
  have h0 := hg.pos
  intro m
  induction m with
  | zero =>
    intro i hi x hx he
    refine TwoR.step (fun k => cost_Greedy.l0.eq_2 ..) (fun k => peristyleref10_Greedy.l0.eq_2 ..) (TwoR.not (by omega) (by omega) ?_)
    refine Greedy_l1 l0 l1 hg x.length x 0 rfl ⟨by omega, by omega, fun e h => ?_⟩
    have := he e h
    have : 1 ≤ 3 ^ (l0.length - x.length) := Nat.pow_pos (by omega)
    omega
  | succ m ih =>
    intro i hi x hx he
    have hml : (x.map cv).length = x.length := List.length_map ..
    refine TwoR.step (fun k => cost_Greedy.l0.eq_2 ..) (fun k => peristyleref10_Greedy.l0.eq_2 ..) (TwoR.both (by omega) (by omega) (TwoR.both (by omega) (by omega) ?_))
    rw [wnext i (by omega)]
    simp only [Option.bind_some]
    refine TwoR.both (by omega) (by rw [hml]; simp only [List.length_singleton]; omega) ?_
    have hm : x.map cv ++ [(⟨shl .i64 1 (i : Int), [(i : Int)]⟩ : S93)] = (x ++ [(⟨shl .i64 1 (i : Int), [(i : Int)]⟩ : S89)]).map cv := by rw [List.map_append]; rfl
    rw [hm]
    refine ih (i + 1) (by omega) _ (by simp [hx]) (fun e h => ?_)
    rcases List.mem_append.1 h with g | g
    · exact he e g
    · rw [List.mem_singleton.1 g]; simp
theorem Greedy_two (l0 : List Int) (l1 : List S75) : TwoR (fun k => cost_Greedy.f k l0 l1) (fun k => peristyleref10_Greedy.f k l0 l1) Same := by
  refine TwoR.congr (fun k => cost_Greedy.f.eq_1 ..) (fun k => peristyleref10_Greedy.f.eq_1 ..) ?_
  refine TwoR.bind (TwoR.of2 (chk l0 l1)) (fun a b hab => ?_)
  obtain ⟨rfl, ht⟩ := hab
  refine TwoR.ite Iff.rfl (fun h0 => ?_) (fun _ => TwoR.ret ⟨rfl, by simp⟩)
  exact Greedy_l0 l0 l1 (ht h0) l0.length 0 (by omega) [] rfl (by simp)

theorem CostOrdersMatchSpec : ∀ (l0 : List Int) (l1 : List (S75)), l0.length ≤ 9223372036854775807 → (∀ z1 ∈ l0, (Lit.int .i64 z1).wf = true) → l1.length ≤ 9223372036854775807 → (∀ z1 ∈ l1, ok75 z1) → ∃ k, peristylelaw10_CostOrdersMatchSpec.f k l0 l1 = some true := by
  intro l0 l1 _ _ _ _
  obtain ⟨a, a', ⟨K1, hK1⟩, rfl, ha⟩ := Best_two l0 l1
  obtain ⟨b, b', ⟨K2, hK2⟩, rfl, hb⟩ := Line_two l0 l1
  obtain ⟨c, c', ⟨K3, hK3⟩, rfl, hc⟩ := Greedy_two l0 l1
  obtain ⟨K4, hK4⟩ := equal_ev a.1 (by omega)
  obtain ⟨K5, hK5⟩ := equal_ev b.1 (by omega)
  obtain ⟨K6, hK6⟩ := equal_ev c.1 (by omega)
  obtain ⟨K7, hK7⟩ := awakeEv
  have g : ∃ K, ∀ k, K ≤ k → cost_Best.f k l0 l1 = some a ∧ peristyleref10_Best.f k l0 l1 = some a ∧ cost_BestLine.f k l0 l1 = some b ∧ peristyleref10_BestLine.f k l0 l1 = some b ∧ cost_Greedy.f k l0 l1 = some c ∧ peristyleref10_Greedy.f k l0 l1 = some c ∧ slices_Equal_int_int.f k a.1 a.1 = some true ∧ slices_Equal_int_int.f k b.1 b.1 = some true ∧ slices_Equal_int_int.f k c.1 c.1 = some true ∧ peristylelaw10_awake.f k = some true :=
    ⟨K1 + K2 + K3 + K4 + K5 + K6 + K7, fun k hk => ⟨(hK1 k (by omega)).1, (hK1 k (by omega)).2, (hK2 k (by omega)).1, (hK2 k (by omega)).2, (hK3 k (by omega)).1, (hK3 k (by omega)).2, hK4 k (by omega), hK5 k (by omega), hK6 k (by omega), hK7 k (by omega)⟩⟩
  obtain ⟨K, hK⟩ := g
  refine ⟨K + 2, ?_⟩
  obtain ⟨p1, p2, _, _, _, _, p7, _, _, _⟩ := hK (K + 2) (by omega)
  obtain ⟨_, _, q3, q4, _, _, _, q8, _, _⟩ := hK (K + 1) (by omega)
  obtain ⟨_, _, _, _, r5, r6, _, _, r9, r10⟩ := hK K (by omega)
  simp [peristylelaw10_CostOrdersMatchSpec.f, peristylelaw10_CostOrdersMatchSpec.j0, peristylelaw10_CostOrdersMatchSpec.j1, p1, p2, p7, q3, q4, q8, r5, r6, r9, r10]

end Go.Proofs.YtgcijejmmhjibaaDoor.G.Pure
