/- The printed forms of the two packages' functions answer alike, so the law CostTreesMatchSpec's printed form is true at every input; conditions: the lengths' bound that the given row bears. -/
import Derived.Test.YtgcijejmmhjibaaDoorTx8
import Derived.Test.YtgcijejmmhjibaaDoorTo
set_option linter.unusedVariables false
set_option linter.unusedSimpArgs false
namespace Go.Proofs.YtgcijejmmhjibaaDoor.T.Pure
open Go.RowKit Go.Proofs.YtgcijejmmhjibaaDoor.T Go.Proofs.YtgcijejmmhjibaaDoorW.PrintWords Go.Proofs.YtgcijejmmhjibaaDoorW.PrintLast

/-! Two printed functions side by side. -/
def Two {α : Type} (g h : Nat → Option α) (P : α → Prop) : Prop := ∃ r, (∃ K, ∀ k, K ≤ k → g k = some r ∧ h k = some r) ∧ P r
theorem Two.ret {α : Type} {P : α → Prop} (r : α) (h : P r) : Two (fun _ => some r) (fun _ => some r) P := ⟨r, ⟨0, fun _ _ => ⟨rfl, rfl⟩⟩, h⟩
theorem Two.step {α : Type} {g h g' h' : Nat → Option α} {P : α → Prop} (e : ∀ k, g (k + 1) = g' k) (e' : ∀ k, h (k + 1) = h' k) (H : Two g' h' P) : Two g h P := by
  obtain ⟨r, ⟨K, hK⟩, hP⟩ := H
  refine ⟨r, ⟨K + 1, fun k hk => ?_⟩, hP⟩
  obtain ⟨j, rfl⟩ : ∃ j, k = j + 1 := ⟨k - 1, by omega⟩
  rw [e, e']; exact hK j (by omega)
theorem Two.congr {α : Type} {g h g' h' : Nat → Option α} {P : α → Prop} (e : ∀ k, g k = g' k) (e' : ∀ k, h k = h' k) (H : Two g' h' P) : Two g h P := by
  obtain rfl : g = g' := funext e
  obtain rfl : h = h' := funext e'
  exact H
theorem Two.bind {α β : Type} {g h : Nat → Option α} {f f' : Nat → α → Option β} {P : α → Prop} {Q : β → Prop} (H : Two g h P) (k : ∀ a, P a → Two (fun n => f n a) (fun n => f' n a) Q) : Two (fun n => (g n).bind (f n)) (fun n => (h n).bind (f' n)) Q := by
  obtain ⟨a, ⟨K, hK⟩, hP⟩ := H
  obtain ⟨r, ⟨K', hK'⟩, hQ⟩ := k a hP
  refine ⟨r, ⟨K + K', fun n hn => ?_⟩, hQ⟩
  show (g n).bind (f n) = some r ∧ (h n).bind (f' n) = some r
  rw [(hK n (by omega)).1, (hK n (by omega)).2]
  exact hK' n (by omega)
theorem Two.ite {α : Type} {c c' : Prop} [Decidable c] [Decidable c'] {g h g' h' : Nat → Option α} {P : α → Prop} (hc : c ↔ c') (H : c → Two g h P) (H' : ¬ c → Two g' h' P) : Two (fun k => if c then g k else g' k) (fun k => if c' then h k else h' k) P := by
  by_cases x : c
  · have x' := hc.1 x
    simp only [if_pos x, if_pos x']; exact H x
  · have x' : ¬ c' := fun y => x (hc.2 y)
    simp only [if_neg x, if_neg x']; exact H' x
theorem Two.left {α : Type} {c : Prop} [Decidable c] {g h g' : Nat → Option α} {P : α → Prop} (x : c) (H : Two g h P) : Two (fun k => if c then g k else g' k) h P := by
  simp only [if_pos x]; exact H
theorem Two.right {α : Type} {c : Prop} [Decidable c] {g h g' : Nat → Option α} {P : α → Prop} (x : c) (H : Two h g P) : Two h (fun k => if c then g k else g' k) P := by
  simp only [if_pos x]; exact H
theorem Two.both {α : Type} {c c' : Prop} [Decidable c] [Decidable c'] {g h g' h' : Nat → Option α} {P : α → Prop} (x : c) (x' : c') (H : Two g h P) : Two (fun k => if c then g k else g' k) (fun k => if c' then h k else h' k) P := by
  simp only [if_pos x, if_pos x']; exact H
theorem Two.not {α : Type} {c c' : Prop} [Decidable c] [Decidable c'] {g h g' h' : Nat → Option α} {P : α → Prop} (x : ¬ c) (x' : ¬ c') (H : Two g' h' P) : Two (fun k => if c then g k else g' k) (fun k => if c' then h k else h' k) P := by
  simp only [if_neg x, if_neg x']; exact H
theorem Two.imp {α : Type} {g h : Nat → Option α} {P Q : α → Prop} (H : Two g h P) (i : ∀ r, P r → Q r) : Two g h Q := by
  obtain ⟨r, hK, hP⟩ := H; exact ⟨r, hK, i r hP⟩

theorem wnext (n : Nat) (h : n < 9223372036854775807) : wrap64 ((n : Int) + 1) = ((n + 1 : Nat) : Int) := by unfold wrap64; omega
theorem in_eq (a b c : Int) : kit_In.f a b c = some (decide (b ≤ a ∧ a ≤ c)) := by
  unfold kit_In.f; by_cases h : b ≤ a <;> simp [h]
theorem within_eq (a b c : Int) : peristyleref10_within.f a b c = some (decide (b ≤ a ∧ a ≤ c)) := by
  unfold peristyleref10_within.f; by_cases h : b ≤ a <;> simp [h]
theorem rd_at (xs : List Int) (i : Nat) : rd xs (i : Int) = xs.getD i 0 := by simp [rd]
theorem rdT_at (xs : List S75) (i : Nat) : rd_T75 xs (i : Int) = xs.getD i z75 := by simp [rd_T75]

def GoodE (n : Nat) (e : S75) : Prop := 0 ≤ e.f0 ∧ e.f0 < n ∧ 0 ≤ e.f1 ∧ e.f1 < n ∧ 1 ≤ e.f2 ∧ e.f2 ≤ 1000000

theorem chk_l1 (l0 : List Int) (l1 : List S75) (h8 : l0.length ≤ 8) (h0 : l0.length ≠ 0) (hl : l1.length ≤ 20) : ∀ m i : Nat, i + m = l1.length → Two (fun k => cost_checkRelations.l1 k l0 l1 l1.length i) (fun k => peristyleref10_checkGraph.l1 k l0 l1 l1.length i) (fun r => r = 0 → ∀ j, i ≤ j → j < l1.length → GoodE l0.length (l1.getD j z75)) := by
  have hw : wrap64 ((l0.length : Int) - 1) = (l0.length : Int) - 1 := by unfold wrap64; omega
  intro m
  induction m with
  | zero =>
    intro i hi
    refine Two.step (fun k => cost_checkRelations.l1.eq_2 ..) (fun k => peristyleref10_checkGraph.l1.eq_2 ..) ?_
    refine Two.not (by omega) (by omega) (Two.ret _ ?_)
    intro _ j hj hj'; omega
  | succ m ih =>
    intro i hi
    refine Two.step (fun k => cost_checkRelations.l1.eq_2 ..) (fun k => peristyleref10_checkGraph.l1.eq_2 ..) ?_
    refine Two.both (by omega) (by omega) (Two.both (by omega) (by omega) (Two.both (by omega) (by omega) ?_))
    simp only [in_eq, within_eq, Option.bind_some, hw, rdT_at]
    generalize he : l1.getD i z75 = e
    have key : ∀ b : Bool, (b = false → GoodE l0.length e) → Two (fun k => cost_checkRelations.j2 k l0 l1 l1.length i b e.f0 e.f1 e.f2) (fun k => peristyleref10_checkGraph.j2 k l0 l1 l1.length i b e.f0 e.f1 e.f2) (fun r => r = 0 → ∀ j, i ≤ j → j < l1.length → GoodE l0.length (l1.getD j z75)) := by
      intro b hb
      refine Two.step (fun k => cost_checkRelations.j2.eq_2 ..) (fun k => peristyleref10_checkGraph.j2.eq_2 ..) ?_
      refine Two.ite Iff.rfl (fun _ => Two.ret _ (fun h => by omega)) (fun hb' => ?_)
      have hb := hb (by simpa using hb')
      refine Two.ite Iff.rfl (fun _ => Two.ret _ (fun h => by omega)) (fun _ => ?_)
      rw [wnext i (by omega)]
      refine (ih (i + 1) (by omega)).imp fun r hr h0 j hj hj' => ?_
      rcases Nat.lt_or_ge i j with h | h
      · exact hr h0 j h hj'
      · obtain rfl : j = i := by omega
        rw [he]; exact hb
    refine Two.ite Iff.rfl (fun a => Two.ite Iff.rfl (fun b => key _ ?_) (fun _ => key _ (by simp))) (fun _ => key _ (by simp))
    intro c
    simp at a b c
    exact ⟨a.1, by omega, b.1, by omega, c.1, c.2⟩

theorem chk_l0 (l0 : List Int) (l1 : List S75) (h8 : l0.length ≤ 8) (h0 : l0.length ≠ 0) : ∀ m i : Nat, i + m = l0.length → Two (fun k => cost_checkRelations.l0 k l0 l1 l0 l0.length i) (fun k => peristyleref10_checkGraph.l0 k l0 l1 l0 l0.length i) (fun r => r = 0 → (∀ j, i ≤ j → j < l0.length → 1 ≤ l0.getD j 0 ∧ l0.getD j 0 ≤ 2000) ∧ l1.length ≤ 20 ∧ ∀ j, j < l1.length → GoodE l0.length (l1.getD j z75)) := by
  intro m
  induction m with
  | zero =>
    intro i hi
    refine Two.step (fun k => cost_checkRelations.l0.eq_2 ..) (fun k => peristyleref10_checkGraph.l0.eq_2 ..) ?_
    refine Two.not (by omega) (by omega) (Two.ite Iff.rfl (fun _ => Two.ret _ (fun h => by omega)) (fun h => ?_))
    refine (chk_l1 l0 l1 h8 h0 (by omega) l1.length 0 (by omega)).imp fun r hr h0 => ⟨fun j hj hj' => by omega, by omega, fun j hj => hr h0 j (by omega) hj⟩
  | succ m ih =>
    intro i hi
    refine Two.step (fun k => cost_checkRelations.l0.eq_2 ..) (fun k => peristyleref10_checkGraph.l0.eq_2 ..) ?_
    refine Two.both (by omega) (by omega) (Two.both (by omega) (by omega) (Two.both (by omega) (by omega) ?_))
    simp only [in_eq, within_eq, Option.bind_some, rd_at]
    refine Two.ite Iff.rfl (fun a => ?_) (fun _ => Two.ret _ (fun h => by omega))
    simp at a
    rw [wnext i (by omega)]
    refine (ih (i + 1) (by omega)).imp fun r hr h0 => ⟨fun j hj hj' => ?_, (hr h0).2⟩
    rcases Nat.lt_or_ge i j with h | h
    · exact (hr h0).1 j h hj'
    · obtain rfl : j = i := by omega
      simpa using a

/-- What a checked graph holds. -/
structure GoodG (l0 : List Int) (l1 : List S75) : Prop where
  pos : l0.length ≠ 0
  le8 : l0.length ≤ 8
  rows : ∀ j, j < l0.length → 1 ≤ l0.getD j 0 ∧ l0.getD j 0 ≤ 2000
  le20 : l1.length ≤ 20
  edges : ∀ j, j < l1.length → GoodE l0.length (l1.getD j z75)

theorem chk (l0 : List Int) (l1 : List S75) : Two (fun k => cost_checkRelations.f k l0 l1) (fun k => peristyleref10_checkGraph.f k l0 l1) (fun r => r = 0 → GoodG l0 l1) := by
  refine Two.congr (fun k => cost_checkRelations.f.eq_1 ..) (fun k => peristyleref10_checkGraph.f.eq_1 ..) ?_
  refine Two.ite Iff.rfl (fun _ => Two.ret _ (fun h => by omega)) (fun h0 => Two.ite Iff.rfl (fun _ => Two.ret _ (fun h => by omega)) (fun h8 => ?_))
  refine (chk_l0 l0 l1 (by omega) (by omega) l0.length 0 (by omega)).imp fun r hr h => ⟨by omega, by omega, fun j hj => (hr h).1 j (by omega) hj, (hr h).2.1, (hr h).2.2⟩

theorem prod_eq (a b : Int) (ha : 1 ≤ a) (ha' : a ≤ 1000000000000000) (hb : 1 ≤ b) (hb' : b ≤ 2000) : Two (fun k => cost_product.f k a b) (fun _ => peristyleref10_product.f a b) (fun r => 1 ≤ r ∧ r ≤ 1000000000000000) := by
  have hmx : ∀ x : Int, 1 ≤ x → x ≤ 1000000000000000 → mx x (wrap64 (-x)) = x := by intro x h h'; unfold mx wrap64; omega
  have hw : ∀ x : Int, 1 ≤ x → wrap64 ((1000000000000000 : Int) / x) = 1000000000000000 / x := by
    intro x h
    have : (1000000000000000 : Int) / x ≤ 1000000000000000 := Int.ediv_le_self _ (by omega)
    have : 0 ≤ (1000000000000000 : Int) / x := Int.ediv_nonneg (by omega) (by omega)
    unfold wrap64; omega
  have h1 : (a > 1000000000000000 / b) ↔ 1000000000000000 < a * b := Int.ediv_lt_iff_lt_mul (by omega)
  have h2 : (b > 1000000000000000 / a) ↔ 1000000000000000 < a * b := by rw [Int.mul_comm]; exact Int.ediv_lt_iff_lt_mul (by omega)
  have h3 : 1 ≤ a * b := by have := Int.mul_le_mul ha hb (by omega) (by omega); omega
  refine Two.congr (fun k => by rw [cost_product.f, value_Product.f, if_neg (by omega : ¬ a = 0)]) (fun k => by rw [peristyleref10_product.f, if_pos (by omega : a > 0), if_neg (by omega : ¬ a = 0), hw a ha]) ?_
  have hb0 : (b == 0) = false := by simp; omega
  rw [hb0]
  refine Two.step (g' := fun k => if a * b > 1000000000000000 then some 1000000000000000 else some (a * b)) (h' := fun k => if a * b > 1000000000000000 then some 1000000000000000 else some (a * b)) (fun k => ?_) (fun k => ?_) ?_
  · rw [value_Product.j0, if_neg (by simp), hmx a ha ha', hmx b hb (by omega), if_neg (by omega), hw b hb]
    by_cases h : 1000000000000000 < a * b
    · rw [if_pos (h1.2 h), if_pos h]; simp [mn]
    · rw [if_neg (fun x => h (h1.1 x)), if_neg (by omega)]
      have : wrap64 (a * b) = a * b := by unfold wrap64; omega
      rw [this, Option.bind_some]; congr 1; unfold mn; omega
  · by_cases h : 1000000000000000 < a * b
    · rw [if_pos (h2.2 h), if_pos h]
    · rw [if_neg (fun x => h (h2.1 x)), if_neg (by omega)]
      have : wrap64 (a * b) = a * b := by unfold wrap64; omega
      rw [this]
  · exact Two.ite Iff.rfl (fun _ => Two.ret _ (by omega)) (fun _ => Two.ret _ (by omega))

theorem getD_mem0 {α : Type} (l : List α) (d : α) (j : Nat) (h : j < l.length) : l.getD j d ∈ l := by
  rw [List.getD_eq_getElem?_getD, List.getElem?_eq_getElem h]; simp

theorem size_l1 (l0 : List Int) (l1 : List S75) (hg : GoodG l0 l1) (a2 : Int) : ∀ m i : Nat, i + m = l1.length → ∀ n : Int, 1 ≤ n → n ≤ 1000000000000000 → Two (fun k => cost_size.l1 k a2 n l1 l1.length i) (fun k => peristyleref10_size.l1 k a2 n l1 l1.length i) (fun r => 1 ≤ r ∧ r ≤ 1000000000000000) := by
  have h20 := hg.le20
  intro m
  induction m with
  | zero =>
    intro i hi n h1 h2
    refine Two.step (fun k => cost_size.l1.eq_2 ..) (fun k => peristyleref10_size.l1.eq_2 ..) ?_
    exact Two.not (by omega) (by omega) (Two.ret _ ⟨h1, h2⟩)
  | succ m ih =>
    intro i hi n h1 h2
    have hge := hg.edges i (by omega)
    obtain ⟨g1, g2, g3, g4, g5, g6⟩ := hge
    refine Two.step (fun k => cost_size.l1.eq_2 ..) (fun k => peristyleref10_size.l1.eq_2 ..) ?_
    refine Two.both (by omega) (by omega) (Two.both (by omega) (by omega) (Two.both (by omega) (by omega) ?_))
    simp only [rdT_at, wnext i (by omega)]
    refine Two.both g1 g1 (Two.ite Iff.rfl (fun _ => Two.both g3 g3 (Two.ite Iff.rfl (fun _ => Two.not (by omega) (by omega) ?_) (fun _ => ih _ (by omega) n h1 h2))) (fun _ => ih _ (by omega) n h1 h2))
    have hd0 : 0 ≤ Int.tdiv n (l1.getD i z75).f2 := Int.tdiv_nonneg (by omega) (by omega)
    have hd1 : Int.tdiv n (l1.getD i z75).f2 ≤ n := by
      rw [Int.tdiv_eq_ediv_of_nonneg (by omega)]; exact Int.ediv_le_self _ (by omega)
    refine ih _ (by omega) _ ?_ ?_ <;> (unfold mx wrap64; omega)

theorem size_l0 (l0 : List Int) (l1 : List S75) (hg : GoodG l0 l1) (a2 : Int) : ∀ m i : Nat, i + m = l0.length → ∀ n : Int, 1 ≤ n → n ≤ 1000000000000000 → Two (fun k => cost_size.l0 k l1 a2 n l0 l0.length i) (fun k => peristyleref10_size.l0 k l1 a2 n l0 l0.length i) (fun r => 1 ≤ r ∧ r ≤ 1000000000000000) := by
  have h8 := hg.le8
  intro m
  induction m with
  | zero =>
    intro i hi n h1 h2
    refine Two.step (fun k => cost_size.l0.eq_2 ..) (fun k => peristyleref10_size.l0.eq_2 ..) ?_
    exact Two.not (by omega) (by omega) (size_l1 l0 l1 hg a2 l1.length 0 (by omega) n h1 h2)
  | succ m ih =>
    intro i hi n h1 h2
    have hr := hg.rows i (by omega)
    refine Two.step (fun k => cost_size.l0.eq_2 ..) (fun k => peristyleref10_size.l0.eq_2 ..) ?_
    refine Two.both (by omega) (by omega) (Two.both (by omega) (by omega) (Two.both (by omega) (by omega) ?_))
    simp only [rd_at, wnext i (by omega)]
    refine Two.ite Iff.rfl (fun _ => Two.bind (prod_eq n _ h1 h2 hr.1 hr.2) (fun t ht => ih _ (by omega) t ht.1 ht.2)) (fun _ => ih _ (by omega) n h1 h2)

theorem size_two (l0 : List Int) (l1 : List S75) (hg : GoodG l0 l1) (a2 : Int) : Two (fun k => cost_size.f k l0 l1 a2) (fun k => peristyleref10_size.f k l0 l1 a2) (fun r => 1 ≤ r ∧ r ≤ 1000000000000000) :=
  size_l0 l0 l1 hg a2 l0.length 0 (by omega) 1 (by omega) (by omega)

theorem Size_l0 (l0 : List Int) (l1 : List S75) (hg : GoodG l0 l1) (l2 : List Int) (hl2 : l2.length ≤ 9223372036854775807) : ∀ m i : Nat, i + m = l2.length → ∀ s : Int, Two (fun k => cost_Size.l0 k l0 l1 l2 s l2 l2.length i) (fun k => peristyleref10_Size.l0 k l0 l1 l2 s l2 l2.length i) (fun _ => True) := by
  have h8 := hg.le8
  have h0 := hg.pos
  have hw : wrap64 ((l0.length : Int) - 1) = (l0.length : Int) - 1 := by unfold wrap64; omega
  intro m
  induction m with
  | zero =>
    intro i hi s
    refine Two.step (fun k => cost_Size.l0.eq_2 ..) (fun k => peristyleref10_Size.l0.eq_2 ..) ?_
    exact Two.not (by omega) (by omega) (Two.ite Iff.rfl (fun _ => Two.ret _ trivial) (fun _ => Two.bind (size_two l0 l1 hg _) (fun t ht => Two.ret _ trivial)))
  | succ m ih =>
    intro i hi s
    refine Two.step (fun k => cost_Size.l0.eq_2 ..) (fun k => peristyleref10_Size.l0.eq_2 ..) ?_
    refine Two.both (by omega) (by omega) (Two.both (by omega) (by omega) (Two.both (by omega) (by omega) ?_))
    simp only [in_eq, within_eq, Option.bind_some, rd_at, hw, wnext i (by omega)]
    refine Two.ite Iff.rfl (fun a => ?_) (fun _ => Two.ret _ trivial)
    simp at a
    have hw' : i ≠ 0 → wrap64 ((i : Int) - 1) = (i : Int) - 1 := by intro h; unfold wrap64; omega
    refine Two.ite Iff.rfl (fun b => Two.both ?_ ?_ (Two.both ?_ ?_ (Two.ite Iff.rfl (fun _ => Two.ret _ trivial) (fun _ => Two.both ?_ ?_ (ih _ (by omega) _))))) (fun _ => Two.both ?_ ?_ (ih _ (by omega) _)) <;> first | (rw [hw' (by omega)]; omega) | simpa using a.1

theorem Size_two (l0 : List Int) (l1 : List S75) (l2 : List Int) (hl2 : l2.length ≤ 9223372036854775807) : Two (fun k => cost_Size.f k l0 l1 l2) (fun k => peristyleref10_Size.f k l0 l1 l2) (fun _ => True) := by
  refine Two.congr (fun k => cost_Size.f.eq_1 ..) (fun k => peristyleref10_Size.f.eq_1 ..) ?_
  refine Two.bind (chk l0 l1) (fun t ht => Two.ite Iff.rfl (fun h => ?_) (fun _ => Two.ret _ trivial))
  exact Size_l0 l0 l1 (ht h) l2 hl2 l2.length 0 (by omega) 0

/-- How many of the lowest eight bits stand. -/
def pc (x : Int) : Nat := (List.range 8).countP fun i : Nat => Go.bits .and .i64 (shr .i64 x (i : Int)) 1 == 1
theorem pc_le (x : Int) : pc x ≤ 8 := by unfold pc; exact Nat.le_trans List.countP_le_length (by simp)
def pcOk (x i : Nat) : Bool := (Go.bits .and .i64 (shr .i64 (x : Int) i) 1 == 1) || (decide (0 ≤ Go.bits .or .i64 (x : Int) (shl .i64 1 i)) && decide (Go.bits .or .i64 (x : Int) (shl .i64 1 i) < 256) && decide (pc (Go.bits .or .i64 (x : Int) (shl .i64 1 i)) = pc x + 1))
theorem pcAll : ((List.range 256).all fun x => (List.range 8).all fun i => pcOk x i) = true := by kernel_rfl
theorem pc_or (x i : Int) (hx : 0 ≤ x) (hx' : x < 256) (hi : 0 ≤ i) (hi' : i < 8) (hb : (Go.bits .and .i64 (shr .i64 x i) 1 == 1) = false) : 0 ≤ Go.bits .or .i64 x (shl .i64 1 i) ∧ Go.bits .or .i64 x (shl .i64 1 i) < 256 ∧ pc (Go.bits .or .i64 x (shl .i64 1 i)) = pc x + 1 := by
  obtain ⟨x, rfl⟩ := Int.eq_ofNat_of_zero_le hx
  obtain ⟨i, rfl⟩ := Int.eq_ofNat_of_zero_le hi
  have h := List.all_eq_true.1 (List.all_eq_true.1 pcAll x (List.mem_range.2 (by omega))) i (List.mem_range.2 (by omega))
  simp only [pcOk, hb, Bool.false_or, Bool.and_eq_true, decide_eq_true_eq] at h
  exact ⟨h.1.1, h.1.2, h.2⟩

theorem CostOf_l0 (l0 : List Int) (l1 : List S75) (hg : GoodG l0 l1) (l2 : List Int) (hl2 : l2.length ≤ 9223372036854775807) : ∀ m i : Nat, i + m = l2.length → ∀ (st : List Int) (c s : Int), 0 ≤ s → s < 256 → st.length ≤ pc s → 0 ≤ c → c ≤ 1000000000000000 → Two (fun k => cost_CostOf.l0 k l0 l1 st c s l2 l2.length i) (fun k => peristyleref10_CostOf.l0 k l0 l1 st s c l2 l2.length i) (fun _ => True) := by
  have h8 := hg.le8
  have h0 := hg.pos
  have hw : wrap64 ((l0.length : Int) - 1) = (l0.length : Int) - 1 := by unfold wrap64; omega
  intro m
  induction m with
  | zero =>
    intro i hi st c s hs hs' hst hc hc'
    refine Two.step (fun k => cost_CostOf.l0.eq_2 ..) (fun k => peristyleref10_CostOf.l0.eq_2 ..) ?_
    exact Two.not (by omega) (by omega) (Two.ite Iff.rfl (fun _ => Two.ite Iff.rfl (fun _ => Two.ret _ trivial) (fun _ => Two.ret _ trivial)) (fun _ => Two.ret _ trivial))
  | succ m ih =>
    intro i hi st c s hs hs' hst hc hc'
    have hpc := pc_le s
    refine Two.step (fun k => cost_CostOf.l0.eq_2 ..) (fun k => peristyleref10_CostOf.l0.eq_2 ..) ?_
    refine Two.both (by omega) (by omega) (Two.both (by omega) (by omega) (Two.both (by omega) (by omega) ?_))
    simp only [in_eq, within_eq, Option.bind_some, rd_at, hw]
    refine Two.ite Iff.rfl (fun a => ?_) (fun _ => Two.ret _ trivial)
    generalize l2.getD i 0 = x at a ⊢
    simp at a
    have key : ∀ b : Bool, (x ≥ 0 → b = false → (Go.bits .and .i64 (shr .i64 s x) 1 == 1) = false) → Two (fun k => cost_CostOf.j1 k l0 l1 st c s x l2 l2.length i b) (fun k => peristyleref10_CostOf.j1 k l0 l1 st s c x l2 l2.length i b) (fun _ => True) := by
      intro b hb
      refine Two.step (fun k => cost_CostOf.j1.eq_2 ..) (fun k => peristyleref10_CostOf.j1.eq_2 ..) ?_
      rw [wnext i (by omega)]
      refine Two.ite Iff.rfl (fun _ => Two.ret _ trivial) (fun hb' => ?_)
      refine Two.ite Iff.rfl (fun hx => Two.both hx hx (Two.both (by omega) (by omega) ?_)) (fun hx => ?_)
      · obtain ⟨p1, p2, p3⟩ := pc_or s x hs hs' (by omega) (by omega) (hb hx (by simpa using hb'))
        exact ih (i + 1) (by omega) _ _ _ p1 p2 (by simp; omega) hc hc'
      · have e1 : 2 ≤ st.length → wrap64 ((st.length : Int) - 2) = ((st.length - 2 : Nat) : Int) := by intro h; unfold wrap64; omega
        have e2 : 2 ≤ st.length → wrap64 (((st.length - 2 : Nat) : Int) + 1) = ((st.length - 1 : Nat) : Int) := by intro h; unfold wrap64; omega
        refine Two.ite Iff.rfl (fun _ => Two.ret _ trivial) (fun hlen => ?_)
        have hlen : 2 ≤ st.length := by omega
        rw [e1 hlen, e2 hlen]
        refine Two.both (by omega) (by omega) (Two.both (by omega) (by omega) (Two.both (by omega) (by omega) (Two.both (by omega) (by omega) (Two.both (by omega) (by omega) ?_))))
        simp only [Option.bind_some, Int.toNat_natCast, rd_at]
        have ht : (st.take (st.length - 2)).length = st.length - 2 := by simp
        refine Two.both (by omega) (by omega) ?_
        refine Two.left (by simp; omega) ?_
        have hr : (st.take (st.length - 2) ++ [Go.bits .or .i64 (st.getD (st.length - 2) 0) (st.getD (st.length - 1) 0)]).getD (st.length - 2) 0 = Go.bits .or .i64 (st.getD (st.length - 2) 0) (st.getD (st.length - 1) 0) := by
          rw [List.getD_eq_getElem?_getD, List.getElem?_append_right (by omega), ht]; simp
        rw [hr]
        refine Two.bind (size_two l0 l1 hg _) (fun t ht' => ?_)
        refine ih (i + 1) (by omega) _ _ _ hs hs' (by simp; omega) ?_ ?_ <;> (unfold mn wrap64; omega)
    refine Two.ite Iff.rfl (fun hx => Two.both hx hx (key _ (fun _ h => h))) (fun hx => key _ (fun h => absurd h hx))

theorem CostOf_two (l0 : List Int) (l1 : List S75) (l2 : List Int) (hl2 : l2.length ≤ 9223372036854775807) : Two (fun k => cost_CostOf.f k l0 l1 l2) (fun k => peristyleref10_CostOf.f k l0 l1 l2) (fun _ => True) := by
  refine Two.congr (fun k => cost_CostOf.f.eq_1 ..) (fun k => peristyleref10_CostOf.f.eq_1 ..) ?_
  refine Two.bind (chk l0 l1) (fun t ht => Two.ite Iff.rfl (fun h => ?_) (fun _ => Two.ret _ trivial))
  exact CostOf_l0 l0 l1 (ht h) l2 hl2 l2.length 0 (by omega) [] 0 0 (by omega) (by omega) (by simp) (by omega) (by omega)

theorem awake400 : peristylelaw10_awake.f 400 = some true := by kernel_rfl
theorem awakeEv : ∃ K, ∀ k, K ≤ k → peristylelaw10_awake.f k = some true := ⟨400, fun k hk => at_rounds peristylelaw10_awake.mono hk awake400⟩

theorem CostTreesMatchSpec : ∀ (l0 : List Int) (l1 : List (S75)) (l2 : List Int) (l3 : List Int), l0.length ≤ 9223372036854775807 → (∀ z1 ∈ l0, (Lit.int .i64 z1).wf = true) → l1.length ≤ 9223372036854775807 → (∀ z1 ∈ l1, ok75 z1) → l2.length ≤ 9223372036854775807 → (∀ z1 ∈ l2, (Lit.int .i64 z1).wf = true) → l3.length ≤ 9223372036854775807 → (∀ z1 ∈ l3, (Lit.int .i64 z1).wf = true) → ∃ k, peristylelaw10_CostTreesMatchSpec.f k l0 l1 l2 l3 = some true := by
  intro l0 l1 l2 l3 _ _ _ _ h2 _ h3 _
  obtain ⟨r, ⟨K1, hK1⟩, -⟩ := Size_two l0 l1 l2 h2
  obtain ⟨q, ⟨K2, hK2⟩, -⟩ := CostOf_two l0 l1 l3 h3
  obtain ⟨K3, hK3⟩ := awakeEv
  refine ⟨K1 + K2 + K3 + 1, ?_⟩
  obtain ⟨a, a'⟩ : cost_Size.f (K1 + K2 + K3 + 1) l0 l1 l2 = some r ∧ peristyleref10_Size.f (K1 + K2 + K3 + 1) l0 l1 l2 = some r := hK1 (K1 + K2 + K3 + 1) (by omega)
  obtain ⟨b, b'⟩ : cost_CostOf.f (K1 + K2 + K3) l0 l1 l3 = some q ∧ peristyleref10_CostOf.f (K1 + K2 + K3) l0 l1 l3 = some q := hK2 (K1 + K2 + K3) (by omega)
  have c := hK3 (K1 + K2 + K3) (by omega)
  rw [peristylelaw10_CostTreesMatchSpec.f, a, a']
  simp [peristylelaw10_CostTreesMatchSpec.j0, b, b', c]

end Go.Proofs.YtgcijejmmhjibaaDoor.T.Pure
