/- The printed form of the law StatsJoinsMatchSpec is true at every input: both packages' checks of statistics answer alike, their joins add the same numbers, and with no buckets the sum is the same with both turned round; conditions: none beside those that the given row itself bears. -/
import Derived.Test.YtgcijejmmhjibaaDoorJx19
import Derived.Test.YtgcijejmmhjibaaDoorJo
set_option linter.unusedVariables false
set_option linter.unusedSimpArgs false
namespace Go.Proofs.YtgcijejmmhjibaaDoor.J.Pure
open Go.RowKit Go.Proofs.YtgcijejmmhjibaaDoor.J Go.Proofs.YtgcijejmmhjibaaDoorW.PrintWords Go.Proofs.YtgcijejmmhjibaaDoorW.PrintLast Go.Proofs.YtgcijejmmhjibaaDoorW.PrintMore

/-! Two printed functions side by side. -/
def Two {α : Type} (g h : Nat → Option α) (P : α → Prop) : Prop := ∃ r, (∃ K, ∀ k, K ≤ k → g k = some r ∧ h k = some r) ∧ P r
theorem Two.ret {α : Type} {P : α → Prop} (r : α) (h : P r) : Two (fun _ => some r) (fun _ => some r) P := ⟨r, ⟨0, fun _ _ => ⟨rfl, rfl⟩⟩, h⟩
theorem Two.step {α : Type} {g h g' h' : Nat → Option α} {P : α → Prop} (e : ∀ k, g (k + 1) = g' k) (e' : ∀ k, h (k + 1) = h' k) (H : Two g' h' P) : Two g h P := by
  obtain ⟨r, ⟨K, hK⟩, hP⟩ := H
  refine ⟨r, ⟨K + 1, fun k hk => ?_⟩, hP⟩
  obtain ⟨j, rfl⟩ : ∃ j, k = j + 1 := ⟨k - 1, by omega⟩
  rw [e, e']; exact hK j (by omega)
theorem Two.congr {α : Type} {g h g' h' : Nat → Option α} {P : α → Prop} (e : ∀ k, g k = g' k) (e' : ∀ k, h k = h' k) (H : Two g' h' P) : Two g h P := by
  obtain rfl : g = g' := funext e
  obtain rfl : h = h' := funext e'
  exact H
theorem Two.bind {α β : Type} {g h : Nat → Option α} {f f' : Nat → α → Option β} {P : α → Prop} {Q : β → Prop} (H : Two g h P) (k : ∀ a, P a → Two (fun n => f n a) (fun n => f' n a) Q) : Two (fun n => (g n).bind (f n)) (fun n => (h n).bind (f' n)) Q := by
  obtain ⟨a, ⟨K, hK⟩, hP⟩ := H
  obtain ⟨r, ⟨K', hK'⟩, hQ⟩ := k a hP
  refine ⟨r, ⟨K + K', fun n hn => ?_⟩, hQ⟩
  show (g n).bind (f n) = some r ∧ (h n).bind (f' n) = some r
  rw [(hK n (by omega)).1, (hK n (by omega)).2]
  exact hK' n (by omega)
theorem Two.ite {α : Type} {c c' : Prop} [Decidable c] [Decidable c'] {g h g' h' : Nat → Option α} {P : α → Prop} (hc : c ↔ c') (H : c → Two g h P) (H' : ¬ c → Two g' h' P) : Two (fun k => if c then g k else g' k) (fun k => if c' then h k else h' k) P := by
  by_cases x : c
  · have x' := hc.1 x
    simp only [if_pos x, if_pos x']; exact H x
  · have x' : ¬ c' := fun y => x (hc.2 y)
    simp only [if_neg x, if_neg x']; exact H' x
theorem Two.left {α : Type} {c : Prop} [Decidable c] {g h g' : Nat → Option α} {P : α → Prop} (x : c) (H : Two g h P) : Two (fun k => if c then g k else g' k) h P := by
  simp only [if_pos x]; exact H
theorem Two.right {α : Type} {c : Prop} [Decidable c] {g h g' : Nat → Option α} {P : α → Prop} (x : c) (H : Two h g P) : Two h (fun k => if c then g k else g' k) P := by
  simp only [if_pos x]; exact H
theorem Two.both {α : Type} {c c' : Prop} [Decidable c] [Decidable c'] {g h g' h' : Nat → Option α} {P : α → Prop} (x : c) (x' : c') (H : Two g h P) : Two (fun k => if c then g k else g' k) (fun k => if c' then h k else h' k) P := by
  simp only [if_pos x, if_pos x']; exact H
theorem Two.not {α : Type} {c c' : Prop} [Decidable c] [Decidable c'] {g h g' h' : Nat → Option α} {P : α → Prop} (x : ¬ c) (x' : ¬ c') (H : Two g' h' P) : Two (fun k => if c then g k else g' k) (fun k => if c' then h k else h' k) P := by
  simp only [if_neg x, if_neg x']; exact H
theorem Two.imp {α : Type} {g h : Nat → Option α} {P Q : α → Prop} (H : Two g h P) (i : ∀ r, P r → Q r) : Two g h Q := by
  obtain ⟨r, hK, hP⟩ := H; exact ⟨r, hK, i r hP⟩

theorem Two.ofEv {α : Type} {g h : Nat → Option α} {r : α} (A : Ev g r) (B : Ev h r) : Two g h (fun x => x = r) := by
  obtain ⟨K, hK⟩ := A
  obtain ⟨K', hK'⟩ := B
  exact ⟨r, ⟨K + K', fun n hn => ⟨hK n (by omega), hK' n (by omega)⟩⟩, rfl⟩
theorem Two.bindEv {α β : Type} {g h : Nat → Option α} {f f' : Nat → α → Option β} {a : α} {Q : β → Prop} (A : Ev g a) (B : Ev h a) (k : Two (fun n => f n a) (fun n => f' n a) Q) : Two (fun n => (g n).bind (f n)) (fun n => (h n).bind (f' n)) Q :=
  Two.bind (Two.ofEv A B) (fun x hx => by subst hx; exact k)
theorem Two.bindL {α β : Type} {g : Nat → Option α} {f : Nat → α → Option β} {h : Nat → Option β} {a : α} {Q : β → Prop} (A : Ev g a) (k : Two (fun n => f n a) h Q) : Two (fun n => (g n).bind (f n)) h Q := by
  obtain ⟨r, ⟨K, hK⟩, hQ⟩ := k
  obtain ⟨K', hK'⟩ := A
  refine ⟨r, ⟨K + K', fun n hn => ⟨?_, (hK n (by omega)).2⟩⟩, hQ⟩
  show (g n).bind (f n) = some r
  rw [hK' n (by omega)]; exact (hK n (by omega)).1
theorem Two.bindR {α β : Type} {g : Nat → Option α} {f : Nat → α → Option β} {h : Nat → Option β} {a : α} {Q : β → Prop} (A : Ev g a) (k : Two h (fun n => f n a) Q) : Two h (fun n => (g n).bind (f n)) Q := by
  obtain ⟨r, ⟨K, hK⟩, hQ⟩ := k
  obtain ⟨K', hK'⟩ := A
  refine ⟨r, ⟨K + K', fun n hn => ⟨(hK n (by omega)).1, ?_⟩⟩, hQ⟩
  show (g n).bind (f n) = some r
  rw [hK' n (by omega)]; exact (hK n (by omega)).2
theorem Two.evs {α : Type} {g h : Nat → Option α} {P : α → Prop} (H : Two g h P) : ∃ r, Ev g r ∧ Ev h r ∧ P r := by
  obtain ⟨r, ⟨K, hK⟩, p⟩ := H
  exact ⟨r, ⟨K, fun k hk => (hK k hk).1⟩, ⟨K, fun k hk => (hK k hk).2⟩, p⟩
theorem Ev.itep {α : Type} {c : Prop} [Decidable c] {g h : Nat → Option α} {r : α} (x : c) (H : Ev g r) : Ev (fun k => if c then g k else h k) r := by simp only [if_pos x]; exact H
theorem Ev.iten {α : Type} {c : Prop} [Decidable c] {g h : Nat → Option α} {r : α} (x : ¬ c) (H : Ev h r) : Ev (fun k => if c then g k else h k) r := by simp only [if_neg x]; exact H
theorem Ev.ite {α : Type} {c : Prop} [Decidable c] {g h : Nat → Option α} {r s : α} (H : c → Ev g r) (H' : ¬ c → Ev h s) : Ev (fun k => if c then g k else h k) (if c then r else s) := by
  by_cases x : c
  · simp only [if_pos x]; exact H x
  · simp only [if_neg x]; exact H' x
theorem Ev.cast {α : Type} {g : Nat → Option α} {r s : α} (H : Ev g r) (e : r = s) : Ev g s := e ▸ H
theorem wnext (n : Nat) (h : n < 9223372036854775807) : wrap64 ((n : Int) + 1) = ((n + 1 : Nat) : Int) := by unfold wrap64; omega
theorem wprev (n : Nat) (h0 : 0 < n) (h : n < 9223372036854775807) : wrap64 ((n : Int) - 1) = ((n - 1 : Nat) : Int) := by unfold wrap64; omega
theorem in_eq (a b c : Int) : kit_In.f a b c = some (decide (b ≤ a ∧ a ≤ c)) := by
  unfold kit_In.f; by_cases h : b ≤ a <;> simp [h]
theorem within_eq (a b c : Int) : peristyleref10_within.f a b c = some (decide (b ≤ a ∧ a ≤ c)) := by
  unfold peristyleref10_within.f; by_cases h : b ≤ a <;> simp [h]
theorem within1_eq (a b c : Int) : peristyleref1_within.f a b c = some (decide (b ≤ a ∧ a ≤ c)) := by
  unfold peristyleref1_within.f; by_cases h : b ≤ a <;> simp [h]
theorem range_eq (a b c : Int) : kit_Range.f a b c = some (if b ≤ a ∧ a ≤ c then 0 else 1) := by
  unfold kit_Range.f; rw [in_eq]; by_cases h : b ≤ a ∧ a ≤ c <;> simp [h]
theorem rd100 (xs : List S100) (i : Nat) : rd_T100 xs (i : Int) = xs.getD i z100 := by simp [rd_T100]
theorem rd105 (xs : List S105) (i : Nat) : rd_T105 xs (i : Int) = xs.getD i z105 := by simp [rd_T105]
/-! Values. -/
theorem nil_iff (s : ByteArray) : s.toList = [] ↔ s.size = 0 := by
  rw [ByteArray.toList_eq, ← List.length_eq_zero_iff]
  exact Iff.rfl
def tx (s : ByteArray) : Nat → Nat → Int
  | 0, _ => 0
  | m + 1, i => if 32 ≤ bt s i ∧ bt s i ≤ 126 then tx s m (i + 1) else 3
def cv (v : S48) : Int :=
  if v.f0 = 0 then (if v.f1 = 0 ∧ v.f2.size = 0 then 0 else 3)
  else if v.f0 = 1 then (if v.f2.size = 0 then (if 0 ≤ v.f1 ∧ v.f1 ≤ 1 then 0 else 1) else 3)
  else if v.f0 = 2 then (if v.f2.size = 0 then (if -1000000000000000 ≤ v.f1 ∧ v.f1 ≤ 1000000000000000 then 0 else 1) else 3)
  else if v.f0 = 3 then (if v.f1 = 0 then (if 200 < v.f2.size then 2 else tx v.f2 v.f2.size 0) else 3) else 4
theorem tx_cost (s : ByteArray) (hs : s.size ≤ 200) (a b : Int) : ∀ m i : Nat, i + m = s.size → Ev (fun k => value_CheckValue.l0 k (s.size : Int) i a b s) (tx s m i) := by
  intro m
  induction m with
  | zero => intro i hi; exact Ev.step (fun k => value_CheckValue.l0.eq_2 ..) (Ev.iten (by omega) (Ev.now _))
  | succ m ih =>
    intro i hi
    have hr := bt_range s i
    have hw : wrap64 (bt s i) = bt s i := by unfold wrap64; omega
    refine Ev.step (fun k => value_CheckValue.l0.eq_2 ..) (Ev.itep (by omega) (Ev.itep (by omega) (Ev.itep (by omega) ?_)))
    simp only [hw, in_eq, Option.bind_some, wnext i (by omega)]
    refine Ev.cast (Ev.ite (fun _ => ih (i + 1) (by omega)) (fun _ => Ev.now _)) ?_
    simp only [decide_eq_true_eq]; rfl

theorem tx_ref (s : ByteArray) (hs : s.size ≤ 200) (a b : Int) : ∀ m i : Nat, i + m = s.size → Ev (fun k => peristyleref1_CheckValue.l0 k i a b s) (tx s m i) := by
  intro m
  induction m with
  | zero => intro i hi; exact Ev.step (fun k => peristyleref1_CheckValue.l0.eq_2 ..) (Ev.iten (by omega) (Ev.now _))
  | succ m ih =>
    intro i hi
    refine Ev.step (fun k => peristyleref1_CheckValue.l0.eq_2 ..) (Ev.itep (by omega) (Ev.itep (by omega) ?_))
    rw [wnext i (by omega)]
    show Ev _ (if 32 ≤ bt s i ∧ bt s i ≤ 126 then tx s m (i + 1) else 3)
    by_cases c : bt s i < 32
    · exact Ev.itep c (Ev.cast (Ev.now _) (if_neg (by omega)).symm)
    · refine Ev.iten c ?_
      by_cases d : bt s i > 126
      · exact Ev.itep d (Ev.cast (Ev.now _) (if_neg (by omega)).symm)
      · exact Ev.iten d (Ev.cast (ih (i + 1) (by omega)) (if_pos (by omega)).symm)
theorem cv_cost (v : S48) : Ev (fun k => value_CheckValue.f k v.f0 v.f1 v.f2) (cv v) := by
  obtain ⟨a, b, s⟩ := v
  refine Ev.congr (fun k => value_CheckValue.f.eq_1 ..) ?_
  unfold cv
  simp only
  have hn := nil_iff s
  by_cases h0 : a = 0
  · subst h0
    refine Ev.itep rfl (Ev.cast (r := if b = 0 then (if s.toList = [] then 0 else 3) else 3) (Ev.ite (fun _ => Ev.ite (fun _ => Ev.now _) (fun _ => Ev.now _)) (fun _ => Ev.now _)) ?_)
    by_cases hb : b = 0 <;> by_cases hs : s.size = 0 <;> simp [hb, hs, hn]
  · refine Ev.iten h0 ?_
    by_cases h1 : a = 1
    · subst h1
      refine Ev.itep rfl (Ev.step (fun k => value_CheckValue.j0.eq_2 ..) (Ev.itep (by simp) (Ev.cast (r := if s.toList = [] then (if 0 ≤ b ∧ b ≤ 1 then 0 else 1) else 3) (Ev.ite (fun _ => Ev.itep rfl ?_) (fun _ => Ev.now _)) ?_)))
      · simp only [range_eq, Option.bind_some]; exact Ev.now _
      · by_cases hs : s.size = 0 <;> simp [hs, hn]
    · refine Ev.iten h1 ?_
      by_cases h2 : a = 2
      · subst h2
        refine Ev.step (fun k => value_CheckValue.j0.eq_2 ..) (Ev.itep (by simp) (Ev.cast (r := if s.toList = [] then (if -1000000000000000 ≤ b ∧ b ≤ 1000000000000000 then 0 else 1) else 3) (Ev.ite (fun _ => Ev.iten (by omega) ?_) (fun _ => Ev.now _)) ?_))
        · simp only [range_eq, Option.bind_some]; exact Ev.now _
        · by_cases hs : s.size = 0 <;> simp [hs, hn]
      · refine Ev.step (fun k => value_CheckValue.j0.eq_2 ..) (Ev.iten (by simpa using h2) ?_)
        by_cases h3 : a = 3
        · subst h3
          refine Ev.itep rfl (Ev.cast (r := if b = 0 then (if 200 < s.size then 2 else tx s s.size 0) else 3) (Ev.ite (fun _ => ?_) (fun _ => Ev.now _)) (by simp))
          by_cases hl : 200 < s.size
          · exact Ev.itep (by omega) (Ev.cast (Ev.now _) (if_pos hl).symm)
          · exact Ev.iten (by omega) (Ev.cast (tx_cost s (by omega) 3 b s.size 0 (by omega)) (if_neg hl).symm)
        · exact Ev.iten h3 (Ev.cast (Ev.now _) (by simp [h0, h1, h2, h3]))
theorem ref_j1 (a b : Int) (s : ByteArray) (c : Bool) : Ev (fun k => peristyleref1_CheckValue.j1 k c a b s) (if c = true then 1 else if 200 < s.size then 2 else tx s s.size 0) := by
  refine Ev.step (fun k => peristyleref1_CheckValue.j1.eq_2 ..) (Ev.ite (fun _ => Ev.now _) (fun _ => ?_))
  by_cases hl : 200 < s.size
  · exact Ev.itep (by omega) (Ev.cast (Ev.now _) (if_pos hl).symm)
  · exact Ev.iten (by omega) (Ev.cast (tx_ref s (by omega) a b s.size 0 (by omega)) (if_neg hl).symm)
theorem ref_j1_0 (a b : Int) (s : ByteArray) (c : Bool) (hs : s.size = 0) : Ev (fun k => peristyleref1_CheckValue.j1 k c a b s) (if c = true then 1 else 0) := by
  refine Ev.cast (ref_j1 a b s c) ?_
  rw [if_neg (by omega : ¬ 200 < s.size), hs]; rfl
theorem ref_j0t (a b : Int) (s : ByteArray) : Ev (fun k => peristyleref1_CheckValue.j0 k true a b s) 3 :=
  Ev.step (fun k => peristyleref1_CheckValue.j0.eq_2 ..) (Ev.itep rfl (Ev.now _))
theorem cv_ref (v : S48) : Ev (fun k => peristyleref1_CheckValue.f k v.f0 v.f1 v.f2) (cv v) := by
  obtain ⟨a, b, s⟩ := v
  refine Ev.congr (fun k => peristyleref1_CheckValue.f.eq_1 ..) ?_
  unfold cv
  simp only [within1_eq, Option.bind_some]
  have hj : ∀ {r : Int}, (s.size = 0 → Ev (fun k => peristyleref1_CheckValue.j0 k false a b s) r) → Ev (fun k => peristyleref1_CheckValue.j0 k (s.toList != ([] : List UInt8)) a b s) (if s.size = 0 then r else 3) := by
    intro r h
    by_cases hs : s.size = 0
    · have e : (s.toList != ([] : List UInt8)) = false := by simp [(nil_iff s).2 hs]
      rw [e, if_pos hs]; exact h hs
    · have e : (s.toList != ([] : List UInt8)) = true := by simp [bne, nil_iff, hs]
      rw [e, if_neg hs]; exact ref_j0t a b s
  by_cases hk : 0 ≤ a ∧ a ≤ 3
  · refine Ev.itep (by simpa using hk) ?_
    by_cases h1 : a = 1
    · subst h1
      refine Ev.itep rfl (Ev.iten (by omega) (Ev.cast (hj (r := if 0 ≤ b ∧ b ≤ 1 then 0 else 1) (fun hs => ?_)) (by simp)))
      refine Ev.step (fun k => peristyleref1_CheckValue.j0.eq_2 ..) (Ev.iten (by simp) (Ev.itep rfl ?_))
      simp only [within1_eq, Option.bind_some]
      by_cases hb : 0 ≤ b ∧ b ≤ 1
      · exact Ev.itep (by simpa using hb) (Ev.iten (by omega) (Ev.cast (ref_j1_0 1 b s false hs) (by simp [hb])))
      · exact Ev.iten (by simpa using hb) (Ev.cast (ref_j1_0 1 b s true hs) (by simp [hb]))
    · refine Ev.iten h1 ?_
      by_cases h2 : a = 2
      · subst h2
        refine Ev.itep rfl (Ev.iten (by omega) (Ev.cast (hj (r := if -1000000000000000 ≤ b ∧ b ≤ 1000000000000000 then 0 else 1) (fun hs => ?_)) (by simp)))
        refine Ev.step (fun k => peristyleref1_CheckValue.j0.eq_2 ..) (Ev.iten (by simp) (Ev.iten (by omega) (Ev.itep rfl ?_)))
        simp only [within1_eq, Option.bind_some]
        by_cases hb : -1000000000000000 ≤ b ∧ b ≤ 1000000000000000
        · exact Ev.cast (ref_j1_0 2 b s _ hs) (by simp [hb])
        · exact Ev.cast (ref_j1_0 2 b s _ hs) (by simp [hb])
      · refine Ev.iten h2 ?_
        by_cases h3 : a = 3
        · subst h3
          refine Ev.cast (r := if b = 0 then (if 200 < s.size then 2 else tx s s.size 0) else 3) (Ev.ite (fun hb => Ev.itep rfl ?_) (fun _ => ref_j0t 3 b s)) (by simp)
          exact Ev.step (fun k => peristyleref1_CheckValue.j0.eq_2 ..) (Ev.iten (by simp) (Ev.iten (by omega) (Ev.iten (by omega) (ref_j1 3 b s false))))
        · obtain rfl : a = 0 := by omega
          by_cases hb : b = 0
          · refine Ev.itep hb (Ev.iten (by omega) (Ev.cast (hj (r := 0) (fun hs => ?_)) (by simp [hb])))
            exact Ev.step (fun k => peristyleref1_CheckValue.j0.eq_2 ..) (Ev.iten (by simp) (Ev.iten (by omega) (Ev.iten (by omega) (ref_j1_0 0 b s false hs))))
          · refine Ev.iten hb (Ev.cast (ref_j0t 0 b s) (by simp [hb]))
  · refine Ev.iten (by simpa using hk) (Ev.cast (Ev.now _) ?_)
    have g0 : a ≠ 0 := by omega
    have g1 : a ≠ 1 := by omega
    have g2 : a ≠ 2 := by omega
    have g3 : a ≠ 3 := by omega
    simp [g0, g1, g2, g3]

/-! The order of values. -/
abbrev cb := Lib.compareBytes
theorem cb_self : ∀ l : List UInt8, cb l l = 0
  | [] => rfl
  | a :: l => by
    have := cb_self l
    simp only [cb, Lib.compareBytes] at this ⊢
    simp [UInt8.lt_irrefl, this]
theorem u8 (a b : UInt8) : (a < b ∨ b < a) ∨ a = b := by
  rcases Nat.lt_trichotomy a.toNat b.toNat with h | h | h
  · exact Or.inl (Or.inl (UInt8.lt_iff_toNat_lt.2 h))
  · exact Or.inr (UInt8.toNat_inj.1 h)
  · exact Or.inl (Or.inr (UInt8.lt_iff_toNat_lt.2 h))
theorem u8a {a b : UInt8} (h : a < b) : ¬ b < a := fun k => by
  have := UInt8.lt_iff_toNat_lt.1 h; have := UInt8.lt_iff_toNat_lt.1 k; omega
theorem u8t {a b c : UInt8} (h : a < b) (k : b < c) : a < c := UInt8.lt_iff_toNat_lt.2 (by
  have := UInt8.lt_iff_toNat_lt.1 h; have := UInt8.lt_iff_toNat_lt.1 k; omega)
theorem cb_cons_lt {a b : UInt8} (h : a < b) (x y : List UInt8) : cb (a :: x) (b :: y) = -1 := by simp [cb, Lib.compareBytes, h]
theorem cb_cons_gt {a b : UInt8} (h : b < a) (x y : List UInt8) : cb (a :: x) (b :: y) = 1 := by simp [cb, Lib.compareBytes, h, u8a h]
theorem cb_cons_eq (a : UInt8) (x y : List UInt8) : cb (a :: x) (a :: y) = cb x y := by simp [cb, Lib.compareBytes, UInt8.lt_irrefl]
theorem cb_neg : ∀ x y : List UInt8, cb y x = - cb x y
  | [], [] => rfl
  | [], _ :: _ => rfl
  | _ :: _, [] => rfl
  | a :: x, b :: y => by
    rcases u8 a b with (h | h) | h
    · rw [cb_cons_lt h, cb_cons_gt h]; rfl
    · rw [cb_cons_gt h, cb_cons_lt h]
    · subst h; rw [cb_cons_eq, cb_cons_eq]; exact cb_neg x y
theorem cb_val : ∀ x y : List UInt8, cb x y = if x = y then 0 else if Op.bytesLess x y = true then -1 else 1
  | [], [] => rfl
  | [], _ :: _ => rfl
  | _ :: _, [] => rfl
  | a :: x, b :: y => by
    rcases u8 a b with (h | h) | h
    · have hne : a ≠ b := fun e => by subst e; exact UInt8.lt_irrefl _ h
      rw [cb_cons_lt h]; simp [Op.bytesLess, h, hne]
    · have hne : a ≠ b := fun e => by subst e; exact UInt8.lt_irrefl _ h
      rw [cb_cons_gt h]; simp [Op.bytesLess, u8a h, hne]
    · subst h
      rw [cb_cons_eq, cb_val x y]; simp [Op.bytesLess, UInt8.lt_irrefl]
theorem cb_zero (x y : List UInt8) : cb x y = 0 ↔ x = y := by
  rw [cb_val]
  by_cases h : x = y
  · simp [h]
  · rw [if_neg h]; simp only [h, iff_false]; split <;> omega
theorem cb_trans : ∀ x y z : List UInt8, cb x y < 0 → cb y z < 0 → cb x z < 0
  | _, [], [], _, h => by have : cb [] [] = 0 := rfl; omega
  | [], [], _ :: _, h, _ => by have : cb [] [] = 0 := rfl; omega
  | [], _ :: _, [], _, h => by have : ∀ a l, cb (a :: l) [] = 1 := fun _ _ => rfl; rw [this] at h; omega
  | [], _, _ :: _, _, _ => by show (-1 : Int) < 0; omega
  | _ :: _, [], _, h, _ => by have : ∀ a l, cb (a :: l) [] = 1 := fun _ _ => rfl; rw [this] at h; omega
  | _ :: _, _ :: _, [], _, h => by have : ∀ a l, cb (a :: l) [] = 1 := fun _ _ => rfl; rw [this] at h; omega
  | a :: x, b :: y, c :: z, h, k => by
    rcases u8 a b with (g | g) | g
    · rcases u8 b c with (f | f) | f
      · rw [cb_cons_lt (u8t g f)]; omega
      · rw [cb_cons_gt f] at k; omega
      · subst f; rw [cb_cons_lt g]; omega
    · rw [cb_cons_gt g] at h; omega
    · subst g
      rcases u8 a c with (f | f) | f
      · rw [cb_cons_lt f]; omega
      · rw [cb_cons_gt f] at k; omega
      · subst f
        rw [cb_cons_eq] at h k ⊢
        exact cb_trans x y z h k
def cmp3 (x y : Int) : Int := if x < y then -1 else if x > y then 1 else 0
def cmpv (a b : S48) : Int := if a.f0 = b.f0 then (if a.f0 = 3 then cb a.f2.data.toList b.f2.data.toList else cmp3 a.f1 b.f1) else cmp3 a.f0 b.f0
theorem cmp3_neg (x y : Int) : cmp3 y x = - cmp3 x y := by unfold cmp3; split <;> split <;> (try split) <;> omega
theorem kcmp (a b : S48) : kit_Compare.f a.f0 a.f1 a.f2 b.f0 b.f1 b.f2 = some (cmpv a b) := by
  have hs : ∀ x y, kit_sign.f x y = some (cmp3 x y) := fun x y => by unfold kit_sign.f cmp3; split <;> (try split) <;> rfl
  unfold kit_Compare.f cmpv strings_Compare.f
  simp only [hs, Option.bind_some]
  split <;> (try split) <;> rfl
theorem cmpv_neg (a b : S48) : cmpv b a = - cmpv a b := by
  unfold cmpv
  by_cases h : a.f0 = b.f0
  · rw [if_pos h, if_pos h.symm, ← h]
    by_cases h3 : a.f0 = 3
    · rw [if_pos h3, if_pos h3, cb_neg]
    · rw [if_neg h3, if_neg h3, cmp3_neg]
  · rw [if_neg h, if_neg (fun x => h x.symm), cmp3_neg]
def Val (v : S48) : Prop := cv v = 0
theorem Val.kinds {v : S48} (h : Val v) : (v.f0 = 0 ∧ v.f1 = 0 ∧ v.f2.size = 0) ∨ ((v.f0 = 1 ∨ v.f0 = 2) ∧ v.f2.size = 0) ∨ (v.f0 = 3 ∧ v.f1 = 0) := by
  unfold Val cv at h
  by_cases h0 : v.f0 = 0
  · rw [if_pos h0] at h
    by_cases g : v.f1 = 0 ∧ v.f2.size = 0
    · exact Or.inl ⟨h0, g.1, g.2⟩
    · rw [if_neg g] at h; omega
  · rw [if_neg h0] at h
    by_cases h1 : v.f0 = 1
    · rw [if_pos h1] at h
      by_cases g : v.f2.size = 0
      · exact Or.inr (Or.inl ⟨Or.inl h1, g⟩)
      · rw [if_neg g] at h; omega
    · rw [if_neg h1] at h
      by_cases h2 : v.f0 = 2
      · rw [if_pos h2] at h
        by_cases g : v.f2.size = 0
        · exact Or.inr (Or.inl ⟨Or.inr h2, g⟩)
        · rw [if_neg g] at h; omega
      · rw [if_neg h2] at h
        by_cases h3 : v.f0 = 3
        · rw [if_pos h3] at h
          by_cases g : v.f1 = 0
          · exact Or.inr (Or.inr ⟨h3, g⟩)
          · rw [if_neg g] at h; omega
        · rw [if_neg h3] at h; omega
theorem nil_of {s : ByteArray} (h : s.size = 0) : s.toList = [] := (nil_iff s).2 h
def veq (a b : S48) : Bool := a.f0 == b.f0 && (a.f1 == b.f1 && (a.f2.toList == b.f2.toList))
theorem cmp3_zero (x y : Int) : cmp3 x y = 0 ↔ x = y := by unfold cmp3; split <;> (try split) <;> omega
theorem veq_iff {a b : S48} (ha : Val a) (hb : Val b) : veq a b = true ↔ cmpv a b = 0 := by
  have e : veq a b = true ↔ a.f0 = b.f0 ∧ a.f1 = b.f1 ∧ a.f2.toList = b.f2.toList := by simp [veq]
  rw [e]
  unfold cmpv
  by_cases h : a.f0 = b.f0
  · rw [if_pos h]
    rcases ha.kinds with ⟨k0, k1, k2⟩ | ⟨k0, k2⟩ | ⟨k0, k1⟩ <;> rcases hb.kinds with ⟨l0, l1, l2⟩ | ⟨l0, l2⟩ | ⟨l0, l1⟩ <;> try omega
    · rw [if_neg (by omega), cmp3_zero]; simp [h, nil_of k2, nil_of l2]
    · rw [if_neg (by omega), cmp3_zero]; simp [h, nil_of k2, nil_of l2]
    · rw [if_pos k0, cb_zero, ByteArray.toList_eq, ByteArray.toList_eq]; simp [h, k1, l1]
  · rw [if_neg h, cmp3_zero]; simp [h]
theorem ord_eq {a b : S48} (ha : Val a) (hb : Val b) : peristyleref1_Order.f a.f0 a.f1 a.f2 b.f0 b.f1 b.f2 = some (cmpv a b) := by
  unfold peristyleref1_Order.f cmpv
  by_cases h : a.f0 = b.f0
  · rw [if_pos h, if_pos h]
    rcases ha.kinds with ⟨k0, k1, k2⟩ | ⟨k0, k2⟩ | ⟨k0, k1⟩ <;> rcases hb.kinds with ⟨l0, l1, l2⟩ | ⟨l0, l2⟩ | ⟨l0, l1⟩ <;> try omega
    · simp only [nil_of k2, nil_of l2, k1, l1, k0, cmp3]; simp
    · rw [if_neg (by omega : ¬ a.f0 = 3)]
      simp only [nil_of k2, nil_of l2, cmp3]
      by_cases e : a.f1 = b.f1
      · simp [e]
      · by_cases g : a.f1 < b.f1
        · simp [e, g]
        · simp [e, g]; omega
    · rw [if_pos k0, if_pos (k1.trans l1.symm), cb_val, ByteArray.toList_eq, ByteArray.toList_eq]
      split <;> (try split) <;> rfl
  · rw [if_neg h, if_neg h]
    unfold cmp3
    by_cases g : a.f0 < b.f0
    · simp [g]
    · rw [if_neg g, if_neg g, if_pos (by omega)]
theorem order_ev {a b : S48} (ha : Val a) (hb : Val b) : Ev (fun k => peristyleref10_order.f k a.f0 a.f1 a.f2 b.f0 b.f1 b.f2) (cmpv a b) := by
  refine Ev.congr (fun k => peristyleref10_order.f.eq_1 ..) (Ev.bind (a := (cmpv a b, 0)) ?_ (Ev.now _))
  refine Ev.congr (fun k => peristyleref1_Compare.f.eq_1 ..) (Ev.bind (a := 0) ?_ (Ev.itep rfl ?_))
  · refine Ev.congr (fun k => peristyleref1_checks.f.eq_1 ..) (Ev.bind (Ev.cast (cv_ref a) ha) (Ev.itep rfl (Ev.bind (Ev.cast (cv_ref b) hb) (Ev.now _))))
  · simp only [ord_eq ha hb, Option.bind_some]; exact Ev.now _
theorem cmpv_trans {a b c : S48} (hab : a.f0 = b.f0) (hbc : b.f0 = c.f0) (h : cmpv a b < 0) (k : cmpv b c < 0) : cmpv a c < 0 := by
  unfold cmpv at *
  rw [if_pos hab] at h
  rw [if_pos hbc] at k
  rw [if_pos (hab.trans hbc)]
  by_cases h3 : a.f0 = 3
  · rw [if_pos h3] at h ⊢
    rw [if_pos (hab ▸ h3)] at k
    exact cb_trans _ _ _ h k
  · rw [if_neg h3] at h ⊢
    rw [if_neg (hab ▸ h3)] at k
    have lt : ∀ {x y : Int}, cmp3 x y < 0 ↔ x < y := by intro x y; unfold cmp3; split <;> (try split) <;> omega
    rw [lt] at *; omega

def cvk (kind : Int) (v : S48) : Int := if cv v = 0 then (if v.f0 = kind then 0 else 10) else cv v
theorem cvk_cost (kind : Int) (v : S48) : Ev (fun k => cost_checkValue.f k kind v.f0 v.f1 v.f2) (cvk kind v) :=
  Ev.congr (fun k => cost_checkValue.f.eq_1 ..) (Ev.bind (cv_cost v) (Ev.ite (fun _ => Ev.ite (fun _ => Ev.now _) (fun _ => Ev.now _)) (fun _ => Ev.now _)))
theorem cvk_ref (kind : Int) (v : S48) : Ev (fun k => peristyleref10_checkOf.f k v.f0 v.f1 v.f2 kind) (cvk kind v) :=
  Ev.congr (fun k => peristyleref10_checkOf.f.eq_1 ..) (Ev.bind (cv_ref v) (Ev.ite (fun _ => Ev.ite (fun _ => Ev.now _) (fun _ => Ev.now _)) (fun _ => Ev.now _)))
theorem cvk_zero {kind : Int} {v : S48} (h : cvk kind v = 0) : Val v ∧ v.f0 = kind := by
  unfold cvk at h
  by_cases a : cv v = 0
  · rw [if_pos a] at h
    by_cases b : v.f0 = kind
    · exact ⟨a, b⟩
    · rw [if_neg b] at h; omega
  · rw [if_neg a] at h; exact absurd h a
structure OftF (kind : Int) (l : List S100) (j : Nat) : Prop where
  val : Val (l.getD j z100).f0
  kd : (l.getD j z100).f0.f0 = kind
  lo : 1 ≤ (l.getD j z100).f1
  hi : (l.getD j z100).f1 ≤ 2000
  ord : 0 < j → cmpv (l.getD (j - 1) z100).f0 (l.getD j z100).f0 < 0
theorem often_l0 (kind : Int) (l : List S100) (hl : l.length ≤ 20) : ∀ m i : Nat, i + m = l.length → (∀ j, j < i → OftF kind l j) → Two (fun k => cost_checkOften.l0 k kind l l l.length i) (fun k => peristyleref10_checkOften.l0 k kind l l l.length i) (fun r => r = 0 → ∀ j, j < l.length → OftF kind l j) := by
  intro m
  induction m with
  | zero =>
    intro i hi hF
    exact Two.step (fun k => cost_checkOften.l0.eq_2 ..) (fun k => peristyleref10_checkOften.l0.eq_2 ..) (Two.not (by omega) (by omega) (Two.ret _ (fun _ j hj => hF j (by omega))))
  | succ m ih =>
    intro i hi hF
    refine Two.step (fun k => cost_checkOften.l0.eq_2 ..) (fun k => peristyleref10_checkOften.l0.eq_2 ..) (Two.both (by omega) (by omega) (Two.both (by omega) (by omega) (Two.both (by omega) (by omega) ?_)))
    simp only [rd100, in_eq, within_eq, Option.bind_some]
    refine Two.bindEv (cvk_cost kind _) (cvk_ref kind _) (Two.ite Iff.rfl (fun hc => ?_) (fun hc => Two.ret _ (fun h => absurd h hc)))
    obtain ⟨hv, hk⟩ := cvk_zero hc
    refine Two.ite Iff.rfl (fun hr => ?_) (fun _ => Two.ret _ (fun h => by omega))
    have hr := of_decide_eq_true hr
    rw [wnext i (by omega)]
    have next : (0 < i → cmpv (l.getD (i - 1) z100).f0 (l.getD i z100).f0 < 0) → Two (fun k => cost_checkOften.l0 k kind l l l.length ((i + 1 : Nat) : Int)) (fun k => peristyleref10_checkOften.l0 k kind l l l.length ((i + 1 : Nat) : Int)) (fun r => r = 0 → ∀ j, j < l.length → OftF kind l j) := by
      intro ho
      refine ih (i + 1) (by omega) (fun j hj => ?_)
      rcases Nat.lt_or_ge j i with g | g
      · exact hF j g
      · obtain rfl : j = i := by omega
        exact ⟨hv, hk, hr.1, hr.2, ho⟩
    refine Two.ite Iff.rfl (fun h0 => ?_) (fun h0 => next (fun g => by omega))
    rw [wprev i (by omega) (by omega)]
    refine Two.both (by omega) (by omega) (Two.both (by omega) (by omega) ?_)
    simp only [rd100, kcmp, Option.bind_some]
    refine Two.bindR (order_ev (hF (i - 1) (by omega)).val hv) (Two.ite Iff.rfl (fun _ => Two.ret _ (fun h => by omega)) (fun hn => next (fun _ => by omega)))
/-! Buckets. -/
theorem first_ev (a b : Int) : Ev (fun k => kit_First.f k [a, b]) (if a = 0 then b else a) := by
  refine Ev.congr (fun k => kit_First.f.eq_1 ..) (Ev.step (fun k => kit_First.l0.eq_2 ..) (Ev.itep (by simp) (Ev.itep (by simp) (Ev.itep (by simp) (Ev.ite (fun h => ?_) (fun h => Ev.now _))))))
  have w0 : wrap64 (0 + 1) = 1 := by unfold wrap64; omega
  have w1 : wrap64 (1 + 1) = 2 := by unfold wrap64; omega
  rw [w0]
  refine Ev.step (fun k => kit_First.l0.eq_2 ..) (Ev.itep (by simp) (Ev.itep (by simp) (Ev.itep (by simp) ?_)))
  show Ev (fun k => if b = 0 then _ else some b) b
  by_cases hb : b = 0
  · subst hb
    refine Ev.itep rfl ?_
    rw [w1]
    exact Ev.step (fun k => kit_First.l0.eq_2 ..) (Ev.iten (by simp) (Ev.now _))
  · exact Ev.iten hb (Ev.now _)
def bktv (kind : Int) (l : List S105) (i : Nat) : Int :=
  if cv (l.getD i z105).f0 = 0 then (if cv (l.getD i z105).f1 = 0 then (if (l.getD i z105).f0.f0 = kind ∧ (l.getD i z105).f1.f0 = kind then (if (1 ≤ (l.getD i z105).f2 ∧ (l.getD i z105).f2 ≤ 2000) ∧ (1 ≤ (l.getD i z105).f3 ∧ (l.getD i z105).f3 ≤ (l.getD i z105).f2) then (if cmpv (l.getD i z105).f0 (l.getD i z105).f1 > 0 ∨ (0 < i ∧ cmpv (l.getD (i - 1) z105).f1 (l.getD i z105).f0 ≥ 0) then 8 else if ((l.getD i z105).f3 = 1 ↔ cmpv (l.getD i z105).f0 (l.getD i z105).f1 = 0) then 0 else 3) else 1) else 10) else cv (l.getD i z105).f1) else cv (l.getD i z105).f0
structure BktF (kind : Int) (l : List S105) (i : Nat) : Prop where
  v0 : Val (l.getD i z105).f0
  v1 : Val (l.getD i z105).f1
  lo : 1 ≤ (l.getD i z105).f2
  hi : (l.getD i z105).f2 ≤ 2000
  d0 : 1 ≤ (l.getD i z105).f3
theorem bktv_zero {kind : Int} {l : List S105} {i : Nat} (h : bktv kind l i = 0) : BktF kind l i := by
  unfold bktv at h
  by_cases a : cv (l.getD i z105).f0 = 0
  · rw [if_pos a] at h
    by_cases b : cv (l.getD i z105).f1 = 0
    · rw [if_pos b] at h
      by_cases c : (l.getD i z105).f0.f0 = kind ∧ (l.getD i z105).f1.f0 = kind
      · rw [if_pos c] at h
        by_cases d : (1 ≤ (l.getD i z105).f2 ∧ (l.getD i z105).f2 ≤ 2000) ∧ (1 ≤ (l.getD i z105).f3 ∧ (l.getD i z105).f3 ≤ (l.getD i z105).f2)
        · exact ⟨a, b, d.1.1, d.1.2, d.2.1⟩
        · rw [if_neg d] at h; omega
      · rw [if_neg c] at h; omega
    · rw [if_neg b] at h; exact absurd h b
  · rw [if_neg a] at h; exact absurd h a
def bl (kind : Int) (l : List S105) : Nat → Nat → Int
  | 0, _ => 0
  | m + 1, i => if bktv kind l i = 0 then bl kind l m (i + 1) else bktv kind l i
theorem bl_err {kind : Int} {l : List S105} {m i : Nat} {e : Int} (h : bktv kind l i = e) (he : e ≠ 0) : bl kind l (m + 1) i = e := by
  show (if _ then _ else _) = _
  rw [if_neg (by rw [h]; exact he), h]
theorem bl_ok {kind : Int} {l : List S105} {m i : Nat} (h : bktv kind l i = 0) : bl kind l (m + 1) i = bl kind l m (i + 1) := if_pos h

theorem bk_cost (kind : Int) (l : List S105) (hl : l.length ≤ 50) : ∀ m i : Nat, i + m = l.length → Ev (fun k => cost_checkBuckets.l0 k kind l l l.length i) (bl kind l m i) := by
  intro m
  induction m with
  | zero => intro i hi; exact Ev.step (fun k => cost_checkBuckets.l0.eq_2 ..) (Ev.iten (by omega) (Ev.now _))
  | succ m ih =>
    intro i hi
    obtain ⟨X, hX⟩ : ∃ X, bktv kind l i = X := ⟨_, rfl⟩
    have hb := hX
    unfold bktv at hb
    refine Ev.step (fun k => cost_checkBuckets.l0.eq_2 ..) (Ev.itep (by omega) (Ev.itep (by omega) (Ev.itep (by omega) ?_)))
    simp only [rd105]
    generalize hB : l.getD i z105 = B at hb ⊢
    refine Ev.bind (cv_cost B.f0) (Ev.bind (cv_cost B.f1) (Ev.bind (first_ev _ _) ?_))
    by_cases a : cv B.f0 = 0
    · rw [if_pos a] at hb ⊢
      by_cases b : cv B.f1 = 0
      · rw [if_pos b] at hb
        refine Ev.itep b ?_
        have j1 : ∀ x : Bool, (x = true ↔ ¬ (B.f0.f0 = kind ∧ B.f1.f0 = kind)) → Ev (fun k => cost_checkBuckets.j1 k kind l i l l.length i x B.f0.f0 B.f0.f1 B.f0.f2 B.f1.f0 B.f1.f1 B.f1.f2 B.f2 B.f3) (bl kind l (m + 1) i) := by
          intro x hx
          refine Ev.step (fun k => cost_checkBuckets.j1.eq_2 ..) ?_
          by_cases c : B.f0.f0 = kind ∧ B.f1.f0 = kind
          · rw [if_pos c] at hb
            refine Ev.iten (fun g => hx.1 g c) ?_
            have j2 : ∀ y : Bool, (y = true ↔ ¬ ((1 ≤ B.f2 ∧ B.f2 ≤ 2000) ∧ (1 ≤ B.f3 ∧ B.f3 ≤ B.f2))) → Ev (fun k => cost_checkBuckets.j2 k kind l i l l.length i y B.f0.f0 B.f0.f1 B.f0.f2 B.f1.f0 B.f1.f1 B.f1.f2 B.f2 B.f3) (bl kind l (m + 1) i) := by
              intro y hy
              refine Ev.step (fun k => cost_checkBuckets.j2.eq_2 ..) ?_
              by_cases d : (1 ≤ B.f2 ∧ B.f2 ≤ 2000) ∧ (1 ≤ B.f3 ∧ B.f3 ≤ B.f2)
              · rw [if_pos d] at hb
                refine Ev.iten (fun g => hy.1 g d) ?_
                have j3 : ∀ z : Bool, (z = true ↔ (cmpv B.f0 B.f1 > 0 ∨ (0 < i ∧ cmpv (l.getD (i - 1) z105).f1 B.f0 ≥ 0))) → Ev (fun k => cost_checkBuckets.j3 k kind l (cmpv B.f0 B.f1) l l.length i z B.f0.f0 B.f0.f1 B.f0.f2 B.f1.f0 B.f1.f1 B.f1.f2 B.f2 B.f3) (bl kind l (m + 1) i) := by
                  intro z hz
                  refine Ev.step (fun k => cost_checkBuckets.j3.eq_2 ..) ?_
                  by_cases e : cmpv B.f0 B.f1 > 0 ∨ (0 < i ∧ cmpv (l.getD (i - 1) z105).f1 B.f0 ≥ 0)
                  · rw [if_pos e] at hb
                    exact Ev.itep (hz.2 e) (Ev.cast (Ev.now _) (bl_err (hX.trans hb.symm) (by omega)).symm)
                  · rw [if_neg e] at hb
                    refine Ev.iten (fun g => e (hz.1 g)) ?_
                    by_cases f : B.f3 = 1 ↔ cmpv B.f0 B.f1 = 0
                    · rw [if_pos f] at hb
                      rw [bl_ok (hX.trans hb.symm), wnext i (by omega)]
                      refine Ev.iten ?_ (ih (i + 1) (by omega))
                      by_cases p : B.f3 = 1
                      · simp [p, f.1 p]
                      · have q : ¬ cmpv B.f0 B.f1 = 0 := fun q => p (f.2 q)
                        rw [beq_eq_false_iff_ne.2 p, beq_eq_false_iff_ne.2 q]; simp
                    · rw [if_neg f] at hb
                      refine Ev.itep ?_ (Ev.cast (Ev.now _) (bl_err (hX.trans hb.symm) (by omega)).symm)
                      by_cases p : B.f3 = 1
                      · have q : ¬ cmpv B.f0 B.f1 = 0 := fun q => f ⟨fun _ => q, fun _ => p⟩
                        simp [p, q]
                      · have q : cmpv B.f0 B.f1 = 0 := Classical.byContradiction fun q => f ⟨fun x => absurd x p, fun x => absurd x q⟩
                        simp [p, q]
                simp only [kcmp, Option.bind_some]
                by_cases g : cmpv B.f0 B.f1 > 0
                · exact Ev.itep g (j3 true (by simp [g]))
                · refine Ev.iten g ?_
                  by_cases h0 : 0 < i
                  · rw [wprev i h0 (by omega)]
                    refine Ev.itep (by omega) (Ev.itep (by omega) (Ev.itep (by omega) ?_))
                    simp only [rd105, kcmp, Option.bind_some]
                    exact j3 _ (by simp [g, h0])
                  · exact Ev.iten (by omega) (j3 false (by simp [g, h0]))
              · rw [if_neg d] at hb
                exact Ev.itep (hy.2 d) (Ev.cast (Ev.now _) (bl_err (hX.trans hb.symm) (by omega)).symm)
            simp only [in_eq, Option.bind_some]
            by_cases d : 1 ≤ B.f2 ∧ B.f2 ≤ 2000
            · exact Ev.itep (by simpa using d) (j2 _ (by rw [Bool.not_eq_true', decide_eq_false_iff_not]; exact ⟨fun h g => h g.2, fun h g => h ⟨d, g⟩⟩))
            · exact Ev.iten (by simpa using d) (j2 true (by simp [d]))
          · rw [if_neg c] at hb
            exact Ev.itep (hx.2 c) (Ev.cast (Ev.now _) (bl_err (hX.trans hb.symm) (by omega)).symm)
        by_cases c : B.f0.f0 = kind
        · exact Ev.itep c (j1 _ (by simp [c]))
        · exact Ev.iten c (j1 true (by simp [c]))
      · rw [if_neg b] at hb
        exact Ev.iten b (Ev.cast (Ev.now _) (bl_err (hX.trans hb.symm) b).symm)
    · rw [if_neg a] at hb ⊢
      exact Ev.iten a (Ev.cast (Ev.now _) (bl_err (hX.trans hb.symm) a).symm)
theorem bk_ref (kind : Int) (l : List S105) (i : Nat) (hi : i < l.length) (hl : l.length ≤ 50) (hp : 0 < i → Val (l.getD (i - 1) z105).f1) : Ev (fun k => peristyleref10_checkBucket.f k kind l i) (bktv kind l i) := by
  refine Ev.congr (fun k => peristyleref10_checkBucket.f.eq_1 ..) (Ev.itep (by omega) (Ev.itep (by omega) ?_))
  simp only [rd105]
  unfold bktv
  generalize hB : l.getD i z105 = B
  refine Ev.bind (cv_ref B.f0) (Ev.ite (fun a => Ev.bind (cv_ref B.f1) (Ev.ite (fun b => ?_) (fun _ => Ev.now _))) (fun _ => Ev.now _))
  have j2 : ∀ y : Bool, (y = true ↔ (cmpv B.f0 B.f1 > 0 ∨ (0 < i ∧ cmpv (l.getD (i - 1) z105).f1 B.f0 ≥ 0))) → Ev (fun k => peristyleref10_checkBucket.j2 k y B.f0.f0 B.f0.f1 B.f0.f2 B.f1.f0 B.f1.f1 B.f1.f2 B.f2 B.f3) (if cmpv B.f0 B.f1 > 0 ∨ (0 < i ∧ cmpv (l.getD (i - 1) z105).f1 B.f0 ≥ 0) then 8 else if (B.f3 = 1 ↔ cmpv B.f0 B.f1 = 0) then 0 else 3) := by
    intro y hy
    refine Ev.step (fun k => peristyleref10_checkBucket.j2.eq_2 ..) ?_
    by_cases e : cmpv B.f0 B.f1 > 0 ∨ (0 < i ∧ cmpv (l.getD (i - 1) z105).f1 B.f0 ≥ 0)
    · exact Ev.itep (hy.2 e) (Ev.cast (Ev.now _) (if_pos e).symm)
    · refine Ev.iten (fun g => e (hy.1 g)) (Ev.cast ?_ (if_neg e).symm)
      have hv : (B.f0.f0 == B.f1.f0 && (B.f0.f1 == B.f1.f1 && (B.f0.f2.toList == B.f1.f2.toList))) = true ↔ cmpv B.f0 B.f1 = 0 := veq_iff (a := B.f0) (b := B.f1) a b
      generalize (B.f0.f0 == B.f1.f0 && (B.f0.f1 == B.f1.f1 && (B.f0.f2.toList == B.f1.f2.toList))) = q at hv ⊢
      by_cases f : B.f3 = 1 ↔ cmpv B.f0 B.f1 = 0
      · refine Ev.iten ?_ (Ev.cast (Ev.now _) (if_pos f).symm)
        rw [← hv] at f
        by_cases p : B.f3 = 1
        · simp [p, f.1 p]
        · have : q = false := by cases q <;> simp_all
          simp [p, this]
      · refine Ev.itep ?_ (Ev.cast (Ev.now _) (if_neg f).symm)
        rw [← hv] at f
        by_cases p : B.f3 = 1
        · have : q = false := by cases q <;> simp_all
          simp [p, this]
        · have : q = true := by cases q <;> simp_all
          simp [p, this]
  have j1 : ∀ y : Bool, (y = true ↔ ¬ ((1 ≤ B.f2 ∧ B.f2 ≤ 2000) ∧ (1 ≤ B.f3 ∧ B.f3 ≤ B.f2))) → Ev (fun k => peristyleref10_checkBucket.j1 k l i y B.f0.f0 B.f0.f1 B.f0.f2 B.f1.f0 B.f1.f1 B.f1.f2 B.f2 B.f3) (if (1 ≤ B.f2 ∧ B.f2 ≤ 2000) ∧ (1 ≤ B.f3 ∧ B.f3 ≤ B.f2) then (if cmpv B.f0 B.f1 > 0 ∨ (0 < i ∧ cmpv (l.getD (i - 1) z105).f1 B.f0 ≥ 0) then 8 else if (B.f3 = 1 ↔ cmpv B.f0 B.f1 = 0) then 0 else 3) else 1) := by
    intro y hy
    refine Ev.step (fun k => peristyleref10_checkBucket.j1.eq_2 ..) ?_
    by_cases d : (1 ≤ B.f2 ∧ B.f2 ≤ 2000) ∧ (1 ≤ B.f3 ∧ B.f3 ≤ B.f2)
    · refine Ev.iten (fun g => hy.1 g d) (Ev.cast ?_ (if_pos d).symm)
      refine Ev.bind (order_ev (a := B.f1) (b := B.f0) b a) ?_
      have hn := cmpv_neg B.f0 B.f1
      by_cases g : cmpv B.f0 B.f1 > 0
      · exact Ev.itep (by omega) (j2 true (by simp [g]))
      · refine Ev.iten (by omega) ?_
        by_cases h0 : 0 < i
        · rw [wprev i h0 (by omega)]
          refine Ev.itep (by omega) (Ev.itep (by omega) (Ev.itep (by omega) ?_))
          simp only [rd105]
          refine Ev.bind (order_ev (a := B.f0) (b := (l.getD (i - 1) z105).f1) a (hp h0)) (j2 _ ?_)
          have hm := cmpv_neg (l.getD (i - 1) z105).f1 B.f0
          simp only [decide_eq_true_eq]
          omega
        · exact Ev.iten (by omega) (j2 false (by simp [g, h0]))
    · exact Ev.itep (hy.2 d) (Ev.cast (Ev.now _) (if_neg d).symm)
  have j0 : ∀ y : Bool, (y = true ↔ ¬ (B.f0.f0 = kind ∧ B.f1.f0 = kind)) → Ev (fun k => peristyleref10_checkBucket.j0 k l i y B.f0.f0 B.f0.f1 B.f0.f2 B.f1.f0 B.f1.f1 B.f1.f2 B.f2 B.f3) (if B.f0.f0 = kind ∧ B.f1.f0 = kind then (if (1 ≤ B.f2 ∧ B.f2 ≤ 2000) ∧ (1 ≤ B.f3 ∧ B.f3 ≤ B.f2) then (if cmpv B.f0 B.f1 > 0 ∨ (0 < i ∧ cmpv (l.getD (i - 1) z105).f1 B.f0 ≥ 0) then 8 else if (B.f3 = 1 ↔ cmpv B.f0 B.f1 = 0) then 0 else 3) else 1) else 10) := by
    intro y hy
    refine Ev.step (fun k => peristyleref10_checkBucket.j0.eq_2 ..) ?_
    by_cases d : B.f0.f0 = kind ∧ B.f1.f0 = kind
    · refine Ev.iten (fun g => hy.1 g d) (Ev.cast ?_ (if_pos d).symm)
      simp only [within_eq, Option.bind_some]
      by_cases d : 1 ≤ B.f2 ∧ B.f2 ≤ 2000
      · exact Ev.itep (by simpa using d) (j1 _ (by rw [Bool.not_eq_true', decide_eq_false_iff_not]; exact ⟨fun h g => h g.2, fun h g => h ⟨d, g⟩⟩))
      · exact Ev.iten (by simpa using d) (j1 true (by simp [d]))
    · exact Ev.itep (hy.2 d) (Ev.cast (Ev.now _) (if_neg d).symm)
  by_cases c : B.f0.f0 = kind
  · exact Ev.itep c (j0 _ (by simp [c]))
  · exact Ev.iten c (j0 true (by simp [c]))

/-! CheckStats. -/
def sO (l : List S100) : Nat → Nat → Int
  | 0, _ => 0
  | m + 1, i => (l.getD i z100).f1 + sO l m (i + 1)
def sB (l : List S105) : Nat → Nat → Int
  | 0, _ => 0
  | m + 1, i => (l.getD i z105).f2 + sB l m (i + 1)
theorem bl_zero {kind : Int} {l : List S105} : ∀ {m i : Nat}, bl kind l m i = 0 → ∀ j, i ≤ j → j < i + m → bktv kind l j = 0 := by
  intro m
  induction m with
  | zero => intro i h j h1 h2; omega
  | succ m ih =>
    intro i h j h1 h2
    by_cases e : bktv kind l i = 0
    · rw [bl_ok e] at h
      rcases Nat.lt_or_ge i j with g | g
      · exact ih h j (by omega) (by omega)
      · obtain rfl : j = i := by omega
        exact e
    · rw [bl_err rfl e] at h; exact absurd h e
structure Good (kind : Int) (O : List S100) (B : List S105) : Prop where
  o20 : O.length ≤ 20
  b50 : B.length ≤ 50
  oft : ∀ j, j < O.length → OftF kind O j
  bkt : ∀ j, j < B.length → BktF kind B j
section
variable {kind rows nulls : Int} {O : List S100} {B : List S105}
theorem cs_l1 (hb : B.length ≤ 50) (hB : ∀ j, j < B.length → BktF kind B j) : ∀ m i : Nat, i + m = B.length → ∀ acc : Int, 0 ≤ acc → acc ≤ 42000 + 2000 * i → Ev (fun k => cost_CheckStats.l1 k acc B B.length i rows nulls O B) (if acc + sB B m i = rows then 0 else 3) := by
  intro m
  induction m with
  | zero =>
    intro i hi acc h0 h1
    refine Ev.step (fun k => cost_CheckStats.l1.eq_2 ..) (Ev.iten (by omega) ?_)
    show Ev _ (if acc + 0 = rows then 0 else 3)
    rw [Int.add_zero]
    exact Ev.ite (fun _ => Ev.now _) (fun _ => Ev.now _)
  | succ m ih =>
    intro i hi acc h0 h1
    have f := hB i (by omega)
    have f1 := f.lo
    have f2 := f.hi
    refine Ev.step (fun k => cost_CheckStats.l1.eq_2 ..) (Ev.itep (by omega) (Ev.itep (by omega) (Ev.itep (by omega) ?_)))
    rw [rd105, wnext i (by omega), show wrap64 (acc + (B.getD i z105).f2) = acc + (B.getD i z105).f2 by unfold wrap64; omega]
    have := ih (i + 1) (by omega) (acc + (B.getD i z105).f2) (by omega) (by omega)
    rw [Int.add_assoc] at this
    exact this
theorem cs_l0 (ho : O.length ≤ 20) (hO : ∀ j, j < O.length → OftF kind O j) (hb : B.length ≤ 50) (hB : ∀ j, j < B.length → BktF kind B j) : ∀ m i : Nat, i + m = O.length → ∀ acc : Int, 0 ≤ acc → acc ≤ 2000 + 2000 * i → Ev (fun k => cost_CheckStats.l0 k acc O O.length i rows nulls O B) (if acc + sO O m i + sB B B.length 0 = rows then 0 else 3) := by
  intro m
  induction m with
  | zero =>
    intro i hi acc h0 h1
    refine Ev.step (fun k => cost_CheckStats.l0.eq_2 ..) (Ev.iten (by omega) ?_)
    show Ev _ (if acc + 0 + sB B B.length 0 = rows then 0 else 3)
    rw [Int.add_zero]
    exact cs_l1 hb hB B.length 0 (by omega) acc h0 (by omega)
  | succ m ih =>
    intro i hi acc h0 h1
    have f := hO i (by omega)
    have f1 := f.lo
    have f2 := f.hi
    refine Ev.step (fun k => cost_CheckStats.l0.eq_2 ..) (Ev.itep (by omega) (Ev.itep (by omega) (Ev.itep (by omega) ?_)))
    rw [rd100, wnext i (by omega), show wrap64 (acc + (O.getD i z100).f1) = acc + (O.getD i z100).f1 by unfold wrap64; omega]
    have := ih (i + 1) (by omega) (acc + (O.getD i z100).f1) (by omega) (by omega)
    rw [Int.add_assoc acc] at this
    exact this
theorem rs_l1 (ho : O.length ≤ 20) (hO : ∀ j, j < O.length → OftF kind O j) : ∀ m i : Nat, i + m = O.length → ∀ acc : Int, 0 ≤ acc → acc ≤ 102000 + 2000 * i → Ev (fun k => peristyleref10_CheckStats.l1 k acc O O.length i rows nulls O B) (if acc + sO O m i = rows then 0 else 3) := by
  intro m
  induction m with
  | zero =>
    intro i hi acc h0 h1
    refine Ev.step (fun k => peristyleref10_CheckStats.l1.eq_2 ..) (Ev.iten (by omega) ?_)
    show Ev _ (if acc + 0 = rows then 0 else 3)
    rw [Int.add_zero]
    exact Ev.ite (fun _ => Ev.now _) (fun _ => Ev.now _)
  | succ m ih =>
    intro i hi acc h0 h1
    have f := hO i (by omega)
    have f1 := f.lo
    have f2 := f.hi
    refine Ev.step (fun k => peristyleref10_CheckStats.l1.eq_2 ..) (Ev.itep (by omega) (Ev.itep (by omega) (Ev.itep (by omega) ?_)))
    rw [rd100, wnext i (by omega), show wrap64 (acc + (O.getD i z100).f1) = acc + (O.getD i z100).f1 by unfold wrap64; omega]
    have := ih (i + 1) (by omega) (acc + (O.getD i z100).f1) (by omega) (by omega)
    rw [Int.add_assoc] at this
    exact this
theorem rs_l0 (ho : O.length ≤ 20) (hO : ∀ j, j < O.length → OftF kind O j) (hb : B.length ≤ 50) : ∀ m i : Nat, i + m = B.length → (∀ j, j < i → bktv kind B j = 0) → ∀ acc : Int, 0 ≤ acc → acc ≤ 2000 + 2000 * i → Ev (fun k => peristyleref10_CheckStats.l0 k kind acc B B.length i rows nulls O B) (if bl kind B m i = 0 then (if acc + sB B m i + sO O O.length 0 = rows then 0 else 3) else bl kind B m i) := by
  intro m
  induction m with
  | zero =>
    intro i hi hB acc h0 h1
    refine Ev.step (fun k => peristyleref10_CheckStats.l0.eq_2 ..) (Ev.iten (by omega) ?_)
    show Ev _ (if acc + 0 + sO O O.length 0 = rows then 0 else 3)
    rw [Int.add_zero]
    exact rs_l1 ho hO O.length 0 (by omega) acc h0 (by omega)
  | succ m ih =>
    intro i hi hB acc h0 h1
    refine Ev.step (fun k => peristyleref10_CheckStats.l0.eq_2 ..) (Ev.itep (by omega) (Ev.itep (by omega) (Ev.itep (by omega) ?_)))
    rw [rd105, wnext i (by omega)]
    refine Ev.bind (bk_ref kind B i (by omega) hb (fun g => (bktv_zero (hB (i - 1) (by omega))).v1)) ?_
    by_cases e : bktv kind B i = 0
    · have f := bktv_zero e
      have f1 := f.lo
      have f2 := f.hi
      rw [bl_ok e]
      refine Ev.itep e ?_
      rw [show wrap64 (acc + (B.getD i z105).f2) = acc + (B.getD i z105).f2 by unfold wrap64; omega]
      have := ih (i + 1) (by omega) (fun j hj => by
        rcases Nat.lt_or_ge j i with g | g
        · exact hB j g
        · obtain rfl : j = i := by omega
          exact e) (acc + (B.getD i z105).f2) (by omega) (by omega)
      rw [Int.add_assoc acc] at this
      exact this
    · have he := bl_err (m := m) (rfl : bktv kind B i = _) e
      rw [he]
      exact Ev.iten e (Ev.cast (Ev.now _) (if_neg e).symm)
theorem stats_two (kind rows nulls : Int) (O : List S100) (B : List S105) : Two (fun k => cost_CheckStats.f k kind rows nulls O B) (fun k => peristyleref10_CheckStats.f k kind rows nulls O B) (fun r => r = 0 → Good kind O B) := by
  refine Two.congr (fun k => cost_CheckStats.f.eq_1 ..) (fun k => peristyleref10_CheckStats.f.eq_1 ..) ?_
  simp only [in_eq, within_eq, Option.bind_some]
  refine Two.ite Iff.rfl (fun _ => ?_) (fun _ => Two.ret _ (fun h => by omega))
  have j1 : ∀ y : Bool, (0 ≤ nulls ∧ nulls ≤ 2000) → (y = false → O.length ≤ 20 ∧ B.length ≤ 50) → Two (fun k => cost_CheckStats.j1 k kind y rows nulls O B) (fun k => peristyleref10_CheckStats.j1 k kind y rows nulls O B) (fun r => r = 0 → Good kind O B) := by
    intro y hn hy
    refine Two.step (fun k => cost_CheckStats.j1.eq_2 ..) (fun k => peristyleref10_CheckStats.j1.eq_2 ..) (Two.ite Iff.rfl (fun _ => Two.ret _ (fun h => by omega)) (fun g => ?_))
    obtain ⟨ho, hb⟩ := hy (by simpa using g)
    refine Two.bind (often_l0 kind O ho O.length 0 (by omega) (fun j hj => by omega)) (fun r hr => Two.ite Iff.rfl (fun h0 => ?_) (fun h0 => Two.ret _ (fun h => absurd h h0)))
    have hO := hr h0
    have A : Ev (fun k => (cost_checkBuckets.f k kind B).bind fun t216 => (if t216 = 0 then (cost_CheckStats.l0 k nulls O (O.length : Int) 0 rows nulls O B) else (some t216))) (if bl kind B B.length 0 = 0 then (if nulls + sB B B.length 0 + sO O O.length 0 = rows then 0 else 3) else bl kind B B.length 0) := by
      refine Ev.bind (bk_cost kind B hb B.length 0 (by omega)) (Ev.ite (fun z => ?_) (fun _ => Ev.now _))
      rw [show nulls + sB B B.length 0 + sO O O.length 0 = nulls + sO O O.length 0 + sB B B.length 0 by omega]
      exact cs_l0 ho hO hb (fun j hj => bktv_zero (bl_zero z j (by omega) (by omega))) O.length 0 (by omega) nulls hn.1 (by omega)
    refine (Two.ofEv A (rs_l0 ho hO hb B.length 0 (by omega) (fun j hj => by omega) nulls hn.1 (by omega))).imp (fun r e h => ?_)
    subst e
    by_cases z : bl kind B B.length 0 = 0
    · exact ⟨ho, hb, hO, fun j hj => bktv_zero (bl_zero z j (by omega) (by omega))⟩
    · rw [if_neg z] at h; exact absurd h z
  have j0 : ∀ x : Bool, (x = false → 0 ≤ nulls ∧ nulls ≤ 2000) → Two (fun k => cost_CheckStats.j0 k kind x rows nulls O B) (fun k => peristyleref10_CheckStats.j0 k kind x rows nulls O B) (fun r => r = 0 → Good kind O B) := by
    intro x hx
    refine Two.step (fun k => cost_CheckStats.j0.eq_2 ..) (fun k => peristyleref10_CheckStats.j0.eq_2 ..) (Two.ite Iff.rfl (fun _ => Two.ret _ (fun h => by omega)) (fun g => ?_))
    have hn := hx (by simpa using g)
    exact Two.ite Iff.rfl (fun _ => j1 true hn (by simp)) (fun ho => j1 _ hn (fun hb => ⟨by omega, by have := of_decide_eq_false hb; omega⟩))
  refine Two.ite Iff.rfl (fun hr => j0 _ (fun hn => ?_)) (fun _ => j0 true (by simp))
  have hr := of_decide_eq_true hr
  have hn : 0 ≤ nulls ∧ nulls ≤ rows := by simpa using hn
  omega
end

/-! How many rows a value has. -/
def oft (l : List S100) (v : S48) : Nat → Nat → Int × Bool
  | 0, _ => (0, false)
  | m + 1, i => if veq (l.getD i z100).f0 v = true then ((l.getD i z100).f1, true) else oft l v m (i + 1)
theorem often_cost (l : List S100) (hl : l.length ≤ 20) (v : S48) : ∀ m i : Nat, i + m = l.length → Ev (fun k => cost_often.l0 k l l.length i v.f0 v.f1 v.f2) (oft l v m i) := by
  intro m
  induction m with
  | zero => intro i hi; exact Ev.step (fun k => cost_often.l0.eq_2 ..) (Ev.iten (by omega) (Ev.now _))
  | succ m ih =>
    intro i hi
    refine Ev.step (fun k => cost_often.l0.eq_2 ..) (Ev.itep (by omega) (Ev.itep (by omega) (Ev.itep (by omega) ?_)))
    rw [rd100, wnext i (by omega)]
    exact Ev.ite (fun _ => Ev.now _) (fun _ => ih (i + 1) (by omega))
theorem often_ref (l : List S100) (hl : l.length ≤ 20) (v : S48) : ∀ m i : Nat, i + m = l.length → Ev (fun k => peristyleref10_oftenOf.l0 k l l.length i v.f0 v.f1 v.f2) (oft l v m i) := by
  intro m
  induction m with
  | zero => intro i hi; exact Ev.step (fun k => peristyleref10_oftenOf.l0.eq_2 ..) (Ev.iten (by omega) (Ev.now _))
  | succ m ih =>
    intro i hi
    refine Ev.step (fun k => peristyleref10_oftenOf.l0.eq_2 ..) (Ev.itep (by omega) (Ev.itep (by omega) (Ev.itep (by omega) ?_)))
    rw [rd100, wnext i (by omega)]
    exact Ev.ite (fun _ => Ev.now _) (fun _ => ih (i + 1) (by omega))
def hold (b : S105) (v : S48) : Prop := cmpv b.f0 v ≤ 0 ∧ cmpv v b.f1 ≤ 0
instance holdD (b : S105) (v : S48) : Decidable (hold b v) := inferInstanceAs (Decidable (_ ∧ _))
def inb (l : List S105) (v : S48) : Nat → Nat → Int
  | 0, _ => 0
  | m + 1, i => if hold (l.getD i z105) v then mx 1 (wrap64 (Int.tdiv (l.getD i z105).f2 (l.getD i z105).f3)) else inb l v m (i + 1)
def ixb (l : List S105) (v : S48) : Nat → Nat → Int
  | 0, _ => -1
  | m + 1, i => if hold (l.getD i z105) v then i else ixb l v m (i + 1)
theorem ixb_inb (l : List S105) (v : S48) : ∀ m i : Nat, i + m = l.length → (ixb l v m i = -1 ∧ inb l v m i = 0) ∨ ∃ j : Nat, j < l.length ∧ ixb l v m i = j ∧ inb l v m i = mx 1 (wrap64 (Int.tdiv (l.getD j z105).f2 (l.getD j z105).f3)) := by
  intro m
  induction m with
  | zero => intro i hi; exact Or.inl ⟨rfl, rfl⟩
  | succ m ih =>
    intro i hi
    by_cases h : hold (l.getD i z105) v
    · exact Or.inr ⟨i, by omega, if_pos h, if_pos h⟩
    · have e1 : ixb l v (m + 1) i = ixb l v m (i + 1) := if_neg h
      have e2 : inb l v (m + 1) i = inb l v m (i + 1) := if_neg h
      rw [e1, e2]; exact ih (i + 1) (by omega)
theorem hold_cost (b : S105) (v : S48) : cost_bucketOf_1.f b.f0.f0 b.f0.f1 b.f0.f2 b.f1.f0 b.f1.f1 b.f1.f2 v.f0 v.f1 v.f2 = some (decide (hold b v)) := by
  unfold cost_bucketOf_1.f hold
  simp only [kcmp, Option.bind_some]
  by_cases h : cmpv b.f0 v ≤ 0 <;> simp [h]
theorem hold_ref {b : S105} {v : S48} (h0 : Val b.f0) (h1 : Val b.f1) (hv : Val v) : Ev (fun k => peristyleref10_holds.f k b.f0.f0 b.f0.f1 b.f0.f2 b.f1.f0 b.f1.f1 b.f1.f2 b.f2 b.f3 v.f0 v.f1 v.f2) (decide (hold b v)) := by
  refine Ev.congr (fun k => peristyleref10_holds.f.eq_1 ..) (Ev.bind (order_ev h0 hv) ?_)
  unfold hold
  by_cases h : cmpv b.f0 v ≤ 0
  · exact Ev.itep h (Ev.bind (order_ev hv h1) (Ev.cast (Ev.now _) (by simp [h])))
  · exact Ev.iten h (Ev.cast (Ev.now _) (by simp [h]))
theorem bucket_ev (l : List S105) (hl : l.length ≤ 50) (v : S48) : ∀ m i : Nat, i + m = l.length → Ev (fun k => cost_bucketOf.l0 k l l.length i v.f0 v.f1 v.f2) (ixb l v m i) := by
  intro m
  induction m with
  | zero => intro i hi; exact Ev.step (fun k => cost_bucketOf.l0.eq_2 ..) (Ev.iten (by omega) (Ev.now _))
  | succ m ih =>
    intro i hi
    refine Ev.step (fun k => cost_bucketOf.l0.eq_2 ..) (Ev.itep (by omega) (Ev.itep (by omega) (Ev.itep (by omega) ?_)))
    simp only [rd105, hold_cost, Option.bind_some, wnext i (by omega : i < 9223372036854775807)]
    by_cases h : hold (l.getD i z105) v
    · exact Ev.itep (decide_eq_true h) (Ev.cast (Ev.now _) (if_pos h).symm)
    · exact Ev.iten (fun x => h (of_decide_eq_true x)) (Ev.cast (ih (i + 1) (by omega)) (if_neg h).symm)
theorem inb_cost {kind : Int} (l : List S105) (hl : l.length ≤ 50) (hB : ∀ j, j < l.length → BktF kind l j) (v : S48) : Ev (fun k => cost_inBuckets.f k l v.f0 v.f1 v.f2) (inb l v l.length 0) := by
  refine Ev.congr (fun k => cost_inBuckets.f.eq_1 ..) (Ev.bind (bucket_ev l hl v l.length 0 (by omega)) ?_)
  rcases ixb_inb l v l.length 0 (by omega) with ⟨a, b⟩ | ⟨j, hj, a, b⟩
  · rw [a, b]; exact Ev.itep (by omega) (Ev.now _)
  · rw [a, b, rd105]
    have := (hB j hj).d0
    exact Ev.iten (by omega) (Ev.itep (by omega) (Ev.itep (by omega) (Ev.iten (by omega) (Ev.now _))))
theorem inb_ref {kind : Int} (l : List S105) (hl : l.length ≤ 50) (hB : ∀ j, j < l.length → BktF kind l j) {v : S48} (hv : Val v) : ∀ m i : Nat, i + m = l.length → Ev (fun k => peristyleref10_inBuckets.l0 k l l.length i v.f0 v.f1 v.f2) (inb l v m i) := by
  intro m
  induction m with
  | zero => intro i hi; exact Ev.step (fun k => peristyleref10_inBuckets.l0.eq_2 ..) (Ev.iten (by omega) (Ev.now _))
  | succ m ih =>
    intro i hi
    have f := hB i (by omega)
    have := f.d0
    refine Ev.step (fun k => peristyleref10_inBuckets.l0.eq_2 ..) (Ev.itep (by omega) (Ev.itep (by omega) (Ev.itep (by omega) ?_)))
    rw [rd105, wnext i (by omega)]
    refine Ev.bind (hold_ref f.v0 f.v1 hv) ?_
    by_cases h : hold (l.getD i z105) v
    · exact Ev.itep (decide_eq_true h) (Ev.iten (by omega) (Ev.cast (Ev.now _) (if_pos h).symm))
    · exact Ev.iten (fun x => h (of_decide_eq_true x)) (Ev.cast (ih (i + 1) (by omega)) (if_neg h).symm)
def eqr (O : List S100) (B : List S105) (v : S48) : Int := if (oft O v O.length 0).2 = true then (oft O v O.length 0).1 else inb B v B.length 0
theorem eqr_cost {kind : Int} {O : List S100} {B : List S105} (g : Good kind O B) (v : S48) (a b : Int) : Ev (fun k => cost_equal.f k a b O B v.f0 v.f1 v.f2) (eqr O B v) :=
  Ev.congr (fun k => cost_equal.f.eq_1 ..) (Ev.bind (often_cost O g.o20 v O.length 0 (by omega)) (Ev.ite (fun _ => Ev.now _) (fun _ => Ev.bind (inb_cost B g.b50 g.bkt v) (Ev.now _))))
theorem eqr_ref {kind : Int} {O : List S100} {B : List S105} (g : Good kind O B) {v : S48} (hv : Val v) (a b : Int) : Ev (fun k => peristyleref10_equalRows.f k a b O B v.f0 v.f1 v.f2) (eqr O B v) :=
  Ev.congr (fun k => peristyleref10_equalRows.f.eq_1 ..) (Ev.bind (often_ref O g.o20 v O.length 0 (by omega)) (Ev.ite (fun _ => Ev.now _) (fun _ => Ev.bind (inb_ref B g.b50 g.bkt hv B.length 0 (by omega)) (Ev.now _))))
def meets (x y : S105) : Prop := cmpv x.f0 y.f1 ≤ 0 ∧ cmpv y.f0 x.f1 ≤ 0
instance meetsD (x y : S105) : Decidable (meets x y) := inferInstanceAs (Decidable (_ ∧ _))
theorem meet_cost (x y : S105) : cost_meet.f x.f0.f0 x.f0.f1 x.f0.f2 x.f1.f0 x.f1.f1 x.f1.f2 x.f2 x.f3 y.f0.f0 y.f0.f1 y.f0.f2 y.f1.f0 y.f1.f1 y.f1.f2 y.f2 y.f3 = some (decide (meets x y)) := by
  unfold cost_meet.f meets
  simp only [kcmp, Option.bind_some]
  by_cases h : cmpv x.f0 y.f1 ≤ 0 <;> simp [h]
theorem meet_ref {x y : S105} (h0 : Val x.f0) (h1 : Val x.f1) (k0 : Val y.f0) (k1 : Val y.f1) : Ev (fun k => peristyleref10_common.f k x.f0.f0 x.f0.f1 x.f0.f2 x.f1.f0 x.f1.f1 x.f1.f2 x.f2 x.f3 y.f0.f0 y.f0.f1 y.f0.f2 y.f1.f0 y.f1.f1 y.f1.f2 y.f2 y.f3) (decide (meets x y)) := by
  refine Ev.congr (fun k => peristyleref10_common.f.eq_1 ..) (Ev.bind (order_ev h0 k1) ?_)
  unfold meets
  by_cases h : cmpv x.f0 y.f1 ≤ 0
  · exact Ev.itep h (Ev.bind (order_ev k0 h1) (Ev.cast (Ev.now _) (by simp [h])))
  · exact Ev.iten h (Ev.cast (Ev.now _) (by simp [h]))
section
variable {kind a0 a1 b0 b1 : Int} {O1 O2 : List S100} {B1 B2 : List S105}
theorem jr_l2 (g1 : Good kind O1 B1) (g2 : Good kind O2 B2) : ∀ m i : Nat, i + m = B1.length → ∀ acc : Int, Two (fun k => cost_JoinRows.l2 k acc B1 B1.length i b0 b1 O2 B2) (fun k => peristyleref10_JoinRows.l2 k acc B1 B1.length i b0 b1 O2 B2) (fun r => r.2 = 0) := by
  have l1 := g1.b50
  have l2 := g2.b50
  intro m
  induction m with
  | zero => intro i hi acc; exact Two.step (fun k => cost_JoinRows.l2.eq_2 ..) (fun k => peristyleref10_JoinRows.l2.eq_2 ..) (Two.not (by omega) (by omega) (Two.ret _ rfl))
  | succ m ih =>
    intro i hi acc
    have fx := g1.bkt i (by omega)
    have dx := fx.d0
    refine Two.step (fun k => cost_JoinRows.l2.eq_2 ..) (fun k => peristyleref10_JoinRows.l2.eq_2 ..) (Two.both (by omega) (by omega) (Two.both (by omega) (by omega) (Two.both (by omega) (by omega) ?_)))
    rw [rd105]
    have l3 : ∀ n j : Nat, j + n = B2.length → ∀ acc : Int, Two (fun k => cost_JoinRows.l3 k acc B1 B1.length i B2 B2.length j b0 b1 O2 B2 (B1.getD i z105).f0.f0 (B1.getD i z105).f0.f1 (B1.getD i z105).f0.f2 (B1.getD i z105).f1.f0 (B1.getD i z105).f1.f1 (B1.getD i z105).f1.f2 (B1.getD i z105).f2 (B1.getD i z105).f3) (fun k => peristyleref10_JoinRows.l3 k acc B1 B1.length i B2 B2.length j b0 b1 O2 B2 (B1.getD i z105).f0.f0 (B1.getD i z105).f0.f1 (B1.getD i z105).f0.f2 (B1.getD i z105).f1.f0 (B1.getD i z105).f1.f1 (B1.getD i z105).f1.f2 (B1.getD i z105).f2 (B1.getD i z105).f3) (fun r => r.2 = 0) := by
      intro n
      induction n with
      | zero =>
        intro j hj acc
        refine Two.step (fun k => cost_JoinRows.l3.eq_2 ..) (fun k => peristyleref10_JoinRows.l3.eq_2 ..) (Two.not (by omega) (by omega) ?_)
        rw [wnext i (by omega)]
        exact ih (i + 1) (by omega) acc
      | succ n ihn =>
        intro j hj acc
        have fy := g2.bkt j (by omega)
        refine Two.step (fun k => cost_JoinRows.l3.eq_2 ..) (fun k => peristyleref10_JoinRows.l3.eq_2 ..) (Two.both (by omega) (by omega) (Two.both (by omega) (by omega) (Two.both (by omega) (by omega) ?_)))
        simp only [rd105, meet_cost, Option.bind_some, wnext j (by omega : j < 9223372036854775807)]
        refine Two.bindR (meet_ref fx.v0 fx.v1 fy.v0 fy.v1) (Two.ite Iff.rfl (fun _ => ?_) (fun _ => ihn (j + 1) (by omega) acc))
        have hm : ¬ mx (B1.getD i z105).f3 (B2.getD j z105).f3 = 0 := by unfold mx; split <;> omega
        exact Two.not hm hm (ihn (j + 1) (by omega) _)
    exact l3 B2.length 0 (by omega) acc
theorem jr_l1 (g1 : Good kind O1 B1) (g2 : Good kind O2 B2) : ∀ m i : Nat, i + m = O2.length → ∀ acc : Int, Two (fun k => cost_JoinRows.l1 k acc O2 O2.length i a0 a1 O1 B1 b0 b1 O2 B2) (fun k => peristyleref10_JoinRows.l1 k acc O2 O2.length i a0 a1 O1 B1 b0 b1 O2 B2) (fun r => r.2 = 0) := by
  have l1 := g1.o20
  have l2 := g2.o20
  intro m
  induction m with
  | zero => intro i hi acc; exact Two.step (fun k => cost_JoinRows.l1.eq_2 ..) (fun k => peristyleref10_JoinRows.l1.eq_2 ..) (Two.not (by omega) (by omega) (jr_l2 g1 g2 B1.length 0 (by omega) acc))
  | succ m ih =>
    intro i hi acc
    have f := g2.oft i (by omega)
    refine Two.step (fun k => cost_JoinRows.l1.eq_2 ..) (fun k => peristyleref10_JoinRows.l1.eq_2 ..) (Two.both (by omega) (by omega) (Two.both (by omega) (by omega) (Two.both (by omega) (by omega) ?_)))
    rw [rd100, wnext i (by omega)]
    refine Two.bindEv (often_cost O1 l1 _ O1.length 0 (by omega)) (often_ref O1 l1 _ O1.length 0 (by omega)) (Two.ite Iff.rfl (fun _ => ih (i + 1) (by omega) acc) (fun _ => ?_))
    refine Two.bindEv (inb_cost B1 g1.b50 g1.bkt _) (inb_ref B1 g1.b50 g1.bkt f.val B1.length 0 (by omega)) ?_
    rw [Int.mul_comm (O2.getD i z100).f1]
    exact ih (i + 1) (by omega) _
theorem jr_l0 (g1 : Good kind O1 B1) (g2 : Good kind O2 B2) : ∀ m i : Nat, i + m = O1.length → ∀ acc : Int, Two (fun k => cost_JoinRows.l0 k acc O1 O1.length i a0 a1 O1 B1 b0 b1 O2 B2) (fun k => peristyleref10_JoinRows.l0 k acc O1 O1.length i a0 a1 O1 B1 b0 b1 O2 B2) (fun r => r.2 = 0) := by
  have l1 := g1.o20
  have l2 := g2.o20
  intro m
  induction m with
  | zero => intro i hi acc; exact Two.step (fun k => cost_JoinRows.l0.eq_2 ..) (fun k => peristyleref10_JoinRows.l0.eq_2 ..) (Two.not (by omega) (by omega) (jr_l1 g1 g2 O2.length 0 (by omega) acc))
  | succ m ih =>
    intro i hi acc
    have f := g1.oft i (by omega)
    refine Two.step (fun k => cost_JoinRows.l0.eq_2 ..) (fun k => peristyleref10_JoinRows.l0.eq_2 ..) (Two.both (by omega) (by omega) (Two.both (by omega) (by omega) (Two.both (by omega) (by omega) ?_)))
    rw [rd100, wnext i (by omega)]
    refine Two.bindEv (eqr_cost g2 _ _ _) (eqr_ref g2 f.val _ _) ?_
    rw [Int.mul_comm (O1.getD i z100).f1]
    exact ih (i + 1) (by omega) _
end
theorem join_two (kind a0 a1 b0 b1 : Int) (O1 O2 : List S100) (B1 B2 : List S105) : Two (fun k => cost_JoinRows.f k kind a0 a1 O1 B1 b0 b1 O2 B2) (fun k => peristyleref10_JoinRows.f k kind a0 a1 O1 B1 b0 b1 O2 B2) (fun r => (r.2 = 0 ∧ Good kind O1 B1 ∧ Good kind O2 B2) ∨ (r.2 ≠ 0 ∧ r.1 = 0)) := by
  refine Two.congr (fun k => cost_JoinRows.f.eq_1 ..) (fun k => peristyleref10_JoinRows.f.eq_1 ..) ?_
  refine Two.bind (stats_two kind a0 a1 O1 B1) (fun r hr => Two.ite Iff.rfl (fun h => ?_) (fun h => Two.ret _ (Or.inr ⟨h, rfl⟩)))
  refine Two.bind (stats_two kind b0 b1 O2 B2) (fun s hs => Two.ite Iff.rfl (fun h' => ?_) (fun h' => Two.ret _ (Or.inr ⟨h', rfl⟩)))
  exact (jr_l0 (hr h) (hs h') O1.length 0 (by omega) 0).imp fun t ht => Or.inl ⟨ht, hr h, hs h'⟩

/-! With no buckets a join is the same turned round. -/
def sg (f : Nat → Int) : Nat → Nat → Int
  | 0, _ => 0
  | m + 1, i => f i + sg f m (i + 1)
theorem sg_congr {f g : Nat → Int} : ∀ m i : Nat, (∀ j, i ≤ j → j < i + m → f j = g j) → sg f m i = sg g m i := by
  intro m
  induction m with
  | zero => intro i h; rfl
  | succ m ih => intro i h; show f i + sg f m (i + 1) = g i + sg g m (i + 1); rw [h i (by omega) (by omega), ih (i + 1) (fun j h1 h2 => h j (by omega) (by omega))]
theorem sg_zero {f : Nat → Int} (m i : Nat) (h : ∀ j, i ≤ j → j < i + m → f j = 0) : sg f m i = 0 := by
  rw [sg_congr (g := fun _ => 0) m i h]
  induction m generalizing i with
  | zero => rfl
  | succ m ih => show 0 + sg (fun _ => 0) m (i + 1) = 0; rw [ih (i + 1) (fun j h1 h2 => h j (by omega) (by omega))]; rfl
theorem sg_add (f g : Nat → Int) : ∀ m i : Nat, sg (fun j => f j + g j) m i = sg f m i + sg g m i := by
  intro m
  induction m with
  | zero => intro i; rfl
  | succ m ih => intro i; show (f i + g i) + sg _ m (i + 1) = (f i + sg f m (i + 1)) + (g i + sg g m (i + 1)); rw [ih]; omega
theorem sg_swap (f : Nat → Nat → Int) (n j : Nat) : ∀ m i : Nat, sg (fun i => sg (f i) n j) m i = sg (fun j => sg (fun i => f i j) m i) n j := by
  intro m
  induction m with
  | zero => intro i; exact (sg_zero n j (fun _ _ _ => rfl)).symm
  | succ m ih =>
    intro i
    show sg (f i) n j + sg _ m (i + 1) = sg (fun j => f i j + sg (fun i => f i j) m (i + 1)) n j
    rw [ih, sg_add]
theorem oft_none {l : List S100} {v : S48} : ∀ m i : Nat, (oft l v m i).2 = false → (oft l v m i).1 = 0 := by
  intro m
  induction m with
  | zero => intro i h; rfl
  | succ m ih =>
    intro i h
    by_cases c : veq (l.getD i z100).f0 v = true
    · have e : oft l v (m + 1) i = ((l.getD i z100).f1, true) := if_pos c
      rw [e] at h; cases h
    · have e : oft l v (m + 1) i = oft l v m (i + 1) := if_neg c
      rw [e] at h ⊢; exact ih (i + 1) h
theorem oft_rng {kind : Int} {l : List S100} {v : S48} (hF : ∀ j, j < l.length → OftF kind l j) : ∀ m i : Nat, i + m = l.length → 0 ≤ (oft l v m i).1 ∧ (oft l v m i).1 ≤ 2000 := by
  intro m
  induction m with
  | zero => intro i h; exact ⟨Int.le_refl _, by show (0 : Int) ≤ 2000; omega⟩
  | succ m ih =>
    intro i h
    have f := hF i (by omega)
    have f1 := f.lo
    have f2 := f.hi
    by_cases c : veq (l.getD i z100).f0 v = true
    · have e : oft l v (m + 1) i = ((l.getD i z100).f1, true) := if_pos c
      rw [e]; exact ⟨by show 0 ≤ (l.getD i z100).f1; omega, f2⟩
    · have e : oft l v (m + 1) i = oft l v m (i + 1) := if_neg c
      rw [e]; exact ih (i + 1) (by omega)
theorem veq_tr {a b v : S48} (h : veq a v = true) (k : veq b v = true) : veq a b = true := by
  simp only [veq, Bool.and_eq_true, beq_iff_eq] at *
  obtain ⟨h1, h2, h3⟩ := h
  obtain ⟨k1, k2, k3⟩ := k
  exact ⟨h1.trans k1.symm, h2.trans k2.symm, h3.trans k3.symm⟩
theorem veq_comm (a b : S48) : veq a b = veq b a := by
  rw [Bool.eq_iff_iff]
  simp only [veq, Bool.and_eq_true, beq_iff_eq]
  exact ⟨fun ⟨x, y, z⟩ => ⟨x.symm, y.symm, z.symm⟩, fun ⟨x, y, z⟩ => ⟨x.symm, y.symm, z.symm⟩⟩
theorem apart {kind : Int} {l : List S100} (hF : ∀ j, j < l.length → OftF kind l j) (i : Nat) : ∀ j, i < j → j < l.length → cmpv (l.getD i z100).f0 (l.getD j z100).f0 < 0 := by
  intro j
  induction j with
  | zero => intro h; omega
  | succ j ih =>
    intro h1 h2
    have f := hF (j + 1) h2
    have o := f.ord (by omega)
    rw [Nat.add_sub_cancel] at o
    rcases Nat.lt_or_ge i j with g | g
    · exact cmpv_trans ((hF i (by omega)).kd.trans (hF j (by omega)).kd.symm) ((hF j (by omega)).kd.trans f.kd.symm) (ih g (by omega)) o
    · obtain rfl : i = j := by omega
      exact o
theorem oft_sum {kind : Int} {l : List S100} (hF : ∀ j, j < l.length → OftF kind l j) (v : S48) (r : Int) : ∀ m i : Nat, i + m = l.length → (oft l v m i).1 * r = sg (fun j => if veq (l.getD j z100).f0 v = true then (l.getD j z100).f1 * r else 0) m i := by
  intro m
  induction m with
  | zero => intro i h; exact Int.zero_mul r
  | succ m ih =>
    intro i h
    show _ = (if veq (l.getD i z100).f0 v = true then (l.getD i z100).f1 * r else 0) + sg _ m (i + 1)
    by_cases c : veq (l.getD i z100).f0 v = true
    · have e : oft l v (m + 1) i = ((l.getD i z100).f1, true) := if_pos c
      rw [e, if_pos c, sg_zero m (i + 1) (fun j h1 h2 => ?_), Int.add_zero]
      refine if_neg (fun d => ?_)
      have z := (veq_iff (hF i (by omega)).val (hF j (by omega)).val).1 (veq_tr c d)
      have := apart hF i j (by omega) (by omega)
      omega
    · have e : oft l v (m + 1) i = oft l v m (i + 1) := if_neg c
      rw [e, if_neg c, Int.zero_add]; exact ih (i + 1) (by omega)
def jn (O1 O2 : List S100) : Int := sg (fun i => (oft O2 (O1.getD i z100).f0 O2.length 0).1 * (O1.getD i z100).f1) O1.length 0
theorem jn_comm {kind : Int} {O1 O2 : List S100} (h1 : ∀ j, j < O1.length → OftF kind O1 j) (h2 : ∀ j, j < O2.length → OftF kind O2 j) : jn O1 O2 = jn O2 O1 := by
  unfold jn
  rw [sg_congr O1.length 0 (fun i _ _ => oft_sum h2 (O1.getD i z100).f0 (O1.getD i z100).f1 O2.length 0 (by omega)), sg_congr O2.length 0 (fun i _ _ => oft_sum h1 (O2.getD i z100).f0 (O2.getD i z100).f1 O1.length 0 (by omega)), sg_swap]
  refine sg_congr _ _ (fun j _ _ => sg_congr _ _ (fun i _ _ => ?_))
  rw [veq_comm, Int.mul_comm]
theorem mul_rng {x y : Int} (hx : 0 ≤ x) (hx' : x ≤ 2000) (hy : 0 ≤ y) (hy' : y ≤ 2000) : 0 ≤ x * y ∧ x * y ≤ 4000000 := by
  refine ⟨Int.mul_nonneg hx hy, ?_⟩
  have h1 : x * y ≤ 2000 * y := Int.mul_le_mul_of_nonneg_right hx' hy
  omega
section
variable {kind a0 a1 b0 b1 : Int} {O1 O2 : List S100}
theorem nb_l1 (g1 : Good kind O1 []) (g2 : Good kind O2 []) (acc : Int) (h0 : 0 ≤ acc) (h1 : acc ≤ 1000000000) : ∀ m i : Nat, i + m = O2.length → Ev (fun k => cost_JoinRows.l1 k acc O2 O2.length i a0 a1 O1 [] b0 b1 O2 []) (mn acc 1000000000000000, 0) := by
  have l2 := g2.o20
  intro m
  induction m with
  | zero =>
    intro i hi
    exact Ev.step (fun k => cost_JoinRows.l1.eq_2 ..) (Ev.iten (by omega) (Ev.step (fun k => cost_JoinRows.l2.eq_2 ..) (Ev.iten (by simp) (Ev.now _))))
  | succ m ih =>
    intro i hi
    have f := g2.oft i (by omega)
    refine Ev.step (fun k => cost_JoinRows.l1.eq_2 ..) (Ev.itep (by omega) (Ev.itep (by omega) (Ev.itep (by omega) ?_)))
    rw [rd100, wnext i (by omega)]
    refine Ev.bind (often_cost O1 g1.o20 _ O1.length 0 (by omega)) ?_
    by_cases c : (oft O1 (O2.getD i z100).f0 O1.length 0).2 = true
    · exact Ev.itep c (ih (i + 1) (by omega))
    · refine Ev.iten c (Ev.bind (inb_cost [] (by simp) g1.bkt _) ?_)
      have e : wrap64 (acc + wrap64 (inb [] (O2.getD i z100).f0 ([] : List S105).length 0 * (O2.getD i z100).f1)) = acc := by
        show wrap64 (acc + wrap64 (0 * (O2.getD i z100).f1)) = acc
        rw [Int.zero_mul]; unfold wrap64; omega
      rw [e]
      exact ih (i + 1) (by omega)
theorem nb_l0 (g1 : Good kind O1 []) (g2 : Good kind O2 []) : ∀ m i : Nat, i + m = O1.length → ∀ acc : Int, 0 ≤ acc → acc ≤ 4000000 * i → Ev (fun k => cost_JoinRows.l0 k acc O1 O1.length i a0 a1 O1 [] b0 b1 O2 []) (mn (acc + sg (fun i => (oft O2 (O1.getD i z100).f0 O2.length 0).1 * (O1.getD i z100).f1) m i) 1000000000000000, 0) := by
  have l1 := g1.o20
  have l2 := g2.o20
  intro m
  induction m with
  | zero =>
    intro i hi acc h0 h1
    show Ev _ (mn (acc + 0) 1000000000000000, 0)
    rw [Int.add_zero]
    exact Ev.step (fun k => cost_JoinRows.l0.eq_2 ..) (Ev.iten (by omega) (nb_l1 g1 g2 acc h0 (by omega) O2.length 0 (by omega)))
  | succ m ih =>
    intro i hi acc h0 h1
    have f := g1.oft i (by omega)
    have f1 := f.lo
    have f2 := f.hi
    obtain ⟨o1, o2⟩ := oft_rng (v := (O1.getD i z100).f0) g2.oft O2.length 0 (by omega)
    obtain ⟨p1, p2⟩ := mul_rng o1 o2 (by omega : 0 ≤ (O1.getD i z100).f1) f2
    refine Ev.step (fun k => cost_JoinRows.l0.eq_2 ..) (Ev.itep (by omega) (Ev.itep (by omega) (Ev.itep (by omega) ?_)))
    rw [rd100, wnext i (by omega)]
    refine Ev.bind (eqr_cost g2 _ _ _) ?_
    have e : eqr O2 [] (O1.getD i z100).f0 = (oft O2 (O1.getD i z100).f0 O2.length 0).1 := by
      unfold eqr
      by_cases c : (oft O2 (O1.getD i z100).f0 O2.length 0).2 = true
      · rw [if_pos c]
      · rw [if_neg c, oft_none _ _ (by simpa using c)]; rfl
    have hs : sg (fun i => (oft O2 (O1.getD i z100).f0 O2.length 0).1 * (O1.getD i z100).f1) (m + 1) i = (oft O2 (O1.getD i z100).f0 O2.length 0).1 * (O1.getD i z100).f1 + sg (fun i => (oft O2 (O1.getD i z100).f0 O2.length 0).1 * (O1.getD i z100).f1) m (i + 1) := rfl
    rw [e, hs]
    generalize (oft O2 (O1.getD i z100).f0 O2.length 0).1 * (O1.getD i z100).f1 = T at p1 p2 ⊢
    rw [show wrap64 (acc + wrap64 T) = acc + T by unfold wrap64; omega, ← Int.add_assoc]
    exact ih (i + 1) (by omega) (acc + T) (by omega) (by omega)
end
theorem Ev.uniq {α : Type} {g : Nat → Option α} {a b : α} (A : Ev g a) (B : Ev g b) : a = b := by
  obtain ⟨K, hK⟩ := A
  obtain ⟨L, hL⟩ := B
  exact Option.some.inj ((hK (K + L) (by omega)).symm.trans (hL (K + L) (by omega)))
theorem nb_f {kind a0 a1 b0 b1 : Int} {O1 O2 : List S100} (A : Ev (fun k => cost_CheckStats.f k kind a0 a1 O1 []) 0) (B : Ev (fun k => cost_CheckStats.f k kind b0 b1 O2 []) 0) (g1 : Good kind O1 []) (g2 : Good kind O2 []) : Ev (fun k => cost_JoinRows.f k kind a0 a1 O1 [] b0 b1 O2 []) (mn (jn O1 O2) 1000000000000000, 0) := by
  refine Ev.congr (fun k => cost_JoinRows.f.eq_1 ..) (Ev.bind A (Ev.itep rfl (Ev.bind B (Ev.itep rfl ?_))))
  have := nb_l0 (a0 := a0) (a1 := a1) (b0 := b0) (b1 := b1) g1 g2 O1.length 0 (by omega) 0 (by omega) (by omega)
  rw [Int.zero_add] at this
  exact this
theorem law_of (hA : ∃ K, ∀ k, K ≤ k → peristylelaw10_awake.f k = some true) (kind a0 a1 b0 b1 : Int) (O1 O2 : List S100) (B1 B2 : List S105) : ∃ k, peristylelaw10_StatsJoinsMatchSpec.f k kind a0 a1 O1 B1 b0 b1 O2 B2 = some true := by
  obtain ⟨KA, hKA⟩ := hA
  obtain ⟨⟨n, f⟩, ⟨K1, h1⟩, ⟨K2, h2⟩, hr⟩ := (join_two kind a0 a1 b0 b1 O1 O2 B1 B2).evs
  rcases hr with ⟨hf, g1, g2⟩ | ⟨hf, hn⟩
  · have hf : f = 0 := hf
    subst hf
    have l1 := g1.b50
    have l2 := g2.b50
    by_cases hb : wrap64 ((B1.length : Int) + (B2.length : Int)) > 0
    · have p1 : cost_JoinRows.f (K1 + K2 + KA + 1) kind a0 a1 O1 B1 b0 b1 O2 B2 = some (n, 0) := h1 _ (by omega)
      have p2 : peristyleref10_JoinRows.f (K1 + K2 + KA + 1) kind a0 a1 O1 B1 b0 b1 O2 B2 = some (n, 0) := h2 _ (by omega)
      have p3 := hKA (K1 + K2 + KA) (by omega)
      refine ⟨K1 + K2 + KA + 1, ?_⟩
      simp [peristylelaw10_StatsJoinsMatchSpec.f, peristylelaw10_StatsJoinsMatchSpec.j0, p1, p2, p3]
      exact fun h => absurd hb (by omega)
    · have hw : wrap64 ((B1.length : Int) + (B2.length : Int)) = (B1.length : Int) + (B2.length : Int) := by unfold wrap64; omega
      rw [hw] at hb
      obtain rfl : B1 = [] := List.length_eq_zero_iff.1 (by omega)
      obtain rfl : B2 = [] := List.length_eq_zero_iff.1 (by omega)
      obtain ⟨r, A, -, -⟩ := (stats_two kind a0 a1 O1 []).evs
      obtain ⟨s, B, -, -⟩ := (stats_two kind b0 b1 O2 []).evs
      have hr0 : r = 0 := by
        apply Classical.byContradiction
        intro x
        have e : Ev (fun k => cost_JoinRows.f k kind a0 a1 O1 [] b0 b1 O2 []) (0, r) := Ev.congr (fun k => cost_JoinRows.f.eq_1 ..) (Ev.bind A (Ev.iten x (Ev.now _)))
        have := Ev.uniq e ⟨K1, h1⟩
        injection this with _ y
        exact x y
      subst hr0
      have hs0 : s = 0 := by
        apply Classical.byContradiction
        intro x
        have e : Ev (fun k => cost_JoinRows.f k kind a0 a1 O1 [] b0 b1 O2 []) (0, s) := Ev.congr (fun k => cost_JoinRows.f.eq_1 ..) (Ev.bind A (Ev.itep rfl (Ev.bind B (Ev.iten x (Ev.now _)))))
        have := Ev.uniq e ⟨K1, h1⟩
        injection this with _ y
        exact x y
      subst hs0
      have e1 := Ev.uniq (nb_f A B g1 g2) ⟨K1, h1⟩
      injection e1 with e1 _
      obtain ⟨K3, h3⟩ := nb_f B A g2 g1
      rw [jn_comm g2.oft g1.oft, e1] at h3
      have p1 : cost_JoinRows.f (K1 + K2 + K3 + KA + 1) kind a0 a1 O1 [] b0 b1 O2 [] = some (n, 0) := h1 _ (by omega)
      have p2 : peristyleref10_JoinRows.f (K1 + K2 + K3 + KA + 1) kind a0 a1 O1 [] b0 b1 O2 [] = some (n, 0) := h2 _ (by omega)
      have p3 := hKA (K1 + K2 + K3 + KA) (by omega)
      have p4 : cost_JoinRows.f (K1 + K2 + K3 + KA) kind b0 b1 O2 [] a0 a1 O1 [] = some (n, 0) := h3 _ (by omega)
      have hz : ¬ wrap64 (0 + 0) > 0 := by unfold wrap64; omega
      refine ⟨K1 + K2 + K3 + KA + 1, ?_⟩
      simp [peristylelaw10_StatsJoinsMatchSpec.f, peristylelaw10_StatsJoinsMatchSpec.j0, p1, p2, p3, p4]
  · have hn : n = 0 := hn
    have hf : f ≠ 0 := hf
    subst hn
    have p1 : cost_JoinRows.f (K1 + K2 + KA + 1) kind a0 a1 O1 B1 b0 b1 O2 B2 = some (0, f) := h1 _ (by omega)
    have p2 : peristyleref10_JoinRows.f (K1 + K2 + KA + 1) kind a0 a1 O1 B1 b0 b1 O2 B2 = some (0, f) := h2 _ (by omega)
    have p3 := hKA (K1 + K2 + KA) (by omega)
    refine ⟨K1 + K2 + KA + 1, ?_⟩
    simp [peristylelaw10_StatsJoinsMatchSpec.f, peristylelaw10_StatsJoinsMatchSpec.j0, p1, p2, p3, hf]

theorem awake400 : peristylelaw10_awake.f 400 = some true := by kernel_rfl
theorem awakeEv : ∃ K, ∀ k, K ≤ k → peristylelaw10_awake.f k = some true := ⟨400, fun k hk => at_rounds peristylelaw10_awake.mono hk awake400⟩
theorem StatsJoinsMatchSpec : ∀ (a0 : Int) (x1 : S44) (x2 : S44), (Lit.int .i64 a0).wf = true → ok44 x1 → ok44 x2 → ∃ k, peristylelaw10_StatsJoinsMatchSpec.f k a0 x1.f0 x1.f1 x1.f2 x1.f3 x2.f0 x2.f1 x2.f2 x2.f3 = some true :=
  fun a0 x1 x2 _ _ _ => law_of awakeEv a0 x1.f0 x1.f1 x2.f0 x2.f1 x1.f2 x2.f2 x1.f3 x2.f3
end Go.Proofs.YtgcijejmmhjibaaDoor.J.Pure
