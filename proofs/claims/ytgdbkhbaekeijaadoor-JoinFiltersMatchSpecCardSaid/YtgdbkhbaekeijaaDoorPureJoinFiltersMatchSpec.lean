/- The printed form of the law JoinFiltersMatchSpec is true at every input: both packages check a table and its key columns alike, build the same keys and hashes, and so the same bits of a filter, and keep the same rows by any filter; conditions: none beside those that the given row itself bears. -/
import Derived.Test.YtgdbkhbaekeijaaDoorFx15
import Derived.Test.YtgdbkhbaekeijaaDoorFo
import Derived.Lib.ItoaLen
import Derived.Lib.SplitLaws
set_option linter.unusedVariables false
set_option linter.unusedSimpArgs false
namespace Go.Proofs.YtgdbkhbaekeijaaDoor.F.Pure
open Go.RowKit Go.Proofs.YtgdbkhbaekeijaaDoor.F Go.Proofs.YtgdbkhbaekeijaaDoorW.PrintWords Go.Proofs.YtgdbkhbaekeijaaDoorW.PrintLast Go.Proofs.YtgdbkhbaekeijaaDoorW.PrintMore

/-! Two printed functions side by side. -/
def Two {α : Type} (g h : Nat → Option α) (P : α → Prop) : Prop := ∃ r, (∃ K, ∀ k, K ≤ k → g k = some r ∧ h k = some r) ∧ P r
theorem Two.ret {α : Type} {P : α → Prop} (r : α) (h : P r) : Two (fun _ => some r) (fun _ => some r) P := ⟨r, ⟨0, fun _ _ => ⟨rfl, rfl⟩⟩, h⟩
theorem Two.step {α : Type} {g h g' h' : Nat → Option α} {P : α → Prop} (e : ∀ k, g (k + 1) = g' k) (e' : ∀ k, h (k + 1) = h' k) (H : Two g' h' P) : Two g h P := by
  obtain ⟨r, ⟨K, hK⟩, hP⟩ := H
  refine ⟨r, ⟨K + 1, fun k hk => ?_⟩, hP⟩
  obtain ⟨j, rfl⟩ : ∃ j, k = j + 1 := ⟨k - 1, by omega⟩
  rw [e, e']; exact hK j (by omega)
theorem Two.congr {α : Type} {g h g' h' : Nat → Option α} {P : α → Prop} (e : ∀ k, g k = g' k) (e' : ∀ k, h k = h' k) (H : Two g' h' P) : Two g h P := by
  obtain rfl : g = g' := funext e
  obtain rfl : h = h' := funext e'
  exact H
theorem Two.bind {α β : Type} {g h : Nat → Option α} {f f' : Nat → α → Option β} {P : α → Prop} {Q : β → Prop} (H : Two g h P) (k : ∀ a, P a → Two (fun n => f n a) (fun n => f' n a) Q) : Two (fun n => (g n).bind (f n)) (fun n => (h n).bind (f' n)) Q := by
  obtain ⟨a, ⟨K, hK⟩, hP⟩ := H
  obtain ⟨r, ⟨K', hK'⟩, hQ⟩ := k a hP
  refine ⟨r, ⟨K + K', fun n hn => ?_⟩, hQ⟩
  show (g n).bind (f n) = some r ∧ (h n).bind (f' n) = some r
  rw [(hK n (by omega)).1, (hK n (by omega)).2]
  exact hK' n (by omega)
theorem Two.ite {α : Type} {c c' : Prop} [Decidable c] [Decidable c'] {g h g' h' : Nat → Option α} {P : α → Prop} (hc : c ↔ c') (H : c → Two g h P) (H' : ¬ c → Two g' h' P) : Two (fun k => if c then g k else g' k) (fun k => if c' then h k else h' k) P := by
  by_cases x : c
  · have x' := hc.1 x
    simp only [if_pos x, if_pos x']; exact H x
  · have x' : ¬ c' := fun y => x (hc.2 y)
    simp only [if_neg x, if_neg x']; exact H' x
theorem Two.left {α : Type} {c : Prop} [Decidable c] {g h g' : Nat → Option α} {P : α → Prop} (x : c) (H : Two g h P) : Two (fun k => if c then g k else g' k) h P := by
  simp only [if_pos x]; exact H
theorem Two.right {α : Type} {c : Prop} [Decidable c] {g h g' : Nat → Option α} {P : α → Prop} (x : c) (H : Two h g P) : Two h (fun k => if c then g k else g' k) P := by
  simp only [if_pos x]; exact H
theorem Two.both {α : Type} {c c' : Prop} [Decidable c] [Decidable c'] {g h g' h' : Nat → Option α} {P : α → Prop} (x : c) (x' : c') (H : Two g h P) : Two (fun k => if c then g k else g' k) (fun k => if c' then h k else h' k) P := by
  simp only [if_pos x, if_pos x']; exact H
theorem Two.not {α : Type} {c c' : Prop} [Decidable c] [Decidable c'] {g h g' h' : Nat → Option α} {P : α → Prop} (x : ¬ c) (x' : ¬ c') (H : Two g' h' P) : Two (fun k => if c then g k else g' k) (fun k => if c' then h k else h' k) P := by
  simp only [if_neg x, if_neg x']; exact H
theorem Two.imp {α : Type} {g h : Nat → Option α} {P Q : α → Prop} (H : Two g h P) (i : ∀ r, P r → Q r) : Two g h Q := by
  obtain ⟨r, hK, hP⟩ := H; exact ⟨r, hK, i r hP⟩

theorem Two.ofEv {α : Type} {g h : Nat → Option α} {r : α} (A : Ev g r) (B : Ev h r) : Two g h (fun x => x = r) := by
  obtain ⟨K, hK⟩ := A
  obtain ⟨K', hK'⟩ := B
  exact ⟨r, ⟨K + K', fun n hn => ⟨hK n (by omega), hK' n (by omega)⟩⟩, rfl⟩
theorem Two.bindEv {α β : Type} {g h : Nat → Option α} {f f' : Nat → α → Option β} {a : α} {Q : β → Prop} (A : Ev g a) (B : Ev h a) (k : Two (fun n => f n a) (fun n => f' n a) Q) : Two (fun n => (g n).bind (f n)) (fun n => (h n).bind (f' n)) Q :=
  Two.bind (Two.ofEv A B) (fun x hx => by subst hx; exact k)
theorem Two.bindL {α β : Type} {g : Nat → Option α} {f : Nat → α → Option β} {h : Nat → Option β} {a : α} {Q : β → Prop} (A : Ev g a) (k : Two (fun n => f n a) h Q) : Two (fun n => (g n).bind (f n)) h Q := by
  obtain ⟨r, ⟨K, hK⟩, hQ⟩ := k
  obtain ⟨K', hK'⟩ := A
  refine ⟨r, ⟨K + K', fun n hn => ⟨?_, (hK n (by omega)).2⟩⟩, hQ⟩
  show (g n).bind (f n) = some r
  rw [hK' n (by omega)]; exact (hK n (by omega)).1
theorem Two.bindR {α β : Type} {g : Nat → Option α} {f : Nat → α → Option β} {h : Nat → Option β} {a : α} {Q : β → Prop} (A : Ev g a) (k : Two h (fun n => f n a) Q) : Two h (fun n => (g n).bind (f n)) Q := by
  obtain ⟨r, ⟨K, hK⟩, hQ⟩ := k
  obtain ⟨K', hK'⟩ := A
  refine ⟨r, ⟨K + K', fun n hn => ⟨(hK n (by omega)).1, ?_⟩⟩, hQ⟩
  show (g n).bind (f n) = some r
  rw [hK' n (by omega)]; exact (hK n (by omega)).2
theorem Two.evs {α : Type} {g h : Nat → Option α} {P : α → Prop} (H : Two g h P) : ∃ r, Ev g r ∧ Ev h r ∧ P r := by
  obtain ⟨r, ⟨K, hK⟩, p⟩ := H
  exact ⟨r, ⟨K, fun k hk => (hK k hk).1⟩, ⟨K, fun k hk => (hK k hk).2⟩, p⟩
theorem Ev.itep {α : Type} {c : Prop} [Decidable c] {g h : Nat → Option α} {r : α} (x : c) (H : Ev g r) : Ev (fun k => if c then g k else h k) r := by simp only [if_pos x]; exact H
theorem Ev.iten {α : Type} {c : Prop} [Decidable c] {g h : Nat → Option α} {r : α} (x : ¬ c) (H : Ev h r) : Ev (fun k => if c then g k else h k) r := by simp only [if_neg x]; exact H
theorem Ev.ite {α : Type} {c : Prop} [Decidable c] {g h : Nat → Option α} {r s : α} (H : c → Ev g r) (H' : ¬ c → Ev h s) : Ev (fun k => if c then g k else h k) (if c then r else s) := by
  by_cases x : c
  · simp only [if_pos x]; exact H x
  · simp only [if_neg x]; exact H' x
theorem Ev.cast {α : Type} {g : Nat → Option α} {r s : α} (H : Ev g r) (e : r = s) : Ev g s := e ▸ H
theorem wnext (n : Nat) (h : n < 9223372036854775807) : wrap64 ((n : Int) + 1) = ((n + 1 : Nat) : Int) := by unfold wrap64; omega
theorem wprev (n : Nat) (h0 : 0 < n) (h : n < 9223372036854775807) : wrap64 ((n : Int) - 1) = ((n - 1 : Nat) : Int) := by unfold wrap64; omega
theorem in_eq (a b c : Int) : kit_In.f a b c = some (decide (b ≤ a ∧ a ≤ c)) := by
  unfold kit_In.f; by_cases h : b ≤ a <;> simp [h]
theorem within_eq (a b c : Int) : peristyleref8_within.f a b c = some (decide (b ≤ a ∧ a ≤ c)) := by
  unfold peristyleref8_within.f; by_cases h : b ≤ a <;> simp [h]
theorem within1_eq (a b c : Int) : peristyleref1_within.f a b c = some (decide (b ≤ a ∧ a ≤ c)) := by
  unfold peristyleref1_within.f; by_cases h : b ≤ a <;> simp [h]
theorem range_eq (a b c : Int) : kit_Range.f a b c = some (if b ≤ a ∧ a ≤ c then 0 else 1) := by
  unfold kit_Range.f; rw [in_eq]; by_cases h : b ≤ a ∧ a ≤ c <;> simp [h]
theorem rd54 (xs : List S54) (i : Nat) : rd_T54 xs (i : Int) = xs.getD i z54 := by simp [rd_T54]
/-! Values. -/
theorem nil_iff (s : ByteArray) : s.toList = [] ↔ s.size = 0 := by
  rw [ByteArray.toList_eq, ← List.length_eq_zero_iff]
  exact Iff.rfl
def tx (s : ByteArray) : Nat → Nat → Int
  | 0, _ => 0
  | m + 1, i => if 32 ≤ bt s i ∧ bt s i ≤ 126 then tx s m (i + 1) else 3
def cv (v : S54) : Int :=
  if v.f0 = 0 then (if v.f1 = 0 ∧ v.f2.size = 0 then 0 else 3)
  else if v.f0 = 1 then (if v.f2.size = 0 then (if 0 ≤ v.f1 ∧ v.f1 ≤ 1 then 0 else 1) else 3)
  else if v.f0 = 2 then (if v.f2.size = 0 then (if -1000000000000000 ≤ v.f1 ∧ v.f1 ≤ 1000000000000000 then 0 else 1) else 3)
  else if v.f0 = 3 then (if v.f1 = 0 then (if 200 < v.f2.size then 2 else tx v.f2 v.f2.size 0) else 3) else 4
theorem tx_cost (s : ByteArray) (hs : s.size ≤ 200) (a b : Int) : ∀ m i : Nat, i + m = s.size → Ev (fun k => value_CheckValue.l0 k (s.size : Int) i a b s) (tx s m i) := by
  intro m
  induction m with
  | zero => intro i hi; exact Ev.step (fun k => value_CheckValue.l0.eq_2 ..) (Ev.iten (by omega) (Ev.now _))
  | succ m ih =>
    intro i hi
    have hr := bt_range s i
    have hw : wrap64 (bt s i) = bt s i := by unfold wrap64; omega
    refine Ev.step (fun k => value_CheckValue.l0.eq_2 ..) (Ev.itep (by omega) (Ev.itep (by omega) (Ev.itep (by omega) ?_)))
    simp only [hw, in_eq, Option.bind_some, wnext i (by omega)]
    refine Ev.cast (Ev.ite (fun _ => ih (i + 1) (by omega)) (fun _ => Ev.now _)) ?_
    simp only [decide_eq_true_eq]; rfl

theorem tx_ref (s : ByteArray) (hs : s.size ≤ 200) (a b : Int) : ∀ m i : Nat, i + m = s.size → Ev (fun k => peristyleref1_CheckValue.l0 k i a b s) (tx s m i) := by
  intro m
  induction m with
  | zero => intro i hi; exact Ev.step (fun k => peristyleref1_CheckValue.l0.eq_2 ..) (Ev.iten (by omega) (Ev.now _))
  | succ m ih =>
    intro i hi
    refine Ev.step (fun k => peristyleref1_CheckValue.l0.eq_2 ..) (Ev.itep (by omega) (Ev.itep (by omega) ?_))
    rw [wnext i (by omega)]
    show Ev _ (if 32 ≤ bt s i ∧ bt s i ≤ 126 then tx s m (i + 1) else 3)
    by_cases c : bt s i < 32
    · exact Ev.itep c (Ev.cast (Ev.now _) (if_neg (by omega)).symm)
    · refine Ev.iten c ?_
      by_cases d : bt s i > 126
      · exact Ev.itep d (Ev.cast (Ev.now _) (if_neg (by omega)).symm)
      · exact Ev.iten d (Ev.cast (ih (i + 1) (by omega)) (if_pos (by omega)).symm)
theorem cv_cost (v : S54) : Ev (fun k => value_CheckValue.f k v.f0 v.f1 v.f2) (cv v) := by
  obtain ⟨a, b, s⟩ := v
  refine Ev.congr (fun k => value_CheckValue.f.eq_1 ..) ?_
  unfold cv
  simp only
  have hn := nil_iff s
  by_cases h0 : a = 0
  · subst h0
    refine Ev.itep rfl (Ev.cast (r := if b = 0 then (if s.toList = [] then 0 else 3) else 3) (Ev.ite (fun _ => Ev.ite (fun _ => Ev.now _) (fun _ => Ev.now _)) (fun _ => Ev.now _)) ?_)
    by_cases hb : b = 0 <;> by_cases hs : s.size = 0 <;> simp [hb, hs, hn]
  · refine Ev.iten h0 ?_
    by_cases h1 : a = 1
    · subst h1
      refine Ev.itep rfl (Ev.step (fun k => value_CheckValue.j0.eq_2 ..) (Ev.itep (by simp) (Ev.cast (r := if s.toList = [] then (if 0 ≤ b ∧ b ≤ 1 then 0 else 1) else 3) (Ev.ite (fun _ => Ev.itep rfl ?_) (fun _ => Ev.now _)) ?_)))
      · simp only [range_eq, Option.bind_some]; exact Ev.now _
      · by_cases hs : s.size = 0 <;> simp [hs, hn]
    · refine Ev.iten h1 ?_
      by_cases h2 : a = 2
      · subst h2
        refine Ev.step (fun k => value_CheckValue.j0.eq_2 ..) (Ev.itep (by simp) (Ev.cast (r := if s.toList = [] then (if -1000000000000000 ≤ b ∧ b ≤ 1000000000000000 then 0 else 1) else 3) (Ev.ite (fun _ => Ev.iten (by omega) ?_) (fun _ => Ev.now _)) ?_))
        · simp only [range_eq, Option.bind_some]; exact Ev.now _
        · by_cases hs : s.size = 0 <;> simp [hs, hn]
      · refine Ev.step (fun k => value_CheckValue.j0.eq_2 ..) (Ev.iten (by simpa using h2) ?_)
        by_cases h3 : a = 3
        · subst h3
          refine Ev.itep rfl (Ev.cast (r := if b = 0 then (if 200 < s.size then 2 else tx s s.size 0) else 3) (Ev.ite (fun _ => ?_) (fun _ => Ev.now _)) (by simp))
          by_cases hl : 200 < s.size
          · exact Ev.itep (by omega) (Ev.cast (Ev.now _) (if_pos hl).symm)
          · exact Ev.iten (by omega) (Ev.cast (tx_cost s (by omega) 3 b s.size 0 (by omega)) (if_neg hl).symm)
        · exact Ev.iten h3 (Ev.cast (Ev.now _) (by simp [h0, h1, h2, h3]))
theorem ref_j1 (a b : Int) (s : ByteArray) (c : Bool) : Ev (fun k => peristyleref1_CheckValue.j1 k c a b s) (if c = true then 1 else if 200 < s.size then 2 else tx s s.size 0) := by
  refine Ev.step (fun k => peristyleref1_CheckValue.j1.eq_2 ..) (Ev.ite (fun _ => Ev.now _) (fun _ => ?_))
  by_cases hl : 200 < s.size
  · exact Ev.itep (by omega) (Ev.cast (Ev.now _) (if_pos hl).symm)
  · exact Ev.iten (by omega) (Ev.cast (tx_ref s (by omega) a b s.size 0 (by omega)) (if_neg hl).symm)
theorem ref_j1_0 (a b : Int) (s : ByteArray) (c : Bool) (hs : s.size = 0) : Ev (fun k => peristyleref1_CheckValue.j1 k c a b s) (if c = true then 1 else 0) := by
  refine Ev.cast (ref_j1 a b s c) ?_
  rw [if_neg (by omega : ¬ 200 < s.size), hs]; rfl
theorem ref_j0t (a b : Int) (s : ByteArray) : Ev (fun k => peristyleref1_CheckValue.j0 k true a b s) 3 :=
  Ev.step (fun k => peristyleref1_CheckValue.j0.eq_2 ..) (Ev.itep rfl (Ev.now _))
theorem cv_ref (v : S54) : Ev (fun k => peristyleref1_CheckValue.f k v.f0 v.f1 v.f2) (cv v) := by
  obtain ⟨a, b, s⟩ := v
  refine Ev.congr (fun k => peristyleref1_CheckValue.f.eq_1 ..) ?_
  unfold cv
  simp only [within1_eq, Option.bind_some]
  have hj : ∀ {r : Int}, (s.size = 0 → Ev (fun k => peristyleref1_CheckValue.j0 k false a b s) r) → Ev (fun k => peristyleref1_CheckValue.j0 k (s.toList != ([] : List UInt8)) a b s) (if s.size = 0 then r else 3) := by
    intro r h
    by_cases hs : s.size = 0
    · have e : (s.toList != ([] : List UInt8)) = false := by simp [(nil_iff s).2 hs]
      rw [e, if_pos hs]; exact h hs
    · have e : (s.toList != ([] : List UInt8)) = true := by simp [bne, nil_iff, hs]
      rw [e, if_neg hs]; exact ref_j0t a b s
  by_cases hk : 0 ≤ a ∧ a ≤ 3
  · refine Ev.itep (by simpa using hk) ?_
    by_cases h1 : a = 1
    · subst h1
      refine Ev.itep rfl (Ev.iten (by omega) (Ev.cast (hj (r := if 0 ≤ b ∧ b ≤ 1 then 0 else 1) (fun hs => ?_)) (by simp)))
      refine Ev.step (fun k => peristyleref1_CheckValue.j0.eq_2 ..) (Ev.iten (by simp) (Ev.itep rfl ?_))
      simp only [within1_eq, Option.bind_some]
      by_cases hb : 0 ≤ b ∧ b ≤ 1
      · exact Ev.itep (by simpa using hb) (Ev.iten (by omega) (Ev.cast (ref_j1_0 1 b s false hs) (by simp [hb])))
      · exact Ev.iten (by simpa using hb) (Ev.cast (ref_j1_0 1 b s true hs) (by simp [hb]))
    · refine Ev.iten h1 ?_
      by_cases h2 : a = 2
      · subst h2
        refine Ev.itep rfl (Ev.iten (by omega) (Ev.cast (hj (r := if -1000000000000000 ≤ b ∧ b ≤ 1000000000000000 then 0 else 1) (fun hs => ?_)) (by simp)))
        refine Ev.step (fun k => peristyleref1_CheckValue.j0.eq_2 ..) (Ev.iten (by simp) (Ev.iten (by omega) (Ev.itep rfl ?_)))
        simp only [within1_eq, Option.bind_some]
        by_cases hb : -1000000000000000 ≤ b ∧ b ≤ 1000000000000000
        · exact Ev.cast (ref_j1_0 2 b s _ hs) (by simp [hb])
        · exact Ev.cast (ref_j1_0 2 b s _ hs) (by simp [hb])
      · refine Ev.iten h2 ?_
        by_cases h3 : a = 3
        · subst h3
          refine Ev.cast (r := if b = 0 then (if 200 < s.size then 2 else tx s s.size 0) else 3) (Ev.ite (fun hb => Ev.itep rfl ?_) (fun _ => ref_j0t 3 b s)) (by simp)
          exact Ev.step (fun k => peristyleref1_CheckValue.j0.eq_2 ..) (Ev.iten (by simp) (Ev.iten (by omega) (Ev.iten (by omega) (ref_j1 3 b s false))))
        · obtain rfl : a = 0 := by omega
          by_cases hb : b = 0
          · refine Ev.itep hb (Ev.iten (by omega) (Ev.cast (hj (r := 0) (fun hs => ?_)) (by simp [hb])))
            exact Ev.step (fun k => peristyleref1_CheckValue.j0.eq_2 ..) (Ev.iten (by simp) (Ev.iten (by omega) (Ev.iten (by omega) (ref_j1_0 0 b s false hs))))
          · refine Ev.iten hb (Ev.cast (ref_j0t 0 b s) (by simp [hb]))
  · refine Ev.iten (by simpa using hk) (Ev.cast (Ev.now _) ?_)
    have g0 : a ≠ 0 := by omega
    have g1 : a ≠ 1 := by omega
    have g2 : a ≠ 2 := by omega
    have g3 : a ≠ 3 := by omega
    simp [g0, g1, g2, g3]

def Val (v : S54) : Prop := cv v = 0
theorem Val.kinds {v : S54} (h : Val v) : v.f0 = 0 ∨ (v.f0 = 1 ∧ 0 ≤ v.f1 ∧ v.f1 ≤ 1) ∨ (v.f0 = 2 ∧ -1000000000000000 ≤ v.f1 ∧ v.f1 ≤ 1000000000000000) ∨ (v.f0 = 3 ∧ v.f2.size ≤ 200) := by
  unfold Val cv at h
  by_cases h0 : v.f0 = 0
  · exact Or.inl h0
  · rw [if_neg h0] at h
    by_cases h1 : v.f0 = 1
    · rw [if_pos h1] at h
      by_cases g : v.f2.size = 0
      · rw [if_pos g] at h
        by_cases c : 0 ≤ v.f1 ∧ v.f1 ≤ 1
        · exact Or.inr (Or.inl ⟨h1, c⟩)
        · rw [if_neg c] at h; omega
      · rw [if_neg g] at h; omega
    · rw [if_neg h1] at h
      by_cases h2 : v.f0 = 2
      · rw [if_pos h2] at h
        by_cases g : v.f2.size = 0
        · rw [if_pos g] at h
          by_cases c : -1000000000000000 ≤ v.f1 ∧ v.f1 ≤ 1000000000000000
          · exact Or.inr (Or.inr (Or.inl ⟨h2, c⟩))
          · rw [if_neg c] at h; omega
        · rw [if_neg g] at h; omega
      · rw [if_neg h2] at h
        by_cases h3 : v.f0 = 3
        · rw [if_pos h3] at h
          by_cases g : v.f1 = 0
          · rw [if_pos g] at h
            by_cases c : 200 < v.f2.size
            · rw [if_pos c] at h; omega
            · exact Or.inr (Or.inr (Or.inr ⟨h3, by omega⟩))
          · rw [if_neg g] at h; omega
        · rw [if_neg h3] at h; omega
/-! A text in quotes. -/
def esc : List UInt8 → List UInt8
  | [] => []
  | c :: l => if c = 39 then 39 :: 39 :: esc l else c :: esc l
theorem esc_len (l : List UInt8) : (esc l).length ≤ 2 * l.length := by
  induction l with
  | nil => exact Nat.zero_le _
  | cons a l ih =>
    show (if a = 39 then 39 :: 39 :: esc l else a :: esc l).length ≤ 2 * (l.length + 1)
    split <;> simp only [List.length_cons] <;> omega
theorem repl_cons_ne (b c : UInt8) (new : List UInt8) (h : b ≠ c) : ∀ (k : Nat) (l : List UInt8), k ≤ Lib.count l [c] → Lib.replaceK [c] new k (b :: l) = b :: Lib.replaceK [c] new k l := by
  intro k l hk
  have hp : ([c] : List UInt8).isPrefixOf (b :: l) = false := by simp [List.isPrefixOf, Ne.symm h]
  have hix : Lib.index (b :: l) [c] = if Lib.index l [c] == -1 then -1 else Lib.index l [c] + 1 := by rw [Lib.index, hp]; simp
  cases k with
  | zero => rfl
  | succ k =>
    obtain ⟨i, hi⟩ := Lib.index_of_count (s := l) (old := [c]) (by omega)
    have hix' : Lib.index (b :: l) [c] = ((i + 1 : Nat) : Int) := by
      rw [hix, hi, if_neg (by simp <;> omega)]; rfl
    rw [Lib.replaceK_hit _ _ _ _ _ hix', Lib.replaceK_hit _ _ _ _ _ hi]
    simp [Nat.add_right_comm]
theorem repl_esc : ∀ l : List UInt8, Lib.replaceK [39] [39, 39] (Lib.count l [39]) l = esc l
  | [] => by rw [Lib.count_one]; rfl
  | b :: l => by
    by_cases h : b = 39
    · subst h
      have hix : Lib.index (39 :: l) [39] = ((0 : Nat) : Int) := by rw [Lib.index]; simp [List.isPrefixOf]
      rw [Lib.count_cons_eq, Nat.add_comm, Lib.replaceK_hit _ _ _ _ _ hix]
      simp only [List.take_zero, List.nil_append, List.length_cons, List.length_nil, Nat.zero_add, List.drop_succ_cons, List.drop_zero]
      rw [repl_esc l]
      simp [esc]
    · rw [Lib.count_cons_ne _ _ _ h, repl_cons_ne _ _ _ h _ _ (Nat.le_refl _), repl_esc l]
      simp [esc, h]
theorem replaceAll_esc (l : List UInt8) : Lib.replaceAll l [39] [39, 39] = esc l := by
  unfold Lib.replaceAll Lib.replace Lib.replaceNum
  rw [if_neg (by decide), if_pos (Or.inl (by decide)), repl_esc]
/-- A right value's text. -/
def txt (v : S54) : List UInt8 := if v.f0 = 0 then [110, 117, 108, 108] else if v.f0 = 1 then (if v.f1 = 0 then [102, 97, 108, 115, 101] else [116, 114, 117, 101]) else if v.f0 = 2 then Lib.itoa v.f1 else 39 :: esc v.f2.data.toList ++ [39]
def tv (v : S54) : ByteArray := ⟨(txt v).toArray⟩
theorem size_len (s : ByteArray) : s.size = s.data.toList.length := by rw [Array.length_toList]; rfl
theorem tv_size (v : S54) : (tv v).size = (txt v).length := by rw [size_len]; simp [tv]
theorem txt_len {v : S54} (h : Val v) : (txt v).length ≤ 402 := by
  unfold txt
  rcases h.kinds with k | ⟨k, a, b⟩ | ⟨k, a, b⟩ | ⟨k, a⟩
  · rw [if_pos k]; simp
  · rw [if_neg (by omega), if_pos k]; split <;> simp
  · have := Lib.itoa_length_le v.f1 (by omega) (by omega)
    rw [if_neg (by omega), if_neg (by omega), if_pos k]; omega
  · have := esc_len v.f2.data.toList
    rw [← size_len] at this
    rw [if_neg (by omega), if_neg (by omega), if_neg (by omega)]
    simp only [List.length_append, List.length_cons, List.length_nil]; omega
theorem itoa_eq (n : Int) (h0 : -1000000000000000 ≤ n) (h1 : n ≤ 1000000000000000) : strconv_Itoa_44.f n = some ⟨(Lib.itoa n).toArray⟩ := by
  unfold strconv_Itoa_44.f; rw [if_pos ⟨by omega, by omega⟩]
theorem ba_app (a b : List UInt8) : (⟨a.toArray⟩ : ByteArray) ++ ⟨b.toArray⟩ = ⟨(a ++ b).toArray⟩ := by
  apply ByteArray.ext; simp
theorem ba_data (s : ByteArray) : s = ⟨s.data.toList.toArray⟩ := by apply ByteArray.ext; simp
theorem text_cost {v : S54} (h : Val v) : value_textOf.f v.f0 v.f1 v.f2 = some (tv v) := by
  unfold value_textOf.f tv txt
  rcases h.kinds with k | ⟨k, a, b⟩ | ⟨k, a, b⟩ | ⟨k, a⟩
  · simp [k]
  · have e : v.f1 = 0 ∨ v.f1 = 1 := by omega
    rcases e with e | e <;> simp [k, e, rdOf]
  · simp [k, itoa_eq v.f1 a b]
  · have hc : Lib.countB v.f2 (⟨#[39]⟩ : ByteArray) ≤ v.f2.size := by
      have : Lib.countB v.f2 (⟨#[39]⟩ : ByteArray) = Lib.count v.f2.data.toList [39] := rfl
      rw [this, Lib.count_one, size_len]; exact List.count_le_length
    have hs : (⟨#[39, 39]⟩ : ByteArray).size = 2 := rfl
    have hs1 : (⟨#[39]⟩ : ByteArray).size = 1 := rfl
    have hr : strings_ReplaceAll.f v.f2 (⟨#[39]⟩ : ByteArray) (⟨#[39, 39]⟩ : ByteArray) = some ⟨(esc v.f2.data.toList).toArray⟩ := by
      unfold strings_ReplaceAll.f
      rw [if_pos ⟨by omega, by rw [hs1]; exact Nat.le_refl _, by rw [hs]; omega⟩]
      have : Lib.replaceAll v.f2.data.toList (⟨#[39]⟩ : ByteArray).data.toList (⟨#[39, 39]⟩ : ByteArray).data.toList = esc v.f2.data.toList := replaceAll_esc _
      rw [this]
    have hl := esc_len v.f2.data.toList
    rw [← size_len] at hl
    have hz : (⟨(esc v.f2.data.toList).toArray⟩ : ByteArray).size = (esc v.f2.data.toList).length := by rw [size_len]
    rw [hr]
    simp only [Option.bind_some, hz]
    rw [if_neg (by omega), if_neg (by omega), if_neg (by omega), if_pos (by omega), if_pos (by omega), if_neg (by omega), if_neg (by omega), if_neg (by omega)]
    have := ba_app [39] (esc v.f2.data.toList)
    have h2 := ba_app ([39] ++ esc v.f2.data.toList) [39]
    rw [← this] at h2
    exact congrArg some h2

theorem drop_at (s : ByteArray) (i : Nat) (hi : i < s.size) : s.data.toList.drop i = (s[i]'hi) :: s.data.toList.drop (i + 1) := by
  have h' : i < s.data.toList.length := by rw [← size_len]; exact hi
  rw [List.drop_eq_getElem_cons h']; rfl
theorem bt_nat (s : ByteArray) (i : Nat) (hi : i < s.size) : bt s (i : Int) = ((s[i]'hi).toNat : Int) := by
  unfold bt; exact dif_pos hi
theorem cut_one (s : ByteArray) (i : Nat) (hi : i < s.size) : s.extract i (i + 1) = ⟨[s[i]'hi].toArray⟩ := by
  apply ByteArray.ext
  rw [ByteArray.data_extract]
  apply Array.ext'
  rw [Array.toList_extract]
  simp only [List.extract_eq_take_drop, Nat.add_sub_cancel_left]
  rw [drop_at s i hi]; simp
theorem u8_39 (b : UInt8) : (b.toNat : Int) = 39 ↔ b = 39 := by
  constructor
  · intro h
    have h2 : b.toNat = (39 : UInt8).toNat := by show b.toNat = 39; omega
    exact UInt8.toNat_inj.1 h2
  · intro h; subst h; rfl
theorem shown_l0 (a b : Int) (s : ByteArray) (hs : s.size ≤ 200) : ∀ m i : Nat, i + m = s.size → ∀ acc : List UInt8, acc.length ≤ 2 * i + 1 → Ev (fun k => peristyleref1_Shown.l0 k ⟨acc.toArray⟩ i a b s) ⟨(acc ++ esc (s.data.toList.drop i) ++ [39]).toArray⟩ := by
  intro m
  induction m with
  | zero =>
    intro i hi acc ha
    have hz : (⟨acc.toArray⟩ : ByteArray).size = acc.length := by rw [size_len]
    refine Ev.step (fun k => peristyleref1_Shown.l0.eq_2 ..) (Ev.iten (by omega) (Ev.itep (by rw [hz]; omega) (Ev.cast (Ev.now _) ?_)))
    have hd : s.data.toList.drop i = [] := List.drop_eq_nil_of_le (by rw [← size_len]; omega)
    rw [hd]
    have := ba_app acc [39]
    rw [show acc ++ esc [] ++ [39] = acc ++ [39] by simp [esc]]
    exact this
  | succ m ih =>
    intro i hi acc ha
    have hi' : i < s.size := by omega
    have hz : (⟨acc.toArray⟩ : ByteArray).size = acc.length := by rw [size_len]
    refine Ev.step (fun k => peristyleref1_Shown.l0.eq_2 ..) (Ev.itep (by omega) (Ev.itep (by omega) ?_))
    rw [wnext i (by omega)]
    simp only [Int.toNat_natCast]
    refine Ev.itep (by omega) (Ev.itep (by omega) (Ev.itep (by rw [hz]; omega) ?_))
    rw [cut_one s i hi', bt_nat s i hi', drop_at s i hi']
    have e1 := ba_app acc [s[i]'hi']
    rw [e1]
    by_cases c : s[i]'hi' = 39
    · refine Ev.itep ((u8_39 _).2 c) (Ev.itep (by rw [hz]; omega) ?_)
      have e2 := ba_app (acc ++ [s[i]'hi']) [39]
      have e3 : (⟨(acc ++ [s[i]'hi']).toArray⟩ : ByteArray) ++ (⟨#[39]⟩ : ByteArray) = ⟨(acc ++ [s[i]'hi'] ++ [39]).toArray⟩ := e2
      rw [e3]
      refine Ev.cast (ih (i + 1) (by omega) _ (by simp; omega)) ?_
      show _ = (⟨(acc ++ (if s[i]'hi' = 39 then _ else _) ++ [39]).toArray⟩ : ByteArray)
      rw [if_pos c, c]; simp
    · refine Ev.iten (fun x => c ((u8_39 _).1 x)) ?_
      refine Ev.cast (ih (i + 1) (by omega) _ (by simp; omega)) ?_
      show _ = (⟨(acc ++ (if s[i]'hi' = 39 then _ else _) ++ [39]).toArray⟩ : ByteArray)
      rw [if_neg c]; simp
theorem text_ref {v : S54} (h : Val v) : Ev (fun k => peristyleref1_Shown.f k v.f0 v.f1 v.f2) (tv v) := by
  refine Ev.congr (fun k => peristyleref1_Shown.f.eq_1 ..) ?_
  unfold tv txt
  rcases h.kinds with k | ⟨k, a, b⟩ | ⟨k, a, b⟩ | ⟨k, a⟩
  · rw [if_pos k]; exact Ev.itep k (Ev.now _)
  · refine Ev.iten (by omega) (Ev.iten (by omega) ?_)
    rw [if_neg (by omega), if_pos k]
    have e : v.f1 = 0 ∨ v.f1 = 1 := by omega
    refine Ev.cast (Ev.congr (f := fun _ => some (if v.f1 = 1 then (⟨#[116, 114, 117, 101]⟩ : ByteArray) else ⟨#[102, 97, 108, 115, 101]⟩)) (fun n => ?_) (Ev.now _)) ?_
    · unfold peristyleref1_word.f
      rw [if_neg (by omega : ¬ v.f0 = 2)]
      rcases e with e | e <;> simp [e]
    · rcases e with e | e <;> simp [e]
  · refine Ev.iten (by omega) (Ev.iten (by omega) ?_)
    rw [if_neg (by omega), if_neg (by omega), if_pos k]
    refine Ev.congr (f := fun _ => some ⟨(Lib.itoa v.f1).toArray⟩) (fun n => ?_) (Ev.now _)
    unfold peristyleref1_word.f
    rw [if_pos k, itoa_eq v.f1 a b]; rfl
  · refine Ev.iten (by omega) (Ev.itep k ?_)
    rw [if_neg (by omega), if_neg (by omega), if_neg (by omega)]
    have := shown_l0 v.f0 v.f1 v.f2 a v.f2.size 0 (by omega) [39] (by simp)
    exact this
theorem TextOf_cost {v : S54} (h : Val v) : Ev (fun k => value_TextOf.f k v.f0 v.f1 v.f2) (tv v, 0) := by
  refine Ev.congr (fun k => value_TextOf.f.eq_1 ..) (Ev.bind (Ev.cast (cv_cost v) h) (Ev.itep rfl ?_))
  rw [text_cost h]; exact Ev.now _
theorem TextOf_ref {v : S54} (h : Val v) : Ev (fun k => peristyleref1_TextOf.f k v.f0 v.f1 v.f2) (tv v, 0) :=
  Ev.congr (fun k => peristyleref1_TextOf.f.eq_1 ..) (Ev.bind (Ev.cast (cv_ref v) h) (Ev.itep rfl (Ev.bind (text_ref h) (Ev.now _))))
/-! The texts of values, one behind another. -/
def cat (l : List S54) : Nat → Nat → List UInt8
  | 0, _ => []
  | m + 1, i => (if i = 0 then [] else [44]) ++ txt (l.getD i z54) ++ cat l m (i + 1)
theorem cat_len (l : List S54) (hv : ∀ j, j < l.length → Val (l.getD j z54)) : ∀ m i : Nat, i + m = l.length → (cat l m i).length ≤ 403 * m := by
  intro m
  induction m with
  | zero => intro i hi; exact Nat.zero_le _
  | succ m ih =>
    intro i hi
    have h1 := ih (i + 1) (by omega)
    have h2 := txt_len (hv i (by omega))
    show ((if i = 0 then [] else [44]) ++ txt (l.getD i z54) ++ cat l m (i + 1)).length ≤ _
    simp only [List.length_append]
    split <;> simp only [List.length_cons, List.length_nil] <;> omega
theorem text_l0 (l : List S54) (hl : l.length ≤ 10) (hv : ∀ j, j < l.length → Val (l.getD j z54)) : ∀ m i : Nat, i + m = l.length → ∀ acc : List UInt8, acc.length ≤ 403 * i → Ev (fun k => join_text.l0 k ⟨acc.toArray⟩ l l.length i) ⟨(acc ++ cat l m i).toArray⟩ := by
  intro m
  induction m with
  | zero => intro i hi acc ha; exact Ev.step (fun k => join_text.l0.eq_2 ..) (Ev.iten (by omega) (Ev.cast (Ev.now _) (by simp [cat])))
  | succ m ih =>
    intro i hi acc ha
    have hz : (⟨acc.toArray⟩ : ByteArray).size = acc.length := by rw [size_len]
    have hv' := hv i (by omega)
    have ht := txt_len hv'
    have hs := tv_size (l.getD i z54)
    refine Ev.step (fun k => join_text.l0.eq_2 ..) (Ev.itep (by omega) (Ev.itep (by omega) (Ev.itep (by omega) ?_)))
    rw [rd54, wnext i (by omega)]
    show Ev _ (⟨(acc ++ ((if i = 0 then [] else [44]) ++ txt (l.getD i z54) ++ cat l m (i + 1))).toArray⟩ : ByteArray)
    by_cases c : i = 0
    · subst c
      refine Ev.iten (by omega) (Ev.bind (TextOf_cost hv') (Ev.itep (by show (⟨acc.toArray⟩ : ByteArray).size + (tv _).size ≤ _; rw [hz, hs]; omega) ?_))
      have e : (⟨acc.toArray⟩ : ByteArray) ++ tv (l.getD 0 z54) = ⟨(acc ++ txt (l.getD 0 z54)).toArray⟩ := ba_app _ _
      show Ev (fun k => join_text.l0 k ((⟨acc.toArray⟩ : ByteArray) ++ tv (l.getD 0 z54)) l _ _) _
      rw [e]
      refine Ev.cast (ih 1 (by omega) _ (by simp only [List.length_append]; omega)) (by simp)
    · refine Ev.itep (by omega) (Ev.itep (by rw [hz]; omega) (Ev.bind (TextOf_cost hv') (Ev.itep (by show (⟨acc.toArray⟩ : ByteArray).size + 1 + (tv _).size ≤ _; rw [hz, hs]; omega) ?_)))
      have e0 : (⟨acc.toArray⟩ : ByteArray) ++ (⟨#[44]⟩ : ByteArray) = ⟨(acc ++ [44]).toArray⟩ := ba_app acc [44]
      have e : (⟨(acc ++ [44]).toArray⟩ : ByteArray) ++ tv (l.getD i z54) = ⟨(acc ++ [44] ++ txt (l.getD i z54)).toArray⟩ := ba_app _ _
      show Ev (fun k => join_text.l0 k ((⟨acc.toArray⟩ : ByteArray) ++ (⟨#[44]⟩ : ByteArray) ++ tv (l.getD i z54)) l _ _) _
      rw [e0, e]
      refine Ev.cast (ih (i + 1) (by omega) _ (by simp only [List.length_append, List.length_cons, List.length_nil]; omega)) (by simp [c])

/-! The hash. -/
def stp (h : Nat) (c : UInt8) : Nat := ((h ^^^ c.toNat) * 16777619) % 4294967296
theorem stp_lt (h : Nat) (c : UInt8) : stp h c < 4294967296 := Nat.mod_lt _ (by decide)
theorem fold_lt : ∀ (l : List UInt8) (h : Nat), h < 4294967296 → l.foldl stp h < 4294967296
  | [], _, hh => hh
  | c :: l, h, _ => fold_lt l (stp h c) (stp_lt h c)
theorem xor_lt32 (a b : Nat) (ha : a < 4294967296) (hb : b < 4294967296) : a ^^^ b < 4294967296 := Nat.xor_lt_two_pow (n := 32) ha hb
theorem w32 (n : Int) : IntKind.u32.wrap n = n % 4294967296 := by simp [IntKind.wrap, IntKind.bits, IntKind.signed]
theorem xor32 (a b : Nat) (ha : a < 4294967296) (hb : b < 4294967296) : Go.bits .xor .u32 (a : Int) (b : Int) = ((a ^^^ b : Nat) : Int) := by
  have hx := xor_lt32 a b ha hb
  have h1 : (BitVec.ofInt 32 (a : Int)).toNat = a := by
    rw [BitVec.ofInt_natCast, BitVec.toNat_ofNat]; exact Nat.mod_eq_of_lt (by omega)
  have h2 : (BitVec.ofInt 32 (b : Int)).toNat = b := by
    rw [BitVec.ofInt_natCast, BitVec.toNat_ofNat]; exact Nat.mod_eq_of_lt (by omega)
  show IntKind.u32.wrap ((BitVec.ofInt 32 (a : Int) ^^^ BitVec.ofInt 32 (b : Int)).toNat : Int) = _
  rw [BitVec.toNat_xor, h1, h2, w32]
  omega
theorem xor64 (a b : Nat) (ha : a < 4294967296) (hb : b < 4294967296) : Go.bits .xor .i64 (a : Int) (b : Int) = ((a ^^^ b : Nat) : Int) := by
  have hx := xor_lt32 a b ha hb
  have h1 : (BitVec.ofInt 64 (a : Int)).toNat = a := by
    rw [BitVec.ofInt_natCast, BitVec.toNat_ofNat]; exact Nat.mod_eq_of_lt (by omega)
  have h2 : (BitVec.ofInt 64 (b : Int)).toNat = b := by
    rw [BitVec.ofInt_natCast, BitVec.toNat_ofNat]; exact Nat.mod_eq_of_lt (by omega)
  show IntKind.i64.wrap ((BitVec.ofInt 64 (a : Int) ^^^ BitVec.ofInt 64 (b : Int)).toNat : Int) = _
  rw [BitVec.toNat_xor, h1, h2, IntKind.wrap_i64]
  omega
theorem stp_cost (h : Nat) (hh : h < 4294967296) (c : UInt8) : IntKind.u32.wrap (Go.bits .xor .u32 (h : Int) (IntKind.u32.wrap (c.toNat : Int)) * 16777619) = ((stp h c : Nat) : Int) := by
  have hc := c.toNat_lt
  have e : IntKind.u32.wrap (c.toNat : Int) = (c.toNat : Int) := by rw [w32]; omega
  rw [e, xor32 h c.toNat hh (by omega), w32]
  unfold stp
  generalize h ^^^ c.toNat = x
  omega
theorem stp_ref (h : Nat) (hh : h < 4294967296) (c : UInt8) : Int.tmod (wrap64 (Go.bits .xor .i64 (h : Int) (wrap64 (c.toNat : Int)) * 16777619)) 4294967296 = ((stp h c : Nat) : Int) := by
  have hc := c.toNat_lt
  have e : wrap64 (c.toNat : Int) = (c.toNat : Int) := by unfold wrap64; omega
  have hx := xor_lt32 h c.toNat hh (by omega)
  rw [e, xor64 h c.toNat hh (by omega)]
  unfold stp
  generalize h ^^^ c.toNat = x at hx
  rw [show wrap64 ((x : Int) * 16777619) = (x : Int) * 16777619 by unfold wrap64; omega, Int.tmod_eq_emod_of_nonneg (by omega)]
  omega
theorem hash_l0 (s : ByteArray) (hs : s.size ≤ 1000000) : ∀ m i : Nat, i + m = s.size → ∀ h : Nat, h < 4294967296 → Ev (fun k => join_hash.l0 k s i (h : Int)) (((s.data.toList.drop i).foldl stp h : Nat) : Int) := by
  intro m
  induction m with
  | zero =>
    intro i hi h hh
    have hd : s.data.toList.drop i = [] := List.drop_eq_nil_of_le (by rw [← size_len]; omega)
    rw [hd]
    exact Ev.step (fun k => join_hash.l0.eq_2 ..) (Ev.iten (by omega) (Ev.cast (Ev.now _) (by show wrap64 (h : Int) = (h : Int); unfold wrap64; omega)))
  | succ m ih =>
    intro i hi h hh
    have hi' : i < s.size := by omega
    refine Ev.step (fun k => join_hash.l0.eq_2 ..) (Ev.itep (by omega) (Ev.itep (by omega) ?_))
    rw [wnext i (by omega), bt_nat s i hi', stp_cost h hh, drop_at s i hi']
    exact ih (i + 1) (by omega) _ (stp_lt _ _)
theorem hash_l1 (s : ByteArray) (hs : s.size ≤ 1000000) (l : List S54) (i : Nat) (hi0 : i < 1000) {r : Int} : ∀ m j : Nat, j + m = s.size → ∀ h : Nat, h < 4294967296 → Ev (fun k => peristyleref8_hash.l0 k (((s.data.toList.drop j).foldl stp h : Nat) : Int) l l.length ((i + 1 : Nat) : Int)) r → Ev (fun k => peristyleref8_hash.l1 k (h : Int) s l l.length i s.size j) r := by
  intro m
  induction m with
  | zero =>
    intro j hj h hh H
    have hd : s.data.toList.drop j = [] := List.drop_eq_nil_of_le (by rw [← size_len]; omega)
    rw [hd] at H
    refine Ev.step (fun k => peristyleref8_hash.l1.eq_2 ..) (Ev.iten (by omega) ?_)
    rw [wnext i (by omega)]
    exact H
  | succ m ih =>
    intro j hj h hh H
    have hj' : j < s.size := by omega
    refine Ev.step (fun k => peristyleref8_hash.l1.eq_2 ..) (Ev.itep (by omega) (Ev.itep (by omega) (Ev.itep (by omega) ?_)))
    rw [wnext j (by omega), bt_nat s j hj', stp_ref h hh]
    rw [drop_at s j hj'] at H
    exact ih (j + 1) (by omega) _ (stp_lt _ _) H
theorem hash_ref (l : List S54) (hl : l.length ≤ 10) (hv : ∀ j, j < l.length → Val (l.getD j z54)) : ∀ m i : Nat, i + m = l.length → ∀ h : Nat, h < 4294967296 → Ev (fun k => peristyleref8_hash.l0 k (h : Int) l l.length i) (((cat l m i).foldl stp h : Nat) : Int) := by
  intro m
  induction m with
  | zero => intro i hi h hh; exact Ev.step (fun k => peristyleref8_hash.l0.eq_2 ..) (Ev.iten (by omega) (Ev.now _))
  | succ m ih =>
    intro i hi h hh
    have hv' := hv i (by omega)
    have ht := txt_len hv'
    have hs := tv_size (l.getD i z54)
    have go : ∀ p : List UInt8, p.length ≤ 1 → Ev (fun k => peristyleref8_hash.j1 k (h : Int) ⟨(p ++ txt (l.getD i z54)).toArray⟩ l l.length i) (((p ++ txt (l.getD i z54) ++ cat l m (i + 1)).foldl stp h : Nat) : Int) := by
      intro p hp
      have hz : (⟨(p ++ txt (l.getD i z54)).toArray⟩ : ByteArray).size = (p ++ txt (l.getD i z54)).length := by rw [size_len]
      have hz2 : (p ++ txt (l.getD i z54)).length = p.length + (txt (l.getD i z54)).length := List.length_append
      refine Ev.step (fun k => peristyleref8_hash.j1.eq_2 ..) (hash_l1 _ (by rw [hz, hz2]; omega) l i (by omega) _ 0 (Nat.zero_add _) h hh ?_)
      rw [List.foldl_append]
      exact ih (i + 1) (by omega) _ (fold_lt _ _ hh)
    refine Ev.step (fun k => peristyleref8_hash.l0.eq_2 ..) (Ev.itep (by omega) (Ev.itep (by omega) (Ev.itep (by omega) ?_)))
    rw [rd54]
    refine Ev.bind (TextOf_ref hv') ?_
    show Ev _ ((((if i = 0 then [] else [44]) ++ txt (l.getD i z54) ++ cat l m (i + 1)).foldl stp h : Nat) : Int)
    by_cases c : i = 0
    · rw [if_pos c]
      exact Ev.iten (by omega) (go [] (by simp))
    · rw [if_neg c]
      refine Ev.itep (by omega) (Ev.itep (by show 1 + (tv _).size ≤ _; rw [hs]; omega) ?_)
      have e : (⟨#[44]⟩ : ByteArray) ++ tv (l.getD i z54) = ⟨([44] ++ txt (l.getD i z54)).toArray⟩ := ba_app [44] _
      show Ev (fun k => peristyleref8_hash.j1 k (h : Int) ((⟨#[44]⟩ : ByteArray) ++ tv (l.getD i z54)) l l.length i) _
      rw [e]
      exact go [44] (by simp)
theorem hash_two (l : List S54) (hl : l.length ≤ 10) (hv : ∀ j, j < l.length → Val (l.getD j z54)) (s : Nat) (hs : s ≤ 5) : Two (fun k => join_hash.f k l (s : Int)) (fun k => peristyleref8_hash.f k l (s : Int)) (fun r => 0 ≤ r ∧ r < 4294967296) := by
  have hx := xor_lt32 2166136261 s (by omega) (by omega)
  have e1 : Go.bits .xor .u32 2166136261 (IntKind.u32.wrap (s : Int)) = ((2166136261 ^^^ s : Nat) : Int) := by
    have : IntKind.u32.wrap (s : Int) = (s : Int) := by rw [w32]; omega
    rw [this]; exact xor32 2166136261 s (by omega) (by omega)
  have e2 : Go.bits .xor .i64 2166136261 (s : Int) = ((2166136261 ^^^ s : Nat) : Int) := xor64 2166136261 s (by omega) (by omega)
  have hlt := fold_lt (cat l l.length 0) _ hx
  have A : Ev (fun k => join_hash.f k l (s : Int)) (((cat l l.length 0).foldl stp (2166136261 ^^^ s) : Nat) : Int) := by
    have hc := cat_len l hv l.length 0 (by omega)
    have hz : (⟨(cat l l.length 0).toArray⟩ : ByteArray).size = (cat l l.length 0).length := by rw [size_len]
    refine Ev.congr (fun k => join_hash.f.eq_1 ..) (Ev.bind (a := ⟨(cat l l.length 0).toArray⟩) ?_ (Ev.itep (by rw [hz]; omega) ?_))
    · exact text_l0 l hl hv l.length 0 (by omega) [] (by simp)
    · rw [e1]
      exact hash_l0 ⟨(cat l l.length 0).toArray⟩ (by rw [hz]; omega) _ 0 (Nat.zero_add _) _ hx
  have B : Ev (fun k => peristyleref8_hash.f k l (s : Int)) (((cat l l.length 0).foldl stp (2166136261 ^^^ s) : Nat) : Int) := by
    refine Ev.congr (fun k => peristyleref8_hash.f.eq_1 ..) ?_
    rw [e2]
    exact hash_ref l hl hv l.length 0 (by omega) _ hx
  refine (Two.ofEv A B).imp (fun r e => ?_)
  subst e
  omega

/-! Names. -/
def nl (s : ByteArray) : Nat → Nat → Bool
  | 0, _ => true
  | m + 1, i => if 97 ≤ bt s i ∧ bt s i ≤ 122 then nl s m (i + 1) else if i = 0 then false else if bt s i = 95 then nl s m (i + 1) else if bt s i < 48 then false else if bt s i > 57 then false else nl s m (i + 1)
theorem name_cost (s : ByteArray) (hs : s.size ≤ 32) : ∀ m i : Nat, i + m = s.size → Ev (fun k => kit_Name.l0 k s (s.size : Int) i) (nl s m i) := by
  intro m
  induction m with
  | zero => intro i hi; exact Ev.step (fun k => kit_Name.l0.eq_2 ..) (Ev.iten (by omega) (Ev.now _))
  | succ m ih =>
    intro i hi
    refine Ev.step (fun k => kit_Name.l0.eq_2 ..) (Ev.itep (by omega) (Ev.itep (by omega) (Ev.itep (by omega) ?_)))
    rw [wnext i (by omega)]
    have nx := ih (i + 1) (by omega)
    have tail : ¬ (97 ≤ bt s i ∧ bt s i ≤ 122) → Ev (fun k => if (i : Int) = 0 then (some false) else (if (bt s i) = 95 then (kit_Name.l0 k s (s.size : Int) ((i + 1 : Nat) : Int)) else (if (bt s i) < 48 then (some false) else (if (bt s i) > 57 then (some false) else (kit_Name.l0 k s (s.size : Int) ((i + 1 : Nat) : Int)))))) (nl s (m + 1) i) := by
      intro h
      refine Ev.cast ?_ (if_neg h).symm
      by_cases h0 : i = 0
      · exact Ev.itep (by omega) (Ev.cast (Ev.now _) (if_pos h0).symm)
      · exact Ev.iten (by omega) (Ev.cast (Ev.ite (fun _ => nx) (fun _ => Ev.ite (fun _ => Ev.now _) (fun _ => Ev.ite (fun _ => Ev.now _) (fun _ => nx)))) (if_neg h0).symm)
    by_cases c : bt s i < 97
    · exact Ev.itep c (tail (by omega))
    · refine Ev.iten c ?_
      by_cases d : bt s i > 122
      · exact Ev.itep d (tail (by omega))
      · exact Ev.iten d (Ev.cast nx (if_pos (by omega)).symm)
theorem name_ref (s : ByteArray) (hs : s.size ≤ 9223372036854775807) : ∀ m i : Nat, i + m = s.size → Ev (fun k => peristyleref1_IsName.l0 k s i) (nl s m i && (decide (s.size ≠ 0) && decide (s.size ≤ 32))) := by
  intro m
  induction m with
  | zero =>
    intro i hi
    refine Ev.step (fun k => peristyleref1_IsName.l0.eq_2 ..) (Ev.iten (by omega) ?_)
    by_cases h : s.size = 0
    · exact Ev.itep ((nil_iff s).2 h) (Ev.cast (Ev.now _) (by simp [h]))
    · refine Ev.iten (fun x => h ((nil_iff s).1 x)) (Ev.cast (Ev.now _) ?_)
      simp only [nl, Bool.true_and, decide_eq_true h, ne_eq, h, not_false_eq_true, decide_true]
      exact decide_eq_decide.2 (by omega)
  | succ m ih =>
    intro i hi
    refine Ev.step (fun k => peristyleref1_IsName.l0.eq_2 ..) (Ev.itep (by omega) (Ev.itep (by omega) ?_))
    rw [wnext i (by omega)]
    have nx := ih (i + 1) (by omega)
    generalize (decide (s.size ≠ 0) && decide (s.size ≤ 32)) = E at nx ⊢
    have tail : ¬ (97 ≤ bt s i ∧ bt s i ≤ 122) → Ev (fun k => if (i : Int) = 0 then (some false) else (if (bt s i) = 95 then (peristyleref1_IsName.l0 k s ((i + 1 : Nat) : Int)) else (if (bt s i) < 48 then (some false) else (if (bt s i) > 57 then (some false) else (peristyleref1_IsName.l0 k s ((i + 1 : Nat) : Int)))))) (nl s (m + 1) i && E) := by
      intro h
      have e : nl s (m + 1) i = if i = 0 then false else if bt s i = 95 then nl s m (i + 1) else if bt s i < 48 then false else if bt s i > 57 then false else nl s m (i + 1) := if_neg h
      rw [e]
      by_cases h0 : i = 0
      · exact Ev.itep (by omega) (Ev.cast (Ev.now _) (by simp [h0]))
      · refine Ev.iten (by omega) ?_
        rw [if_neg h0]
        by_cases h1 : bt s i = 95
        · rw [if_pos h1]; exact Ev.itep h1 nx
        · rw [if_neg h1]
          refine Ev.iten h1 ?_
          by_cases h2 : bt s i < 48
          · rw [if_pos h2]; exact Ev.itep h2 (Ev.now _)
          · rw [if_neg h2]
            refine Ev.iten h2 ?_
            by_cases h3 : bt s i > 57
            · rw [if_pos h3]; exact Ev.itep h3 (Ev.now _)
            · rw [if_neg h3]; exact Ev.iten h3 nx
    by_cases c : bt s i ≥ 97
    · refine Ev.itep c ?_
      by_cases d : bt s i ≤ 122
      · have e : nl s (m + 1) i = nl s m (i + 1) := if_pos ⟨c, d⟩
        rw [e]; exact Ev.itep d nx
      · exact Ev.iten d (tail (by omega))
    · exact Ev.iten c (tail (by omega))
theorem name_evs (s : ByteArray) (hs : s.size ≤ 9223372036854775807) : ∃ b, Ev (fun k => kit_Name.f k s) b ∧ Ev (fun k => peristyleref1_IsName.f k s) b := by
  refine ⟨_, ?_, Ev.congr (fun k => peristyleref1_IsName.f.eq_1 ..) (name_ref s hs s.size 0 (by omega))⟩
  refine Ev.congr (fun k => kit_Name.f.eq_1 ..) ?_
  by_cases h : s.size = 0
  · exact Ev.itep ((nil_iff s).2 h) (Ev.step (fun k => kit_Name.j0.eq_2 ..) (Ev.itep rfl (Ev.cast (Ev.now _) (by simp [h]))))
  · refine Ev.iten (fun x => h ((nil_iff s).1 x)) (Ev.step (fun k => kit_Name.j0.eq_2 ..) ?_)
    by_cases g : s.size ≤ 32
    · refine Ev.iten (by simp; omega) (Ev.cast (name_cost s g s.size 0 (by omega)) (by simp [h, g]))
    · exact Ev.itep (by simp; omega) (Ev.cast (Ev.now _) (by simp [g]))
theorem rd69 (xs : List S69) (i : Nat) : rd_T69 xs (i : Int) = xs.getD i z69 := by simp [rd_T69]
theorem rd43 (xs : List S43) (i : Nat) : rd_T43 xs (i : Int) = xs.getD i z43 := by simp [rd_T43]
theorem rd_at (xs : List Int) (i : Nat) : rd xs (i : Int) = xs.getD i 0 := by simp [rd]
theorem take_getD {α : Type} (l : List α) (d : α) (i j : Nat) (h : j < i) : (l.take i).getD j d = l.getD j d := by
  simp [List.getD_eq_getElem?_getD, List.getElem?_take, h]
/-! Tables. -/
theorem cols_l0 (l : List S69) (hl : l.length ≤ 20) (hn : ∀ j, j < l.length → (l.getD j z69).f0.size ≤ 9223372036854775807) : ∀ m i : Nat, i + m = l.length → Two (fun k => value_CheckColumns.l0 k l l l.length i) (fun k => peristyleref1_CheckColumns.l0 k l i) (fun _ => True) := by
  intro m
  induction m with
  | zero => intro i hi; exact Two.step (fun k => value_CheckColumns.l0.eq_2 ..) (fun k => peristyleref1_CheckColumns.l0.eq_2 ..) (Two.not (by omega) (by omega) (Two.ret _ trivial))
  | succ m ih =>
    intro i hi
    refine Two.step (fun k => value_CheckColumns.l0.eq_2 ..) (fun k => peristyleref1_CheckColumns.l0.eq_2 ..) (Two.both (by omega) (by omega) (Two.both (by omega) (by omega) (Two.left (by omega) ?_)))
    simp only [rd69, Option.bind_some, Int.toNat_natCast]
    obtain ⟨b, A, B⟩ := name_evs _ (hn i (by omega))
    refine Two.bindEv A B (Two.ite Iff.rfl (fun _ => Two.left (by omega) ?_) (fun _ => Two.ret _ trivial))
    have hlt : (l.take i).length = i := by rw [List.length_take]; omega
    rw [hlt]
    have inner : ∀ p j : Nat, j + p = i → Two (fun k => value_CheckColumns.l1 k l l l.length i (l.take i) i j (l.getD i z69).f0 (l.getD i z69).f1) (fun k => peristyleref1_CheckColumns.l1 k l i j) (fun _ => True) := by
      intro p
      induction p with
      | zero =>
        intro j hj
        refine Two.step (fun k => value_CheckColumns.l1.eq_2 ..) (fun k => peristyleref1_CheckColumns.l1.eq_2 ..) (Two.not (by omega) (by omega) (Two.right (by omega) (Two.right (by omega) ?_)))
        simp only [rd69, in_eq, within1_eq, Option.bind_some, wnext i (by omega : i < 9223372036854775807)]
        exact Two.ite Iff.rfl (fun _ => ih (i + 1) (by omega)) (fun _ => Two.ret _ trivial)
      | succ p ihp =>
        intro j hj
        refine Two.step (fun k => value_CheckColumns.l1.eq_2 ..) (fun k => peristyleref1_CheckColumns.l1.eq_2 ..) (Two.both (by omega) (by omega) (Two.both (by omega) (by omega) (Two.both (by omega) (by omega) (Two.right (by omega) (Two.right (by omega) ?_)))))
        simp only [rd69, take_getD l z69 i j (by omega), wnext j (by omega : j < 9223372036854775807)]
        exact Two.ite Iff.rfl (fun _ => Two.ret _ trivial) (fun _ => ihp (j + 1) (by omega))
    exact inner i 0 (by omega)
theorem row_l0 (l : List S69) (v : List S54) (hl : l.length ≤ 20) (hv : v.length = l.length) : ∀ m i : Nat, i + m = l.length → (∀ j, j < i → Val (v.getD j z54)) → Two (fun k => value_CheckRow.l0 k l v v.length i) (fun k => peristyleref1_CheckRow.l0 k l i v) (fun r => r = 0 → ∀ j, j < l.length → Val (v.getD j z54)) := by
  intro m
  induction m with
  | zero => intro i hi hV; exact Two.step (fun k => value_CheckRow.l0.eq_2 ..) (fun k => peristyleref1_CheckRow.l0.eq_2 ..) (Two.not (by omega) (by omega) (Two.ret _ (fun _ j hj => hV j (by omega))))
  | succ m ih =>
    intro i hi hV
    refine Two.step (fun k => value_CheckRow.l0.eq_2 ..) (fun k => peristyleref1_CheckRow.l0.eq_2 ..) (Two.both (by omega) (by omega) (Two.both (by omega) (by omega) (Two.both (by omega) (by omega) ?_)))
    simp only [rd54, rd69, kit_IsNull.f, Option.bind_some, wnext i (by omega : i < 9223372036854775807)]
    refine Two.bindEv (cv_cost _) (cv_ref _) (Two.ite Iff.rfl (fun c => ?_) (fun c => Two.ret _ (fun h => absurd h c)))
    have nx := ih (i + 1) (by omega) (fun j hj => by
      rcases Nat.lt_or_ge j i with g | g
      · exact hV j g
      · obtain rfl : j = i := by omega
        exact c)
    exact Two.ite beq_iff_eq (fun _ => nx) (fun _ => Two.left (by omega) (Two.ite Iff.rfl (fun _ => nx) (fun _ => Two.ret _ (fun h => by omega))))
def RowG (n : Nat) (r : S43) : Prop := r.f0.length = n ∧ ∀ j, j < n → Val (r.f0.getD j z54)
theorem table_l0 (l : List S69) (hl : l.length ≤ 20) (rs : List S43) (hr : rs.length ≤ 2000) : ∀ m i : Nat, i + m = rs.length → (∀ j, j < i → RowG l.length (rs.getD j z43)) → Two (fun k => value_CheckTable.l0 k rs rs.length i l rs) (fun k => peristyleref1_CheckTable.l0 k i l rs) (fun r => r = 0 → ∀ j, j < rs.length → RowG l.length (rs.getD j z43)) := by
  intro m
  induction m with
  | zero => intro i hi hV; exact Two.step (fun k => value_CheckTable.l0.eq_2 ..) (fun k => peristyleref1_CheckTable.l0.eq_2 ..) (Two.not (by omega) (by omega) (Two.ret _ (fun _ j hj => hV j (by omega))))
  | succ m ih =>
    intro i hi hV
    refine Two.step (fun k => value_CheckTable.l0.eq_2 ..) (fun k => peristyleref1_CheckTable.l0.eq_2 ..) (Two.both (by omega) (by omega) (Two.both (by omega) (by omega) (Two.left (by omega) ?_)))
    simp only [rd43, wnext i (by omega : i < 9223372036854775807)]
    have row : Two (fun k => value_CheckRow.f k l (rs.getD i z43).f0) (fun k => peristyleref1_CheckRow.f k l (rs.getD i z43).f0) (fun r => r = 0 → RowG l.length (rs.getD i z43)) := by
      refine Two.congr (fun k => value_CheckRow.f.eq_1 ..) (fun k => peristyleref1_CheckRow.f.eq_1 ..) (Two.ite Iff.rfl (fun e => ?_) (fun _ => Two.ret _ (fun h => by omega)))
      have e' : (rs.getD i z43).f0.length = l.length := by omega
      exact (row_l0 l _ hl e' l.length 0 (by omega) (fun j hj => by omega)).imp fun r h h0 => ⟨e', h h0⟩
    refine Two.bind row (fun r h => Two.ite Iff.rfl (fun c => ih (i + 1) (by omega) (fun j hj => ?_)) (fun c => Two.ret _ (fun h => absurd h c)))
    rcases Nat.lt_or_ge j i with g | g
    · exact hV j g
    · obtain rfl : j = i := by omega
      exact h c
theorem table_two (l : List S69) (hn : ∀ j, j < l.length → (l.getD j z69).f0.size ≤ 9223372036854775807) (rs : List S43) : Two (fun k => value_CheckTable.f k l rs) (fun k => peristyleref1_CheckTable.f k l rs) (fun r => r = 0 → l.length ≤ 20 ∧ rs.length ≤ 2000 ∧ ∀ j, j < rs.length → RowG l.length (rs.getD j z43)) := by
  have cols : Two (fun k => value_CheckColumns.f k l) (fun k => peristyleref1_CheckColumns.f k l) (fun r => r = 0 → l.length ≤ 20) := by
    refine Two.congr (fun k => value_CheckColumns.f.eq_1 ..) (fun k => peristyleref1_CheckColumns.f.eq_1 ..) (Two.ite Iff.rfl (fun _ => Two.ret _ (fun h => by omega)) (fun h => Two.ite Iff.rfl (fun _ => Two.ret _ (fun h => by omega)) (fun _ => ?_)))
    exact (cols_l0 l (by omega) hn l.length 0 (by omega)).imp fun _ _ _ => by omega
  refine Two.congr (fun k => value_CheckTable.f.eq_1 ..) (fun k => peristyleref1_CheckTable.f.eq_1 ..) (Two.bind cols (fun r h => Two.ite Iff.rfl (fun c => Two.ite Iff.rfl (fun _ => Two.ret _ (fun h => by omega)) (fun d => ?_)) (fun c => Two.ret _ (fun h => absurd h c))))
  exact (table_l0 l (h c) rs (by omega) rs.length 0 (by omega) (fun j hj => by omega)).imp fun r g g0 => ⟨h c, by omega, g g0⟩

theorem Two.leftn {α : Type} {c : Prop} [Decidable c] {g h g' : Nat → Option α} {P : α → Prop} (x : ¬ c) (H : Two g' h P) : Two (fun k => if c then g k else g' k) h P := by simp only [if_neg x]; exact H
theorem Two.rightn {α : Type} {c : Prop} [Decidable c] {g h g' : Nat → Option α} {P : α → Prop} (x : ¬ c) (H : Two h g' P) : Two h (fun k => if c then g k else g' k) P := by simp only [if_neg x]; exact H
theorem Two.stepL {α : Type} {g h g' : Nat → Option α} {P : α → Prop} (e : ∀ k, g (k + 1) = g' k) (H : Two g' h P) : Two g h P := by
  obtain ⟨r, ⟨K, hK⟩, hP⟩ := H
  refine ⟨r, ⟨K + 1, fun k hk => ⟨?_, (hK k (by omega)).2⟩⟩, hP⟩
  obtain ⟨j, rfl⟩ : ∃ j, k = j + 1 := ⟨k - 1, by omega⟩
  rw [e]; exact (hK j (by omega)).1
theorem Two.stepR {α : Type} {g h g' : Nat → Option α} {P : α → Prop} (e : ∀ k, g (k + 1) = g' k) (H : Two h g' P) : Two h g P := by
  obtain ⟨r, ⟨K, hK⟩, hP⟩ := H
  refine ⟨r, ⟨K + 1, fun k hk => ⟨(hK k (by omega)).1, ?_⟩⟩, hP⟩
  obtain ⟨j, rfl⟩ : ∃ j, k = j + 1 := ⟨k - 1, by omega⟩
  rw [e]; exact (hK j (by omega)).2
theorem idx_ev (l : List Int) (hl : l.length ≤ 10) (a : Int) : ∀ m i : Nat, i + m = l.length → ∃ r, Ev (fun k => slices_Index_int_int.l0 k l a l.length i) r := by
  intro m
  induction m with
  | zero => intro i hi; exact ⟨_, Ev.step (fun k => slices_Index_int_int.l0.eq_2 ..) (Ev.iten (by omega) (Ev.now _))⟩
  | succ m ih =>
    intro i hi
    obtain ⟨r, hr⟩ := ih (i + 1) (by omega)
    exact ⟨if a = rd l (i : Int) then (i : Int) else r, Ev.step (fun k => slices_Index_int_int.l0.eq_2 ..) (Ev.itep (by omega) (Ev.itep (by omega) (Ev.itep (by omega) (by
      rw [wnext i (by omega)]
      exact Ev.ite (fun _ => Ev.now _) (fun _ => hr)))))⟩
theorem has_ev (l : List Int) (hl : l.length ≤ 10) (a : Int) : ∃ b, Ev (fun k => slices_Contains_int_int.f k l a) b := by
  obtain ⟨r, hr⟩ := idx_ev l hl a l.length 0 (by omega)
  exact ⟨_, Ev.congr (fun k => slices_Contains_int_int.f.eq_1 ..) (Ev.bind hr (Ev.now _))⟩
structure TG (cols : List S69) (rs : List S43) (l : List Int) : Prop where
  c20 : cols.length ≤ 20
  r2000 : rs.length ≤ 2000
  rows : ∀ j, j < rs.length → RowG cols.length (rs.getD j z43)
  l10 : l.length ≤ 10
  ix : ∀ j, j < l.length → 0 ≤ l.getD j 0 ∧ l.getD j 0 < cols.length
theorem cc_l0 (cols : List S69) (rs : List S43) (l : List Int) (hl : l.length ≤ 10) (hc : cols.length ≤ 20) : ∀ m i : Nat, i + m = l.length → (∀ j, j < i → 0 ≤ l.getD j 0 ∧ l.getD j 0 < cols.length) → Two (fun k => join_checkColumns.l0 k l l l.length i cols rs) (fun k => peristyleref8_checkColumns.l0 k l l l.length i cols rs) (fun r => r = 0 → ∀ j, j < l.length → 0 ≤ l.getD j 0 ∧ l.getD j 0 < cols.length) := by
  have hw : wrap64 ((cols.length : Int) - 1) = (cols.length : Int) - 1 := by unfold wrap64; omega
  intro m
  induction m with
  | zero => intro i hi hV; exact Two.step (fun k => join_checkColumns.l0.eq_2 ..) (fun k => peristyleref8_checkColumns.l0.eq_2 ..) (Two.not (by omega) (by omega) (Two.ret _ (fun _ j hj => hV j (by omega))))
  | succ m ih =>
    intro i hi hV
    refine Two.step (fun k => join_checkColumns.l0.eq_2 ..) (fun k => peristyleref8_checkColumns.l0.eq_2 ..) (Two.both (by omega) (by omega) (Two.both (by omega) (by omega) (Two.both (by omega) (by omega) ?_)))
    simp only [rd_at, in_eq, within_eq, hw, Option.bind_some, Int.toNat_natCast, wnext i (by omega : i < 9223372036854775807)]
    refine Two.ite Iff.rfl (fun c => Two.both (by omega) (by omega) ?_) (fun _ => Two.ret _ (fun h => by omega))
    have c := of_decide_eq_true c
    obtain ⟨b, B⟩ := has_ev (l.take i) (by rw [List.length_take]; omega) (l.getD i 0)
    refine Two.bindEv B B (Two.ite Iff.rfl (fun _ => Two.ret _ (fun h => by omega)) (fun _ => ih (i + 1) (by omega) (fun j hj => ?_)))
    rcases Nat.lt_or_ge j i with g | g
    · exact hV j g
    · obtain rfl : j = i := by omega
      exact ⟨c.1, by omega⟩
theorem cc_two (cols : List S69) (hn : ∀ j, j < cols.length → (cols.getD j z69).f0.size ≤ 9223372036854775807) (rs : List S43) (l : List Int) : Two (fun k => join_checkColumns.f k cols rs l) (fun k => peristyleref8_checkColumns.f k cols rs l) (fun r => r = 0 → TG cols rs l) := by
  refine Two.congr (fun k => join_checkColumns.f.eq_1 ..) (fun k => peristyleref8_checkColumns.f.eq_1 ..) (Two.bind (table_two cols hn rs) (fun r h => Two.ite Iff.rfl (fun c => ?_) (fun c => Two.ret _ (fun h => absurd h c))))
  obtain ⟨h1, h2, h3⟩ := h c
  refine Two.ite Iff.rfl (fun _ => Two.ret _ (fun h => by omega)) (fun _ => Two.ite Iff.rfl (fun _ => Two.ret _ (fun h => by omega)) (fun d => ?_))
  exact (cc_l0 cols rs l (by omega) h1 l.length 0 (by omega) (fun j hj => by omega)).imp fun r g g0 => ⟨h1, h2, h3, by omega, g g0⟩
/-! Keys. -/
def kl (v : List S54) (l : List Int) : Nat → Nat → List S54 → List S54 × Bool
  | 0, _, acc => (acc, true)
  | m + 1, i, acc => if (v.getD (l.getD i 0).toNat z54).f0 = 0 then ([], false) else kl v l m (i + 1) (acc ++ [v.getD (l.getD i 0).toNat z54])
def KG (k : List S54) : Prop := k.length ≤ 10 ∧ ∀ x ∈ k, Val x
theorem KG.nil : KG [] := ⟨Nat.zero_le _, fun x hx => by cases hx⟩
theorem KG.at_ {k : List S54} (h : KG k) : ∀ j, j < k.length → Val (k.getD j z54) := fun j hj => by
  rw [List.getD_eq_getElem?_getD, List.getElem?_eq_getElem hj]; exact h.2 _ (List.getElem_mem hj)
section
variable {n : Nat} {v : List S54} {l : List Int}
theorem kl_ok (hn : v.length = n) (hv : ∀ j, j < n → Val (v.getD j z54)) (hl : l.length ≤ 10) (ix : ∀ j, j < l.length → 0 ≤ l.getD j 0 ∧ l.getD j 0 < n) : ∀ m i : Nat, i + m = l.length → ∀ acc : List S54, acc.length ≤ i → (∀ x ∈ acc, Val x) → KG (kl v l m i acc).1 := by
  intro m
  induction m with
  | zero => intro i hi acc h1 h2; exact ⟨by show acc.length ≤ 10; omega, h2⟩
  | succ m ih =>
    intro i hi acc h1 h2
    by_cases c : (v.getD (l.getD i 0).toNat z54).f0 = 0
    · have e : kl v l (m + 1) i acc = ([], false) := if_pos c
      rw [e]; exact KG.nil
    · have e : kl v l (m + 1) i acc = kl v l m (i + 1) (acc ++ [v.getD (l.getD i 0).toNat z54]) := if_neg c
      rw [e]
      have := ix i (by omega)
      refine ih (i + 1) (by omega) _ (by simp only [List.length_append, List.length_singleton]; omega) (fun x hx => ?_)
      rcases List.mem_append.1 hx with g | g
      · exact h2 x g
      · rw [List.mem_singleton.1 g]; exact hv _ (by omega)
theorem key_cost (hn : v.length = n) (hl : l.length ≤ 10) (ix : ∀ j, j < l.length → 0 ≤ l.getD j 0 ∧ l.getD j 0 < n) : ∀ m i : Nat, i + m = l.length → ∀ acc : List S54, acc.length ≤ i → Ev (fun k => join_key.l0 k acc l l.length i v) (kl v l m i acc) := by
  intro m
  induction m with
  | zero => intro i hi acc h; exact Ev.step (fun k => join_key.l0.eq_2 ..) (Ev.iten (by omega) (Ev.now _))
  | succ m ih =>
    intro i hi acc h
    have hx := ix i (by omega)
    refine Ev.step (fun k => join_key.l0.eq_2 ..) (Ev.itep (by omega) (Ev.itep (by omega) (Ev.itep (by omega) ?_)))
    have hE : ∀ y, y = kl v l (m + 1) i acc → kl v l (m + 1) i acc = y := fun y h => h.symm
    obtain ⟨c, hc⟩ := Int.eq_ofNat_of_zero_le hx.1
    simp only [rd_at, hc, rd54, kit_IsNull.f, Option.bind_some, wnext i (by omega : i < 9223372036854775807)]
    refine Ev.itep (by omega) (Ev.itep (by omega) ?_)
    have hd : (l.getD i 0).toNat = c := by omega
    by_cases d : (v.getD c z54).f0 = 0
    · have e : kl v l (m + 1) i acc = ([], false) := by show (if _ then _ else _) = _; rw [hd, if_pos d]
      rw [e]; exact Ev.itep (beq_iff_eq.2 d) (Ev.now _)
    · have e : kl v l (m + 1) i acc = kl v l m (i + 1) (acc ++ [v.getD c z54]) := by show (if _ then _ else _) = _; rw [hd, if_neg d]
      rw [e]
      exact Ev.iten (by simpa using d) (Ev.itep (by omega) (ih (i + 1) (by omega) _ (by simp only [List.length_append, List.length_singleton]; omega)))
theorem key_ref (hn : v.length = n) (hl : l.length ≤ 10) (ix : ∀ j, j < l.length → 0 ≤ l.getD j 0 ∧ l.getD j 0 < n) : ∀ m i : Nat, i + m = l.length → ∀ acc : List S54, acc.length ≤ i → Ev (fun k => peristyleref8_key.l0 k acc l l.length i v) (kl v l m i acc) := by
  intro m
  induction m with
  | zero => intro i hi acc h; exact Ev.step (fun k => peristyleref8_key.l0.eq_2 ..) (Ev.iten (by omega) (Ev.now _))
  | succ m ih =>
    intro i hi acc h
    have hx := ix i (by omega)
    refine Ev.step (fun k => peristyleref8_key.l0.eq_2 ..) (Ev.itep (by omega) (Ev.itep (by omega) (Ev.itep (by omega) ?_)))
    obtain ⟨c, hc⟩ := Int.eq_ofNat_of_zero_le hx.1
    simp only [rd_at, hc, rd54, Option.bind_some, wnext i (by omega : i < 9223372036854775807)]
    refine Ev.itep (by omega) (Ev.itep (by omega) ?_)
    have hd : (l.getD i 0).toNat = c := by omega
    by_cases d : (v.getD c z54).f0 = 0
    · have e : kl v l (m + 1) i acc = ([], false) := by show (if _ then _ else _) = _; rw [hd, if_pos d]
      rw [e]; exact Ev.itep d (Ev.now _)
    · have e : kl v l (m + 1) i acc = kl v l m (i + 1) (acc ++ [v.getD c z54]) := by show (if _ then _ else _) = _; rw [hd, if_neg d]
      rw [e]
      exact Ev.iten d (Ev.itep (by omega) (ih (i + 1) (by omega) _ (by simp only [List.length_append, List.length_singleton]; omega)))
end
def ky (r : S43) (l : List Int) : List S54 × Bool := kl r.f0 l l.length 0 []
section
variable {cols : List S69} {rs : List S43} {l : List Int}
theorem ky_cost (g : TG cols rs l) (i : Nat) (hi : i < rs.length) : Ev (fun k => join_key.f k (rs.getD i z43).f0 l) (ky (rs.getD i z43) l) := key_cost (g.rows i hi).1 g.l10 g.ix l.length 0 (by omega) [] (Nat.le_refl _)
theorem ky_ref (g : TG cols rs l) (i : Nat) (hi : i < rs.length) : Ev (fun k => peristyleref8_key.f k (rs.getD i z43).f0 l) (ky (rs.getD i z43) l) := key_ref (g.rows i hi).1 g.l10 g.ix l.length 0 (by omega) [] (Nat.le_refl _)
theorem ky_ok (g : TG cols rs l) (i : Nat) (hi : i < rs.length) : KG (ky (rs.getD i z43) l).1 := kl_ok (g.rows i hi).1 (g.rows i hi).2 g.l10 g.ix l.length 0 (by omega) [] (Nat.le_refl _) (fun x hx => by cases hx)
def ks (rs : List S43) (l : List Int) : Nat → Nat → List (List S54)
  | 0, _ => []
  | m + 1, i => if (ky (rs.getD i z43) l).2 = true then (ky (rs.getD i z43) l).1 :: ks rs l m (i + 1) else ks rs l m (i + 1)
theorem keys_l0 (g : TG cols rs l) : ∀ m i : Nat, i + m = rs.length → ∀ acc : List (List S54), acc.length ≤ i → Ev (fun k => peristyleref8_keys.l0 k l acc rs rs.length i) (acc ++ ks rs l m i) := by
  have h2 := g.r2000
  intro m
  induction m with
  | zero => intro i hi acc h; exact Ev.step (fun k => peristyleref8_keys.l0.eq_2 ..) (Ev.iten (by omega) (Ev.cast (Ev.now _) (by simp [ks])))
  | succ m ih =>
    intro i hi acc h
    refine Ev.step (fun k => peristyleref8_keys.l0.eq_2 ..) (Ev.itep (by omega) (Ev.itep (by omega) (Ev.itep (by omega) ?_)))
    rw [rd43, wnext i (by omega)]
    refine Ev.bind (ky_ref g i (by omega)) ?_
    by_cases c : (ky (rs.getD i z43) l).2 = true
    · have e : ks rs l (m + 1) i = (ky (rs.getD i z43) l).1 :: ks rs l m (i + 1) := if_pos c
      rw [e]
      exact Ev.itep c (Ev.itep (by omega) (Ev.cast (ih (i + 1) (by omega) _ (by simp only [List.length_append, List.length_singleton]; omega)) (by simp)))
    · have e : ks rs l (m + 1) i = ks rs l m (i + 1) := if_neg c
      rw [e]
      exact Ev.iten c (ih (i + 1) (by omega) acc (by omega))
end
/-! The hash of a key, in both. -/
def HH (k : List S54) (p : Nat) : Nat := (cat k k.length 0).foldl stp (2166136261 ^^^ p)
theorem HH_lt (k : List S54) (p : Nat) (hp : p ≤ 5) : HH k p < 4294967296 := fold_lt _ _ (xor_lt32 2166136261 p (by omega) (by omega))
theorem hash_A {l : List S54} (h : KG l) (s : Nat) (hs : s ≤ 5) : Ev (fun k => join_hash.f k l (s : Int)) ((HH l s : Nat) : Int) := by
  have hx := xor_lt32 2166136261 s (by omega) (by omega)
  have hl := h.1
  have e1 : Go.bits .xor .u32 2166136261 (IntKind.u32.wrap (s : Int)) = ((2166136261 ^^^ s : Nat) : Int) := by
    have : IntKind.u32.wrap (s : Int) = (s : Int) := by rw [w32]; omega
    rw [this]; exact xor32 2166136261 s (by omega) (by omega)
  have hc := cat_len l h.at_ l.length 0 (by omega)
  have hz : (⟨(cat l l.length 0).toArray⟩ : ByteArray).size = (cat l l.length 0).length := by rw [size_len]
  refine Ev.congr (fun k => join_hash.f.eq_1 ..) (Ev.bind (a := ⟨(cat l l.length 0).toArray⟩) ?_ (Ev.itep (by rw [hz]; omega) ?_))
  · exact text_l0 l hl h.at_ l.length 0 (by omega) [] (by simp)
  · rw [e1]
    exact hash_l0 ⟨(cat l l.length 0).toArray⟩ (by rw [hz]; omega) _ 0 (Nat.zero_add _) _ hx
theorem hash_B {l : List S54} (h : KG l) (s : Nat) (hs : s ≤ 5) : Ev (fun k => peristyleref8_hash.f k l (s : Int)) ((HH l s : Nat) : Int) := by
  have hx := xor_lt32 2166136261 s (by omega) (by omega)
  have e2 : Go.bits .xor .i64 2166136261 (s : Int) = ((2166136261 ^^^ s : Nat) : Int) := xor64 2166136261 s (by omega) (by omega)
  refine Ev.congr (fun k => peristyleref8_hash.f.eq_1 ..) ?_
  rw [e2]
  exact hash_ref l h.1 h.at_ l.length 0 (by omega) _ hx
theorem ixok (b : Int) (L : Nat) (hb : b = 8 * L) (h0 : 0 < b) (h1 : b ≤ 1000000) (r : Nat) : 0 ≤ wrap64 (Int.tdiv (Int.tmod (r : Int) b) 8) ∧ wrap64 (Int.tdiv (Int.tmod (r : Int) b) 8) < L ∧ 0 ≤ Int.tmod (Int.tmod (r : Int) b) 8 := by
  rw [Int.tmod_eq_emod_of_nonneg (Int.natCast_nonneg r)]
  have m0 := Int.emod_nonneg (r : Int) (by omega : b ≠ 0)
  have m1 := Int.emod_lt_of_pos (r : Int) h0
  generalize (r : Int) % b = n at m0 m1 ⊢
  rw [Int.tdiv_eq_ediv_of_nonneg m0, Int.tmod_eq_emod_of_nonneg m0]
  unfold wrap64
  omega

/-! The making of a filter, in both. -/
def up (b : Int) (x : List Int) (r : Nat) : List Int := x.set ((wrap64 (Int.tdiv (Int.tmod (r : Int) b) 8)) : Int).toNat (Go.bits .or .u8 (rd x (wrap64 (Int.tdiv (Int.tmod (r : Int) b) 8))) (shl .u8 1 (Int.tmod (Int.tmod (r : Int) b) 8)))
theorem up_len (b : Int) (x : List Int) (r : Nat) : (up b x r).length = x.length := List.length_set ..
theorem rdL4 (xs : List (List S54)) (i : Nat) : rd_L4 xs (i : Int) = xs.getD i [] := by simp [rd_L4]
theorem ks_len (rs : List S43) (l : List Int) : ∀ m i, (ks rs l m i).length ≤ m
  | 0, _ => Nat.le_refl _
  | m + 1, i => by
    have := ks_len rs l m (i + 1)
    unfold ks
    by_cases c : (ky (rs.getD i z43) l).2 = true
    · rw [if_pos c]; simp only [List.length_cons]; omega
    · rw [if_neg c]; omega
theorem fo_off {α : Type} {h : Nat → Option (List Int × Int × Int)} {P} (l : List Int) (b : Int) (c : Nat) (hb0 : 0 < b) (hc : c ≤ 5) (K : List S54) (hK : KG K) (rs : List S43) (n i : Int) (x : List Int) (H : Two (fun k => join_FilterOf.l0 k l b (c : Int) rs n (wrap64 (i + 1)) x (c : Int)) h P) : ∀ m p : Nat, p + m = c → Two (fun k => join_FilterOf.l1 k l b (c : Int) K false rs n i (c : Int) (p : Int) x (c : Int)) h P := by
  intro m
  induction m with
  | zero => intro p hp; exact Two.stepL (fun k => join_FilterOf.l1.eq_2 ..) (Two.leftn (by omega) H)
  | succ m ih =>
    intro p hp
    refine Two.stepL (fun k => join_FilterOf.l1.eq_2 ..) (Two.left (by omega) ?_)
    rw [wnext p (by omega)]
    exact Two.bindL (hash_A hK p (by omega)) (Two.leftn (by omega) (Two.leftn (by decide) (ih (p + 1) (by omega))))
theorem fo_on {P} (l : List Int) (b : Int) (L : Nat) (hb : b = 8 * L) (hb0 : 0 < b) (hb1 : b ≤ 1000000) (c : Nat) (hc : c ≤ 5) (K : List S54) (hK : KG K) (rs : List S43) (n i : Int) (S : List (List S54)) (sn j : Int) (H : ∀ x : List Int, x.length = L → Two (fun k => join_FilterOf.l0 k l b (c : Int) rs n (wrap64 (i + 1)) x (c : Int)) (fun k => peristyleref8_FilterOf.l0 k b (c : Int) S sn (wrap64 (j + 1)) x (c : Int)) P) : ∀ m p : Nat, p + m = c → ∀ x : List Int, x.length = L → Two (fun k => join_FilterOf.l1 k l b (c : Int) K true rs n i (c : Int) (p : Int) x (c : Int)) (fun k => peristyleref8_FilterOf.l1 k b (c : Int) K S sn j (c : Int) (p : Int) x (c : Int)) P := by
  intro m
  induction m with
  | zero => intro p hp x hx; exact Two.step (fun k => join_FilterOf.l1.eq_2 ..) (fun k => peristyleref8_FilterOf.l1.eq_2 ..) (Two.not (by omega) (by omega) (H x hx))
  | succ m ih =>
    intro p hp x hx
    refine Two.step (fun k => join_FilterOf.l1.eq_2 ..) (fun k => peristyleref8_FilterOf.l1.eq_2 ..) (Two.both (by omega) (by omega) ?_)
    rw [wnext p (by omega)]
    obtain ⟨h1, h2, h3⟩ := ixok b L hb hb0 hb1 (HH K p)
    refine Two.bindEv (hash_A hK p (by omega)) (hash_B hK p (by omega)) (Two.not (by omega) (by omega) (Two.left rfl (Two.both h1 h1 (Two.both (by rw [hx]; exact h2) (by rw [hx]; exact h2) (Two.both h3 h3 ?_)))))
    exact ih (p + 1) (by omega) (up b x (HH K p)) (by rw [up_len]; exact hx)
theorem fo_rows {cols : List S69} {rs : List S43} {l : List Int} (g : TG cols rs l) (b : Int) (L : Nat) (hb : b = 8 * L) (hb0 : 0 < b) (hb1 : b ≤ 1000000) (c : Nat) (hc : c ≤ 5) (S : List (List S54)) (hS : S.length ≤ 2000) : ∀ m i : Nat, i + m = rs.length → ∀ pre : List (List S54), S = pre ++ ks rs l m i → ∀ x : List Int, x.length = L → Two (fun k => join_FilterOf.l0 k l b (c : Int) rs rs.length (i : Int) x (c : Int)) (fun k => peristyleref8_FilterOf.l0 k b (c : Int) S S.length (pre.length : Int) x (c : Int)) (fun r => r.1.length = L) := by
  have h2 := g.r2000
  intro m
  induction m with
  | zero =>
    intro i hi pre hpre x hx
    have : S.length = pre.length := by rw [hpre]; simp [ks]
    exact Two.step (fun k => join_FilterOf.l0.eq_2 ..) (fun k => peristyleref8_FilterOf.l0.eq_2 ..) (Two.not (by omega) (by omega) (Two.ret _ hx))
  | succ m ih =>
    intro i hi pre hpre x hx
    have hi' : i < rs.length := by omega
    have hK := ky_ok g i hi'
    by_cases d : (ky (rs.getD i z43) l).2 = true
    · have e : ks rs l (m + 1) i = (ky (rs.getD i z43) l).1 :: ks rs l m (i + 1) := if_pos d
      rw [e] at hpre
      have hlen : S.length = pre.length + 1 + (ks rs l m (i + 1)).length := by rw [hpre]; simp; omega
      have hat : S.getD pre.length [] = (ky (rs.getD i z43) l).1 := by rw [hpre]; simp
      refine Two.step (fun k => join_FilterOf.l0.eq_2 ..) (fun k => peristyleref8_FilterOf.l0.eq_2 ..) (Two.both (by omega) (by omega) (Two.both (by omega) (by omega) (Two.both (by omega) (by omega) ?_)))
      rw [rd43, rdL4, hat]
      refine Two.bindL (ky_cost g i hi') ?_
      rw [d]
      refine fo_on l b L hb hb0 hb1 c hc _ hK rs _ _ S _ _ (fun y hy => ?_) c 0 (by omega) x hx
      rw [wnext i (by omega), wnext pre.length (by omega)]
      have := ih (i + 1) (by omega) (pre ++ [(ky (rs.getD i z43) l).1]) (by rw [hpre]; simp) y hy
      simpa using this
    · have e : ks rs l (m + 1) i = ks rs l m (i + 1) := if_neg d
      rw [e] at hpre
      refine Two.stepL (fun k => join_FilterOf.l0.eq_2 ..) (Two.left (by omega) (Two.left (by omega) (Two.left (by omega) ?_)))
      rw [rd43]
      refine Two.bindL (ky_cost g i hi') ?_
      have d' : (ky (rs.getD i z43) l).2 = false := by simpa using d
      rw [d']
      refine fo_off (α := Unit) l b c hb0 hc _ hK rs _ _ x ?_ c 0 (by omega)
      rw [wnext i (by omega)]
      exact ih (i + 1) (by omega) pre hpre x hx
theorem keys_ev {cols : List S69} {rs : List S43} {l : List Int} (g : TG cols rs l) : Ev (fun k => peristyleref8_keys.f k cols rs l) (ks rs l rs.length 0) :=
  Ev.congr (fun k => peristyleref8_keys.f.eq_1 ..) (Ev.cast (keys_l0 g rs.length 0 (by omega) [] (Nat.le_refl _)) (by simp))
theorem fo_two (cols : List S69) (hn : ∀ j, j < cols.length → (cols.getD j z69).f0.size ≤ 9223372036854775807) (rs : List S43) (l : List Int) (b c : Int) : Two (fun k => join_FilterOf.f k cols rs l b c) (fun k => peristyleref8_FilterOf.f k cols rs l b c) (fun r => r.1.length ≤ 8192) := by
  have nil : ∀ x : Int × Int, (([] : List Int), x).1.length ≤ 8192 := fun _ => Nat.zero_le _
  have bad : Two (fun k => join_FilterOf.j0 k l b c true cols rs) (fun k => peristyleref8_FilterOf.j0 k l b c true cols rs) (fun r => r.1.length ≤ 8192) := Two.step (fun k => join_FilterOf.j0.eq_2 ..) (fun k => peristyleref8_FilterOf.j0.eq_2 ..) (Two.both rfl rfl (Two.ret _ (nil _)))
  refine Two.congr (fun k => join_FilterOf.f.eq_1 ..) (fun k => peristyleref8_FilterOf.f.eq_1 ..) (Two.bind (cc_two cols hn rs l) (fun r h => Two.ite Iff.rfl (fun c0 => ?_) (fun _ => Two.ret _ (nil _))))
  have g := h c0
  simp only [in_eq, within_eq, Option.bind_some]
  refine Two.ite Iff.rfl (fun c1 => Two.ite Iff.rfl (fun c2 => ?_) (fun _ => bad)) (fun _ => bad)
  have c1 := of_decide_eq_true c1
  by_cases c3 : 1 ≤ c ∧ c ≤ 5
  · rw [decide_eq_true c3]
    obtain ⟨p, rfl⟩ := Int.eq_ofNat_of_zero_le (by omega : 0 ≤ c)
    obtain ⟨L, hL⟩ : ∃ L : Nat, b = 8 * L := by
      rw [Int.tmod_eq_emod_of_nonneg (by omega)] at c2
      exact ⟨(b / 8).toNat, by omega⟩
    have hw : wrap64 (Int.tdiv b 8) = (L : Int) := by
      rw [Int.tdiv_eq_ediv_of_nonneg (by omega)]; unfold wrap64; omega
    refine Two.step (fun k => join_FilterOf.j0.eq_2 ..) (fun k => peristyleref8_FilterOf.j0.eq_2 ..) (Two.not (by simp) (by simp) ?_)
    rw [hw]
    refine Two.both (by omega) (by omega) (Two.both (by omega) (by omega) (Two.bindR (keys_ev g) ?_))
    have := ks_len rs l rs.length 0
    have h2 := g.r2000
    refine (fo_rows g b L hL (by omega) (by omega) p (by omega) (ks rs l rs.length 0) (by omega) rs.length 0 (by omega) [] rfl (List.replicate L 0) (List.length_replicate ..)).imp (fun r hr => by omega)
  · rw [decide_eq_false c3]
    exact bad
/-! The keeping of rows, in both. -/
def bv (x : List Int) (r : Nat) : Int := Go.bits .and .u8 (shr .u8 (rd x (wrap64 (Int.tdiv (Int.tmod (r : Int) (wrap64 (8 * (x.length : Int)))) 8))) (Int.tmod (Int.tmod (r : Int) (wrap64 (8 * (x.length : Int)))) 8)) 1
theorem and_one (x : Int) : Go.bits .and .u8 x 1 = 0 ∨ Go.bits .and .u8 x 1 = 1 := by
  have h : ∀ v : BitVec 8, IntKind.u8.wrap ((v &&& BitVec.ofInt 8 1).toNat : Int) = 0 ∨ IntKind.u8.wrap ((v &&& BitVec.ofInt 8 1).toNat : Int) = 1 := by decide +kernel
  exact h (BitVec.ofInt 8 x)
def pv (x : List Int) (K : List S54) : Nat → Nat → Bool
  | 0, _ => true
  | m + 1, p => if bv x (HH K p) = 0 then false else pv x K m (p + 1)
structure BG (x : List Int) (c : Nat) : Prop where
  l1 : 1 ≤ x.length
  l2 : x.length ≤ 8192
  c5 : c ≤ 5
theorem BG.w {x : List Int} {c : Nat} (g : BG x c) : wrap64 (8 * (x.length : Int)) = 8 * (x.length : Int) := by
  have := g.l2; unfold wrap64; omega
theorem BG.ix {x : List Int} {c : Nat} (g : BG x c) (r : Nat) : 0 ≤ wrap64 (Int.tdiv (Int.tmod (r : Int) (wrap64 (8 * (x.length : Int)))) 8) ∧ wrap64 (Int.tdiv (Int.tmod (r : Int) (wrap64 (8 * (x.length : Int)))) 8) < x.length ∧ 0 ≤ Int.tmod (Int.tmod (r : Int) (wrap64 (8 * (x.length : Int)))) 8 := by
  have h1 := g.l1
  have h2 := g.l2
  rw [g.w]
  exact ixok (8 * (x.length : Int)) x.length rfl (by omega) (by omega) r
theorem pv_ev {x : List Int} {c : Nat} (g : BG x c) (K : List S54) (hK : KG K) : ∀ m p : Nat, p + m = c → Ev (fun k => peristyleref8_passes.l0 k K (c : Int) (p : Int) x (c : Int)) (pv x K m p) := by
  have h1 := g.l1
  have h5 := g.c5
  intro m
  induction m with
  | zero => intro p hp; exact Ev.step (fun k => peristyleref8_passes.l0.eq_2 ..) (Ev.iten (by omega) (Ev.now _))
  | succ m ih =>
    intro p hp
    obtain ⟨a1, a2, a3⟩ := g.ix (HH K p)
    refine Ev.step (fun k => peristyleref8_passes.l0.eq_2 ..) (Ev.itep (by omega) ?_)
    rw [wnext p (by omega)]
    refine Ev.bind (hash_B hK p (by omega)) (Ev.iten (by rw [g.w]; omega) (Ev.itep a1 (Ev.itep a2 (Ev.itep a3 ?_))))
    exact Ev.ite (fun _ => Ev.now _) (fun _ => ih (p + 1) (by omega))
theorem kp_off {h : Nat → Option (List Int × Int)} {P} {x : List Int} {c : Nat} (g : BG x c) (l y : List Int) (z : Int) (K : List S54) (hK : KG K) (rs : List S43) (n i : Int) (H : Two (fun k => join_Kept.l0 k l y rs n (wrap64 (i + 1)) x (c : Int)) h P) : ∀ m p : Nat, p + m = c → Two (fun k => join_Kept.l1 k l y z K false rs n i (c : Int) (p : Int) x (c : Int)) h P := by
  have h1 := g.l1
  have h5 := g.c5
  intro m
  induction m with
  | zero => intro p hp; exact Two.stepL (fun k => join_Kept.l1.eq_2 ..) (Two.leftn (by omega) (Two.leftn (by decide) H))
  | succ m ih =>
    intro p hp
    refine Two.stepL (fun k => join_Kept.l1.eq_2 ..) (Two.left (by omega) ?_)
    rw [wnext p (by omega)]
    exact Two.bindL (hash_A hK p (by omega)) (Two.leftn (by rw [g.w]; omega) (Two.leftn (by decide) (ih (p + 1) (by omega))))
theorem kp_on {h : Nat → Option (List Int × Int)} {P} {x : List Int} {c : Nat} (g : BG x c) (l y : List Int) (hy : y.length ≤ 2000) (z : Int) (K : List S54) (hK : KG K) (rs : List S43) (n i : Int) : ∀ m p : Nat, p + m = c → (pv x K m p = true → Two (fun k => join_Kept.l0 k l (y ++ [z]) rs n (wrap64 (i + 1)) x (c : Int)) h P) → (pv x K m p = false → Two (fun k => join_Kept.l0 k l y rs n (wrap64 (i + 1)) x (c : Int)) h P) → Two (fun k => join_Kept.l1 k l y z K true rs n i (c : Int) (p : Int) x (c : Int)) h P := by
  have h1 := g.l1
  have h5 := g.c5
  intro m
  induction m with
  | zero => intro p hp A B; exact Two.stepL (fun k => join_Kept.l1.eq_2 ..) (Two.leftn (by omega) (Two.left rfl (Two.left (by omega) (A rfl))))
  | succ m ih =>
    intro p hp A B
    obtain ⟨a1, a2, a3⟩ := g.ix (HH K p)
    refine Two.stepL (fun k => join_Kept.l1.eq_2 ..) (Two.left (by omega) ?_)
    rw [wnext p (by omega)]
    refine Two.bindL (hash_A hK p (by omega)) (Two.leftn (by rw [g.w]; omega) (Two.left rfl (Two.left a1 (Two.left a2 (Two.left a3 ?_)))))
    show Two (fun k => join_Kept.l1 k l y z K (bv x (HH K p) == 1) rs n i (c : Int) ((p + 1 : Nat) : Int) x (c : Int)) h P
    rcases and_one (shr .u8 (rd x (wrap64 (Int.tdiv (Int.tmod ((HH K p : Nat) : Int) (wrap64 (8 * (x.length : Int)))) 8))) (Int.tmod (Int.tmod ((HH K p : Nat) : Int) (wrap64 (8 * (x.length : Int)))) 8)) with e | e
    · have e : bv x (HH K p) = 0 := e
      have q : pv x K (m + 1) p = false := if_pos e
      rw [e]
      exact kp_off g l y z K hK rs n i (B q) m (p + 1) (by omega)
    · have e : bv x (HH K p) = 1 := e
      have q : pv x K (m + 1) p = pv x K m (p + 1) := if_neg (by rw [e]; decide)
      rw [e]
      exact ih (p + 1) (by omega) (fun u => A (q.trans u)) (fun u => B (q.trans u))
theorem kp_rows {cols : List S69} {rs : List S43} {l : List Int} (g : TG cols rs l) {x : List Int} {c : Nat} (b : BG x c) : ∀ m i : Nat, i + m = rs.length → ∀ y : List Int, y.length ≤ i → Two (fun k => join_Kept.l0 k l y rs rs.length (i : Int) x (c : Int)) (fun k => peristyleref8_Kept.l0 k l y rs rs.length (i : Int) x (c : Int)) (fun r => r.1.length ≤ 2000) := by
  have h2 := g.r2000
  intro m
  induction m with
  | zero => intro i hi y hy; exact Two.step (fun k => join_Kept.l0.eq_2 ..) (fun k => peristyleref8_Kept.l0.eq_2 ..) (Two.not (by omega) (by omega) (Two.ret _ (by show y.length ≤ 2000; omega)))
  | succ m ih =>
    intro i hi y hy
    have hi' : i < rs.length := by omega
    have hK := ky_ok g i hi'
    have A := ih (i + 1) (by omega) (y ++ [(i : Int)]) (by simp only [List.length_append, List.length_singleton]; omega)
    have B := ih (i + 1) (by omega) y (by omega)
    refine Two.step (fun k => join_Kept.l0.eq_2 ..) (fun k => peristyleref8_Kept.l0.eq_2 ..) (Two.both (by omega) (by omega) (Two.both (by omega) (by omega) (Two.both (by omega) (by omega) ?_)))
    rw [rd43]
    refine Two.bindEv (ky_cost g i hi') (ky_ref g i hi') ?_
    rw [wnext i (by omega)]
    by_cases d : (ky (rs.getD i z43) l).2 = true
    · rw [d]
      refine Two.right rfl (Two.bindR (Ev.congr (fun k => peristyleref8_passes.f.eq_1 ..) (pv_ev b _ hK c 0 (by omega))) ?_)
      refine kp_on b l y (by omega) _ _ hK rs _ _ c 0 (by omega) (fun u => ?_) (fun u => ?_)
      · rw [wnext i (by omega)]; exact Two.right u (Two.right (by omega) A)
      · rw [wnext i (by omega)]; exact Two.rightn (by rw [u]; decide) B
    · have d' : (ky (rs.getD i z43) l).2 = false := by simpa using d
      rw [d']
      refine Two.rightn (by decide) (kp_off b l y _ _ hK rs _ _ ?_ c 0 (by omega))
      rw [wnext i (by omega)]; exact B
theorem kp_two (cols : List S69) (hn : ∀ j, j < cols.length → (cols.getD j z69).f0.size ≤ 9223372036854775807) (rs : List S43) (l x : List Int) (c : Int) : Two (fun k => join_Kept.f k cols rs l x c) (fun k => peristyleref8_Kept.f k cols rs l x c) (fun r => r.1.length ≤ 2000) := by
  have nil : ∀ x : Int, (([] : List Int), x).1.length ≤ 2000 := fun _ => Nat.zero_le _
  refine Two.congr (fun k => join_Kept.f.eq_1 ..) (fun k => peristyleref8_Kept.f.eq_1 ..) (Two.bind (cc_two cols hn rs l) (fun r h => Two.ite Iff.rfl (fun c0 => ?_) (fun _ => Two.ret _ (nil _))))
  have g := h c0
  simp only [in_eq, within_eq, Option.bind_some]
  refine Two.ite Iff.rfl (fun c1 => Two.ite Iff.rfl (fun c2 => ?_) (fun _ => Two.ret _ (nil _))) (fun _ => Two.ret _ (nil _))
  have c1 := of_decide_eq_true c1
  have c2 := of_decide_eq_true c2
  obtain ⟨p, rfl⟩ := Int.eq_ofNat_of_zero_le (by omega : 0 ≤ c)
  exact kp_rows g (⟨by omega, by omega, by omega⟩ : BG x p) rs.length 0 (by omega) [] (Nat.le_refl _)
theorem eqb_l0 (x : List Int) (hx : x.length ≤ 1000000) : ∀ m i : Nat, i + m = x.length → Ev (fun k => slices_Equal_byte_byte.l0 k x x x.length (i : Int)) true := by
  intro m
  induction m with
  | zero => intro i hi; exact Ev.step (fun k => slices_Equal_byte_byte.l0.eq_2 ..) (Ev.iten (by omega) (Ev.now _))
  | succ m ih =>
    intro i hi
    refine Ev.step (fun k => slices_Equal_byte_byte.l0.eq_2 ..) (Ev.itep (by omega) (Ev.itep (by omega) (Ev.itep (by omega) (Ev.itep (by omega) (Ev.itep rfl ?_)))))
    rw [wnext i (by omega)]; exact ih (i + 1) (by omega)
theorem eqi_l0 (x : List Int) (hx : x.length ≤ 1000000) : ∀ m i : Nat, i + m = x.length → Ev (fun k => slices_Equal_int_int.l0 k x x x.length (i : Int)) true := by
  intro m
  induction m with
  | zero => intro i hi; exact Ev.step (fun k => slices_Equal_int_int.l0.eq_2 ..) (Ev.iten (by omega) (Ev.now _))
  | succ m ih =>
    intro i hi
    refine Ev.step (fun k => slices_Equal_int_int.l0.eq_2 ..) (Ev.itep (by omega) (Ev.itep (by omega) (Ev.itep (by omega) (Ev.itep (by omega) (Ev.itep rfl ?_)))))
    rw [wnext i (by omega)]; exact ih (i + 1) (by omega)
theorem same_ev (x : List Int) (hx : x.length ≤ 1000000) (a : Int) : Ev (fun k => peristyleref8_SameFilter.f k x a x a) true :=
  Ev.congr (fun k => peristyleref8_SameFilter.f.eq_1 ..) (Ev.bind (Ev.congr (fun k => slices_Equal_byte_byte.f.eq_1 ..) (Ev.itep rfl (eqb_l0 x hx x.length 0 (by omega)))) (Ev.itep rfl (Ev.cast (Ev.now _) (by simp))))
theorem law_of (hA : ∃ K, ∀ k, K ≤ k → peristylelaw8_awake.f k = some true) (cols : List S69) (hn : ∀ j, j < cols.length → (cols.getD j z69).f0.size ≤ 9223372036854775807) (rs : List S43) (l : List Int) (a2 a3 : Int) (x : List Int) (a : Int) : ∃ k, peristylelaw8_JoinFiltersMatchSpec.f k cols rs l a2 a3 x a = some true := by
  have A : Ev (fun k => peristylelaw8_awake.f k) true := hA
  obtain ⟨r, r1, r2, hr⟩ := (fo_two cols hn rs l a2 a3).evs
  obtain ⟨s, s1, s2, hs⟩ := (kp_two cols hn rs l x a).evs
  have J : Ev (fun k => peristylelaw8_JoinFiltersMatchSpec.j0 k l false cols rs x a) true :=
    Ev.step (fun k => peristylelaw8_JoinFiltersMatchSpec.j0.eq_2 ..) (Ev.iten (by decide) (Ev.bind s1 (Ev.bind s2 (Ev.itep rfl (Ev.bind (Ev.congr (fun k => slices_Equal_int_int.f.eq_1 ..) (Ev.itep rfl (eqi_l0 s.1 (by omega) s.1.length 0 (by omega)))) (Ev.itep rfl (Ev.bind A (Ev.now _))))))))
  have : Ev (fun k => peristylelaw8_JoinFiltersMatchSpec.f k cols rs l a2 a3 x a) true :=
    Ev.congr (fun k => peristylelaw8_JoinFiltersMatchSpec.f.eq_1 ..) (Ev.bind r1 (Ev.bind r2 (Ev.itep rfl (Ev.bind (same_ev r.1 (by omega) r.2.1) J))))
  obtain ⟨K, hK⟩ := this
  exact ⟨K, hK K (Nat.le_refl _)⟩

theorem awake100 : peristylelaw8_awake.f 100 = some true := by kernel_rfl
theorem awakeEv : ∃ K, ∀ k, K ≤ k → peristylelaw8_awake.f k = some true := ⟨100, fun k hk => at_rounds peristylelaw8_awake.mono hk awake100⟩
theorem JoinFiltersMatchSpec : ∀ (x0 : S25) (l1 : List Int) (a2 : Int) (a3 : Int) (x4 : S29), ok25 x0 → l1.length ≤ 9223372036854775807 → (∀ z1 ∈ l1, (Lit.int .i64 z1).wf = true) → (Lit.int .i64 a2).wf = true → (Lit.int .i64 a3).wf = true → ok29 x4 → ∃ k, peristylelaw8_JoinFiltersMatchSpec.f k x0.f0 x0.f1 l1 a2 a3 x4.f0 x4.f1 = some true := by
  intro x0 l1 a2 a3 x4 h0 _ _ _ _ _
  refine law_of awakeEv x0.f0 (fun j hj => ?_) x0.f1 l1 a2 a3 x4.f0 x4.f1
  have := (h0.1 (x0.f0.getD j z69) (by rw [List.getD_eq_getElem?_getD, List.getElem?_eq_getElem hj]; exact List.getElem_mem hj)).1
  unfold maxLen at this; omega
end Go.Proofs.YtgdbkhbaekeijaaDoor.F.Pure
