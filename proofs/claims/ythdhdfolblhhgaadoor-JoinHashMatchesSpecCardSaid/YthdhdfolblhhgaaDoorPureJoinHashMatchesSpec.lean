/- The printed form of the law JoinHashMatchesSpec is true at every input: both packages check values alike, write the same texts, and come to the same hash of them, a number below 2 to the 32nd; conditions: none beside those that the given row itself bears. -/
import Derived.Test.YthdhdfolblhhgaaDoorHx5
import Derived.Test.YthdhdfolblhhgaaDoorHo
import Derived.Lib.ItoaLen
import Derived.Lib.SplitLaws
set_option linter.unusedVariables false
set_option linter.unusedSimpArgs false
namespace Go.Proofs.YthdhdfolblhhgaaDoor.H.Pure
open Go.RowKit Go.Proofs.YthdhdfolblhhgaaDoor.H Go.Proofs.YthdhdfolblhhgaaDoorW.PrintWords Go.Proofs.YthdhdfolblhhgaaDoorW.PrintLast Go.Proofs.YthdhdfolblhhgaaDoorW.PrintMore

/-! Two printed functions side by side. -/
def Two {α : Type} (g h : Nat → Option α) (P : α → Prop) : Prop := ∃ r, (∃ K, ∀ k, K ≤ k → g k = some r ∧ h k = some r) ∧ P r
theorem Two.ret {α : Type} {P : α → Prop} (r : α) (h : P r) : Two (fun _ => some r) (fun _ => some r) P := ⟨r, ⟨0, fun _ _ => ⟨rfl, rfl⟩⟩, h⟩
theorem Two.step {α : Type} {g h g' h' : Nat → Option α} {P : α → Prop} (e : ∀ k, g (k + 1) = g' k) (e' : ∀ k, h (k + 1) = h' k) (H : Two g' h' P) : Two g h P := by
  obtain ⟨r, ⟨K, hK⟩, hP⟩ := H
  refine ⟨r, ⟨K + 1, fun k hk => ?_⟩, hP⟩
  obtain ⟨j, rfl⟩ : ∃ j, k = j + 1 := ⟨k - 1, by omega⟩
  rw [e, e']; exact hK j (by omega)
theorem Two.congr {α : Type} {g h g' h' : Nat → Option α} {P : α → Prop} (e : ∀ k, g k = g' k) (e' : ∀ k, h k = h' k) (H : Two g' h' P) : Two g h P := by
  obtain rfl : g = g' := funext e
  obtain rfl : h = h' := funext e'
  exact H
theorem Two.bind {α β : Type} {g h : Nat → Option α} {f f' : Nat → α → Option β} {P : α → Prop} {Q : β → Prop} (H : Two g h P) (k : ∀ a, P a → Two (fun n => f n a) (fun n => f' n a) Q) : Two (fun n => (g n).bind (f n)) (fun n => (h n).bind (f' n)) Q := by
  obtain ⟨a, ⟨K, hK⟩, hP⟩ := H
  obtain ⟨r, ⟨K', hK'⟩, hQ⟩ := k a hP
  refine ⟨r, ⟨K + K', fun n hn => ?_⟩, hQ⟩
  show (g n).bind (f n) = some r ∧ (h n).bind (f' n) = some r
  rw [(hK n (by omega)).1, (hK n (by omega)).2]
  exact hK' n (by omega)
theorem Two.ite {α : Type} {c c' : Prop} [Decidable c] [Decidable c'] {g h g' h' : Nat → Option α} {P : α → Prop} (hc : c ↔ c') (H : c → Two g h P) (H' : ¬ c → Two g' h' P) : Two (fun k => if c then g k else g' k) (fun k => if c' then h k else h' k) P := by
  by_cases x : c
  · have x' := hc.1 x
    simp only [if_pos x, if_pos x']; exact H x
  · have x' : ¬ c' := fun y => x (hc.2 y)
    simp only [if_neg x, if_neg x']; exact H' x
theorem Two.left {α : Type} {c : Prop} [Decidable c] {g h g' : Nat → Option α} {P : α → Prop} (x : c) (H : Two g h P) : Two (fun k => if c then g k else g' k) h P := by
  simp only [if_pos x]; exact H
theorem Two.right {α : Type} {c : Prop} [Decidable c] {g h g' : Nat → Option α} {P : α → Prop} (x : c) (H : Two h g P) : Two h (fun k => if c then g k else g' k) P := by
  simp only [if_pos x]; exact H
theorem Two.both {α : Type} {c c' : Prop} [Decidable c] [Decidable c'] {g h g' h' : Nat → Option α} {P : α → Prop} (x : c) (x' : c') (H : Two g h P) : Two (fun k => if c then g k else g' k) (fun k => if c' then h k else h' k) P := by
  simp only [if_pos x, if_pos x']; exact H
theorem Two.not {α : Type} {c c' : Prop} [Decidable c] [Decidable c'] {g h g' h' : Nat → Option α} {P : α → Prop} (x : ¬ c) (x' : ¬ c') (H : Two g' h' P) : Two (fun k => if c then g k else g' k) (fun k => if c' then h k else h' k) P := by
  simp only [if_neg x, if_neg x']; exact H
theorem Two.imp {α : Type} {g h : Nat → Option α} {P Q : α → Prop} (H : Two g h P) (i : ∀ r, P r → Q r) : Two g h Q := by
  obtain ⟨r, hK, hP⟩ := H; exact ⟨r, hK, i r hP⟩

theorem Two.ofEv {α : Type} {g h : Nat → Option α} {r : α} (A : Ev g r) (B : Ev h r) : Two g h (fun x => x = r) := by
  obtain ⟨K, hK⟩ := A
  obtain ⟨K', hK'⟩ := B
  exact ⟨r, ⟨K + K', fun n hn => ⟨hK n (by omega), hK' n (by omega)⟩⟩, rfl⟩
theorem Two.bindEv {α β : Type} {g h : Nat → Option α} {f f' : Nat → α → Option β} {a : α} {Q : β → Prop} (A : Ev g a) (B : Ev h a) (k : Two (fun n => f n a) (fun n => f' n a) Q) : Two (fun n => (g n).bind (f n)) (fun n => (h n).bind (f' n)) Q :=
  Two.bind (Two.ofEv A B) (fun x hx => by subst hx; exact k)
theorem Two.bindL {α β : Type} {g : Nat → Option α} {f : Nat → α → Option β} {h : Nat → Option β} {a : α} {Q : β → Prop} (A : Ev g a) (k : Two (fun n => f n a) h Q) : Two (fun n => (g n).bind (f n)) h Q := by
  obtain ⟨r, ⟨K, hK⟩, hQ⟩ := k
  obtain ⟨K', hK'⟩ := A
  refine ⟨r, ⟨K + K', fun n hn => ⟨?_, (hK n (by omega)).2⟩⟩, hQ⟩
  show (g n).bind (f n) = some r
  rw [hK' n (by omega)]; exact (hK n (by omega)).1
theorem Two.bindR {α β : Type} {g : Nat → Option α} {f : Nat → α → Option β} {h : Nat → Option β} {a : α} {Q : β → Prop} (A : Ev g a) (k : Two h (fun n => f n a) Q) : Two h (fun n => (g n).bind (f n)) Q := by
  obtain ⟨r, ⟨K, hK⟩, hQ⟩ := k
  obtain ⟨K', hK'⟩ := A
  refine ⟨r, ⟨K + K', fun n hn => ⟨(hK n (by omega)).1, ?_⟩⟩, hQ⟩
  show (g n).bind (f n) = some r
  rw [hK' n (by omega)]; exact (hK n (by omega)).2
theorem Two.evs {α : Type} {g h : Nat → Option α} {P : α → Prop} (H : Two g h P) : ∃ r, Ev g r ∧ Ev h r ∧ P r := by
  obtain ⟨r, ⟨K, hK⟩, p⟩ := H
  exact ⟨r, ⟨K, fun k hk => (hK k hk).1⟩, ⟨K, fun k hk => (hK k hk).2⟩, p⟩
theorem Ev.itep {α : Type} {c : Prop} [Decidable c] {g h : Nat → Option α} {r : α} (x : c) (H : Ev g r) : Ev (fun k => if c then g k else h k) r := by simp only [if_pos x]; exact H
theorem Ev.iten {α : Type} {c : Prop} [Decidable c] {g h : Nat → Option α} {r : α} (x : ¬ c) (H : Ev h r) : Ev (fun k => if c then g k else h k) r := by simp only [if_neg x]; exact H
theorem Ev.ite {α : Type} {c : Prop} [Decidable c] {g h : Nat → Option α} {r s : α} (H : c → Ev g r) (H' : ¬ c → Ev h s) : Ev (fun k => if c then g k else h k) (if c then r else s) := by
  by_cases x : c
  · simp only [if_pos x]; exact H x
  · simp only [if_neg x]; exact H' x
theorem Ev.cast {α : Type} {g : Nat → Option α} {r s : α} (H : Ev g r) (e : r = s) : Ev g s := e ▸ H
theorem wnext (n : Nat) (h : n < 9223372036854775807) : wrap64 ((n : Int) + 1) = ((n + 1 : Nat) : Int) := by unfold wrap64; omega
theorem wprev (n : Nat) (h0 : 0 < n) (h : n < 9223372036854775807) : wrap64 ((n : Int) - 1) = ((n - 1 : Nat) : Int) := by unfold wrap64; omega
theorem in_eq (a b c : Int) : kit_In.f a b c = some (decide (b ≤ a ∧ a ≤ c)) := by
  unfold kit_In.f; by_cases h : b ≤ a <;> simp [h]
theorem within_eq (a b c : Int) : peristyleref8_within.f a b c = some (decide (b ≤ a ∧ a ≤ c)) := by
  unfold peristyleref8_within.f; by_cases h : b ≤ a <;> simp [h]
theorem within1_eq (a b c : Int) : peristyleref1_within.f a b c = some (decide (b ≤ a ∧ a ≤ c)) := by
  unfold peristyleref1_within.f; by_cases h : b ≤ a <;> simp [h]
theorem range_eq (a b c : Int) : kit_Range.f a b c = some (if b ≤ a ∧ a ≤ c then 0 else 1) := by
  unfold kit_Range.f; rw [in_eq]; by_cases h : b ≤ a ∧ a ≤ c <;> simp [h]
theorem rd29 (xs : List S29) (i : Nat) : rd_T29 xs (i : Int) = xs.getD i z29 := by simp [rd_T29]
/-! Values. -/
theorem nil_iff (s : ByteArray) : s.toList = [] ↔ s.size = 0 := by
  rw [ByteArray.toList_eq, ← List.length_eq_zero_iff]
  exact Iff.rfl
def tx (s : ByteArray) : Nat → Nat → Int
  | 0, _ => 0
  | m + 1, i => if 32 ≤ bt s i ∧ bt s i ≤ 126 then tx s m (i + 1) else 3
def cv (v : S29) : Int :=
  if v.f0 = 0 then (if v.f1 = 0 ∧ v.f2.size = 0 then 0 else 3)
  else if v.f0 = 1 then (if v.f2.size = 0 then (if 0 ≤ v.f1 ∧ v.f1 ≤ 1 then 0 else 1) else 3)
  else if v.f0 = 2 then (if v.f2.size = 0 then (if -1000000000000000 ≤ v.f1 ∧ v.f1 ≤ 1000000000000000 then 0 else 1) else 3)
  else if v.f0 = 3 then (if v.f1 = 0 then (if 200 < v.f2.size then 2 else tx v.f2 v.f2.size 0) else 3) else 4
theorem tx_cost (s : ByteArray) (hs : s.size ≤ 200) (a b : Int) : ∀ m i : Nat, i + m = s.size → Ev (fun k => value_CheckValue.l0 k (s.size : Int) i a b s) (tx s m i) := by
  intro m
  induction m with
  | zero => intro i hi; exact Ev.step (fun k => value_CheckValue.l0.eq_2 ..) (Ev.iten (by omega) (Ev.now _))
  | succ m ih =>
    intro i hi
    have hr := bt_range s i
    have hw : wrap64 (bt s i) = bt s i := by unfold wrap64; omega
    refine Ev.step (fun k => value_CheckValue.l0.eq_2 ..) (Ev.itep (by omega) (Ev.itep (by omega) (Ev.itep (by omega) ?_)))
    simp only [hw, in_eq, Option.bind_some, wnext i (by omega)]
    refine Ev.cast (Ev.ite (fun _ => ih (i + 1) (by omega)) (fun _ => Ev.now _)) ?_
    simp only [decide_eq_true_eq]; rfl

theorem tx_ref (s : ByteArray) (hs : s.size ≤ 200) (a b : Int) : ∀ m i : Nat, i + m = s.size → Ev (fun k => peristyleref1_CheckValue.l0 k i a b s) (tx s m i) := by
  intro m
  induction m with
  | zero => intro i hi; exact Ev.step (fun k => peristyleref1_CheckValue.l0.eq_2 ..) (Ev.iten (by omega) (Ev.now _))
  | succ m ih =>
    intro i hi
    refine Ev.step (fun k => peristyleref1_CheckValue.l0.eq_2 ..) (Ev.itep (by omega) (Ev.itep (by omega) ?_))
    rw [wnext i (by omega)]
    show Ev _ (if 32 ≤ bt s i ∧ bt s i ≤ 126 then tx s m (i + 1) else 3)
    by_cases c : bt s i < 32
    · exact Ev.itep c (Ev.cast (Ev.now _) (if_neg (by omega)).symm)
    · refine Ev.iten c ?_
      by_cases d : bt s i > 126
      · exact Ev.itep d (Ev.cast (Ev.now _) (if_neg (by omega)).symm)
      · exact Ev.iten d (Ev.cast (ih (i + 1) (by omega)) (if_pos (by omega)).symm)
theorem cv_cost (v : S29) : Ev (fun k => value_CheckValue.f k v.f0 v.f1 v.f2) (cv v) := by
  obtain ⟨a, b, s⟩ := v
  refine Ev.congr (fun k => value_CheckValue.f.eq_1 ..) ?_
  unfold cv
  simp only
  have hn := nil_iff s
  by_cases h0 : a = 0
  · subst h0
    refine Ev.itep rfl (Ev.cast (r := if b = 0 then (if s.toList = [] then 0 else 3) else 3) (Ev.ite (fun _ => Ev.ite (fun _ => Ev.now _) (fun _ => Ev.now _)) (fun _ => Ev.now _)) ?_)
    by_cases hb : b = 0 <;> by_cases hs : s.size = 0 <;> simp [hb, hs, hn]
  · refine Ev.iten h0 ?_
    by_cases h1 : a = 1
    · subst h1
      refine Ev.itep rfl (Ev.step (fun k => value_CheckValue.j0.eq_2 ..) (Ev.itep (by simp) (Ev.cast (r := if s.toList = [] then (if 0 ≤ b ∧ b ≤ 1 then 0 else 1) else 3) (Ev.ite (fun _ => Ev.itep rfl ?_) (fun _ => Ev.now _)) ?_)))
      · simp only [range_eq, Option.bind_some]; exact Ev.now _
      · by_cases hs : s.size = 0 <;> simp [hs, hn]
    · refine Ev.iten h1 ?_
      by_cases h2 : a = 2
      · subst h2
        refine Ev.step (fun k => value_CheckValue.j0.eq_2 ..) (Ev.itep (by simp) (Ev.cast (r := if s.toList = [] then (if -1000000000000000 ≤ b ∧ b ≤ 1000000000000000 then 0 else 1) else 3) (Ev.ite (fun _ => Ev.iten (by omega) ?_) (fun _ => Ev.now _)) ?_))
        · simp only [range_eq, Option.bind_some]; exact Ev.now _
        · by_cases hs : s.size = 0 <;> simp [hs, hn]
      · refine Ev.step (fun k => value_CheckValue.j0.eq_2 ..) (Ev.iten (by simpa using h2) ?_)
        by_cases h3 : a = 3
        · subst h3
          refine Ev.itep rfl (Ev.cast (r := if b = 0 then (if 200 < s.size then 2 else tx s s.size 0) else 3) (Ev.ite (fun _ => ?_) (fun _ => Ev.now _)) (by simp))
          by_cases hl : 200 < s.size
          · exact Ev.itep (by omega) (Ev.cast (Ev.now _) (if_pos hl).symm)
          · exact Ev.iten (by omega) (Ev.cast (tx_cost s (by omega) 3 b s.size 0 (by omega)) (if_neg hl).symm)
        · exact Ev.iten h3 (Ev.cast (Ev.now _) (by simp [h0, h1, h2, h3]))
theorem ref_j1 (a b : Int) (s : ByteArray) (c : Bool) : Ev (fun k => peristyleref1_CheckValue.j1 k c a b s) (if c = true then 1 else if 200 < s.size then 2 else tx s s.size 0) := by
  refine Ev.step (fun k => peristyleref1_CheckValue.j1.eq_2 ..) (Ev.ite (fun _ => Ev.now _) (fun _ => ?_))
  by_cases hl : 200 < s.size
  · exact Ev.itep (by omega) (Ev.cast (Ev.now _) (if_pos hl).symm)
  · exact Ev.iten (by omega) (Ev.cast (tx_ref s (by omega) a b s.size 0 (by omega)) (if_neg hl).symm)
theorem ref_j1_0 (a b : Int) (s : ByteArray) (c : Bool) (hs : s.size = 0) : Ev (fun k => peristyleref1_CheckValue.j1 k c a b s) (if c = true then 1 else 0) := by
  refine Ev.cast (ref_j1 a b s c) ?_
  rw [if_neg (by omega : ¬ 200 < s.size), hs]; rfl
theorem ref_j0t (a b : Int) (s : ByteArray) : Ev (fun k => peristyleref1_CheckValue.j0 k true a b s) 3 :=
  Ev.step (fun k => peristyleref1_CheckValue.j0.eq_2 ..) (Ev.itep rfl (Ev.now _))
theorem cv_ref (v : S29) : Ev (fun k => peristyleref1_CheckValue.f k v.f0 v.f1 v.f2) (cv v) := by
  obtain ⟨a, b, s⟩ := v
  refine Ev.congr (fun k => peristyleref1_CheckValue.f.eq_1 ..) ?_
  unfold cv
  simp only [within1_eq, Option.bind_some]
  have hj : ∀ {r : Int}, (s.size = 0 → Ev (fun k => peristyleref1_CheckValue.j0 k false a b s) r) → Ev (fun k => peristyleref1_CheckValue.j0 k (s.toList != ([] : List UInt8)) a b s) (if s.size = 0 then r else 3) := by
    intro r h
    by_cases hs : s.size = 0
    · have e : (s.toList != ([] : List UInt8)) = false := by simp [(nil_iff s).2 hs]
      rw [e, if_pos hs]; exact h hs
    · have e : (s.toList != ([] : List UInt8)) = true := by simp [bne, nil_iff, hs]
      rw [e, if_neg hs]; exact ref_j0t a b s
  by_cases hk : 0 ≤ a ∧ a ≤ 3
  · refine Ev.itep (by simpa using hk) ?_
    by_cases h1 : a = 1
    · subst h1
      refine Ev.itep rfl (Ev.iten (by omega) (Ev.cast (hj (r := if 0 ≤ b ∧ b ≤ 1 then 0 else 1) (fun hs => ?_)) (by simp)))
      refine Ev.step (fun k => peristyleref1_CheckValue.j0.eq_2 ..) (Ev.iten (by simp) (Ev.itep rfl ?_))
      simp only [within1_eq, Option.bind_some]
      by_cases hb : 0 ≤ b ∧ b ≤ 1
      · exact Ev.itep (by simpa using hb) (Ev.iten (by omega) (Ev.cast (ref_j1_0 1 b s false hs) (by simp [hb])))
      · exact Ev.iten (by simpa using hb) (Ev.cast (ref_j1_0 1 b s true hs) (by simp [hb]))
    · refine Ev.iten h1 ?_
      by_cases h2 : a = 2
      · subst h2
        refine Ev.itep rfl (Ev.iten (by omega) (Ev.cast (hj (r := if -1000000000000000 ≤ b ∧ b ≤ 1000000000000000 then 0 else 1) (fun hs => ?_)) (by simp)))
        refine Ev.step (fun k => peristyleref1_CheckValue.j0.eq_2 ..) (Ev.iten (by simp) (Ev.iten (by omega) (Ev.itep rfl ?_)))
        simp only [within1_eq, Option.bind_some]
        by_cases hb : -1000000000000000 ≤ b ∧ b ≤ 1000000000000000
        · exact Ev.cast (ref_j1_0 2 b s _ hs) (by simp [hb])
        · exact Ev.cast (ref_j1_0 2 b s _ hs) (by simp [hb])
      · refine Ev.iten h2 ?_
        by_cases h3 : a = 3
        · subst h3
          refine Ev.cast (r := if b = 0 then (if 200 < s.size then 2 else tx s s.size 0) else 3) (Ev.ite (fun hb => Ev.itep rfl ?_) (fun _ => ref_j0t 3 b s)) (by simp)
          exact Ev.step (fun k => peristyleref1_CheckValue.j0.eq_2 ..) (Ev.iten (by simp) (Ev.iten (by omega) (Ev.iten (by omega) (ref_j1 3 b s false))))
        · obtain rfl : a = 0 := by omega
          by_cases hb : b = 0
          · refine Ev.itep hb (Ev.iten (by omega) (Ev.cast (hj (r := 0) (fun hs => ?_)) (by simp [hb])))
            exact Ev.step (fun k => peristyleref1_CheckValue.j0.eq_2 ..) (Ev.iten (by simp) (Ev.iten (by omega) (Ev.iten (by omega) (ref_j1_0 0 b s false hs))))
          · refine Ev.iten hb (Ev.cast (ref_j0t 0 b s) (by simp [hb]))
  · refine Ev.iten (by simpa using hk) (Ev.cast (Ev.now _) ?_)
    have g0 : a ≠ 0 := by omega
    have g1 : a ≠ 1 := by omega
    have g2 : a ≠ 2 := by omega
    have g3 : a ≠ 3 := by omega
    simp [g0, g1, g2, g3]

def Val (v : S29) : Prop := cv v = 0
theorem Val.kinds {v : S29} (h : Val v) : v.f0 = 0 ∨ (v.f0 = 1 ∧ 0 ≤ v.f1 ∧ v.f1 ≤ 1) ∨ (v.f0 = 2 ∧ -1000000000000000 ≤ v.f1 ∧ v.f1 ≤ 1000000000000000) ∨ (v.f0 = 3 ∧ v.f2.size ≤ 200) := by
  unfold Val cv at h
  by_cases h0 : v.f0 = 0
  · exact Or.inl h0
  · rw [if_neg h0] at h
    by_cases h1 : v.f0 = 1
    · rw [if_pos h1] at h
      by_cases g : v.f2.size = 0
      · rw [if_pos g] at h
        by_cases c : 0 ≤ v.f1 ∧ v.f1 ≤ 1
        · exact Or.inr (Or.inl ⟨h1, c⟩)
        · rw [if_neg c] at h; omega
      · rw [if_neg g] at h; omega
    · rw [if_neg h1] at h
      by_cases h2 : v.f0 = 2
      · rw [if_pos h2] at h
        by_cases g : v.f2.size = 0
        · rw [if_pos g] at h
          by_cases c : -1000000000000000 ≤ v.f1 ∧ v.f1 ≤ 1000000000000000
          · exact Or.inr (Or.inr (Or.inl ⟨h2, c⟩))
          · rw [if_neg c] at h; omega
        · rw [if_neg g] at h; omega
      · rw [if_neg h2] at h
        by_cases h3 : v.f0 = 3
        · rw [if_pos h3] at h
          by_cases g : v.f1 = 0
          · rw [if_pos g] at h
            by_cases c : 200 < v.f2.size
            · rw [if_pos c] at h; omega
            · exact Or.inr (Or.inr (Or.inr ⟨h3, by omega⟩))
          · rw [if_neg g] at h; omega
        · rw [if_neg h3] at h; omega
/-! A text in quotes. -/
def esc : List UInt8 → List UInt8
  | [] => []
  | c :: l => if c = 39 then 39 :: 39 :: esc l else c :: esc l
theorem esc_len (l : List UInt8) : (esc l).length ≤ 2 * l.length := by
  induction l with
  | nil => exact Nat.zero_le _
  | cons a l ih =>
    show (if a = 39 then 39 :: 39 :: esc l else a :: esc l).length ≤ 2 * (l.length + 1)
    split <;> simp only [List.length_cons] <;> omega
theorem repl_cons_ne (b c : UInt8) (new : List UInt8) (h : b ≠ c) : ∀ (k : Nat) (l : List UInt8), k ≤ Lib.count l [c] → Lib.replaceK [c] new k (b :: l) = b :: Lib.replaceK [c] new k l := by
  intro k l hk
  have hp : ([c] : List UInt8).isPrefixOf (b :: l) = false := by simp [List.isPrefixOf, Ne.symm h]
  have hix : Lib.index (b :: l) [c] = if Lib.index l [c] == -1 then -1 else Lib.index l [c] + 1 := by rw [Lib.index, hp]; simp
  cases k with
  | zero => rfl
  | succ k =>
    obtain ⟨i, hi⟩ := Lib.index_of_count (s := l) (old := [c]) (by omega)
    have hix' : Lib.index (b :: l) [c] = ((i + 1 : Nat) : Int) := by
      rw [hix, hi, if_neg (by simp <;> omega)]; rfl
    rw [Lib.replaceK_hit _ _ _ _ _ hix', Lib.replaceK_hit _ _ _ _ _ hi]
    simp [Nat.add_right_comm]
theorem repl_esc : ∀ l : List UInt8, Lib.replaceK [39] [39, 39] (Lib.count l [39]) l = esc l
  | [] => by rw [Lib.count_one]; rfl
  | b :: l => by
    by_cases h : b = 39
    · subst h
      have hix : Lib.index (39 :: l) [39] = ((0 : Nat) : Int) := by rw [Lib.index]; simp [List.isPrefixOf]
      rw [Lib.count_cons_eq, Nat.add_comm, Lib.replaceK_hit _ _ _ _ _ hix]
      simp only [List.take_zero, List.nil_append, List.length_cons, List.length_nil, Nat.zero_add, List.drop_succ_cons, List.drop_zero]
      rw [repl_esc l]
      simp [esc]
    · rw [Lib.count_cons_ne _ _ _ h, repl_cons_ne _ _ _ h _ _ (Nat.le_refl _), repl_esc l]
      simp [esc, h]
theorem replaceAll_esc (l : List UInt8) : Lib.replaceAll l [39] [39, 39] = esc l := by
  unfold Lib.replaceAll Lib.replace Lib.replaceNum
  rw [if_neg (by decide), if_pos (Or.inl (by decide)), repl_esc]
/-- A right value's text. -/
def txt (v : S29) : List UInt8 := if v.f0 = 0 then [110, 117, 108, 108] else if v.f0 = 1 then (if v.f1 = 0 then [102, 97, 108, 115, 101] else [116, 114, 117, 101]) else if v.f0 = 2 then Lib.itoa v.f1 else 39 :: esc v.f2.data.toList ++ [39]
def tv (v : S29) : ByteArray := ⟨(txt v).toArray⟩
theorem size_len (s : ByteArray) : s.size = s.data.toList.length := by rw [Array.length_toList]; rfl
theorem tv_size (v : S29) : (tv v).size = (txt v).length := by rw [size_len]; simp [tv]
theorem txt_len {v : S29} (h : Val v) : (txt v).length ≤ 402 := by
  unfold txt
  rcases h.kinds with k | ⟨k, a, b⟩ | ⟨k, a, b⟩ | ⟨k, a⟩
  · rw [if_pos k]; simp
  · rw [if_neg (by omega), if_pos k]; split <;> simp
  · have := Lib.itoa_length_le v.f1 (by omega) (by omega)
    rw [if_neg (by omega), if_neg (by omega), if_pos k]; omega
  · have := esc_len v.f2.data.toList
    rw [← size_len] at this
    rw [if_neg (by omega), if_neg (by omega), if_neg (by omega)]
    simp only [List.length_append, List.length_cons, List.length_nil]; omega
theorem itoa_eq (n : Int) (h0 : -1000000000000000 ≤ n) (h1 : n ≤ 1000000000000000) : strconv_Itoa_21.f n = some ⟨(Lib.itoa n).toArray⟩ := by
  unfold strconv_Itoa_21.f; rw [if_pos ⟨by omega, by omega⟩]
theorem ba_app (a b : List UInt8) : (⟨a.toArray⟩ : ByteArray) ++ ⟨b.toArray⟩ = ⟨(a ++ b).toArray⟩ := by
  apply ByteArray.ext; simp
theorem ba_data (s : ByteArray) : s = ⟨s.data.toList.toArray⟩ := by apply ByteArray.ext; simp
theorem text_cost {v : S29} (h : Val v) : value_textOf.f v.f0 v.f1 v.f2 = some (tv v) := by
  unfold value_textOf.f tv txt
  rcases h.kinds with k | ⟨k, a, b⟩ | ⟨k, a, b⟩ | ⟨k, a⟩
  · simp [k]
  · have e : v.f1 = 0 ∨ v.f1 = 1 := by omega
    rcases e with e | e <;> simp [k, e, rdOf]
  · simp [k, itoa_eq v.f1 a b]
  · have hc : Lib.countB v.f2 (⟨#[39]⟩ : ByteArray) ≤ v.f2.size := by
      have : Lib.countB v.f2 (⟨#[39]⟩ : ByteArray) = Lib.count v.f2.data.toList [39] := rfl
      rw [this, Lib.count_one, size_len]; exact List.count_le_length
    have hs : (⟨#[39, 39]⟩ : ByteArray).size = 2 := rfl
    have hs1 : (⟨#[39]⟩ : ByteArray).size = 1 := rfl
    have hr : strings_ReplaceAll.f v.f2 (⟨#[39]⟩ : ByteArray) (⟨#[39, 39]⟩ : ByteArray) = some ⟨(esc v.f2.data.toList).toArray⟩ := by
      unfold strings_ReplaceAll.f
      rw [if_pos ⟨by omega, by rw [hs1]; exact Nat.le_refl _, by rw [hs]; omega⟩]
      have : Lib.replaceAll v.f2.data.toList (⟨#[39]⟩ : ByteArray).data.toList (⟨#[39, 39]⟩ : ByteArray).data.toList = esc v.f2.data.toList := replaceAll_esc _
      rw [this]
    have hl := esc_len v.f2.data.toList
    rw [← size_len] at hl
    have hz : (⟨(esc v.f2.data.toList).toArray⟩ : ByteArray).size = (esc v.f2.data.toList).length := by rw [size_len]
    rw [hr]
    simp only [Option.bind_some, hz]
    rw [if_neg (by omega), if_neg (by omega), if_neg (by omega), if_pos (by omega), if_pos (by omega), if_neg (by omega), if_neg (by omega), if_neg (by omega)]
    have := ba_app [39] (esc v.f2.data.toList)
    have h2 := ba_app ([39] ++ esc v.f2.data.toList) [39]
    rw [← this] at h2
    exact congrArg some h2

theorem drop_at (s : ByteArray) (i : Nat) (hi : i < s.size) : s.data.toList.drop i = (s[i]'hi) :: s.data.toList.drop (i + 1) := by
  have h' : i < s.data.toList.length := by rw [← size_len]; exact hi
  rw [List.drop_eq_getElem_cons h']; rfl
theorem bt_nat (s : ByteArray) (i : Nat) (hi : i < s.size) : bt s (i : Int) = ((s[i]'hi).toNat : Int) := by
  unfold bt; exact dif_pos hi
theorem cut_one (s : ByteArray) (i : Nat) (hi : i < s.size) : s.extract i (i + 1) = ⟨[s[i]'hi].toArray⟩ := by
  apply ByteArray.ext
  rw [ByteArray.data_extract]
  apply Array.ext'
  rw [Array.toList_extract]
  simp only [List.extract_eq_take_drop, Nat.add_sub_cancel_left]
  rw [drop_at s i hi]; simp
theorem u8_39 (b : UInt8) : (b.toNat : Int) = 39 ↔ b = 39 := by
  constructor
  · intro h
    have h2 : b.toNat = (39 : UInt8).toNat := by show b.toNat = 39; omega
    exact UInt8.toNat_inj.1 h2
  · intro h; subst h; rfl
theorem shown_l0 (a b : Int) (s : ByteArray) (hs : s.size ≤ 200) : ∀ m i : Nat, i + m = s.size → ∀ acc : List UInt8, acc.length ≤ 2 * i + 1 → Ev (fun k => peristyleref1_Shown.l0 k ⟨acc.toArray⟩ i a b s) ⟨(acc ++ esc (s.data.toList.drop i) ++ [39]).toArray⟩ := by
  intro m
  induction m with
  | zero =>
    intro i hi acc ha
    have hz : (⟨acc.toArray⟩ : ByteArray).size = acc.length := by rw [size_len]
    refine Ev.step (fun k => peristyleref1_Shown.l0.eq_2 ..) (Ev.iten (by omega) (Ev.itep (by rw [hz]; omega) (Ev.cast (Ev.now _) ?_)))
    have hd : s.data.toList.drop i = [] := List.drop_eq_nil_of_le (by rw [← size_len]; omega)
    rw [hd]
    have := ba_app acc [39]
    rw [show acc ++ esc [] ++ [39] = acc ++ [39] by simp [esc]]
    exact this
  | succ m ih =>
    intro i hi acc ha
    have hi' : i < s.size := by omega
    have hz : (⟨acc.toArray⟩ : ByteArray).size = acc.length := by rw [size_len]
    refine Ev.step (fun k => peristyleref1_Shown.l0.eq_2 ..) (Ev.itep (by omega) (Ev.itep (by omega) ?_))
    rw [wnext i (by omega)]
    simp only [Int.toNat_natCast]
    refine Ev.itep (by omega) (Ev.itep (by omega) (Ev.itep (by rw [hz]; omega) ?_))
    rw [cut_one s i hi', bt_nat s i hi', drop_at s i hi']
    have e1 := ba_app acc [s[i]'hi']
    rw [e1]
    by_cases c : s[i]'hi' = 39
    · refine Ev.itep ((u8_39 _).2 c) (Ev.itep (by rw [hz]; omega) ?_)
      have e2 := ba_app (acc ++ [s[i]'hi']) [39]
      have e3 : (⟨(acc ++ [s[i]'hi']).toArray⟩ : ByteArray) ++ (⟨#[39]⟩ : ByteArray) = ⟨(acc ++ [s[i]'hi'] ++ [39]).toArray⟩ := e2
      rw [e3]
      refine Ev.cast (ih (i + 1) (by omega) _ (by simp; omega)) ?_
      show _ = (⟨(acc ++ (if s[i]'hi' = 39 then _ else _) ++ [39]).toArray⟩ : ByteArray)
      rw [if_pos c, c]; simp
    · refine Ev.iten (fun x => c ((u8_39 _).1 x)) ?_
      refine Ev.cast (ih (i + 1) (by omega) _ (by simp; omega)) ?_
      show _ = (⟨(acc ++ (if s[i]'hi' = 39 then _ else _) ++ [39]).toArray⟩ : ByteArray)
      rw [if_neg c]; simp
theorem text_ref {v : S29} (h : Val v) : Ev (fun k => peristyleref1_Shown.f k v.f0 v.f1 v.f2) (tv v) := by
  refine Ev.congr (fun k => peristyleref1_Shown.f.eq_1 ..) ?_
  unfold tv txt
  rcases h.kinds with k | ⟨k, a, b⟩ | ⟨k, a, b⟩ | ⟨k, a⟩
  · rw [if_pos k]; exact Ev.itep k (Ev.now _)
  · refine Ev.iten (by omega) (Ev.iten (by omega) ?_)
    rw [if_neg (by omega), if_pos k]
    have e : v.f1 = 0 ∨ v.f1 = 1 := by omega
    refine Ev.cast (Ev.congr (f := fun _ => some (if v.f1 = 1 then (⟨#[116, 114, 117, 101]⟩ : ByteArray) else ⟨#[102, 97, 108, 115, 101]⟩)) (fun n => ?_) (Ev.now _)) ?_
    · unfold peristyleref1_word.f
      rw [if_neg (by omega : ¬ v.f0 = 2)]
      rcases e with e | e <;> simp [e]
    · rcases e with e | e <;> simp [e]
  · refine Ev.iten (by omega) (Ev.iten (by omega) ?_)
    rw [if_neg (by omega), if_neg (by omega), if_pos k]
    refine Ev.congr (f := fun _ => some ⟨(Lib.itoa v.f1).toArray⟩) (fun n => ?_) (Ev.now _)
    unfold peristyleref1_word.f
    rw [if_pos k, itoa_eq v.f1 a b]; rfl
  · refine Ev.iten (by omega) (Ev.itep k ?_)
    rw [if_neg (by omega), if_neg (by omega), if_neg (by omega)]
    have := shown_l0 v.f0 v.f1 v.f2 a v.f2.size 0 (by omega) [39] (by simp)
    exact this
theorem TextOf_cost {v : S29} (h : Val v) : Ev (fun k => value_TextOf.f k v.f0 v.f1 v.f2) (tv v, 0) := by
  refine Ev.congr (fun k => value_TextOf.f.eq_1 ..) (Ev.bind (Ev.cast (cv_cost v) h) (Ev.itep rfl ?_))
  rw [text_cost h]; exact Ev.now _
theorem TextOf_ref {v : S29} (h : Val v) : Ev (fun k => peristyleref1_TextOf.f k v.f0 v.f1 v.f2) (tv v, 0) :=
  Ev.congr (fun k => peristyleref1_TextOf.f.eq_1 ..) (Ev.bind (Ev.cast (cv_ref v) h) (Ev.itep rfl (Ev.bind (text_ref h) (Ev.now _))))
/-! The texts of values, one behind another. -/
def cat (l : List S29) : Nat → Nat → List UInt8
  | 0, _ => []
  | m + 1, i => (if i = 0 then [] else [44]) ++ txt (l.getD i z29) ++ cat l m (i + 1)
theorem cat_len (l : List S29) (hv : ∀ j, j < l.length → Val (l.getD j z29)) : ∀ m i : Nat, i + m = l.length → (cat l m i).length ≤ 403 * m := by
  intro m
  induction m with
  | zero => intro i hi; exact Nat.zero_le _
  | succ m ih =>
    intro i hi
    have h1 := ih (i + 1) (by omega)
    have h2 := txt_len (hv i (by omega))
    show ((if i = 0 then [] else [44]) ++ txt (l.getD i z29) ++ cat l m (i + 1)).length ≤ _
    simp only [List.length_append]
    split <;> simp only [List.length_cons, List.length_nil] <;> omega
theorem text_l0 (l : List S29) (hl : l.length ≤ 10) (hv : ∀ j, j < l.length → Val (l.getD j z29)) : ∀ m i : Nat, i + m = l.length → ∀ acc : List UInt8, acc.length ≤ 403 * i → Ev (fun k => join_text.l0 k ⟨acc.toArray⟩ l l.length i) ⟨(acc ++ cat l m i).toArray⟩ := by
  intro m
  induction m with
  | zero => intro i hi acc ha; exact Ev.step (fun k => join_text.l0.eq_2 ..) (Ev.iten (by omega) (Ev.cast (Ev.now _) (by simp [cat])))
  | succ m ih =>
    intro i hi acc ha
    have hz : (⟨acc.toArray⟩ : ByteArray).size = acc.length := by rw [size_len]
    have hv' := hv i (by omega)
    have ht := txt_len hv'
    have hs := tv_size (l.getD i z29)
    refine Ev.step (fun k => join_text.l0.eq_2 ..) (Ev.itep (by omega) (Ev.itep (by omega) (Ev.itep (by omega) ?_)))
    rw [rd29, wnext i (by omega)]
    show Ev _ (⟨(acc ++ ((if i = 0 then [] else [44]) ++ txt (l.getD i z29) ++ cat l m (i + 1))).toArray⟩ : ByteArray)
    by_cases c : i = 0
    · subst c
      refine Ev.iten (by omega) (Ev.bind (TextOf_cost hv') (Ev.itep (by show (⟨acc.toArray⟩ : ByteArray).size + (tv _).size ≤ _; rw [hz, hs]; omega) ?_))
      have e : (⟨acc.toArray⟩ : ByteArray) ++ tv (l.getD 0 z29) = ⟨(acc ++ txt (l.getD 0 z29)).toArray⟩ := ba_app _ _
      show Ev (fun k => join_text.l0 k ((⟨acc.toArray⟩ : ByteArray) ++ tv (l.getD 0 z29)) l _ _) _
      rw [e]
      refine Ev.cast (ih 1 (by omega) _ (by simp only [List.length_append]; omega)) (by simp)
    · refine Ev.itep (by omega) (Ev.itep (by rw [hz]; omega) (Ev.bind (TextOf_cost hv') (Ev.itep (by show (⟨acc.toArray⟩ : ByteArray).size + 1 + (tv _).size ≤ _; rw [hz, hs]; omega) ?_)))
      have e0 : (⟨acc.toArray⟩ : ByteArray) ++ (⟨#[44]⟩ : ByteArray) = ⟨(acc ++ [44]).toArray⟩ := ba_app acc [44]
      have e : (⟨(acc ++ [44]).toArray⟩ : ByteArray) ++ tv (l.getD i z29) = ⟨(acc ++ [44] ++ txt (l.getD i z29)).toArray⟩ := ba_app _ _
      show Ev (fun k => join_text.l0 k ((⟨acc.toArray⟩ : ByteArray) ++ (⟨#[44]⟩ : ByteArray) ++ tv (l.getD i z29)) l _ _) _
      rw [e0, e]
      refine Ev.cast (ih (i + 1) (by omega) _ (by simp only [List.length_append, List.length_cons, List.length_nil]; omega)) (by simp [c])

/-! The hash. -/
def stp (h : Nat) (c : UInt8) : Nat := ((h ^^^ c.toNat) * 16777619) % 4294967296
theorem stp_lt (h : Nat) (c : UInt8) : stp h c < 4294967296 := Nat.mod_lt _ (by decide)
theorem fold_lt : ∀ (l : List UInt8) (h : Nat), h < 4294967296 → l.foldl stp h < 4294967296
  | [], _, hh => hh
  | c :: l, h, _ => fold_lt l (stp h c) (stp_lt h c)
theorem xor_lt32 (a b : Nat) (ha : a < 4294967296) (hb : b < 4294967296) : a ^^^ b < 4294967296 := Nat.xor_lt_two_pow (n := 32) ha hb
theorem w32 (n : Int) : IntKind.u32.wrap n = n % 4294967296 := by simp [IntKind.wrap, IntKind.bits, IntKind.signed]
theorem xor32 (a b : Nat) (ha : a < 4294967296) (hb : b < 4294967296) : Go.bits .xor .u32 (a : Int) (b : Int) = ((a ^^^ b : Nat) : Int) := by
  have hx := xor_lt32 a b ha hb
  have h1 : (BitVec.ofInt 32 (a : Int)).toNat = a := by
    rw [BitVec.ofInt_natCast, BitVec.toNat_ofNat]; exact Nat.mod_eq_of_lt (by omega)
  have h2 : (BitVec.ofInt 32 (b : Int)).toNat = b := by
    rw [BitVec.ofInt_natCast, BitVec.toNat_ofNat]; exact Nat.mod_eq_of_lt (by omega)
  show IntKind.u32.wrap ((BitVec.ofInt 32 (a : Int) ^^^ BitVec.ofInt 32 (b : Int)).toNat : Int) = _
  rw [BitVec.toNat_xor, h1, h2, w32]
  omega
theorem xor64 (a b : Nat) (ha : a < 4294967296) (hb : b < 4294967296) : Go.bits .xor .i64 (a : Int) (b : Int) = ((a ^^^ b : Nat) : Int) := by
  have hx := xor_lt32 a b ha hb
  have h1 : (BitVec.ofInt 64 (a : Int)).toNat = a := by
    rw [BitVec.ofInt_natCast, BitVec.toNat_ofNat]; exact Nat.mod_eq_of_lt (by omega)
  have h2 : (BitVec.ofInt 64 (b : Int)).toNat = b := by
    rw [BitVec.ofInt_natCast, BitVec.toNat_ofNat]; exact Nat.mod_eq_of_lt (by omega)
  show IntKind.i64.wrap ((BitVec.ofInt 64 (a : Int) ^^^ BitVec.ofInt 64 (b : Int)).toNat : Int) = _
  rw [BitVec.toNat_xor, h1, h2, IntKind.wrap_i64]
  omega
theorem stp_cost (h : Nat) (hh : h < 4294967296) (c : UInt8) : IntKind.u32.wrap (Go.bits .xor .u32 (h : Int) (IntKind.u32.wrap (c.toNat : Int)) * 16777619) = ((stp h c : Nat) : Int) := by
  have hc := c.toNat_lt
  have e : IntKind.u32.wrap (c.toNat : Int) = (c.toNat : Int) := by rw [w32]; omega
  rw [e, xor32 h c.toNat hh (by omega), w32]
  unfold stp
  generalize h ^^^ c.toNat = x
  omega
theorem stp_ref (h : Nat) (hh : h < 4294967296) (c : UInt8) : Int.tmod (wrap64 (Go.bits .xor .i64 (h : Int) (wrap64 (c.toNat : Int)) * 16777619)) 4294967296 = ((stp h c : Nat) : Int) := by
  have hc := c.toNat_lt
  have e : wrap64 (c.toNat : Int) = (c.toNat : Int) := by unfold wrap64; omega
  have hx := xor_lt32 h c.toNat hh (by omega)
  rw [e, xor64 h c.toNat hh (by omega)]
  unfold stp
  generalize h ^^^ c.toNat = x at hx
  rw [show wrap64 ((x : Int) * 16777619) = (x : Int) * 16777619 by unfold wrap64; omega, Int.tmod_eq_emod_of_nonneg (by omega)]
  omega
theorem hash_l0 (s : ByteArray) (hs : s.size ≤ 1000000) : ∀ m i : Nat, i + m = s.size → ∀ h : Nat, h < 4294967296 → Ev (fun k => join_hash.l0 k s i (h : Int)) (((s.data.toList.drop i).foldl stp h : Nat) : Int) := by
  intro m
  induction m with
  | zero =>
    intro i hi h hh
    have hd : s.data.toList.drop i = [] := List.drop_eq_nil_of_le (by rw [← size_len]; omega)
    rw [hd]
    exact Ev.step (fun k => join_hash.l0.eq_2 ..) (Ev.iten (by omega) (Ev.cast (Ev.now _) (by show wrap64 (h : Int) = (h : Int); unfold wrap64; omega)))
  | succ m ih =>
    intro i hi h hh
    have hi' : i < s.size := by omega
    refine Ev.step (fun k => join_hash.l0.eq_2 ..) (Ev.itep (by omega) (Ev.itep (by omega) ?_))
    rw [wnext i (by omega), bt_nat s i hi', stp_cost h hh, drop_at s i hi']
    exact ih (i + 1) (by omega) _ (stp_lt _ _)
theorem hash_l1 (s : ByteArray) (hs : s.size ≤ 1000000) (l : List S29) (i : Nat) (hi0 : i < 1000) {r : Int} : ∀ m j : Nat, j + m = s.size → ∀ h : Nat, h < 4294967296 → Ev (fun k => peristyleref8_hash.l0 k (((s.data.toList.drop j).foldl stp h : Nat) : Int) l l.length ((i + 1 : Nat) : Int)) r → Ev (fun k => peristyleref8_hash.l1 k (h : Int) s l l.length i s.size j) r := by
  intro m
  induction m with
  | zero =>
    intro j hj h hh H
    have hd : s.data.toList.drop j = [] := List.drop_eq_nil_of_le (by rw [← size_len]; omega)
    rw [hd] at H
    refine Ev.step (fun k => peristyleref8_hash.l1.eq_2 ..) (Ev.iten (by omega) ?_)
    rw [wnext i (by omega)]
    exact H
  | succ m ih =>
    intro j hj h hh H
    have hj' : j < s.size := by omega
    refine Ev.step (fun k => peristyleref8_hash.l1.eq_2 ..) (Ev.itep (by omega) (Ev.itep (by omega) (Ev.itep (by omega) ?_)))
    rw [wnext j (by omega), bt_nat s j hj', stp_ref h hh]
    rw [drop_at s j hj'] at H
    exact ih (j + 1) (by omega) _ (stp_lt _ _) H
theorem hash_ref (l : List S29) (hl : l.length ≤ 10) (hv : ∀ j, j < l.length → Val (l.getD j z29)) : ∀ m i : Nat, i + m = l.length → ∀ h : Nat, h < 4294967296 → Ev (fun k => peristyleref8_hash.l0 k (h : Int) l l.length i) (((cat l m i).foldl stp h : Nat) : Int) := by
  intro m
  induction m with
  | zero => intro i hi h hh; exact Ev.step (fun k => peristyleref8_hash.l0.eq_2 ..) (Ev.iten (by omega) (Ev.now _))
  | succ m ih =>
    intro i hi h hh
    have hv' := hv i (by omega)
    have ht := txt_len hv'
    have hs := tv_size (l.getD i z29)
    have go : ∀ p : List UInt8, p.length ≤ 1 → Ev (fun k => peristyleref8_hash.j1 k (h : Int) ⟨(p ++ txt (l.getD i z29)).toArray⟩ l l.length i) (((p ++ txt (l.getD i z29) ++ cat l m (i + 1)).foldl stp h : Nat) : Int) := by
      intro p hp
      have hz : (⟨(p ++ txt (l.getD i z29)).toArray⟩ : ByteArray).size = (p ++ txt (l.getD i z29)).length := by rw [size_len]
      have hz2 : (p ++ txt (l.getD i z29)).length = p.length + (txt (l.getD i z29)).length := List.length_append
      refine Ev.step (fun k => peristyleref8_hash.j1.eq_2 ..) (hash_l1 _ (by rw [hz, hz2]; omega) l i (by omega) _ 0 (Nat.zero_add _) h hh ?_)
      rw [List.foldl_append]
      exact ih (i + 1) (by omega) _ (fold_lt _ _ hh)
    refine Ev.step (fun k => peristyleref8_hash.l0.eq_2 ..) (Ev.itep (by omega) (Ev.itep (by omega) (Ev.itep (by omega) ?_)))
    rw [rd29]
    refine Ev.bind (TextOf_ref hv') ?_
    show Ev _ ((((if i = 0 then [] else [44]) ++ txt (l.getD i z29) ++ cat l m (i + 1)).foldl stp h : Nat) : Int)
    by_cases c : i = 0
    · rw [if_pos c]
      exact Ev.iten (by omega) (go [] (by simp))
    · rw [if_neg c]
      refine Ev.itep (by omega) (Ev.itep (by show 1 + (tv _).size ≤ _; rw [hs]; omega) ?_)
      have e : (⟨#[44]⟩ : ByteArray) ++ tv (l.getD i z29) = ⟨([44] ++ txt (l.getD i z29)).toArray⟩ := ba_app [44] _
      show Ev (fun k => peristyleref8_hash.j1 k (h : Int) ((⟨#[44]⟩ : ByteArray) ++ tv (l.getD i z29)) l l.length i) _
      rw [e]
      exact go [44] (by simp)
theorem hash_two (l : List S29) (hl : l.length ≤ 10) (hv : ∀ j, j < l.length → Val (l.getD j z29)) (s : Nat) (hs : s ≤ 5) : Two (fun k => join_hash.f k l (s : Int)) (fun k => peristyleref8_hash.f k l (s : Int)) (fun r => 0 ≤ r ∧ r < 4294967296) := by
  have hx := xor_lt32 2166136261 s (by omega) (by omega)
  have e1 : Go.bits .xor .u32 2166136261 (IntKind.u32.wrap (s : Int)) = ((2166136261 ^^^ s : Nat) : Int) := by
    have : IntKind.u32.wrap (s : Int) = (s : Int) := by rw [w32]; omega
    rw [this]; exact xor32 2166136261 s (by omega) (by omega)
  have e2 : Go.bits .xor .i64 2166136261 (s : Int) = ((2166136261 ^^^ s : Nat) : Int) := xor64 2166136261 s (by omega) (by omega)
  have hlt := fold_lt (cat l l.length 0) _ hx
  have A : Ev (fun k => join_hash.f k l (s : Int)) (((cat l l.length 0).foldl stp (2166136261 ^^^ s) : Nat) : Int) := by
    have hc := cat_len l hv l.length 0 (by omega)
    have hz : (⟨(cat l l.length 0).toArray⟩ : ByteArray).size = (cat l l.length 0).length := by rw [size_len]
    refine Ev.congr (fun k => join_hash.f.eq_1 ..) (Ev.bind (a := ⟨(cat l l.length 0).toArray⟩) ?_ (Ev.itep (by rw [hz]; omega) ?_))
    · exact text_l0 l hl hv l.length 0 (by omega) [] (by simp)
    · rw [e1]
      exact hash_l0 ⟨(cat l l.length 0).toArray⟩ (by rw [hz]; omega) _ 0 (Nat.zero_add _) _ hx
  have B : Ev (fun k => peristyleref8_hash.f k l (s : Int)) (((cat l l.length 0).foldl stp (2166136261 ^^^ s) : Nat) : Int) := by
    refine Ev.congr (fun k => peristyleref8_hash.f.eq_1 ..) ?_
    rw [e2]
    exact hash_ref l hl hv l.length 0 (by omega) _ hx
  refine (Two.ofEv A B).imp (fun r e => ?_)
  subst e
  omega
theorem Hash_l0 (l : List S29) (hl : l.length ≤ 10) (a1 : Int) : ∀ m i : Nat, i + m = l.length → (∀ j, j < i → Val (l.getD j z29)) → Two (fun k => join_Hash.l0 k l a1 l l.length i) (fun k => peristyleref8_Hash.l0 k l a1 l l.length i) (fun r => 0 ≤ r.1 ∧ r.1 < 4294967296) := by
  intro m
  induction m with
  | zero =>
    intro i hi hv
    refine Two.step (fun k => join_Hash.l0.eq_2 ..) (fun k => peristyleref8_Hash.l0.eq_2 ..) (Two.not (by omega) (by omega) ?_)
    simp only [in_eq, within_eq, Option.bind_some]
    refine Two.ite Iff.rfl (fun c => ?_) (fun _ => Two.ret _ ⟨by show (0 : Int) ≤ 0; omega, by show (0 : Int) < 4294967296; omega⟩)
    have c := of_decide_eq_true c
    obtain ⟨s, rfl⟩ := Int.eq_ofNat_of_zero_le c.1
    exact Two.bind (hash_two l hl (fun j hj => hv j (by omega)) s (by omega)) (fun r hr => Two.ret _ hr)
  | succ m ih =>
    intro i hi hv
    refine Two.step (fun k => join_Hash.l0.eq_2 ..) (fun k => peristyleref8_Hash.l0.eq_2 ..) (Two.both (by omega) (by omega) (Two.both (by omega) (by omega) (Two.both (by omega) (by omega) ?_)))
    rw [rd29, wnext i (by omega)]
    refine Two.bindEv (cv_cost _) (cv_ref _) (Two.ite Iff.rfl (fun c => ih (i + 1) (by omega) (fun j hj => ?_)) (fun _ => Two.ret _ ⟨by show (0 : Int) ≤ 0; omega, by show (0 : Int) < 4294967296; omega⟩))
    rcases Nat.lt_or_ge j i with g | g
    · exact hv j g
    · obtain rfl : j = i := by omega
      exact c
theorem Hash_two (l : List S29) (a1 : Int) : Two (fun k => join_Hash.f k l a1) (fun k => peristyleref8_Hash.f k l a1) (fun r => 0 ≤ r.1 ∧ r.1 < 4294967296) := by
  refine Two.congr (fun k => join_Hash.f.eq_1 ..) (fun k => peristyleref8_Hash.f.eq_1 ..) (Two.ite Iff.rfl (fun _ => Two.ret _ ⟨by show (0 : Int) ≤ 0; omega, by show (0 : Int) < 4294967296; omega⟩) (fun h => ?_))
  exact Hash_l0 l (by omega) a1 l.length 0 (by omega) (fun j hj => by omega)
theorem law_of (hA : ∃ K, ∀ k, K ≤ k → peristylelaw8_awake.f k = some true) (l : List S29) (a1 : Int) : ∃ k, peristylelaw8_JoinHashMatchesSpec.f k l a1 = some true := by
  obtain ⟨KA, hKA⟩ := hA
  obtain ⟨⟨n, f⟩, ⟨K1, h1⟩, ⟨K2, h2⟩, hr⟩ := (Hash_two l a1).evs
  have p1 : join_Hash.f (K1 + K2 + KA) l a1 = some (n, f) := h1 _ (by omega)
  have p2 : peristyleref8_Hash.f (K1 + K2 + KA) l a1 = some (n, f) := h2 _ (by omega)
  have p3 := hKA (K1 + K2 + KA) (by omega)
  have r1 : 0 ≤ n := hr.1
  have r2 : n < 4294967296 := hr.2
  refine ⟨K1 + K2 + KA, ?_⟩
  simp [peristylelaw8_JoinHashMatchesSpec.f, p1, p2, p3, r1, r2]

theorem awake100 : peristylelaw8_awake.f 100 = some true := by kernel_rfl
theorem awakeEv : ∃ K, ∀ k, K ≤ k → peristylelaw8_awake.f k = some true := ⟨100, fun k hk => at_rounds peristylelaw8_awake.mono hk awake100⟩
theorem JoinHashMatchesSpec : ∀ (l0 : List (S29)) (a1 : Int), l0.length ≤ 9223372036854775807 → (∀ z1 ∈ l0, ok29 z1) → (Lit.int .i64 a1).wf = true → ∃ k, peristylelaw8_JoinHashMatchesSpec.f k l0 a1 = some true :=
  fun l0 a1 _ _ _ => law_of awakeEv l0 a1
end Go.Proofs.YthdhdfolblhhgaaDoor.H.Pure
