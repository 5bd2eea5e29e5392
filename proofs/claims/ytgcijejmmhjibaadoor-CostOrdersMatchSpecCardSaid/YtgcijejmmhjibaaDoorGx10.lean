-- Printed by a program of this session (a patched print).
import Derived.Test.YtgcijejmmhjibaaDoorGx0
import Derived.Test.YtgcijejmmhjibaaDoorGx8
namespace Go.Proofs.YtgcijejmmhjibaaDoor.G
open Go.RowKit Go.Proofs.YtgcijejmmhjibaaDoorW.PrintWords Go.Proofs.YtgcijejmmhjibaaDoorW.PrintLast Go.Proofs.YtgcijejmmhjibaaDoorW.PrintMore
attribute [local go_sem] max2_int min2_int max_two min_two max_three min_three max_four min_four   -- for this text's walks alone
set_option linter.unusedVariables false
set_option linter.unusedSimpArgs false

/-! ### peristyleref10_grown: function 52 (by hand) -/
def zdel52 : Value := (.agg #[(.int .i64 0), (.slice none 0 0)])
theorem zerodel52 : ∀ w, (zeroValue 93).run Tryd.prog w = .ok zdel52 w := by
 intro w
 have h : (Tryd.prog.info? 93).map (·.zero) = some (some zdel52) := by kernel_rfl
 obtain ⟨i, hi, hz⟩ := Option.map_eq_some_iff.1 h
 simp [zeroValue, typeInfo, hi, hz]
set_option maxRecDepth 10000 in
theorem delete52 {α : Type} (d : Kd α) (hsz : d.sz = 2) {W : World} (base : Nat) {g n c : Nat} {k : Int} {xs : List α} {ok : Nat → Prop} (HO : d.R 93 W base ok (.slice (some ⟨g, 0, none⟩) n c) xs) (hk0 : 0 ≤ k) (hk : k < n) {j : Int} (hj : j = k + 1) {w0 : World} (HB : Below base w0 W) :
    Calls Tryd.prog 52 #[.slice (some ⟨g, 0, none⟩) n c, .int .i64 k, .int .i64 j] W fun e w1 => e = .returned (.slice (some ⟨g, 0, none⟩) (n - 1) c) ∧ d.R 93 w1 base ok (.slice (some ⟨g, 0, none⟩) (n - 1) c) (xs.eraseIdx k.toNat) ∧ Below base w0 w1 ∧ W.grownBy w1 (some g) := by
 subst hj
 have hnc := (Kd.R_reads' HO).2.1
 have hb63 := (Kd.R_reads' HO).2.2
 obtain ⟨m, rfl⟩ := Int.eq_ofNat_of_zero_le hk0
 obtain ⟨p, rfl⟩ : ∃ p, n = p + 1 := ⟨n - 1, by omega⟩
 have HR := Aside0.mk HO
 have HB_ := Aside0.mk HB
 clear HB
 have hmn : m < p + 1 := by omega
 clear HO hk0
 have q1 : decide ((m : Int) ≤ (m : Int) + 1) = true := decide_eq_true (by omega)
 have q2 : decide ((m : Int) + 1 ≤ ((p + 1 : Nat) : Int)) = true := decide_eq_true (by omega)
 have q3 : ((m : Int) == (m : Int) + 1) = false := by simp; omega
 have q4 : decide ((m : Int) ≤ ((p + 1 : Nat) : Int)) = true := decide_eq_true (by omega)
 have q5 : decide ((0 : Int) ≤ (m : Int)) = true := decide_eq_true (by omega)
 have q6 : decide ((0 : Int) ≤ (m : Int) + 1) = true := decide_eq_true (by omega)
 have q7 : decide (((p + 1 : Nat) : Int) ≤ (c : Int)) = true := decide_eq_true (by omega)
 have q8 : decide ((m : Int) ≤ (c : Int)) = true := decide_eq_true (by omega)
 obtain ⟨A, hA, hA2⟩ : ∃ A : Addr, (if c = m + 1 then some (⟨g, 0, none⟩ : Addr) else some ⟨g, (m + 1) * 2, none⟩) = some A ∧ Hid (some A = if c = m + 1 then some ⟨g, 0, none⟩ else (some (⟨g, 0, none⟩ : Addr)).map (·.add ((m + 1) * d.sz))) := by
  by_cases h : c = m + 1
  · exact ⟨⟨g, 0, none⟩, by simp [h], by simp [Hid, h]⟩
  exact ⟨⟨g, (m + 1) * 2, none⟩, by simp [h], by simp [Hid, h, hsz, Addr.add_lit]⟩
 have hB := Aside0.mk (show base ≤ W.drew.heap.size from by
  have h1 := Kd.R_base HR.out g (by simp [Value.ownBlock])
  have h2 := Kd.R_lt HR.out g (by simp [Value.ownBlock])
  show base ≤ W.heap.size
  omega)
 have HR2 := Aside0.mk (Kd.R_drew HR.out)
 have hp0 : (0 : Int) ≤ (m : Int) + 1 := by omega
 have hp1 : (m : Int) + 1 ≤ ((p + 1 : Nat) : Int) := by omega
 have hp2 : ((m : Int) + 1).toNat = m + 1 := by omega
 have hp3 : m ≤ c := by omega
 have hp4 : p + 1 ≤ c := hnc
 have hp5 : m ≤ p := by omega
 go_enter Tryd.func52, Tryd.ntmps52
 go_wp2
 go_region_law (refine Kd.R_delete_step d (w0 := W.drew) base (by rfl) (.tmp 22) (.tmp 25) 91 93 (by rfl) Tryd.underlying91 (by rw [hsz]; kernel_rfl) (g := g) (n := p + 1) (c := c) (k := m) (m := p + 1 - (m + 1)) (c2 := c - (m + 1)) (A := some A) (by simp [Act.eval, Act.put]) (by simp [Act.eval, Act.put]) hA2 rfl HR2.out hmn (Below.refl _ _) hB.out (fun w1 ho hb hg => ?_))
 have ho2 : d.R 93 w1 base ok (.slice (some ⟨g, 0, none⟩) p c) (xs.eraseIdx m) := ho
 have HO2 := Aside0.mk ho2
 have HG2 := Aside0.mk hg
 clear ho ho2 hb hg
 have q9 : decide ((p : Int) ≤ ((p + 1 : Nat) : Int)) = true := decide_eq_true (by omega)
 have q10 : decide ((0 : Int) ≤ (p : Int)) = true := decide_eq_true (by omega)
 obtain ⟨w2, hclr, ho3, hg3⟩ := R_clear (P := Tryd.prog) d 91 93 0 Tryd.underlying91 zdel52 [(.int .i64 0), (.slice none 0 0)] zerodel52 (by kernel_rfl) (by simp [Value.oneCell']) (by rw [hsz]; rfl) (g := g) (n := p) (c := c) (off := p * 2) (c2 := c - p) (by rw [hsz]) hp4 HO2.out
 go_wp2
 go_ret
 have hgg := grownBy_two (show W.grownBy w1 (some g) from ⟨HG2.out.os, HG2.out.tape, HG2.out.output, HG2.out.size, HG2.out.block⟩) hg3
 exact ⟨by simp, ho3, HB_.out.grown hgg hB.out (fun k hk => by injection hk with hk; subst hk; exact Kd.R_base HR.out _ (by simp [Value.ownBlock])), hgg⟩
theorem delete52S {α : Type} (d : Kd α) (hsz : d.sz = 2) {W : World} (base : Nat) {g n c : Nat} {k : Int} {xs : List α} {ok : Nat → Prop} (HO : Kd.S d 93 W base ok (.slice (some ⟨g, 0, none⟩) n c) xs) (hk0 : 0 ≤ k) (hk : k < n) {j : Int} (hj : j = k + 1) {w0 : World} (HB : Below base w0 W) :
    Calls Tryd.prog 52 #[.slice (some ⟨g, 0, none⟩) n c, .int .i64 k, .int .i64 j] W fun e w1 => e = .returned (.slice (some ⟨g, 0, none⟩) (n - 1) c) ∧ Kd.S d 93 w1 base ok (.slice (some ⟨g, 0, none⟩) (n - 1) c) (xs.eraseIdx k.toNat) ∧ Below base w0 w1 ∧ W.grownBy w1 (some g) := by
 obtain ⟨f, HR⟩ := HO
 exact (delete52 (Kd.tag f d) hsz base HR hk0 hk hj HB).mono (fun e w1 ⟨h1, h2, h3⟩ => ⟨h1, Kd.S_erase h2, h3⟩)
theorem delete52N {α : Type} (d : Kd α) (hsz : d.sz = 2) {W : World} (base : Nat) {g n c : Nat} {k : Int} {xs : List α} {ok : Nat → Prop} (HO : Kd.N d 93 W base ok (.slice (some ⟨g, 0, none⟩) n c) xs) (hk0 : 0 ≤ k) (hk : k < n) {j : Int} (hj : j = k + 1) {w0 : World} (HB : Below base w0 W) :
    Calls Tryd.prog 52 #[.slice (some ⟨g, 0, none⟩) n c, .int .i64 k, .int .i64 j] W fun e w1 => e = .returned (.slice (some ⟨g, 0, none⟩) (n - 1) c) ∧ Kd.N d 93 w1 base ok (.slice (some ⟨g, 0, none⟩) (n - 1) c) (xs.eraseIdx k.toNat) ∧ Below base w0 w1 ∧ W.grownBy w1 (some g) := by
 obtain ⟨hown, rows, hl, hR, hf⟩ := HO
 exact (delete52 (Kd.raw d.sz) hsz base (Kd.raw_any hR) hk0 hk hj HB).mono (fun e w1 ⟨h1, h2, h3, h4⟩ => ⟨h1, Kd.N_erased hown hl hf h2 h4, h3, h4⟩)
end Go.Proofs.YtgcijejmmhjibaaDoor.G
