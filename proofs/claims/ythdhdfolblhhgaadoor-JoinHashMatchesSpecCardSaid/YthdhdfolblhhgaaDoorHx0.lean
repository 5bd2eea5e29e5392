-- Printed by a program of this session (a patched print).
import Derived.Test.YthdhdfolblhhgaaDoorProg
import Derived.Below
import Derived.Deep.Draws
import Derived.Deep.AppendLies
import Derived.Maps.AppendAt
import Derived.OwnWalk
import Derived.Laws.BytesArg
import Derived.Laws.MakeOwn
import Derived.Laws.OwnMore
import Derived.Deep.OwnRows
import Derived.Tactics
import Derived.Lib.ConvBytes
import Derived.Laws.Slices
import Derived.WalkKit
import Derived.KernelRfl
import Derived.RowKit3
import Derived.Deep.LoopGhost
import Derived.Deep.QuietTactic
import Derived.BigQuiet
import Derived.WideLaws
import Derived.Deep.DeepCutAuto
import Derived.Deep.CutBlock
import Derived.Deep.RegionHeld3
import Derived.Laws.Rows
import Derived.Lib.AppendStr
import Derived.ArgAppend
import Derived.Laws.IdiomCopy
import Derived.OrdersHeld
import Derived.Laws.BitsLemmas
import Derived.RowKit
import Derived.WalkSpells
import Derived.Lib.SliceRun
import Derived.Deep.RegionLaw
import Derived.Lib.AppendIntMem
import Derived.Lib.LaidTab
import Derived.Test.YthdhdfolblhhgaaDoorSh
import Derived.Test.YthdhdfolblhhgaaDoorWWords
import Derived.Test.YthdhdfolblhhgaaDoorWLast
import Derived.Test.YthdhdfolblhhgaaDoorWTab
import Derived.Test.YthdhdfolblhhgaaDoorWFour
import Derived.Test.YthdhdfolblhhgaaDoorWQPut
import Derived.Test.YthdhdfolblhhgaaDoorWApart
import Derived.Test.YthdhdfolblhhgaaDoorWArr
import Derived.Test.YthdhdfolblhhgaaDoorWZeros
import Derived.Test.YthdhdfolblhhgaaDoorWFoot
import Derived.Test.YthdhdfolblhhgaaDoorWKept
import Derived.Test.YthdhdfolblhhgaaDoorWShare
import Derived.Test.YthdhdfolblhhgaaDoorWN
import Derived.Test.YthdhdfolblhhgaaDoorWFootNe
import Derived.Test.YthdhdfolblhhgaaDoorWAt
import Derived.Test.YthdhdfolblhhgaaDoorWEqStruct
import Derived.Test.YthdhdfolblhhgaaDoorWRepsOne
import Derived.Test.YthdhdfolblhhgaaDoorWInv
import Derived.Test.YthdhdfolblhhgaaDoorWInvWords
import Derived.Test.YthdhdfolblhhgaaDoorWGuard
import Derived.Test.YthdhdfolblhhgaaDoorWNEv
import Derived.Test.YthdhdfolblhhgaaDoorWMore
namespace Go.Proofs.YthdhdfolblhhgaaDoor.H
open Go.RowKit Go.Proofs.YthdhdfolblhhgaaDoorW.PrintWords Go.Proofs.YthdhdfolblhhgaaDoorW.PrintLast Go.Proofs.YthdhdfolblhhgaaDoorW.PrintMore
attribute [local go_sem] max2_int min2_int max_two min_two max_three min_three max_four min_four   -- for this text's walks alone
set_option linter.unusedVariables false
set_option linter.unusedSimpArgs false



def errW : Option Int → Value
  | none => .nilIface
  | some c => .iface 0 (.int .i64 c)
theorem errW_none : errW none = .nilIface := rfl
theorem errW_some (c : Int) : errW (some c) = .iface 0 (.int .i64 c) := rfl

theorem info9 : (Tryd.prog.info? 9).map (fun i => (i.zero, i.size, i.bytes)) = some (some (.string ⟨#[]⟩), 1, 16) := by kernel_rfl
theorem info29 : (Tryd.prog.info? 29).map (fun i => (i.zero, i.size, i.bytes)) = some (some (.agg #[(.int .i64 0), (.int .i64 0), (.string ⟨#[]⟩)]), 3, 32) := by kernel_rfl
-- the values' own types
/-! ### this session's own words: a slice that is nil just where it is empty; '== nil' -/
theorem C_isSome {α : Type} {d : Kd α} {w : World} {A : Option Addr} {n : Nat} {xs : List α} (h : d.C w A n xs) (hn : 0 < n) : A.isNone = false := by
 obtain ⟨_, _, h3⟩ := h
 obtain ⟨ad, rfl, _⟩ := h3 hn
 rfl
theorem isEmpty_false {α : Type} {xs : List α} (h : xs.length ≠ 0) : xs.isEmpty = false := by
 cases xs with
 | nil => exact absurd rfl h
 | cons _ _ => rfl
theorem nil_same {α : Type} {d : Kd α} {w : World} {A : Option Addr} {xs : List α} (h : d.C w A xs.length xs) (hn : xs = [] → A = none) : A.isNone = xs.isEmpty := by
 cases xs with
 | nil => rw [hn rfl]; rfl
 | cons x xs => rw [C_isSome h (Nat.succ_pos _)]; rfl
def Kd.nslice {α : Type} (e : Nat) (d : Kd α) : Kd (List α) where
  sz := 1
  E := e :: d.E
  K := fun w xs cs => ∃ A c, cs = [.slice A xs.length c] ∧ xs.length ≤ c ∧ d.C w A xs.length xs ∧ (xs = [] → A = none)
  M := fun w base ok xs cs => ∃ v, cs = [v] ∧ d.R e w base ok v xs ∧ (xs = [] → v = .slice none 0 0)
  K_len := by
    rintro w x cs ⟨A, c, rfl, _⟩
    rfl
  K_one := by
    rintro w x cs ⟨A, c, rfl, _⟩ u hu
    rw [List.mem_singleton.1 hu]
    rfl
  K_below := by
    rintro w w1 x cs hb ⟨A, c, rfl, hl, hr, hn⟩
    exact ⟨A, c, rfl, hl, Kd.C_below hr hb, hn⟩
  K_of_M := by
    rintro w base ok x cs ⟨v, rfl, h, hn⟩
    obtain ⟨A, c, rfl, hl, hr⟩ := Kd.R_reads h
    exact ⟨A, c, rfl, hl, hr, fun he => by have := hn he; injection this⟩
  M_mono := by
    rintro w base ok ok' x cs hok ⟨v, rfl, h, hn⟩
    exact ⟨v, rfl, Kd.R_mono h hok, hn⟩
  M_bound := by
    rintro w base ok x cs ⟨v, rfl, h, hn⟩
    exact ⟨v, rfl, Kd.R_bound h, hn⟩
  M_move := by
    rintro w w1 base ok x cs hm ⟨v, rfl, h, hn⟩
    exact ⟨v, rfl, Kd.R_move h hm, hn⟩
  M_lower := by
    rintro w base base' ok x cs hb ⟨v, rfl, h, hn⟩
    exact ⟨v, rfl, Kd.R_lower h hb, hn⟩
theorem run_eql_nil {P : Program} (w : World) (t e : TypeId) (a : Option Addr) (n c : Nat) (h : P.underlying t = some (.slice e)) :
    (binOp .eql t (.slice a n c) (.slice none 0 0)).run P w = .ok (.bool a.isNone) w := Lib.run_eql_slice_nil w t e a n c 0 0 h
theorem run_neq_nil {P : Program} (w : World) (t e : TypeId) (a : Option Addr) (n c : Nat) (h : P.underlying t = some (.slice e)) :
    (binOp .neq t (.slice a n c) (.slice none 0 0)).run P w = .ok (.bool (!a.isNone)) w := run_neq_slice_nil_any w t e a n c 0 0 h
theorem Kd.heap_nslice {α : Type} {d : Kd α} (e : Nat) (hd : Kd.Heap d) : Kd.Heap (Kd.nslice e d) := ⟨by
  rintro w w1 x cs hb ⟨A, c, rfl, hl, hr, hn⟩
  exact ⟨A, c, rfl, hl, hd.C hb hr, hn⟩⟩
theorem bne_nil_ (l : List UInt8) : (l != []) = !l.isEmpty := by cases l <;> rfl
/-- The library's table of tens as it was laid, and a variable of the library that holds some number. -/
def Glob (w : World) : Prop := Lib.TabIs Tryd.prog w "internal/strconv.uint64pow10" .u64 Lib.pow10Tab ∧ ∃ m, w.cell? ⟨1, 0, none⟩ = some (.int .i64 m)
theorem glob_named : Tryd.prog.globalNamed "internal/strconv.uint64pow10" = some 0 := by kernel_rfl
theorem Glob_below {w w' : World} (h : Glob w) (hb : Below w.heap.size w w') : Glob w' := by
 obtain ⟨h, m, hm⟩ := h
 refine ⟨?_, m, (hb.cell (World.block_lt_of_cell? w _ hm)).trans hm⟩
 unfold Lib.TabIs World.var? at *
 rw [glob_named] at h ⊢
 simp only [Option.bind_some] at h ⊢
 have hlt : 0 < w.heap.size := by
  apply Classical.byContradiction
  intro hn
  rw [Array.getElem?_eq_none (by omega)] at h
  simp at h
 rw [hb.block 0 hlt]
 exact h
/-! #### struct type 29 -/
structure S29 where
  f0 : Int
  f1 : Int
  f2 : ByteArray
def z29 : S29 := ⟨(0 : Int), (0 : Int), (⟨#[]⟩ : ByteArray)⟩
def k29 : Kd S29 := Kd.iso (Kd.pair (Kd.int .i64) (Kd.pair (Kd.int .i64) Kd.string)) (fun x : S29 => (x.f0, x.f1, x.f2))
theorem k29_open {w : World} {x : S29} {cs : List Value} (h : k29.K w x cs) : cs = [.int .i64 x.f0, .int .i64 x.f1, .string x.f2] := by
 obtain ⟨_, _, rfl, rfl, ⟨_, _, rfl, rfl, rfl⟩⟩ := h
 exact rfl
theorem k29_openM {w : World} {base : Nat} {ok : Nat → Prop} {x : S29} {cs : List Value} (h : k29.M w base ok x cs) : cs = [.int .i64 x.f0, .int .i64 x.f1, .string x.f2] := by
 obtain ⟨_, _, rfl, rfl, ⟨_, _, rfl, rfl, rfl⟩⟩ := h
 exact rfl
theorem k29_mk (w : World) (x : S29)  : k29.K w x [.int .i64 x.f0, .int .i64 x.f1, .string x.f2] := ⟨[.int .i64 x.f0], [.int .i64 x.f1, .string x.f2], rfl, rfl, ⟨[.int .i64 x.f1], [.string x.f2], rfl, rfl, rfl⟩⟩
theorem k29_mkM (w : World) (base : Nat) (ok : Nat → Prop) (x : S29)  : k29.M w base ok x [.int .i64 x.f0, .int .i64 x.f1, .string x.f2] := ⟨[.int .i64 x.f0], [.int .i64 x.f1, .string x.f2], rfl, rfl, ⟨[.int .i64 x.f1], [.string x.f2], rfl, rfl, rfl⟩⟩
def rd_T29 (xs : List S29) (i : Int) : S29 := xs.getD i.toNat z29
theorem at_T29 {w : World} {A : Option Addr} {n : Nat} {xs : List S29} (h : Kd.C k29 w A n xs) (i : Int) (h0 : 0 ≤ i) (h1 : i < n) : ∃ ad , A = some ad ∧ w.cell? (ad.add (i.toNat * 3)) = some (.int .i64 (rd_T29 xs i).f0) ∧ w.cell? ⟨(ad.add (i.toNat * 3)).block, (ad.add (i.toNat * 3)).off + 1, none⟩ = some (.int .i64 (rd_T29 xs i).f1) ∧ w.cell? ⟨(ad.add (i.toNat * 3)).block, (ad.add (i.toNat * 3)).off + 2, none⟩ = some (.string (rd_T29 xs i).f2) := by
 obtain ⟨ad, c, e, _, hK, hc0⟩ := Kd.C_get h z29 i h0 h1
 have hc : ∀ j u, c[j]? = some u → w.cell? (ad.add (i.toNat * 3 + j)) = some u := hc0
 obtain rfl := k29_open hK
 exact ⟨ad, e, hc 0 _ rfl, by rw [← add_field _ _ 1 (by omega)]; exact hc 1 _ rfl, by rw [← add_field _ _ 2 (by omega)]; exact hc 2 _ rfl⟩
def rd_L3 (xs : List (List S29)) (i : Int) : (List S29) := xs.getD i.toNat ([] : List S29)
theorem at_L3 {w : World} {A : Option Addr} {n : Nat} {xs : List (List S29)} (h : Kd.C (Kd.slice 29 k29) w A n xs) (i : Int) (h0 : 0 ≤ i) (h1 : i < n) : ∃ ad A0 c0, A = some ad ∧ w.cell? (ad.add i.toNat) = some (.slice A0 (rd_L3 xs i).length c0) ∧ (rd_L3 xs i).length ≤ c0 ∧ k29.C w A0 (rd_L3 xs i).length (rd_L3 xs i) := by
 obtain ⟨ad, c, e, _, hK, hc0⟩ := Kd.C_get h ([] : List S29) i h0 h1
 have hc : ∀ j u, c[j]? = some u → w.cell? (ad.add (i.toNat * 1 + j)) = some u := hc0
 obtain ⟨A0, c0, rfl, l0, g0⟩ := hK
 exact ⟨ad, A0, c0, e, by have hq := hc 0 _ rfl; rwa [Nat.mul_one, Nat.add_zero] at hq, l0, g0⟩
theorem sqa {α : Type} (l : List α) (i : Nat) (a : α) : l.toArray.setIfInBounds i a = (l.set i a).toArray := List.setIfInBounds_toArray ..
theorem sqb {α : Type} (a x : α) (l : List α) : (a :: l).set 0 x = x :: l := rfl
theorem sqc {α : Type} (a x : α) (l : List α) (n : Nat) : (a :: l).set (n + 1) x = a :: l.set n x := rfl
theorem sqz {p q r : Prop} (e : r) (H : q) (h : r → q → p := by intro hy_ H; first | (rw [hy_]; with_reducible exact H) | (have H2_ := (Option.bind_some _ _).symm.trans H; rw [hy_]; with_reducible exact H2_) | (have H2_ := (Option.bind_some _ _).symm.trans H; with_reducible exact H2_) | with_reducible exact H | (rw [hy_]; exact H) | exact H) : p := h e H
end Go.Proofs.YthdhdfolblhhgaaDoor.H
