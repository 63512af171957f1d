/- Part 1 of the proofs of this seat's rows: contracts of the functions that they reach. -/
import Derived.Test.YtefiapcfdabfpaaDoorProg
import Derived.Below
import Derived.Deep.Draws
import Derived.Deep.AppendLies
import Derived.Maps.AppendAt
import Derived.OwnWalk
import Derived.Laws.BytesArg
import Derived.Laws.MakeOwn
import Derived.Laws.OwnMore
import Derived.Deep.OwnRows
import Derived.Tactics
import Derived.Lib.ConvBytes
import Derived.Laws.Slices
import Derived.WalkKit
import Derived.KernelRfl
import Derived.RowKit3
import Derived.Deep.LoopGhost
import Derived.Deep.QuietTactic
import Derived.BigQuiet
import Derived.WideLaws
import Derived.Deep.DeepCutAuto
import Derived.Deep.CutBlock
import Derived.Deep.RegionHeld3
import Derived.Laws.Rows
import Derived.Lib.AppendStr
import Derived.ArgAppend
import Derived.Laws.IdiomCopy
import Derived.OrdersHeld
import Derived.Laws.BitsLemmas
import Derived.RowKit
import Derived.Test.YtefiapcfdabfpaaDoorWWords
import Derived.Test.YtefiapcfdabfpaaDoorWLast
import Derived.Test.YtefiapcfdabfpaaDoorWTab
import Derived.Test.YtefiapcfdabfpaaDoorWFour
import Derived.Test.YtefiapcfdabfpaaDoorWQPut
import Derived.Test.YtefiapcfdabfpaaDoorWApart
import Derived.Test.YtefiapcfdabfpaaDoorWArr
import Derived.Test.YtefiapcfdabfpaaDoorWZeros
import Derived.Test.YtefiapcfdabfpaaDoorWFoot
import Derived.Test.YtefiapcfdabfpaaDoorWKept
import Derived.Test.YtefiapcfdabfpaaDoorWShare
import Derived.Test.YtefiapcfdabfpaaDoorWN
import Derived.Test.YtefiapcfdabfpaaDoorWFootNe
import Derived.Test.YtefiapcfdabfpaaDoorWAt
import Derived.Test.YtefiapcfdabfpaaDoorWEqStruct
import Derived.Test.YtefiapcfdabfpaaDoorWRepsOne
import Derived.Test.YtefiapcfdabfpaaDoorWInv
import Derived.Test.YtefiapcfdabfpaaDoorWInvWords
import Derived.Test.YtefiapcfdabfpaaDoorWGuard
import Derived.Test.YtefiapcfdabfpaaDoorWNEv
import Derived.Test.YtefiapcfdabfpaaDoorWMore
import Derived.Shelf.Small.Strs
import Derived.Shelf.Strconv.Atoi
import Derived.Shelf.Strconv.Itoa0
import Derived.Shelf.Strconv.Itoa1
import Derived.Shelf.LaysM
import Derived.Shelf.Strconv.Itoa2
import Derived.Shelf.Strconv.Itoa3
import Derived.Shelf.Strconv.AtoiErrFast
import Derived.Shelf.Strconv.ParseIntEmpty
import Derived.Shelf.Strconv.AtoiFail
import Derived.Shelf.Strconv.Clone
import Derived.Shelf.Strconv.SyntaxError
import Derived.Shelf.LaysC
import Derived.Shelf.Strconv.ToError
import Derived.Shelf.Strconv.Lower
import Derived.Shelf.Strconv.ParseUint10
import Derived.Shelf.Strconv.ParseUint10Empty
import Derived.Shelf.Strconv.ParseUint10Any
import Derived.Shelf.Strconv.ParseInt10
import Derived.Shelf.Strconv.AtoiLong
import Derived.Shelf.Strconv.AtoiInnerAll
import Derived.Shelf.Strconv.RangeError
import Derived.Shelf.Strconv.ToErrorRange
import Derived.Shelf.Strconv.AtoiAll
import Derived.Shelf.Strconv.ErrVarAll
import Derived.Shelf.Strings.Search1
import Derived.Shelf.Strings.Search2
import Derived.Shelf.Strings.Search3
import Derived.Shelf.Strings.Count
import Derived.Shelf.Strings.Shaped
import Derived.Shelf.Strings.Split
import Derived.Shelf.Unicode.DecodeSlow
import Derived.Shelf.Slices.Turned
import Derived.Ground.Names2Prog
import Derived.Shelf.Slices.Clone
import Derived.Ground.SlgfProg
import Derived.Shelf.SlicesE.IndexFunc
import Derived.Lib.ItoaMem
import Derived.Lib.SmallJoins
import Derived.Lib.AppendIntMem
import Derived.WalkSpells
import Derived.Lib.ItoaLen
import Derived.Lib.AtoiErrMem
import Derived.Lib.IndexLaws
import Derived.Tactics2
import Derived.Defers
import Derived.Recover
import Derived.Laws.Pointers
set_option linter.unusedVariables false
set_option linter.unusedSimpArgs false
namespace Go.Proofs.YtefiapcfdabfpaaDoor.P
open Go.RowKit Go.Proofs.YtefiapcfdabfpaaDoorW.PrintWords Go.Proofs.YtefiapcfdabfpaaDoorW.PrintLast Go.Proofs.YtefiapcfdabfpaaDoorW.PrintMore
attribute [local go_sem] max2_int min2_int max_two min_two max_three min_three max_four min_four
set_option linter.unusedVariables false
set_option linter.unusedSimpArgs false

def errW : Option Int → Value
  | none => .nilIface
  | some c => .iface 0 (.int .i64 c)
theorem errW_none : errW none = .nilIface := rfl
theorem errW_some (c : Int) : errW (some c) = .iface 0 (.int .i64 c) := rfl

theorem info5 : (Tryd.prog.info? 5).map (fun i => (i.zero, i.size, i.bytes)) = some (some (.int .u8 0), 1, 1) := by kernel_rfl
theorem info9 : (Tryd.prog.info? 9).map (fun i => (i.zero, i.size, i.bytes)) = some (some (.string ⟨#[]⟩), 1, 16) := by kernel_rfl
def rd_L3 (xs : List (List ByteArray)) (i : Int) : (List ByteArray) := xs.getD i.toNat ([] : List ByteArray)
theorem at_L3 {w : World} {A : Option Addr} {n : Nat} {xs : List (List ByteArray)} (h : Kd.C (Kd.slice 9 Kd.string) w A n xs) (i : Int) (h0 : 0 ≤ i) (h1 : i < n) : ∃ ad A0 c0, A = some ad ∧ w.cell? (ad.add i.toNat) = some (.slice A0 (rd_L3 xs i).length c0) ∧ (rd_L3 xs i).length ≤ c0 ∧ Kd.string.C w A0 (rd_L3 xs i).length (rd_L3 xs i) := by
  obtain ⟨ad, c, e, _, hK, hc0⟩ := Kd.C_get h ([] : List ByteArray) i h0 h1
  have hc : ∀ j u, c[j]? = some u → w.cell? (ad.add (i.toNat * 1 + j)) = some u := hc0
  obtain ⟨A0, c0, rfl, l0, g0⟩ := hK
  exact ⟨ad, A0, c0, e, by have hq := hc 0 _ rfl; rwa [Nat.mul_one, Nat.add_zero] at hq, l0, g0⟩

/-! #### struct type 43 -/
structure S43 where
  f0 : Int
  f1 : Int
  f2 : Int
  f3 : Int
  f4 : Int
  f5 : ByteArray
  f6 : (List ByteArray)
def z43 : S43 := ⟨(0 : Int), (0 : Int), (0 : Int), (0 : Int), (0 : Int), (⟨#[]⟩ : ByteArray), ([] : List ByteArray)⟩
def k43 : Kd S43 := Kd.iso (Kd.pair (Kd.int .u8) (Kd.pair (Kd.int .i64) (Kd.pair (Kd.int .i64) (Kd.pair (Kd.int .i64) (Kd.pair (Kd.int .i64) (Kd.pair Kd.string (Kd.slice 9 Kd.string))))))) (fun x : S43 => (x.f0, x.f1, x.f2, x.f3, x.f4, x.f5, x.f6))
theorem k43_open {w : World} {x : S43} {cs : List Value} (h : k43.K w x cs) : ∃ A6 c6, cs = [.int .u8 x.f0, .int .i64 x.f1, .int .i64 x.f2, .int .i64 x.f3, .int .i64 x.f4, .string x.f5, .slice A6 x.f6.length c6] ∧ x.f6.length ≤ c6 ∧ Kd.string.C w A6 x.f6.length x.f6 := by
  obtain ⟨_, _, rfl, rfl, ⟨_, _, rfl, rfl, ⟨_, _, rfl, rfl, ⟨_, _, rfl, rfl, ⟨_, _, rfl, rfl, ⟨_, _, rfl, rfl, ⟨A6, c6, rfl, l6, g6⟩⟩⟩⟩⟩⟩⟩ := h
  exact ⟨A6, c6, rfl, l6, g6⟩
theorem k43_openM {w : World} {base : Nat} {ok : Nat → Prop} {x : S43} {cs : List Value} (h : k43.M w base ok x cs) : ∃ v6, cs = [.int .u8 x.f0, .int .i64 x.f1, .int .i64 x.f2, .int .i64 x.f3, .int .i64 x.f4, .string x.f5, v6] ∧ Kd.string.R 9 w base ok v6 x.f6 := by
  obtain ⟨_, _, rfl, rfl, ⟨_, _, rfl, rfl, ⟨_, _, rfl, rfl, ⟨_, _, rfl, rfl, ⟨_, _, rfl, rfl, ⟨_, _, rfl, rfl, ⟨v6, rfl, g6⟩⟩⟩⟩⟩⟩⟩ := h
  exact ⟨v6, rfl, g6⟩
theorem k43_mk (w : World) (x : S43) {A6 : Option Addr} {c6 : Nat} (l6 : x.f6.length ≤ c6) (g6 : Kd.string.C w A6 x.f6.length x.f6) : k43.K w x [.int .u8 x.f0, .int .i64 x.f1, .int .i64 x.f2, .int .i64 x.f3, .int .i64 x.f4, .string x.f5, .slice A6 x.f6.length c6] := ⟨[.int .u8 x.f0], [.int .i64 x.f1, .int .i64 x.f2, .int .i64 x.f3, .int .i64 x.f4, .string x.f5, .slice A6 x.f6.length c6], rfl, rfl, ⟨[.int .i64 x.f1], [.int .i64 x.f2, .int .i64 x.f3, .int .i64 x.f4, .string x.f5, .slice A6 x.f6.length c6], rfl, rfl, ⟨[.int .i64 x.f2], [.int .i64 x.f3, .int .i64 x.f4, .string x.f5, .slice A6 x.f6.length c6], rfl, rfl, ⟨[.int .i64 x.f3], [.int .i64 x.f4, .string x.f5, .slice A6 x.f6.length c6], rfl, rfl, ⟨[.int .i64 x.f4], [.string x.f5, .slice A6 x.f6.length c6], rfl, rfl, ⟨[.string x.f5], [.slice A6 x.f6.length c6], rfl, rfl, ⟨A6, c6, rfl, l6, g6⟩⟩⟩⟩⟩⟩⟩
theorem k43_mkM (w : World) (base : Nat) (ok : Nat → Prop) (x : S43) {v6 : Value} (g6 : Kd.string.R 9 w base ok v6 x.f6) : k43.M w base ok x [.int .u8 x.f0, .int .i64 x.f1, .int .i64 x.f2, .int .i64 x.f3, .int .i64 x.f4, .string x.f5, v6] := ⟨[.int .u8 x.f0], [.int .i64 x.f1, .int .i64 x.f2, .int .i64 x.f3, .int .i64 x.f4, .string x.f5, v6], rfl, rfl, ⟨[.int .i64 x.f1], [.int .i64 x.f2, .int .i64 x.f3, .int .i64 x.f4, .string x.f5, v6], rfl, rfl, ⟨[.int .i64 x.f2], [.int .i64 x.f3, .int .i64 x.f4, .string x.f5, v6], rfl, rfl, ⟨[.int .i64 x.f3], [.int .i64 x.f4, .string x.f5, v6], rfl, rfl, ⟨[.int .i64 x.f4], [.string x.f5, v6], rfl, rfl, ⟨[.string x.f5], [v6], rfl, rfl, ⟨v6, rfl, g6⟩⟩⟩⟩⟩⟩⟩
def rd_T43 (xs : List S43) (i : Int) : S43 := xs.getD i.toNat z43
theorem at_T43 {w : World} {A : Option Addr} {n : Nat} {xs : List S43} (h : Kd.C k43 w A n xs) (i : Int) (h0 : 0 ≤ i) (h1 : i < n) : ∃ ad A6 c6, A = some ad ∧ w.cell? (ad.add (i.toNat * 7)) = some (.int .u8 (rd_T43 xs i).f0) ∧ w.cell? ⟨(ad.add (i.toNat * 7)).block, (ad.add (i.toNat * 7)).off + 1, none⟩ = some (.int .i64 (rd_T43 xs i).f1) ∧ w.cell? ⟨(ad.add (i.toNat * 7)).block, (ad.add (i.toNat * 7)).off + 2, none⟩ = some (.int .i64 (rd_T43 xs i).f2) ∧ w.cell? ⟨(ad.add (i.toNat * 7)).block, (ad.add (i.toNat * 7)).off + 3, none⟩ = some (.int .i64 (rd_T43 xs i).f3) ∧ w.cell? ⟨(ad.add (i.toNat * 7)).block, (ad.add (i.toNat * 7)).off + 4, none⟩ = some (.int .i64 (rd_T43 xs i).f4) ∧ w.cell? ⟨(ad.add (i.toNat * 7)).block, (ad.add (i.toNat * 7)).off + 5, none⟩ = some (.string (rd_T43 xs i).f5) ∧ w.cell? ⟨(ad.add (i.toNat * 7)).block, (ad.add (i.toNat * 7)).off + 6, none⟩ = some (.slice A6 (rd_T43 xs i).f6.length c6) ∧ (rd_T43 xs i).f6.length ≤ c6 ∧ Kd.string.C w A6 (rd_T43 xs i).f6.length (rd_T43 xs i).f6 := by
  obtain ⟨ad, c, e, _, hK, hc0⟩ := Kd.C_get h z43 i h0 h1
  have hc : ∀ j u, c[j]? = some u → w.cell? (ad.add (i.toNat * 7 + j)) = some u := hc0
  obtain ⟨A6, c6, rfl, l6, g6⟩ := k43_open hK
  exact ⟨ad, A6, c6, e, hc 0 _ rfl, by rw [← add_field _ _ 1 (by omega)]; exact hc 1 _ rfl, by rw [← add_field _ _ 2 (by omega)]; exact hc 2 _ rfl, by rw [← add_field _ _ 3 (by omega)]; exact hc 3 _ rfl, by rw [← add_field _ _ 4 (by omega)]; exact hc 4 _ rfl, by rw [← add_field _ _ 5 (by omega)]; exact hc 5 _ rfl, by rw [← add_field _ _ 6 (by omega)]; exact hc 6 _ rfl, l6, g6⟩

def rd_L6 (xs : List (List S43)) (i : Int) : (List S43) := xs.getD i.toNat ([] : List S43)
theorem at_L6 {w : World} {A : Option Addr} {n : Nat} {xs : List (List S43)} (h : Kd.C (Kd.slice 43 k43) w A n xs) (i : Int) (h0 : 0 ≤ i) (h1 : i < n) : ∃ ad A0 c0, A = some ad ∧ w.cell? (ad.add i.toNat) = some (.slice A0 (rd_L6 xs i).length c0) ∧ (rd_L6 xs i).length ≤ c0 ∧ k43.C w A0 (rd_L6 xs i).length (rd_L6 xs i) := by
  obtain ⟨ad, c, e, _, hK, hc0⟩ := Kd.C_get h ([] : List S43) i h0 h1
  have hc : ∀ j u, c[j]? = some u → w.cell? (ad.add (i.toNat * 1 + j)) = some u := hc0
  obtain ⟨A0, c0, rfl, l0, g0⟩ := hK
  exact ⟨ad, A0, c0, e, by have hq := hc 0 _ rfl; rwa [Nat.mul_one, Nat.add_zero] at hq, l0, g0⟩

end Go.Proofs.YtefiapcfdabfpaaDoor.P

namespace Go.Proofs.YtefiapcfdabfpaaDoor.P
open Go.RowKit Go.Proofs.YtefiapcfdabfpaaDoorW.PrintWords
/-- A term as the program's node has it: kind, number, name, levels, parts, length. -/
inductive Tm where
  | node (kind num : Int) (name : ByteArray) (levels : List ByteArray) (kids : List Tm) (long : Int)
namespace Tm
def kind : Tm → Int | node k _ _ _ _ _ => k
def num : Tm → Int | node _ n _ _ _ _ => n
def name : Tm → ByteArray | node _ _ n _ _ _ => n
def levels : Tm → List ByteArray | node _ _ _ l _ _ => l
def kids : Tm → List Tm | node _ _ _ _ k _ => k
def long : Tm → Int | node _ _ _ _ _ l => l
end Tm
/-- A row of strings that is read, all of it in blocks of ok. -/
def RowS (w : World) (ok : Nat → Prop) (A : Option Addr) (l : List ByteArray) : Prop := ∀ (j : Nat) x, l[j]? = some x → ∃ b o, A = some ⟨b, o, none⟩ ∧ ok b ∧ w.cell? ⟨b, o + j, none⟩ = some (.string x)
/-- A row of pointers to blocks gs. -/
def RowP (w : World) (ok : Nat → Prop) (A : Option Addr) (gs : List Nat) : Prop := ∀ (j : Nat) g, gs[j]? = some g → ∃ b o, A = some ⟨b, o, none⟩ ∧ ok b ∧ w.cell? ⟨b, o + j, none⟩ = some (.pointer (some ⟨g, 0, none⟩))
/-- The block g holds the term t; all that it reaches lies in blocks of ok. -/
inductive Rep (w : World) (ok : Nat → Prop) : Nat → Tm → Prop
  | mk (g : Nat) (kind num : Int) (name : ByteArray) (levels : List ByteArray) (kids : List Tm) (long : Int) (Al : Option Addr) (cl : Nat) (Ak : Option Addr) (ck : Nat) (gs : List Nat)
      (hok : ok g) (h : w.heap[g]? = some (.cells #[.int .u8 kind, .int .i64 num, .string name, .slice Al levels.length cl, .slice Ak kids.length ck, .int .i64 long] 46 (0, 0)))
      (hl : levels.length ≤ cl) (hrl : RowS w ok Al levels) (hk : kids.length ≤ ck) (hgs : gs.length = kids.length) (hrk : RowP w ok Ak gs)
      (hr : ∀ (j : Nat) g' t', gs[j]? = some g' → kids[j]? = some t' → Rep w ok g' t') : Rep w ok g (.node kind num name levels kids long)
theorem cell_heap {w w' : World} {b : Nat} (h : w'.heap[b]? = w.heap[b]?) (o : Nat) : w'.cell? ⟨b, o, none⟩ = w.cell? ⟨b, o, none⟩ := by
  unfold World.cell?
  rw [h]
theorem RowS.move {w w' : World} {ok ok' : Nat → Prop} {A : Option Addr} {l : List ByteArray} (h : RowS w ok A l) (hm : ∀ b, ok b → b < w.heap.size → w'.heap[b]? = w.heap[b]? ∧ ok' b) : RowS w' ok' A l := fun j x hj => by
  obtain ⟨b, o, rfl, hb, hc⟩ := h j x hj
  have hlt : b < w.heap.size := by
    rcases Nat.lt_or_ge b w.heap.size with h0 | h0
    · exact h0
    · unfold World.cell? at hc
      rw [show w.heap[b]? = none from Array.getElem?_eq_none h0] at hc
      cases hc
  obtain ⟨h1, h2⟩ := hm b hb hlt
  exact ⟨b, o, rfl, h2, by rw [cell_heap h1, hc]⟩
theorem RowP.move {w w' : World} {ok ok' : Nat → Prop} {A : Option Addr} {l : List Nat} (h : RowP w ok A l) (hm : ∀ b, ok b → b < w.heap.size → w'.heap[b]? = w.heap[b]? ∧ ok' b) : RowP w' ok' A l := fun j x hj => by
  obtain ⟨b, o, rfl, hb, hc⟩ := h j x hj
  have hlt : b < w.heap.size := by
    rcases Nat.lt_or_ge b w.heap.size with h0 | h0
    · exact h0
    · unfold World.cell? at hc
      rw [show w.heap[b]? = none from Array.getElem?_eq_none h0] at hc
      cases hc
  obtain ⟨h1, h2⟩ := hm b hb hlt
  exact ⟨b, o, rfl, h2, by rw [cell_heap h1, hc]⟩
/-- A term stays where what it reaches stays. -/
theorem Rep.move {w w' : World} {ok ok' : Nat → Prop} {g : Nat} {t : Tm} (h : Rep w ok g t) (hm : ∀ b, ok b → b < w.heap.size → w'.heap[b]? = w.heap[b]? ∧ ok' b) : Rep w' ok' g t := by
  induction h with
  | mk g kind num name levels kids long Al cl Ak ck gs hok h hl hrl hk hgs hrk hr ih =>
    have hlt : g < w.heap.size := by
      rcases Nat.lt_or_ge g w.heap.size with h0 | h0
      · exact h0
      · rw [Array.getElem?_eq_none h0] at h; cases h
    obtain ⟨h1, h2⟩ := hm g hok hlt
    exact Rep.mk g kind num name levels kids long Al cl Ak ck gs h2 (h1.trans h) hl (hrl.move hm) hk hgs (hrk.move hm) ih
theorem Rep.stay {w w' : World} {ok : Nat → Prop} {g : Nat} {t : Tm} (h : Rep w ok g t) (hb : Below w.heap.size w w') : Rep w' ok g t := h.move fun b hb1 hlt => ⟨hb.block b hlt, hb1⟩
theorem Rep.weaken {w : World} {ok ok' : Nat → Prop} {g : Nat} {t : Tm} (h : Rep w ok g t) (hk : ∀ b, ok b → b < w.heap.size → ok' b) : Rep w ok' g t := h.move fun b hb1 hlt => ⟨rfl, hk b hb1 hlt⟩
theorem Rep.lt {w : World} {ok : Nat → Prop} {g : Nat} {t : Tm} (h : Rep w ok g t) : g < w.heap.size ∧ ok g := by
  cases h with
  | mk g kind num name levels kids long Al cl Ak ck gs hok h hl hrl hk hgs hrk hr =>
    rcases Nat.lt_or_ge g w.heap.size with h0 | h0
    · exact ⟨h0, hok⟩
    · rw [Array.getElem?_eq_none h0] at h; cases h
end Go.Proofs.YtefiapcfdabfpaaDoor.P

namespace Go.Proofs
open Go.Shelf
def Tryd.lays137_ren : Go.Shelf.Ren := ⟨fun | 137 => 91 | 217 => 108 | 266 => 119 | n => n, fun | 9 => 9 | 5 => 5 | 3 => 3 | n => n, fun | n => n⟩
theorem Tryd.lays137 : Go.Proofs.Lays.n137 Tryd.prog Tryd.lays137_ren := {
  mixed := by kernel_rfl
  f137 := Tryd.func91.trans (congrArg some (by kernel_rfl))
  f217 := Tryd.func108.trans (congrArg some (by kernel_rfl))
  f266 := Tryd.func119.trans (congrArg some (by kernel_rfl))
  t3 := Tryd.underlying3
  a3 := Tryd.isAgg3
  z3 := Tryd.sizeOf3
  v3 := Tryd.zeroValue3
  t5 := Tryd.underlying5
  a5 := Tryd.isAgg5
  z5 := Tryd.sizeOf5
  v5 := Tryd.zeroValue5
  t9 := Tryd.underlying9
  a9 := Tryd.isAgg9
  z9 := Tryd.sizeOf9
  v9 := Tryd.zeroValue9 }
open Go.RowKit in
theorem Tryd.strings_IndexByte (s : ByteArray) (c : Int) (w : World) :
    Calls Tryd.prog 91 #[.string s, .int .u8 c] w fun e w' => e = .returned (.int .i64 (Lib.indexByte s.data.toList c.toNat.toUInt8)) ∧ w' = w := Any.strings_IndexByte Tryd.lays137 s c w
def Tryd.laysM171_ren : Go.Shelf.Ren := ⟨fun | 171 => 97 | 243 => 111 | 246 => 121 | 283 => 130 | 284 => 131 | 285 => 132 | 286 => 133 | 129 => 142 | 317 => 141 | 318 => 143 | 319 => 144 | 320 => 145 | 337 => 152 | 338 => 153 | n => n, fun | 3 => 3 | 9 => 9 | 2 => 2 | 4 => 4 | 171 => 120 | 0 => 0 | 53 => 121 | 37 => 73 | 5 => 5 | 173 => 124 | 212 => 135 | 51 => 136 | 20 => 20 | 213 => 137 | 46 => 128 | 232 => 150 | 233 => 151 | n => n, fun | 17 => 3 | 18 => 6 | 19 => 7 | n => n⟩
theorem Tryd.laysM171 : Go.Proofs.LaysM.n171 Tryd.prog Tryd.laysM171_ren := {
  mixed := by kernel_rfl
  f129 := Tryd.func142.trans (congrArg some (by kernel_rfl))
  f171 := Tryd.func97.trans (congrArg some (by kernel_rfl))
  f243 := Tryd.func111.trans (congrArg some (by kernel_rfl))
  f246 := Tryd.func121.trans (congrArg some (by kernel_rfl))
  f283 := Tryd.func130.trans (congrArg some (by kernel_rfl))
  f284 := Tryd.func131.trans (congrArg some (by kernel_rfl))
  f285 := Tryd.func132.trans (congrArg some (by kernel_rfl))
  f286 := Tryd.func133.trans (congrArg some (by kernel_rfl))
  f317 := Tryd.func141.trans (congrArg some (by kernel_rfl))
  f318 := Tryd.func143.trans (congrArg some (by kernel_rfl))
  f319 := Tryd.func144.trans (congrArg some (by kernel_rfl))
  f320 := Tryd.func145.trans (congrArg some (by kernel_rfl))
  f337 := Tryd.func152.trans (congrArg some (by kernel_rfl))
  f338 := Tryd.func153.trans (congrArg some (by kernel_rfl))
  t0 := Tryd.underlying0
  a0 := Tryd.isAgg0
  z0 := Tryd.sizeOf0
  v0 := Tryd.zeroValue0
  t2 := Tryd.underlying2
  a2 := Tryd.isAgg2
  z2 := Tryd.sizeOf2
  v2 := Tryd.zeroValue2
  t3 := Tryd.underlying3
  a3 := Tryd.isAgg3
  z3 := Tryd.sizeOf3
  v3 := Tryd.zeroValue3
  t4 := Tryd.underlying4
  a4 := Tryd.isAgg4
  z4 := Tryd.sizeOf4
  v4 := Tryd.zeroValue4
  t5 := Tryd.underlying5
  a5 := Tryd.isAgg5
  z5 := Tryd.sizeOf5
  v5 := Tryd.zeroValue5
  t9 := Tryd.underlying9
  a9 := Tryd.isAgg9
  z9 := Tryd.sizeOf9
  v9 := Tryd.zeroValue9
  t20 := Tryd.underlying20
  a20 := Tryd.isAgg20
  z20 := Tryd.sizeOf20
  v20 := Tryd.zeroValue20
  t37 := Tryd.underlying73
  a37 := Tryd.isAgg73
  z37 := Tryd.sizeOf73
  v37 := Tryd.zeroValue73
  t46 := Tryd.underlying128
  a46 := Tryd.isAgg128
  z46 := Tryd.sizeOf128
  v46 := Tryd.zeroValue128
  t51 := Tryd.underlying136
  a51 := Tryd.isAgg136
  z51 := Tryd.sizeOf136
  v51 := Tryd.zeroValue136
  t53 := Tryd.underlying121
  a53 := Tryd.isAgg121
  z53 := Tryd.sizeOf121
  v53 := Tryd.zeroValue121
  t171 := Tryd.underlying120
  a171 := Tryd.isAgg120
  z171 := Tryd.sizeOf120
  v171 := Tryd.zeroValue120
  t173 := Tryd.underlying124
  a173 := Tryd.isAgg124
  z173 := Tryd.sizeOf124
  v173 := Tryd.zeroValue124
  t212 := Tryd.underlying135
  a212 := Tryd.isAgg135
  z212 := Tryd.sizeOf135
  v212 := Tryd.zeroValue135
  t213 := Tryd.underlying137
  a213 := Tryd.isAgg137
  z213 := Tryd.sizeOf137
  t232 := Tryd.underlying150
  a232 := Tryd.isAgg150
  z232 := Tryd.sizeOf150
  v232 := Tryd.zeroValue150
  t233 := Tryd.underlying151
  a233 := Tryd.isAgg151
  z233 := Tryd.sizeOf151
  v233 := Tryd.zeroValue151
  g17 := by kernel_rfl
  g18 := by kernel_rfl
  g19 := by kernel_rfl
  i0 := by kernel_rfl
  i2 := by kernel_rfl
  i3 := by kernel_rfl
  i4 := by kernel_rfl
  i5 := by kernel_rfl
  i9 := by kernel_rfl
  i20 := by kernel_rfl
  i37 := by kernel_rfl
  i46 := by kernel_rfl
  i51 := by kernel_rfl
  i53 := by kernel_rfl
  i171 := by kernel_rfl
  i173 := by kernel_rfl
  i212 := by kernel_rfl
  i232 := by kernel_rfl
  i233 := by kernel_rfl
  m17 := by kernel_rfl
  m18 := by kernel_rfl
  m19 := by kernel_rfl }
open Go.RowKit Go.Sort Go.Lib in
theorem Tryd.strconv_Itoa (n : Int) (h0 : -9223372036854775808 ≤ n) (h1 : n ≤ 9223372036854775807) (w : World) (htab : Lib.TabIs Tryd.prog w "internal/strconv.uint64pow10" .u64 Lib.pow10Tab) :
    Calls Tryd.prog 97 #[.int .i64 n] w fun e w' => e = .returned (.string ⟨(Lib.itoa n).toArray⟩) ∧ ∃ k os, w' = grow (w.drewN k) os := Any.strconv_Itoa Tryd.laysM171 n h0 h1 w htab
def Tryd.laysC172_ren : Go.Shelf.Ren := ⟨fun | 172 => 101 | 244 => 115 | 245 => 116 | 247 => 122 | 279 => 123 | 280 => 124 | 281 => 125 | 282 => 126 | 287 => 134 | 316 => 135 | 171 => 97 | 205 => 136 | 321 => 146 | 322 => 147 | 243 => 111 | 246 => 121 | 283 => 130 | 284 => 131 | 285 => 132 | 286 => 133 | 129 => 142 | 317 => 141 | 318 => 143 | 319 => 144 | 320 => 145 | 337 => 152 | 338 => 153 | n => n, fun | 9 => 9 | 3 => 3 | 75 => 95 | 76 => 97 | 4 => 4 | 5 => 5 | 167 => 112 | 37 => 73 | 0 => 0 | 85 => 113 | 2 => 2 | 168 => 115 | 53 => 121 | 175 => 126 | 46 => 128 | 210 => 130 | 127 => 99 | 145 => 142 | 143 => 140 | 21 => 21 | 171 => 120 | 173 => 124 | 212 => 135 | 51 => 136 | 20 => 20 | 213 => 137 | 232 => 150 | 233 => 151 | 80 => 54 | n => n, fun | 15 => 1 | 16 => 2 | 17 => 3 | 18 => 6 | 19 => 7 | n => n⟩
theorem Tryd.laysC172 : Go.Proofs.LaysC.n172 Tryd.prog Tryd.laysC172_ren := {
  mixed := by kernel_rfl
  f129 := Tryd.func142.trans (congrArg some (by kernel_rfl))
  f171 := Tryd.func97.trans (congrArg some (by kernel_rfl))
  f172 := Tryd.func101.trans (congrArg some (by kernel_rfl))
  f205 := Tryd.func136.trans (congrArg some (by kernel_rfl))
  f243 := Tryd.func111.trans (congrArg some (by kernel_rfl))
  f244 := Tryd.func115.trans (congrArg some (by kernel_rfl))
  f245 := Tryd.func116.trans (congrArg some (by kernel_rfl))
  f246 := Tryd.func121.trans (congrArg some (by kernel_rfl))
  f247 := Tryd.func122.trans (congrArg some (by kernel_rfl))
  f279 := Tryd.func123.trans (congrArg some (by kernel_rfl))
  f280 := Tryd.func124.trans (congrArg some (by kernel_rfl))
  f281 := Tryd.func125.trans (congrArg some (by kernel_rfl))
  f282 := Tryd.func126.trans (congrArg some (by kernel_rfl))
  f283 := Tryd.func130.trans (congrArg some (by kernel_rfl))
  f284 := Tryd.func131.trans (congrArg some (by kernel_rfl))
  f285 := Tryd.func132.trans (congrArg some (by kernel_rfl))
  f286 := Tryd.func133.trans (congrArg some (by kernel_rfl))
  f287 := Tryd.func134.trans (congrArg some (by kernel_rfl))
  f316 := Tryd.func135.trans (congrArg some (by kernel_rfl))
  f317 := Tryd.func141.trans (congrArg some (by kernel_rfl))
  f318 := Tryd.func143.trans (congrArg some (by kernel_rfl))
  f319 := Tryd.func144.trans (congrArg some (by kernel_rfl))
  f320 := Tryd.func145.trans (congrArg some (by kernel_rfl))
  f321 := Tryd.func146.trans (congrArg some (by kernel_rfl))
  f322 := Tryd.func147.trans (congrArg some (by kernel_rfl))
  f337 := Tryd.func152.trans (congrArg some (by kernel_rfl))
  f338 := Tryd.func153.trans (congrArg some (by kernel_rfl))
  t0 := Tryd.underlying0
  a0 := Tryd.isAgg0
  z0 := Tryd.sizeOf0
  v0 := Tryd.zeroValue0
  t2 := Tryd.underlying2
  a2 := Tryd.isAgg2
  z2 := Tryd.sizeOf2
  v2 := Tryd.zeroValue2
  t3 := Tryd.underlying3
  a3 := Tryd.isAgg3
  z3 := Tryd.sizeOf3
  v3 := Tryd.zeroValue3
  t4 := Tryd.underlying4
  a4 := Tryd.isAgg4
  z4 := Tryd.sizeOf4
  v4 := Tryd.zeroValue4
  t5 := Tryd.underlying5
  a5 := Tryd.isAgg5
  z5 := Tryd.sizeOf5
  v5 := Tryd.zeroValue5
  t9 := Tryd.underlying9
  a9 := Tryd.isAgg9
  z9 := Tryd.sizeOf9
  v9 := Tryd.zeroValue9
  t20 := Tryd.underlying20
  a20 := Tryd.isAgg20
  z20 := Tryd.sizeOf20
  v20 := Tryd.zeroValue20
  t21 := Tryd.underlying21
  a21 := Tryd.isAgg21
  z21 := Tryd.sizeOf21
  v21 := Tryd.zeroValue21
  t37 := Tryd.underlying73
  a37 := Tryd.isAgg73
  z37 := Tryd.sizeOf73
  v37 := Tryd.zeroValue73
  t46 := Tryd.underlying128
  a46 := Tryd.isAgg128
  z46 := Tryd.sizeOf128
  v46 := Tryd.zeroValue128
  t51 := Tryd.underlying136
  a51 := Tryd.isAgg136
  z51 := Tryd.sizeOf136
  v51 := Tryd.zeroValue136
  t53 := Tryd.underlying121
  a53 := Tryd.isAgg121
  z53 := Tryd.sizeOf121
  v53 := Tryd.zeroValue121
  t75 := Tryd.underlying95
  a75 := Tryd.isAgg95
  z75 := Tryd.sizeOf95
  v75 := Tryd.zeroValue95
  t76 := Tryd.underlying97
  a76 := Tryd.isAgg97
  z76 := Tryd.sizeOf97
  v76 := Tryd.zeroValue97
  t85 := Tryd.underlying113
  a85 := Tryd.isAgg113
  z85 := Tryd.sizeOf113
  v85 := Tryd.zeroValue113
  t127 := Tryd.underlying99
  a127 := Tryd.isAgg99
  z127 := Tryd.sizeOf99
  v127 := Tryd.zeroValue99
  t143 := Tryd.underlying140
  a143 := Tryd.isAgg140
  z143 := Tryd.sizeOf140
  v143 := Tryd.zeroValue140
  t145 := Tryd.underlying142
  a145 := Tryd.isAgg142
  z145 := Tryd.sizeOf142
  v145 := Tryd.zeroValue142
  t167 := Tryd.underlying112
  a167 := Tryd.isAgg112
  z167 := Tryd.sizeOf112
  v167 := Tryd.zeroValue112
  t168 := Tryd.underlying115
  a168 := Tryd.isAgg115
  z168 := Tryd.sizeOf115
  v168 := Tryd.zeroValue115
  t171 := Tryd.underlying120
  a171 := Tryd.isAgg120
  z171 := Tryd.sizeOf120
  v171 := Tryd.zeroValue120
  t173 := Tryd.underlying124
  a173 := Tryd.isAgg124
  z173 := Tryd.sizeOf124
  v173 := Tryd.zeroValue124
  t175 := Tryd.underlying126
  a175 := Tryd.isAgg126
  z175 := Tryd.sizeOf126
  v175 := Tryd.zeroValue126
  t210 := Tryd.underlying130
  a210 := Tryd.isAgg130
  z210 := Tryd.sizeOf130
  v210 := Tryd.zeroValue130
  t212 := Tryd.underlying135
  a212 := Tryd.isAgg135
  z212 := Tryd.sizeOf135
  v212 := Tryd.zeroValue135
  t213 := Tryd.underlying137
  a213 := Tryd.isAgg137
  z213 := Tryd.sizeOf137
  t232 := Tryd.underlying150
  a232 := Tryd.isAgg150
  z232 := Tryd.sizeOf150
  v232 := Tryd.zeroValue150
  t233 := Tryd.underlying151
  a233 := Tryd.isAgg151
  z233 := Tryd.sizeOf151
  v233 := Tryd.zeroValue151
  g15 := by kernel_rfl
  g16 := by kernel_rfl
  g17 := by kernel_rfl
  g18 := by kernel_rfl
  g19 := by kernel_rfl
  t80 := Tryd.underlying54
  a80 := Tryd.isAgg54
  z80 := Tryd.sizeOf54
  v80 := Tryd.zeroValue54
  i0 := by kernel_rfl
  i2 := by kernel_rfl
  i3 := by kernel_rfl
  i4 := by kernel_rfl
  i5 := by kernel_rfl
  i9 := by kernel_rfl
  i20 := by kernel_rfl
  i21 := by kernel_rfl
  i37 := by kernel_rfl
  i46 := by kernel_rfl
  i51 := by kernel_rfl
  i53 := by kernel_rfl
  i75 := by kernel_rfl
  i76 := by kernel_rfl
  i80 := by kernel_rfl
  i85 := by kernel_rfl
  i127 := by kernel_rfl
  i143 := by kernel_rfl
  i145 := by kernel_rfl
  i167 := by kernel_rfl
  i168 := by kernel_rfl
  i171 := by kernel_rfl
  i173 := by kernel_rfl
  i175 := by kernel_rfl
  i210 := by kernel_rfl
  i212 := by kernel_rfl
  i232 := by kernel_rfl
  i233 := by kernel_rfl
  m15 := by kernel_rfl
  m16 := by kernel_rfl
  m17 := by kernel_rfl
  m18 := by kernel_rfl
  m19 := by kernel_rfl
  c0 := by kernel_rfl
  c2 := by kernel_rfl
  c3 := by kernel_rfl
  c4 := by kernel_rfl
  c5 := by kernel_rfl
  c9 := by kernel_rfl
  c20 := by kernel_rfl
  c21 := by kernel_rfl
  c37 := by kernel_rfl
  c46 := by kernel_rfl
  c51 := by kernel_rfl
  c53 := by kernel_rfl
  c75 := by kernel_rfl
  c76 := by kernel_rfl
  c80 := by kernel_rfl
  c85 := by kernel_rfl
  c127 := by kernel_rfl
  c143 := by kernel_rfl
  c145 := by kernel_rfl
  c167 := by kernel_rfl
  c168 := by kernel_rfl
  c171 := by kernel_rfl
  c173 := by kernel_rfl
  c175 := by kernel_rfl
  c210 := by kernel_rfl
  c212 := by kernel_rfl
  c213 := by kernel_rfl
  c232 := by kernel_rfl
  c233 := by kernel_rfl }
open Go.RowKit in
theorem Tryd.strconv_Atoi_ok (s : ByteArray) (hmax : s.size ≤ 9223372036854775806) (v : Int) (h : Lib.atoiAll s.data.toList = .ok v) (w : World) :
    Calls Tryd.prog 101 #[.string s] w fun e w' => e = .returned (.tuple #[.int .i64 v, .nilIface]) ∧ (w' = w ∨ ∃ t, w' = Lib.bytesWorld w 5 t) := Any.strconv_Atoi_ok Tryd.laysC172 s hmax v h w
open Go.RowKit in
theorem Tryd.strconv_Atoi_syntax_var (s : ByteArray) (hlim : s.size ≤ 281474976710656) (h : Lib.atoiAll s.data.toList = Lib.atoiAll []) (tp : TypeId) (p : Value) (w : World) (hvar : w.var? Tryd.prog "strconv.ErrSyntax" = some #[.iface tp p]) :
    Calls Tryd.prog 101 #[.string s] w fun e w' => ∃ N, e = .returned (.tuple #[.int .i64 0, .iface 115 (.pointer (some ⟨N, 0, none⟩))]) ∧ w.heap.size ≤ N ∧ w'.heap[N]? = some (.cells #[.string ⟨#[65, 116, 111, 105]⟩, .string s, .iface tp p] 130 (0, 0)) ∧ Below w.heap.size w w' := Any.strconv_Atoi_syntax_var Tryd.laysC172 s hlim h tp p w hvar
open Go.RowKit in
theorem Tryd.strconv_Atoi_range_var (s : ByteArray) (hlim : s.size ≤ 281474976710656) (h : Lib.atoiAll s.data.toList = .range) (tp : TypeId) (p : Value) (w : World) (hvar : w.var? Tryd.prog "strconv.ErrRange" = some #[.iface tp p]) :
    Calls Tryd.prog 101 #[.string s] w fun e w' => ∃ N, e = .returned (.tuple #[.int .i64 (Lib.atoiSat s.data.toList), .iface 115 (.pointer (some ⟨N, 0, none⟩))]) ∧ w.heap.size ≤ N ∧ w'.heap[N]? = some (.cells #[.string ⟨#[65, 116, 111, 105]⟩, .string s, .iface tp p] 130 (0, 0)) ∧ Below w.heap.size w w' := Any.strconv_Atoi_range_var Tryd.laysC172 s hlim h tp p w hvar
def Tryd.lays138_ren : Go.Shelf.Ren := ⟨fun | 138 => 128 | 195 => 137 | 218 => 139 | 143 => 129 | 219 => 140 | 217 => 108 | 225 => 149 | 224 => 150 | 267 => 151 | 266 => 119 | 314 => 154 | n => n, fun | 9 => 9 | 3 => 3 | 4 => 4 | 5 => 5 | 0 => 0 | 46 => 128 | 146 => 148 | 51 => 136 | n => n, fun | 1 => 0 | n => n⟩
theorem Tryd.lays138 : Go.Proofs.Lays.n138 Tryd.prog Tryd.lays138_ren := {
  mixed := by kernel_rfl
  f138 := Tryd.func128.trans (congrArg some (by kernel_rfl))
  f143 := Tryd.func129.trans (congrArg some (by kernel_rfl))
  f195 := Tryd.func137.trans (congrArg some (by kernel_rfl))
  f217 := Tryd.func108.trans (congrArg some (by kernel_rfl))
  f218 := Tryd.func139.trans (congrArg some (by kernel_rfl))
  f219 := Tryd.func140.trans (congrArg some (by kernel_rfl))
  f224 := Tryd.func150.trans (congrArg some (by kernel_rfl))
  f225 := Tryd.func149.trans (congrArg some (by kernel_rfl))
  f266 := Tryd.func119.trans (congrArg some (by kernel_rfl))
  f267 := Tryd.func151.trans (congrArg some (by kernel_rfl))
  f314 := Tryd.func154.trans (congrArg some (by kernel_rfl))
  t0 := Tryd.underlying0
  a0 := Tryd.isAgg0
  z0 := Tryd.sizeOf0
  v0 := Tryd.zeroValue0
  t3 := Tryd.underlying3
  a3 := Tryd.isAgg3
  z3 := Tryd.sizeOf3
  v3 := Tryd.zeroValue3
  t4 := Tryd.underlying4
  a4 := Tryd.isAgg4
  z4 := Tryd.sizeOf4
  v4 := Tryd.zeroValue4
  t5 := Tryd.underlying5
  a5 := Tryd.isAgg5
  z5 := Tryd.sizeOf5
  v5 := Tryd.zeroValue5
  t9 := Tryd.underlying9
  a9 := Tryd.isAgg9
  z9 := Tryd.sizeOf9
  v9 := Tryd.zeroValue9
  t46 := Tryd.underlying128
  a46 := Tryd.isAgg128
  z46 := Tryd.sizeOf128
  v46 := Tryd.zeroValue128
  t51 := Tryd.underlying136
  a51 := Tryd.isAgg136
  z51 := Tryd.sizeOf136
  v51 := Tryd.zeroValue136
  t146 := Tryd.underlying148
  a146 := Tryd.isAgg148
  z146 := Tryd.sizeOf148
  v146 := Tryd.zeroValue148
  g1 := by kernel_rfl }
open Go.RowKit Go.Lib in
theorem Tryd.strings_Count_one (s : ByteArray) (c : UInt8) (w : World) :
    Calls Tryd.prog 128 #[.string s, .string ⟨#[c]⟩] w fun e w' => e = .returned (.int .i64 (Lib.countByte s.data.toList c)) ∧ w' = w := Any.strings_Count_one Tryd.lays138 s c w
def Tryd.lays146_ren : Go.Shelf.Ren := ⟨fun | 146 => 104 | 221 => 117 | 268 => 127 | 138 => 128 | 143 => 129 | 195 => 137 | 197 => 138 | 218 => 139 | 219 => 140 | 260 => 148 | 217 => 108 | 225 => 149 | 224 => 150 | 267 => 151 | 266 => 119 | 314 => 154 | n => n, fun | 9 => 9 | 31 => 25 | 3 => 3 | 4 => 4 | 0 => 0 | 105 => 132 | 21 => 21 | 5 => 5 | 46 => 128 | 119 => 144 | 139 => 147 | 138 => 146 | 146 => 148 | 51 => 136 | n => n, fun | 1 => 0 | 3 => 4 | 4 => 5 | n => n⟩
theorem Tryd.lays146 : Go.Proofs.Lays.n146 Tryd.prog Tryd.lays146_ren := {
  mixed := by kernel_rfl
  f138 := Tryd.func128.trans (congrArg some (by kernel_rfl))
  f143 := Tryd.func129.trans (congrArg some (by kernel_rfl))
  f146 := Tryd.func104.trans (congrArg some (by kernel_rfl))
  f195 := Tryd.func137.trans (congrArg some (by kernel_rfl))
  f197 := Tryd.func138.trans (congrArg some (by kernel_rfl))
  f217 := Tryd.func108.trans (congrArg some (by kernel_rfl))
  f218 := Tryd.func139.trans (congrArg some (by kernel_rfl))
  f219 := Tryd.func140.trans (congrArg some (by kernel_rfl))
  f221 := Tryd.func117.trans (congrArg some (by kernel_rfl))
  f224 := Tryd.func150.trans (congrArg some (by kernel_rfl))
  f225 := Tryd.func149.trans (congrArg some (by kernel_rfl))
  f260 := Tryd.func148.trans (congrArg some (by kernel_rfl))
  f266 := Tryd.func119.trans (congrArg some (by kernel_rfl))
  f267 := Tryd.func151.trans (congrArg some (by kernel_rfl))
  f268 := Tryd.func127.trans (congrArg some (by kernel_rfl))
  f314 := Tryd.func154.trans (congrArg some (by kernel_rfl))
  t0 := Tryd.underlying0
  a0 := Tryd.isAgg0
  z0 := Tryd.sizeOf0
  v0 := Tryd.zeroValue0
  t3 := Tryd.underlying3
  a3 := Tryd.isAgg3
  z3 := Tryd.sizeOf3
  v3 := Tryd.zeroValue3
  t4 := Tryd.underlying4
  a4 := Tryd.isAgg4
  z4 := Tryd.sizeOf4
  v4 := Tryd.zeroValue4
  t5 := Tryd.underlying5
  a5 := Tryd.isAgg5
  z5 := Tryd.sizeOf5
  v5 := Tryd.zeroValue5
  t9 := Tryd.underlying9
  a9 := Tryd.isAgg9
  z9 := Tryd.sizeOf9
  v9 := Tryd.zeroValue9
  t21 := Tryd.underlying21
  a21 := Tryd.isAgg21
  z21 := Tryd.sizeOf21
  v21 := Tryd.zeroValue21
  t31 := Tryd.underlying25
  a31 := Tryd.isAgg25
  z31 := Tryd.sizeOf25
  v31 := Tryd.zeroValue25
  t46 := Tryd.underlying128
  a46 := Tryd.isAgg128
  z46 := Tryd.sizeOf128
  v46 := Tryd.zeroValue128
  t51 := Tryd.underlying136
  a51 := Tryd.isAgg136
  z51 := Tryd.sizeOf136
  v51 := Tryd.zeroValue136
  t105 := Tryd.underlying132
  a105 := Tryd.isAgg132
  z105 := Tryd.sizeOf132
  v105 := Tryd.zeroValue132
  t119 := Tryd.underlying144
  a119 := Tryd.isAgg144
  z119 := Tryd.sizeOf144
  t138 := Tryd.underlying146
  a138 := Tryd.isAgg146
  z138 := Tryd.sizeOf146
  v138 := Tryd.zeroValue146
  t139 := Tryd.underlying147
  a139 := Tryd.isAgg147
  z139 := Tryd.sizeOf147
  v139 := Tryd.zeroValue147
  t146 := Tryd.underlying148
  a146 := Tryd.isAgg148
  z146 := Tryd.sizeOf148
  v146 := Tryd.zeroValue148
  g1 := by kernel_rfl
  g3 := by kernel_rfl
  g4 := by kernel_rfl }
open Go.RowKit Go.Lib in
theorem Tryd.strings_Split (s sep : ByteArray) (m : Int) (w : World) (hs : s.size < 4294967281) (hm : w.cell? ⟨0, 0, none⟩ = some (.int .i64 m)) (h1 : 1 ≤ sep.size) :
    Calls Tryd.prog 104 #[.string s, .string sep] w fun e w' =>
      e = .returned (.slice (some ⟨w.heap.size, 0, none⟩) (Lib.countB s sep + 1) (Lib.countB s sep + 1)) ∧ w' = w.alloc (.cells ((Lib.splitB sep 0 (Lib.countB s sep) s).map Value.string).toArray 9) := Any.strings_Split Tryd.lays146 (by kernel_rfl) s sep m w hs hm h1
def Tryd.laysSlH8_f105_ren : Go.Shelf.Ren := ⟨fun | 8 => 105 | 6 => 118 | n => n, fun | 22 => 25 | 23 => 9 | 25 => 22 | 4 => 4 | 3 => 3 | 0 => 0 | n => n, fun | n => n⟩
theorem Tryd.laysSlH8_f105 : Go.Proofs.SlLaysH.n8 Tryd.prog Tryd.laysSlH8_f105_ren := {
  mixed := by kernel_rfl
  f6 := ⟨Tryd.f118.name, by decide, Tryd.func118.trans (congrArg some (by kernel_rfl))⟩
  f8 := ⟨Tryd.f105.name, by decide, Tryd.func105.trans (congrArg some (by kernel_rfl))⟩
  t0 := Tryd.underlying0
  a0 := Tryd.isAgg0
  z0 := Tryd.sizeOf0
  v0 := Tryd.zeroValue0
  t3 := Tryd.underlying3
  a3 := Tryd.isAgg3
  z3 := Tryd.sizeOf3
  v3 := Tryd.zeroValue3
  t4 := Tryd.underlying4
  a4 := Tryd.isAgg4
  z4 := Tryd.sizeOf4
  v4 := Tryd.zeroValue4
  t22 := Tryd.underlying25
  a22 := Tryd.isAgg25
  z22 := Tryd.sizeOf25
  v22 := Tryd.zeroValue25
  a23 := Tryd.isAgg9
  z23 := Tryd.sizeOf9
  t25 := Tryd.underlying22
  a25 := Tryd.isAgg22
  z25 := Tryd.sizeOf22
  v25 := Tryd.zeroValue22 }
open Go.RowKit Go.Lib in
theorem Tryd.slices_ContainsFunc {α : Type} [Inhabited α] (enc : α → Value) (p : α → Bool) (g : Nat) (lb : Array Value) (eg : ∀ args w, (callFunc g args).run Tryd.prog w = .ok (.enter g args) w) (b off n c : Nat) (zs : List α) (w : World) (hp : PredAt Tryd.prog g lb enc p w) (hz : n ≤ zs.length) (hbig : n ≤ 9223372036854775807) (hc : ∀ j, j < zs.length → w.cell? ⟨b, off + j, none⟩ = some (enc zs[j]!)) :
    Calls Tryd.prog 105 #[.slice (some ⟨b, off, none⟩) n c, .func (.func g) #[] lb] w fun e w' => e = .returned (.bool ((zs.take n).any p)) ∧ ∃ q, w' = w.drewN q := AnyE.slices_ContainsFunc Tryd.laysSlH8_f105 enc p g lb eg b off n c zs w hp hz hbig hc
open Go.RowKit Go.Lib in
theorem Tryd.slices_ContainsFunc_empty {α : Type} [Inhabited α] (a : Option Addr) (c : Nat) (fv : Value) (w : World) :
    Calls Tryd.prog 105 #[.slice a 0 c, fv] w fun e w' => e = .returned (.bool false) ∧ w' = w := AnyE.slices_ContainsFunc_empty Tryd.laysSlH8_f105 a c fv w
end Go.Proofs

namespace Go.Proofs.YtefiapcfdabfpaaDoor.P
open Go.RowKit
theorem var_below {w w' : World} {n : String} {g : Nat} {cs : Array Value} (hg : Tryd.prog.globalNamed n = some g) (h : w.var? Tryd.prog n = some cs) (hb : Below w.heap.size w w') : w'.var? Tryd.prog n = some cs := by
  rw [← h]
  unfold World.var? at h ⊢
  rw [hg] at h ⊢
  simp only [Option.bind_some] at h ⊢
  have hlt : g < w.heap.size := by
    rcases Nat.lt_or_ge g w.heap.size with hl | hl
    · exact hl
    · rw [Array.getElem?_eq_none hl] at h
      cases h
  rw [hb.block g hlt]
theorem cell_lt {w : World} {a : Addr} {v : Value} (h : w.cell? a = some v) : a.block < w.heap.size := by
  rcases Nat.lt_or_ge a.block w.heap.size with hl | hl
  · exact hl
  · unfold World.cell? at h
    rw [Array.getElem?_eq_none hl] at h
    cases h
/-- The variable internal/bytealg.MaxLen holds some int. -/
structure EnvM (w : World) : Prop where mk :: (out : ∃ m, w.cell? ⟨0, 0, none⟩ = some (.int .i64 m))
theorem EnvM.below {w w' : World} (h : EnvM w) (hb : Below w.heap.size w w') : EnvM w' := by
  obtain ⟨m, hm⟩ := h.out
  refine ⟨m, ?_⟩
  rw [← hm]
  exact hb.cell (cell_lt hm)
theorem EnvM.drewN {w : World} (h : EnvM w) (n : Nat) : EnvM (w.drewN n) := ⟨h.out⟩
theorem EnvM.drew {w : World} (h : EnvM w) : EnvM w.drew := ⟨h.out⟩
structure EnvI (w : World) : Prop where mk :: (out : Lib.TabIs Tryd.prog w "internal/strconv.uint64pow10" .u64 Lib.pow10Tab)
theorem EnvI.below {w w' : World} (h : EnvI w) (hb : Below w.heap.size w w') : EnvI w' := ⟨var_below (g := 3) (by kernel_rfl) h.out hb⟩
theorem EnvI.drewN {w : World} (h : EnvI w) (n : Nat) : EnvI (w.drewN n) := ⟨h.out⟩
theorem EnvI.drew {w : World} (h : EnvI w) : EnvI w.drew := ⟨h.out⟩
structure EnvA (w : World) : Prop where mk :: (syn : ∃ tp p, w.var? Tryd.prog "strconv.ErrSyntax" = some #[.iface tp p]) (rng : ∃ tp p, w.var? Tryd.prog "strconv.ErrRange" = some #[.iface tp p])
theorem EnvA.below {w w' : World} (h : EnvA w) (hb : Below w.heap.size w w') : EnvA w' := by
  obtain ⟨⟨t1, p1, h1⟩, ⟨t2, p2, h2⟩⟩ := h
  exact ⟨⟨t1, p1, var_below (g := 1) (by kernel_rfl) h1 hb⟩, ⟨t2, p2, var_below (g := 2) (by kernel_rfl) h2 hb⟩⟩
theorem EnvA.drewN {w : World} (h : EnvA w) (n : Nat) : EnvA (w.drewN n) := ⟨h.syn, h.rng⟩
theorem EnvA.drew {w : World} (h : EnvA w) : EnvA w.drew := ⟨h.syn, h.rng⟩
end Go.Proofs.YtefiapcfdabfpaaDoor.P

namespace Go.Proofs.YtefiapcfdabfpaaDoor.P
open Go.RowKit Go.Proofs.YtefiapcfdabfpaaDoorW.PrintWords
theorem drawn0_of_eq {w w' : World} (h : w' = w) : Drawn0 w w' := by subst h; exact Drawn0.refl _
theorem cells_of_C {w : World} {A : Option Addr} {xs : List ByteArray} (h : Kd.string.C w A xs.length xs) (h0 : 0 < xs.length) : ∃ ad : Addr, A = some ⟨ad.block, ad.off, none⟩ ∧ ad.block < w.heap.size ∧ ∀ (j : Nat) x, xs[j]? = some x → w.cell? ⟨ad.block, ad.off + j, none⟩ = some (.string x) := by
  obtain ⟨ad, e, hc⟩ := (Kd.reads_of_C (enc := Value.string) (d := ByteArray.empty) (h1 := fun _ => rfl) h).2.2 h0
  have hs : ad.spot = none := by
    have h2 := hc 0 h0
    rw [Addr.add, if_pos rfl] at h2
    unfold World.cell? at h2
    split at h2
    · split at h2
      · cases h2
      · rename_i hn; simpa using hn
    · cases h2
  have hadd : ∀ j, ad.add j = ⟨ad.block, ad.off + j, none⟩ := by
    intro j
    unfold Addr.add
    split
    · rename_i hj; subst hj; rw [← hs]; rfl
    · rfl
  refine ⟨ad, ?_, ?_, fun j x hj => ?_⟩
  · rw [e, ← hs]
  · have h2 := hc 0 h0
    rw [Addr.add, if_pos rfl] at h2
    exact cell_lt h2
  · obtain ⟨hl, rfl⟩ := List.getElem?_eq_some_iff.1 hj
    have := hc j hl
    rw [hadd] at this
    rw [this, List.getD_eq_getElem?_getD, List.getElem?_eq_getElem hl]
    rfl
def strings_IndexByte.f (a0 : ByteArray) (a1 : Int) : Option Int := some (Lib.indexByte a0.data.toList a1.toNat.toUInt8)
theorem strings_IndexByte.calls (a0 : ByteArray) (a1 : Int) (r : Int) (w : World) (h : strings_IndexByte.f a0 a1 = some r) :
    Calls Tryd.prog 91 #[.string a0, .int .u8 a1] w fun e w' => e = .returned (.int .i64 r) ∧ Drawn0 w w' := by
  obtain rfl := Option.some.inj h
  exact (Tryd.strings_IndexByte a0 a1 w).mono fun e w' h => ⟨h.1, drawn0_of_eq h.2⟩
def strings_Count.f (a0 a1 : ByteArray) : Option Int := if a1.size = 1 then some ((Lib.countByte a0.data.toList (a1.data.toList.headD 0) : Nat) : Int) else none
theorem strings_Count.calls (a0 a1 : ByteArray) (r : Int) (w : World) (h : strings_Count.f a0 a1 = some r) :
    Calls Tryd.prog 128 #[.string a0, .string a1] w fun e w' => e = .returned (.int .i64 r) ∧ Drawn0 w w' := by
  unfold strings_Count.f at h
  split at h
  · rename_i hc
    obtain rfl := Option.some.inj h
    obtain ⟨⟨l⟩⟩ := a1
    obtain ⟨c, rfl⟩ : ∃ c, l = [c] := by
      have : l.length = 1 := hc
      match l, this with
      | [c], _ => exact ⟨c, rfl⟩
    exact (Tryd.strings_Count_one a0 c w).mono fun e w' h => ⟨h.1, drawn0_of_eq h.2⟩
  · cases h
def strings_Split.f (a0 a1 : ByteArray) : Option (List ByteArray) := if 1 ≤ a1.size ∧ a0.size < 4294967281 then some (Lib.splitB a1 0 (Lib.countB a0 a1) a0) else none
theorem strings_Split.calls (a0 a1 : ByteArray) (r : List ByteArray) (w : World) (hE : EnvM w) (h : strings_Split.f a0 a1 = some r) :
    Calls Tryd.prog 104 #[.string a0, .string a1] w fun e w' => ∃ v0_ : Value, e = .returned v0_ ∧ Kd.R Kd.string 9 w' w.heap.size (fun _ => True) v0_ r ∧ Below w.heap.size w w' := by
  unfold strings_Split.f at h
  split at h
  · rename_i hc
    obtain rfl := Option.some.inj h
    obtain ⟨m, hm⟩ := hE.out
    refine (Tryd.strings_Split a0 a1 m w hc.2 hm hc.1).mono ?_
    rintro e w' ⟨rfl, rfl⟩
    have hl : (Lib.splitB a1 0 (Lib.countB a0 a1) a0).length = Lib.countB a0 a1 + 1 := Lib.splitB_all a1 hc.1 0 _ a0 rfl
    refine ⟨_, rfl, ?_, below_alloc (Below.refl _ _) _⟩
    rw [← hl]
    refine Kd.R_of_own (World.ownsRow_lit (base := w.heap.size) (e := 9) (size := 1) w ((Lib.splitB a1 0 (Lib.countB a0 a1) a0).map Value.string).toArray (Lib.splitB a1 0 (Lib.countB a0 a1) a0).length (Nat.le_refl _) ?_ (by simp)) (fun _ _ => trivial)
    rw [hl]
    have := Lib.countB_le a1 hc.1 a0.size a0 (Nat.le_refl _)
    have := hc.2
    unfold maxLen
    omega
  · cases h
def strconv_Itoa.f (a0 : Int) : Option ByteArray := if -9223372036854775808 ≤ a0 ∧ a0 ≤ 9223372036854775807 then some ⟨(Lib.itoa a0).toArray⟩ else none
theorem strconv_Itoa.calls (a0 : Int) (r : ByteArray) (w : World) (hE : EnvI w) (h : strconv_Itoa.f a0 = some r) :
    Calls Tryd.prog 97 #[.int .i64 a0] w fun e w' => e = .returned (.string r) ∧ Below w.heap.size w w' := by
  unfold strconv_Itoa.f at h
  split at h
  · rename_i hc
    obtain rfl := Option.some.inj h
    refine (Tryd.strconv_Itoa a0 hc.1 hc.2 w hE.out).mono ?_
    rintro e w' ⟨rfl, k, os, rfl⟩
    exact ⟨rfl, Lib.below_grow _ w (Nat.le_refl _) k os⟩
  · cases h
end Go.Proofs.YtefiapcfdabfpaaDoor.P

namespace Go.Proofs.YtefiapcfdabfpaaDoor.P
open Go.RowKit Go.Proofs.YtefiapcfdabfpaaDoorW.PrintWords Go.Proofs.YtefiapcfdabfpaaDoorW.PrintLast Go.Proofs.YtefiapcfdabfpaaDoorW.PrintMore
set_option maxRecDepth 100000
set_option maxHeartbeats 8000000
theorem below_alloc' {w w1 : World} (h : Below w.heap.size w w1) (o : Obj) : Below w.heap.size w (w1.alloc o) := below_alloc h o
theorem alloc_here (w : World) (o : Obj) : (w.alloc o).heap[w.heap.size]? = some o := by
  show (w.heap.push o)[w.heap.size]? = some o
  exact Array.getElem?_push_size
theorem alloc_size (w : World) (o : Obj) : (w.alloc o).heap.size = w.heap.size + 1 := by
  show (w.heap.push o).size = _
  exact Array.size_push ..
theorem alloc_old (w : World) (o : Obj) (b : Nat) (h : b < w.heap.size) : (w.alloc o).heap[b]? = w.heap[b]? := by
  show (w.heap.push o)[b]? = _
  rw [Array.getElem?_push, if_neg (by omega)]
/-- A node with a row of levels that lies there. -/
theorem node_rep (w1 : World) (ok : Nat → Prop) (kind num : Int) (name : ByteArray) (levels : List ByteArray) (Al : Option Addr) (cl : Nat) (kids : List Tm) (Ak : Option Addr) (ck : Nat) (gs : List Nat) (long : Int)
    (hg : ok w1.heap.size) (hl : levels.length ≤ cl) (hrl : RowS w1 ok Al levels) (hk : kids.length ≤ ck) (hgs : gs.length = kids.length) (hrk : RowP w1 ok Ak gs) (hr : ∀ (j : Nat) g' t', gs[j]? = some g' → kids[j]? = some t' → Rep w1 ok g' t') :
    Rep (w1.alloc (.cells #[.int .u8 kind, .int .i64 num, .string name, .slice Al levels.length cl, .slice Ak kids.length ck, .int .i64 long] 46)) ok w1.heap.size (.node kind num name levels kids long) := by
  have hm : ∀ b, ok b → b < w1.heap.size → (w1.alloc (.cells #[.int .u8 kind, .int .i64 num, .string name, .slice Al levels.length cl, .slice Ak kids.length ck, .int .i64 long] 46)).heap[b]? = w1.heap[b]? ∧ ok b := fun b hb hlt => ⟨alloc_old _ _ _ hlt, hb⟩
  exact Rep.mk _ kind num name levels kids long Al cl Ak ck gs hg (alloc_here _ _) hl (hrl.move hm) hk hgs (hrk.move hm) (fun j g t h1 h2 => (hr j g t h1 h2).move hm)
/-- A node without levels and parts, laid anew. -/
theorem leaf_rep (w1 : World) (B : Nat) (kind num : Int) (name : ByteArray) (long : Int) (hB : B ≤ w1.heap.size) :
    Rep (w1.alloc (.cells #[.int .u8 kind, .int .i64 num, .string name, .slice none 0 0, .slice none 0 0, .int .i64 long] 46)) (fun b => B ≤ b) w1.heap.size (.node kind num name [] [] long) :=
  Rep.mk _ kind num name [] [] long none 0 none 0 [] hB (alloc_here _ _) (by simp) (fun j x hj => by simp at hj) (by simp) rfl (fun j x hj => by simp at hj) (fun j g t hj => by simp at hj)
def tVar (n : Int) : Tm := .node 118 n ⟨#[]⟩ [] [] (2 + ((Lib.itoa n).length : Int))
theorem impl_variable.calls (n : Int) (w : World) (h0 : 0 ≤ n) (h1 : n ≤ 1000000000) (hI : EnvI w) :
    Calls Tryd.prog 84 #[.int .i64 n] w fun e w' => ∃ g, e = .returned (.pointer (some ⟨g, 0, none⟩)) ∧ w.heap.size ≤ g ∧ Rep w' (fun b => w.heap.size ≤ b) g (tVar n) ∧ Below w.heap.size w w' := by
  have hi : ∀ w : World, EnvI w → Calls Tryd.prog 97 #[.int .i64 n] w fun e w' => e = .returned (.string ⟨(Lib.itoa n).toArray⟩) ∧ Below w.heap.size w w' := fun w hE => strconv_Itoa.calls n _ w hE (by unfold strconv_Itoa.f; rw [if_pos (by omega)])
  have hlen : (⟨(Lib.itoa n).toArray⟩ : ByteArray).size = (Lib.itoa n).length := by simp [ByteArray.size]
  generalize hr : (⟨(Lib.itoa n).toArray⟩ : ByteArray) = r at hi hlen
  go_enter Tryd.func84, Tryd.ntmps84
  go_wp2_with (first | (go_at_call 97; refine (hi _ ?_).mono ?_; (exact hI); rintro e w1 ⟨rfl, hb⟩))
  go_ret
  have hw : wrap64 (2 + ((Lib.itoa n).length : Int)) = 2 + ((Lib.itoa n).length : Int) := by
    have := Lib.itoa_length_le n (by omega) (by omega)
    unfold wrap64; omega
  rw [hw]
  exact ⟨_, rfl, hb.size, leaf_rep _ _ _ _ _ _ hb.size, below_alloc' hb _⟩
def tSort (l : ByteArray) : Tm := .node 115 0 ⟨#[]⟩ [l] [] (2 + (l.size : Int))
theorem impl_sort.calls (l : ByteArray) (w : World) (hl : l.size ≤ 1000000) :
    Calls Tryd.prog 85 #[.string l] w fun e w' => ∃ g, e = .returned (.pointer (some ⟨g, 0, none⟩)) ∧ w.heap.size ≤ g ∧ Rep w' (fun b => w.heap.size ≤ b) g (tSort l) ∧ Below w.heap.size w w' := by
  go_enter Tryd.func85, Tryd.ntmps85
  go_wp2
  go_ret
  have h0 : (⟨w.heap.size + 1, 0, none⟩ : Addr) = ⟨(w.alloc (.cells #[.string l] 9)).heap.size, 0, none⟩ := by rw [alloc_size]
  refine ⟨w.heap.size + 1, rfl, by omega, ?_, below_alloc (below_alloc (Below.refl _ _) _) _⟩
  rw [← alloc_size w (.cells #[.string l] 9)]
  refine node_rep _ _ 115 0 ⟨#[]⟩ [l] (some ⟨w.heap.size, 0, none⟩) 1 [] none 0 [] _ (by rw [alloc_size]; omega) (Nat.le_refl _) (fun j x hj => ?_) (Nat.le_refl _) rfl (fun j g hj => by simp at hj) (fun j g t hj => by simp at hj)
  match j, hj with
  | 0, hj =>
    obtain rfl := Option.some.inj hj
    refine ⟨w.heap.size, 0, rfl, Nat.le_refl _, ?_⟩
    unfold World.cell?
    rw [alloc_here]
    rfl
  | j + 1, hj => simp at hj
def lsum : List ByteArray → Int
  | [] => 0
  | x :: l => (x.size : Int) + 1 + lsum l
theorem lsum_take (l : List ByteArray) : ∀ (i : Nat) (h : i < l.length), lsum (l.take (i + 1)) = lsum (l.take i) + (((l[i]'h).size : Int) + 1) := by
  induction l with
  | nil => intro i h; simp at h
  | cons x l ih =>
    intro i h
    cases i with
    | zero => simp [lsum]
    | succ i =>
      have := ih i (by simpa using h)
      simp only [List.take_succ_cons, lsum, List.getElem_cons_succ] at this ⊢
      omega
theorem lsum_le (l : List ByteArray) (B : Int) (hB : 0 ≤ B) (h : ∀ x ∈ l, (x.size : Int) ≤ B) : ∀ (i : Nat), i ≤ l.length → 0 ≤ lsum (l.take i) ∧ lsum (l.take i) ≤ (B + 1) * i := by
  intro i
  induction i with
  | zero => intro _; simp [lsum]
  | succ i ih =>
    intro hi
    have h1 := ih (by omega)
    have h2 := h l[i] (List.getElem_mem (by omega))
    rw [lsum_take l i (by omega)]
    constructor
    · omega
    · rw [show ((i + 1 : Nat) : Int) = (i : Int) + 1 from by omega, Int.mul_add]; omega
def tCon (n : ByteArray) (l : List ByteArray) : Tm := .node 99 0 n l [] (3 + (n.size : Int) + lsum l)
theorem impl_constant.calls (n : ByteArray) (l : List ByteArray) (A : Option Addr) (c : Nat) (w : World) (ok : Nat → Prop) (hA : RowS w ok A l) (hok : ok w.heap.size) (hc : l.length ≤ c) (hl : l.length ≤ 1000000) (hn : n.size ≤ 1000000) (hls : ∀ x ∈ l, (x.size : Int) ≤ 1000000) :
    Calls Tryd.prog 88 #[.string n, .slice A l.length c] w fun e w' => ∃ g, e = .returned (.pointer (some ⟨g, 0, none⟩)) ∧ w.heap.size ≤ g ∧ Rep w' ok g (tCon n l) ∧ Below w.heap.size w w' := by
  have hsum := lsum_le l 1000000 (by omega) hls
  go_enter Tryd.func88, Tryd.ntmps88
  go_wp2
  go_loopg [5, 13] l.length (fun m v5 v13 w' => ∃ i : Nat, i ≤ l.length ∧ l.length - i ≤ m ∧ v5 = .int .i64 (3 + (n.size : Int) + lsum (l.take i)) ∧ v13 = .int .i64 (i : Int) ∧ w' = w)
  case atStart => exact ⟨0, Nat.zero_le _, by omega, by simp [lsum], rfl, rfl⟩
  case round =>
    obtain ⟨i, hi, hm, rfl, rfl, rfl⟩ := hrel
    have hb1 := hsum i hi
    by_cases hlt : i < l.length
    · have hlt' : (i : Int) < (l.length : Int) := by omega
      obtain ⟨b, o, rfl, hb, hcell⟩ := hA i _ (List.getElem?_eq_getElem hlt)
      have hst := lsum_take l i hlt
      have hsz := hls l[i] (List.getElem_mem hlt)
      generalize l[i] = x at hcell hst hsz
      go_wp2
      go_roundg (l.length - (i + 1))
      case measure => omega
      case rel => exact ⟨i + 1, by omega, by omega, by rw [hst]; congr 1; omega, by congr 1, rfl⟩
    · have hlt' : ¬ (i : Int) < (l.length : Int) := by omega
      go_wp2
      go_ret
      have hi2 : i = l.length := by omega
      subst hi2
      rw [List.take_length]
      exact ⟨_, rfl, Nat.le_refl _, node_rep _ _ 99 0 n l A c [] none 0 [] _ hok hc hA (Nat.le_refl _) rfl (fun j g hj => by simp at hj) (fun j g t hj => by simp at hj), below_alloc (Below.refl _ _) _⟩
theorem Rep.cells {w : World} {ok : Nat → Prop} {g : Nat} {t : Tm} (h : Rep w ok g t) : ∃ (Al : Option Addr) (cl : Nat) (Ak : Option Addr) (ck : Nat) (gs : List Nat),
    w.cell? ⟨g, 0, none⟩ = some (.int .u8 t.kind) ∧ w.cell? ⟨g, 1, none⟩ = some (.int .i64 t.num) ∧ w.cell? ⟨g, 2, none⟩ = some (.string t.name) ∧ w.cell? ⟨g, 3, none⟩ = some (.slice Al t.levels.length cl) ∧ w.cell? ⟨g, 4, none⟩ = some (.slice Ak t.kids.length ck) ∧ w.cell? ⟨g, 5, none⟩ = some (.int .i64 t.long) ∧
    t.levels.length ≤ cl ∧ RowS w ok Al t.levels ∧ t.kids.length ≤ ck ∧ gs.length = t.kids.length ∧ RowP w ok Ak gs ∧ ∀ (j : Nat) g' t', gs[j]? = some g' → t.kids[j]? = some t' → Rep w ok g' t' := by
  cases h with
  | mk g kind num name levels kids long Al cl Ak ck gs hok h hl hrl hk hgs hrk hr =>
    refine ⟨Al, cl, Ak, ck, gs, ?_, ?_, ?_, ?_, ?_, ?_, hl, hrl, hk, hgs, hrk, hr⟩
    all_goals
      unfold World.cell?
      rw [h]
      rfl
def ksum : List Tm → Int
  | [] => 0
  | x :: l => x.long + ksum l
theorem ksum_take (l : List Tm) : ∀ (i : Nat) (h : i < l.length), ksum (l.take (i + 1)) = ksum (l.take i) + (l[i]'h).long := by
  induction l with
  | nil => intro i h; simp at h
  | cons x l ih =>
    intro i h
    cases i with
    | zero => simp [ksum]
    | succ i =>
      have := ih i (by simpa using h)
      simp only [List.take_succ_cons, ksum, List.getElem_cons_succ] at this ⊢
      omega
theorem ksum_le (l : List Tm) (B : Int) (hB : 0 ≤ B) (h : ∀ x ∈ l, 0 ≤ x.long ∧ x.long ≤ B) : ∀ (i : Nat), i ≤ l.length → 0 ≤ ksum (l.take i) ∧ ksum (l.take i) ≤ B * i := by
  intro i
  induction i with
  | zero => intro _; simp [ksum]
  | succ i ih =>
    intro hi
    have h1 := ih (by omega)
    have h2 := h l[i] (List.getElem_mem (by omega))
    rw [ksum_take l i (by omega)]
    constructor
    · omega
    · rw [show ((i + 1 : Nat) : Int) = (i : Int) + 1 from by omega, Int.mul_add]; omega
def tCmp (k : Int) (kids : List Tm) : Tm := .node k 0 ⟨#[]⟩ [] kids (1 + ksum kids)
theorem impl_compound.calls (k : Int) (kids : List Tm) (gs : List Nat) (A : Option Addr) (c : Nat) (w : World) (ok : Nat → Prop) (hgs : gs.length = kids.length) (hA : RowP w ok A gs) (hok : ok w.heap.size) (hc : kids.length ≤ c) (hl : kids.length ≤ 1000)
    (hr : ∀ (j : Nat) g t, gs[j]? = some g → kids[j]? = some t → Rep w ok g t) (hls : ∀ x ∈ kids, 0 ≤ x.long ∧ x.long ≤ 1000000000) :
    Calls Tryd.prog 80 #[.int .u8 k, .slice A kids.length c] w fun e w' => ∃ g, e = .returned (.pointer (some ⟨g, 0, none⟩)) ∧ w.heap.size ≤ g ∧ Rep w' ok g (tCmp k kids) ∧ Below w.heap.size w w' := by
  have hsum := ksum_le kids 1000000000 (by omega) hls
  go_enter Tryd.func80, Tryd.ntmps80
  go_wp2
  go_loopg [5, 10] kids.length (fun m v5 v13 w' => ∃ i : Nat, i ≤ kids.length ∧ kids.length - i ≤ m ∧ v5 = .int .i64 (1 + ksum (kids.take i)) ∧ v13 = .int .i64 (i : Int) ∧ w' = w)
  case atStart => exact ⟨0, Nat.zero_le _, by omega, by simp [ksum], rfl, rfl⟩
  case round =>
    obtain ⟨i, hi, hm, rfl, rfl, rfl⟩ := hrel
    have hb1 := hsum i hi
    by_cases hlt : i < kids.length
    · have hlt' : (i : Int) < (kids.length : Int) := by omega
      have hlt2 : i < gs.length := by omega
      obtain ⟨b, o, rfl, hb, hcell⟩ := hA i _ (List.getElem?_eq_getElem hlt2)
      have hst := ksum_take kids i hlt
      have hsz := hls kids[i] (List.getElem_mem hlt)
      obtain ⟨_, _, _, _, _, _, _, _, _, _, hlong, _⟩ := (hr i _ _ (List.getElem?_eq_getElem hlt2) (List.getElem?_eq_getElem hlt)).cells
      generalize gs[i] = g at hcell hlong
      generalize kids[i] = x at hlong hst hsz
      go_wp2
      go_roundg (kids.length - (i + 1))
      case measure => omega
      case rel => exact ⟨i + 1, by omega, by omega, by rw [hst]; congr 1; omega, by congr 1, rfl⟩
    · have hlt' : ¬ (i : Int) < (kids.length : Int) := by omega
      go_wp2
      go_ret
      have hi2 : i = kids.length := by omega
      subst hi2
      rw [List.take_length]
      exact ⟨_, rfl, Nat.le_refl _, node_rep _ _ k 0 ⟨#[]⟩ [] none 0 kids A c gs _ hok (Nat.le_refl _) (fun j g hj => by simp at hj) hc hgs hA hr, below_alloc (Below.refl _ _) _⟩
end Go.Proofs.YtefiapcfdabfpaaDoor.P

namespace Go.Proofs.YtefiapcfdabfpaaDoor.P
open Go.RowKit Go.Proofs.YtefiapcfdabfpaaDoorW.PrintWords Go.Proofs.YtefiapcfdabfpaaDoorW.PrintLast Go.Proofs.YtefiapcfdabfpaaDoorW.PrintMore
attribute [local go_sem] max2_int min2_int max_two min_two max_three min_three max_four min_four
set_option linter.unusedVariables false
set_option linter.unusedSimpArgs false

/-! ### impl_in: function 102 -/
def impl_in.f (a0 : Int) (a1 : Int) (a2 : Int) : Option (Bool) := if a1 ≤ a0 then (some (decide (a0 ≤ a2))) else (some false)
set_option maxHeartbeats 8000000 in
set_option maxRecDepth 100000 in
theorem impl_in.calls (a0 : Int) (a1 : Int) (a2 : Int) (r : Bool) (w : World) (h : impl_in.f a0 a1 a2 = some r) :
    Calls Tryd.prog 102 #[.int .i64 a0, .int .i64 a1, .int .i64 a2] w fun e w' => e = .returned (.bool r) ∧ Drawn0 w w' := by
  have H : (if a1 ≤ a0 then (some (decide (a0 ≤ a2))) else (some false)) = some r := h
  clear h
  by_cases c4 : a1 ≤ a0
  · rw [if_pos c4] at H
    have c4b0 : decide (a1 ≤ a0) = true := decide_eq_true c4
    clear c4
    obtain rfl := Option.some.inj H
    go_enter Tryd.func102, Tryd.ntmps102
    go_wp2
    go_ret
    exact ⟨by first | rfl | (simp; done) | (simp [*]; done), by repeat (first | exact Drawn0.refl _ | apply Drawn0.step)⟩
  · rw [if_neg c4] at H
    have c4b0 : decide (a1 ≤ a0) = false := decide_eq_false c4
    clear c4
    obtain rfl := Option.some.inj H
    go_enter Tryd.func102, Tryd.ntmps102
    go_wp2
    go_ret
    exact ⟨by first | rfl | (simp; done) | (simp [*]; done), by repeat (first | exact Drawn0.refl _ | apply Drawn0.step)⟩

/-- THE ONE PURE STATEMENT of impl_in: yours. -/
def impl_in.Pure : Prop := ∀ (a0 : Int) (a1 : Int) (a2 : Int), (Lit.int .i64 a0).wf = true → (Lit.int .i64 a1).wf = true → (Lit.int .i64 a2).wf = true → impl_in.f a0 a1 a2 = some true
theorem impl_in.walk (P : impl_in.Pure) (a0 : Int) (a1 : Int) (a2 : Int) (w : World) (w0 : (Lit.int .i64 a0).wf = true) (w1 : (Lit.int .i64 a1).wf = true) (w2 : (Lit.int .i64 a2).wf = true) :
    Calls Tryd.prog 102 #[.int .i64 a0, .int .i64 a1, .int .i64 a2] w fun e w' => e = .returned (.bool true) ∧ Below w.heap.size w w' := by
  have h := P a0 a1 a2 w0 w1 w2
  refine (impl_in.calls a0 a1 a2 true w h).mono ?_
  rintro e w' ⟨rfl, hd⟩
  exact ⟨rfl, hd.below⟩

end Go.Proofs.YtefiapcfdabfpaaDoor.P

namespace Go.Proofs.YtefiapcfdabfpaaDoor.P
open Go.RowKit Go.Proofs.YtefiapcfdabfpaaDoorW.PrintWords Go.Proofs.YtefiapcfdabfpaaDoorW.PrintLast Go.Proofs.YtefiapcfdabfpaaDoorW.PrintMore
set_option maxRecDepth 100000
set_option maxHeartbeats 8000000
def impl_ReadDecimal.f (a0 : ByteArray) : Option (Int × Bool) :=
  if a0.size ≤ 140737488351232 then
    match Lib.atoiAll a0.data.toList with
    | .ok v => if 0 ≤ v ∧ v ≤ 1000000000 then (if (⟨(Lib.itoa v).toArray⟩ : ByteArray).toList = a0.toList then some (v, true) else some (0, false)) else some (0, false)
    | _ => some (0, false)
  else none
theorem in_of (v : Int) (b : Bool) (hb : b = decide (0 ≤ v ∧ v ≤ 1000000000)) : impl_in.f v 0 1000000000 = some b := by
  unfold impl_in.f
  subst hb
  by_cases h1 : 0 ≤ v <;> by_cases h2 : v ≤ 1000000000 <;> simp [h1, h2]
theorem below_undrew0 {w w1 : World} {n : Nat} (h : Below (w.drewN n).heap.size (w.drewN n) w1) : Below w.heap.size w w1 := ⟨h.os, h.tape, h.output, h.size, h.block⟩
theorem rd_ok (a0 : ByteArray) (w : World) (hA : EnvA w) (hI : EnvI w) (v : Int) (hB : a0.size ≤ 140737488351232) (h : Lib.atoiAll a0.data.toList = .ok v) (r : ByteArray) (hr : (⟨(Lib.itoa v).toArray⟩ : ByteArray) = r) (b : Bool) (hb : b = decide (0 ≤ v ∧ v ≤ 1000000000 ∧ r.toList = a0.toList)) :
    Calls Tryd.prog 82 #[.string a0] w fun e w' => e = .returned (.tuple #[.int .i64 (if b then v else 0), .bool b]) ∧ Below w.heap.size w w' := by
  have hc := Tryd.strconv_Atoi_ok a0 (by omega) v h w
  have hc' : Calls Tryd.prog 101 #[.string a0] w fun e w' => e = .returned (.tuple #[.int .i64 v, .nilIface]) ∧ Below w.heap.size w w' := hc.mono fun e w' h => ⟨h.1, by
    rcases h.2 with rfl | ⟨t, rfl⟩
    · exact Below.refl _ _
    · exact Lib.bytesWorld_below w _ t⟩
  clear hc h
  by_cases c1 : 0 ≤ v ∧ v ≤ 1000000000
  · obtain ⟨c1, c2⟩ := c1
    have hi : ∀ w : World, EnvI w → Calls Tryd.prog 97 #[.int .i64 v] w fun e w' => e = .returned (.string r) ∧ Below w.heap.size w w' := fun w hE => strconv_Itoa.calls v r w hE (by unfold strconv_Itoa.f; rw [if_pos (by omega), hr])
    clear hr
    have hin : ∀ w : World, Calls Tryd.prog 102 #[.int .i64 v, .int .i64 0, .int .i64 1000000000] w fun e w' => e = .returned (.bool true) ∧ Drawn0 w w' := fun w => impl_in.calls v 0 1000000000 true w (in_of v true (decide_eq_true ⟨c1, c2⟩).symm)
    by_cases c3 : r.toList = a0.toList
    · have hb2 : b = true := by rw [hb]; exact decide_eq_true ⟨c1, c2, c3⟩
      clear hb
      subst hb2
      have c3a : (r.toList == a0.toList) = true := beq_iff_eq.mpr c3
      have c3b : (r.toList != a0.toList) = false := bne_eq_false_iff_eq.mpr c3
      clear c1 c2 c3
      go_enter Tryd.func82, Tryd.ntmps82
      go_wp2_with (first | (go_at_call 101; refine hc'.mono ?_; rintro e w1 ⟨rfl, hb1⟩) | (go_at_call 102; refine (hin _).mono ?_; rintro e w3 ⟨rfl, ⟨nd, rfl⟩⟩) | (go_at_call 97; refine (hi _ ?_).mono ?_; (exact (hI.below hb1).drewN _); rintro e w2 ⟨rfl, hb2⟩))
      go_ret2
      exact ⟨rfl, below_step hb1 (below_undrew0 hb2)⟩
    · have hb2 : b = false := by rw [hb]; exact decide_eq_false fun h => c3 h.2.2
      clear hb
      subst hb2
      have c3a : (r.toList == a0.toList) = false := beq_eq_false_iff_ne.mpr c3
      have c3b : (r.toList != a0.toList) = true := bne_iff_ne.mpr c3
      clear c1 c2 c3
      go_enter Tryd.func82, Tryd.ntmps82
      go_wp2_with (first | (go_at_call 101; refine hc'.mono ?_; rintro e w1 ⟨rfl, hb1⟩) | (go_at_call 102; refine (hin _).mono ?_; rintro e w3 ⟨rfl, ⟨nd, rfl⟩⟩) | (go_at_call 97; refine (hi _ ?_).mono ?_; (exact (hI.below hb1).drewN _); rintro e w2 ⟨rfl, hb2⟩))
      go_ret2
      exact ⟨rfl, below_step hb1 (below_undrew0 hb2)⟩
  · have hb2 : b = false := by rw [hb]; exact decide_eq_false fun h => c1 ⟨h.1, h.2.1⟩
    clear hb
    subst hb2
    have c1' : v < 0 ∨ 1000000000 < v := by omega
    have hin : ∀ w : World, Calls Tryd.prog 102 #[.int .i64 v, .int .i64 0, .int .i64 1000000000] w fun e w' => e = .returned (.bool false) ∧ Drawn0 w w' := fun w => impl_in.calls v 0 1000000000 false w (in_of v false (decide_eq_false c1).symm)
    clear hr c1 c1'
    go_enter Tryd.func82, Tryd.ntmps82
    go_wp2_with (first | (go_at_call 101; refine hc'.mono ?_; rintro e w1 ⟨rfl, hb1⟩) | (go_at_call 102; refine (hin _).mono ?_; rintro e w3 ⟨rfl, ⟨nd, rfl⟩⟩))
    go_ret2
    exact ⟨rfl, pw_below_drewN hb1 _⟩
theorem rd_bad (a0 : ByteArray) (w : World) (v : Int) (T : TypeId) (hc : Calls Tryd.prog 101 #[.string a0] w fun e w' => ∃ N, e = .returned (.tuple #[.int .i64 v, .iface T (.pointer (some ⟨N, 0, none⟩))]) ∧ Below w.heap.size w w') :
    Calls Tryd.prog 82 #[.string a0] w fun e w' => e = .returned (.tuple #[.int .i64 0, .bool false]) ∧ Below w.heap.size w w' := by
  go_enter Tryd.func82, Tryd.ntmps82
  go_wp2_with (go_at_call 101; refine hc.mono ?_; rintro e w1 ⟨N, rfl, hb1⟩)
  go_ret2
  exact ⟨rfl, hb1⟩
theorem impl_ReadDecimal.calls (a0 : ByteArray) (r1 : Int) (r2 : Bool) (w : World) (hA : EnvA w) (hI : EnvI w) (h : impl_ReadDecimal.f a0 = some (r1, r2)) :
    Calls Tryd.prog 82 #[.string a0] w fun e w' => e = .returned (.tuple #[.int .i64 r1, .bool r2]) ∧ Below w.heap.size w w' := by
  unfold impl_ReadDecimal.f at h
  by_cases hB : a0.size ≤ 140737488351232
  · rw [if_pos hB] at h
    cases hq : Lib.atoiAll a0.data.toList with
    | ok v =>
      rw [hq] at h
      refine (rd_ok a0 w hA hI v hB hq _ rfl _ rfl).mono fun e w' he => ⟨he.1.trans ?_, he.2⟩
      simp only at h
      by_cases c1 : 0 ≤ v ∧ v ≤ 1000000000
      · rw [if_pos c1] at h
        by_cases c2 : (⟨(Lib.itoa v).toArray⟩ : ByteArray).toList = a0.toList
        · rw [if_pos c2] at h
          simp only [Option.some.injEq, Prod.mk.injEq] at h
          obtain ⟨rfl, rfl⟩ := h
          rw [decide_eq_true ⟨c1.1, c1.2, c2⟩]; rfl
        · rw [if_neg c2] at h
          simp only [Option.some.injEq, Prod.mk.injEq] at h
          obtain ⟨rfl, rfl⟩ := h
          rw [decide_eq_false fun h => c2 h.2.2]; rfl
      · rw [if_neg c1] at h
        simp only [Option.some.injEq, Prod.mk.injEq] at h
        obtain ⟨rfl, rfl⟩ := h
        rw [decide_eq_false fun h => c1 ⟨h.1, h.2.1⟩]; rfl
    | range =>
      rw [hq] at h
      simp only [Option.some.injEq, Prod.mk.injEq] at h
      obtain ⟨rfl, rfl⟩ := h
      obtain ⟨tp, p, hv⟩ := hA.rng
      refine rd_bad a0 w (Lib.atoiSat a0.data.toList) 115 ((Tryd.strconv_Atoi_range_var a0 (by omega) hq tp p w hv).mono ?_)
      rintro e w' ⟨N, rfl, _, _, hb⟩
      exact ⟨N, rfl, hb⟩
    | _ =>
      rw [hq] at h
      simp only [Option.some.injEq, Prod.mk.injEq] at h
      obtain ⟨rfl, rfl⟩ := h
      obtain ⟨tp, p, hv⟩ := hA.syn
      refine rd_bad a0 w 0 115 ((Tryd.strconv_Atoi_syntax_var a0 (by omega) (by rw [hq]; rfl) tp p w hv).mono ?_)
      rintro e w' ⟨N, rfl, _, _, hb⟩
      exact ⟨N, rfl, hb⟩
  · rw [if_neg hB] at h
    cases h
end Go.Proofs.YtefiapcfdabfpaaDoor.P

namespace Go.Proofs.YtefiapcfdabfpaaDoor.P
open Go.RowKit Go.Proofs.YtefiapcfdabfpaaDoorW.PrintWords Go.Proofs.YtefiapcfdabfpaaDoorW.PrintLast Go.Proofs.YtefiapcfdabfpaaDoorW.PrintMore
attribute [local go_sem] max2_int min2_int max_two min_two max_three min_three max_four min_four
set_option linter.unusedVariables false
set_option linter.unusedSimpArgs false

/-! ### impl_isNamePart: function 107 -/
mutual
def impl_isNamePart.j0 : Nat → ByteArray → Bool → Option (Bool)
  | 0, _, _ => none
  | k + 1, x0, x15 => if x15 = true then (some false) else (impl_isNamePart.l0 k x0 (x0.size : Int) 0)
def impl_isNamePart.l0 : Nat → ByteArray → Int → Int → Option (Bool)
  | 0, _, _, _ => none
  | k + 1, x0, x17, x18 => if x18 < x17 then (if 0 ≤ x18 then (if x18 < (x0.size : Int) then (if (bt x0 x18) < 97 then (if (bt x0 x18) < 48 then (some false) else (if (bt x0 x18) > 57 then (some false) else (impl_isNamePart.l0 k x0 x17 (wrap64 (x18 + 1))))) else (if (bt x0 x18) > 122 then (if (bt x0 x18) < 48 then (some false) else (if (bt x0 x18) > 57 then (some false) else (impl_isNamePart.l0 k x0 x17 (wrap64 (x18 + 1))))) else (impl_isNamePart.l0 k x0 x17 (wrap64 (x18 + 1))))) else (none)) else (none)) else (some true)
end
def impl_isNamePart.f (k : Nat) (a0 : ByteArray) : Option (Bool) := if a0.toList = ([] : List UInt8) then (impl_isNamePart.j0 k a0 true) else (if 0 < (a0.size : Int) then (if (bt a0 0) < 97 then (impl_isNamePart.j0 k a0 true) else (impl_isNamePart.j0 k a0 (decide ((bt a0 0) > 122)))) else (none))
theorem impl_isNamePart.mono_l : ∀ k, (∀ y0 y1, LeO (impl_isNamePart.j0 k y0 y1) (impl_isNamePart.j0 (k + 1) y0 y1)) ∧ (∀ y0 y1 y2, LeO (impl_isNamePart.l0 k y0 y1 y2) (impl_isNamePart.l0 (k + 1) y0 y1 y2))
  | 0 => ⟨fun _ _ r h => by simp [impl_isNamePart.j0] at h, fun _ _ _ r h => by simp [impl_isNamePart.l0] at h⟩
  | k + 1 => by
    obtain ⟨ih0, ih1⟩ := impl_isNamePart.mono_l k
    refine ⟨?_, ?_⟩
    · intro y0 y1
      unfold impl_isNamePart.j0
      repeat' first
      | (with_reducible exact ih0 _ _)
      | (with_reducible exact ih1 _ _ _)
      | (with_reducible exact LeO.refl _)
      | (with_reducible exact LeO.none _)
      | (with_reducible refine LeO.ite ?_ ?_)
      | (with_reducible refine LeO.bind ?_ (fun _ => ?_))
      | exact ih0 _ _
      | exact ih1 _ _ _
      | exact LeO.none _
      | refine LeO.ite ?_ ?_
      | refine LeO.bind ?_ (fun _ => ?_)
    · intro y0 y1 y2
      unfold impl_isNamePart.l0
      repeat' first
      | (with_reducible exact ih0 _ _)
      | (with_reducible exact ih1 _ _ _)
      | (with_reducible exact LeO.refl _)
      | (with_reducible exact LeO.none _)
      | (with_reducible refine LeO.ite ?_ ?_)
      | (with_reducible refine LeO.bind ?_ (fun _ => ?_))
      | exact ih0 _ _
      | exact ih1 _ _ _
      | exact LeO.none _
      | refine LeO.ite ?_ ?_
      | refine LeO.bind ?_ (fun _ => ?_)
theorem impl_isNamePart.mono : ∀ a0 k, LeO (impl_isNamePart.f k a0) (impl_isNamePart.f (k + 1) a0) := by
  intro a0 k
  obtain ⟨ih0, ih1⟩ := impl_isNamePart.mono_l k
  unfold impl_isNamePart.f
  repeat' first
      | (with_reducible exact ih0 _ _)
      | (with_reducible exact ih1 _ _ _)
      | (with_reducible exact LeO.refl _)
      | (with_reducible exact LeO.none _)
      | (with_reducible refine LeO.ite ?_ ?_)
      | (with_reducible refine LeO.bind ?_ (fun _ => ?_))
      | exact ih0 _ _
      | exact ih1 _ _ _
      | exact LeO.none _
      | refine LeO.ite ?_ ?_
      | refine LeO.bind ?_ (fun _ => ?_)
set_option maxHeartbeats 8000000 in
set_option maxRecDepth 100000 in
theorem impl_isNamePart.calls (k : Nat) (a0 : ByteArray) (r : Bool) (w : World) (h : impl_isNamePart.f k a0 = some r) :
    Calls Tryd.prog 107 #[.string a0] w fun e w' => e = .returned (.bool r) ∧ Drawn0 w w' := by
  have H : (if a0.toList = ([] : List UInt8) then (impl_isNamePart.j0 k a0 true) else (if 0 < (a0.size : Int) then (if (bt a0 0) < 97 then (impl_isNamePart.j0 k a0 true) else (impl_isNamePart.j0 k a0 (decide ((bt a0 0) > 122)))) else (none))) = some r := h
  clear h
  have HC2 := Aside0.mk H
  clear H
  go_enter Tryd.func107, Tryd.ntmps107
  go_upto_region 1 with (fail)
  go_cut [15] (fun v15 wc => ∃ (kq : Nat) (x15_1 : Bool), v15 = .bool x15_1 ∧ Aside0 (impl_isNamePart.j0 kq a0 x15_1 = some r) ∧ Aside0 (kq ≤ k) ∧ Drawn0 w wc)
  case first =>
    have H := HC2.out
    clear HC2
    by_cases c3 : a0.toList = ([] : List UInt8)
    · rw [if_pos c3] at H
      have c3b0 : (a0.toList == ([] : List UInt8)) = true := beq_iff_eq.mpr c3
      have c3b1 : (a0.toList != ([] : List UInt8)) = false := bne_eq_false_iff_eq.mpr c3
      clear c3
      (first | rw [c3b0] | (simp only [i64_w, i32_w]; rw [c3b0]) | skip)
      have H' := Aside0.mk H
      clear H
      go_wp2
      go_meet
      case rel => exact ⟨_, (true), (by first | rfl | (simp; done) | (simp [*]; done)), H', ⟨by first | omega | exact Nat.le_refl _⟩, by repeat (first | exact Drawn0.refl _ | apply Drawn0.step)⟩
    · rw [if_neg c3] at H
      have c3b0 : (a0.toList == ([] : List UInt8)) = false := beq_eq_false_iff_ne.mpr c3
      have c3b1 : (a0.toList != ([] : List UInt8)) = true := bne_iff_ne.mpr c3
      (first | rw [c3b0] | (simp only [i64_w, i32_w]; rw [c3b0]) | skip)
      by_cases c4 : 0 < (a0.size : Int)
      · rw [if_pos c4] at H
        have c4b0 : decide (0 < (a0.size : Int)) = true := decide_eq_true c4
        have c4b1 : decide (0 < a0.size) = true := decide_eq_true (by omega)
        clear c4
        by_cases c6 : (bt a0 0) < 97
        · rw [if_pos c6] at H
          have c6b0 : decide ((bt a0 0) < 97) = true := decide_eq_true c6
          clear c6
          have H' := Aside0.mk H
          clear H
          have p5 : 0 ≤ (0 : Int) := (by omega)
          have q5 : 0 < a0.size := (by have : (0 : Int) < (a0.size : Int) := of_decide_eq_true (by first | (with_reducible assumption) | assumption); omega)
          have hx5 : ∀ h : 0 < a0.size, ((a0[0]'h).toNat : Int) = bt a0 0 := bt_at a0 0
          clear p5
          have qi5 : (0 < (a0.size : Int)) = True := eq_true (of_decide_eq_true (by first | (with_reducible assumption) | assumption))
          replace q5 := eq_true q5
          go_wp2
          go_meet
          case rel => exact ⟨_, (true), (by first | rfl | (simp; done) | (simp [*]; done)), H', ⟨by first | omega | exact Nat.le_refl _⟩, by repeat (first | exact Drawn0.refl _ | apply Drawn0.step)⟩
        · rw [if_neg c6] at H
          have c6b0 : decide ((bt a0 0) < 97) = false := decide_eq_false c6
          clear c6
          have H' := Aside0.mk H
          clear H
          have p5 : 0 ≤ (0 : Int) := (by omega)
          have q5 : 0 < a0.size := (by have : (0 : Int) < (a0.size : Int) := of_decide_eq_true (by first | (with_reducible assumption) | assumption); omega)
          have hx5 : ∀ h : 0 < a0.size, ((a0[0]'h).toNat : Int) = bt a0 0 := bt_at a0 0
          clear p5
          have qi5 : (0 < (a0.size : Int)) = True := eq_true (of_decide_eq_true (by first | (with_reducible assumption) | assumption))
          replace q5 := eq_true q5
          have p7 : 0 ≤ (0 : Int) := (by omega)
          have q7 : 0 < a0.size := (by have : (0 : Int) < (a0.size : Int) := of_decide_eq_true (by first | (with_reducible assumption) | assumption); omega)
          have hx7 : ∀ h : 0 < a0.size, ((a0[0]'h).toNat : Int) = bt a0 0 := bt_at a0 0
          clear p7
          have qi7 : (0 < (a0.size : Int)) = True := eq_true (of_decide_eq_true (by first | (with_reducible assumption) | assumption))
          replace q7 := eq_true q7
          go_wp2
          go_meet
          case rel => exact ⟨_, (decide ((bt a0 0) > 122)), (by first | rfl | (simp; done) | (simp [*]; done)), H', ⟨by first | omega | exact Nat.le_refl _⟩, by repeat (first | exact Drawn0.refl _ | apply Drawn0.step)⟩
      · rw [if_neg c4] at H
        exact absurd H (by simp)
  case rest =>
    clear HC2
    try clear c1
    try clear p2
    try clear c3
    try clear c3b0
    try clear c3b1
    try clear c4
    try clear c4b0
    try clear c4b1
    try clear p5
    try clear q5
    try clear hx5
    try clear qi5
    try clear c6
    try clear c6b0
    try clear p7
    try clear q7
    try clear hx7
    try clear qi7
    try clear p5
    try clear p7
    try clear q5
    try clear q7
    obtain ⟨kq, x15_1, rfl, HA, HJ1, ⟨mc1, rfl⟩⟩ := hcut
    cases kq with
    | zero => exact absurd HA.out (by simp [impl_isNamePart.j0])
    | succ kj1 =>
      have H := HA.out
      clear HA
      simp only [impl_isNamePart.j0] at H
      by_cases c8 : x15_1 = true
      · subst c8
        have H1 : (some false) = some r := by rw [if_pos rfl] at H; exact H
        clear H
        have H := H1
        clear H1
        obtain rfl := Option.some.inj H
        go_wp2
        go_ret
        exact ⟨by first | rfl | (simp; done) | (simp [*]; done), by repeat (first | exact Drawn0.refl _ | apply Drawn0.step)⟩
      · replace c8 := Bool.eq_false_iff.mpr c8
        subst c8
        have H1 : (impl_isNamePart.l0 kj1 a0 (a0.size : Int) 0) = some r := by rw [if_neg (show ¬ (false = true) by decide)] at H; exact H
        clear H
        have H := H1
        clear H1
        have H' := Aside0.mk H
        clear H
        go_wp2
        go_loopg [18] kj1 (fun kq v18 w' => ∃ (x18_2 : Int), v18 = .int .i64 x18_2 ∧ Aside0 (impl_isNamePart.l0 kq a0 (a0.size : Int) x18_2 = some r) ∧ Aside0 (kq ≤ kj1) ∧ Drawn0 w w')
        case atStart => exact ⟨(0), (by first | rfl | (simp; done) | (simp [*]; done)), H', ⟨Nat.le_refl _⟩, by repeat (first | exact Drawn0.refl _ | apply Drawn0.step)⟩
        case round =>
          clear H'
          try clear c1
          try clear p2
          try clear c3
          try clear c3b0
          try clear c3b1
          try clear c4
          try clear c4b0
          try clear c4b1
          try clear p5
          try clear q5
          try clear hx5
          try clear qi5
          try clear c6
          try clear c6b0
          try clear p7
          try clear q7
          try clear hx7
          try clear qi7
          try clear c8
          try clear p2
          try clear p5
          try clear p7
          try clear q5
          try clear q7
          obtain ⟨x18_2, rfl, HA, HK2, ⟨m2, rfl⟩⟩ := hrel
          cases gk with
          | zero => exact absurd HA.out (by simp [impl_isNamePart.l0])
          | succ k2 =>
            have H := HA.out
            clear HA
            simp only [impl_isNamePart.l0] at H
            by_cases c9 : x18_2 < (a0.size : Int)
            · rw [if_pos c9] at H
              have c9b0 : decide (x18_2 < (a0.size : Int)) = true := decide_eq_true c9
              clear c9
              by_cases c10 : 0 ≤ x18_2
              · rw [if_pos c10] at H
                have c10b0 : decide (0 ≤ x18_2) = true := decide_eq_true c10
                clear c10
                by_cases c11 : x18_2 < (a0.size : Int)
                · rw [if_pos c11] at H
                  have c11b0 : decide (x18_2 < (a0.size : Int)) = true := decide_eq_true c11
                  clear c11
                  by_cases c13 : (bt a0 x18_2) < 97
                  · rw [if_pos c13] at H
                    have c13b0 : decide ((bt a0 x18_2) < 97) = true := decide_eq_true c13
                    clear c13
                    by_cases c15 : (bt a0 x18_2) < 48
                    · rw [if_pos c15] at H
                      have c15b0 : decide ((bt a0 x18_2) < 48) = true := decide_eq_true c15
                      clear c15
                      obtain rfl := Option.some.inj H
                      have p12 : 0 ≤ (x18_2 : Int) := of_decide_eq_true (by first | (with_reducible assumption) | assumption)
                      have q12 : x18_2 < (a0.size : Int) := of_decide_eq_true (by first | (with_reducible assumption) | assumption)
                      have hx12 := bt_at a0 x18_2
                      replace p12 := eq_true p12
                      replace q12 := eq_true q12
                      have p14 : 0 ≤ (x18_2 : Int) := of_decide_eq_true (by first | (with_reducible assumption) | assumption)
                      have q14 : x18_2 < (a0.size : Int) := of_decide_eq_true (by first | (with_reducible assumption) | assumption)
                      have hx14 := bt_at a0 x18_2
                      replace p14 := eq_true p14
                      replace q14 := eq_true q14
                      go_wp2
                      go_ret
                      exact ⟨by first | rfl | (simp; done) | (simp [*]; done), by repeat (first | exact Drawn0.refl _ | apply Drawn0.step)⟩
                    · rw [if_neg c15] at H
                      have c15b0 : decide ((bt a0 x18_2) < 48) = false := decide_eq_false c15
                      clear c15
                      by_cases c17 : (bt a0 x18_2) > 57
                      · rw [if_pos c17] at H
                        have c17b0 : decide (57 < (bt a0 x18_2)) = true := decide_eq_true c17
                        clear c17
                        obtain rfl := Option.some.inj H
                        have p12 : 0 ≤ (x18_2 : Int) := of_decide_eq_true (by first | (with_reducible assumption) | assumption)
                        have q12 : x18_2 < (a0.size : Int) := of_decide_eq_true (by first | (with_reducible assumption) | assumption)
                        have hx12 := bt_at a0 x18_2
                        replace p12 := eq_true p12
                        replace q12 := eq_true q12
                        have p14 : 0 ≤ (x18_2 : Int) := of_decide_eq_true (by first | (with_reducible assumption) | assumption)
                        have q14 : x18_2 < (a0.size : Int) := of_decide_eq_true (by first | (with_reducible assumption) | assumption)
                        have hx14 := bt_at a0 x18_2
                        replace p14 := eq_true p14
                        replace q14 := eq_true q14
                        have p16 : 0 ≤ (x18_2 : Int) := of_decide_eq_true (by first | (with_reducible assumption) | assumption)
                        have q16 : x18_2 < (a0.size : Int) := of_decide_eq_true (by first | (with_reducible assumption) | assumption)
                        have hx16 := bt_at a0 x18_2
                        replace p16 := eq_true p16
                        replace q16 := eq_true q16
                        go_wp2
                        go_ret
                        exact ⟨by first | rfl | (simp; done) | (simp [*]; done), by repeat (first | exact Drawn0.refl _ | apply Drawn0.step)⟩
                      · rw [if_neg c17] at H
                        have c17b0 : decide (57 < (bt a0 x18_2)) = false := decide_eq_false c17
                        clear c17
                        have H' := Aside0.mk H
                        clear H
                        have p12 : 0 ≤ (x18_2 : Int) := of_decide_eq_true (by first | (with_reducible assumption) | assumption)
                        have q12 : x18_2 < (a0.size : Int) := of_decide_eq_true (by first | (with_reducible assumption) | assumption)
                        have hx12 := bt_at a0 x18_2
                        replace p12 := eq_true p12
                        replace q12 := eq_true q12
                        have p14 : 0 ≤ (x18_2 : Int) := of_decide_eq_true (by first | (with_reducible assumption) | assumption)
                        have q14 : x18_2 < (a0.size : Int) := of_decide_eq_true (by first | (with_reducible assumption) | assumption)
                        have hx14 := bt_at a0 x18_2
                        replace p14 := eq_true p14
                        replace q14 := eq_true q14
                        have p16 : 0 ≤ (x18_2 : Int) := of_decide_eq_true (by first | (with_reducible assumption) | assumption)
                        have q16 : x18_2 < (a0.size : Int) := of_decide_eq_true (by first | (with_reducible assumption) | assumption)
                        have hx16 := bt_at a0 x18_2
                        replace p16 := eq_true p16
                        replace q16 := eq_true q16
                        go_wp2
                        go_roundg k2
                        case measure => have := HJ1.out; have := HK2.out; omega
                        case rel => exact ⟨(wrap64 (x18_2 + 1)), (by first | rfl | (simp; done) | (simp [*]; done)), H', ⟨by have := HJ1.out; have := HK2.out; omega⟩, by repeat (first | exact Drawn0.refl _ | apply Drawn0.step)⟩
                  · rw [if_neg c13] at H
                    have c13b0 : decide ((bt a0 x18_2) < 97) = false := decide_eq_false c13
                    clear c13
                    by_cases c19 : (bt a0 x18_2) > 122
                    · rw [if_pos c19] at H
                      have c19b0 : decide (122 < (bt a0 x18_2)) = true := decide_eq_true c19
                      clear c19
                      by_cases c21 : (bt a0 x18_2) < 48
                      · rw [if_pos c21] at H
                        have c21b0 : decide ((bt a0 x18_2) < 48) = true := decide_eq_true c21
                        clear c21
                        obtain rfl := Option.some.inj H
                        have p12 : 0 ≤ (x18_2 : Int) := of_decide_eq_true (by first | (with_reducible assumption) | assumption)
                        have q12 : x18_2 < (a0.size : Int) := of_decide_eq_true (by first | (with_reducible assumption) | assumption)
                        have hx12 := bt_at a0 x18_2
                        replace p12 := eq_true p12
                        replace q12 := eq_true q12
                        have p18 : 0 ≤ (x18_2 : Int) := of_decide_eq_true (by first | (with_reducible assumption) | assumption)
                        have q18 : x18_2 < (a0.size : Int) := of_decide_eq_true (by first | (with_reducible assumption) | assumption)
                        have hx18 := bt_at a0 x18_2
                        replace p18 := eq_true p18
                        replace q18 := eq_true q18
                        have p20 : 0 ≤ (x18_2 : Int) := of_decide_eq_true (by first | (with_reducible assumption) | assumption)
                        have q20 : x18_2 < (a0.size : Int) := of_decide_eq_true (by first | (with_reducible assumption) | assumption)
                        have hx20 := bt_at a0 x18_2
                        replace p20 := eq_true p20
                        replace q20 := eq_true q20
                        go_wp2
                        go_ret
                        exact ⟨by first | rfl | (simp; done) | (simp [*]; done), by repeat (first | exact Drawn0.refl _ | apply Drawn0.step)⟩
                      · rw [if_neg c21] at H
                        have c21b0 : decide ((bt a0 x18_2) < 48) = false := decide_eq_false c21
                        clear c21
                        by_cases c23 : (bt a0 x18_2) > 57
                        · rw [if_pos c23] at H
                          have c23b0 : decide (57 < (bt a0 x18_2)) = true := decide_eq_true c23
                          clear c23
                          obtain rfl := Option.some.inj H
                          have p12 : 0 ≤ (x18_2 : Int) := of_decide_eq_true (by first | (with_reducible assumption) | assumption)
                          have q12 : x18_2 < (a0.size : Int) := of_decide_eq_true (by first | (with_reducible assumption) | assumption)
                          have hx12 := bt_at a0 x18_2
                          replace p12 := eq_true p12
                          replace q12 := eq_true q12
                          have p18 : 0 ≤ (x18_2 : Int) := of_decide_eq_true (by first | (with_reducible assumption) | assumption)
                          have q18 : x18_2 < (a0.size : Int) := of_decide_eq_true (by first | (with_reducible assumption) | assumption)
                          have hx18 := bt_at a0 x18_2
                          replace p18 := eq_true p18
                          replace q18 := eq_true q18
                          have p20 : 0 ≤ (x18_2 : Int) := of_decide_eq_true (by first | (with_reducible assumption) | assumption)
                          have q20 : x18_2 < (a0.size : Int) := of_decide_eq_true (by first | (with_reducible assumption) | assumption)
                          have hx20 := bt_at a0 x18_2
                          replace p20 := eq_true p20
                          replace q20 := eq_true q20
                          have p22 : 0 ≤ (x18_2 : Int) := of_decide_eq_true (by first | (with_reducible assumption) | assumption)
                          have q22 : x18_2 < (a0.size : Int) := of_decide_eq_true (by first | (with_reducible assumption) | assumption)
                          have hx22 := bt_at a0 x18_2
                          replace p22 := eq_true p22
                          replace q22 := eq_true q22
                          go_wp2
                          go_ret
                          exact ⟨by first | rfl | (simp; done) | (simp [*]; done), by repeat (first | exact Drawn0.refl _ | apply Drawn0.step)⟩
                        · rw [if_neg c23] at H
                          have c23b0 : decide (57 < (bt a0 x18_2)) = false := decide_eq_false c23
                          clear c23
                          have H' := Aside0.mk H
                          clear H
                          have p12 : 0 ≤ (x18_2 : Int) := of_decide_eq_true (by first | (with_reducible assumption) | assumption)
                          have q12 : x18_2 < (a0.size : Int) := of_decide_eq_true (by first | (with_reducible assumption) | assumption)
                          have hx12 := bt_at a0 x18_2
                          replace p12 := eq_true p12
                          replace q12 := eq_true q12
                          have p18 : 0 ≤ (x18_2 : Int) := of_decide_eq_true (by first | (with_reducible assumption) | assumption)
                          have q18 : x18_2 < (a0.size : Int) := of_decide_eq_true (by first | (with_reducible assumption) | assumption)
                          have hx18 := bt_at a0 x18_2
                          replace p18 := eq_true p18
                          replace q18 := eq_true q18
                          have p20 : 0 ≤ (x18_2 : Int) := of_decide_eq_true (by first | (with_reducible assumption) | assumption)
                          have q20 : x18_2 < (a0.size : Int) := of_decide_eq_true (by first | (with_reducible assumption) | assumption)
                          have hx20 := bt_at a0 x18_2
                          replace p20 := eq_true p20
                          replace q20 := eq_true q20
                          have p22 : 0 ≤ (x18_2 : Int) := of_decide_eq_true (by first | (with_reducible assumption) | assumption)
                          have q22 : x18_2 < (a0.size : Int) := of_decide_eq_true (by first | (with_reducible assumption) | assumption)
                          have hx22 := bt_at a0 x18_2
                          replace p22 := eq_true p22
                          replace q22 := eq_true q22
                          go_wp2
                          go_roundg k2
                          case measure => have := HJ1.out; have := HK2.out; omega
                          case rel => exact ⟨(wrap64 (x18_2 + 1)), (by first | rfl | (simp; done) | (simp [*]; done)), H', ⟨by have := HJ1.out; have := HK2.out; omega⟩, by repeat (first | exact Drawn0.refl _ | apply Drawn0.step)⟩
                    · rw [if_neg c19] at H
                      have c19b0 : decide (122 < (bt a0 x18_2)) = false := decide_eq_false c19
                      clear c19
                      have H' := Aside0.mk H
                      clear H
                      have p12 : 0 ≤ (x18_2 : Int) := of_decide_eq_true (by first | (with_reducible assumption) | assumption)
                      have q12 : x18_2 < (a0.size : Int) := of_decide_eq_true (by first | (with_reducible assumption) | assumption)
                      have hx12 := bt_at a0 x18_2
                      replace p12 := eq_true p12
                      replace q12 := eq_true q12
                      have p18 : 0 ≤ (x18_2 : Int) := of_decide_eq_true (by first | (with_reducible assumption) | assumption)
                      have q18 : x18_2 < (a0.size : Int) := of_decide_eq_true (by first | (with_reducible assumption) | assumption)
                      have hx18 := bt_at a0 x18_2
                      replace p18 := eq_true p18
                      replace q18 := eq_true q18
                      go_wp2
                      go_roundg k2
                      case measure => have := HJ1.out; have := HK2.out; omega
                      case rel => exact ⟨(wrap64 (x18_2 + 1)), (by first | rfl | (simp; done) | (simp [*]; done)), H', ⟨by have := HJ1.out; have := HK2.out; omega⟩, by repeat (first | exact Drawn0.refl _ | apply Drawn0.step)⟩
                · rw [if_neg c11] at H
                  exact absurd H (by simp)
              · rw [if_neg c10] at H
                exact absurd H (by simp)
            · rw [if_neg c9] at H
              have c9b0 : decide (x18_2 < (a0.size : Int)) = false := decide_eq_false c9
              clear c9
              obtain rfl := Option.some.inj H
              go_wp2
              go_ret
              exact ⟨by first | rfl | (simp; done) | (simp [*]; done), by repeat (first | exact Drawn0.refl _ | apply Drawn0.step)⟩

/-- THE ONE PURE STATEMENT of impl_isNamePart: yours. -/
def impl_isNamePart.Pure : Prop := ∀ (a0 : ByteArray), a0.size ≤ 140737488351232 → ∃ k, impl_isNamePart.f k a0 = some true
theorem impl_isNamePart.walk (P : impl_isNamePart.Pure) (a0 : ByteArray) (w : World) (w0 : a0.size ≤ 140737488351232) :
    Calls Tryd.prog 107 #[.string a0] w fun e w' => e = .returned (.bool true) ∧ Below w.heap.size w w' := by
  obtain ⟨k, h⟩ := P a0 w0
  refine (impl_isNamePart.calls k a0 true w h).mono ?_
  rintro e w' ⟨rfl, hd⟩
  exact ⟨rfl, hd.below⟩

end Go.Proofs.YtefiapcfdabfpaaDoor.P

namespace Go.Proofs.YtefiapcfdabfpaaDoor.P
open Go.RowKit Go.Proofs.YtefiapcfdabfpaaDoorW.PrintWords Go.Proofs.YtefiapcfdabfpaaDoorW.PrintLast Go.Proofs.YtefiapcfdabfpaaDoorW.PrintMore
set_option maxRecDepth 100000
set_option maxHeartbeats 8000000
def lowOk (c : UInt8) : Bool := decide (97 ≤ c.toNat ∧ c.toNat ≤ 122)
def lowNum (c : UInt8) : Bool := lowOk c || decide (48 ≤ c.toNat ∧ c.toNat ≤ 57)
/-- A part of a name. -/
def namePart (l : List UInt8) : Bool := match l with | [] => false | c :: _ => lowOk c && l.all lowNum
theorem bt_list (s : ByteArray) (i : Nat) (h : i < s.data.toList.length) : bt s (i : Int) = (s.data.toList[i]'h).toNat := by
  have h' : i < s.size := by simpa using h
  unfold bt
  rw [dif_pos (by simpa using h')]
  rfl
theorem part_loop (s : ByteArray) (hs : s.size ≤ 140737488351232) (d : Nat) : ∀ (i : Nat), i + d = s.size → ∀ k, d < k → impl_isNamePart.l0 k s (s.size : Int) (i : Int) = some ((s.data.toList.drop i).all lowNum) := by
  induction d with
  | zero =>
    intro i hi k hk
    obtain ⟨k, rfl⟩ : ∃ m, k = m + 1 := ⟨k - 1, by omega⟩
    simp only [impl_isNamePart.l0]
    rw [if_neg (by omega), List.drop_eq_nil_of_le (by simp; omega)]
    rfl
  | succ d ih =>
    intro i hi k hk
    obtain ⟨k, rfl⟩ : ∃ m, k = m + 1 := ⟨k - 1, by omega⟩
    have hl : i < s.data.toList.length := by simp; omega
    have e : wrap64 ((i : Int) + 1) = ((i + 1 : Nat) : Int) := by unfold wrap64; omega
    simp only [impl_isNamePart.l0]
    rw [if_pos (by omega), if_pos (by omega), if_pos (by omega), bt_list s i hl, e, ih (i + 1) (by omega) k (by omega), List.drop_eq_getElem_cons hl, List.all_cons]
    generalize (s.data.toList.drop (i + 1)).all lowNum = R
    generalize s.data.toList[i] = c
    unfold lowNum lowOk
    have := c.toNat_lt
    by_cases h1 : ((c.toNat : Nat) : Int) < 97
    · rw [if_pos h1]
      by_cases h2 : ((c.toNat : Nat) : Int) < 48
      · rw [if_pos h2, decide_eq_false (by omega), decide_eq_false (by omega)]; rfl
      · rw [if_neg h2]
        by_cases h3 : ((c.toNat : Nat) : Int) > 57
        · rw [if_pos h3, decide_eq_false (by omega), decide_eq_false (by omega)]; rfl
        · rw [if_neg h3, decide_eq_false (by omega), decide_eq_true (by omega)]; rfl
    · rw [if_neg h1]
      by_cases h4 : ((c.toNat : Nat) : Int) > 122
      · rw [if_pos h4, if_neg (by omega), if_pos (by omega), decide_eq_false (by omega), decide_eq_false (by omega)]; rfl
      · rw [if_neg h4, decide_eq_true (by omega)]; rfl
theorem part_is (s : ByteArray) (hs : s.size ≤ 140737488351232) : impl_isNamePart.f (s.size + 5) s = some (namePart s.data.toList) := by
  have e0 : s.toList = s.data.toList := by rw [ByteArray.toList_eq]
  unfold impl_isNamePart.f
  rw [e0]
  rcases hl : s.data.toList with _ | ⟨c, l⟩
  · rw [if_pos rfl]
    show impl_isNamePart.j0 (s.size + 4 + 1) s true = _
    simp only [impl_isNamePart.j0, if_true]
    rfl
  · have hz : 0 < s.data.toList.length := by rw [hl]; simp
    have hz' : 0 < s.size := by simpa using hz
    rw [if_neg (by simp), if_pos (by omega)]
    have hb := bt_list s 0 hz
    simp only [hl, List.getElem_cons_zero] at hb
    have hb' : bt s 0 = (c.toNat : Int) := hb
    rw [hb']
    have hloop := part_loop s hs s.size 0 (by omega) (s.size + 4) (by omega)
    rw [hl] at hloop
    have hj : ∀ b, impl_isNamePart.j0 (s.size + 5) s b = if b = true then some false else some ((c :: l).all lowNum) := by
      intro b
      show impl_isNamePart.j0 (s.size + 4 + 1) s b = _
      simp only [impl_isNamePart.j0]
      rw [show (0 : Int) = ((0 : Nat) : Int) from rfl, hloop]
      rfl
    rw [hj, hj]
    unfold namePart lowOk
    have := c.toNat_lt
    by_cases h1 : ((c.toNat : Nat) : Int) < 97
    · rw [if_pos h1, if_pos rfl]; simp only; rw [decide_eq_false (by omega)]; rfl
    · rw [if_neg h1]
      by_cases h4 : ((c.toNat : Nat) : Int) > 122
      · rw [decide_eq_true h4, if_pos rfl]; simp only; rw [decide_eq_false (by omega)]; rfl
      · rw [decide_eq_false h4, if_neg (by simp)]; simp only; rw [decide_eq_true (by omega)]; rfl
theorem splitB_le (sep : ByteArray) : ∀ (k : Nat) (s x : ByteArray), x ∈ Lib.splitB sep 0 k s → x.size ≤ s.size
  | 0, s, x, h => by rw [Lib.splitB_zero, List.mem_singleton] at h; subst h; exact Nat.le_refl _
  | k + 1, s, x, h => by
    by_cases hi : Lib.indexB s sep = -1
    · rw [Lib.splitB_miss _ _ _ _ hi, List.mem_singleton] at h; subst h; exact Nat.le_refl _
    · obtain ⟨i, hi'⟩ : ∃ i : Nat, Lib.indexB s sep = i := ⟨(Lib.indexB s sep).toNat, by have := Lib.index_ge s.data.toList sep.data.toList; unfold Lib.indexB at *; omega⟩
      rw [Lib.splitB_hit _ _ _ _ i hi', List.mem_cons] at h
      rcases h with rfl | h
      · rw [ByteArray.size_extract]; omega
      · have := splitB_le sep k _ x h
        rw [ByteArray.size_extract] at this
        omega
/-- The texts whose length Go's lengths can be. -/
abbrev Short := { s : ByteArray // s.size ≤ 140737488351232 }
instance : Inhabited Short := ⟨⟨ByteArray.empty, by decide⟩⟩
def shortV (s : Short) : Value := .string s.1
theorem namePart_pred (w : World) : PredAt Tryd.prog 106 #[] shortV (fun s => !namePart s.1.data.toList) w := fun W x _ => by
  show Calls Tryd.prog 106 #[.string x.1] W fun e w' => e = .returned (.bool (!namePart x.1.data.toList)) ∧ ∃ q, w' = W.drewN q
  have hc := fun w => impl_isNamePart.calls _ x.1 _ w (part_is x.1 x.2)
  generalize namePart x.1.data.toList = b at hc ⊢
  generalize x.1 = s at hc ⊢
  go_enter Tryd.func106, Tryd.ntmps106
  go_wp2_with (go_at_call 107; refine (hc _).mono ?_; rintro e w' ⟨rfl, ⟨nd, rfl⟩⟩)
  go_ret
  exact ⟨rfl, _, rfl⟩
def impl_NameOk.f (a0 : ByteArray) : Option Bool :=
  if a0.size ≤ 140737488351232 then
    if 40 < a0.size then some false else
      (strings_Split.f a0 ⟨#[46]⟩).bind fun ps => some (decide (ps.length ≤ 5) && !(ps.any fun s => !namePart s.data.toList))
  else none
theorem impl_NameOk.calls (a0 : ByteArray) (r : Bool) (w : World) (hE : EnvM w) (h : impl_NameOk.f a0 = some r) :
    Calls Tryd.prog 87 #[.string a0] w fun e w' => e = .returned (.bool r) ∧ Below w.heap.size w w' := by
  unfold impl_NameOk.f at h
  by_cases hB : a0.size ≤ 140737488351232
  · rw [if_pos hB] at h
    by_cases c1 : 40 < a0.size
    · rw [if_pos c1] at h
      obtain rfl := Option.some.inj h
      go_enter Tryd.func87, Tryd.ntmps87
      go_wp2
      go_ret
      exact ⟨rfl, Below.refl _ _⟩
    · rw [if_neg c1] at h
      have hs0 : strings_Split.f a0 ⟨#[46]⟩ = some (Lib.splitB ⟨#[46]⟩ 0 (Lib.countB a0 ⟨#[46]⟩) a0) := by
        unfold strings_Split.f
        rw [if_pos ⟨by decide, by omega⟩]
      have hall : ∀ s ∈ Lib.splitB ⟨#[46]⟩ 0 (Lib.countB a0 ⟨#[46]⟩) a0, s.size ≤ 140737488351232 := fun s hs => by
        have := splitB_le ⟨#[46]⟩ (Lib.countB a0 ⟨#[46]⟩) a0 s hs
        omega
      have hlen : (Lib.splitB ⟨#[46]⟩ 0 (Lib.countB a0 ⟨#[46]⟩) a0).length = Lib.countB a0 ⟨#[46]⟩ + 1 := Lib.splitB_all _ (by decide) 0 _ a0 rfl
      have hcnt := Lib.countB_le (⟨#[46]⟩ : ByteArray) (by decide) a0.size a0 (Nat.le_refl _)
      rw [hs0] at h
      generalize Lib.splitB (⟨#[46]⟩ : ByteArray) 0 (Lib.countB a0 ⟨#[46]⟩) a0 = ps at hs0 hall hlen h
      generalize Lib.countB a0 (⟨#[46]⟩ : ByteArray) = n at hlen hcnt
      replace h := Option.some.inj h
      have hS := fun w hE => strings_Split.calls a0 ⟨#[46]⟩ ps w hE hs0
      have hne : 0 < ps.length := by omega
      have hC : ∀ (w1 : World) (A : Option Addr) (c : Nat), Kd.string.C w1 A ps.length ps → Calls Tryd.prog 105 #[.slice A ps.length c, .func (.func 106) #[] #[]] w1 fun e w' => e = .returned (.bool (ps.any fun s => !namePart s.data.toList)) ∧ ∃ q, w' = w1.drewN q := by
        intro w1 A c hr
        obtain ⟨ad, rfl, _, hcs⟩ := cells_of_C hr hne
        have := Tryd.slices_ContainsFunc shortV (fun s => !namePart s.1.data.toList) 106 #[] (enters_of Tryd.func106 (by kernel_rfl) rfl) ad.block ad.off ps.length c (ps.attach.map fun s => (⟨s.1, hall s.1 s.2⟩ : Short)) w1 (namePart_pred w1) (by simp) (by omega) (fun j hj => by
          have hj' : j < ps.length := by simpa using hj
          rw [hcs j ps[j] (List.getElem?_eq_getElem hj')]
          rw [getElem!_pos _ j hj]
          simp [shortV])
        refine this.mono fun e w' he => ⟨he.1.trans ?_, he.2⟩
        rw [List.take_of_length_le (by simp), List.any_map]
        congr 2
        conv => rhs; rw [← List.attach_map_subtype_val ps]
        rw [List.any_map]
        rfl
      generalize (ps.any fun s => !namePart s.data.toList) = b at hC h
      clear hcnt hs0 hlen hall hne
      by_cases c2 : ps.length ≤ 5
      · have c2b : decide (ps.length ≤ 5) = true := decide_eq_true c2
        rw [c2b] at h
        subst h
        have c2i : (ps.length : Int) ≤ 5 := by omega
        clear c2 c2b
        go_enter Tryd.func87, Tryd.ntmps87
        go_wp2_with (first | (go_at_call 104; refine (hS _ hE).mono ?_; rintro e w1 ⟨v0, rfl, hv, hb⟩; obtain ⟨A, c, rfl⟩ := Kd.R_slice hv; have hr := (Kd.R_reads' hv).2.2; clear hv) | (go_at_call 105; refine (hC _ _ _ hr).mono ?_; rintro e w2 ⟨rfl, q, rfl⟩))
        go_ret
        exact ⟨by simp, pw_below_drewN hb _⟩
      · have c2b : decide (ps.length ≤ 5) = false := decide_eq_false c2
        rw [c2b] at h
        subst h
        have c2i : 5 < (ps.length : Int) := by omega
        clear c2 c2b
        go_enter Tryd.func87, Tryd.ntmps87
        go_wp2_with (first | (go_at_call 104; refine (hS _ hE).mono ?_; rintro e w1 ⟨v0, rfl, hv, hb⟩; obtain ⟨A, c, rfl⟩ := Kd.R_slice hv; have hr := (Kd.R_reads' hv).2.2; clear hv) | (go_at_call 105; fail))
        go_ret
        exact ⟨by simp, hb⟩
  · rw [if_neg hB] at h
    cases h
end Go.Proofs.YtefiapcfdabfpaaDoor.P

namespace Go.Proofs.YtefiapcfdabfpaaDoor.P
open Go.RowKit Go.Proofs.YtefiapcfdabfpaaDoorW.PrintWords
/-- A term: what the reader can read. -/
inductive Te where
  | var (n : Int)
  | sort (l : ByteArray)
  | con (n : ByteArray) (l : List ByteArray)
  | two (k : Int) (x y : Te)
  | three (x y z : Te)
namespace Te
/-- As the program's node has it. -/
def tm : Te → Tm
  | var n => tVar n
  | sort l => tSort l
  | con n l => tCon n l
  | two k x y => tCmp k [tm x, tm y]
  | three x y z => tCmp 116 [tm x, tm y, tm z]
def kids : Te → List Te
  | two _ x y => [x, y]
  | three x y z => [x, y, z]
  | _ => []
def kind : Te → Int
  | var _ => 118
  | sort _ => 115
  | con _ _ => 99
  | two k _ _ => k
  | three _ _ _ => 116
/-- The number of terms in a term. -/
def sz : Te → Nat
  | two _ x y => sz x + sz y + 1
  | three x y z => sz x + sz y + sz z + 1
  | _ => 1
theorem tm_kids (e : Te) : e.tm.kids = e.kids.map tm := by cases e <;> rfl
theorem tm_kind (e : Te) : e.tm.kind = e.kind := by cases e <;> rfl
theorem sz_pos (e : Te) : 0 < sz e := by cases e <;> simp [sz]
theorem kid_lt {e x : Te} (h : x ∈ e.kids) : sz x < sz e := by
  cases e with
  | var n => simp [kids] at h
  | sort l => simp [kids] at h
  | con n l => simp [kids] at h
  | two k a b =>
    simp only [kids, List.mem_cons, List.mem_nil_iff, or_false] at h
    rcases h with rfl | rfl <;> simp only [sz] <;> omega
  | three a b c =>
    simp only [kids, List.mem_cons, List.mem_nil_iff, or_false] at h
    rcases h with rfl | rfl | rfl <;> simp only [sz] <;> omega
/-- What the reader makes. -/
inductive Ok : Te → Prop
  | var (n : Int) (h0 : 0 ≤ n) (h1 : n ≤ 999) : Ok (.var n)
  | sort (l : ByteArray) (h : l.size ≤ 60) : Ok (.sort l)
  | con (n : ByteArray) (l : List ByteArray) (hn : n.size ≤ 40) (hl : l.length ≤ 3) (hs : ∀ x ∈ l, x.size ≤ 60) : Ok (.con n l)
  | two (k : Int) (x y : Te) (hk : k = 64 ∨ k = 108 ∨ k = 112) : Ok x → Ok y → Ok (.two k x y)
  | three (x y z : Te) : Ok x → Ok y → Ok z → Ok (.three x y z)
end Te
/-- The place behind a level, at a place, where so many are open. -/
def lvE (s : ByteArray) : Nat → Nat → Nat → Option Nat
  | _, 0, a => some a
  | 0, _ + 1, _ => none
  | k + 1, o + 1, a =>
    if a < s.size then
      if bt s (a : Int) = 122 then lvE s k o (a + 1)
      else if bt s (a : Int) = 43 then lvE s k (o + 1) (a + 1)
      else if bt s (a : Int) = 109 ∨ bt s (a : Int) = 105 then lvE s k (o + 2) (a + 1)
      else if bt s (a : Int) = 117 then
        (if a + 1 < s.size then (if 48 ≤ bt s ((a + 1 : Nat) : Int) ∧ bt s ((a + 1 : Nat) : Int) ≤ 50 then lvE s k o (a + 2) else none) else none)
      else none
    else none
def lvEnd (s : ByteArray) (a : Nat) : Option Nat := lvE s (s.size + 1) 1 a
theorem lvE_ge (s : ByteArray) : ∀ (k o a e : Nat), lvE s k o a = some e → a ≤ s.size → a + o ≤ e ∧ e ≤ s.size := by
  intro k
  induction k with
  | zero =>
    intro o a e h ha
    cases o with
    | zero => simp only [lvE, Option.some.injEq] at h; omega
    | succ o => simp [lvE] at h
  | succ k ih =>
    intro o a e h ha
    cases o with
    | zero => simp only [lvE, Option.some.injEq] at h; omega
    | succ o =>
      simp only [lvE] at h
      by_cases h0 : a < s.size
      · rw [if_pos h0] at h
        by_cases h1 : bt s (a : Int) = 122
        · rw [if_pos h1] at h; have := ih _ _ _ h (by omega); omega
        · rw [if_neg h1] at h
          by_cases h2 : bt s (a : Int) = 43
          · rw [if_pos h2] at h; have := ih _ _ _ h (by omega); omega
          · rw [if_neg h2] at h
            by_cases h3 : bt s (a : Int) = 109 ∨ bt s (a : Int) = 105
            · rw [if_pos h3] at h; have := ih _ _ _ h (by omega); omega
            · rw [if_neg h3] at h
              by_cases h4 : bt s (a : Int) = 117
              · rw [if_pos h4] at h
                by_cases h5 : a + 1 < s.size
                · rw [if_pos h5] at h
                  by_cases h6 : 48 ≤ bt s ((a + 1 : Nat) : Int) ∧ bt s ((a + 1 : Nat) : Int) ≤ 50
                  · rw [if_pos h6] at h; have := ih _ _ _ h (by omega); omega
                  · rw [if_neg h6] at h; cases h
                · rw [if_neg h5] at h; cases h
              · rw [if_neg h4] at h; cases h
      · rw [if_neg h0] at h; cases h
/-- A level at a place, with a byte behind it: that byte's place. -/
def lvAt (s : ByteArray) (c : Int) (a : Nat) : Option Nat := (lvEnd s a).bind fun e => if e < s.size ∧ bt s (e : Int) = c ∧ e - a ≤ 60 then some e else none
theorem lvAt_ge {s : ByteArray} {c : Int} {a e : Nat} (h : lvAt s c a = some e) (ha : a ≤ s.size) : a < e ∧ e < s.size ∧ e - a ≤ 60 ∧ bt s (e : Int) = c ∧ lvEnd s a = some e := by
  unfold lvAt at h
  obtain ⟨x, hx, h⟩ := Option.bind_eq_some_iff.mp h
  by_cases hc : x < s.size ∧ bt s (x : Int) = c ∧ x - a ≤ 60
  · rw [if_pos hc] at h
    obtain rfl := Option.some.inj h
    have := lvE_ge s _ _ _ _ hx ha
    exact ⟨by omega, hc.1, hc.2.2, hc.2.1, hx⟩
  · rw [if_neg hc] at h; cases h
/-- The levels of a constant, from a place on, to the place of the point. -/
def lvs (s : ByteArray) : Nat → Nat → Option (List ByteArray × Nat)
  | 0, _ => none
  | k + 1, a =>
    if a < s.size then (if bt s (a : Int) = 46 then some ([], a) else (lvAt s 44 a).bind fun e => (lvs s k (e + 1)).map fun r => (s.extract a e :: r.1, r.2))
    else none
theorem lvs_ge (s : ByteArray) : ∀ (k a : Nat) (l : List ByteArray) (e : Nat), lvs s k a = some (l, e) → a ≤ s.size → a ≤ e ∧ e < s.size ∧ bt s (e : Int) = 46 ∧ l.length ≤ e - a ∧ ∀ x ∈ l, x.size ≤ 60 := by
  intro k
  induction k with
  | zero => intro a l e h ha; simp [lvs] at h
  | succ k ih =>
    intro a l e h ha
    simp only [lvs] at h
    by_cases h0 : a < s.size
    · rw [if_pos h0] at h
      by_cases h1 : bt s (a : Int) = 46
      · rw [if_pos h1] at h
        simp only [Option.some.injEq, Prod.mk.injEq] at h
        obtain ⟨rfl, rfl⟩ := h
        exact ⟨Nat.le_refl _, h0, h1, by simp, by simp⟩
      · rw [if_neg h1] at h
        obtain ⟨e1, he1, h⟩ := Option.bind_eq_some_iff.mp h
        obtain ⟨⟨l2, e2⟩, hr, h⟩ := Option.map_eq_some_iff.mp h
        simp only [Prod.mk.injEq] at h
        obtain ⟨rfl, rfl⟩ := h
        have g1 := lvAt_ge he1 ha
        have g2 := ih _ _ _ hr (by omega)
        refine ⟨by omega, g2.2.1, g2.2.2.1, by simp; omega, fun x hx => ?_⟩
        rcases List.mem_cons.mp hx with rfl | hx
        · rw [ByteArray.size_extract]; omega
        · exact g2.2.2.2.2 x hx
    · rw [if_neg h0] at h; cases h
/-- How far ahead a byte is, -1 where it is not there. -/
def idx (s : ByteArray) (c : Int) (a : Nat) : Int := Lib.indexByte (s.extract a s.size).data.toList c.toNat.toUInt8
def rdV (s : ByteArray) (a : Nat) : Option (Te × Nat) :=
  if 0 ≤ idx s 46 a then
    (impl_ReadDecimal.f (s.extract a (a + (idx s 46 a).toNat))).bind fun r => if r.2 = true ∧ r.1 ≤ 999 then some (.var r.1, a + (idx s 46 a).toNat + 1) else none
  else none
def rdC (s : ByteArray) (a : Nat) : Option (Te × Nat) :=
  if 0 ≤ idx s 59 a then
    (lvs s (s.size + 1) (a + (idx s 59 a).toNat + 1)).bind fun r => (impl_NameOk.f (s.extract a (a + (idx s 59 a).toNat))).bind fun b => if b = true ∧ r.1.length ≤ 3 then some (.con (s.extract a (a + (idx s 59 a).toNat)) r.1, r.2 + 1) else none
  else none
/-- The term at a place and the place behind it. -/
def rd (s : ByteArray) : Nat → Nat → Option (Te × Nat)
  | 0, _ => none
  | k + 1, a =>
    if a < s.size then
      if bt s (a : Int) = 118 then rdV s (a + 1)
      else if bt s (a : Int) = 115 then (lvAt s 46 (a + 1)).map fun e => (Te.sort (s.extract (a + 1) e), e + 1)
      else if bt s (a : Int) = 99 then rdC s (a + 1)
      else if bt s (a : Int) = 64 ∨ bt s (a : Int) = 108 ∨ bt s (a : Int) = 112 then (rd s k (a + 1)).bind fun r1 => (rd s k r1.2).map fun r2 => (Te.two (bt s (a : Int)) r1.1 r2.1, r2.2)
      else if bt s (a : Int) = 116 then (rd s k (a + 1)).bind fun r1 => (rd s k r1.2).bind fun r2 => (rd s k r2.2).map fun r3 => (Te.three r1.1 r2.1 r3.1, r3.2)
      else none
    else none
/-- The term that a text is. -/
def parseT (s : ByteArray) : Option Te := if s.size ≤ 2000 then (rd s (s.size + 1) 0).bind fun r => if r.2 = s.size then some r.1 else none else none
theorem idx_lt (s : ByteArray) (c : Int) (a : Nat) (h : 0 ≤ idx s c a) : a + (idx s c a).toNat < s.size := by
  unfold idx at h ⊢
  generalize hl : (s.extract a s.size).data.toList = l at h ⊢
  have hn : l.length = s.size - a := by
    rw [← hl, Array.length_toList]
    show (s.extract a s.size).size = _
    rw [ByteArray.size_extract]; omega
  obtain ⟨o, ho⟩ : ∃ o : Nat, Lib.indexByte l c.toNat.toUInt8 = (o : Int) := ⟨(Lib.indexByte l c.toNat.toUInt8).toNat, by omega⟩
  have h1 := (Lib.indexByte_some ho).1
  obtain ⟨h2, _⟩ := List.getElem?_eq_some_iff.mp h1
  omega
end Go.Proofs.YtefiapcfdabfpaaDoor.P

namespace Go.Proofs.YtefiapcfdabfpaaDoor.P
open Go.RowKit Go.Proofs.YtefiapcfdabfpaaDoorW.PrintWords Go.Proofs.YtefiapcfdabfpaaDoorW.PrintLast Go.Proofs.YtefiapcfdabfpaaDoorW.PrintMore
attribute [local go_sem] max2_int min2_int max_two min_two max_three min_three max_four min_four
set_option linter.unusedVariables false
set_option linter.unusedSimpArgs false

/-! ### impl_LevelEnd: function 103 -/
mutual
def impl_LevelEnd.j0 : Nat → ByteArray → Int → Bool → Option (Int)
  | 0, _, _, _ => none
  | k + 1, x0, x1, x15 => if x15 = true then (some (-1)) else (impl_LevelEnd.l0 k x0 x1 1)
def impl_LevelEnd.l0 : Nat → ByteArray → Int → Int → Option (Int)
  | 0, _, _, _ => none
  | k + 1, x0, x1, x5 => if x5 > 0 then (if x1 = (x0.size : Int) then (some (-1)) else (if 0 ≤ x1 then (if x1 < (x0.size : Int) then (if (bt x0 x1) = 122 then (impl_LevelEnd.l0 k x0 (wrap64 (x1 + 1)) (wrap64 (x5 - 1))) else (if (bt x0 x1) = 43 then (impl_LevelEnd.l0 k x0 (wrap64 (x1 + 1)) x5) else (if (bt x0 x1) = 109 then (impl_LevelEnd.j2 k x0 x1 x5 (bt x0 x1) ((bt x0 x1) == 109)) else (impl_LevelEnd.j2 k x0 x1 x5 (bt x0 x1) ((bt x0 x1) == 105))))) else (none)) else (none))) else (some x1)
def impl_LevelEnd.j2 : Nat → ByteArray → Int → Int → Int → Bool → Option (Int)
  | 0, _, _, _, _, _ => none
  | k + 1, x0, x1, x5, x26, x33 => if x33 = true then (impl_LevelEnd.l0 k x0 (wrap64 (x1 + 1)) (wrap64 (x5 + 1))) else (if x26 = 117 then (if (wrap64 (x1 + 1)) = (x0.size : Int) then (some (-1)) else (if 0 ≤ (wrap64 (x1 + 1)) then (if (wrap64 (x1 + 1)) < (x0.size : Int) then (if (bt x0 (wrap64 (x1 + 1))) < 48 then (some (-1)) else (if (bt x0 (wrap64 (x1 + 1))) > 50 then (some (-1)) else (impl_LevelEnd.l0 k x0 (wrap64 ((wrap64 (x1 + 1)) + 1)) (wrap64 (x5 - 1))))) else (none)) else (none))) else (some (-1)))
end
def impl_LevelEnd.f (k : Nat) (a0 : ByteArray) (a1 : Int) : Option (Int) := if (a0.size : Int) > 10000 then (impl_LevelEnd.j0 k a0 a1 true) else ((impl_in.f a1 0 (a0.size : Int)).bind fun t101 => (impl_LevelEnd.j0 k a0 a1 (!t101)))
theorem impl_LevelEnd.mono_l : ∀ k, (∀ y0 y1 y2, LeO (impl_LevelEnd.j0 k y0 y1 y2) (impl_LevelEnd.j0 (k + 1) y0 y1 y2)) ∧ (∀ y0 y1 y2, LeO (impl_LevelEnd.l0 k y0 y1 y2) (impl_LevelEnd.l0 (k + 1) y0 y1 y2)) ∧ (∀ y0 y1 y2 y3 y4, LeO (impl_LevelEnd.j2 k y0 y1 y2 y3 y4) (impl_LevelEnd.j2 (k + 1) y0 y1 y2 y3 y4))
  | 0 => ⟨fun _ _ _ r h => by simp [impl_LevelEnd.j0] at h, fun _ _ _ r h => by simp [impl_LevelEnd.l0] at h, fun _ _ _ _ _ r h => by simp [impl_LevelEnd.j2] at h⟩
  | k + 1 => by
    obtain ⟨ih0, ih1, ih2⟩ := impl_LevelEnd.mono_l k
    refine ⟨?_, ?_, ?_⟩
    · intro y0 y1 y2
      unfold impl_LevelEnd.j0
      repeat' first
      | (with_reducible exact ih0 _ _ _)
      | (with_reducible exact ih1 _ _ _)
      | (with_reducible exact ih2 _ _ _ _ _)
      | (with_reducible exact LeO.refl _)
      | (with_reducible exact LeO.none _)
      | (with_reducible refine LeO.ite ?_ ?_)
      | (with_reducible refine LeO.bind ?_ (fun _ => ?_))
      | exact ih0 _ _ _
      | exact ih1 _ _ _
      | exact ih2 _ _ _ _ _
      | exact LeO.none _
      | refine LeO.ite ?_ ?_
      | refine LeO.bind ?_ (fun _ => ?_)
    · intro y0 y1 y2
      unfold impl_LevelEnd.l0
      repeat' first
      | (with_reducible exact ih0 _ _ _)
      | (with_reducible exact ih1 _ _ _)
      | (with_reducible exact ih2 _ _ _ _ _)
      | (with_reducible exact LeO.refl _)
      | (with_reducible exact LeO.none _)
      | (with_reducible refine LeO.ite ?_ ?_)
      | (with_reducible refine LeO.bind ?_ (fun _ => ?_))
      | exact ih0 _ _ _
      | exact ih1 _ _ _
      | exact ih2 _ _ _ _ _
      | exact LeO.none _
      | refine LeO.ite ?_ ?_
      | refine LeO.bind ?_ (fun _ => ?_)
    · intro y0 y1 y2 y3 y4
      unfold impl_LevelEnd.j2
      repeat' first
      | (with_reducible exact ih0 _ _ _)
      | (with_reducible exact ih1 _ _ _)
      | (with_reducible exact ih2 _ _ _ _ _)
      | (with_reducible exact LeO.refl _)
      | (with_reducible exact LeO.none _)
      | (with_reducible refine LeO.ite ?_ ?_)
      | (with_reducible refine LeO.bind ?_ (fun _ => ?_))
      | exact ih0 _ _ _
      | exact ih1 _ _ _
      | exact ih2 _ _ _ _ _
      | exact LeO.none _
      | refine LeO.ite ?_ ?_
      | refine LeO.bind ?_ (fun _ => ?_)
theorem impl_LevelEnd.mono : ∀ a0 a1 k, LeO (impl_LevelEnd.f k a0 a1) (impl_LevelEnd.f (k + 1) a0 a1) := by
  intro a0 a1 k
  obtain ⟨ih0, ih1, ih2⟩ := impl_LevelEnd.mono_l k
  unfold impl_LevelEnd.f
  repeat' first
      | (with_reducible exact ih0 _ _ _)
      | (with_reducible exact ih1 _ _ _)
      | (with_reducible exact ih2 _ _ _ _ _)
      | (with_reducible exact LeO.refl _)
      | (with_reducible exact LeO.none _)
      | (with_reducible refine LeO.ite ?_ ?_)
      | (with_reducible refine LeO.bind ?_ (fun _ => ?_))
      | exact ih0 _ _ _
      | exact ih1 _ _ _
      | exact ih2 _ _ _ _ _
      | exact LeO.none _
      | refine LeO.ite ?_ ?_
      | refine LeO.bind ?_ (fun _ => ?_)
set_option maxHeartbeats 8000000 in
set_option maxRecDepth 100000 in
theorem impl_LevelEnd.calls (k : Nat) (a0 : ByteArray) (a1 : Int) (r : Int) (w : World) (h : impl_LevelEnd.f k a0 a1 = some r) :
    Calls Tryd.prog 103 #[.string a0, .int .i64 a1] w fun e w' => e = .returned (.int .i64 r) ∧ Drawn0 w w' := by
  have H : (if (a0.size : Int) > 10000 then (impl_LevelEnd.j0 k a0 a1 true) else ((impl_in.f a1 0 (a0.size : Int)).bind fun t101 => (impl_LevelEnd.j0 k a0 a1 (!t101)))) = some r := h
  clear h
  have HC3 := Aside0.mk H
  clear H
  go_enter Tryd.func103, Tryd.ntmps103
  go_upto_region 1 with (fail)
  go_cut [15] (fun v15 wc => ∃ (kq : Nat) (x15_2 : Bool), v15 = .bool x15_2 ∧ Aside0 (impl_LevelEnd.j0 kq a0 a1 x15_2 = some r) ∧ Aside0 (kq ≤ k) ∧ Drawn0 w wc)
  case first =>
    have H := HC3.out
    clear HC3
    by_cases c4 : (a0.size : Int) > 10000
    · rw [if_pos c4] at H
      have c4b0 : decide (10000 < (a0.size : Int)) = true := decide_eq_true c4
      have c4b1 : decide (10000 < a0.size) = true := decide_eq_true (by omega)
      clear c4
      (first | rw [c4b0] | (simp only [i64_w, i32_w]; rw [c4b0]) | skip)
      have H' := Aside0.mk H
      clear H
      go_wp2
      go_meet
      case rel => exact ⟨_, (true), (by first | rfl | (simp; done) | (simp [*]; done)), H', ⟨by first | omega | exact Nat.le_refl _⟩, by repeat (first | exact Drawn0.refl _ | apply Drawn0.step)⟩
    · rw [if_neg c4] at H
      have c4b0 : decide (10000 < (a0.size : Int)) = false := decide_eq_false c4
      have c4b1 : decide (10000 < a0.size) = false := decide_eq_false (by omega)
      clear c4
      (first | rw [c4b0] | (simp only [i64_w, i32_w]; rw [c4b0]) | skip)
      replace H := Option.bind_eq_some_iff.mp H
      obtain ⟨t101, A50, H⟩ := H
      replace H : (impl_LevelEnd.j0 k a0 a1 (!t101)) = some r := H
      have A5 := Aside0.mk A50
      clear A50
      have H' := Aside0.mk H
      clear H
      go_wp2_with (first | (go_at_call 102; (with_reducible refine (impl_in.calls a1 0 (a0.size : Int) t101 _ A5.out).mono ?_); rintro e w' ⟨rfl, ⟨nd, rfl⟩⟩))
      go_meet
      case rel => exact ⟨_, (!t101), (by first | rfl | (simp; done) | (simp [*]; done)), H', ⟨by first | omega | exact Nat.le_refl _⟩, by repeat (first | exact Drawn0.refl _ | apply Drawn0.step)⟩
  case rest =>
    clear HC3
    try clear c1
    try clear p2
    try clear c4
    try clear c4b0
    try clear c4b1
    obtain ⟨kq, x15_2, rfl, HA, HJ2, ⟨mc2, rfl⟩⟩ := hcut
    cases kq with
    | zero => exact absurd HA.out (by simp [impl_LevelEnd.j0])
    | succ kj2 =>
      have H := HA.out
      clear HA
      simp only [impl_LevelEnd.j0] at H
      by_cases c6 : x15_2 = true
      · subst c6
        have H1 : (some (-1)) = some r := by rw [if_pos rfl] at H; exact H
        clear H
        have H := H1
        clear H1
        obtain rfl := Option.some.inj H
        go_wp2
        go_ret
        exact ⟨by first | rfl | (simp; done) | (simp [*]; done), by repeat (first | exact Drawn0.refl _ | apply Drawn0.step)⟩
      · replace c6 := Bool.eq_false_iff.mpr c6
        subst c6
        have H1 : (impl_LevelEnd.l0 kj2 a0 a1 1) = some r := by rw [if_neg (show ¬ (false = true) by decide)] at H; exact H
        clear H
        have H := H1
        clear H1
        have H' := Aside0.mk H
        clear H
        go_wp2
        go_loopg [1, 5] kj2 (fun kq v1 v5 w' => ∃ (x1_2 : Int) (x5_2 : Int), v1 = .int .i64 x1_2 ∧ v5 = .int .i64 x5_2 ∧ Aside0 (impl_LevelEnd.l0 kq a0 x1_2 x5_2 = some r) ∧ Aside0 (kq ≤ kj2) ∧ Drawn0 w w')
        case atStart => exact ⟨(a1), (1), (by first | rfl | (simp; done) | (simp [*]; done)), (by first | rfl | (simp; done) | (simp [*]; done)), H', ⟨Nat.le_refl _⟩, by repeat (first | exact Drawn0.refl _ | apply Drawn0.step)⟩
        case round =>
          clear H'
          try clear c1
          try clear c2
          try clear p2
          try clear c4
          try clear c4b0
          try clear c4b1
          try clear c6
          try clear p2
          obtain ⟨x1_2, x5_2, rfl, rfl, HA, HK2, ⟨m2, rfl⟩⟩ := hrel
          cases gk with
          | zero => exact absurd HA.out (by simp [impl_LevelEnd.l0])
          | succ k2 =>
            have H := HA.out
            clear HA
            simp only [impl_LevelEnd.l0] at H
            by_cases c7 : x5_2 > 0
            · rw [if_pos c7] at H
              have c7b0 : decide (0 < x5_2) = true := decide_eq_true c7
              clear c7
              by_cases c8 : x1_2 = (a0.size : Int)
              · rw [if_pos c8] at H
                have c8b0 : (x1_2 == (a0.size : Int)) = true := beq_iff_eq.mpr c8
                have c8b1 : (x1_2 != (a0.size : Int)) = false := bne_eq_false_iff_eq.mpr c8
                clear c8
                obtain rfl := Option.some.inj H
                go_wp2
                go_ret
                exact ⟨by first | rfl | (simp; done) | (simp [*]; done), by repeat (first | exact Drawn0.refl _ | apply Drawn0.step)⟩
              · rw [if_neg c8] at H
                have c8b0 : (x1_2 == (a0.size : Int)) = false := beq_eq_false_iff_ne.mpr c8
                have c8b1 : (x1_2 != (a0.size : Int)) = true := bne_iff_ne.mpr c8
                by_cases c9 : 0 ≤ x1_2
                · rw [if_pos c9] at H
                  have c9b0 : decide (0 ≤ x1_2) = true := decide_eq_true c9
                  clear c9
                  by_cases c10 : x1_2 < (a0.size : Int)
                  · rw [if_pos c10] at H
                    have c10b0 : decide (x1_2 < (a0.size : Int)) = true := decide_eq_true c10
                    clear c10
                    by_cases c12 : (bt a0 x1_2) = 122
                    · rw [if_pos c12] at H
                      have c12b0 : ((bt a0 x1_2) == 122) = true := beq_iff_eq.mpr c12
                      have c12b1 : ((bt a0 x1_2) != 122) = false := bne_eq_false_iff_eq.mpr c12
                      clear c12
                      have H' := Aside0.mk H
                      clear H
                      have p11 : 0 ≤ (x1_2 : Int) := of_decide_eq_true (by first | (with_reducible assumption) | assumption)
                      have q11 : x1_2 < (a0.size : Int) := of_decide_eq_true (by first | (with_reducible assumption) | assumption)
                      have hx11 := bt_at a0 x1_2
                      replace p11 := eq_true p11
                      replace q11 := eq_true q11
                      go_wp2
                      go_roundg k2
                      case measure => have := HJ2.out; have := HK2.out; omega
                      case rel => exact ⟨(wrap64 (x1_2 + 1)), (wrap64 (x5_2 - 1)), (by first | rfl | (simp; done) | (simp [*]; done)), (by first | rfl | (simp; done) | (simp [*]; done)), H', ⟨by have := HJ2.out; have := HK2.out; omega⟩, by repeat (first | exact Drawn0.refl _ | apply Drawn0.step)⟩
                    · rw [if_neg c12] at H
                      have c12b0 : ((bt a0 x1_2) == 122) = false := beq_eq_false_iff_ne.mpr c12
                      have c12b1 : ((bt a0 x1_2) != 122) = true := bne_iff_ne.mpr c12
                      by_cases c13 : (bt a0 x1_2) = 43
                      · rw [if_pos c13] at H
                        have c13b0 : ((bt a0 x1_2) == 43) = true := beq_iff_eq.mpr c13
                        have c13b1 : ((bt a0 x1_2) != 43) = false := bne_eq_false_iff_eq.mpr c13
                        clear c13
                        have H' := Aside0.mk H
                        clear H
                        have p11 : 0 ≤ (x1_2 : Int) := of_decide_eq_true (by first | (with_reducible assumption) | assumption)
                        have q11 : x1_2 < (a0.size : Int) := of_decide_eq_true (by first | (with_reducible assumption) | assumption)
                        have hx11 := bt_at a0 x1_2
                        replace p11 := eq_true p11
                        replace q11 := eq_true q11
                        go_wp2
                        go_roundg k2
                        case measure => have := HJ2.out; have := HK2.out; omega
                        case rel => exact ⟨(wrap64 (x1_2 + 1)), (x5_2), (by first | rfl | (simp; done) | (simp [*]; done)), (by first | rfl | (simp; done) | (simp [*]; done)), H', ⟨by have := HJ2.out; have := HK2.out; omega⟩, by repeat (first | exact Drawn0.refl _ | apply Drawn0.step)⟩
                      · rw [if_neg c13] at H
                        have c13b0 : ((bt a0 x1_2) == 43) = false := beq_eq_false_iff_ne.mpr c13
                        have c13b1 : ((bt a0 x1_2) != 43) = true := bne_iff_ne.mpr c13
                        have HC14 := Aside0.mk H
                        clear H
                        have p11 : 0 ≤ (x1_2 : Int) := of_decide_eq_true (by first | (with_reducible assumption) | assumption)
                        have q11 : x1_2 < (a0.size : Int) := of_decide_eq_true (by first | (with_reducible assumption) | assumption)
                        have hx11 := bt_at a0 x1_2
                        replace p11 := eq_true p11
                        replace q11 := eq_true q11
                        go_upto_if 33 with (fail)
                        go_cut [33] (fun v33 wc => ∃ (kq : Nat) (x33_13 : Bool), v33 = .bool x33_13 ∧ Aside0 (impl_LevelEnd.j2 kq a0 x1_2 x5_2 (bt a0 x1_2) x33_13 = some r) ∧ Aside0 (kq ≤ k2) ∧ Drawn0 w wc)
                        case first =>
                          have H := HC14.out
                          clear HC14
                          by_cases c15 : (bt a0 x1_2) = 109
                          · rw [if_pos c15] at H
                            have c15b0 : ((bt a0 x1_2) == 109) = true := beq_iff_eq.mpr c15
                            have c15b1 : ((bt a0 x1_2) != 109) = false := bne_eq_false_iff_eq.mpr c15
                            clear c15
                            (first | rw [c15b0] | (simp only [i64_w, i32_w]; rw [c15b0]) | skip)
                            have H' := Aside0.mk H
                            clear H
                            go_wp2
                            go_meet
                            case rel => exact ⟨_, (((bt a0 x1_2) == 109)), (by first | rfl | (simp; done) | (simp [*]; done)), H', ⟨by have := HJ2.out; have := HK2.out; first | omega | exact Nat.le_refl _⟩, by repeat (first | exact Drawn0.refl _ | apply Drawn0.step)⟩
                          · rw [if_neg c15] at H
                            have c15b0 : ((bt a0 x1_2) == 109) = false := beq_eq_false_iff_ne.mpr c15
                            have c15b1 : ((bt a0 x1_2) != 109) = true := bne_iff_ne.mpr c15
                            (first | rw [c15b0] | (simp only [i64_w, i32_w]; rw [c15b0]) | skip)
                            have H' := Aside0.mk H
                            clear H
                            go_wp2
                            go_meet
                            case rel => exact ⟨_, (((bt a0 x1_2) == 105)), (by first | rfl | (simp; done) | (simp [*]; done)), H', ⟨by have := HJ2.out; have := HK2.out; first | omega | exact Nat.le_refl _⟩, by repeat (first | exact Drawn0.refl _ | apply Drawn0.step)⟩
                        case rest =>
                          clear HC14
                          try clear c1
                          try clear p1
                          try clear q1
                          try clear hx1
                          try clear c2
                          try clear p2
                          try clear c4
                          try clear c4b0
                          try clear c4b1
                          try clear c6
                          try clear p6
                          try clear c7
                          try clear c7b0
                          try clear c8
                          try clear c8b0
                          try clear c8b1
                          try clear c9
                          try clear c9b0
                          try clear c10
                          try clear c10b0
                          try clear p11
                          try clear q11
                          try clear hx11
                          try clear c12
                          try clear c12b0
                          try clear c12b1
                          try clear c13
                          try clear c13b0
                          try clear c13b1
                          try clear c15
                          try clear c15b0
                          try clear c15b1
                          try clear p11
                          try clear p2
                          try clear q11
                          obtain ⟨kq, x33_13, rfl, HA, HJ13, ⟨mc13, rfl⟩⟩ := hcut
                          cases kq with
                          | zero => exact absurd HA.out (by simp [impl_LevelEnd.j2])
                          | succ kj13 =>
                            have H := HA.out
                            clear HA
                            simp only [impl_LevelEnd.j2] at H
                            by_cases c16 : x33_13 = true
                            · subst c16
                              have H1 : (impl_LevelEnd.l0 kj13 a0 (wrap64 (x1_2 + 1)) (wrap64 (x5_2 + 1))) = some r := by rw [if_pos rfl] at H; exact H
                              clear H
                              have H := H1
                              clear H1
                              have H' := Aside0.mk H
                              clear H
                              go_wp2
                              go_roundg kj13
                              case measure => have := HJ2.out; have := HK2.out; have := HJ13.out; omega
                              case rel => exact ⟨(wrap64 (x1_2 + 1)), (wrap64 (x5_2 + 1)), (by first | rfl | (simp; done) | (simp [*]; done)), (by first | rfl | (simp; done) | (simp [*]; done)), H', ⟨by have := HJ2.out; have := HK2.out; have := HJ13.out; omega⟩, by repeat (first | exact Drawn0.refl _ | apply Drawn0.step)⟩
                            · replace c16 := Bool.eq_false_iff.mpr c16
                              subst c16
                              have H1 : (if (bt a0 x1_2) = 117 then (if (wrap64 (x1_2 + 1)) = (a0.size : Int) then (some (-1)) else (if 0 ≤ (wrap64 (x1_2 + 1)) then (if (wrap64 (x1_2 + 1)) < (a0.size : Int) then (if (bt a0 (wrap64 (x1_2 + 1))) < 48 then (some (-1)) else (if (bt a0 (wrap64 (x1_2 + 1))) > 50 then (some (-1)) else (impl_LevelEnd.l0 kj13 a0 (wrap64 ((wrap64 (x1_2 + 1)) + 1)) (wrap64 (x5_2 - 1))))) else (none)) else (none))) else (some (-1))) = some r := by rw [if_neg (show ¬ (false = true) by decide)] at H; exact H
                              clear H
                              have H := H1
                              clear H1
                              by_cases c17 : (bt a0 x1_2) = 117
                              · rw [if_pos c17] at H
                                have c17b0 : ((bt a0 x1_2) == 117) = true := beq_iff_eq.mpr c17
                                have c17b1 : ((bt a0 x1_2) != 117) = false := bne_eq_false_iff_eq.mpr c17
                                clear c17
                                by_cases c18 : (wrap64 (x1_2 + 1)) = (a0.size : Int)
                                · rw [if_pos c18] at H
                                  have c18b0 : ((wrap64 (x1_2 + 1)) == (a0.size : Int)) = true := beq_iff_eq.mpr c18
                                  have c18b1 : ((wrap64 (x1_2 + 1)) != (a0.size : Int)) = false := bne_eq_false_iff_eq.mpr c18
                                  clear c18
                                  obtain rfl := Option.some.inj H
                                  go_wp2
                                  go_ret
                                  exact ⟨by first | rfl | (simp; done) | (simp [*]; done), by repeat (first | exact Drawn0.refl _ | apply Drawn0.step)⟩
                                · rw [if_neg c18] at H
                                  have c18b0 : ((wrap64 (x1_2 + 1)) == (a0.size : Int)) = false := beq_eq_false_iff_ne.mpr c18
                                  have c18b1 : ((wrap64 (x1_2 + 1)) != (a0.size : Int)) = true := bne_iff_ne.mpr c18
                                  obtain ⟨ji19, hji19⟩ : ∃ j_ : Int, (wrap64 (x1_2 + 1)) = j_ := ⟨_, rfl⟩
                                  replace H : (if 0 ≤ (ji19) then (if (ji19) < (a0.size : Int) then (if (bt a0 (ji19)) < 48 then (some (-1)) else (if (bt a0 (ji19)) > 50 then (some (-1)) else (impl_LevelEnd.l0 kj13 a0 (wrap64 ((ji19) + 1)) (wrap64 (x5_2 - 1))))) else (none)) else (none)) = some r := by first | (rw [hji19] at H; exact H) | (simp only [hji19] at H ⊢; exact H)
                                  (try rw [hji19] at c18b0)
                                  (try rw [hji19] at c18b1)
                                  have hji19w : (IntKind.i64.wrap (x1_2 + 1)) = ji19 := (i64_w _).trans hji19
                                  by_cases c20 : 0 ≤ (ji19)
                                  · rw [if_pos c20] at H
                                    have c20b0 : decide (0 ≤ (ji19)) = true := decide_eq_true c20
                                    clear c20
                                    by_cases c21 : (ji19) < (a0.size : Int)
                                    · rw [if_pos c21] at H
                                      have c21b0 : decide ((ji19) < (a0.size : Int)) = true := decide_eq_true c21
                                      clear c21
                                      by_cases c23 : (bt a0 (ji19)) < 48
                                      · rw [if_pos c23] at H
                                        have c23b0 : decide ((bt a0 (ji19)) < 48) = true := decide_eq_true c23
                                        clear c23
                                        obtain rfl := Option.some.inj H
                                        have p22 : 0 ≤ ((ji19) : Int) := of_decide_eq_true (by first | (with_reducible assumption) | assumption)
                                        have q22 : (ji19) < (a0.size : Int) := of_decide_eq_true (by first | (with_reducible assumption) | assumption)
                                        have hx22 := bt_at a0 (ji19)
                                        replace p22 := eq_true p22
                                        replace q22 := eq_true q22
                                        go_wp2
                                        go_ret
                                        exact ⟨by first | rfl | (simp; done) | (simp only [← hji19] <;> (first | rfl | simp)) | (simp [*]; done), by repeat (first | exact Drawn0.refl _ | apply Drawn0.step)⟩
                                      · rw [if_neg c23] at H
                                        have c23b0 : decide ((bt a0 (ji19)) < 48) = false := decide_eq_false c23
                                        clear c23
                                        by_cases c25 : (bt a0 (ji19)) > 50
                                        · rw [if_pos c25] at H
                                          have c25b0 : decide (50 < (bt a0 (ji19))) = true := decide_eq_true c25
                                          clear c25
                                          obtain rfl := Option.some.inj H
                                          have p22 : 0 ≤ ((ji19) : Int) := of_decide_eq_true (by first | (with_reducible assumption) | assumption)
                                          have q22 : (ji19) < (a0.size : Int) := of_decide_eq_true (by first | (with_reducible assumption) | assumption)
                                          have hx22 := bt_at a0 (ji19)
                                          replace p22 := eq_true p22
                                          replace q22 := eq_true q22
                                          have p24 : 0 ≤ ((ji19) : Int) := of_decide_eq_true (by first | (with_reducible assumption) | assumption)
                                          have q24 : (ji19) < (a0.size : Int) := of_decide_eq_true (by first | (with_reducible assumption) | assumption)
                                          have hx24 := bt_at a0 (ji19)
                                          replace p24 := eq_true p24
                                          replace q24 := eq_true q24
                                          go_wp2
                                          go_ret
                                          exact ⟨by first | rfl | (simp; done) | (simp only [← hji19] <;> (first | rfl | simp)) | (simp [*]; done), by repeat (first | exact Drawn0.refl _ | apply Drawn0.step)⟩
                                        · rw [if_neg c25] at H
                                          have c25b0 : decide (50 < (bt a0 (ji19))) = false := decide_eq_false c25
                                          clear c25
                                          have H' := Aside0.mk H
                                          clear H
                                          have p22 : 0 ≤ ((ji19) : Int) := of_decide_eq_true (by first | (with_reducible assumption) | assumption)
                                          have q22 : (ji19) < (a0.size : Int) := of_decide_eq_true (by first | (with_reducible assumption) | assumption)
                                          have hx22 := bt_at a0 (ji19)
                                          replace p22 := eq_true p22
                                          replace q22 := eq_true q22
                                          have p24 : 0 ≤ ((ji19) : Int) := of_decide_eq_true (by first | (with_reducible assumption) | assumption)
                                          have q24 : (ji19) < (a0.size : Int) := of_decide_eq_true (by first | (with_reducible assumption) | assumption)
                                          have hx24 := bt_at a0 (ji19)
                                          replace p24 := eq_true p24
                                          replace q24 := eq_true q24
                                          go_wp2
                                          go_roundg kj13
                                          case measure => have := HJ2.out; have := HK2.out; have := HJ13.out; omega
                                          case rel => exact ⟨(wrap64 ((ji19) + 1)), (wrap64 (x5_2 - 1)), (by first | rfl | (simp; done) | (simp only [← hji19] <;> (first | rfl | simp)) | (simp [*]; done)), (by first | rfl | (simp; done) | (simp [*]; done)), H', ⟨by have := HJ2.out; have := HK2.out; have := HJ13.out; omega⟩, by repeat (first | exact Drawn0.refl _ | apply Drawn0.step)⟩
                                    · rw [if_neg c21] at H
                                      exact absurd H (by simp)
                                  · rw [if_neg c20] at H
                                    exact absurd H (by simp)
                              · rw [if_neg c17] at H
                                have c17b0 : ((bt a0 x1_2) == 117) = false := beq_eq_false_iff_ne.mpr c17
                                have c17b1 : ((bt a0 x1_2) != 117) = true := bne_iff_ne.mpr c17
                                obtain rfl := Option.some.inj H
                                go_wp2
                                go_ret
                                exact ⟨by first | rfl | (simp; done) | (simp [*]; done), by repeat (first | exact Drawn0.refl _ | apply Drawn0.step)⟩
                  · rw [if_neg c10] at H
                    exact absurd H (by simp)
                · rw [if_neg c9] at H
                  exact absurd H (by simp)
            · rw [if_neg c7] at H
              have c7b0 : decide (0 < x5_2) = false := decide_eq_false c7
              clear c7
              obtain rfl := Option.some.inj H
              go_wp2
              go_ret
              exact ⟨by first | rfl | (simp; done) | (simp [*]; done), by repeat (first | exact Drawn0.refl _ | apply Drawn0.step)⟩

end Go.Proofs.YtefiapcfdabfpaaDoor.P

namespace Go.Proofs.YtefiapcfdabfpaaDoor.P
open Go.RowKit Go.Proofs.YtefiapcfdabfpaaDoorW.PrintWords Go.Proofs.YtefiapcfdabfpaaDoorW.PrintLast Go.Proofs.YtefiapcfdabfpaaDoorW.PrintMore
attribute [local go_sem] max2_int min2_int max_two min_two max_three min_three max_four min_four
set_option linter.unusedVariables false
set_option linter.unusedSimpArgs false

/-! ### spec_l04End: function 89 -/
mutual
def spec_l04End.l0 : Nat → ByteArray → Int → Int → Option (Int)
  | 0, _, _, _ => none
  | k + 1, x0, x1, x5 => if x5 > 0 then (if x1 ≥ (x0.size : Int) then (some (-1)) else (if 0 ≤ x1 then (if x1 < (x0.size : Int) then (if (bt x0 x1) = 122 then (spec_l04End.l0 k x0 (wrap64 (x1 + 1)) (wrap64 (x5 - 1))) else (if (bt x0 x1) = 43 then (spec_l04End.l0 k x0 (wrap64 (x1 + 1)) x5) else (if (bt x0 x1) = 109 then (spec_l04End.j1 k x0 x1 x5 (bt x0 x1) ((bt x0 x1) == 109)) else (spec_l04End.j1 k x0 x1 x5 (bt x0 x1) ((bt x0 x1) == 105))))) else (none)) else (none))) else (some x1)
def spec_l04End.j1 : Nat → ByteArray → Int → Int → Int → Bool → Option (Int)
  | 0, _, _, _, _, _ => none
  | k + 1, x0, x1, x5, x14, x21 => if x21 = true then (spec_l04End.l0 k x0 (wrap64 (x1 + 1)) (wrap64 (x5 + 1))) else (if x14 = 117 then (if (wrap64 (x1 + 1)) ≥ (x0.size : Int) then (some (-1)) else (if 0 ≤ (wrap64 (x1 + 1)) then (if (wrap64 (x1 + 1)) < (x0.size : Int) then (if (bt x0 (wrap64 (x1 + 1))) < 48 then (some (-1)) else (if (bt x0 (wrap64 (x1 + 1))) > 50 then (some (-1)) else (spec_l04End.l0 k x0 (wrap64 ((wrap64 (x1 + 1)) + 1)) (wrap64 (x5 - 1))))) else (none)) else (none))) else (some (-1)))
end
def spec_l04End.f (k : Nat) (a0 : ByteArray) (a1 : Int) : Option (Int) := spec_l04End.l0 k a0 a1 1
theorem spec_l04End.mono_l : ∀ k, (∀ y0 y1 y2, LeO (spec_l04End.l0 k y0 y1 y2) (spec_l04End.l0 (k + 1) y0 y1 y2)) ∧ (∀ y0 y1 y2 y3 y4, LeO (spec_l04End.j1 k y0 y1 y2 y3 y4) (spec_l04End.j1 (k + 1) y0 y1 y2 y3 y4))
  | 0 => ⟨fun _ _ _ r h => by simp [spec_l04End.l0] at h, fun _ _ _ _ _ r h => by simp [spec_l04End.j1] at h⟩
  | k + 1 => by
    obtain ⟨ih0, ih1⟩ := spec_l04End.mono_l k
    refine ⟨?_, ?_⟩
    · intro y0 y1 y2
      unfold spec_l04End.l0
      repeat' first
      | (with_reducible exact ih0 _ _ _)
      | (with_reducible exact ih1 _ _ _ _ _)
      | (with_reducible exact LeO.refl _)
      | (with_reducible exact LeO.none _)
      | (with_reducible refine LeO.ite ?_ ?_)
      | (with_reducible refine LeO.bind ?_ (fun _ => ?_))
      | exact ih0 _ _ _
      | exact ih1 _ _ _ _ _
      | exact LeO.none _
      | refine LeO.ite ?_ ?_
      | refine LeO.bind ?_ (fun _ => ?_)
    · intro y0 y1 y2 y3 y4
      unfold spec_l04End.j1
      repeat' first
      | (with_reducible exact ih0 _ _ _)
      | (with_reducible exact ih1 _ _ _ _ _)
      | (with_reducible exact LeO.refl _)
      | (with_reducible exact LeO.none _)
      | (with_reducible refine LeO.ite ?_ ?_)
      | (with_reducible refine LeO.bind ?_ (fun _ => ?_))
      | exact ih0 _ _ _
      | exact ih1 _ _ _ _ _
      | exact LeO.none _
      | refine LeO.ite ?_ ?_
      | refine LeO.bind ?_ (fun _ => ?_)
theorem spec_l04End.mono : ∀ a0 a1 k, LeO (spec_l04End.f k a0 a1) (spec_l04End.f (k + 1) a0 a1) := by
  intro a0 a1 k
  obtain ⟨ih0, ih1⟩ := spec_l04End.mono_l k
  unfold spec_l04End.f
  repeat' first
      | (with_reducible exact ih0 _ _ _)
      | (with_reducible exact ih1 _ _ _ _ _)
      | (with_reducible exact LeO.refl _)
      | (with_reducible exact LeO.none _)
      | (with_reducible refine LeO.ite ?_ ?_)
      | (with_reducible refine LeO.bind ?_ (fun _ => ?_))
      | exact ih0 _ _ _
      | exact ih1 _ _ _ _ _
      | exact LeO.none _
      | refine LeO.ite ?_ ?_
      | refine LeO.bind ?_ (fun _ => ?_)
set_option maxHeartbeats 8000000 in
set_option maxRecDepth 100000 in
theorem spec_l04End.calls (k : Nat) (a0 : ByteArray) (a1 : Int) (r : Int) (w : World) (h : spec_l04End.f k a0 a1 = some r) :
    Calls Tryd.prog 89 #[.string a0, .int .i64 a1] w fun e w' => e = .returned (.int .i64 r) ∧ Drawn0 w w' := by
  have H : (spec_l04End.l0 k a0 a1 1) = some r := h
  clear h
  have H' := Aside0.mk H
  clear H
  go_enter Tryd.func89, Tryd.ntmps89
  go_wp2
  go_loopg [1, 5] k (fun kq v1 v5 w' => ∃ (x1_1 : Int) (x5_1 : Int), v1 = .int .i64 x1_1 ∧ v5 = .int .i64 x5_1 ∧ Aside0 (spec_l04End.l0 kq a0 x1_1 x5_1 = some r) ∧ Aside0 (kq ≤ k) ∧ Drawn0 w w')
  case atStart => exact ⟨(a1), (1), (by first | rfl | (simp; done) | (simp [*]; done)), (by first | rfl | (simp; done) | (simp [*]; done)), H', ⟨Nat.le_refl _⟩, by repeat (first | exact Drawn0.refl _ | apply Drawn0.step)⟩
  case round =>
    clear H'
    try clear p2
    obtain ⟨x1_1, x5_1, rfl, rfl, HA, HK1, ⟨m1, rfl⟩⟩ := hrel
    cases gk with
    | zero => exact absurd HA.out (by simp [spec_l04End.l0])
    | succ k1 =>
      have H := HA.out
      clear HA
      simp only [spec_l04End.l0] at H
      by_cases c3 : x5_1 > 0
      · rw [if_pos c3] at H
        have c3b0 : decide (0 < x5_1) = true := decide_eq_true c3
        clear c3
        by_cases c4 : x1_1 ≥ (a0.size : Int)
        · rw [if_pos c4] at H
          have c4b0 : decide ((a0.size : Int) ≤ x1_1) = true := decide_eq_true c4
          clear c4
          obtain rfl := Option.some.inj H
          go_wp2
          go_ret
          exact ⟨by first | rfl | (simp; done) | (simp [*]; done), by repeat (first | exact Drawn0.refl _ | apply Drawn0.step)⟩
        · rw [if_neg c4] at H
          have c4b0 : decide ((a0.size : Int) ≤ x1_1) = false := decide_eq_false c4
          clear c4
          by_cases c5 : 0 ≤ x1_1
          · rw [if_pos c5] at H
            have c5b0 : decide (0 ≤ x1_1) = true := decide_eq_true c5
            clear c5
            by_cases c6 : x1_1 < (a0.size : Int)
            · rw [if_pos c6] at H
              have c6b0 : decide (x1_1 < (a0.size : Int)) = true := decide_eq_true c6
              clear c6
              by_cases c8 : (bt a0 x1_1) = 122
              · rw [if_pos c8] at H
                have c8b0 : ((bt a0 x1_1) == 122) = true := beq_iff_eq.mpr c8
                have c8b1 : ((bt a0 x1_1) != 122) = false := bne_eq_false_iff_eq.mpr c8
                clear c8
                have H' := Aside0.mk H
                clear H
                have p7 : 0 ≤ (x1_1 : Int) := of_decide_eq_true (by first | (with_reducible assumption) | assumption)
                have q7 : x1_1 < (a0.size : Int) := of_decide_eq_true (by first | (with_reducible assumption) | assumption)
                have hx7 := bt_at a0 x1_1
                replace p7 := eq_true p7
                replace q7 := eq_true q7
                go_wp2
                go_roundg k1
                case measure => have := HK1.out; omega
                case rel => exact ⟨(wrap64 (x1_1 + 1)), (wrap64 (x5_1 - 1)), (by first | rfl | (simp; done) | (simp [*]; done)), (by first | rfl | (simp; done) | (simp [*]; done)), H', ⟨by have := HK1.out; omega⟩, by repeat (first | exact Drawn0.refl _ | apply Drawn0.step)⟩
              · rw [if_neg c8] at H
                have c8b0 : ((bt a0 x1_1) == 122) = false := beq_eq_false_iff_ne.mpr c8
                have c8b1 : ((bt a0 x1_1) != 122) = true := bne_iff_ne.mpr c8
                by_cases c9 : (bt a0 x1_1) = 43
                · rw [if_pos c9] at H
                  have c9b0 : ((bt a0 x1_1) == 43) = true := beq_iff_eq.mpr c9
                  have c9b1 : ((bt a0 x1_1) != 43) = false := bne_eq_false_iff_eq.mpr c9
                  clear c9
                  have H' := Aside0.mk H
                  clear H
                  have p7 : 0 ≤ (x1_1 : Int) := of_decide_eq_true (by first | (with_reducible assumption) | assumption)
                  have q7 : x1_1 < (a0.size : Int) := of_decide_eq_true (by first | (with_reducible assumption) | assumption)
                  have hx7 := bt_at a0 x1_1
                  replace p7 := eq_true p7
                  replace q7 := eq_true q7
                  go_wp2
                  go_roundg k1
                  case measure => have := HK1.out; omega
                  case rel => exact ⟨(wrap64 (x1_1 + 1)), (x5_1), (by first | rfl | (simp; done) | (simp [*]; done)), (by first | rfl | (simp; done) | (simp [*]; done)), H', ⟨by have := HK1.out; omega⟩, by repeat (first | exact Drawn0.refl _ | apply Drawn0.step)⟩
                · rw [if_neg c9] at H
                  have c9b0 : ((bt a0 x1_1) == 43) = false := beq_eq_false_iff_ne.mpr c9
                  have c9b1 : ((bt a0 x1_1) != 43) = true := bne_iff_ne.mpr c9
                  have HC10 := Aside0.mk H
                  clear H
                  have p7 : 0 ≤ (x1_1 : Int) := of_decide_eq_true (by first | (with_reducible assumption) | assumption)
                  have q7 : x1_1 < (a0.size : Int) := of_decide_eq_true (by first | (with_reducible assumption) | assumption)
                  have hx7 := bt_at a0 x1_1
                  replace p7 := eq_true p7
                  replace q7 := eq_true q7
                  go_upto_if 21 with (fail)
                  go_cut [21] (fun v21 wc => ∃ (kq : Nat) (x21_9 : Bool), v21 = .bool x21_9 ∧ Aside0 (spec_l04End.j1 kq a0 x1_1 x5_1 (bt a0 x1_1) x21_9 = some r) ∧ Aside0 (kq ≤ k1) ∧ Drawn0 w wc)
                  case first =>
                    have H := HC10.out
                    clear HC10
                    by_cases c11 : (bt a0 x1_1) = 109
                    · rw [if_pos c11] at H
                      have c11b0 : ((bt a0 x1_1) == 109) = true := beq_iff_eq.mpr c11
                      have c11b1 : ((bt a0 x1_1) != 109) = false := bne_eq_false_iff_eq.mpr c11
                      clear c11
                      (first | rw [c11b0] | (simp only [i64_w, i32_w]; rw [c11b0]) | skip)
                      have H' := Aside0.mk H
                      clear H
                      go_wp2
                      go_meet
                      case rel => exact ⟨_, (((bt a0 x1_1) == 109)), (by first | rfl | (simp; done) | (simp [*]; done)), H', ⟨by have := HK1.out; first | omega | exact Nat.le_refl _⟩, by repeat (first | exact Drawn0.refl _ | apply Drawn0.step)⟩
                    · rw [if_neg c11] at H
                      have c11b0 : ((bt a0 x1_1) == 109) = false := beq_eq_false_iff_ne.mpr c11
                      have c11b1 : ((bt a0 x1_1) != 109) = true := bne_iff_ne.mpr c11
                      (first | rw [c11b0] | (simp only [i64_w, i32_w]; rw [c11b0]) | skip)
                      have H' := Aside0.mk H
                      clear H
                      go_wp2
                      go_meet
                      case rel => exact ⟨_, (((bt a0 x1_1) == 105)), (by first | rfl | (simp; done) | (simp [*]; done)), H', ⟨by have := HK1.out; first | omega | exact Nat.le_refl _⟩, by repeat (first | exact Drawn0.refl _ | apply Drawn0.step)⟩
                  case rest =>
                    clear HC10
                    try clear c1
                    try clear p2
                    try clear c3
                    try clear c3b0
                    try clear c4
                    try clear c4b0
                    try clear c5
                    try clear c5b0
                    try clear c6
                    try clear c6b0
                    try clear p6
                    try clear p7
                    try clear q7
                    try clear hx7
                    try clear c8
                    try clear c8b0
                    try clear c8b1
                    try clear c9
                    try clear c9b0
                    try clear c9b1
                    try clear c11
                    try clear c11b0
                    try clear c11b1
                    try clear p2
                    try clear p7
                    try clear q7
                    obtain ⟨kq, x21_9, rfl, HA, HJ9, ⟨mc9, rfl⟩⟩ := hcut
                    cases kq with
                    | zero => exact absurd HA.out (by simp [spec_l04End.j1])
                    | succ kj9 =>
                      have H := HA.out
                      clear HA
                      simp only [spec_l04End.j1] at H
                      by_cases c12 : x21_9 = true
                      · subst c12
                        have H1 : (spec_l04End.l0 kj9 a0 (wrap64 (x1_1 + 1)) (wrap64 (x5_1 + 1))) = some r := by rw [if_pos rfl] at H; exact H
                        clear H
                        have H := H1
                        clear H1
                        have H' := Aside0.mk H
                        clear H
                        go_wp2
                        go_roundg kj9
                        case measure => have := HK1.out; have := HJ9.out; omega
                        case rel => exact ⟨(wrap64 (x1_1 + 1)), (wrap64 (x5_1 + 1)), (by first | rfl | (simp; done) | (simp [*]; done)), (by first | rfl | (simp; done) | (simp [*]; done)), H', ⟨by have := HK1.out; have := HJ9.out; omega⟩, by repeat (first | exact Drawn0.refl _ | apply Drawn0.step)⟩
                      · replace c12 := Bool.eq_false_iff.mpr c12
                        subst c12
                        have H1 : (if (bt a0 x1_1) = 117 then (if (wrap64 (x1_1 + 1)) ≥ (a0.size : Int) then (some (-1)) else (if 0 ≤ (wrap64 (x1_1 + 1)) then (if (wrap64 (x1_1 + 1)) < (a0.size : Int) then (if (bt a0 (wrap64 (x1_1 + 1))) < 48 then (some (-1)) else (if (bt a0 (wrap64 (x1_1 + 1))) > 50 then (some (-1)) else (spec_l04End.l0 kj9 a0 (wrap64 ((wrap64 (x1_1 + 1)) + 1)) (wrap64 (x5_1 - 1))))) else (none)) else (none))) else (some (-1))) = some r := by rw [if_neg (show ¬ (false = true) by decide)] at H; exact H
                        clear H
                        have H := H1
                        clear H1
                        by_cases c13 : (bt a0 x1_1) = 117
                        · rw [if_pos c13] at H
                          have c13b0 : ((bt a0 x1_1) == 117) = true := beq_iff_eq.mpr c13
                          have c13b1 : ((bt a0 x1_1) != 117) = false := bne_eq_false_iff_eq.mpr c13
                          clear c13
                          by_cases c14 : (wrap64 (x1_1 + 1)) ≥ (a0.size : Int)
                          · rw [if_pos c14] at H
                            have c14b0 : decide ((a0.size : Int) ≤ (wrap64 (x1_1 + 1))) = true := decide_eq_true c14
                            clear c14
                            obtain rfl := Option.some.inj H
                            go_wp2
                            go_ret
                            exact ⟨by first | rfl | (simp; done) | (simp [*]; done), by repeat (first | exact Drawn0.refl _ | apply Drawn0.step)⟩
                          · rw [if_neg c14] at H
                            have c14b0 : decide ((a0.size : Int) ≤ (wrap64 (x1_1 + 1))) = false := decide_eq_false c14
                            clear c14
                            obtain ⟨ji15, hji15⟩ : ∃ j_ : Int, (wrap64 (x1_1 + 1)) = j_ := ⟨_, rfl⟩
                            replace H : (if 0 ≤ (ji15) then (if (ji15) < (a0.size : Int) then (if (bt a0 (ji15)) < 48 then (some (-1)) else (if (bt a0 (ji15)) > 50 then (some (-1)) else (spec_l04End.l0 kj9 a0 (wrap64 ((ji15) + 1)) (wrap64 (x5_1 - 1))))) else (none)) else (none)) = some r := by first | (rw [hji15] at H; exact H) | (simp only [hji15] at H ⊢; exact H)
                            (try rw [hji15] at c14b0)
                            have hji15w : (IntKind.i64.wrap (x1_1 + 1)) = ji15 := (i64_w _).trans hji15
                            by_cases c16 : 0 ≤ (ji15)
                            · rw [if_pos c16] at H
                              have c16b0 : decide (0 ≤ (ji15)) = true := decide_eq_true c16
                              clear c16
                              by_cases c17 : (ji15) < (a0.size : Int)
                              · rw [if_pos c17] at H
                                have c17b0 : decide ((ji15) < (a0.size : Int)) = true := decide_eq_true c17
                                clear c17
                                by_cases c19 : (bt a0 (ji15)) < 48
                                · rw [if_pos c19] at H
                                  have c19b0 : decide ((bt a0 (ji15)) < 48) = true := decide_eq_true c19
                                  clear c19
                                  obtain rfl := Option.some.inj H
                                  have p18 : 0 ≤ ((ji15) : Int) := of_decide_eq_true (by first | (with_reducible assumption) | assumption)
                                  have q18 : (ji15) < (a0.size : Int) := of_decide_eq_true (by first | (with_reducible assumption) | assumption)
                                  have hx18 := bt_at a0 (ji15)
                                  replace p18 := eq_true p18
                                  replace q18 := eq_true q18
                                  go_wp2
                                  go_ret
                                  exact ⟨by first | rfl | (simp; done) | (simp only [← hji15] <;> (first | rfl | simp)) | (simp [*]; done), by repeat (first | exact Drawn0.refl _ | apply Drawn0.step)⟩
                                · rw [if_neg c19] at H
                                  have c19b0 : decide ((bt a0 (ji15)) < 48) = false := decide_eq_false c19
                                  clear c19
                                  by_cases c21 : (bt a0 (ji15)) > 50
                                  · rw [if_pos c21] at H
                                    have c21b0 : decide (50 < (bt a0 (ji15))) = true := decide_eq_true c21
                                    clear c21
                                    obtain rfl := Option.some.inj H
                                    have p18 : 0 ≤ ((ji15) : Int) := of_decide_eq_true (by first | (with_reducible assumption) | assumption)
                                    have q18 : (ji15) < (a0.size : Int) := of_decide_eq_true (by first | (with_reducible assumption) | assumption)
                                    have hx18 := bt_at a0 (ji15)
                                    replace p18 := eq_true p18
                                    replace q18 := eq_true q18
                                    have p20 : 0 ≤ ((ji15) : Int) := of_decide_eq_true (by first | (with_reducible assumption) | assumption)
                                    have q20 : (ji15) < (a0.size : Int) := of_decide_eq_true (by first | (with_reducible assumption) | assumption)
                                    have hx20 := bt_at a0 (ji15)
                                    replace p20 := eq_true p20
                                    replace q20 := eq_true q20
                                    go_wp2
                                    go_ret
                                    exact ⟨by first | rfl | (simp; done) | (simp only [← hji15] <;> (first | rfl | simp)) | (simp [*]; done), by repeat (first | exact Drawn0.refl _ | apply Drawn0.step)⟩
                                  · rw [if_neg c21] at H
                                    have c21b0 : decide (50 < (bt a0 (ji15))) = false := decide_eq_false c21
                                    clear c21
                                    have H' := Aside0.mk H
                                    clear H
                                    have p18 : 0 ≤ ((ji15) : Int) := of_decide_eq_true (by first | (with_reducible assumption) | assumption)
                                    have q18 : (ji15) < (a0.size : Int) := of_decide_eq_true (by first | (with_reducible assumption) | assumption)
                                    have hx18 := bt_at a0 (ji15)
                                    replace p18 := eq_true p18
                                    replace q18 := eq_true q18
                                    have p20 : 0 ≤ ((ji15) : Int) := of_decide_eq_true (by first | (with_reducible assumption) | assumption)
                                    have q20 : (ji15) < (a0.size : Int) := of_decide_eq_true (by first | (with_reducible assumption) | assumption)
                                    have hx20 := bt_at a0 (ji15)
                                    replace p20 := eq_true p20
                                    replace q20 := eq_true q20
                                    go_wp2
                                    go_roundg kj9
                                    case measure => have := HK1.out; have := HJ9.out; omega
                                    case rel => exact ⟨(wrap64 ((ji15) + 1)), (wrap64 (x5_1 - 1)), (by first | rfl | (simp; done) | (simp only [← hji15] <;> (first | rfl | simp)) | (simp [*]; done)), (by first | rfl | (simp; done) | (simp [*]; done)), H', ⟨by have := HK1.out; have := HJ9.out; omega⟩, by repeat (first | exact Drawn0.refl _ | apply Drawn0.step)⟩
                              · rw [if_neg c17] at H
                                exact absurd H (by simp)
                            · rw [if_neg c16] at H
                              exact absurd H (by simp)
                        · rw [if_neg c13] at H
                          have c13b0 : ((bt a0 x1_1) == 117) = false := beq_eq_false_iff_ne.mpr c13
                          have c13b1 : ((bt a0 x1_1) != 117) = true := bne_iff_ne.mpr c13
                          obtain rfl := Option.some.inj H
                          go_wp2
                          go_ret
                          exact ⟨by first | rfl | (simp; done) | (simp [*]; done), by repeat (first | exact Drawn0.refl _ | apply Drawn0.step)⟩
            · rw [if_neg c6] at H
              exact absurd H (by simp)
          · rw [if_neg c5] at H
            exact absurd H (by simp)
      · rw [if_neg c3] at H
        have c3b0 : decide (0 < x5_1) = false := decide_eq_false c3
        clear c3
        obtain rfl := Option.some.inj H
        go_wp2
        go_ret
        exact ⟨by first | rfl | (simp; done) | (simp [*]; done), by repeat (first | exact Drawn0.refl _ | apply Drawn0.step)⟩

end Go.Proofs.YtefiapcfdabfpaaDoor.P

namespace Go.Proofs.YtefiapcfdabfpaaDoor.P
open Go.RowKit Go.Proofs.YtefiapcfdabfpaaDoorW.PrintWords Go.Proofs.YtefiapcfdabfpaaDoorW.PrintLast Go.Proofs.YtefiapcfdabfpaaDoorW.PrintMore
attribute [local go_sem] max2_int min2_int max_two min_two max_three min_three max_four min_four
set_option linter.unusedVariables false
set_option linter.unusedSimpArgs false

/-! ### spec_l06Level: function 99 -/
def spec_l06Level.f (k : Nat) (a0 : ByteArray) (a1 : Int) : Option (Int) := (spec_l04End.f k a0 a1).bind fun t101 => (if t101 < 0 then (some (-1)) else (if (wrap64 (t101 - a1)) > 60 then (some (-1)) else (some t101)))
theorem spec_l06Level.mono : ∀ a0 a1 k, LeO (spec_l06Level.f k a0 a1) (spec_l06Level.f (k + 1) a0 a1) := by
  intro a0 a1 k
  unfold spec_l06Level.f
  repeat' first
      | (with_reducible exact spec_l04End.mono _ _ _)
      | (with_reducible exact LeO.refl _)
      | (with_reducible exact LeO.none _)
      | (with_reducible refine LeO.ite ?_ ?_)
      | (with_reducible refine LeO.bind ?_ (fun _ => ?_))
      | exact spec_l04End.mono _ _ _
      | exact LeO.none _
      | refine LeO.ite ?_ ?_
      | refine LeO.bind ?_ (fun _ => ?_)
set_option maxHeartbeats 8000000 in
set_option maxRecDepth 100000 in
theorem spec_l06Level.calls (k : Nat) (a0 : ByteArray) (a1 : Int) (r : Int) (w : World) (h : spec_l06Level.f k a0 a1 = some r) :
    Calls Tryd.prog 99 #[.string a0, .int .i64 a1] w fun e w' => e = .returned (.int .i64 r) ∧ Drawn0 w w' := by
  have H : ((spec_l04End.f k a0 a1).bind fun t101 => (if t101 < 0 then (some (-1)) else (if (wrap64 (t101 - a1)) > 60 then (some (-1)) else (some t101)))) = some r := h
  clear h
  replace H := Option.bind_eq_some_iff.mp H
  obtain ⟨t101, A30, H⟩ := H
  replace H : (if t101 < 0 then (some (-1)) else (if (wrap64 (t101 - a1)) > 60 then (some (-1)) else (some t101))) = some r := H
  have A3 := Aside0.mk A30
  clear A30
  by_cases c4 : t101 < 0
  · rw [if_pos c4] at H
    have c4b0 : decide (t101 < 0) = true := decide_eq_true c4
    clear c4
    obtain rfl := Option.some.inj H
    go_enter Tryd.func99, Tryd.ntmps99
    go_wp2_with (first | ((with_reducible refine gate_callee (f := 89) rfl ?_); refine goesL_ (some 8) rfl rfl Tryd.func89 (by kernel_rfl) rfl #[.string a0, .int .i64 a1] rfl (by (try simp only [List.map_toArray, List.map_cons, List.map_nil]); first | done | rfl | (simp only [List.length_drop, List.length_take]; rfl)) ?_; (with_reducible refine (spec_l04End.calls k a0 a1 t101 _ A3.out).mono ?_); rintro e w' ⟨rfl, ⟨nd, rfl⟩⟩; refine ⟨_, rfl, ?_⟩))
    go_ret
    exact ⟨by first | rfl | (simp; done) | (simp [*]; done), by repeat (first | exact Drawn0.refl _ | apply Drawn0.step)⟩
  · rw [if_neg c4] at H
    have c4b0 : decide (t101 < 0) = false := decide_eq_false c4
    clear c4
    by_cases c5 : (wrap64 (t101 - a1)) > 60
    · rw [if_pos c5] at H
      have c5b0 : decide (60 < (wrap64 (t101 - a1))) = true := decide_eq_true c5
      clear c5
      obtain rfl := Option.some.inj H
      go_enter Tryd.func99, Tryd.ntmps99
      go_wp2_with (first | ((with_reducible refine gate_callee (f := 89) rfl ?_); refine goesL_ (some 8) rfl rfl Tryd.func89 (by kernel_rfl) rfl #[.string a0, .int .i64 a1] rfl (by (try simp only [List.map_toArray, List.map_cons, List.map_nil]); first | done | rfl | (simp only [List.length_drop, List.length_take]; rfl)) ?_; (with_reducible refine (spec_l04End.calls k a0 a1 t101 _ A3.out).mono ?_); rintro e w' ⟨rfl, ⟨nd, rfl⟩⟩; refine ⟨_, rfl, ?_⟩))
      go_ret
      exact ⟨by first | rfl | (simp; done) | (simp [*]; done), by repeat (first | exact Drawn0.refl _ | apply Drawn0.step)⟩
    · rw [if_neg c5] at H
      have c5b0 : decide (60 < (wrap64 (t101 - a1))) = false := decide_eq_false c5
      clear c5
      obtain rfl := Option.some.inj H
      go_enter Tryd.func99, Tryd.ntmps99
      go_wp2_with (first | ((with_reducible refine gate_callee (f := 89) rfl ?_); refine goesL_ (some 8) rfl rfl Tryd.func89 (by kernel_rfl) rfl #[.string a0, .int .i64 a1] rfl (by (try simp only [List.map_toArray, List.map_cons, List.map_nil]); first | done | rfl | (simp only [List.length_drop, List.length_take]; rfl)) ?_; (with_reducible refine (spec_l04End.calls k a0 a1 t101 _ A3.out).mono ?_); rintro e w' ⟨rfl, ⟨nd, rfl⟩⟩; refine ⟨_, rfl, ?_⟩))
      go_ret
      exact ⟨by first | rfl | (simp; done) | (simp [*]; done), by repeat (first | exact Drawn0.refl _ | apply Drawn0.step)⟩

end Go.Proofs.YtefiapcfdabfpaaDoor.P

namespace Go.Proofs.YtefiapcfdabfpaaDoor.P
open Go.RowKit Go.Proofs.YtefiapcfdabfpaaDoorW.PrintWords
def endI : Option Nat → Int
  | some e => (e : Int)
  | none => -1
theorem impl_lv (s : ByteArray) (hs : s.size ≤ 100000) : ∀ (d a o k K : Nat), a + d = s.size → d < k → 2 * d + 1 < K → o + d ≤ 1000000 → impl_LevelEnd.l0 K s (a : Int) (o : Int) = some (endI (lvE s k o a)) := by
  intro d
  induction d using Nat.strongRecOn with
  | _ d ih =>
  intro a o k K ha hk hK ho
  obtain ⟨K, rfl⟩ : ∃ m, K = m + 1 := ⟨K - 1, by omega⟩
  obtain ⟨k, rfl⟩ : ∃ m, k = m + 1 := ⟨k - 1, by omega⟩
  simp only [impl_LevelEnd.l0]
  cases o with
  | zero => rw [if_neg (by omega)]; rfl
  | succ o =>
    rw [if_pos (by omega)]
    simp only [lvE]
    rcases Nat.lt_or_ge a s.size with h0 | h0
    · rw [if_neg (by omega), if_pos (by omega), if_pos (by omega), if_pos h0]
      have e1 : wrap64 ((a : Int) + 1) = ((a + 1 : Nat) : Int) := by unfold wrap64; omega
      have e2 : wrap64 (((o + 1 : Nat) : Int) - 1) = (o : Int) := by unfold wrap64; omega
      have e3 : wrap64 (((o + 1 : Nat) : Int) + 1) = ((o + 2 : Nat) : Int) := by unfold wrap64; omega
      have e4 : wrap64 (((a + 1 : Nat) : Int) + 1) = ((a + 2 : Nat) : Int) := by unfold wrap64; omega
      by_cases h1 : bt s (a : Int) = 122
      · rw [if_pos h1, if_pos h1, e1, e2]
        exact ih (d - 1) (by omega) (a + 1) o k K (by omega) (by omega) (by omega) (by omega)
      rw [if_neg h1, if_neg h1]
      by_cases h2 : bt s (a : Int) = 43
      · rw [if_pos h2, if_pos h2, e1]
        exact ih (d - 1) (by omega) (a + 1) (o + 1) k K (by omega) (by omega) (by omega) (by omega)
      rw [if_neg h2, if_neg h2]
      obtain ⟨K, rfl⟩ : ∃ m, K = m + 1 := ⟨K - 1, by omega⟩
      by_cases h3 : bt s (a : Int) = 109
      · rw [if_pos h3, if_pos (Or.inl h3)]
        simp only [impl_LevelEnd.j2]
        rw [if_pos (beq_iff_eq.mpr h3), e1, e3]
        exact ih (d - 1) (by omega) (a + 1) (o + 2) k K (by omega) (by omega) (by omega) (by omega)
      rw [if_neg h3]
      simp only [impl_LevelEnd.j2]
      by_cases h4 : bt s (a : Int) = 105
      · rw [if_pos (beq_iff_eq.mpr h4), if_pos (Or.inr h4), e1, e3]
        exact ih (d - 1) (by omega) (a + 1) (o + 2) k K (by omega) (by omega) (by omega) (by omega)
      rw [if_neg (by rw [beq_eq_false_iff_ne.mpr h4]; decide), if_neg (show ¬(bt s (a : Int) = 109 ∨ bt s (a : Int) = 105) from fun h => h.elim h3 h4)]
      by_cases h5 : bt s (a : Int) = 117
      · rw [if_pos h5, if_pos h5, e1, e2, e4]
        by_cases h6 : a + 1 < s.size
        · rw [if_neg (by omega), if_pos (by omega), if_pos (by omega), if_pos h6]
          by_cases h7 : bt s ((a + 1 : Nat) : Int) < 48
          · rw [if_pos h7, if_neg (by omega)]; rfl
          rw [if_neg h7]
          by_cases h8 : bt s ((a + 1 : Nat) : Int) > 50
          · rw [if_pos h8, if_neg (by omega)]; rfl
          rw [if_neg h8, if_pos (by omega)]
          exact ih (d - 2) (by omega) (a + 2) o k K (by omega) (by omega) (by omega) (by omega)
        · rw [if_pos (by omega), if_neg h6]; rfl
      · rw [if_neg h5, if_neg h5]; rfl
    · rw [if_pos (by omega), if_neg (by omega)]; rfl
theorem spec_lv (s : ByteArray) (hs : s.size ≤ 100000) : ∀ (d a o k K : Nat), a + d = s.size → d < k → 2 * d + 1 < K → o + d ≤ 1000000 → spec_l04End.l0 K s (a : Int) (o : Int) = some (endI (lvE s k o a)) := by
  intro d
  induction d using Nat.strongRecOn with
  | _ d ih =>
  intro a o k K ha hk hK ho
  obtain ⟨K, rfl⟩ : ∃ m, K = m + 1 := ⟨K - 1, by omega⟩
  obtain ⟨k, rfl⟩ : ∃ m, k = m + 1 := ⟨k - 1, by omega⟩
  simp only [spec_l04End.l0]
  cases o with
  | zero => rw [if_neg (by omega)]; rfl
  | succ o =>
    rw [if_pos (by omega)]
    simp only [lvE]
    rcases Nat.lt_or_ge a s.size with h0 | h0
    · rw [if_neg (by omega), if_pos (by omega), if_pos (by omega), if_pos h0]
      have e1 : wrap64 ((a : Int) + 1) = ((a + 1 : Nat) : Int) := by unfold wrap64; omega
      have e2 : wrap64 (((o + 1 : Nat) : Int) - 1) = (o : Int) := by unfold wrap64; omega
      have e3 : wrap64 (((o + 1 : Nat) : Int) + 1) = ((o + 2 : Nat) : Int) := by unfold wrap64; omega
      have e4 : wrap64 (((a + 1 : Nat) : Int) + 1) = ((a + 2 : Nat) : Int) := by unfold wrap64; omega
      by_cases h1 : bt s (a : Int) = 122
      · rw [if_pos h1, if_pos h1, e1, e2]
        exact ih (d - 1) (by omega) (a + 1) o k K (by omega) (by omega) (by omega) (by omega)
      rw [if_neg h1, if_neg h1]
      by_cases h2 : bt s (a : Int) = 43
      · rw [if_pos h2, if_pos h2, e1]
        exact ih (d - 1) (by omega) (a + 1) (o + 1) k K (by omega) (by omega) (by omega) (by omega)
      rw [if_neg h2, if_neg h2]
      obtain ⟨K, rfl⟩ : ∃ m, K = m + 1 := ⟨K - 1, by omega⟩
      by_cases h3 : bt s (a : Int) = 109
      · rw [if_pos h3, if_pos (Or.inl h3)]
        simp only [spec_l04End.j1]
        rw [if_pos (beq_iff_eq.mpr h3), e1, e3]
        exact ih (d - 1) (by omega) (a + 1) (o + 2) k K (by omega) (by omega) (by omega) (by omega)
      rw [if_neg h3]
      simp only [spec_l04End.j1]
      by_cases h4 : bt s (a : Int) = 105
      · rw [if_pos (beq_iff_eq.mpr h4), if_pos (Or.inr h4), e1, e3]
        exact ih (d - 1) (by omega) (a + 1) (o + 2) k K (by omega) (by omega) (by omega) (by omega)
      rw [if_neg (by rw [beq_eq_false_iff_ne.mpr h4]; decide), if_neg (show ¬(bt s (a : Int) = 109 ∨ bt s (a : Int) = 105) from fun h => h.elim h3 h4)]
      by_cases h5 : bt s (a : Int) = 117
      · rw [if_pos h5, if_pos h5, e1, e2, e4]
        by_cases h6 : a + 1 < s.size
        · rw [if_neg (by omega), if_pos (by omega), if_pos (by omega), if_pos h6]
          by_cases h7 : bt s ((a + 1 : Nat) : Int) < 48
          · rw [if_pos h7, if_neg (by omega)]; rfl
          rw [if_neg h7]
          by_cases h8 : bt s ((a + 1 : Nat) : Int) > 50
          · rw [if_pos h8, if_neg (by omega)]; rfl
          rw [if_neg h8, if_pos (by omega)]
          exact ih (d - 2) (by omega) (a + 2) o k K (by omega) (by omega) (by omega) (by omega)
        · rw [if_pos (by omega), if_neg h6]; rfl
      · rw [if_neg h5, if_neg h5]; rfl
    · rw [if_pos (by omega), if_neg (by omega)]; rfl
theorem impl_LevelEnd_is (s : ByteArray) (a K : Nat) (hs : s.size ≤ 10000) (ha : a ≤ s.size) (hK : 2 * s.size + 5 < K) : impl_LevelEnd.f K s (a : Int) = some (endI (lvEnd s a)) := by
  obtain ⟨K, rfl⟩ : ∃ m, K = m + 1 := ⟨K - 1, by omega⟩
  unfold impl_LevelEnd.f
  rw [if_neg (by omega)]
  have hin : impl_in.f (a : Int) 0 (s.size : Int) = some true := by
    unfold impl_in.f
    simp
    omega
  rw [hin]
  simp only [Option.bind_some, Bool.not_true]
  simp only [impl_LevelEnd.j0]
  rw [if_neg (by decide)]
  exact impl_lv s (by omega) (s.size - a) a 1 (s.size + 1) K (by omega) (by omega) (by omega) (by omega)
theorem spec_l04End_is (s : ByteArray) (a K : Nat) (hs : s.size ≤ 10000) (ha : a ≤ s.size) (hK : 2 * s.size + 5 < K) : spec_l04End.f K s (a : Int) = some (endI (lvEnd s a)) :=
  spec_lv s (by omega) (s.size - a) a 1 (s.size + 1) K (by omega) (by omega) (by omega) (by omega)
theorem spec_l06Level_is (s : ByteArray) (a K : Nat) (hs : s.size ≤ 10000) (ha : a ≤ s.size) (hK : 2 * s.size + 5 < K) : spec_l06Level.f K s (a : Int) = some (endI ((lvEnd s a).bind fun e => if e - a ≤ 60 then some e else none)) := by
  unfold spec_l06Level.f
  rw [spec_l04End_is s a K hs ha hK]
  simp only [Option.bind_some]
  cases h : lvEnd s a with
  | none => rw [if_pos (by decide)]; rfl
  | some e =>
    have hg := lvE_ge s _ _ _ _ h ha
    show (if (e : Int) < 0 then some (-1) else if wrap64 ((e : Int) - a) > 60 then some (-1) else some (e : Int)) = some (endI (if e - a ≤ 60 then some e else none))
    rw [if_neg (by omega)]
    have e1 : wrap64 ((e : Int) - (a : Int)) = (e : Int) - (a : Int) := by unfold wrap64; omega
    rw [e1]
    by_cases h6 : e - a ≤ 60
    · rw [if_neg (by omega), if_pos h6]; rfl
    · rw [if_pos (by omega), if_neg h6]; rfl
end Go.Proofs.YtefiapcfdabfpaaDoor.P

namespace Go.Proofs.YtefiapcfdabfpaaDoor.P
open Go.RowKit Go.Proofs.YtefiapcfdabfpaaDoorW.PrintWords Go.Proofs.YtefiapcfdabfpaaDoorW.PrintLast Go.Proofs.YtefiapcfdabfpaaDoorW.PrintMore
set_option maxRecDepth 100000
set_option maxHeartbeats 8000000
/-- The reader r stands at a place of a text. -/
def RdAt (w : World) (r : Nat) (text : ByteArray) (at_ : Int) : Prop := w.heap[r]? = some (.cells #[.string text, .int .i64 at_] 71 (0, 0))
theorem RdAt.c0 {w : World} {r : Nat} {text : ByteArray} {at_ : Int} (h : RdAt w r text at_) : w.cell? ⟨r, 0, none⟩ = some (.string text) := by unfold World.cell?; rw [h]; rfl
theorem RdAt.c1 {w : World} {r : Nat} {text : ByteArray} {at_ : Int} (h : RdAt w r text at_) : w.cell? ⟨r, 1, none⟩ = some (.int .i64 at_) := by unfold World.cell?; rw [h]; rfl
theorem RdAt.f {w : World} {r : Nat} {text : ByteArray} {at_ : Int} (h : RdAt w r text at_) (o : Nat) : w.frozen? ⟨r, o, none⟩ = false := by unfold World.frozen?; rw [h]; simp
theorem RdAt.set {w : World} {r : Nat} {text : ByteArray} {at_ : Int} (h : RdAt w r text at_) (b : Int) : RdAt (w.setCell ⟨r, 1, none⟩ (.int .i64 b)) r text b := by
  unfold RdAt at h ⊢
  unfold World.setCell
  simp only [Array.getElem?_modify, if_true, h, Option.map_some]
  rfl
theorem RdAt.drewN {w : World} {r : Nat} {text : ByteArray} {at_ : Int} (h : RdAt w r text at_) (q : Nat) : RdAt (w.drewN q) r text at_ := h
theorem RdAt.lt {w : World} {r : Nat} {text : ByteArray} {at_ : Int} (h : RdAt w r text at_) : r < w.heap.size := by
  unfold RdAt at h
  rcases Nat.lt_or_ge r w.heap.size with h0 | h0
  · exact h0
  · rw [Array.getElem?_eq_none h0] at h; cases h
/-- Nothing but the block r has turned. -/
structure Ch (r : Nat) (w w' : World) : Prop where
  os : w'.os = w.os
  tape : w'.tape = w.tape
  output : w'.output = w.output
  size : w.heap.size ≤ w'.heap.size
  block : ∀ b, b ≠ r → b < w.heap.size → w'.heap[b]? = w.heap[b]?
theorem Ch.refl (r : Nat) (w : World) : Ch r w w := ⟨rfl, rfl, rfl, Nat.le_refl _, fun _ _ _ => rfl⟩
theorem Ch.trans {r : Nat} {a b c : World} (h : Ch r a b) (k : Ch r b c) : Ch r a c :=
  ⟨k.os.trans h.os, k.tape.trans h.tape, k.output.trans h.output, Nat.le_trans h.size k.size, fun i hi hl => (k.block i hi (Nat.lt_of_lt_of_le hl h.size)).trans (h.block i hi hl)⟩
theorem Ch.of_below {r : Nat} {w w' : World} (h : Below w.heap.size w w') : Ch r w w' := ⟨h.os, h.tape, h.output, h.size, fun b _ hl => h.block b hl⟩
theorem Ch.drewN (r : Nat) (w : World) (q : Nat) : Ch r w (w.drewN q) := ⟨rfl, rfl, rfl, Nat.le_refl _, fun _ _ _ => rfl⟩
theorem Ch.set (r : Nat) (w : World) (o : Nat) (v : Value) : Ch r w (w.setCell ⟨r, o, none⟩ v) := ⟨rfl, rfl, rfl, by simp [World.setCell], fun b hb _ => Below.heap_setCell _ _ _ _ hb⟩
theorem Ch.below {r B : Nat} {w w' : World} (h : Ch r w w') (hB : B ≤ r) (hw : B ≤ w.heap.size) : Below B w w' := ⟨h.os, h.tape, h.output, h.size, fun b hb => h.block b (by omega) (by omega)⟩
theorem Ch.rep {r : Nat} {w w' : World} {g : Nat} {t : Tm} (h : Ch r w w') (hr : Rep w (fun b => b ≠ r) g t) : Rep w' (fun b => b ≠ r) g t := hr.move fun b hb hlt => ⟨h.block b hb hlt, hb⟩
theorem Ch.rdAt {r : Nat} {w w' : World} {text : ByteArray} {a : Int} (h : Below w.heap.size w w') (hr : RdAt w r text a) : RdAt w' r text a := (h.block r hr.lt).trans hr
/-- What stops a reader. -/
def noT : PanicEntry := { v := .iface 67 (.agg #[]), recovered := false }
theorem idx_hit (text : ByteArray) (c : Int) (a n : Nat) (hn : idx text c a = (n : Int)) (w : World) :
    Calls Tryd.prog 91 #[.string (text.extract a text.size), .int .u8 c] w fun e w' => e = .returned (.int .i64 (n : Int)) ∧ Drawn0 w w' := strings_IndexByte.calls _ _ _ w (by unfold strings_IndexByte.f; unfold idx at hn; rw [hn])
theorem until_hit (r : Nat) (text : ByteArray) (at_ : Nat) (c : Int) (n : Nat) (w : World) (hr : RdAt w r text (at_ : Int)) (ha : at_ ≤ text.size) (hs : text.size ≤ 2000) (hn : idx text c at_ = (n : Int)) :
    Calls Tryd.prog 83 #[.pointer (some ⟨r, 0, none⟩), .int .u8 c] w fun e w' => e = .returned (.string (text.extract at_ (at_ + n))) ∧ RdAt w' r text ((at_ + n + 1 : Nat) : Int) ∧ Ch r w w' ∧ w'.heap.size = w.heap.size := by
  have hlt : at_ + n < text.size := by
    have := idx_lt text c at_ (by omega)
    rw [hn] at this
    simpa using this
  have h0 := hr.c0
  have h1 := hr.c1
  have f1 := hr.f 1
  have hx := idx_hit text c at_ n hn
  have hfin : ∀ q, RdAt ((w.drewN q).setCell ⟨r, 1, none⟩ (.int .i64 ((at_ : Int) + ((n : Int) + 1)))) r text ((at_ + n + 1 : Nat) : Int) ∧ Ch r w ((w.drewN q).setCell ⟨r, 1, none⟩ (.int .i64 ((at_ : Int) + ((n : Int) + 1)))) := fun q =>
    ⟨by rw [show ((at_ + n + 1 : Nat) : Int) = (at_ : Int) + ((n : Int) + 1) from by omega]; exact (hr.drewN q).set _, (Ch.drewN r w q).trans (Ch.set _ _ _ _)⟩
  clear hn hr
  go_enter Tryd.func83, Tryd.ntmps83
  go_wp2_with (first | (go_at_call 91; fail))
  go_quiet (first | (go_at_call 91; exact Calls.quiet_of ((hx _).mono fun e w' h => ⟨h.1, h.2.out⟩)))
  go_wp2
  go_quiet (fail)
  go_wp2
  go_ret
  exact ⟨rfl, (hfin _).1, (hfin _).2, by simp [World.setCell]⟩
theorem until_miss (r : Nat) (text : ByteArray) (at_ : Nat) (c : Int) (w : World) (hr : RdAt w r text (at_ : Int)) (ha : at_ ≤ text.size) (hs : text.size ≤ 2000) (hn : idx text c at_ = -1) :
    Calls Tryd.prog 83 #[.pointer (some ⟨r, 0, none⟩), .int .u8 c] w fun e w' => e = .panicked [noT] ∧ Ch r w w' := by
  have h0 := hr.c0
  have h1 := hr.c1
  have hx : ∀ w, Calls Tryd.prog 91 #[.string (text.extract at_ text.size), .int .u8 c] w fun e w' => e = .returned (.int .i64 (-1)) ∧ Drawn0 w w' := fun w => strings_IndexByte.calls _ _ _ w (by unfold strings_IndexByte.f; unfold idx at hn; rw [hn])
  have hfin : ∀ q, Ch r w (w.drewN q) := fun q => Ch.drewN r w q
  clear hn hr
  go_enter Tryd.func83, Tryd.ntmps83
  go_wp2_with (first | (go_at_call 91; fail))
  go_quiet (first | (go_at_call 91; exact Calls.quiet_of ((hx _).mono fun e w' h => ⟨h.1, h.2.out⟩)))
  go_wp2
  exact ⟨rfl, rfl, hfin _⟩
theorem level_hit (r : Nat) (text : ByteArray) (at_ : Nat) (c : Int) (e : Nat) (w : World) (hr : RdAt w r text (at_ : Int)) (ha : at_ ≤ text.size) (hs : text.size ≤ 2000) (he : lvAt text c at_ = some e) :
    Calls Tryd.prog 86 #[.pointer (some ⟨r, 0, none⟩), .int .u8 c] w fun ex w' => ex = .returned (.string (text.extract at_ e)) ∧ RdAt w' r text ((e + 1 : Nat) : Int) ∧ Ch r w w' ∧ w'.heap.size = w.heap.size := by
  obtain ⟨g1, g2, g3, g4, g5⟩ := lvAt_ge he ha
  have h0 := hr.c0
  have h1 := hr.c1
  have f1 := hr.f 1
  have hx : ∀ w, Calls Tryd.prog 103 #[.string text, .int .i64 (at_ : Int)] w fun ex w' => ex = .returned (.int .i64 (e : Int)) ∧ Drawn0 w w' := fun w => impl_LevelEnd.calls 10000 text at_ e w (by rw [impl_LevelEnd_is text at_ 10000 (by omega) ha (by omega), g5]; rfl)
  have hc : ((text[e]'g2).toNat : Int) = c := by rw [← g4]; exact (bt_at text e g2)
  have hc1 : (((text[e]'g2).toNat : Int) != c) = false := bne_eq_false_iff_eq.mpr hc
  have hi : (e : Int) - (at_ : Int) ≤ 60 := by omega
  have hi2 : ((e : Int) == (text.size : Int)) = false := beq_eq_false_iff_ne.mpr (by omega)
  have hfin : ∀ q, RdAt ((w.drewN q).setCell ⟨r, 1, none⟩ (.int .i64 ((e : Int) + 1))) r text ((e + 1 : Nat) : Int) ∧ Ch r w ((w.drewN q).setCell ⟨r, 1, none⟩ (.int .i64 ((e : Int) + 1))) := fun q =>
    ⟨by rw [show ((e + 1 : Nat) : Int) = (e : Int) + 1 from by omega]; exact (hr.drewN q).set _, (Ch.drewN r w q).trans (Ch.set _ _ _ _)⟩
  clear hr g5 he g3 g4 hc
  go_enter Tryd.func86, Tryd.ntmps86
  go_wp2_with (first | (go_at_call 103; fail))
  go_quiet (first | (go_at_call 103; exact Calls.quiet_of ((hx _).mono fun e w' h => ⟨h.1, h.2.out⟩)))
  go_wp2
  go_quiet (fail)
  go_wp2
  go_ret
  exact ⟨rfl, (hfin _).1, (hfin _).2, by simp [World.setCell]⟩
/-- The end that the reader of a level does not take. -/
def lvBad (text : ByteArray) (c : Int) (at_ : Nat) (x : Int) : Prop := x = -1 ∨ ∃ e : Nat, x = (e : Int) ∧ at_ < e ∧ e ≤ text.size ∧ (e = text.size ∨ (e < text.size ∧ bt text (e : Int) ≠ c) ∨ (e < text.size ∧ bt text (e : Int) = c ∧ 60 < e - at_))
theorem level_miss (r : Nat) (text : ByteArray) (at_ : Nat) (c : Int) (w : World) (hr : RdAt w r text (at_ : Int)) (ha : at_ ≤ text.size) (hs : text.size ≤ 2000) (he : lvAt text c at_ = none) :
    Calls Tryd.prog 86 #[.pointer (some ⟨r, 0, none⟩), .int .u8 c] w fun ex w' => ex = .panicked [noT] ∧ Ch r w w' := by
  have hx : ∀ w, Calls Tryd.prog 103 #[.string text, .int .i64 (at_ : Int)] w fun ex w' => ex = .returned (.int .i64 (endI (lvEnd text at_))) ∧ Drawn0 w w' := fun w => impl_LevelEnd.calls 10000 text at_ _ w (impl_LevelEnd_is text at_ 10000 (by omega) ha (by omega))
  have h0 := hr.c0
  have h1 := hr.c1
  have f1 := hr.f 1
  have hfin : ∀ q, Ch r w (w.drewN q) := fun q => Ch.drewN r w q
  have hb : lvBad text c at_ (endI (lvEnd text at_)) := by
    unfold lvAt at he
    cases h : lvEnd text at_ with
    | none => exact .inl rfl
    | some e =>
      have hg := lvE_ge text _ _ _ _ h ha
      rw [h, Option.bind_some] at he
      refine .inr ⟨e, rfl, by omega, hg.2, ?_⟩
      rcases Nat.lt_or_ge e text.size with h2 | h2
      · by_cases h3 : bt text (e : Int) = c
        · refine .inr (.inr ⟨h2, h3, ?_⟩)
          rcases Nat.lt_or_ge 60 (e - at_) with h4 | h4
          · exact h4
          · rw [if_pos ⟨h2, h3, h4⟩] at he; cases he
        · exact .inr (.inl ⟨h2, h3⟩)
      · exact .inl (by omega)
  generalize endI (lvEnd text at_) = x at hx hb
  clear hr he
  rcases hb with rfl | ⟨e, rfl, g1, g2, h5 | ⟨h5, h6⟩ | ⟨h5, h6, h7⟩⟩
  · go_enter Tryd.func86, Tryd.ntmps86
    go_wp2_with (first | (go_at_call 103; fail))
    go_quiet (first | (go_at_call 103; exact Calls.quiet_of ((hx _).mono fun e w' h => ⟨h.1, h.2.out⟩)))
    go_wp2
    exact ⟨rfl, rfl, hfin _⟩
  · have hi2 : ((e : Int) == (text.size : Int)) = true := beq_iff_eq.mpr (by omega)
    subst h5
    clear g2
    go_enter Tryd.func86, Tryd.ntmps86
    go_wp2_with (first | (go_at_call 103; fail))
    go_quiet (first | (go_at_call 103; exact Calls.quiet_of ((hx _).mono fun e w' h => ⟨h.1, h.2.out⟩)))
    go_wp2
    exact ⟨rfl, rfl, hfin _⟩
  · have hi2 : ((e : Int) == (text.size : Int)) = false := beq_eq_false_iff_ne.mpr (by omega)
    have hc : ((text[e]'h5).toNat : Int) ≠ c := by rw [show ((text[e]'h5).toNat : Int) = bt text (e : Int) from bt_at text e h5]; exact h6
    have hc1 : (((text[e]'h5).toNat : Int) != c) = true := bne_iff_ne.mpr hc
    clear hc h6
    go_enter Tryd.func86, Tryd.ntmps86
    go_wp2_with (first | (go_at_call 103; fail))
    go_quiet (first | (go_at_call 103; exact Calls.quiet_of ((hx _).mono fun e w' h => ⟨h.1, h.2.out⟩)))
    go_wp2
    exact ⟨rfl, rfl, hfin _⟩
  · have hi2 : ((e : Int) == (text.size : Int)) = false := beq_eq_false_iff_ne.mpr (by omega)
    have hc : ((text[e]'h5).toNat : Int) = c := by rw [show ((text[e]'h5).toNat : Int) = bt text (e : Int) from bt_at text e h5]; exact h6
    have hc1 : (((text[e]'h5).toNat : Int) != c) = false := bne_eq_false_iff_eq.mpr hc
    have hi : 60 < (e : Int) - (at_ : Int) := by omega
    clear hc h6 h7
    go_enter Tryd.func86, Tryd.ntmps86
    go_wp2_with (first | (go_at_call 103; fail))
    go_quiet (first | (go_at_call 103; exact Calls.quiet_of ((hx _).mono fun e w' h => ⟨h.1, h.2.out⟩)))
    go_wp2
    exact ⟨rfl, rfl, hfin _⟩
end Go.Proofs.YtefiapcfdabfpaaDoor.P

namespace Go.Proofs.YtefiapcfdabfpaaDoor.P
open Go.RowKit Go.Proofs.YtefiapcfdabfpaaDoorW.PrintWords
theorem readDec_some (x : ByteArray) (hx : x.size ≤ 140737488351232) : ∃ v ok, impl_ReadDecimal.f x = some (v, ok) ∧ (ok = true → 0 ≤ v ∧ v ≤ 1000000000 ∧ (⟨(Lib.itoa v).toArray⟩ : ByteArray).toList = x.toList) := by
  unfold impl_ReadDecimal.f
  rw [if_pos hx]
  cases Lib.atoiAll x.data.toList with
  | ok v =>
    simp only
    by_cases h1 : 0 ≤ v ∧ v ≤ 1000000000
    · rw [if_pos h1]
      by_cases h2 : (⟨(Lib.itoa v).toArray⟩ : ByteArray).toList = x.toList
      · rw [if_pos h2]; exact ⟨v, true, rfl, fun _ => ⟨h1.1, h1.2, h2⟩⟩
      · rw [if_neg h2]; exact ⟨0, false, rfl, fun h => by cases h⟩
    · rw [if_neg h1]; exact ⟨0, false, rfl, fun h => by cases h⟩
  | _ => exact ⟨0, false, rfl, fun h => by cases h⟩
theorem nameOk_some (x : ByteArray) (hx : x.size ≤ 2000) : ∃ b, impl_NameOk.f x = some b ∧ (b = true → x.size ≤ 40) := by
  unfold impl_NameOk.f
  rw [if_pos (by omega)]
  by_cases h : 40 < x.size
  · rw [if_pos h]; exact ⟨false, rfl, fun h => by cases h⟩
  · rw [if_neg h]
    have hs0 : strings_Split.f x ⟨#[46]⟩ = some (Lib.splitB ⟨#[46]⟩ 0 (Lib.countB x ⟨#[46]⟩) x) := by
      unfold strings_Split.f
      rw [if_pos ⟨by decide, by omega⟩]
    rw [hs0]
    exact ⟨_, rfl, fun _ => by omega⟩
theorem lvs_sum (s : ByteArray) : ∀ (k a : Nat) (l : List ByteArray) (e : Nat), lvs s k a = some (l, e) → a ≤ s.size → lsum l = (e : Int) - a := by
  intro k
  induction k with
  | zero => intro a l e h ha; simp [lvs] at h
  | succ k ih =>
    intro a l e h ha
    simp only [lvs] at h
    by_cases h0 : a < s.size
    · rw [if_pos h0] at h
      by_cases h1 : bt s (a : Int) = 46
      · rw [if_pos h1] at h
        simp only [Option.some.injEq, Prod.mk.injEq] at h
        obtain ⟨rfl, rfl⟩ := h
        simp [lsum]
      · rw [if_neg h1] at h
        obtain ⟨e1, he1, h⟩ := Option.bind_eq_some_iff.mp h
        obtain ⟨⟨l2, e2⟩, hr, h⟩ := Option.map_eq_some_iff.mp h
        simp only [Prod.mk.injEq] at h
        obtain ⟨rfl, rfl⟩ := h
        have g1 := lvAt_ge he1 ha
        have g2 := ih _ _ _ hr (by omega)
        simp only [lsum]
        rw [g2, ByteArray.size_extract]
        omega
    · rw [if_neg h0] at h; cases h
theorem rdV_ok (s : ByteArray) (hs : s.size ≤ 2000) (a : Nat) (t : Te) (e : Nat) (h : rdV s a = some (t, e)) (ha : a ≤ s.size) : t.Ok ∧ a < e ∧ e ≤ s.size ∧ t.tm.long = (e : Int) - a + 1 := by
  unfold rdV at h
  by_cases hi : 0 ≤ idx s 46 a
  · rw [if_pos hi] at h
    have hl := idx_lt s 46 a hi
    obtain ⟨v, ok, hf, hv⟩ := readDec_some (s.extract a (a + (idx s 46 a).toNat)) (by rw [ByteArray.size_extract]; omega)
    rw [hf, Option.bind_some] at h
    by_cases hc : ok = true ∧ v ≤ 999
    · rw [if_pos hc] at h
      simp only [Option.some.injEq, Prod.mk.injEq] at h
      obtain ⟨rfl, rfl⟩ := h
      obtain ⟨h0, h1, h2⟩ := hv hc.1
      refine ⟨.var v h0 hc.2, by omega, by omega, ?_⟩
      have h3 := congrArg List.length h2
      simp only [ByteArray.toList_eq, Array.length_toList] at h3
      have h4 : (s.extract a (a + (idx s 46 a).toNat)).data.size = (idx s 46 a).toNat := by
        show (s.extract a (a + (idx s 46 a).toNat)).size = _
        rw [ByteArray.size_extract]; omega
      rw [h4] at h3
      replace h3 : (Lib.itoa v).length = (idx s 46 a).toNat := by simpa using h3
      show 2 + ((Lib.itoa v).length : Int) = _
      omega
    · rw [if_neg hc] at h; cases h
  · rw [if_neg hi] at h; cases h
theorem rdC_ok (s : ByteArray) (hs : s.size ≤ 2000) (a : Nat) (t : Te) (e : Nat) (h : rdC s a = some (t, e)) (ha : a ≤ s.size) : t.Ok ∧ a < e ∧ e ≤ s.size ∧ t.tm.long = (e : Int) - a + 1 := by
  unfold rdC at h
  by_cases hi : 0 ≤ idx s 59 a
  · rw [if_pos hi] at h
    have hl := idx_lt s 59 a hi
    obtain ⟨⟨l, e1⟩, hr, h⟩ := Option.bind_eq_some_iff.mp h
    have g := lvs_ge s _ _ _ _ hr (by omega)
    have g2 := lvs_sum s _ _ _ _ hr (by omega)
    have hx : (s.extract a (a + (idx s 59 a).toNat)).size = (idx s 59 a).toNat := by rw [ByteArray.size_extract]; omega
    obtain ⟨b, hf, hv⟩ := nameOk_some (s.extract a (a + (idx s 59 a).toNat)) (by omega)
    rw [hf, Option.bind_some] at h
    by_cases hc : b = true ∧ l.length ≤ 3
    · rw [if_pos hc] at h
      simp only [Option.some.injEq, Prod.mk.injEq] at h
      obtain ⟨rfl, rfl⟩ := h
      refine ⟨.con _ _ (hv hc.1) hc.2 g.2.2.2.2, by omega, by omega, ?_⟩
      show 3 + ((s.extract a (a + (idx s 59 a).toNat)).size : Int) + lsum l = _
      rw [hx, g2]
      omega
    · rw [if_neg hc] at h; cases h
  · rw [if_neg hi] at h; cases h
theorem rdT_ok (s : ByteArray) (hs : s.size ≤ 2000) : ∀ (k a : Nat) (t : Te) (e : Nat), rd s k a = some (t, e) → a ≤ s.size → t.Ok ∧ a < e ∧ e ≤ s.size ∧ t.tm.long = (e : Int) - a := by
  intro k
  induction k with
  | zero => intro a t e h; simp [rd] at h
  | succ k ih =>
    intro a t e h ha
    simp only [rd] at h
    by_cases h0 : a < s.size
    · rw [if_pos h0] at h
      by_cases h1 : bt s (a : Int) = 118
      · rw [if_pos h1] at h
        have := rdV_ok s hs _ _ _ h (by omega)
        exact ⟨this.1, by omega, this.2.2.1, by rw [this.2.2.2]; omega⟩
      rw [if_neg h1] at h
      by_cases h2 : bt s (a : Int) = 115
      · rw [if_pos h2] at h
        obtain ⟨e1, he, h⟩ := Option.map_eq_some_iff.mp h
        simp only [Prod.mk.injEq] at h
        obtain ⟨rfl, rfl⟩ := h
        have g := lvAt_ge he (by omega)
        have hx : (s.extract (a + 1) e1).size = e1 - (a + 1) := by rw [ByteArray.size_extract]; omega
        refine ⟨.sort _ (by omega), by omega, by omega, ?_⟩
        show 2 + ((s.extract (a + 1) e1).size : Int) = _
        omega
      rw [if_neg h2] at h
      by_cases h3 : bt s (a : Int) = 99
      · rw [if_pos h3] at h
        have := rdC_ok s hs _ _ _ h (by omega)
        exact ⟨this.1, by omega, this.2.2.1, by rw [this.2.2.2]; omega⟩
      rw [if_neg h3] at h
      by_cases h4 : bt s (a : Int) = 64 ∨ bt s (a : Int) = 108 ∨ bt s (a : Int) = 112
      · rw [if_pos h4] at h
        obtain ⟨⟨t1, e1⟩, hr1, h⟩ := Option.bind_eq_some_iff.mp h
        obtain ⟨⟨t2, e2⟩, hr2, h⟩ := Option.map_eq_some_iff.mp h
        simp only [Prod.mk.injEq] at h
        obtain ⟨rfl, rfl⟩ := h
        have g1 := ih _ _ _ hr1 (by omega)
        have g2 := ih _ _ _ hr2 g1.2.2.1
        simp only at g2
        refine ⟨.two _ _ _ h4 g1.1 g2.1, by omega, by omega, ?_⟩
        show 1 + (t1.tm.long + (t2.tm.long + 0)) = _
        omega
      rw [if_neg h4] at h
      by_cases h5 : bt s (a : Int) = 116
      · rw [if_pos h5] at h
        obtain ⟨⟨t1, e1⟩, hr1, h⟩ := Option.bind_eq_some_iff.mp h
        obtain ⟨⟨t2, e2⟩, hr2, h⟩ := Option.bind_eq_some_iff.mp h
        obtain ⟨⟨t3, e3⟩, hr3, h⟩ := Option.map_eq_some_iff.mp h
        simp only [Prod.mk.injEq] at h
        obtain ⟨rfl, rfl⟩ := h
        have g1 := ih _ _ _ hr1 (by omega)
        have g2 := ih _ _ _ hr2 g1.2.2.1
        have g3 := ih _ _ _ hr3 g2.2.2.1
        simp only at g2 g3
        refine ⟨.three _ _ _ g1.1 g2.1 g3.1, by omega, by omega, ?_⟩
        show 1 + (t1.tm.long + (t2.tm.long + (t3.tm.long + 0))) = _
        omega
      rw [if_neg h5] at h; cases h
    · rw [if_neg h0] at h; cases h
end Go.Proofs.YtefiapcfdabfpaaDoor.P

namespace Go.Proofs.YtefiapcfdabfpaaDoor.P
open Go.RowKit Go.Proofs.YtefiapcfdabfpaaDoorW.PrintWords Go.Proofs.YtefiapcfdabfpaaDoorW.PrintLast Go.Proofs.YtefiapcfdabfpaaDoorW.PrintMore
set_option maxRecDepth 100000
set_option maxHeartbeats 8000000
/-- What the reader leaves. -/
def Got (text : ByteArray) (r : Nat) (w : World) (x : Option (Te × Nat)) (e : Ending) (w' : World) : Prop :=
  match x with
  | some (t, a) => (∃ g, e = .returned (.pointer (some ⟨g, 0, none⟩)) ∧ Rep w' (fun b => b ≠ r) g t.tm) ∧ RdAt w' r text (a : Int) ∧ Ch r w w'
  | none => e = .panicked [noT] ∧ Ch r w w'
theorem Ch.env {r B : Nat} {w0 w w' : World} (hB : Below B w0 w) (h : Ch r w w') (hr : B ≤ r) (h0 : B ≤ w0.heap.size) : Below B w0 w' := hB.trans (h.below hr (Nat.le_trans h0 hB.size))
theorem set_ch (r : Nat) (w w' : World) (v : Value) (h : Ch r (w.setCell ⟨r, 1, none⟩ v) w') : Ch r w w' := (Ch.set r w 1 v).trans h
theorem idx_cases (s : ByteArray) (c : Int) (a : Nat) : idx s c a = -1 ∨ ∃ n : Nat, idx s c a = (n : Int) := by
  have := Lib.indexByte_ge (s.extract a s.size).data.toList c.toNat.toUInt8
  unfold idx
  by_cases h : Lib.indexByte (s.extract a s.size).data.toList c.toNat.toUInt8 = -1
  · exact .inl h
  · exact .inr ⟨(Lib.indexByte (s.extract a s.size).data.toList c.toNat.toUInt8).toNat, by omega⟩
theorem term_var (w0 w : World) (r : Nat) (text : ByteArray) (a : Nat) (hA : EnvA w0) (hI : EnvI w0) (hM : EnvM w0) (hB : Below w0.heap.size w0 w) (hr0 : w0.heap.size ≤ r) (hr : RdAt w r text (a : Int)) (hs : text.size ≤ 2000) (hlt : a < text.size) (hk : bt text (a : Int) = 118) :
    Calls Tryd.prog 68 #[.pointer (some ⟨r, 0, none⟩)] w (Got text r w (rdV text (a + 1))) := by
  have h0 := hr.c0
  have h1 := hr.c1
  have f1 := hr.f 1
  have hb : ((text[a]'hlt).toNat : Int) = 118 := by rw [← hk]; exact bt_at text a hlt
  have he : ((a : Int) == (text.size : Int)) = false := beq_eq_false_iff_ne.mpr (by omega)
  have hr1 : ∀ q, RdAt ((w.drewN q).setCell ⟨r, 1, none⟩ (.int .i64 ((a : Int) + 1))) r text ((a + 1 : Nat) : Int) := fun q => (hr.drewN q).set _
  have hch1 : ∀ q w', Ch r ((w.drewN q).setCell ⟨r, 1, none⟩ (.int .i64 ((a : Int) + 1))) w' → Ch r w w' := fun q w' h => (Ch.drewN r w q).trans ((Ch.set r _ 1 _).trans h)
  rcases idx_cases text 46 (a + 1) with hx | ⟨n, hx⟩
  · have hU := fun w h => until_miss r text (a + 1) 46 w h (by omega) hs hx
    have hres : rdV text (a + 1) = none := by unfold rdV; rw [hx]; rfl
    rw [hres]
    clear hres hx hk hr
    go_enter Tryd.func68, Tryd.ntmps68
    go_wp2
    go_quiet (fail)
    go_wp2
    go_quiet (fail)
    go_wp2_with (first | (go_at_call 83; refine (hU _ (hr1 _)).mono ?_; rintro e w2 ⟨rfl, hc2⟩))
    exact ⟨rfl, rfl, hch1 _ _ hc2⟩
  · have hU := fun w h => until_hit r text (a + 1) 46 n w h (by omega) hs hx
    have hl := idx_lt text 46 (a + 1) (by omega)
    rw [hx] at hl
    obtain ⟨v, ok, hf, hv⟩ := readDec_some (text.extract (a + 1) (a + 1 + n)) (by rw [ByteArray.size_extract]; omega)
    have hres : rdV text (a + 1) = if ok = true ∧ v ≤ 999 then some (.var v, a + 1 + n + 1) else none := by
      unfold rdV
      rw [hx, if_pos (by omega), Int.toNat_natCast, hf]
      rfl
    rw [hres]
    have hRD : ∀ w2, Ch r w w2 → Calls Tryd.prog 82 #[.string (text.extract (a + 1) (a + 1 + n))] w2 fun e w' => e = .returned (.tuple #[.int .i64 v, .bool ok]) ∧ Below w2.heap.size w2 w' := fun w2 hc =>
      impl_ReadDecimal.calls _ v ok w2 (hA.below (Ch.env hB hc hr0 (Nat.le_refl _))) (hI.below (Ch.env hB hc hr0 (Nat.le_refl _))) hf
    generalize text.extract (a + 1) (a + 1 + n) = x at hU hRD
    have hEI : ∀ w2, Ch r w w2 → EnvI w2 := fun w2 hc => hI.below (Ch.env hB hc hr0 (Nat.le_refl _))
    clear hres hx hk hr hf hA hI hM
    by_cases c1 : ok = true
    · subst c1
      obtain ⟨v0, v1, _⟩ := hv rfl
      by_cases c2 : v ≤ 999
      · rw [if_pos ⟨rfl, c2⟩]
        clear hv
        go_enter Tryd.func68, Tryd.ntmps68
        go_wp2
        go_quiet (fail)
        go_wp2
        go_quiet (fail)
        go_wp2_with (first | (go_at_call 83; refine (hU _ (hr1 _)).mono ?_; rintro e w2 ⟨rfl, hr2, hc2, hz2⟩) | (go_at_call 82; refine (hRD _ (hch1 _ _ hc2)).mono ?_; rintro e w3 ⟨rfl, hb3⟩) | (go_at_call 84; refine (impl_variable.calls v _ v0 v1 (hEI _ ((hch1 _ _ hc2).trans (.of_below hb3)))).mono ?_; rintro e w4 ⟨g, rfl, hg, hrep, hb4⟩))
        go_ret
        have hr3 := Ch.rdAt hb3 hr2
        exact ⟨⟨g, rfl, hrep.weaken fun b hb _ => by have := hr3.lt; omega⟩, Ch.rdAt hb4 hr3, (hch1 _ _ hc2).trans ((Ch.of_below hb3).trans (.of_below hb4))⟩
      · rw [if_neg (fun h => c2 h.2)]
        have c3 : 999 < v := by omega
        clear hv c2
        go_enter Tryd.func68, Tryd.ntmps68
        go_wp2
        go_quiet (fail)
        go_wp2
        go_quiet (fail)
        go_wp2_with (first | (go_at_call 83; refine (hU _ (hr1 _)).mono ?_; rintro e w2 ⟨rfl, hr2, hc2, hz2⟩) | (go_at_call 82; refine (hRD _ (hch1 _ _ hc2)).mono ?_; rintro e w3 ⟨rfl, hb3⟩))
        exact ⟨rfl, rfl, (hch1 _ _ hc2).trans (.of_below hb3)⟩
    · rw [if_neg (fun h => c1 h.1)]
      obtain rfl : ok = false := by cases ok <;> simp_all
      clear hv c1
      go_enter Tryd.func68, Tryd.ntmps68
      go_wp2
      go_quiet (fail)
      go_wp2
      go_quiet (fail)
      go_wp2_with (first | (go_at_call 83; refine (hU _ (hr1 _)).mono ?_; rintro e w2 ⟨rfl, hr2, hc2, hz2⟩) | (go_at_call 82; refine (hRD _ (hch1 _ _ hc2)).mono ?_; rintro e w3 ⟨rfl, hb3⟩))
      exact ⟨rfl, rfl, (hch1 _ _ hc2).trans (.of_below hb3)⟩
theorem term_sort (w0 w : World) (r : Nat) (text : ByteArray) (a : Nat) (hA : EnvA w0) (hI : EnvI w0) (hM : EnvM w0) (hB : Below w0.heap.size w0 w) (hr0 : w0.heap.size ≤ r) (hr : RdAt w r text (a : Int)) (hs : text.size ≤ 2000) (hlt : a < text.size) (hk : bt text (a : Int) = 115) :
    Calls Tryd.prog 68 #[.pointer (some ⟨r, 0, none⟩)] w (Got text r w ((lvAt text 46 (a + 1)).map fun e => (Te.sort (text.extract (a + 1) e), e + 1))) := by
  have h0 := hr.c0
  have h1 := hr.c1
  have f1 := hr.f 1
  have hb : ((text[a]'hlt).toNat : Int) = 115 := by rw [← hk]; exact bt_at text a hlt
  have he : ((a : Int) == (text.size : Int)) = false := beq_eq_false_iff_ne.mpr (by omega)
  have hr1 : ∀ q, RdAt ((w.drewN q).setCell ⟨r, 1, none⟩ (.int .i64 ((a : Int) + 1))) r text ((a + 1 : Nat) : Int) := fun q => (hr.drewN q).set _
  have hch1 : ∀ q w', Ch r ((w.drewN q).setCell ⟨r, 1, none⟩ (.int .i64 ((a : Int) + 1))) w' → Ch r w w' := fun q w' h => (Ch.drewN r w q).trans ((Ch.set r _ 1 _).trans h)
  cases hx : lvAt text 46 (a + 1) with
  | none =>
    have hU := fun w h => level_miss r text (a + 1) 46 w h (by omega) hs hx
    clear hx hk hr
    rw [Option.map_none]
    go_enter Tryd.func68, Tryd.ntmps68
    go_wp2
    go_quiet (fail)
    go_wp2
    go_quiet (fail)
    go_wp2_with (first | (go_at_call 86; refine (hU _ (hr1 _)).mono ?_; rintro e w2 ⟨rfl, hc2⟩))
    exact ⟨rfl, rfl, hch1 _ _ hc2⟩
  | some n =>
    have hU := fun w h => level_hit r text (a + 1) 46 n w h (by omega) hs hx
    have hg := lvAt_ge hx (by omega)
    rw [Option.map_some]
    have hxs : (text.extract (a + 1) n).size ≤ 1000000 := by rw [ByteArray.size_extract]; omega
    clear hx hk hr hg
    show Calls _ _ _ _ (Got text r w (some (Te.sort (text.extract (a + 1) n), n + 1)))
    generalize text.extract (a + 1) n = x at hU hxs
    go_enter Tryd.func68, Tryd.ntmps68
    go_wp2
    go_quiet (fail)
    go_wp2
    go_quiet (fail)
    go_wp2_with (first | (go_at_call 86; refine (hU _ (hr1 _)).mono ?_; rintro e w2 ⟨rfl, hr2, hc2, hz2⟩) | (go_at_call 85; refine (impl_sort.calls x _ hxs).mono ?_; rintro e w4 ⟨g, rfl, hg, hrep, hb4⟩))
    go_ret
    exact ⟨⟨g, rfl, hrep.weaken fun b hb _ => by have := hr2.lt; omega⟩, Ch.rdAt hb4 hr2, (hch1 _ _ hc2).trans (.of_below hb4)⟩
end Go.Proofs.YtefiapcfdabfpaaDoor.P

namespace Go.Proofs.YtefiapcfdabfpaaDoor.P
open Go.RowKit Go.Proofs.YtefiapcfdabfpaaDoorW.PrintWords Go.Proofs.YtefiapcfdabfpaaDoorW.PrintLast Go.Proofs.YtefiapcfdabfpaaDoorW.PrintMore
set_option maxRecDepth 100000
set_option maxHeartbeats 8000000
theorem R_rowS {w : World} {B : Nat} {ok : Nat → Prop} {v : Value} {l : List ByteArray} (h : Kd.R Kd.string 9 w B ok v l) : ∃ A c, v = .slice A l.length c ∧ l.length ≤ c ∧ RowS w ok A l := by
  obtain ⟨A, c, rfl⟩ := Kd.R_slice h
  refine ⟨A, c, rfl, (Kd.R_reads' h).2.1, fun j x hj => ?_⟩
  have hne : 0 < l.length := by have := (List.getElem?_eq_some_iff.mp hj).1; omega
  obtain ⟨ad, rfl, _, hcs⟩ := cells_of_C (Kd.R_reads' h).2.2 hne
  exact ⟨ad.block, ad.off, rfl, h.1 _ (by simp [Value.ownBlock]), hcs j x hj⟩
theorem R_empty (w : World) (B : Nat) (ok : Nat → Prop) (hB : B ≤ w.heap.size) (hok : ok w.heap.size) : Kd.R Kd.string 9 (w.alloc (.cells #[] 9)) B ok (.slice (some ⟨w.heap.size, 0, none⟩) 0 0) [] := by
  refine ⟨fun k hk => ?_, [], ?_, Reps.none _ _⟩
  · have : w.heap.size = k := by simpa [Value.ownBlock] using hk
    subst this
    exact hok
  · exact World.ownsRow_lit (base := B) (e := 9) (size := 1) w #[] 0 hB (by decide) (by simp)
theorem Ch.grown {r : Nat} {w W w1 : World} (h : Ch r w W) {row : Option Nat} (hg : W.grownBy w1 row) (hk : ∀ k, row = some k → w.heap.size ≤ k) : Ch r w w1 :=
  ⟨hg.os.trans h.os, hg.tape.trans h.tape, hg.output.trans h.output, Nat.le_trans h.size hg.size, fun b hb hl => (hg.block b (Nat.lt_of_lt_of_le hl h.size) (fun e => by have := hk b e.symm; omega)).trans (h.block b hb hl)⟩
theorem idx_end (s : ByteArray) (c : Int) (p : Nat) (h : s.size ≤ p) : idx s c p = -1 := by
  unfold idx
  have : (s.extract p s.size).data.toList = [] := by
    apply List.eq_nil_of_length_eq_zero
    rw [Array.length_toList]
    show (s.extract p s.size).size = 0
    rw [ByteArray.size_extract]; omega
  rw [this]
  rfl
theorem idx_here (s : ByteArray) (p : Nat) (h : p < s.size) (hb : bt s (p : Int) = 46) : idx s 46 p = 0 := by
  have hz : s[p]'h = (46 : UInt8) := by
    apply UInt8.toNat_inj.mp
    have h2 : ((s[p]'h).toNat : Int) = 46 := (bt_at s p h).trans hb
    show (s[p]'h).toNat = 46
    omega
  have hl : (s.extract p s.size).data.toList = 46 :: (s.extract (p + 1) s.size).data.toList := by
    have e1 : (s.extract p s.size).data.toList = s.data.toList.drop p := by
      rw [ByteArray.data_extract, Array.toList_extract, List.extract_eq_take_drop]
      exact List.take_of_length_le (by simp)
    have e2 : (s.extract (p + 1) s.size).data.toList = s.data.toList.drop (p + 1) := by
      rw [ByteArray.data_extract, Array.toList_extract, List.extract_eq_take_drop]
      exact List.take_of_length_le (by simp)
    rw [e1, e2, List.drop_eq_getElem_cons (by simpa using h)]
    congr 1
  unfold idx
  rw [hl]
  rfl
/-- Where the loop over a constant's levels stands. -/
structure AtLv (text : ByteArray) (r : Nat) (w : World) (p0 m : Nat) (v : Value) (w' : World) (acc : List ByteArray) (p k : Nat) : Prop where
  row : Kd.R Kd.string 9 w' w.heap.size (fun b => b ≠ r) v acc
  rd : RdAt w' r text (p : Int)
  le : p ≤ text.size
  ch : Ch r w w'
  rest : lvs text (text.size + 1) p0 = (lvs text k p).map fun q => (acc ++ q.1, q.2)
  fuel : text.size - p < k
  len : acc.length ≤ p
  short : ∀ x ∈ acc, x.size ≤ 60
  meas : text.size - p ≤ m
theorem term_con (w0 w : World) (r : Nat) (text : ByteArray) (a : Nat) (hM : EnvM w0) (hB : Below w0.heap.size w0 w) (hr0 : w0.heap.size ≤ r) (hr : RdAt w r text (a : Int)) (hs : text.size ≤ 2000) (hlt : a < text.size) (hk : bt text (a : Int) = 99) :
    Calls Tryd.prog 68 #[.pointer (some ⟨r, 0, none⟩)] w (Got text r w (rdC text (a + 1))) := by
  have h0 := hr.c0
  have h1 := hr.c1
  have f1 := hr.f 1
  have hb : ((text[a]'hlt).toNat : Int) = 99 := by rw [← hk]; exact bt_at text a hlt
  have he : ((a : Int) == (text.size : Int)) = false := beq_eq_false_iff_ne.mpr (by omega)
  have hr1 : ∀ q, RdAt ((w.drewN q).setCell ⟨r, 1, none⟩ (.int .i64 ((a : Int) + 1))) r text ((a + 1 : Nat) : Int) := fun q => (hr.drewN q).set _
  have hch1 : ∀ q w', Ch r ((w.drewN q).setCell ⟨r, 1, none⟩ (.int .i64 ((a : Int) + 1))) w' → Ch r w w' := fun q w' h => (Ch.drewN r w q).trans ((Ch.set r _ 1 _).trans h)
  rcases idx_cases text 59 (a + 1) with hx | ⟨n, hx⟩
  · have hU := fun w h => until_miss r text (a + 1) 59 w h (by omega) hs hx
    have hres : rdC text (a + 1) = none := by unfold rdC; rw [hx]; rfl
    rw [hres]
    clear hres hx hk hr
    go_enter Tryd.func68, Tryd.ntmps68
    go_wp2
    go_quiet (fail)
    go_wp2
    go_quiet (fail)
    go_wp2_with (first | (go_at_call 83; refine (hU _ (hr1 _)).mono ?_; rintro e w2 ⟨rfl, hc2⟩) | (fail))
    exact ⟨rfl, rfl, hch1 _ _ hc2⟩
  · have hU := fun w h => until_hit r text (a + 1) 59 n w h (by omega) hs hx
    have hl := idx_lt text 59 (a + 1) (by omega)
    rw [hx] at hl
    obtain ⟨bn, hfn, _⟩ := nameOk_some (text.extract (a + 1) (a + 1 + n)) (by rw [ByteArray.size_extract]; omega)
    have hrd : rdC text (a + 1) = (lvs text (text.size + 1) (a + 1 + n + 1)).bind fun q => if bn = true ∧ q.1.length ≤ 3 then some (.con (text.extract (a + 1) (a + 1 + n)) q.1, q.2 + 1) else none := by
      unfold rdC
      rw [hx, if_pos (by omega), Int.toNat_natCast, hfn]
      rfl
    have hNM : ∀ w2, Ch r w w2 → Calls Tryd.prog 87 #[.string (text.extract (a + 1) (a + 1 + n))] w2 fun e w' => e = .returned (.bool bn) ∧ Below w2.heap.size w2 w' := fun w2 hc =>
      impl_NameOk.calls _ bn w2 (hM.below (Ch.env hB hc hr0 (Nat.le_refl _))) hfn
    have hxn : (text.extract (a + 1) (a + 1 + n)).size ≤ 1000000 := by rw [ByteArray.size_extract]; omega
    generalize rdC text (a + 1) = R at hrd ⊢
    generalize text.extract (a + 1) (a + 1 + n) = x at hU hNM hrd hxn
    have hrd' := Aside0.mk hrd
    have hp0 : a + 1 + n + 1 ≤ text.size := Nat.succ_le_of_lt (by simpa using hl)
    have hrl := hr.lt
    clear hx hk hr hfn hrd hM hB hl
    generalize hp0e : a + 1 + n + 1 = p0 at hU hrd' hp0
    clear hp0e
    go_enter Tryd.func68, Tryd.ntmps68
    go_wp2
    go_quiet (fail)
    go_wp2
    go_quiet (fail)
    go_wp2_with (first | (go_at_call 83; refine (hU _ (hr1 _)).mono ?_; rintro e w2 ⟨rfl, hr2, hc2, hz2⟩; clear hz2))
    have hat : AtLv text r w p0 (text.size - p0) (.slice (some ⟨w2.heap.size, 0, none⟩) 0 0) (w2.alloc (.cells #[] 9)) [] p0 (text.size + 1) := by
      have hc3 := hch1 _ _ hc2
      have hbl : Below w2.heap.size w2 (w2.alloc (.cells #[] 9)) := below_alloc (Below.refl _ _) _
      exact ⟨R_empty w2 _ _ hc3.size (Nat.ne_of_gt hr2.lt), Ch.rdAt hbl hr2, hp0, hc3.trans (.of_below hbl), by simp, by omega, by simp, by simp, Nat.le_refl _⟩
    clear hr2 hc2 hU h0 h1 f1 hb he hr1 hch1
    go_loopg [7] (text.size - p0) (fun m v7 w' => ∃ acc p k, AtLv text r w p0 m v7 w' acc p k)
    case atStart => exact ⟨_, _, _, hat⟩
    case round =>
      obtain ⟨acc, p, k, hL⟩ := hrel
      clear hat
      have h0 := hL.rd.c0
      have h1 := hL.rd.c1
      have f1 := hL.rd.f 1
      have hle := hL.le
      obtain ⟨k, rfl⟩ : ∃ m, k = m + 1 := ⟨k - 1, by have := hL.fuel; omega⟩
      have hrest := hL.rest
      rw [show lvs text (k + 1) p = if p < text.size then (if bt text (p : Int) = 46 then some ([], p) else (lvAt text 44 p).bind fun e => (lvs text k (e + 1)).map fun r => (text.extract p e :: r.1, r.2)) else none from rfl] at hrest
      rcases Nat.lt_or_ge p text.size with hp | hp
      · rw [if_pos hp] at hrest
        by_cases hb : bt text (p : Int) = 46
        · have hbx : (((text[p]'hp).toNat : Int) != 46) = false := bne_eq_false_iff_eq.mpr ((bt_at text p hp).trans hb)
          rw [if_pos hb] at hrest
          have hR : R = if bn = true ∧ acc.length ≤ 3 then some (.con x acc, p + 1) else none := by rw [hrd'.out, hrest]; simp
          have hU := fun q => until_hit r text p 46 0 (wr.drewN q) (hL.rd.drewN q) hle hs (idx_here text p hp hb)
          obtain ⟨A, c, rfl, hcl, hrow⟩ := R_rowS hL.row
          have hch := hL.ch
          have hshort := hL.short
          have hacc := hL.len
          have hfin : ∀ q w3 w4, RowS wr (fun b => b ≠ r) A acc → Ch r (wr.drewN q) w3 → Below w3.heap.size w3 w4 → RowS w4 (fun b => b ≠ r) A acc := fun q w3 w4 h hc hb => h.move fun b hb1 hlt => ⟨by
            rw [hb.block b (Nat.lt_of_lt_of_le hlt hc.size), hc.block b hb1 hlt]; rfl, hb1⟩
          clear hrest hrd' hb hL hle hp0
          cases bn
          · rw [if_neg (fun h => by cases h.1)] at hR
            subst hR
            go_wp2
            go_quiet (fail)
            go_wp2_with (first | (go_at_call 83; refine (hU _).mono ?_; rintro e w3 ⟨rfl, hr3, hc3, hz3⟩; clear hz3) | (go_at_call 87; refine (hNM _ (hch.trans ((Ch.drewN r _ _).trans hc3))).mono ?_; rintro e w4 ⟨rfl, hb4⟩))
            exact ⟨rfl, rfl, hch.trans ((Ch.drewN r _ _).trans (hc3.trans (.of_below hb4)))⟩
          · by_cases c3 : acc.length ≤ 3
            · rw [if_pos ⟨rfl, c3⟩] at hR
              subst hR
              have c3i : (acc.length : Int) ≤ 3 := by omega
              clear c3
              go_wp2
              go_quiet (fail)
              go_wp2_with (first | (go_at_call 83; refine (hU _).mono ?_; rintro e w3 ⟨rfl, hr3, hc3, hz3⟩; clear hz3) | (go_at_call 87; refine (hNM _ (hch.trans ((Ch.drewN r _ _).trans hc3))).mono ?_; rintro e w4 ⟨rfl, hb4⟩; have hr4 := Ch.rdAt hb4 hr3) | (go_at_call 88; refine (impl_constant.calls x acc A c w4 (fun b => b ≠ r) (hfin _ _ _ hrow hc3 hb4) (Nat.ne_of_gt hr4.lt) hcl (by omega) hxn (fun y hy => by have := hshort y hy; omega)).mono ?_; rintro e w5 ⟨g, rfl, hg, hrep, hb5⟩))
              go_ret
              exact ⟨⟨g, rfl, hrep⟩, Ch.rdAt hb5 hr4, hch.trans ((Ch.drewN r _ _).trans (hc3.trans ((Ch.of_below hb4).trans (.of_below hb5))))⟩
            · rw [if_neg (fun h => c3 h.2)] at hR
              subst hR
              have c3i : 3 < (acc.length : Int) := by omega
              clear c3
              go_wp2
              go_quiet (fail)
              go_wp2_with (first | (go_at_call 83; refine (hU _).mono ?_; rintro e w3 ⟨rfl, hr3, hc3, hz3⟩; clear hz3) | (go_at_call 87; refine (hNM _ (hch.trans ((Ch.drewN r _ _).trans hc3))).mono ?_; rintro e w4 ⟨rfl, hb4⟩))
              exact ⟨rfl, rfl, hch.trans ((Ch.drewN r _ _).trans (hc3.trans (.of_below hb4)))⟩
        · have hbx : (((text[p]'hp).toNat : Int) != 46) = true := bne_iff_ne.mpr (fun h => hb ((bt_at text p hp).symm.trans h))
          rw [if_neg hb] at hrest
          cases hlv : lvAt text 44 p with
          | none =>
            rw [hlv] at hrest
            have hR : R = none := by rw [hrd'.out, hrest]; rfl
            have hU := fun q => level_miss r text p 44 (wr.drewN q) (hL.rd.drewN q) hle hs hlv
            have hch := hL.ch
            clear hrest hrd' hb hL hle hp0 hlv
            subst hR
            go_wp2
            go_quiet (fail)
            go_wp2_with (first | (go_at_call 86; refine (hU _).mono ?_; rintro e w3 ⟨rfl, hc3⟩))
            exact ⟨rfl, rfl, hch.trans ((Ch.drewN r _ _).trans hc3)⟩
          | some e =>
            rw [hlv] at hrest
            have hU := fun q => level_hit r text p 44 e (wr.drewN q) (hL.rd.drewN q) hle hs hlv
            have hge := lvAt_ge hlv hle
            have hL' := Aside0.mk hL
            have hrest' := Aside0.mk hrest
            have hx2 : (text.extract p e).size ≤ 60 := by rw [ByteArray.size_extract]; omega
            have hacc := hL.len
            clear hrest hb hL hle hlv
            generalize hgx : text.extract p e = x2 at hU hx2
            have hgx' := Aside0.mk hgx
            clear hgx
            go_wp2
            go_quiet (fail)
            go_wp2_with (first | (go_at_call 86; refine (hU _).mono ?_; rintro ex w3 ⟨rfl, hr3, hc3, hz3⟩; clear hz3; have hrow3 := Aside0.mk (Kd.R_step (Kd.R_drewN hL'.out.row _) (fun b hb1 hlt => hc3.block b hb1 hlt))) | ((with_reducible refine gate_builtin (b := .append) (xs := _) rfl ?_); at_builtin; refine Kd.R_append Kd.string (w0 := w3) w.heap.size rfl _ _ 25 9 (.string ⟨#[]⟩) 16 rfl Tryd.underlying25 info9 rfl (by decide) (by omega) u7 acc x2 [.string x2] (fun b => b ≠ r) (fun _ => False) rfl rfl ?aP (fun _ hk => hk.elim) ?aF hrow3.out (Below.refl _ _) ?aS ?aL ?_; (case aP => exact rfl); (case aF => intro k2 hk2; have := hr3.lt; omega); (case aS => exact Nat.le_trans hL'.out.ch.size hc3.size); (case aL => omega); intro v1 w4 hR4 hb4 hg4 hat4; clear hb4 hat4))
            have hrd4 : RdAt w4 r text ((e + 1 : Nat) : Int) := (hg4.block r hr3.lt (fun e => by have := Kd.R_base hL'.out.row _ e.symm; omega)).trans hr3
            have hch4 : Ch r w w4 := Ch.grown (hL'.out.ch.trans ((Ch.drewN r _ _).trans hc3)) hg4 (fun k hk => Kd.R_base hL'.out.row k hk)
            have hF := hL'.out
            go_roundg (text.size - (e + 1))
            case measure => have := hF.meas; omega
            case rel =>
              refine ⟨acc ++ [x2], e + 1, k, hR4, hrd4, by omega, hch4, ?_, by have := hF.fuel; omega, by simp; omega, ?_, Nat.le_refl _⟩
              · rw [hrest'.out, ← hgx'.out]
                simp only [Option.bind_some, Option.map_map, Function.comp_def, List.append_assoc, List.singleton_append]
              · intro y hy
                rcases List.mem_append.mp hy with hy | hy
                · exact hF.short y hy
                · rw [List.mem_singleton.mp hy]; exact hx2
      · rw [if_neg (by omega)] at hrest
        have hR : R = none := by rw [hrd'.out, hrest]; rfl
        have hU := fun q => until_miss r text p 46 (wr.drewN q) (hL.rd.drewN q) hle hs (idx_end text 46 p hp)
        have hch := hL.ch
        have hpe : p = text.size := Nat.le_antisymm hle hp
        clear hrest hrd' hL hle hp0 hp
        subst hpe
        subst hR
        go_wp2
        go_quiet (fail)
        go_wp2_with (first | (go_at_call 83; refine (hU _).mono ?_; rintro e w3 ⟨rfl, hc3⟩))
        exact ⟨rfl, rfl, hch.trans ((Ch.drewN r _ _).trans hc3)⟩
end Go.Proofs.YtefiapcfdabfpaaDoor.P

namespace Go.Proofs.YtefiapcfdabfpaaDoor.P
open Go.RowKit Go.Proofs.YtefiapcfdabfpaaDoorW.PrintWords Go.Proofs.YtefiapcfdabfpaaDoorW.PrintLast Go.Proofs.YtefiapcfdabfpaaDoorW.PrintMore
set_option maxRecDepth 100000
set_option maxHeartbeats 8000000
theorem box_rowP (w : World) (ok : Nat → Prop) (gs : List Nat) (T : Nat) (hok : ok w.heap.size) : RowP (w.alloc (.cells (gs.map fun g => Value.pointer (some ⟨g, 0, none⟩)).toArray T)) ok (some ⟨w.heap.size, 0, none⟩) gs := fun j g hj => by
  refine ⟨w.heap.size, 0, rfl, hok, ?_⟩
  unfold World.cell?
  rw [alloc_here]
  simp [hj]
theorem made_parts (k : Int) (ts : List Tm) (gs : List Nat) (r : Nat) (text : ByteArray) (a : Int) (w : World) (T : Nat) (hgs : gs.length = ts.length) (hn : ts.length ≤ 1000) (hr : RdAt w r text a)
    (hrep : ∀ (j : Nat) g t, gs[j]? = some g → ts[j]? = some t → Rep w (fun b => b ≠ r) g t) (hl : ∀ x ∈ ts, 0 ≤ x.long ∧ x.long ≤ 1000000000) :
    Calls Tryd.prog 80 #[.int .u8 k, .slice (some ⟨w.heap.size, 0, none⟩) ts.length ts.length] (w.alloc (.cells (gs.map fun g => Value.pointer (some ⟨g, 0, none⟩)).toArray T)) fun e w4 =>
      (∃ g, e = .returned (.pointer (some ⟨g, 0, none⟩)) ∧ Rep w4 (fun b => b ≠ r) g (tCmp k ts)) ∧ RdAt w4 r text a ∧ Ch r w w4 := by
  have hlt := hr.lt
  have hbl : Below w.heap.size w (w.alloc (.cells (gs.map fun g => Value.pointer (some ⟨g, 0, none⟩)).toArray T)) := below_alloc (Below.refl _ _) _
  refine (impl_compound.calls k ts gs (some ⟨w.heap.size, 0, none⟩) ts.length _ (fun b => b ≠ r) hgs (box_rowP w _ gs T (by omega)) (by rw [alloc_size]; omega) (Nat.le_refl _) hn (fun j g t h1 h2 => (hrep j g t h1 h2).stay hbl) hl).mono ?_
  rintro e w4 ⟨g, rfl, hg, hrep4, hb4⟩
  exact ⟨⟨g, rfl, hrep4⟩, Ch.rdAt hb4 (Ch.rdAt hbl hr), (Ch.of_below hbl).trans (.of_below hb4)⟩
theorem rep2 {w : World} {ok : Nat → Prop} {g1 g2 : Nat} {t1 t2 : Tm} (h1 : Rep w ok g1 t1) (h2 : Rep w ok g2 t2) : ∀ (j : Nat) g t, [g1, g2][j]? = some g → [t1, t2][j]? = some t → Rep w ok g t := fun j g t hg ht => by
  match j, hg, ht with
  | 0, hg, ht => obtain rfl := Option.some.inj hg; obtain rfl := Option.some.inj ht; exact h1
  | 1, hg, ht => obtain rfl := Option.some.inj hg; obtain rfl := Option.some.inj ht; exact h2
  | j + 2, hg, ht => simp at hg
theorem rep3 {w : World} {ok : Nat → Prop} {g1 g2 g3 : Nat} {t1 t2 t3 : Tm} (h1 : Rep w ok g1 t1) (h2 : Rep w ok g2 t2) (h3 : Rep w ok g3 t3) : ∀ (j : Nat) g t, [g1, g2, g3][j]? = some g → [t1, t2, t3][j]? = some t → Rep w ok g t := fun j g t hg ht => by
  match j, hg, ht with
  | 0, hg, ht => obtain rfl := Option.some.inj hg; obtain rfl := Option.some.inj ht; exact h1
  | 1, hg, ht => obtain rfl := Option.some.inj hg; obtain rfl := Option.some.inj ht; exact h2
  | 2, hg, ht => obtain rfl := Option.some.inj hg; obtain rfl := Option.some.inj ht; exact h3
  | j + 3, hg, ht => simp at hg
theorem long_ok {text : ByteArray} {n a : Nat} {t : Te} {e : Nat} (hs : text.size ≤ 2000) (h : rd text n a = some (t, e)) (ha : a ≤ text.size) : 0 ≤ t.tm.long ∧ t.tm.long ≤ 1000000000 := by
  have := rdT_ok text hs n a t e h ha
  omega
theorem long2 {t1 t2 : Tm} (h1 : 0 ≤ t1.long ∧ t1.long ≤ 1000000000) (h2 : 0 ≤ t2.long ∧ t2.long ≤ 1000000000) : ∀ x ∈ [t1, t2], 0 ≤ x.long ∧ x.long ≤ 1000000000 := fun x hx => by
  simp only [List.mem_cons, List.mem_nil_iff, or_false] at hx
  rcases hx with rfl | rfl
  · exact h1
  · exact h2
theorem long3 {t1 t2 t3 : Tm} (h1 : 0 ≤ t1.long ∧ t1.long ≤ 1000000000) (h2 : 0 ≤ t2.long ∧ t2.long ≤ 1000000000) (h3 : 0 ≤ t3.long ∧ t3.long ≤ 1000000000) : ∀ x ∈ [t1, t2, t3], 0 ≤ x.long ∧ x.long ≤ 1000000000 := fun x hx => by
  simp only [List.mem_cons, List.mem_nil_iff, or_false] at hx
  rcases hx with rfl | rfl | rfl
  · exact h1
  · exact h2
  · exact h3
theorem term_two64 (w0 w : World) (r : Nat) (text : ByteArray) (a n : Nat) (hB : Below w0.heap.size w0 w) (hr0 : w0.heap.size ≤ r) (hr : RdAt w r text (a : Int)) (hs : text.size ≤ 2000) (hlt : a < text.size) (hn : text.size - a < n + 1)
    (ih : ∀ (a' : Nat) (w : World), Below w0.heap.size w0 w → RdAt w r text (a' : Int) → a' ≤ text.size → text.size - a' < n → Calls Tryd.prog 68 #[.pointer (some ⟨r, 0, none⟩)] w (Got text r w (rd text n a'))) (hk : bt text (a : Int) = 64) :
    Calls Tryd.prog 68 #[.pointer (some ⟨r, 0, none⟩)] w (Got text r w ((rd text n (a + 1)).bind fun r1 => (rd text n r1.2).map fun r2 => (Te.two 64 r1.1 r2.1, r2.2))) := by
  have h0 := hr.c0
  have h1 := hr.c1
  have f1 := hr.f 1
  have hb : ((text[a]'hlt).toNat : Int) = 64 := by rw [← hk]; exact bt_at text a hlt
  have he : ((a : Int) == (text.size : Int)) = false := beq_eq_false_iff_ne.mpr (by omega)
  have hr1 : ∀ q, RdAt ((w.drewN q).setCell ⟨r, 1, none⟩ (.int .i64 ((a : Int) + 1))) r text ((a + 1 : Nat) : Int) := fun q => (hr.drewN q).set _
  have hch1 : ∀ q w', Ch r ((w.drewN q).setCell ⟨r, 1, none⟩ (.int .i64 ((a : Int) + 1))) w' → Ch r w w' := fun q w' h => (Ch.drewN r w q).trans ((Ch.set r _ 1 _).trans h)
  have hT1 := fun q => ih (a + 1) ((w.drewN q).setCell ⟨r, 1, none⟩ (.int .i64 ((a : Int) + 1))) (Ch.env hB (hch1 q _ (Ch.refl _ _)) hr0 (Nat.le_refl _)) (hr1 q) (by omega) (by omega)
  cases hx1 : rd text n (a + 1) with
  | none =>
    rw [hx1] at hT1
    clear hx1 hk hr ih
    show Calls _ _ _ _ (Got text r w none)
    unfold Got at hT1
    go_enter Tryd.func68, Tryd.ntmps68
    go_wp2
    go_quiet (fail)
    go_wp2
    go_quiet (fail)
    go_wp2_with (first | (go_at_call 68; refine (hT1 _).mono ?_; rintro e w2 ⟨rfl, hc2⟩))
    exact ⟨rfl, rfl, hch1 _ _ hc2⟩
  | some r1 =>
    obtain ⟨t1, e1⟩ := r1
    rw [hx1] at hT1
    have g1 := rdT_ok text hs n (a + 1) t1 e1 hx1 (by omega)
    have l1 := long_ok hs hx1 (by omega)
    have hT2 := fun (w2 : World) (hc : Ch r w w2) hr2 => ih e1 w2 (Ch.env hB hc hr0 (Nat.le_refl _)) hr2 (by omega) (by omega)
    simp only [Option.bind_some]
    cases hx2 : rd text n e1 with
    | none =>
      rw [hx2] at hT2
      clear hx1 hx2 hk hr ih g1 l1
      show Calls _ _ _ _ (Got text r w none)
      unfold Got at hT1 hT2
      go_enter Tryd.func68, Tryd.ntmps68
      go_wp2
      go_quiet (fail)
      go_wp2
      go_quiet (fail)
      go_wp2_with (first | (go_at_call 68; refine (hT1 _).mono ?_; rintro e w2 ⟨⟨g1, rfl, hp1⟩, hr2, hc2⟩; replace hc2 := hch1 _ _ hc2; have hT3 := hT2 _ hc2 hr2; clear hT1 hT2) | (go_at_call 68; refine (hT3).mono ?_; rintro e w3 ⟨rfl, hc3⟩))
      exact ⟨rfl, rfl, hc2.trans hc3⟩
    | some r2 =>
      obtain ⟨t2, e2⟩ := r2
      rw [hx2] at hT2
      have g2 := rdT_ok text hs n e1 t2 e2 hx2 (by omega)
      have l2 := long_ok hs hx2 (by omega)
      clear hx1 hx2 hk hr ih g1 g2
      show Calls _ _ _ _ (Got text r w (some (Te.two 64 t1 t2, e2)))
      unfold Got at hT1 hT2
      go_enter Tryd.func68, Tryd.ntmps68
      go_wp2
      go_quiet (fail)
      go_wp2
      go_quiet (fail)
      go_wp2_with (first | (go_at_call 68; refine (hT1 _).mono ?_; rintro e w2 ⟨⟨g1, rfl, hp1⟩, hr2, hc2⟩; replace hc2 := hch1 _ _ hc2; have hT3 := hT2 _ hc2 hr2; clear hT1 hT2) | (go_at_call 68; refine (hT3).mono ?_; rintro e w3 ⟨⟨g2, rfl, hp2⟩, hr3, hc3⟩; clear hT3; have hC := made_parts 64 [t1.tm, t2.tm] [g1, g2] r text e2 w3 38 rfl (by simp) hr3 (rep2 (hc3.rep hp1) hp2) (long2 l1 l2)) | (go_at_call 80; refine (Calls.mono hC ?_); rintro e w4 ⟨⟨g, rfl, hrep⟩, hr4, hc4⟩))
      go_ret
      exact ⟨⟨g, rfl, hrep⟩, hr4, hc2.trans (hc3.trans hc4)⟩
theorem term_two108 (w0 w : World) (r : Nat) (text : ByteArray) (a n : Nat) (hB : Below w0.heap.size w0 w) (hr0 : w0.heap.size ≤ r) (hr : RdAt w r text (a : Int)) (hs : text.size ≤ 2000) (hlt : a < text.size) (hn : text.size - a < n + 1)
    (ih : ∀ (a' : Nat) (w : World), Below w0.heap.size w0 w → RdAt w r text (a' : Int) → a' ≤ text.size → text.size - a' < n → Calls Tryd.prog 68 #[.pointer (some ⟨r, 0, none⟩)] w (Got text r w (rd text n a'))) (hk : bt text (a : Int) = 108) :
    Calls Tryd.prog 68 #[.pointer (some ⟨r, 0, none⟩)] w (Got text r w ((rd text n (a + 1)).bind fun r1 => (rd text n r1.2).map fun r2 => (Te.two 108 r1.1 r2.1, r2.2))) := by
  have h0 := hr.c0
  have h1 := hr.c1
  have f1 := hr.f 1
  have hb : ((text[a]'hlt).toNat : Int) = 108 := by rw [← hk]; exact bt_at text a hlt
  have he : ((a : Int) == (text.size : Int)) = false := beq_eq_false_iff_ne.mpr (by omega)
  have hr1 : ∀ q, RdAt ((w.drewN q).setCell ⟨r, 1, none⟩ (.int .i64 ((a : Int) + 1))) r text ((a + 1 : Nat) : Int) := fun q => (hr.drewN q).set _
  have hch1 : ∀ q w', Ch r ((w.drewN q).setCell ⟨r, 1, none⟩ (.int .i64 ((a : Int) + 1))) w' → Ch r w w' := fun q w' h => (Ch.drewN r w q).trans ((Ch.set r _ 1 _).trans h)
  have hT1 := fun q => ih (a + 1) ((w.drewN q).setCell ⟨r, 1, none⟩ (.int .i64 ((a : Int) + 1))) (Ch.env hB (hch1 q _ (Ch.refl _ _)) hr0 (Nat.le_refl _)) (hr1 q) (by omega) (by omega)
  cases hx1 : rd text n (a + 1) with
  | none =>
    rw [hx1] at hT1
    clear hx1 hk hr ih
    show Calls _ _ _ _ (Got text r w none)
    unfold Got at hT1
    go_enter Tryd.func68, Tryd.ntmps68
    go_wp2
    go_quiet (fail)
    go_wp2
    go_quiet (fail)
    go_wp2_with (first | (go_at_call 68; refine (hT1 _).mono ?_; rintro e w2 ⟨rfl, hc2⟩))
    exact ⟨rfl, rfl, hch1 _ _ hc2⟩
  | some r1 =>
    obtain ⟨t1, e1⟩ := r1
    rw [hx1] at hT1
    have g1 := rdT_ok text hs n (a + 1) t1 e1 hx1 (by omega)
    have l1 := long_ok hs hx1 (by omega)
    have hT2 := fun (w2 : World) (hc : Ch r w w2) hr2 => ih e1 w2 (Ch.env hB hc hr0 (Nat.le_refl _)) hr2 (by omega) (by omega)
    simp only [Option.bind_some]
    cases hx2 : rd text n e1 with
    | none =>
      rw [hx2] at hT2
      clear hx1 hx2 hk hr ih g1 l1
      show Calls _ _ _ _ (Got text r w none)
      unfold Got at hT1 hT2
      go_enter Tryd.func68, Tryd.ntmps68
      go_wp2
      go_quiet (fail)
      go_wp2
      go_quiet (fail)
      go_wp2_with (first | (go_at_call 68; refine (hT1 _).mono ?_; rintro e w2 ⟨⟨g1, rfl, hp1⟩, hr2, hc2⟩; replace hc2 := hch1 _ _ hc2; have hT3 := hT2 _ hc2 hr2; clear hT1 hT2) | (go_at_call 68; refine (hT3).mono ?_; rintro e w3 ⟨rfl, hc3⟩))
      exact ⟨rfl, rfl, hc2.trans hc3⟩
    | some r2 =>
      obtain ⟨t2, e2⟩ := r2
      rw [hx2] at hT2
      have g2 := rdT_ok text hs n e1 t2 e2 hx2 (by omega)
      have l2 := long_ok hs hx2 (by omega)
      clear hx1 hx2 hk hr ih g1 g2
      show Calls _ _ _ _ (Got text r w (some (Te.two 108 t1 t2, e2)))
      unfold Got at hT1 hT2
      go_enter Tryd.func68, Tryd.ntmps68
      go_wp2
      go_quiet (fail)
      go_wp2
      go_quiet (fail)
      go_wp2_with (first | (go_at_call 68; refine (hT1 _).mono ?_; rintro e w2 ⟨⟨g1, rfl, hp1⟩, hr2, hc2⟩; replace hc2 := hch1 _ _ hc2; have hT3 := hT2 _ hc2 hr2; clear hT1 hT2) | (go_at_call 68; refine (hT3).mono ?_; rintro e w3 ⟨⟨g2, rfl, hp2⟩, hr3, hc3⟩; clear hT3; have hC := made_parts 108 [t1.tm, t2.tm] [g1, g2] r text e2 w3 38 rfl (by simp) hr3 (rep2 (hc3.rep hp1) hp2) (long2 l1 l2)) | (go_at_call 80; refine (Calls.mono hC ?_); rintro e w4 ⟨⟨g, rfl, hrep⟩, hr4, hc4⟩))
      go_ret
      exact ⟨⟨g, rfl, hrep⟩, hr4, hc2.trans (hc3.trans hc4)⟩
theorem term_two112 (w0 w : World) (r : Nat) (text : ByteArray) (a n : Nat) (hB : Below w0.heap.size w0 w) (hr0 : w0.heap.size ≤ r) (hr : RdAt w r text (a : Int)) (hs : text.size ≤ 2000) (hlt : a < text.size) (hn : text.size - a < n + 1)
    (ih : ∀ (a' : Nat) (w : World), Below w0.heap.size w0 w → RdAt w r text (a' : Int) → a' ≤ text.size → text.size - a' < n → Calls Tryd.prog 68 #[.pointer (some ⟨r, 0, none⟩)] w (Got text r w (rd text n a'))) (hk : bt text (a : Int) = 112) :
    Calls Tryd.prog 68 #[.pointer (some ⟨r, 0, none⟩)] w (Got text r w ((rd text n (a + 1)).bind fun r1 => (rd text n r1.2).map fun r2 => (Te.two 112 r1.1 r2.1, r2.2))) := by
  have h0 := hr.c0
  have h1 := hr.c1
  have f1 := hr.f 1
  have hb : ((text[a]'hlt).toNat : Int) = 112 := by rw [← hk]; exact bt_at text a hlt
  have he : ((a : Int) == (text.size : Int)) = false := beq_eq_false_iff_ne.mpr (by omega)
  have hr1 : ∀ q, RdAt ((w.drewN q).setCell ⟨r, 1, none⟩ (.int .i64 ((a : Int) + 1))) r text ((a + 1 : Nat) : Int) := fun q => (hr.drewN q).set _
  have hch1 : ∀ q w', Ch r ((w.drewN q).setCell ⟨r, 1, none⟩ (.int .i64 ((a : Int) + 1))) w' → Ch r w w' := fun q w' h => (Ch.drewN r w q).trans ((Ch.set r _ 1 _).trans h)
  have hT1 := fun q => ih (a + 1) ((w.drewN q).setCell ⟨r, 1, none⟩ (.int .i64 ((a : Int) + 1))) (Ch.env hB (hch1 q _ (Ch.refl _ _)) hr0 (Nat.le_refl _)) (hr1 q) (by omega) (by omega)
  cases hx1 : rd text n (a + 1) with
  | none =>
    rw [hx1] at hT1
    clear hx1 hk hr ih
    show Calls _ _ _ _ (Got text r w none)
    unfold Got at hT1
    go_enter Tryd.func68, Tryd.ntmps68
    go_wp2
    go_quiet (fail)
    go_wp2
    go_quiet (fail)
    go_wp2_with (first | (go_at_call 68; refine (hT1 _).mono ?_; rintro e w2 ⟨rfl, hc2⟩))
    exact ⟨rfl, rfl, hch1 _ _ hc2⟩
  | some r1 =>
    obtain ⟨t1, e1⟩ := r1
    rw [hx1] at hT1
    have g1 := rdT_ok text hs n (a + 1) t1 e1 hx1 (by omega)
    have l1 := long_ok hs hx1 (by omega)
    have hT2 := fun (w2 : World) (hc : Ch r w w2) hr2 => ih e1 w2 (Ch.env hB hc hr0 (Nat.le_refl _)) hr2 (by omega) (by omega)
    simp only [Option.bind_some]
    cases hx2 : rd text n e1 with
    | none =>
      rw [hx2] at hT2
      clear hx1 hx2 hk hr ih g1 l1
      show Calls _ _ _ _ (Got text r w none)
      unfold Got at hT1 hT2
      go_enter Tryd.func68, Tryd.ntmps68
      go_wp2
      go_quiet (fail)
      go_wp2
      go_quiet (fail)
      go_wp2_with (first | (go_at_call 68; refine (hT1 _).mono ?_; rintro e w2 ⟨⟨g1, rfl, hp1⟩, hr2, hc2⟩; replace hc2 := hch1 _ _ hc2; have hT3 := hT2 _ hc2 hr2; clear hT1 hT2) | (go_at_call 68; refine (hT3).mono ?_; rintro e w3 ⟨rfl, hc3⟩))
      exact ⟨rfl, rfl, hc2.trans hc3⟩
    | some r2 =>
      obtain ⟨t2, e2⟩ := r2
      rw [hx2] at hT2
      have g2 := rdT_ok text hs n e1 t2 e2 hx2 (by omega)
      have l2 := long_ok hs hx2 (by omega)
      clear hx1 hx2 hk hr ih g1 g2
      show Calls _ _ _ _ (Got text r w (some (Te.two 112 t1 t2, e2)))
      unfold Got at hT1 hT2
      go_enter Tryd.func68, Tryd.ntmps68
      go_wp2
      go_quiet (fail)
      go_wp2
      go_quiet (fail)
      go_wp2_with (first | (go_at_call 68; refine (hT1 _).mono ?_; rintro e w2 ⟨⟨g1, rfl, hp1⟩, hr2, hc2⟩; replace hc2 := hch1 _ _ hc2; have hT3 := hT2 _ hc2 hr2; clear hT1 hT2) | (go_at_call 68; refine (hT3).mono ?_; rintro e w3 ⟨⟨g2, rfl, hp2⟩, hr3, hc3⟩; clear hT3; have hC := made_parts 112 [t1.tm, t2.tm] [g1, g2] r text e2 w3 38 rfl (by simp) hr3 (rep2 (hc3.rep hp1) hp2) (long2 l1 l2)) | (go_at_call 80; refine (Calls.mono hC ?_); rintro e w4 ⟨⟨g, rfl, hrep⟩, hr4, hc4⟩))
      go_ret
      exact ⟨⟨g, rfl, hrep⟩, hr4, hc2.trans (hc3.trans hc4)⟩
theorem term_three (w0 w : World) (r : Nat) (text : ByteArray) (a n : Nat) (hB : Below w0.heap.size w0 w) (hr0 : w0.heap.size ≤ r) (hr : RdAt w r text (a : Int)) (hs : text.size ≤ 2000) (hlt : a < text.size) (hn : text.size - a < n + 1)
    (ih : ∀ (a' : Nat) (w : World), Below w0.heap.size w0 w → RdAt w r text (a' : Int) → a' ≤ text.size → text.size - a' < n → Calls Tryd.prog 68 #[.pointer (some ⟨r, 0, none⟩)] w (Got text r w (rd text n a'))) (hk : bt text (a : Int) = 116) :
    Calls Tryd.prog 68 #[.pointer (some ⟨r, 0, none⟩)] w (Got text r w ((rd text n (a + 1)).bind fun r1 => (rd text n r1.2).bind fun r2 => (rd text n r2.2).map fun r3 => (Te.three r1.1 r2.1 r3.1, r3.2))) := by
  have h0 := hr.c0
  have h1 := hr.c1
  have f1 := hr.f 1
  have hb : ((text[a]'hlt).toNat : Int) = 116 := by rw [← hk]; exact bt_at text a hlt
  have he : ((a : Int) == (text.size : Int)) = false := beq_eq_false_iff_ne.mpr (by omega)
  have hr1 : ∀ q, RdAt ((w.drewN q).setCell ⟨r, 1, none⟩ (.int .i64 ((a : Int) + 1))) r text ((a + 1 : Nat) : Int) := fun q => (hr.drewN q).set _
  have hch1 : ∀ q w', Ch r ((w.drewN q).setCell ⟨r, 1, none⟩ (.int .i64 ((a : Int) + 1))) w' → Ch r w w' := fun q w' h => (Ch.drewN r w q).trans ((Ch.set r _ 1 _).trans h)
  have hT1 := fun q => ih (a + 1) ((w.drewN q).setCell ⟨r, 1, none⟩ (.int .i64 ((a : Int) + 1))) (Ch.env hB (hch1 q _ (Ch.refl _ _)) hr0 (Nat.le_refl _)) (hr1 q) (by omega) (by omega)
  cases hx1 : rd text n (a + 1) with
  | none =>
    rw [hx1] at hT1
    clear hx1 hk hr ih
    show Calls _ _ _ _ (Got text r w none)
    unfold Got at hT1
    go_enter Tryd.func68, Tryd.ntmps68
    go_wp2
    go_quiet (fail)
    go_wp2
    go_quiet (fail)
    go_wp2_with (first | (go_at_call 68; refine (hT1 _).mono ?_; rintro e w2 ⟨rfl, hc2⟩))
    exact ⟨rfl, rfl, hch1 _ _ hc2⟩
  | some r1 =>
    obtain ⟨t1, e1⟩ := r1
    rw [hx1] at hT1
    have g1 := rdT_ok text hs n (a + 1) t1 e1 hx1 (by omega)
    have l1 := long_ok hs hx1 (by omega)
    have hT2 := fun (w2 : World) (hc : Ch r w w2) hr2 => ih e1 w2 (Ch.env hB hc hr0 (Nat.le_refl _)) hr2 (by omega) (by omega)
    simp only [Option.bind_some]
    cases hx2 : rd text n e1 with
    | none =>
      rw [hx2] at hT2
      clear hx1 hx2 hk hr ih g1 l1
      show Calls _ _ _ _ (Got text r w none)
      unfold Got at hT1 hT2
      go_enter Tryd.func68, Tryd.ntmps68
      go_wp2
      go_quiet (fail)
      go_wp2
      go_quiet (fail)
      go_wp2_with (first | (go_at_call 68; refine (hT1 _).mono ?_; rintro e w2 ⟨⟨g1, rfl, hp1⟩, hr2, hc2⟩; replace hc2 := hch1 _ _ hc2; have hU2 := hT2 _ hc2 hr2; clear hT1 hT2) | (go_at_call 68; refine (hU2).mono ?_; rintro e w3 ⟨rfl, hc3⟩))
      exact ⟨rfl, rfl, hc2.trans hc3⟩
    | some r2 =>
      obtain ⟨t2, e2⟩ := r2
      rw [hx2] at hT2
      have g2 := rdT_ok text hs n e1 t2 e2 hx2 (by omega)
      have l2 := long_ok hs hx2 (by omega)
      have hT3 := fun (w3 : World) (hc : Ch r w w3) hr3 => ih e2 w3 (Ch.env hB hc hr0 (Nat.le_refl _)) hr3 (by omega) (by omega)
      simp only [Option.bind_some]
      cases hx3 : rd text n e2 with
      | none =>
        rw [hx3] at hT3
        clear hx1 hx2 hx3 hk hr ih g1 l1 g2 l2
        show Calls _ _ _ _ (Got text r w none)
        unfold Got at hT1 hT2 hT3
        go_enter Tryd.func68, Tryd.ntmps68
        go_wp2
        go_quiet (fail)
        go_wp2
        go_quiet (fail)
        go_wp2_with (first | (go_at_call 68; refine (hT1 _).mono ?_; rintro e w2 ⟨⟨g1, rfl, hp1⟩, hr2, hc2⟩; replace hc2 := hch1 _ _ hc2; have hU2 := hT2 _ hc2 hr2; clear hT1 hT2) | (go_at_call 68; refine (hU2).mono ?_; rintro e w3 ⟨⟨g2, rfl, hp2⟩, hr3, hc3⟩; clear hU2; have hU3 := hT3 _ (hc2.trans hc3) hr3; clear hT3) | (go_at_call 68; refine (hU3).mono ?_; rintro e w4 ⟨rfl, hc4⟩))
        exact ⟨rfl, rfl, hc2.trans (hc3.trans hc4)⟩
      | some r3 =>
        obtain ⟨t3, e3⟩ := r3
        rw [hx3] at hT3
        have l3 := long_ok hs hx3 (by omega)
        clear hx1 hx2 hx3 hk hr ih g1 g2
        show Calls _ _ _ _ (Got text r w (some (Te.three t1 t2 t3, e3)))
        unfold Got at hT1 hT2 hT3
        go_enter Tryd.func68, Tryd.ntmps68
        go_wp2
        go_quiet (fail)
        go_wp2
        go_quiet (fail)
        go_wp2_with (first | (go_at_call 68; refine (hT1 _).mono ?_; rintro e w2 ⟨⟨g1, rfl, hp1⟩, hr2, hc2⟩; replace hc2 := hch1 _ _ hc2; have hU2 := hT2 _ hc2 hr2; clear hT1 hT2) | (go_at_call 68; refine (hU2).mono ?_; rintro e w3 ⟨⟨g2, rfl, hp2⟩, hr3, hc3⟩; clear hU2; have hU3 := hT3 _ (hc2.trans hc3) hr3; clear hT3) | (go_at_call 68; refine (hU3).mono ?_; rintro e w4 ⟨⟨g3, rfl, hp3⟩, hr4, hc4⟩; clear hU3; have hC := made_parts 116 [t1.tm, t2.tm, t3.tm] [g1, g2, g3] r text e3 w4 38 rfl (by simp) hr4 (rep3 (hc4.rep (hc3.rep hp1)) (hc4.rep hp2) hp3) (long3 l1 l2 l3)) | (go_at_call 80; refine (Calls.mono hC ?_); rintro e w5 ⟨⟨g, rfl, hrep⟩, hr5, hc5⟩))
        go_ret
        exact ⟨⟨g, rfl, hrep⟩, hr5, hc2.trans (hc3.trans (hc4.trans hc5))⟩
end Go.Proofs.YtefiapcfdabfpaaDoor.P

namespace Go.Proofs.YtefiapcfdabfpaaDoor.P
open Go.RowKit Go.Proofs.YtefiapcfdabfpaaDoorW.PrintWords Go.Proofs.YtefiapcfdabfpaaDoorW.PrintLast Go.Proofs.YtefiapcfdabfpaaDoorW.PrintMore
set_option maxRecDepth 100000
set_option maxHeartbeats 8000000
theorem term_end (w : World) (r : Nat) (text : ByteArray) (hr : RdAt w r text (text.size : Int)) :
    Calls Tryd.prog 68 #[.pointer (some ⟨r, 0, none⟩)] w (Got text r w none) := by
  have h0 := hr.c0
  have h1 := hr.c1
  have he : ((text.size : Int) == (text.size : Int)) = true := beq_iff_eq.mpr rfl
  have hfin : ∀ q, Ch r w (w.drewN q) := fun q => Ch.drewN r w q
  clear hr
  go_enter Tryd.func68, Tryd.ntmps68
  go_wp2
  go_quiet (fail)
  go_wp2
  exact ⟨rfl, rfl, hfin _⟩
theorem term_other (w : World) (r : Nat) (text : ByteArray) (a : Nat) (hr : RdAt w r text (a : Int)) (hs : text.size ≤ 2000) (hlt : a < text.size) (h1' : bt text (a : Int) ≠ 118) (h2' : bt text (a : Int) ≠ 115) (h3' : bt text (a : Int) ≠ 99) (h4' : bt text (a : Int) ≠ 64) (h5' : bt text (a : Int) ≠ 108) (h6' : bt text (a : Int) ≠ 112) (h7' : bt text (a : Int) ≠ 116) :
    Calls Tryd.prog 68 #[.pointer (some ⟨r, 0, none⟩)] w (Got text r w none) := by
  have h0 := hr.c0
  have h1 := hr.c1
  have f1 := hr.f 1
  have he : ((a : Int) == (text.size : Int)) = false := beq_eq_false_iff_ne.mpr (by omega)
  have hb : ((text[a]'hlt).toNat : Int) = bt text (a : Int) := bt_at text a hlt
  have e1 : (((text[a]'hlt).toNat : Int) == 118) = false := beq_eq_false_iff_ne.mpr (by rw [hb]; exact h1')
  have e2 : (((text[a]'hlt).toNat : Int) == 115) = false := beq_eq_false_iff_ne.mpr (by rw [hb]; exact h2')
  have e3 : (((text[a]'hlt).toNat : Int) == 99) = false := beq_eq_false_iff_ne.mpr (by rw [hb]; exact h3')
  have e4 : (((text[a]'hlt).toNat : Int) == 64) = false := beq_eq_false_iff_ne.mpr (by rw [hb]; exact h4')
  have e5 : (((text[a]'hlt).toNat : Int) == 108) = false := beq_eq_false_iff_ne.mpr (by rw [hb]; exact h5')
  have e6 : (((text[a]'hlt).toNat : Int) == 112) = false := beq_eq_false_iff_ne.mpr (by rw [hb]; exact h6')
  have e7 : (((text[a]'hlt).toNat : Int) == 116) = false := beq_eq_false_iff_ne.mpr (by rw [hb]; exact h7')
  have hfin : ∀ q, Ch r w ((w.drewN q).setCell ⟨r, 1, none⟩ (.int .i64 ((a : Int) + 1))) := fun q => (Ch.drewN r w q).trans (Ch.set r _ 1 _)
  clear hr hb h1' h2' h3' h4' h5' h6' h7'
  go_enter Tryd.func68, Tryd.ntmps68
  go_wp2
  go_quiet (fail)
  go_wp2
  go_quiet (fail)
  go_wp2
  exact ⟨rfl, rfl, hfin _⟩
theorem term_all (w0 : World) (r : Nat) (text : ByteArray) (hA : EnvA w0) (hI : EnvI w0) (hM : EnvM w0) (hr0 : w0.heap.size ≤ r) (hs : text.size ≤ 2000) :
    ∀ (n a : Nat) (w : World), Below w0.heap.size w0 w → RdAt w r text (a : Int) → a ≤ text.size → text.size - a < n → Calls Tryd.prog 68 #[.pointer (some ⟨r, 0, none⟩)] w (Got text r w (rd text n a)) := by
  intro n
  induction n with
  | zero => intro a w hB hr ha hn; omega
  | succ n ih =>
    intro a w hB hr ha hn
    have ih' : ∀ (a' : Nat) (w : World), Below w0.heap.size w0 w → RdAt w r text (a' : Int) → a' ≤ text.size → text.size - a' < n → Calls Tryd.prog 68 #[.pointer (some ⟨r, 0, none⟩)] w (Got text r w (rd text n a')) := ih
    simp only [rd]
    rcases Nat.lt_or_ge a text.size with hlt | hge
    · rw [if_pos hlt]
      by_cases h1 : bt text (a : Int) = 118
      · rw [if_pos h1]; exact term_var w0 w r text a hA hI hM hB hr0 hr hs hlt h1
      rw [if_neg h1]
      by_cases h2 : bt text (a : Int) = 115
      · rw [if_pos h2]; exact term_sort w0 w r text a hA hI hM hB hr0 hr hs hlt h2
      rw [if_neg h2]
      by_cases h3 : bt text (a : Int) = 99
      · rw [if_pos h3]; exact term_con w0 w r text a hM hB hr0 hr hs hlt h3
      rw [if_neg h3]
      by_cases h4 : bt text (a : Int) = 64
      · rw [if_pos (Or.inl h4), h4]; exact term_two64 w0 w r text a n hB hr0 hr hs hlt hn ih' h4
      by_cases h5 : bt text (a : Int) = 108
      · rw [if_pos (Or.inr (Or.inl h5)), h5]; exact term_two108 w0 w r text a n hB hr0 hr hs hlt hn ih' h5
      by_cases h6 : bt text (a : Int) = 112
      · rw [if_pos (Or.inr (Or.inr h6)), h6]; exact term_two112 w0 w r text a n hB hr0 hr hs hlt hn ih' h6
      rw [if_neg (fun h => h.elim h4 (fun h => h.elim h5 h6))]
      by_cases h7 : bt text (a : Int) = 116
      · rw [if_pos h7]; exact term_three w0 w r text a n hB hr0 hr hs hlt hn ih' h7
      · rw [if_neg h7]; exact term_other w r text a hr hs hlt h1 h2 h3 h4 h5 h6 h7
    · rw [if_neg (by omega)]
      obtain rfl : a = text.size := Nat.le_antisymm ha hge
      exact term_end w r text hr
end Go.Proofs.YtefiapcfdabfpaaDoor.P

namespace Go.Proofs.YtefiapcfdabfpaaDoor.P
open Go.RowKit Go.Proofs.YtefiapcfdabfpaaDoorW.PrintWords Go.Proofs.YtefiapcfdabfpaaDoorW.PrintLast Go.Proofs.YtefiapcfdabfpaaDoorW.PrintMore
set_option maxRecDepth 100000
set_option maxHeartbeats 8000000
theorem ta_hit (w : World) : (Instr.typeAssert (.iface 67 (.agg #[])) 20 67 true).run Tryd.prog w = .ok (.tuple #[.agg #[], .bool true]) w := by kernel_rfl
theorem ta_nil (w : World) : (Instr.typeAssert .nilIface 20 67 true).run Tryd.prog w = .ok (.tuple #[.agg #[], .bool false]) w := by kernel_rfl
theorem frozen_heap {w w' : World} {b : Nat} (h : w'.heap[b]? = w.heap[b]?) (o : Nat) : w'.frozen? ⟨b, o, none⟩ = w.frozen? ⟨b, o, none⟩ := by
  unfold World.frozen?
  rw [h]
theorem catch_panicking (p q : Nat) (x y : Value) (w : World) (h0 : w.cell? ⟨p, 0, none⟩ = some x) (h1 : w.cell? ⟨q, 0, none⟩ = some y) (f0 : w.frozen? ⟨p, 0, none⟩ = false) (f1 : w.frozen? ⟨q, 0, none⟩ = false) (hne : p ≠ q) :
    CallsD Tryd.prog 67 #[.pointer (some ⟨p, 0, none⟩), .pointer (some ⟨q, 0, none⟩)] (.panicking [noT]) w fun e u' w' =>
      e = .returned (.tuple #[]) ∧ u' = .panicking [{ noT with recovered := true }] ∧ w' = ((w.alloc (.cells #[] 67)).setCell ⟨p, 0, none⟩ (.pointer none)).setCell ⟨q, 0, none⟩ (.bool false) := by
  have k0 : (w.alloc (.cells #[] 67)).cell? ⟨p, 0, none⟩ = some x := (cell_heap (alloc_old w _ p (cell_lt h0)) 0).trans h0
  have k1 : (w.alloc (.cells #[] 67)).cell? ⟨q, 0, none⟩ = some y := (cell_heap (alloc_old w _ q (cell_lt h1)) 0).trans h1
  have z0 : (w.alloc (.cells #[] 67)).frozen? ⟨p, 0, none⟩ = false := (frozen_heap (alloc_old w _ p (cell_lt h0)) 0).trans f0
  have z1 : (w.alloc (.cells #[] 67)).frozen? ⟨q, 0, none⟩ = false := (frozen_heap (alloc_old w _ q (cell_lt h1)) 0).trans f1
  clear h0 h1 f0 f1
  refine callsD_of_wpS Tryd.func67 rfl fun c₀ cs hu => ?_
  show Code.wpS _ _ _ { tmps := #[.pointer (some ⟨p, 0, none⟩), .pointer (some ⟨q, 0, none⟩), undef, undef, undef, undef, undef, undef, undef, undef], defers := [] } _ _
  apply wpS_seq
  apply wpS_region
  simp [wpOpsS, go_sem, recoverD, hu, Exit.thenS, noT, ta_hit]
  apply wpS_seq
  apply wpS_region
  simp [wpOpsS, go_sem, Exit.thenS]
  refine wpS_cond (t := true) rfl ?_
  simp only [if_true]
  apply wpS_region
  simp [wpOpsS, go_sem, k0, k1, z0, z1, hne, Ne.symm hne, bodyPostS, results, Tryd.results67]
theorem catch_idle (p q : Nat) (w : World) :
    CallsD Tryd.prog 67 #[.pointer (some ⟨p, 0, none⟩), .pointer (some ⟨q, 0, none⟩)] .returning w fun e u' w' => e = .returned (.tuple #[]) ∧ u' = .returning ∧ w' = w.alloc (.cells #[] 67) := by
  refine callsD_of_wpS Tryd.func67 rfl fun c₀ cs hu => ?_
  show Code.wpS _ _ _ { tmps := #[.pointer (some ⟨p, 0, none⟩), .pointer (some ⟨q, 0, none⟩), undef, undef, undef, undef, undef, undef, undef, undef], defers := [] } _ _
  apply wpS_seq
  apply wpS_region
  simp [wpOpsS, go_sem, recoverD, hu, Exit.thenS, ta_nil]
  apply wpS_seq
  apply wpS_region
  simp [wpOpsS, go_sem, Exit.thenS]
  refine wpS_cond (t := false) rfl ?_
  simp only [Bool.false_eq_true, if_false]
  refine wpS_of_wp (wp_skip ?_)
  cases c₀
  simp_all [bodyPostS, results, Tryd.results67]
end Go.Proofs.YtefiapcfdabfpaaDoor.P

namespace Go.Proofs.YtefiapcfdabfpaaDoor.P
open Go.RowKit Go.Proofs.YtefiapcfdabfpaaDoorW.PrintWords Go.Proofs.YtefiapcfdabfpaaDoorW.PrintLast Go.Proofs.YtefiapcfdabfpaaDoorW.PrintMore
set_option maxRecDepth 100000
set_option maxHeartbeats 8000000
/-- What parse hands back. -/
def Parsed (w : World) (x : Option Te) (e : Ending) (w' : World) : Prop :=
  Below w.heap.size w w' ∧ match x with
    | some t => ∃ g, e = .returned (.tuple #[.pointer (some ⟨g, 0, none⟩), .bool true]) ∧ Rep w' (fun _ => True) g t.tm
    | none => e = .returned (.tuple #[.pointer none, .bool false])
/-- The world in which the reader begins. -/
def W1 (w : World) (text : ByteArray) : World := ((w.alloc (.cells #[.pointer none] 38)).alloc (.cells #[.bool false] 4)).alloc (.cells #[.string text, .int .i64 0] 71)
theorem W1_size (w : World) (text : ByteArray) : (W1 w text).heap.size = w.heap.size + 3 := by unfold W1; rw [alloc_size, alloc_size, alloc_size]
theorem W1_below (w : World) (text : ByteArray) : Below w.heap.size w (W1 w text) := by
  unfold W1
  exact below_alloc (below_alloc (below_alloc (Below.refl _ _) _) _) _
theorem W1_rd (w : World) (text : ByteArray) : RdAt (W1 w text) (w.heap.size + 2) text ((0 : Nat) : Int) := by
  unfold W1 RdAt
  have h := alloc_here ((w.alloc (.cells #[.pointer none] 38)).alloc (.cells #[.bool false] 4)) (.cells #[.string text, .int .i64 0] 71)
  rw [alloc_size, alloc_size] at h
  exact h
theorem W1_p (w : World) (text : ByteArray) : (W1 w text).heap[w.heap.size]? = some (.cells #[.pointer none] 38 (0, 0)) := by
  unfold W1
  rw [alloc_old _ _ _ (by rw [alloc_size, alloc_size]; omega), alloc_old _ _ _ (by rw [alloc_size]; omega), alloc_here]
theorem W1_q (w : World) (text : ByteArray) : (W1 w text).heap[w.heap.size + 1]? = some (.cells #[.bool false] 4 (0, 0)) := by
  unfold W1
  rw [alloc_old _ _ _ (by rw [alloc_size, alloc_size]; omega)]
  have h := alloc_here (w.alloc (.cells #[.pointer none] 38)) (.cells #[.bool false] 4)
  rw [alloc_size] at h
  exact h
theorem cell_of {w : World} {b : Nat} {c : Value} {T : Nat} (h : w.heap[b]? = some (.cells #[c] T (0, 0))) : w.cell? ⟨b, 0, none⟩ = some c := by unfold World.cell?; rw [h]; rfl
theorem froz_of {w : World} {b : Nat} {c : Value} {T : Nat} (h : w.heap[b]? = some (.cells #[c] T (0, 0))) : w.frozen? ⟨b, 0, none⟩ = false := by unfold World.frozen?; rw [h]; simp
/-- What holds of the variables behind the reader. -/
structure Behind (w : World) (text : ByteArray) (w2 : World) : Prop where
  p : w2.heap[w.heap.size]? = some (.cells #[.pointer none] 38 (0, 0))
  q : w2.heap[w.heap.size + 1]? = some (.cells #[.bool false] 4 (0, 0))
  b : Below w.heap.size w w2
theorem behind_of {w w2 : World} {text : ByteArray} (h : Ch (w.heap.size + 2) (W1 w text) w2) : Behind w text w2 :=
  ⟨(h.block _ (by omega) (by rw [W1_size]; omega)).trans (W1_p w text), (h.block _ (by omega) (by rw [W1_size]; omega)).trans (W1_q w text), (W1_below w text).trans (h.below (by omega) (by rw [W1_size]; omega))⟩
theorem set_heap (w : World) (b o : Nat) (v : Value) (g : Nat) (h : g ≠ b) : (w.setCell ⟨b, o, none⟩ v).heap[g]? = w.heap[g]? := Below.heap_setCell _ _ _ _ h
theorem set_cell (w : World) (b o : Nat) (v : Value) (g o2 : Nat) (h : g ≠ b) : (w.setCell ⟨b, o, none⟩ v).cell? ⟨g, o2, none⟩ = w.cell? ⟨g, o2, none⟩ := cell_heap (set_heap w b o v g h) o2
theorem cell_one {w : World} {b o : Nat} {c v : Value} {T : Nat} (hb : w.heap[b]? = some (.cells #[c] T (0, 0))) (h : w.cell? ⟨b, o, none⟩ = some v) : v = c := by
  unfold World.cell? at h
  rw [hb] at h
  have h2 : (#[c] : Array Value)[o]? = some v := h
  cases o with
  | zero => simpa using h2.symm
  | succ o => simp at h2
/-- A block of one cell that no term can reach. -/
theorem Rep.avoid {w : World} {ok : Nat → Prop} {g : Nat} {t : Tm} (h : Rep w ok g t) (b : Nat) (c : Value) (T : Nat) (hb : w.heap[b]? = some (.cells #[c] T (0, 0))) (hs : ∀ x, Value.string x ≠ c) (hp : ∀ a, Value.pointer (some a) ≠ c) : Rep w (fun k => ok k ∧ k ≠ b) g t := by
  induction h with
  | mk g kind num name levels kids long Al cl Ak ck gs hok h hl hrl hk hgs hrk hr ih =>
    refine Rep.mk g kind num name levels kids long Al cl Ak ck gs ⟨hok, ?_⟩ h hl ?_ hk hgs ?_ ih
    · rintro rfl
      rw [hb] at h
      injection h with h
      injection h with h
      have := congrArg Array.size h
      simp at this
    · intro j x hj
      obtain ⟨k, o, rfl, hk1, hc⟩ := hrl j x hj
      exact ⟨k, o, rfl, ⟨hk1, by rintro rfl; exact hs _ (cell_one hb hc)⟩, hc⟩
    · intro j x hj
      obtain ⟨k, o, rfl, hk1, hc⟩ := hrk j x hj
      exact ⟨k, o, rfl, ⟨hk1, by rintro rfl; exact hp _ (cell_one hb hc)⟩, hc⟩
theorem set_same {w : World} {b : Nat} {c : Value} {T : Nat} (hb : w.heap[b]? = some (.cells #[c] T (0, 0))) (v : Value) : (w.setCell ⟨b, 0, none⟩ v).heap[b]? = some (.cells #[v] T (0, 0)) := by
  simp [World.setCell, Array.getElem?_modify, hb]
/-- The end of parse: both variables written, and the closure's own new variable. -/
theorem end_cells {w w2 : World} {text : ByteArray} (h : Behind w text w2) (a b c : Value) (X : World) (hX : X = (((w2.setCell ⟨w.heap.size, 0, none⟩ a).setCell ⟨w.heap.size, 0, none⟩ b).setCell ⟨w.heap.size + 1, 0, none⟩ c).alloc (.cells #[] 67)) :
    X.cell? ⟨w.heap.size, 0, none⟩ = some b ∧ X.cell? ⟨w.heap.size + 1, 0, none⟩ = some c ∧ Below w.heap.size w X ∧ ∀ k, k ≠ w.heap.size → k ≠ w.heap.size + 1 → k < w2.heap.size → X.heap[k]? = w2.heap[k]? := by
  subst hX
  have hz : ∀ (u : World) x v, (u.setCell x v).heap.size = u.heap.size := fun u x v => by simp [World.setCell]
  have hlt : w.heap.size + 1 < w2.heap.size := by
    rcases Nat.lt_or_ge (w.heap.size + 1) w2.heap.size with h0 | h0
    · exact h0
    · have := h.q; rw [Array.getElem?_eq_none h0] at this; cases this
  have e1 := set_same (set_same h.p a) b
  refine ⟨cell_of (T := 38) ?_, cell_of (T := 4) ?_, below_alloc (((h.b.setCell (Nat.le_refl _) _).setCell (Nat.le_refl _) _).setCell (Nat.le_succ _) _) _, fun k h1 h2 hk => ?_⟩
  · rw [alloc_old _ _ _ (by rw [hz, hz, hz]; omega), set_heap _ _ _ _ _ (by omega)]
    exact e1
  · rw [alloc_old _ _ _ (by rw [hz, hz, hz]; omega)]
    refine set_same (c := .bool false) ?_ c
    rw [set_heap _ _ _ _ _ (by omega), set_heap _ _ _ _ _ (by omega)]
    exact h.q
  · rw [alloc_old _ _ _ (by rw [hz, hz, hz]; omega), set_heap _ _ _ _ _ (by omega), set_heap _ _ _ _ _ (by omega), set_heap _ _ _ _ _ (by omega)]
theorem end_panic {w w2 : World} {text : ByteArray} (h : Behind w text w2) (b c : Value) (X : World) (hX : X = ((w2.alloc (.cells #[] 67)).setCell ⟨w.heap.size, 0, none⟩ b).setCell ⟨w.heap.size + 1, 0, none⟩ c) :
    X.cell? ⟨w.heap.size, 0, none⟩ = some b ∧ X.cell? ⟨w.heap.size + 1, 0, none⟩ = some c ∧ Below w.heap.size w X := by
  subst hX
  have hlt : w.heap.size + 1 < w2.heap.size := by
    rcases Nat.lt_or_ge (w.heap.size + 1) w2.heap.size with h0 | h0
    · exact h0
    · have := h.q; rw [Array.getElem?_eq_none h0] at this; cases this
  refine ⟨cell_of (T := 38) ?_, cell_of (T := 4) ?_, ((below_alloc h.b _).setCell (Nat.le_refl _) _).setCell (Nat.le_succ _) _⟩
  · rw [set_heap _ _ _ _ _ (by omega)]
    refine set_same (c := .pointer none) ?_ b
    rw [alloc_old _ _ _ (by omega)]
    exact h.p
  · refine set_same (c := .bool false) ?_ c
    rw [set_heap _ _ _ _ _ (by omega), alloc_old _ _ _ (by omega)]
    exact h.q
theorem parse_long (text : ByteArray) (w : World) (hs : 2000 < text.size) (hB : text.size ≤ 140737488351232) :
    Calls Tryd.prog 45 #[.string text] w (Parsed w none) := by
  have hmf : ∀ (fn : Fn) (first cap : Array Value) (w : World), (Instr.makeFunc fn first cap).run Tryd.prog w = .ok (.func fn first cap) w := fun _ _ _ _ => rfl
  have hsi : (2000 : Int) < (text.size : Int) := by omega
  go_enter_defers Tryd.func45, Tryd.ntmps45
  go_wp2
  refine leaves_cons (f := 67) (args := #[.pointer (some ⟨w.heap.size, 0, none⟩), .pointer (some ⟨w.heap.size + 1, 0, none⟩)]) (by simp) (by simp [go_sem]) ?_
  refine (catch_idle w.heap.size (w.heap.size + 1) _).mono ?_
  rintro e u' w'' ⟨rfl, rfl, rfl⟩
  simp [Leaves, settle, results, Tryd.results45, go_sem]
  exact ⟨below_alloc (W1_below w text) _, rfl⟩
theorem parse_main (text : ByteArray) (w : World) (hA : EnvA w) (hI : EnvI w) (hM : EnvM w) (hs : text.size ≤ 2000) :
    Calls Tryd.prog 45 #[.string text] w (Parsed w (parseT text)) := by
  have hmf : ∀ (fn : Fn) (first cap : Array Value) (w : World), (Instr.makeFunc fn first cap).run Tryd.prog w = .ok (.func fn first cap) w := fun _ _ _ _ => rfl
  have hT := term_all w (w.heap.size + 2) text hA hI hM (by omega) hs (text.size + 1) 0 (W1 w text) (W1_below w text) (W1_rd w text) (Nat.zero_le _) (by omega)
  have hT' : Calls Tryd.prog 68 #[.pointer (some ⟨w.heap.size + 1 + 1, 0, none⟩)] (((w.alloc (.cells #[.pointer none] 38)).alloc (.cells #[.bool false] 4)).alloc (.cells #[.string text, .int .i64 0] 71)) (Got text (w.heap.size + 2) (W1 w text) (rd text (text.size + 1) 0)) := hT
  have hsi : ¬ (2000 : Int) < (text.size : Int) := by omega
  clear hT hA hI hM
  unfold parseT
  rw [if_pos hs]
  cases hx : rd text (text.size + 1) 0 with
  | none =>
    rw [hx] at hT'
    unfold Got at hT'
    clear hx
    rw [Option.bind_none]
    go_enter_defers Tryd.func45, Tryd.ntmps45
    go_wp2_with (first | (go_at_call 68; refine (Calls.mono hT' ?_); rintro e w2 ⟨rfl, hc2⟩; have hbh := behind_of hc2; have cp := cell_of hbh.p; have fp := froz_of hbh.p; have cq := cell_of hbh.q; have fq := froz_of hbh.q))
    refine leaves_cons (f := 67) (args := #[.pointer (some ⟨w.heap.size, 0, none⟩), .pointer (some ⟨w.heap.size + 1, 0, none⟩)]) (by simp) (by simp [go_sem]) ?_
    refine (catch_panicking w.heap.size (w.heap.size + 1) _ _ w2 cp cq fp fq (by omega)).mono ?_
    rintro e u' w'' ⟨rfl, rfl, hw⟩
    obtain ⟨c1, c2, hb⟩ := end_panic hbh _ _ w'' hw
    clear hw cp fp cq fq hbh hT'
    simp [Leaves, settle, results, Tryd.results45, go_sem, c1, c2]
    exact ⟨hb, rfl⟩
  | some x =>
    obtain ⟨t, e⟩ := x
    have hge := rdT_ok text hs _ _ _ _ hx (by omega)
    rw [hx] at hT'
    unfold Got at hT'
    clear hx
    rw [Option.bind_some]
    by_cases he : e = text.size
    · subst he
      rw [if_pos rfl]
      go_enter_defers Tryd.func45, Tryd.ntmps45
      go_wp2_with (first | (go_at_call 68; refine (Calls.mono hT' ?_); rintro ex w2 ⟨⟨g, rfl, hrep⟩, hr2, hc2⟩; have hbh := behind_of hc2; have cp := cell_of hbh.p; have fp := froz_of hbh.p; have cq := cell_of hbh.q; have fq := froz_of hbh.q; have cr : ∀ v, (w2.setCell ⟨w.heap.size, 0, none⟩ v).cell? ⟨w.heap.size + 1 + 1, 1, none⟩ = some (.int .i64 (text.size : Int)) := fun v => (set_cell w2 _ 0 v _ 1 (by omega)).trans hr2.c1; clear hr2 hc2))
      refine leaves_cons (f := 67) (args := #[.pointer (some ⟨w.heap.size, 0, none⟩), .pointer (some ⟨w.heap.size + 1, 0, none⟩)]) (by simp) (by simp [go_sem]) ?_
      refine (catch_idle w.heap.size (w.heap.size + 1) _).mono ?_
      rintro ex u' w'' ⟨rfl, rfl, hw⟩
      obtain ⟨c1, c2, hb, hk⟩ := end_cells hbh _ _ _ w'' hw
      have hrep2 : Rep w'' (fun _ => True) g t.tm := ((hrep.avoid _ _ _ hbh.p (by simp) (by simp)).avoid _ _ _ hbh.q (by simp) (by simp)).move fun b hb1 hlt => ⟨hk b hb1.1.2 hb1.2 hlt, trivial⟩
      clear hw cp fp cq fq hbh hT' hk hrep
      simp [Leaves, settle, results, Tryd.results45, go_sem, c1, c2]
      exact ⟨hb, g, rfl, hrep2⟩
    · rw [if_neg he]
      have hlt : (e : Int) < (text.size : Int) := by omega
      go_enter_defers Tryd.func45, Tryd.ntmps45
      go_wp2_with (first | (go_at_call 68; refine (Calls.mono hT' ?_); rintro ex w2 ⟨⟨g, rfl, hrep⟩, hr2, hc2⟩; have hbh := behind_of hc2; have cp := cell_of hbh.p; have fp := froz_of hbh.p; have cq := cell_of hbh.q; have fq := froz_of hbh.q; have cr : ∀ v, (w2.setCell ⟨w.heap.size, 0, none⟩ v).cell? ⟨w.heap.size + 1 + 1, 1, none⟩ = some (.int .i64 (e : Int)) := fun v => (set_cell w2 _ 0 v _ 1 (by omega)).trans hr2.c1; clear hr2 hc2))
      refine leaves_cons (f := 67) (args := #[.pointer (some ⟨w.heap.size, 0, none⟩), .pointer (some ⟨w.heap.size + 1, 0, none⟩)]) (by simp) (by simp [go_sem]) ?_
      refine (catch_idle w.heap.size (w.heap.size + 1) _).mono ?_
      rintro ex u' w'' ⟨rfl, rfl, hw⟩
      obtain ⟨c1, c2, hb, hk⟩ := end_cells hbh _ _ _ w'' hw
      clear hw cp fp cq fq hbh hT' hk hrep
      simp [Leaves, settle, results, Tryd.results45, go_sem, c1, c2]
      exact ⟨hb, rfl⟩
end Go.Proofs.YtefiapcfdabfpaaDoor.P

namespace Go.Proofs.YtefiapcfdabfpaaDoor.P
open Go.RowKit Go.Proofs.YtefiapcfdabfpaaDoorW.PrintWords Go.Proofs.YtefiapcfdabfpaaDoorW.PrintLast Go.Proofs.YtefiapcfdabfpaaDoorW.PrintMore
attribute [local go_sem] max2_int min2_int max_two min_two max_three min_three max_four min_four
set_option linter.unusedVariables false
set_option linter.unusedSimpArgs false

/-! ### spec_l01Figure: function 109 -/
def spec_l01Figure.f (a0 : Int) : Option (Int) := if a0 < 10 then (some ((wrap64 (48 + a0)) % 256)) else (some ((wrap64 ((wrap64 (97 + a0)) - 10)) % 256))
set_option maxHeartbeats 8000000 in
set_option maxRecDepth 100000 in
theorem spec_l01Figure.calls (a0 : Int) (r : Int) (w : World) (h : spec_l01Figure.f a0 = some r) :
    Calls Tryd.prog 109 #[.int .i64 a0] w fun e w' => e = .returned (.int .u8 r) ∧ Drawn0 w w' := by
  have H : (if a0 < 10 then (some ((wrap64 (48 + a0)) % 256)) else (some ((wrap64 ((wrap64 (97 + a0)) - 10)) % 256))) = some r := h
  clear h
  by_cases c2 : a0 < 10
  · rw [if_pos c2] at H
    have c2b0 : decide (a0 < 10) = true := decide_eq_true c2
    clear c2
    obtain rfl := Option.some.inj H
    go_enter Tryd.func109, Tryd.ntmps109
    go_wp2
    go_ret
    exact ⟨by first | rfl | (simp; done) | (simp [*]; done), by repeat (first | exact Drawn0.refl _ | apply Drawn0.step)⟩
  · rw [if_neg c2] at H
    have c2b0 : decide (a0 < 10) = false := decide_eq_false c2
    clear c2
    obtain rfl := Option.some.inj H
    go_enter Tryd.func109, Tryd.ntmps109
    go_wp2
    go_ret
    exact ⟨by first | rfl | (simp; done) | (simp [*]; done), by repeat (first | exact Drawn0.refl _ | apply Drawn0.step)⟩

end Go.Proofs.YtefiapcfdabfpaaDoor.P
