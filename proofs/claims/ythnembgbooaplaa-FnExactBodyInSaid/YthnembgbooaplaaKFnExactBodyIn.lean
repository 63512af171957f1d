/- The row of laws.FnExactBodyIn: for every input the law returns true, and the arguments read afterwards as before. No further condition. -/
import Derived.Test.YthnembgbooaplaaProg
import Derived.Below
import Derived.Deep.Draws
import Derived.Deep.AppendLies
import Derived.Maps.AppendAt
import Derived.OwnWalk
import Derived.Laws.BytesArg
import Derived.Laws.MakeOwn
import Derived.Laws.OwnMore
import Derived.Deep.OwnRows
import Derived.Tactics
import Derived.Lib.ConvBytes
import Derived.Laws.Slices
import Derived.WalkKit
import Derived.KernelRfl
import Derived.RowKit3
import Derived.Deep.LoopGhost
import Derived.Deep.QuietTactic
import Derived.BigQuiet
import Derived.WideLaws
import Derived.Deep.DeepCutAuto
import Derived.Deep.CutBlock
import Derived.Deep.RegionHeld3
import Derived.Laws.Rows
import Derived.Lib.AppendStr
import Derived.ArgAppend
import Derived.Laws.IdiomCopy
import Derived.OrdersHeld
import Derived.Laws.BitsLemmas
import Derived.RowKit
import Derived.Test.YthnembgbooaplaaWWords
import Derived.Test.YthnembgbooaplaaWLast
import Derived.Test.YthnembgbooaplaaWTab
import Derived.Test.YthnembgbooaplaaWFour
import Derived.Test.YthnembgbooaplaaWQPut
import Derived.Test.YthnembgbooaplaaWApart
import Derived.Test.YthnembgbooaplaaWArr
import Derived.Test.YthnembgbooaplaaWZeros
import Derived.Test.YthnembgbooaplaaWFoot
import Derived.Test.YthnembgbooaplaaWKept
import Derived.Test.YthnembgbooaplaaWShare
import Derived.Test.YthnembgbooaplaaWN
import Derived.Test.YthnembgbooaplaaWFootNe
import Derived.Test.YthnembgbooaplaaWAt
import Derived.Test.YthnembgbooaplaaWEqStruct
import Derived.Test.YthnembgbooaplaaWRepsOne
import Derived.Test.YthnembgbooaplaaWInv
import Derived.Test.YthnembgbooaplaaWInvWords
import Derived.Test.YthnembgbooaplaaWGuard
import Derived.Test.YthnembgbooaplaaWNEv
import Derived.Test.YthnembgbooaplaaWMore
import Derived.Shelf.Strings.Builder1
import Derived.Shelf.Strings.Builder2
import Derived.Shelf.Small.Strs
import Derived.Shelf.Small.Wraps
import Derived.Shelf.Strings.BuilderF
import Derived.Shelf.Strings.BuilderK
import Derived.Shelf.Strings.Search1
import Derived.Shelf.Strings.Search2
import Derived.Shelf.Strings.Search3
import Derived.Shelf.Strings.Count
import Derived.Shelf.LaysM
import Derived.Shelf.Strings.Shaped
import Derived.Shelf.Strings.Prefix
import Derived.Shelf.Strings.Split
import Derived.Shelf.Bits.Mul64
import Derived.Shelf.Strings.Repeat
import Derived.WalkSpells
import Derived.Test.YthnembgbooaplaaRows
import Derived.ProofKit
import Derived.OpenShut
import Derived.ShutString
import Derived.ChangeOld
import Derived.SizedLaws
namespace Go.Proofs.Ythnembgbooaplaa.P
open Go.RowKit Go.Proofs.YthnembgbooaplaaW.PrintWords Go.Proofs.YthnembgbooaplaaW.PrintLast Go.Proofs.YthnembgbooaplaaW.PrintMore
attribute [local go_sem] max2_int min2_int max_two min_two max_three min_three max_four min_four
set_option linter.unusedVariables false
set_option linter.unusedSimpArgs false

def errW : Option Int → Value
  | none => .nilIface
  | some c => .iface 0 (.int .i64 c)
theorem errW_none : errW none = .nilIface := rfl
theorem errW_some (c : Int) : errW (some c) = .iface 0 (.int .i64 c) := rfl

theorem info3 : (Try.prog.info? 3).map (fun i => (i.zero, i.size, i.bytes)) = some (some (.int .i64 0), 1, 8) := by kernel_rfl
theorem info5 : (Try.prog.info? 5).map (fun i => (i.zero, i.size, i.bytes)) = some (some (.int .u8 0), 1, 1) := by kernel_rfl
theorem info9 : (Try.prog.info? 9).map (fun i => (i.zero, i.size, i.bytes)) = some (some (.string ⟨#[]⟩), 1, 16) := by kernel_rfl

end Go.Proofs.Ythnembgbooaplaa.P

namespace Go.Proofs.Ythnembgbooaplaa.P
open Go.RowKit Go.Proofs.YthnembgbooaplaaW.PrintWords
section
variable {P : Program} {o : Oper} {a : Act} {ops : Array Oper} {rest : List Oper} {Q : Exit → Act → World → Prop} {α : Type}
theorem make0_R (d : Kd α) {w0 W : World} (base e : Nat) (hgd : o.guard = none) {N : Tmp} (_hd : o.dst = some N) (t : TypeId) (x y : Operand) (ho : o.op = .makeSlice t x y) (n : Int) (hx : a.eval x = .int .i64 0) (hy : a.eval y = .int .i64 n)
    (ht : P.underlying t = some (.slice e)) (z : Value) (bytes : Nat) (hinfo : (P.info? e).map (fun i => (i.zero, i.size, i.bytes)) = some (some z, d.sz, bytes)) (hb0 : 0 < bytes)
    {ok : Nat → Prop} (hfresh : ok W.heap.size) (h0 : 0 ≤ n) (hl : n.toNat * bytes ≤ 281474976710656) (HB : Below base w0 W) (hbase : base ≤ W.heap.size)
    (h : ∀ v1 w1, d.R e w1 base ok v1 [] → Below base w0 w1 → W.grownBy w1 none → (∃ b, v1.ownBlock = some b ∧ W.heap.size ≤ b) → wpList P ops Q rest (a.put o.dst v1) w1) : wpList P ops Q (o :: rest) a W := by
  obtain ⟨m, rfl⟩ := Int.eq_ofNat_of_zero_le h0
  simp only [Int.toNat_natCast] at hl
  obtain ⟨i0, hi, hzz⟩ := Option.map_eq_some_iff.1 hinfo
  simp only [Prod.mk.injEq] at hzz
  obtain ⟨hz0, hz1, hz2⟩ := hzz
  have hm : m ≤ 281474976710656 := Nat.le_trans (Nat.le_mul_of_pos_right _ hb0) hl
  obtain ⟨w', hrun, hown, hg⟩ := run_make_own (P := P) W base t e i0 z d.sz ht hi hz0 hz1 .i64 .i64 m (by rw [hz2, Nat.mul_comm]; exact hl) (by unfold maxLen; omega) hbase
  have hrun' : (execOp a.eval o).run P W = .ok (.value (.slice (some ⟨W.heap.size, 0, none⟩) 0 m)) w' := by
    simp [execOp, ho, hx, hy, hrun, Result.andThen]
  refine Kd.event_run hgd hrun' (h _ _ ⟨fun k hk => ?_, [], hown, Reps.none _ _⟩ (HB.grown hg hbase (by simp)) hg ⟨W.heap.size, by simp [Value.ownBlock], Nat.le_refl _⟩)
  have : W.heap.size = k := by simpa [Value.ownBlock] using hk
  subst this
  exact hfresh
end
end Go.Proofs.Ythnembgbooaplaa.P

namespace Go.Proofs
open Go.Shelf
def Try.lays137_ren : Go.Shelf.Ren := ⟨fun | 137 => 43 | 217 => 67 | 266 => 77 | n => n, fun | 9 => 9 | 5 => 5 | 3 => 3 | n => n, fun | n => n⟩
theorem Try.lays137 : Go.Proofs.Lays.n137 Try.prog Try.lays137_ren := {
  mixed := by kernel_rfl
  f137 := Try.func43.trans (congrArg some (by kernel_rfl))
  f217 := Try.func67.trans (congrArg some (by kernel_rfl))
  f266 := Try.func77.trans (congrArg some (by kernel_rfl))
  t3 := Try.underlying3
  a3 := Try.isAgg3
  z3 := Try.sizeOf3
  v3 := Try.zeroValue3
  t5 := Try.underlying5
  a5 := Try.isAgg5
  z5 := Try.sizeOf5
  v5 := Try.zeroValue5
  t9 := Try.underlying9
  a9 := Try.isAgg9
  z9 := Try.sizeOf9
  v9 := Try.zeroValue9 }
open Go.RowKit in
theorem Try.strings_IndexByte (s : ByteArray) (c : Int) (w : World) :
    Calls Try.prog 43 #[.string s, .int .u8 c] w fun e w' => e = .returned (.int .i64 (Lib.indexByte s.data.toList c.toNat.toUInt8)) ∧ w' = w := Any.strings_IndexByte Try.lays137 s c w
def Try.lays103_ren : Go.Shelf.Ren := ⟨fun | 103 => 27 | 210 => 42 | 206 => 66 | n => n, fun | 9 => 9 | 4 => 4 | 24 => 35 | 3 => 3 | n => n, fun | n => n⟩
theorem Try.lays103 : Go.Proofs.Lays.n103 Try.prog Try.lays103_ren := {
  mixed := by kernel_rfl
  f103 := Try.func27.trans (congrArg some (by kernel_rfl))
  f206 := Try.func66.trans (congrArg some (by kernel_rfl))
  f210 := Try.func42.trans (congrArg some (by kernel_rfl))
  t3 := Try.underlying3
  a3 := Try.isAgg3
  z3 := Try.sizeOf3
  v3 := Try.zeroValue3
  t4 := Try.underlying4
  a4 := Try.isAgg4
  z4 := Try.sizeOf4
  v4 := Try.zeroValue4
  t9 := Try.underlying9
  a9 := Try.isAgg9
  z9 := Try.sizeOf9
  v9 := Try.zeroValue9
  t24 := Try.underlying35
  a24 := Try.isAgg35
  z24 := Try.sizeOf35
  v24 := Try.zeroValue35 }
open Go.RowKit in
theorem Try.strings_CutPrefix (s p : ByteArray) (w : World) :
    Calls Try.prog 27 #[.string s, .string p] w fun e w' => e = .returned (.tuple #[.string ⟨(Lib.trimPrefix s.data.toList p.data.toList).toArray⟩, .bool (Lib.hasPrefix s.data.toList p.data.toList)]) ∧ w' = w := Any.strings_CutPrefix Try.lays103 s p w
def Try.lays138_ren : Go.Shelf.Ren := ⟨fun | 138 => 31 | 195 => 50 | 218 => 51 | 143 => 52 | 219 => 72 | 217 => 67 | 225 => 80 | 224 => 81 | 267 => 82 | 266 => 77 | 314 => 84 | n => n, fun | 9 => 9 | 3 => 3 | 4 => 4 | 5 => 5 | 0 => 0 | 46 => 49 | 146 => 81 | 51 => 72 | n => n, fun | 1 => 0 | n => n⟩
theorem Try.lays138 : Go.Proofs.Lays.n138 Try.prog Try.lays138_ren := {
  mixed := by kernel_rfl
  f138 := Try.func31.trans (congrArg some (by kernel_rfl))
  f143 := Try.func52.trans (congrArg some (by kernel_rfl))
  f195 := Try.func50.trans (congrArg some (by kernel_rfl))
  f217 := Try.func67.trans (congrArg some (by kernel_rfl))
  f218 := Try.func51.trans (congrArg some (by kernel_rfl))
  f219 := Try.func72.trans (congrArg some (by kernel_rfl))
  f224 := Try.func81.trans (congrArg some (by kernel_rfl))
  f225 := Try.func80.trans (congrArg some (by kernel_rfl))
  f266 := Try.func77.trans (congrArg some (by kernel_rfl))
  f267 := Try.func82.trans (congrArg some (by kernel_rfl))
  f314 := Try.func84.trans (congrArg some (by kernel_rfl))
  t0 := Try.underlying0
  a0 := Try.isAgg0
  z0 := Try.sizeOf0
  v0 := Try.zeroValue0
  t3 := Try.underlying3
  a3 := Try.isAgg3
  z3 := Try.sizeOf3
  v3 := Try.zeroValue3
  t4 := Try.underlying4
  a4 := Try.isAgg4
  z4 := Try.sizeOf4
  v4 := Try.zeroValue4
  t5 := Try.underlying5
  a5 := Try.isAgg5
  z5 := Try.sizeOf5
  v5 := Try.zeroValue5
  t9 := Try.underlying9
  a9 := Try.isAgg9
  z9 := Try.sizeOf9
  v9 := Try.zeroValue9
  t46 := Try.underlying49
  a46 := Try.isAgg49
  z46 := Try.sizeOf49
  v46 := Try.zeroValue49
  t51 := Try.underlying72
  a51 := Try.isAgg72
  z51 := Try.sizeOf72
  v51 := Try.zeroValue72
  t146 := Try.underlying81
  a146 := Try.isAgg81
  z146 := Try.sizeOf81
  v146 := Try.zeroValue81
  g1 := by kernel_rfl }
open Go.RowKit Go.Lib in
theorem Try.strings_Count_one (s : ByteArray) (c : UInt8) (w : World) :
    Calls Try.prog 31 #[.string s, .string ⟨#[c]⟩] w fun e w' => e = .returned (.int .i64 (Lib.countByte s.data.toList c)) ∧ w' = w := Any.strings_Count_one Try.lays138 s c w
def Try.lays105_ren : Go.Shelf.Ren := ⟨fun | 105 => 30 | 212 => 44 | 99 => 45 | 165 => 46 | 166 => 47 | 170 => 48 | 169 => 49 | 263 => 68 | 264 => 69 | 206 => 66 | 240 => 70 | 241 => 71 | 276 => 78 | 277 => 79 | n => n, fun | 9 => 9 | 3 => 3 | 4 => 4 | 20 => 20 | 0 => 0 | 46 => 49 | 109 => 50 | 5 => 5 | 72 => 54 | 76 => 58 | 51 => 72 | 146 => 81 | 53 => 77 | 148 => 83 | 70 => 52 | 37 => 31 | 75 => 57 | 127 => 85 | 164 => 89 | 80 => 61 | n => n, fun | n => n⟩
theorem Try.lays105 : Go.Proofs.Lays.n105 Try.prog Try.lays105_ren := {
  mixed := by kernel_rfl
  f99 := Try.func45.trans (congrArg some (by kernel_rfl))
  f105 := Try.func30.trans (congrArg some (by kernel_rfl))
  f165 := Try.func46.trans (congrArg some (by kernel_rfl))
  f166 := Try.func47.trans (congrArg some (by kernel_rfl))
  f169 := Try.func49.trans (congrArg some (by kernel_rfl))
  f170 := Try.func48.trans (congrArg some (by kernel_rfl))
  f206 := Try.func66.trans (congrArg some (by kernel_rfl))
  f212 := Try.func44.trans (congrArg some (by kernel_rfl))
  f240 := Try.func70.trans (congrArg some (by kernel_rfl))
  f241 := Try.func71.trans (congrArg some (by kernel_rfl))
  f263 := Try.func68.trans (congrArg some (by kernel_rfl))
  f264 := Try.func69.trans (congrArg some (by kernel_rfl))
  f276 := Try.func78.trans (congrArg some (by kernel_rfl))
  f277 := Try.func79.trans (congrArg some (by kernel_rfl))
  t0 := Try.underlying0
  a0 := Try.isAgg0
  z0 := Try.sizeOf0
  v0 := Try.zeroValue0
  t3 := Try.underlying3
  a3 := Try.isAgg3
  z3 := Try.sizeOf3
  v3 := Try.zeroValue3
  t4 := Try.underlying4
  a4 := Try.isAgg4
  z4 := Try.sizeOf4
  v4 := Try.zeroValue4
  t5 := Try.underlying5
  a5 := Try.isAgg5
  z5 := Try.sizeOf5
  v5 := Try.zeroValue5
  t9 := Try.underlying9
  a9 := Try.isAgg9
  z9 := Try.sizeOf9
  v9 := Try.zeroValue9
  t20 := Try.underlying20
  a20 := Try.isAgg20
  z20 := Try.sizeOf20
  v20 := Try.zeroValue20
  t37 := Try.underlying31
  a37 := Try.isAgg31
  z37 := Try.sizeOf31
  v37 := Try.zeroValue31
  t46 := Try.underlying49
  a46 := Try.isAgg49
  z46 := Try.sizeOf49
  v46 := Try.zeroValue49
  t51 := Try.underlying72
  a51 := Try.isAgg72
  z51 := Try.sizeOf72
  v51 := Try.zeroValue72
  t53 := Try.underlying77
  a53 := Try.isAgg77
  z53 := Try.sizeOf77
  v53 := Try.zeroValue77
  t70 := Try.underlying52
  a70 := Try.isAgg52
  z70 := Try.sizeOf52
  v70 := Try.zeroValue52
  t72 := Try.underlying54
  a72 := Try.isAgg54
  z72 := Try.sizeOf54
  v72 := Try.zeroValue54
  t75 := Try.underlying57
  a75 := Try.isAgg57
  z75 := Try.sizeOf57
  v75 := Try.zeroValue57
  t76 := Try.underlying58
  a76 := Try.isAgg58
  z76 := Try.sizeOf58
  v76 := Try.zeroValue58
  t109 := Try.underlying50
  a109 := Try.isAgg50
  z109 := Try.sizeOf50
  v109 := Try.zeroValue50
  t127 := Try.underlying85
  a127 := Try.isAgg85
  z127 := Try.sizeOf85
  v127 := Try.zeroValue85
  t146 := Try.underlying81
  a146 := Try.isAgg81
  z146 := Try.sizeOf81
  v146 := Try.zeroValue81
  t148 := Try.underlying83
  a148 := Try.isAgg83
  z148 := Try.sizeOf83
  v148 := Try.zeroValue83
  t164 := Try.underlying89
  a164 := Try.isAgg89
  z164 := Try.sizeOf89
  v164 := Try.zeroValue89 }
theorem Try.Builder_Extra_105 : Builder.Extra Try.prog Try.lays105_ren := {
  sizeBuilder := by kernel_rfl
  liesBuilder := by kernel_rfl
  t5 := Try.underlying5
  a5 := Try.isAgg5
  z5 := Try.sizeOf5
  v5 := Try.zeroValue5
  infoByte := by kernel_rfl
  cellsByte := by kernel_rfl
  sizeByte := by kernel_rfl
  neB5 := by decide }
open Go.RowKit Go.Lib in
theorem Try.strings_Repeat (s : ByteArray) (c : Nat) (w : World) (hc : c ≤ 9223372036854775807) (hlen : s.size * c ≤ 140737488355328) :
    Calls Try.prog 30 #[.string s, .int .i64 c] w fun e w' => e = .returned (.string ⟨(Lib.repeatL s.data.toList c).toArray⟩) ∧ Below w.heap.size w w' := Any.strings_Repeat Try.lays105 Try.Builder_Extra_105 s c w hc hlen
end Go.Proofs

namespace Go.Proofs.Ythnembgbooaplaa.P
open Go.RowKit Go.Proofs.YthnembgbooaplaaW.PrintWords
theorem drawn0_of_eq {w w' : World} (h : w' = w) : Drawn0 w w' := by subst h; exact Drawn0.refl _
def strings_IndexByte.f (a0 : ByteArray) (a1 : Int) : Option Int := some (Lib.indexByte a0.data.toList a1.toNat.toUInt8)
theorem strings_IndexByte.calls (a0 : ByteArray) (a1 : Int) (r : Int) (w : World) (h : strings_IndexByte.f a0 a1 = some r) :
    Calls Try.prog 43 #[.string a0, .int .u8 a1] w fun e w' => e = .returned (.int .i64 r) ∧ Drawn0 w w' := by
  obtain rfl := Option.some.inj h
  exact (Try.strings_IndexByte a0 a1 w).mono fun e w' h => ⟨h.1, drawn0_of_eq h.2⟩
def strings_CutPrefix.f (a0 a1 : ByteArray) : Option (ByteArray × Bool) := some (⟨(Lib.trimPrefix a0.data.toList a1.data.toList).toArray⟩, Lib.hasPrefix a0.data.toList a1.data.toList)
theorem strings_CutPrefix.calls (a0 a1 : ByteArray) (r1 : ByteArray) (r2 : Bool) (w : World) (h : strings_CutPrefix.f a0 a1 = some (r1, r2)) :
    Calls Try.prog 27 #[.string a0, .string a1] w fun e w' => e = .returned (.tuple #[.string r1, .bool r2]) ∧ Drawn0 w w' := by
  simp only [strings_CutPrefix.f, Option.some.injEq, Prod.mk.injEq] at h
  obtain ⟨rfl, rfl⟩ := h
  exact (Try.strings_CutPrefix a0 a1 w).mono fun e w' h => ⟨h.1, drawn0_of_eq h.2⟩
def strings_Repeat.f (a0 : ByteArray) (a1 : Int) : Option ByteArray := if 0 ≤ a1 ∧ a1 ≤ 9223372036854775807 ∧ a0.size * a1.toNat ≤ 140737488355328 then some ⟨(Lib.repeatL a0.data.toList a1.toNat).toArray⟩ else none
theorem strings_Repeat.calls (a0 : ByteArray) (a1 : Int) (r : ByteArray) (w : World) (h : strings_Repeat.f a0 a1 = some r) :
    Calls Try.prog 30 #[.string a0, .int .i64 a1] w fun e w' => e = .returned (.string r) ∧ Below w.heap.size w w' := by
  unfold strings_Repeat.f at h
  split at h
  · rename_i hc
    obtain rfl := Option.some.inj h
    have e : a1 = ((a1.toNat : Nat) : Int) := by omega
    rw [e]
    exact Try.strings_Repeat a0 a1.toNat w (by omega) hc.2.2
  · cases h
def strings_Count.f (a0 a1 : ByteArray) : Option Int := if a1.size = 1 then some ((Lib.countByte a0.data.toList (a1.data.toList.headD 0) : Nat) : Int) else none
theorem strings_Count.calls (a0 a1 : ByteArray) (r : Int) (w : World) (h : strings_Count.f a0 a1 = some r) :
    Calls Try.prog 31 #[.string a0, .string a1] w fun e w' => e = .returned (.int .i64 r) ∧ Drawn0 w w' := by
  unfold strings_Count.f at h
  split at h
  · rename_i hc
    obtain rfl := Option.some.inj h
    obtain ⟨⟨l⟩⟩ := a1
    obtain ⟨c, rfl⟩ : ∃ c, l = [c] := by
      have : l.length = 1 := hc
      match l, this with
      | [c], _ => exact ⟨c, rfl⟩
    exact (Try.strings_Count_one a0 c w).mono fun e w' h => ⟨h.1, drawn0_of_eq h.2⟩
  · cases h
end Go.Proofs.Ythnembgbooaplaa.P

namespace Go.Proofs.Ythnembgbooaplaa.P
open Go.RowKit Go.Proofs.YthnembgbooaplaaW.PrintWords Go.Proofs.YthnembgbooaplaaW.PrintLast Go.Proofs.YthnembgbooaplaaW.PrintMore
attribute [local go_sem] max2_int min2_int max_two min_two max_three min_three max_four min_four
set_option linter.unusedVariables false
set_option linter.unusedSimpArgs false

/-! ### impl_Unhex: function 28 -/
mutual
def impl_Unhex.j0 : Nat → ByteArray → Bool → Option (ByteArray × Bool)
  | 0, _, _ => none
  | k + 1, x0, x16 => if x16 = true then (some ((⟨#[]⟩ : ByteArray), false)) else (if 0 ≤ (wrap64 ((x0.size : Int) / 2)) then (if (wrap64 ((x0.size : Int) / 2) : Int).toNat ≤ 281474976710656 then (impl_Unhex.l0 k x0 (([] : List Int)) 0) else (none)) else (none))
def impl_Unhex.l0 : Nat → ByteArray → List Int → Int → Option (ByteArray × Bool)
  | 0, _, _, _ => none
  | k + 1, x0, x4, x5 => if x5 < (x0.size : Int) then (if 0 ≤ x5 then ((strings_IndexByte.f (⟨#[48, 49, 50, 51, 52, 53, 54, 55, 56, 57, 97, 98, 99, 100, 101, 102]⟩ : ByteArray) (bt x0 x5)).bind fun t104 => (if 0 ≤ (wrap64 (x5 + 1)) then (if (wrap64 (x5 + 1)) < (x0.size : Int) then ((strings_IndexByte.f (⟨#[48, 49, 50, 51, 52, 53, 54, 55, 56, 57, 97, 98, 99, 100, 101, 102]⟩ : ByteArray) (bt x0 (wrap64 (x5 + 1)))).bind fun t105 => (if t104 < 0 then (some ((⟨#[]⟩ : ByteArray), false)) else (if t105 < 0 then (some ((⟨#[]⟩ : ByteArray), false)) else (if x4.length < 140737488355328 then (impl_Unhex.l0 k x0 (x4 ++ [(Go.bits .or .i64 (wrap64 (t104 * 16)) t105) % 256]) (wrap64 (x5 + 2))) else (none))))) else (none)) else (none))) else (none)) else (some (strOfNums x4, true))
end
def impl_Unhex.f (k : Nat) (a0 : ByteArray) : Option (ByteArray × Bool) := if (a0.size : Int) > 40000 then (impl_Unhex.j0 k a0 true) else (impl_Unhex.j0 k a0 (((a0.size : Int) % 2) != 0))
theorem impl_Unhex.mono_l : ∀ k, (∀ y0 y1, LeO (impl_Unhex.j0 k y0 y1) (impl_Unhex.j0 (k + 1) y0 y1)) ∧ (∀ y0 y1 y2, LeO (impl_Unhex.l0 k y0 y1 y2) (impl_Unhex.l0 (k + 1) y0 y1 y2))
  | 0 => ⟨fun _ _ r h => by simp [impl_Unhex.j0] at h, fun _ _ _ r h => by simp [impl_Unhex.l0] at h⟩
  | k + 1 => by
    obtain ⟨ih0, ih1⟩ := impl_Unhex.mono_l k
    refine ⟨?_, ?_⟩
    · intro y0 y1
      unfold impl_Unhex.j0
      repeat' first
      | (with_reducible exact ih0 _ _)
      | (with_reducible exact ih1 _ _ _)
      | (with_reducible exact LeO.refl _)
      | (with_reducible exact LeO.none _)
      | (with_reducible refine LeO.ite ?_ ?_)
      | (with_reducible refine LeO.bind ?_ (fun _ => ?_))
      | exact ih0 _ _
      | exact ih1 _ _ _
      | exact LeO.none _
      | refine LeO.ite ?_ ?_
      | refine LeO.bind ?_ (fun _ => ?_)
    · intro y0 y1 y2
      unfold impl_Unhex.l0
      repeat' first
      | (with_reducible exact ih0 _ _)
      | (with_reducible exact ih1 _ _ _)
      | (with_reducible exact LeO.refl _)
      | (with_reducible exact LeO.none _)
      | (with_reducible refine LeO.ite ?_ ?_)
      | (with_reducible refine LeO.bind ?_ (fun _ => ?_))
      | exact ih0 _ _
      | exact ih1 _ _ _
      | exact LeO.none _
      | refine LeO.ite ?_ ?_
      | refine LeO.bind ?_ (fun _ => ?_)
theorem impl_Unhex.mono : ∀ a0 k, LeO (impl_Unhex.f k a0) (impl_Unhex.f (k + 1) a0) := by
  intro a0 k
  obtain ⟨ih0, ih1⟩ := impl_Unhex.mono_l k
  unfold impl_Unhex.f
  repeat' first
      | (with_reducible exact ih0 _ _)
      | (with_reducible exact ih1 _ _ _)
      | (with_reducible exact LeO.refl _)
      | (with_reducible exact LeO.none _)
      | (with_reducible refine LeO.ite ?_ ?_)
      | (with_reducible refine LeO.bind ?_ (fun _ => ?_))
      | exact ih0 _ _
      | exact ih1 _ _ _
      | exact LeO.none _
      | refine LeO.ite ?_ ?_
      | refine LeO.bind ?_ (fun _ => ?_)
set_option maxHeartbeats 8000000 in
set_option maxRecDepth 100000 in
theorem impl_Unhex.calls (k : Nat) (a0 : ByteArray) (r1 : ByteArray) (r2 : Bool) (w : World) (h : impl_Unhex.f k a0 = some (r1, r2)) :
    Calls Try.prog 28 #[.string a0] w fun e w' => e = .returned (.tuple #[.string r1, .bool r2]) ∧ Below w.heap.size w w' := by
  have HB := Aside0.mk (Below.refl w.heap.size w)
  have H : (if (a0.size : Int) > 40000 then (impl_Unhex.j0 k a0 true) else (impl_Unhex.j0 k a0 (((a0.size : Int) % 2) != 0))) = some (r1, r2) := h
  clear h
  have HC2 := Aside0.mk H
  clear H
  go_enter Try.func28, Try.ntmps28
  go_upto_region 1 with (fail)
  repeat (go_quiet (fail); go_upto_region 1 with (fail))
  go_cut [16] (fun v16 wc => ∃ (kq : Nat) (x16_1 : Bool), v16 = .bool x16_1 ∧ Aside0 (impl_Unhex.j0 kq a0 x16_1 = some (r1, r2)) ∧ Aside0 (kq ≤ k) ∧ Aside0 (Below w.heap.size w wc))
  case first =>
    have H := HC2.out
    clear HC2
    by_cases c3 : (a0.size : Int) > 40000
    · rw [if_pos c3] at H
      have c3b0 : decide (40000 < (a0.size : Int)) = true := decide_eq_true c3
      have c3b1 : decide (40000 < a0.size) = true := decide_eq_true (by omega)
      clear c3
      (first | rw [c3b0] | (simp only [i64_w, i32_w]; rw [c3b0]) | skip)
      have H' := Aside0.mk H
      clear H
      go_wp2
      repeat (go_quiet (fail); try go_wp2)
      go_meet
      case rel => exact ⟨_, (true), (by first | rfl | (simp; done) | (simp [*]; done)), H', ⟨by first | omega | exact Nat.le_refl _⟩, ⟨by repeat (first | (with_reducible first | exact HB.out | apply below_alloc | apply pw_below_drewN | apply below_drew1) | exact HB.out)⟩⟩
    · rw [if_neg c3] at H
      have c3b0 : decide (40000 < (a0.size : Int)) = false := decide_eq_false c3
      have c3b1 : decide (40000 < a0.size) = false := decide_eq_false (by omega)
      clear c3
      (first | rw [c3b0] | (simp only [i64_w, i32_w]; rw [c3b0]) | skip)
      have H' := Aside0.mk H
      clear H
      go_wp2
      repeat (go_quiet (fail); try go_wp2)
      go_meet
      case rel => exact ⟨_, ((((a0.size : Int) % 2) != 0)), (by first | rfl | (simp; done) | (simp [*]; done)), H', ⟨by first | omega | exact Nat.le_refl _⟩, ⟨by repeat (first | (with_reducible first | exact HB.out | apply below_alloc | apply pw_below_drewN | apply below_drew1) | exact HB.out)⟩⟩
  case rest =>
    clear HC2
    try clear c2
    try clear p2
    try clear c3
    try clear c3b0
    try clear c3b1
    obtain ⟨kq, x16_1, rfl, HA, HJ1, HB⟩ := hcut
    cases kq with
    | zero => exact absurd HA.out (by simp [impl_Unhex.j0])
    | succ kj1 =>
      have H := HA.out
      clear HA
      simp only [impl_Unhex.j0] at H
      by_cases c4 : x16_1 = true
      · subst c4
        have H1 : (some ((⟨#[]⟩ : ByteArray), false)) = some (r1, r2) := by rw [if_pos rfl] at H; exact H
        clear H
        have H := H1
        clear H1
        simp only [Option.some.injEq, Prod.mk.injEq] at H
        obtain ⟨rfl, rfl⟩ := H
        go_wp2
        repeat (go_quiet (fail); try go_wp2)
        go_ret2
        exact ⟨by first | rfl | (simp [errW_none, errW_some] <;> rfl) | (simp [*, errW_none, errW_some] <;> rfl), by repeat (first | (with_reducible first | exact HB.out | apply below_alloc | apply pw_below_drewN | apply below_drew1) | exact HB.out)⟩
      · replace c4 := Bool.eq_false_iff.mpr c4
        subst c4
        have H1 : (if 0 ≤ (wrap64 ((a0.size : Int) / 2)) then (if (wrap64 ((a0.size : Int) / 2) : Int).toNat ≤ 281474976710656 then (impl_Unhex.l0 kj1 a0 (([] : List Int)) 0) else (none)) else (none)) = some (r1, r2) := by rw [if_neg (show ¬ (false = true) by decide)] at H; exact H
        clear H
        have H := H1
        clear H1
        obtain ⟨ji5, hji5⟩ : ∃ j_ : Int, (wrap64 ((a0.size : Int) / 2)) = j_ := ⟨_, rfl⟩
        replace H : (if 0 ≤ (ji5) then (if (ji5 : Int).toNat ≤ 281474976710656 then (impl_Unhex.l0 kj1 a0 (([] : List Int)) 0) else (none)) else (none)) = some (r1, r2) := by first | (rw [hji5] at H; exact H) | (simp only [hji5] at H ⊢; exact H)
        have hji5w : (IntKind.i64.wrap ((a0.size : Int) / 2)) = ji5 := (i64_w _).trans hji5
        by_cases c6 : 0 ≤ (ji5)
        · rw [if_pos c6] at H
          have c6b0 := eq_true c6
          have c6b1 : decide (0 ≤ (ji5)) = true := decide_eq_true c6
          clear c6
          by_cases c7 : (ji5 : Int).toNat ≤ 281474976710656
          · rw [if_pos c7] at H
            have c7b0 := eq_true c7
            have c7b1 : decide ((ji5 : Int).toNat ≤ 281474976710656) = true := decide_eq_true c7
            clear c7
            obtain ⟨y101, hy101⟩ : ∃ y_ : List Int, y_ = (([] : List Int)) := ⟨_, rfl⟩
            replace H : (impl_Unhex.l0 kj1 a0 y101 0) = some (r1, r2) := by first | (rw [hy101]; with_reducible exact H) | (have H2_ := (Option.bind_some _ _).symm.trans H; rw [hy101]; with_reducible exact H2_) | (have H2_ := (Option.bind_some _ _).symm.trans H; with_reducible exact H2_) | with_reducible exact H | (rw [hy101]; exact H) | exact H
            have Ny101 := Aside0.mk hy101
            clear hy101
            have H' := Aside0.mk H
            clear H
            go_wp2_with (first | ((with_reducible refine gate_dst (N := 20) rfl ?_); (try (refine gate_guard (by rfl) ?_; dsimp only)); refine make0_R (Kd.int .u8) _ 5 rfl (N := 20) rfl 31 _ _ rfl ji5 rfl rfl Try.underlying31 (.int .u8 0) 1 info5 (by decide) (ok := fun _ => True) trivial (of_decide_eq_true (by first | (with_reducible assumption) | assumption)) (Nat.le_trans (Nat.mul_le_mul_right _ (of_decide_eq_true (by first | (with_reducible assumption) | assumption) : ji5.toNat ≤ 281474976710656)) (by omega)) (Below.refl _ _) (Nat.le_refl _) ?_; intro v102 w8 ho9 hb hg_ hnew_; clear hg_ hnew_; (first | rw [← Ny101.out] at ho9 | (simp only [Int.reduceToNat] at ho9; rw [← Ny101.out] at ho9)); have n0_ := Aside0.mk (Kd.R_lower ho9 (below_size (by repeat (first | (with_reducible first | exact HB.out | apply below_alloc | apply pw_below_drewN | apply below_drew1) | exact HB.out)))); have n1_ := Aside0.mk (below_step (by repeat (first | (with_reducible first | exact HB.out | apply below_alloc | apply pw_below_drewN | apply below_drew1) | exact HB.out)) hb); clear HB; have HO103 := n0_; have HB := n1_; clear n0_ n1_; clear hb ho9))
            repeat (go_quiet (first | ((with_reducible refine gate_dst (N := 20) rfl ?_); (try (refine gate_guard (by rfl) ?_; dsimp only)); refine make0_R (Kd.int .u8) _ 5 rfl (N := 20) rfl 31 _ _ rfl ji5 rfl rfl Try.underlying31 (.int .u8 0) 1 info5 (by decide) (ok := fun _ => True) trivial (of_decide_eq_true (by first | (with_reducible assumption) | assumption)) (Nat.le_trans (Nat.mul_le_mul_right _ (of_decide_eq_true (by first | (with_reducible assumption) | assumption) : ji5.toNat ≤ 281474976710656)) (by omega)) (Below.refl _ _) (Nat.le_refl _) ?_; intro v102 w8 ho9 hb hg_ hnew_; clear hg_ hnew_; (first | rw [← Ny101.out] at ho9 | (simp only [Int.reduceToNat] at ho9; rw [← Ny101.out] at ho9)); have n0_ := Aside0.mk (Kd.R_lower ho9 (below_size (by repeat (first | (with_reducible first | exact HB.out | apply below_alloc | apply pw_below_drewN | apply below_drew1) | exact HB.out)))); have n1_ := Aside0.mk (below_step (by repeat (first | (with_reducible first | exact HB.out | apply below_alloc | apply pw_below_drewN | apply below_drew1) | exact HB.out)) hb); clear HB; have HO103 := n0_; have HB := n1_; clear n0_ n1_; clear hb ho9)); try go_wp2_with (first | ((with_reducible refine gate_dst (N := 20) rfl ?_); (try (refine gate_guard (by rfl) ?_; dsimp only)); refine make0_R (Kd.int .u8) _ 5 rfl (N := 20) rfl 31 _ _ rfl ji5 rfl rfl Try.underlying31 (.int .u8 0) 1 info5 (by decide) (ok := fun _ => True) trivial (of_decide_eq_true (by first | (with_reducible assumption) | assumption)) (Nat.le_trans (Nat.mul_le_mul_right _ (of_decide_eq_true (by first | (with_reducible assumption) | assumption) : ji5.toNat ≤ 281474976710656)) (by omega)) (Below.refl _ _) (Nat.le_refl _) ?_; intro v102 w8 ho9 hb hg_ hnew_; clear hg_ hnew_; (first | rw [← Ny101.out] at ho9 | (simp only [Int.reduceToNat] at ho9; rw [← Ny101.out] at ho9)); have n0_ := Aside0.mk (Kd.R_lower ho9 (below_size (by repeat (first | (with_reducible first | exact HB.out | apply below_alloc | apply pw_below_drewN | apply below_drew1) | exact HB.out)))); have n1_ := Aside0.mk (below_step (by repeat (first | (with_reducible first | exact HB.out | apply below_alloc | apply pw_below_drewN | apply below_drew1) | exact HB.out)) hb); clear HB; have HO103 := n0_; have HB := n1_; clear n0_ n1_; clear hb ho9)))
            go_loopg [4, 5] kj1 (fun kq v4 v5 w' => ∃ (x4_2 : List Int) (x5_2 : Int), v5 = .int .i64 x5_2 ∧ Aside0 (impl_Unhex.l0 kq a0 x4_2 x5_2 = some (r1, r2)) ∧ Aside0 (kq ≤ kj1) ∧ Aside0 (Kd.R (Kd.int .u8) 5 w' w.heap.size (fun _ => True) v4 x4_2) ∧ Aside0 (Below w.heap.size w w'))
            case atStart => exact ⟨(y101), (0), (by first | rfl | (simp; done) | (simp [*]; done)), H', ⟨Nat.le_refl _⟩, ⟨by (with_reducible repeat (first | apply Kd.R_alloc | apply Kd.R_drewN | apply Kd.R_drew)); exact HO103.out⟩, ⟨by repeat (first | (with_reducible first | exact HB.out | apply below_alloc | apply pw_below_drewN | apply below_drew1) | exact HB.out)⟩⟩
            case round =>
              clear H'
              try clear c2
              try clear p2
              try clear c3
              try clear c3b0
              try clear c3b1
              try clear c4
              try clear c6
              try clear c6b0
              try clear c6b1
              try clear p6
              try clear c7
              try clear c7b0
              try clear c7b1
              try clear p2
              obtain ⟨x4_2, x5_2, rfl, HA, HK2, HO_4, HB⟩ := hrel
              cases gk with
              | zero => exact absurd HA.out (by simp [impl_Unhex.l0])
              | succ k2 =>
                have H := HA.out
                clear HA
                simp only [impl_Unhex.l0] at H
                by_cases c10 : x5_2 < (a0.size : Int)
                · rw [if_pos c10] at H
                  have c10b0 : decide (x5_2 < (a0.size : Int)) = true := decide_eq_true c10
                  clear c10
                  by_cases c11 : 0 ≤ x5_2
                  · rw [if_pos c11] at H
                    have c11b0 : decide (0 ≤ x5_2) = true := decide_eq_true c11
                    clear c11
                    replace H := Option.bind_eq_some_iff.mp H
                    obtain ⟨t104, A130, H⟩ := H
                    replace H : (if 0 ≤ (wrap64 (x5_2 + 1)) then (if (wrap64 (x5_2 + 1)) < (a0.size : Int) then ((strings_IndexByte.f (⟨#[48, 49, 50, 51, 52, 53, 54, 55, 56, 57, 97, 98, 99, 100, 101, 102]⟩ : ByteArray) (bt a0 (wrap64 (x5_2 + 1)))).bind fun t105 => (if t104 < 0 then (some ((⟨#[]⟩ : ByteArray), false)) else (if t105 < 0 then (some ((⟨#[]⟩ : ByteArray), false)) else (if x4_2.length < 140737488355328 then (impl_Unhex.l0 k2 a0 (x4_2 ++ [(Go.bits .or .i64 (wrap64 (t104 * 16)) t105) % 256]) (wrap64 (x5_2 + 2))) else (none))))) else (none)) else (none)) = some (r1, r2) := H
                    have A13 := Aside0.mk A130
                    clear A130
                    obtain ⟨ji14, hji14⟩ : ∃ j_ : Int, (wrap64 (x5_2 + 1)) = j_ := ⟨_, rfl⟩
                    replace H : (if 0 ≤ (ji14) then (if (ji14) < (a0.size : Int) then ((strings_IndexByte.f (⟨#[48, 49, 50, 51, 52, 53, 54, 55, 56, 57, 97, 98, 99, 100, 101, 102]⟩ : ByteArray) (bt a0 (ji14))).bind fun t105 => (if t104 < 0 then (some ((⟨#[]⟩ : ByteArray), false)) else (if t105 < 0 then (some ((⟨#[]⟩ : ByteArray), false)) else (if x4_2.length < 140737488355328 then (impl_Unhex.l0 k2 a0 (x4_2 ++ [(Go.bits .or .i64 (wrap64 (t104 * 16)) t105) % 256]) (wrap64 (x5_2 + 2))) else (none))))) else (none)) else (none)) = some (r1, r2) := by first | (rw [hji14] at H; exact H) | (simp only [hji14] at H ⊢; exact H)
                    (try rw [hji14] at A13)
                    have hji14w : (IntKind.i64.wrap (x5_2 + 1)) = ji14 := (i64_w _).trans hji14
                    (try rw [hji14] at hji5)
                    (try rw [hji14] at hji5w)
                    by_cases c15 : 0 ≤ (ji14)
                    · rw [if_pos c15] at H
                      have c15b0 : decide (0 ≤ (ji14)) = true := decide_eq_true c15
                      clear c15
                      by_cases c16 : (ji14) < (a0.size : Int)
                      · rw [if_pos c16] at H
                        have c16b0 : decide ((ji14) < (a0.size : Int)) = true := decide_eq_true c16
                        clear c16
                        replace H := Option.bind_eq_some_iff.mp H
                        obtain ⟨t105, A180, H⟩ := H
                        replace H : (if t104 < 0 then (some ((⟨#[]⟩ : ByteArray), false)) else (if t105 < 0 then (some ((⟨#[]⟩ : ByteArray), false)) else (if x4_2.length < 140737488355328 then (impl_Unhex.l0 k2 a0 (x4_2 ++ [(Go.bits .or .i64 (wrap64 (t104 * 16)) t105) % 256]) (wrap64 (x5_2 + 2))) else (none)))) = some (r1, r2) := H
                        have A18 := Aside0.mk A180
                        clear A180
                        by_cases c19 : t104 < 0
                        · rw [if_pos c19] at H
                          have c19b0 : decide (t104 < 0) = true := decide_eq_true c19
                          clear c19
                          simp only [Option.some.injEq, Prod.mk.injEq] at H
                          obtain ⟨rfl, rfl⟩ := H
                          have p12 : 0 ≤ (x5_2 : Int) := of_decide_eq_true (by first | (with_reducible assumption) | assumption)
                          have q12 : x5_2 < (a0.size : Int) := of_decide_eq_true (by first | (with_reducible assumption) | assumption)
                          have hx12 := bt_at a0 x5_2
                          replace p12 := eq_true p12
                          replace q12 := eq_true q12
                          go_wp2_with (first | (go_at_call 43; (with_reducible refine (strings_IndexByte.calls (⟨#[48, 49, 50, 51, 52, 53, 54, 55, 56, 57, 97, 98, 99, 100, 101, 102]⟩ : ByteArray) (bt a0 x5_2) t104 _ A13.out).mono ?_); rintro e w' ⟨rfl, ⟨nd, rfl⟩⟩; (try first | exact ⟨rfl, _, World.drewN_drewN _ _ _⟩ | exact ⟨rfl, _, Eq.trans (World.drewN_drewN _ _ _) (congrArg (World.drewN _) (Nat.add_assoc _ _ _))⟩); have p17 : 0 ≤ ((ji14) : Int) := of_decide_eq_true (by first | (with_reducible assumption) | assumption); have q17 : (ji14) < (a0.size : Int) := of_decide_eq_true (by first | (with_reducible assumption) | assumption); have hx17 := bt_at a0 (ji14); replace p17 := eq_true p17; replace q17 := eq_true q17) | (go_at_call 43; (with_reducible refine (strings_IndexByte.calls (⟨#[48, 49, 50, 51, 52, 53, 54, 55, 56, 57, 97, 98, 99, 100, 101, 102]⟩ : ByteArray) (bt a0 (ji14)) t105 _ A18.out).mono ?_); rintro e w' ⟨rfl, ⟨nd, rfl⟩⟩; (try first | exact ⟨rfl, _, World.drewN_drewN _ _ _⟩ | exact ⟨rfl, _, Eq.trans (World.drewN_drewN _ _ _) (congrArg (World.drewN _) (Nat.add_assoc _ _ _))⟩)))
                          repeat (go_quiet (first | (go_at_call 43; (with_reducible refine (strings_IndexByte.calls (⟨#[48, 49, 50, 51, 52, 53, 54, 55, 56, 57, 97, 98, 99, 100, 101, 102]⟩ : ByteArray) (bt a0 x5_2) t104 _ A13.out).mono ?_); rintro e w' ⟨rfl, ⟨nd, rfl⟩⟩; (try first | exact ⟨rfl, _, World.drewN_drewN _ _ _⟩ | exact ⟨rfl, _, Eq.trans (World.drewN_drewN _ _ _) (congrArg (World.drewN _) (Nat.add_assoc _ _ _))⟩); have p17 : 0 ≤ ((ji14) : Int) := of_decide_eq_true (by first | (with_reducible assumption) | assumption); have q17 : (ji14) < (a0.size : Int) := of_decide_eq_true (by first | (with_reducible assumption) | assumption); have hx17 := bt_at a0 (ji14); replace p17 := eq_true p17; replace q17 := eq_true q17) | (go_at_call 43; (with_reducible refine (strings_IndexByte.calls (⟨#[48, 49, 50, 51, 52, 53, 54, 55, 56, 57, 97, 98, 99, 100, 101, 102]⟩ : ByteArray) (bt a0 (ji14)) t105 _ A18.out).mono ?_); rintro e w' ⟨rfl, ⟨nd, rfl⟩⟩; (try first | exact ⟨rfl, _, World.drewN_drewN _ _ _⟩ | exact ⟨rfl, _, Eq.trans (World.drewN_drewN _ _ _) (congrArg (World.drewN _) (Nat.add_assoc _ _ _))⟩))); try go_wp2_with (first | (go_at_call 43; (with_reducible refine (strings_IndexByte.calls (⟨#[48, 49, 50, 51, 52, 53, 54, 55, 56, 57, 97, 98, 99, 100, 101, 102]⟩ : ByteArray) (bt a0 x5_2) t104 _ A13.out).mono ?_); rintro e w' ⟨rfl, ⟨nd, rfl⟩⟩; (try first | exact ⟨rfl, _, World.drewN_drewN _ _ _⟩ | exact ⟨rfl, _, Eq.trans (World.drewN_drewN _ _ _) (congrArg (World.drewN _) (Nat.add_assoc _ _ _))⟩); have p17 : 0 ≤ ((ji14) : Int) := of_decide_eq_true (by first | (with_reducible assumption) | assumption); have q17 : (ji14) < (a0.size : Int) := of_decide_eq_true (by first | (with_reducible assumption) | assumption); have hx17 := bt_at a0 (ji14); replace p17 := eq_true p17; replace q17 := eq_true q17) | (go_at_call 43; (with_reducible refine (strings_IndexByte.calls (⟨#[48, 49, 50, 51, 52, 53, 54, 55, 56, 57, 97, 98, 99, 100, 101, 102]⟩ : ByteArray) (bt a0 (ji14)) t105 _ A18.out).mono ?_); rintro e w' ⟨rfl, ⟨nd, rfl⟩⟩; (try first | exact ⟨rfl, _, World.drewN_drewN _ _ _⟩ | exact ⟨rfl, _, Eq.trans (World.drewN_drewN _ _ _) (congrArg (World.drewN _) (Nat.add_assoc _ _ _))⟩))))
                          go_ret2
                          exact ⟨by first | rfl | (simp [errW_none, errW_some] <;> rfl) | (simp only [← hji5, ← hji14]; first | rfl | (simp [errW_none, errW_some] <;> rfl)) | (simp [*, errW_none, errW_some] <;> rfl), by repeat (first | (with_reducible first | exact HB.out | apply below_alloc | apply pw_below_drewN | apply below_drew1) | exact HB.out)⟩
                        · rw [if_neg c19] at H
                          have c19b0 : decide (t104 < 0) = false := decide_eq_false c19
                          clear c19
                          by_cases c20 : t105 < 0
                          · rw [if_pos c20] at H
                            have c20b0 : decide (t105 < 0) = true := decide_eq_true c20
                            clear c20
                            simp only [Option.some.injEq, Prod.mk.injEq] at H
                            obtain ⟨rfl, rfl⟩ := H
                            have p12 : 0 ≤ (x5_2 : Int) := of_decide_eq_true (by first | (with_reducible assumption) | assumption)
                            have q12 : x5_2 < (a0.size : Int) := of_decide_eq_true (by first | (with_reducible assumption) | assumption)
                            have hx12 := bt_at a0 x5_2
                            replace p12 := eq_true p12
                            replace q12 := eq_true q12
                            go_wp2_with (first | (go_at_call 43; (with_reducible refine (strings_IndexByte.calls (⟨#[48, 49, 50, 51, 52, 53, 54, 55, 56, 57, 97, 98, 99, 100, 101, 102]⟩ : ByteArray) (bt a0 x5_2) t104 _ A13.out).mono ?_); rintro e w' ⟨rfl, ⟨nd, rfl⟩⟩; (try first | exact ⟨rfl, _, World.drewN_drewN _ _ _⟩ | exact ⟨rfl, _, Eq.trans (World.drewN_drewN _ _ _) (congrArg (World.drewN _) (Nat.add_assoc _ _ _))⟩); have p17 : 0 ≤ ((ji14) : Int) := of_decide_eq_true (by first | (with_reducible assumption) | assumption); have q17 : (ji14) < (a0.size : Int) := of_decide_eq_true (by first | (with_reducible assumption) | assumption); have hx17 := bt_at a0 (ji14); replace p17 := eq_true p17; replace q17 := eq_true q17) | (go_at_call 43; (with_reducible refine (strings_IndexByte.calls (⟨#[48, 49, 50, 51, 52, 53, 54, 55, 56, 57, 97, 98, 99, 100, 101, 102]⟩ : ByteArray) (bt a0 (ji14)) t105 _ A18.out).mono ?_); rintro e w' ⟨rfl, ⟨nd, rfl⟩⟩; (try first | exact ⟨rfl, _, World.drewN_drewN _ _ _⟩ | exact ⟨rfl, _, Eq.trans (World.drewN_drewN _ _ _) (congrArg (World.drewN _) (Nat.add_assoc _ _ _))⟩)))
                            repeat (go_quiet (first | (go_at_call 43; (with_reducible refine (strings_IndexByte.calls (⟨#[48, 49, 50, 51, 52, 53, 54, 55, 56, 57, 97, 98, 99, 100, 101, 102]⟩ : ByteArray) (bt a0 x5_2) t104 _ A13.out).mono ?_); rintro e w' ⟨rfl, ⟨nd, rfl⟩⟩; (try first | exact ⟨rfl, _, World.drewN_drewN _ _ _⟩ | exact ⟨rfl, _, Eq.trans (World.drewN_drewN _ _ _) (congrArg (World.drewN _) (Nat.add_assoc _ _ _))⟩); have p17 : 0 ≤ ((ji14) : Int) := of_decide_eq_true (by first | (with_reducible assumption) | assumption); have q17 : (ji14) < (a0.size : Int) := of_decide_eq_true (by first | (with_reducible assumption) | assumption); have hx17 := bt_at a0 (ji14); replace p17 := eq_true p17; replace q17 := eq_true q17) | (go_at_call 43; (with_reducible refine (strings_IndexByte.calls (⟨#[48, 49, 50, 51, 52, 53, 54, 55, 56, 57, 97, 98, 99, 100, 101, 102]⟩ : ByteArray) (bt a0 (ji14)) t105 _ A18.out).mono ?_); rintro e w' ⟨rfl, ⟨nd, rfl⟩⟩; (try first | exact ⟨rfl, _, World.drewN_drewN _ _ _⟩ | exact ⟨rfl, _, Eq.trans (World.drewN_drewN _ _ _) (congrArg (World.drewN _) (Nat.add_assoc _ _ _))⟩))); try go_wp2_with (first | (go_at_call 43; (with_reducible refine (strings_IndexByte.calls (⟨#[48, 49, 50, 51, 52, 53, 54, 55, 56, 57, 97, 98, 99, 100, 101, 102]⟩ : ByteArray) (bt a0 x5_2) t104 _ A13.out).mono ?_); rintro e w' ⟨rfl, ⟨nd, rfl⟩⟩; (try first | exact ⟨rfl, _, World.drewN_drewN _ _ _⟩ | exact ⟨rfl, _, Eq.trans (World.drewN_drewN _ _ _) (congrArg (World.drewN _) (Nat.add_assoc _ _ _))⟩); have p17 : 0 ≤ ((ji14) : Int) := of_decide_eq_true (by first | (with_reducible assumption) | assumption); have q17 : (ji14) < (a0.size : Int) := of_decide_eq_true (by first | (with_reducible assumption) | assumption); have hx17 := bt_at a0 (ji14); replace p17 := eq_true p17; replace q17 := eq_true q17) | (go_at_call 43; (with_reducible refine (strings_IndexByte.calls (⟨#[48, 49, 50, 51, 52, 53, 54, 55, 56, 57, 97, 98, 99, 100, 101, 102]⟩ : ByteArray) (bt a0 (ji14)) t105 _ A18.out).mono ?_); rintro e w' ⟨rfl, ⟨nd, rfl⟩⟩; (try first | exact ⟨rfl, _, World.drewN_drewN _ _ _⟩ | exact ⟨rfl, _, Eq.trans (World.drewN_drewN _ _ _) (congrArg (World.drewN _) (Nat.add_assoc _ _ _))⟩))))
                            go_ret2
                            exact ⟨by first | rfl | (simp [errW_none, errW_some] <;> rfl) | (simp only [← hji5, ← hji14]; first | rfl | (simp [errW_none, errW_some] <;> rfl)) | (simp [*, errW_none, errW_some] <;> rfl), by repeat (first | (with_reducible first | exact HB.out | apply below_alloc | apply pw_below_drewN | apply below_drew1) | exact HB.out)⟩
                          · rw [if_neg c20] at H
                            have c20b0 : decide (t105 < 0) = false := decide_eq_false c20
                            clear c20
                            by_cases c21 : x4_2.length < 140737488355328
                            · rw [if_pos c21] at H
                              have LMc21 := Aside0.mk c21
                              clear c21
                              obtain ⟨y106, hy106⟩ : ∃ y_ : List Int, y_ = (x4_2 ++ [(Go.bits .or .i64 (wrap64 (t104 * 16)) t105) % 256]) := ⟨_, rfl⟩
                              replace H : (impl_Unhex.l0 k2 a0 y106 (wrap64 (x5_2 + 2))) = some (r1, r2) := by first | (rw [hy106]; with_reducible exact H) | (have H2_ := (Option.bind_some _ _).symm.trans H; rw [hy106]; with_reducible exact H2_) | (have H2_ := (Option.bind_some _ _).symm.trans H; with_reducible exact H2_) | with_reducible exact H | (rw [hy106]; exact H) | exact H
                              have Ny106 := Aside0.mk hy106
                              clear hy106
                              have H' := Aside0.mk H
                              clear H
                              have p12 : 0 ≤ (x5_2 : Int) := of_decide_eq_true (by first | (with_reducible assumption) | assumption)
                              have q12 : x5_2 < (a0.size : Int) := of_decide_eq_true (by first | (with_reducible assumption) | assumption)
                              have hx12 := bt_at a0 x5_2
                              replace p12 := eq_true p12
                              replace q12 := eq_true q12
                              go_wp2_with (first | (go_at_call 43; (with_reducible refine (strings_IndexByte.calls (⟨#[48, 49, 50, 51, 52, 53, 54, 55, 56, 57, 97, 98, 99, 100, 101, 102]⟩ : ByteArray) (bt a0 x5_2) t104 _ A13.out).mono ?_); rintro e w' ⟨rfl, ⟨nd, rfl⟩⟩; (try first | exact ⟨rfl, _, World.drewN_drewN _ _ _⟩ | exact ⟨rfl, _, Eq.trans (World.drewN_drewN _ _ _) (congrArg (World.drewN _) (Nat.add_assoc _ _ _))⟩); have p17 : 0 ≤ ((ji14) : Int) := of_decide_eq_true (by first | (with_reducible assumption) | assumption); have q17 : (ji14) < (a0.size : Int) := of_decide_eq_true (by first | (with_reducible assumption) | assumption); have hx17 := bt_at a0 (ji14); replace p17 := eq_true p17; replace q17 := eq_true q17) | (go_at_call 43; (with_reducible refine (strings_IndexByte.calls (⟨#[48, 49, 50, 51, 52, 53, 54, 55, 56, 57, 97, 98, 99, 100, 101, 102]⟩ : ByteArray) (bt a0 (ji14)) t105 _ A18.out).mono ?_); rintro e w' ⟨rfl, ⟨nd, rfl⟩⟩; (try first | exact ⟨rfl, _, World.drewN_drewN _ _ _⟩ | exact ⟨rfl, _, Eq.trans (World.drewN_drewN _ _ _) (congrArg (World.drewN _) (Nat.add_assoc _ _ _))⟩)) | ((with_reducible refine gate_builtin (b := .append) (xs := #[.tmp 42, .tmp 48]) rfl ?_); (try (refine gate_guard (by rfl) ?_; dsimp only)); at_builtin; refine Kd.R_append (Kd.int .u8) (w0 := w) w.heap.size rfl (.tmp 42) (.tmp 48) 31 5 (.int .u8 0) 1 rfl Try.underlying31 info5 rfl (by decide) (by omega) u4 x4_2 ((Go.bits .or .i64 (wrap64 (t104 * 16)) t105) % 256) [.int .u8 ((Go.bits .or .i64 (wrap64 (t104 * 16)) t105) % 256)] (fun _ => True) (fun _ => False) rfl rfl ?aP (fun _ hk => hk.elim) ?aF ?aO ?aB ?aS ?aL ?_; (case aP => exact rfl); (case aB => exact (by repeat (first | (with_reducible first | exact HB.out | apply below_alloc | apply pw_below_drewN | apply below_drew1) | exact HB.out))); (case aF => exact (fun _ _ => trivial)); (case aO => exact (by (with_reducible repeat (first | apply Kd.R_alloc | apply Kd.R_drewN | apply Kd.R_drew)); exact HO_4.out)); (case aS => exact (below_size (by repeat (first | (with_reducible first | exact HB.out | apply below_alloc | apply pw_below_drewN | apply below_drew1) | exact HB.out)))); (case aL => have := LMc21.out; omega); intro v107 w22 ho hb hg hat; rw [← Ny106.out] at ho; have n0_ := Aside0.mk (hb); have n1_ := Aside0.mk (ho); clear HB; clear HO_4; have HB := n0_; have HO108 := n1_; clear n0_ n1_; clear ho hb hg hat))
                              repeat (go_quiet (first | (go_at_call 43; (with_reducible refine (strings_IndexByte.calls (⟨#[48, 49, 50, 51, 52, 53, 54, 55, 56, 57, 97, 98, 99, 100, 101, 102]⟩ : ByteArray) (bt a0 x5_2) t104 _ A13.out).mono ?_); rintro e w' ⟨rfl, ⟨nd, rfl⟩⟩; (try first | exact ⟨rfl, _, World.drewN_drewN _ _ _⟩ | exact ⟨rfl, _, Eq.trans (World.drewN_drewN _ _ _) (congrArg (World.drewN _) (Nat.add_assoc _ _ _))⟩); have p17 : 0 ≤ ((ji14) : Int) := of_decide_eq_true (by first | (with_reducible assumption) | assumption); have q17 : (ji14) < (a0.size : Int) := of_decide_eq_true (by first | (with_reducible assumption) | assumption); have hx17 := bt_at a0 (ji14); replace p17 := eq_true p17; replace q17 := eq_true q17) | (go_at_call 43; (with_reducible refine (strings_IndexByte.calls (⟨#[48, 49, 50, 51, 52, 53, 54, 55, 56, 57, 97, 98, 99, 100, 101, 102]⟩ : ByteArray) (bt a0 (ji14)) t105 _ A18.out).mono ?_); rintro e w' ⟨rfl, ⟨nd, rfl⟩⟩; (try first | exact ⟨rfl, _, World.drewN_drewN _ _ _⟩ | exact ⟨rfl, _, Eq.trans (World.drewN_drewN _ _ _) (congrArg (World.drewN _) (Nat.add_assoc _ _ _))⟩)) | ((with_reducible refine gate_builtin (b := .append) (xs := #[.tmp 42, .tmp 48]) rfl ?_); (try (refine gate_guard (by rfl) ?_; dsimp only)); at_builtin; refine Kd.R_append (Kd.int .u8) (w0 := w) w.heap.size rfl (.tmp 42) (.tmp 48) 31 5 (.int .u8 0) 1 rfl Try.underlying31 info5 rfl (by decide) (by omega) u4 x4_2 ((Go.bits .or .i64 (wrap64 (t104 * 16)) t105) % 256) [.int .u8 ((Go.bits .or .i64 (wrap64 (t104 * 16)) t105) % 256)] (fun _ => True) (fun _ => False) rfl rfl ?aP (fun _ hk => hk.elim) ?aF ?aO ?aB ?aS ?aL ?_; (case aP => exact rfl); (case aB => exact (by repeat (first | (with_reducible first | exact HB.out | apply below_alloc | apply pw_below_drewN | apply below_drew1) | exact HB.out))); (case aF => exact (fun _ _ => trivial)); (case aO => exact (by (with_reducible repeat (first | apply Kd.R_alloc | apply Kd.R_drewN | apply Kd.R_drew)); exact HO_4.out)); (case aS => exact (below_size (by repeat (first | (with_reducible first | exact HB.out | apply below_alloc | apply pw_below_drewN | apply below_drew1) | exact HB.out)))); (case aL => have := LMc21.out; omega); intro v107 w22 ho hb hg hat; rw [← Ny106.out] at ho; have n0_ := Aside0.mk (hb); have n1_ := Aside0.mk (ho); clear HB; clear HO_4; have HB := n0_; have HO108 := n1_; clear n0_ n1_; clear ho hb hg hat)); try go_wp2_with (first | (go_at_call 43; (with_reducible refine (strings_IndexByte.calls (⟨#[48, 49, 50, 51, 52, 53, 54, 55, 56, 57, 97, 98, 99, 100, 101, 102]⟩ : ByteArray) (bt a0 x5_2) t104 _ A13.out).mono ?_); rintro e w' ⟨rfl, ⟨nd, rfl⟩⟩; (try first | exact ⟨rfl, _, World.drewN_drewN _ _ _⟩ | exact ⟨rfl, _, Eq.trans (World.drewN_drewN _ _ _) (congrArg (World.drewN _) (Nat.add_assoc _ _ _))⟩); have p17 : 0 ≤ ((ji14) : Int) := of_decide_eq_true (by first | (with_reducible assumption) | assumption); have q17 : (ji14) < (a0.size : Int) := of_decide_eq_true (by first | (with_reducible assumption) | assumption); have hx17 := bt_at a0 (ji14); replace p17 := eq_true p17; replace q17 := eq_true q17) | (go_at_call 43; (with_reducible refine (strings_IndexByte.calls (⟨#[48, 49, 50, 51, 52, 53, 54, 55, 56, 57, 97, 98, 99, 100, 101, 102]⟩ : ByteArray) (bt a0 (ji14)) t105 _ A18.out).mono ?_); rintro e w' ⟨rfl, ⟨nd, rfl⟩⟩; (try first | exact ⟨rfl, _, World.drewN_drewN _ _ _⟩ | exact ⟨rfl, _, Eq.trans (World.drewN_drewN _ _ _) (congrArg (World.drewN _) (Nat.add_assoc _ _ _))⟩)) | ((with_reducible refine gate_builtin (b := .append) (xs := #[.tmp 42, .tmp 48]) rfl ?_); (try (refine gate_guard (by rfl) ?_; dsimp only)); at_builtin; refine Kd.R_append (Kd.int .u8) (w0 := w) w.heap.size rfl (.tmp 42) (.tmp 48) 31 5 (.int .u8 0) 1 rfl Try.underlying31 info5 rfl (by decide) (by omega) u4 x4_2 ((Go.bits .or .i64 (wrap64 (t104 * 16)) t105) % 256) [.int .u8 ((Go.bits .or .i64 (wrap64 (t104 * 16)) t105) % 256)] (fun _ => True) (fun _ => False) rfl rfl ?aP (fun _ hk => hk.elim) ?aF ?aO ?aB ?aS ?aL ?_; (case aP => exact rfl); (case aB => exact (by repeat (first | (with_reducible first | exact HB.out | apply below_alloc | apply pw_below_drewN | apply below_drew1) | exact HB.out))); (case aF => exact (fun _ _ => trivial)); (case aO => exact (by (with_reducible repeat (first | apply Kd.R_alloc | apply Kd.R_drewN | apply Kd.R_drew)); exact HO_4.out)); (case aS => exact (below_size (by repeat (first | (with_reducible first | exact HB.out | apply below_alloc | apply pw_below_drewN | apply below_drew1) | exact HB.out)))); (case aL => have := LMc21.out; omega); intro v107 w22 ho hb hg hat; rw [← Ny106.out] at ho; have n0_ := Aside0.mk (hb); have n1_ := Aside0.mk (ho); clear HB; clear HO_4; have HB := n0_; have HO108 := n1_; clear n0_ n1_; clear ho hb hg hat)))
                              go_roundg k2
                              case measure => have := HJ1.out; have := HK2.out; omega
                              case rel => exact ⟨(y106), (wrap64 (x5_2 + 2)), (by first | rfl | (simp; done) | (simp [*]; done)), H', ⟨by have := HJ1.out; have := HK2.out; omega⟩, ⟨by (with_reducible repeat (first | apply Kd.R_alloc | apply Kd.R_drewN | apply Kd.R_drew)); exact HO108.out⟩, ⟨by repeat (first | (with_reducible first | exact HB.out | apply below_alloc | apply pw_below_drewN | apply below_drew1) | exact HB.out)⟩⟩
                            · rw [if_neg c21] at H
                              exact absurd H (by simp)
                      · rw [if_neg c16] at H
                        exact absurd H (by simp)
                    · rw [if_neg c15] at H
                      exact absurd H (by simp)
                  · rw [if_neg c11] at H
                    exact absurd H (by simp)
                · rw [if_neg c10] at H
                  have c10b0 : decide (x5_2 < (a0.size : Int)) = false := decide_eq_false c10
                  clear c10
                  simp only [Option.some.injEq, Prod.mk.injEq] at H
                  obtain ⟨rfl, rfl⟩ := H
                  have hcv23 := own_string (P := Try.prog) Try.underlying31 Try.underlying5 Try.underlying9 (Kd.own_of_R HO_4.out)
                  go_wp2
                  repeat (go_quiet (fail); try go_wp2)
                  go_ret2
                  exact ⟨by first | rfl | (simp [errW_none, errW_some] <;> rfl) | (simp only [← hji5]; first | rfl | (simp [errW_none, errW_some] <;> rfl)) | (simp [*, errW_none, errW_some] <;> rfl), by repeat (first | (with_reducible first | exact HB.out | apply below_alloc | apply pw_below_drewN | apply below_drew1) | exact HB.out)⟩
          · rw [if_neg c7] at H
            exact absurd H (by simp)
        · rw [if_neg c6] at H
          exact absurd H (by simp)

end Go.Proofs.Ythnembgbooaplaa.P

namespace Go.Proofs.Ythnembgbooaplaa.P
open Go.RowKit Go.Proofs.YthnembgbooaplaaW.PrintWords Go.Proofs.YthnembgbooaplaaW.PrintLast Go.Proofs.YthnembgbooaplaaW.PrintMore
attribute [local go_sem] max2_int min2_int max_two min_two max_three min_three max_four min_four
set_option linter.unusedVariables false
set_option linter.unusedSimpArgs false

/-! ### impl_in: function 26 -/
def impl_in.f (a0 : Int) (a1 : Int) (a2 : Int) : Option (Bool) := if a1 ≤ a0 then (some (decide (a0 ≤ a2))) else (some false)
set_option maxHeartbeats 8000000 in
set_option maxRecDepth 100000 in
theorem impl_in.calls (a0 : Int) (a1 : Int) (a2 : Int) (r : Bool) (w : World) (h : impl_in.f a0 a1 a2 = some r) :
    Calls Try.prog 26 #[.int .i64 a0, .int .i64 a1, .int .i64 a2] w fun e w' => e = .returned (.bool r) ∧ Drawn0 w w' := by
  have H : (if a1 ≤ a0 then (some (decide (a0 ≤ a2))) else (some false)) = some r := h
  clear h
  by_cases c4 : a1 ≤ a0
  · rw [if_pos c4] at H
    have c4b0 : decide (a1 ≤ a0) = true := decide_eq_true c4
    clear c4
    obtain rfl := Option.some.inj H
    go_enter Try.func26, Try.ntmps26
    go_wp2
    go_ret
    exact ⟨by first | rfl | (simp; done) | (simp [*]; done), by repeat (first | exact Drawn0.refl _ | apply Drawn0.step)⟩
  · rw [if_neg c4] at H
    have c4b0 : decide (a1 ≤ a0) = false := decide_eq_false c4
    clear c4
    obtain rfl := Option.some.inj H
    go_enter Try.func26, Try.ntmps26
    go_wp2
    go_ret
    exact ⟨by first | rfl | (simp; done) | (simp [*]; done), by repeat (first | exact Drawn0.refl _ | apply Drawn0.step)⟩

end Go.Proofs.Ythnembgbooaplaa.P

namespace Go.Proofs.Ythnembgbooaplaa.P
open Go.RowKit Go.Proofs.YthnembgbooaplaaW.PrintWords Go.Proofs.YthnembgbooaplaaW.PrintLast Go.Proofs.YthnembgbooaplaaW.PrintMore
set_option maxRecDepth 100000
set_option maxHeartbeats 8000000
theorem below_undrew {w w1 : World} {n : Nat} (h : Below (w.drewN n).heap.size (w.drewN n) w1) : Below w.heap.size w w1 := ⟨h.os, h.tape, h.output, h.size, h.block⟩
def impl_BodyIn.f (k : Nat) (a0 : ByteArray) : Option (ByteArray × ByteArray × Bool) :=
  if a0.size ≤ 140737488351232 then
    if a0.size < 69 ∨ 8069 < a0.size then some (⟨#[]⟩, ⟨#[]⟩, false)
    else if 69 < a0.size ∧ bt a0 ((a0.size - 69 : Nat) - 1) ≠ 10 then some (⟨#[]⟩, ⟨#[]⟩, false)
    else (strings_CutPrefix.f ((a0.extract (a0.size - 69) a0.size).extract 0 (a0.size - (a0.size - 69) - 1)) ⟨#[116, 97, 103, 32]⟩).bind fun u => (impl_Unhex.f k u.1).bind fun v =>
      if u.2 = true ∧ v.2 = true ∧ bt (a0.extract (a0.size - 69) a0.size) ((a0.size - (a0.size - 69) : Nat) - 1) = 10 then some (a0.extract 0 (a0.size - 69), v.1, true) else some (⟨#[]⟩, ⟨#[]⟩, false)
  else none
theorem impl_BodyIn.mono : ∀ a0 k, LeO (impl_BodyIn.f k a0) (impl_BodyIn.f (k + 1) a0) := by
  intro a0 k
  unfold impl_BodyIn.f
  repeat' first
      | (with_reducible exact impl_Unhex.mono _ _)
      | (with_reducible exact LeO.refl _)
      | (with_reducible exact LeO.none _)
      | (with_reducible refine LeO.ite ?_ ?_)
      | (with_reducible refine LeO.bind ?_ (fun _ => ?_))
theorem impl_BodyIn.out (a0 : ByteArray) (w : World) (h : (a0.size : Int) < 69 ∨ 8069 < (a0.size : Int)) (hB : a0.size ≤ 140737488351232) :
    Calls Try.prog 10 #[.string a0] w fun e w' => e = .returned (.tuple #[.string ⟨#[]⟩, .string ⟨#[]⟩, .bool false]) ∧ Below w.heap.size w w' := by
  rcases h with h | h
  all_goals
    go_enter Try.func10, Try.ntmps10
    go_wp2
    go_ret3
    exact ⟨rfl, Below.refl _ _⟩
theorem impl_BodyIn.line (a0 : ByteArray) (w : World) (n : Nat) (hn : n + 69 = a0.size) (h1 : n ≤ 8000) (h1' : 0 < n) (h3 : bt a0 ((n : Int) - 1) ≠ 10) :
    Calls Try.prog 10 #[.string a0] w fun e w' => e = .returned (.tuple #[.string ⟨#[]⟩, .string ⟨#[]⟩, .bool false]) ∧ Below w.heap.size w w' := by
  have hx : ((a0[n - 1]'(by omega)).toNat : Int) = bt a0 ((n : Int) - 1) := by
    rw [← bt_at a0 _ (by omega)]; congr 3; omega
  have h3' : (((a0[n - 1]'(by omega)).toNat : Int) != 10) = true := by rw [hx]; exact bne_iff_ne.mpr h3
  clear hx h3
  have e1 : (a0.size : Int) - 4 - 64 - 1 = (n : Int) := by omega
  go_enter Try.func10, Try.ntmps10
  go_wp2
  go_ret3
  exact ⟨rfl, Below.refl _ _⟩
theorem impl_BodyIn.main (k : Nat) (a0 : ByteArray) (w : World) (n : Nat) (hn : n + 69 = a0.size) (h1 : n ≤ 8000) (h3 : n = 0 ∨ (0 < n ∧ bt a0 ((n : Int) - 1) = 10)) (u1 u3 : ByteArray) (u2 u4 : Bool)
    (hc : Aside0 (strings_CutPrefix.f ((a0.extract n a0.size).extract 0 (a0.size - n - 1)) (⟨#[116, 97, 103, 32]⟩ : ByteArray) = some (u1, u2)))
    (hU : Aside0 (impl_Unhex.f k u1 = some (u3, u4))) (l : Bool) (hl : l = (bt (a0.extract n a0.size) ((a0.size - n : Nat) - 1) != 10)) :
    Calls Try.prog 10 #[.string a0] w fun e w' => e = .returned (if u2 && u4 && !l then .tuple #[.string (a0.extract 0 n), .string u3, .bool true] else .tuple #[.string ⟨#[]⟩, .string ⟨#[]⟩, .bool false]) ∧ Below w.heap.size w w' := by
  have hlt : a0.size - n - 1 < (a0.extract n a0.size).size := by simp; omega
  have hx4 : (((a0.extract n a0.size)[a0.size - n - 1]'hlt).toNat : Int) = bt (a0.extract n a0.size) ((a0.size - n : Nat) - 1) := by
    rw [← bt_at (a0.extract n a0.size) _ (by omega)]; congr 3; omega
  have h4 : ((((a0.extract n a0.size)[a0.size - n - 1]'hlt).toNat : Int) != 10) = l := by rw [hx4]; exact hl.symm
  clear hx4 hl
  have e1 : (a0.size : Int) - 4 - 64 - 1 = (n : Int) := by omega
  have hq : n < a0.size := by omega
  rcases h3 with h3 | ⟨h30, h3⟩
  · have hn0 : (n : Int) ≤ 0 := by omega
    clear h3
    cases u2 <;> cases u4 <;> cases l
    all_goals
      go_enter Try.func10, Try.ntmps10
      go_wp2_with (first | (go_at_call 26; go_in) | (go_at_call 27; fail))
      go_quiet (fail)
      go_wp2_with (first | (go_at_call 27; (refine (strings_CutPrefix.calls _ _ u1 _ _ hc.out).mono ?_); rintro e w' ⟨rfl, ⟨nd, rfl⟩⟩) | (go_at_call 28; (refine (impl_Unhex.calls k u1 u3 _ _ hU.out).mono ?_); rintro e w1 ⟨rfl, hb⟩))
      go_ret3
      exact ⟨rfl, below_undrew hb⟩
  · have hx : ((a0[n - 1]'(by omega)).toNat : Int) = bt a0 ((n : Int) - 1) := by
      rw [← bt_at a0 _ (by omega)]; congr 3; omega
    have h3' : (((a0[n - 1]'(by omega)).toNat : Int) != 10) = false := by rw [hx]; exact bne_eq_false_iff_eq.mpr h3
    clear hx h3
    cases u2 <;> cases u4 <;> cases l
    all_goals
      go_enter Try.func10, Try.ntmps10
      go_wp2_with (first | (go_at_call 26; go_in) | (go_at_call 27; fail))
      go_quiet (fail)
      go_wp2_with (first | (go_at_call 27; (refine (strings_CutPrefix.calls _ _ u1 _ _ hc.out).mono ?_); rintro e w' ⟨rfl, ⟨nd, rfl⟩⟩) | (go_at_call 28; (refine (impl_Unhex.calls k u1 u3 _ _ hU.out).mono ?_); rintro e w1 ⟨rfl, hb⟩))
      go_ret3
      exact ⟨rfl, below_undrew hb⟩
theorem impl_BodyIn.calls (k : Nat) (a0 : ByteArray) (r1 r2 : ByteArray) (r3 : Bool) (w : World) (h : impl_BodyIn.f k a0 = some (r1, r2, r3)) :
    Calls Try.prog 10 #[.string a0] w fun e w' => e = .returned (.tuple #[.string r1, .string r2, .bool r3]) ∧ Below w.heap.size w w' := by
  unfold impl_BodyIn.f at h
  by_cases hB : a0.size ≤ 140737488351232
  · rw [if_pos hB] at h
    by_cases c1 : a0.size < 69 ∨ 8069 < a0.size
    · rw [if_pos c1] at h
      simp only [Option.some.injEq, Prod.mk.injEq] at h
      obtain ⟨rfl, rfl, rfl⟩ := h
      exact impl_BodyIn.out a0 w (by omega) hB
    · rw [if_neg c1] at h
      obtain ⟨n, hn⟩ : ∃ n, n = a0.size - 69 := ⟨_, rfl⟩
      rw [← hn] at h
      by_cases c2 : 69 < a0.size ∧ bt a0 ((n : Nat) - 1) ≠ 10
      · rw [if_pos c2] at h
        simp only [Option.some.injEq, Prod.mk.injEq] at h
        obtain ⟨rfl, rfl, rfl⟩ := h
        exact impl_BodyIn.line a0 w n (by omega) (by omega) (by omega) c2.2
      · rw [if_neg c2] at h
        obtain ⟨⟨u1, u2⟩, hu, h⟩ := Option.bind_eq_some_iff.mp h
        obtain ⟨⟨u3, u4⟩, hv, h⟩ := Option.bind_eq_some_iff.mp h
        have h3 : n = 0 ∨ (0 < n ∧ bt a0 ((n : Int) - 1) = 10) := by
          by_cases h0 : n = 0
          · exact .inl h0
          · exact .inr ⟨by omega, Decidable.byContradiction fun hc => c2 ⟨by omega, hc⟩⟩
        have := impl_BodyIn.main k a0 w n (by omega) (by omega) h3 u1 u3 u2 u4 ⟨hu⟩ ⟨hv⟩ _ rfl
        refine this.mono fun e w' he => ⟨he.1.trans ?_, he.2⟩
        simp only at h
        by_cases c3 : u2 = true ∧ u4 = true ∧ bt (a0.extract n a0.size) ((a0.size - n : Nat) - 1) = 10
        · rw [if_pos c3] at h
          simp only [Option.some.injEq, Prod.mk.injEq] at h
          obtain ⟨rfl, rfl, rfl⟩ := h
          rw [c3.1, c3.2.1, c3.2.2]
          rfl
        · rw [if_neg c3] at h
          simp only [Option.some.injEq, Prod.mk.injEq] at h
          obtain ⟨rfl, rfl, rfl⟩ := h
          rw [if_neg]
          intro hh
          simp only [Bool.and_eq_true, Bool.not_eq_true', bne_eq_false_iff_eq] at hh
          exact c3 ⟨hh.1.1, hh.1.2, hh.2⟩
  · rw [if_neg hB] at h
    cases h
end Go.Proofs.Ythnembgbooaplaa.P

namespace Go.Proofs.Ythnembgbooaplaa.P
open Go.RowKit Go.Proofs.YthnembgbooaplaaW.PrintWords Go.Proofs.YthnembgbooaplaaW.PrintLast Go.Proofs.YthnembgbooaplaaW.PrintMore
attribute [local go_sem] max2_int min2_int max_two min_two max_three min_three max_four min_four
set_option linter.unusedVariables false
set_option linter.unusedSimpArgs false

/-! ### spec_l01Value: function 41 -/
def spec_l01Value.j0 : Nat → Int → Bool → Option (Int)
  | 0, _, _ => none
  | k + 1, x0, x8 => if x8 = true then (some (wrap64 ((wrap64 (x0)) - 48))) else (if x0 ≥ 97 then (if x0 ≤ 102 then (some (wrap64 ((wrap64 ((wrap64 (x0)) - 97)) + 10))) else (some (-1))) else (some (-1)))
def spec_l01Value.f (k : Nat) (a0 : Int) : Option (Int) := if a0 ≥ 48 then (spec_l01Value.j0 k a0 (decide (a0 ≤ 57))) else (spec_l01Value.j0 k a0 false)
theorem spec_l01Value.mono_l : ∀ k, (∀ y0 y1, LeO (spec_l01Value.j0 k y0 y1) (spec_l01Value.j0 (k + 1) y0 y1))
  | 0 => fun _ _ r h => by simp [spec_l01Value.j0] at h
  | k + 1 => by
    have ih0 := spec_l01Value.mono_l k
    · intro y0 y1
      unfold spec_l01Value.j0
      repeat' first
      | (with_reducible exact ih0 _ _)
      | (with_reducible exact LeO.refl _)
      | (with_reducible exact LeO.none _)
      | (with_reducible refine LeO.ite ?_ ?_)
      | (with_reducible refine LeO.bind ?_ (fun _ => ?_))
      | exact ih0 _ _
      | exact LeO.none _
      | refine LeO.ite ?_ ?_
      | refine LeO.bind ?_ (fun _ => ?_)
theorem spec_l01Value.mono : ∀ a0 k, LeO (spec_l01Value.f k a0) (spec_l01Value.f (k + 1) a0) := by
  intro a0 k
  have ih0 := spec_l01Value.mono_l k
  unfold spec_l01Value.f
  repeat' first
      | (with_reducible exact ih0 _ _)
      | (with_reducible exact LeO.refl _)
      | (with_reducible exact LeO.none _)
      | (with_reducible refine LeO.ite ?_ ?_)
      | (with_reducible refine LeO.bind ?_ (fun _ => ?_))
      | exact ih0 _ _
      | exact LeO.none _
      | refine LeO.ite ?_ ?_
      | refine LeO.bind ?_ (fun _ => ?_)
set_option maxHeartbeats 8000000 in
set_option maxRecDepth 100000 in
theorem spec_l01Value.calls (k : Nat) (a0 : Int) (r : Int) (w : World) (h : spec_l01Value.f k a0 = some r) :
    Calls Try.prog 41 #[.int .u8 a0] w fun e w' => e = .returned (.int .i64 r) ∧ Drawn0 w w' := by
  have H : (if a0 ≥ 48 then (spec_l01Value.j0 k a0 (decide (a0 ≤ 57))) else (spec_l01Value.j0 k a0 false)) = some r := h
  clear h
  have HC2 := Aside0.mk H
  clear H
  go_enter Try.func41, Try.ntmps41
  go_upto_region 1 with (fail)
  go_cut [8] (fun v8 wc => ∃ (kq : Nat) (x8_1 : Bool), v8 = .bool x8_1 ∧ Aside0 (spec_l01Value.j0 kq a0 x8_1 = some r) ∧ Aside0 (kq ≤ k) ∧ Drawn0 w wc)
  case first =>
    have H := HC2.out
    clear HC2
    by_cases c3 : a0 ≥ 48
    · rw [if_pos c3] at H
      have c3b0 : decide (48 ≤ a0) = true := decide_eq_true c3
      clear c3
      (first | rw [c3b0] | (simp only [i64_w, i32_w]; rw [c3b0]) | skip)
      have H' := Aside0.mk H
      clear H
      go_wp2
      go_meet
      case rel => exact ⟨_, (decide (a0 ≤ 57)), (by first | rfl | (simp; done) | (simp [*]; done)), H', ⟨by first | omega | exact Nat.le_refl _⟩, by repeat (first | exact Drawn0.refl _ | apply Drawn0.step)⟩
    · rw [if_neg c3] at H
      have c3b0 : decide (48 ≤ a0) = false := decide_eq_false c3
      clear c3
      (first | rw [c3b0] | (simp only [i64_w, i32_w]; rw [c3b0]) | skip)
      have H' := Aside0.mk H
      clear H
      go_wp2
      go_meet
      case rel => exact ⟨_, (false), (by first | rfl | (simp; done) | (simp [*]; done)), H', ⟨by first | omega | exact Nat.le_refl _⟩, by repeat (first | exact Drawn0.refl _ | apply Drawn0.step)⟩
  case rest =>
    clear HC2
    try clear p2
    try clear c3
    try clear c3b0
    obtain ⟨kq, x8_1, rfl, HA, HJ1, ⟨mc1, rfl⟩⟩ := hcut
    cases kq with
    | zero => exact absurd HA.out (by simp [spec_l01Value.j0])
    | succ kj1 =>
      have H := HA.out
      clear HA
      simp only [spec_l01Value.j0] at H
      by_cases c4 : x8_1 = true
      · subst c4
        have H1 : (some (wrap64 ((wrap64 (a0)) - 48))) = some r := by rw [if_pos rfl] at H; exact H
        clear H
        have H := H1
        clear H1
        obtain rfl := Option.some.inj H
        go_wp2
        go_ret
        exact ⟨by first | rfl | (simp; done) | (simp [*]; done), by repeat (first | exact Drawn0.refl _ | apply Drawn0.step)⟩
      · replace c4 := Bool.eq_false_iff.mpr c4
        subst c4
        have H1 : (if a0 ≥ 97 then (if a0 ≤ 102 then (some (wrap64 ((wrap64 ((wrap64 (a0)) - 97)) + 10))) else (some (-1))) else (some (-1))) = some r := by rw [if_neg (show ¬ (false = true) by decide)] at H; exact H
        clear H
        have H := H1
        clear H1
        by_cases c5 : a0 ≥ 97
        · rw [if_pos c5] at H
          have c5b0 : decide (97 ≤ a0) = true := decide_eq_true c5
          clear c5
          by_cases c6 : a0 ≤ 102
          · rw [if_pos c6] at H
            have c6b0 : decide (a0 ≤ 102) = true := decide_eq_true c6
            clear c6
            obtain rfl := Option.some.inj H
            go_wp2
            go_ret
            exact ⟨by first | rfl | (simp; done) | (simp [*]; done), by repeat (first | exact Drawn0.refl _ | apply Drawn0.step)⟩
          · rw [if_neg c6] at H
            have c6b0 : decide (a0 ≤ 102) = false := decide_eq_false c6
            clear c6
            obtain rfl := Option.some.inj H
            go_wp2
            go_ret
            exact ⟨by first | rfl | (simp; done) | (simp [*]; done), by repeat (first | exact Drawn0.refl _ | apply Drawn0.step)⟩
        · rw [if_neg c5] at H
          have c5b0 : decide (97 ≤ a0) = false := decide_eq_false c5
          clear c5
          obtain rfl := Option.some.inj H
          go_wp2
          go_ret
          exact ⟨by first | rfl | (simp; done) | (simp [*]; done), by repeat (first | exact Drawn0.refl _ | apply Drawn0.step)⟩

end Go.Proofs.Ythnembgbooaplaa.P

namespace Go.Proofs.Ythnembgbooaplaa.P
open Go.RowKit Go.Proofs.YthnembgbooaplaaW.PrintWords Go.Proofs.YthnembgbooaplaaW.PrintLast Go.Proofs.YthnembgbooaplaaW.PrintMore
attribute [local go_sem] max2_int min2_int max_two min_two max_three min_three max_four min_four
set_option linter.unusedVariables false
set_option linter.unusedSimpArgs false

/-! ### spec_Unhex: function 25 -/
mutual
def spec_Unhex.j0 : Nat → ByteArray → Bool → Option (ByteArray × Bool)
  | 0, _, _ => none
  | k + 1, x0, x16 => if x16 = true then (some ((⟨#[]⟩ : ByteArray), false)) else (spec_Unhex.l0 k x0 (([] : List Int)) 0)
def spec_Unhex.l0 : Nat → ByteArray → List Int → Int → Option (ByteArray × Bool)
  | 0, _, _, _ => none
  | k + 1, x0, x4, x5 => if x5 < (x0.size : Int) then (if 0 ≤ x5 then ((spec_l01Value.f k (bt x0 x5)).bind fun t104 => (if 0 ≤ (wrap64 (x5 + 1)) then (if (wrap64 (x5 + 1)) < (x0.size : Int) then ((spec_l01Value.f k (bt x0 (wrap64 (x5 + 1)))).bind fun t105 => (if t104 < 0 then (some ((⟨#[]⟩ : ByteArray), false)) else (if t105 < 0 then (some ((⟨#[]⟩ : ByteArray), false)) else (if x4.length < 140737488355328 then (spec_Unhex.l0 k x0 (x4 ++ [(wrap64 ((wrap64 (16 * t104)) + t105)) % 256]) (wrap64 (x5 + 2))) else (none))))) else (none)) else (none))) else (none)) else (some (strOfNums x4, true))
end
def spec_Unhex.f (k : Nat) (a0 : ByteArray) : Option (ByteArray × Bool) := if (a0.size : Int) > 40000 then (spec_Unhex.j0 k a0 true) else (spec_Unhex.j0 k a0 (((a0.size : Int) % 2) != 0))
theorem spec_Unhex.mono_l : ∀ k, (∀ y0 y1, LeO (spec_Unhex.j0 k y0 y1) (spec_Unhex.j0 (k + 1) y0 y1)) ∧ (∀ y0 y1 y2, LeO (spec_Unhex.l0 k y0 y1 y2) (spec_Unhex.l0 (k + 1) y0 y1 y2))
  | 0 => ⟨fun _ _ r h => by simp [spec_Unhex.j0] at h, fun _ _ _ r h => by simp [spec_Unhex.l0] at h⟩
  | k + 1 => by
    obtain ⟨ih0, ih1⟩ := spec_Unhex.mono_l k
    refine ⟨?_, ?_⟩
    · intro y0 y1
      unfold spec_Unhex.j0
      repeat' first
      | (with_reducible exact ih0 _ _)
      | (with_reducible exact ih1 _ _ _)
      | (with_reducible exact spec_l01Value.mono _ _)
      | (with_reducible exact LeO.refl _)
      | (with_reducible exact LeO.none _)
      | (with_reducible refine LeO.ite ?_ ?_)
      | (with_reducible refine LeO.bind ?_ (fun _ => ?_))
      | exact ih0 _ _
      | exact ih1 _ _ _
      | exact spec_l01Value.mono _ _
      | exact LeO.none _
      | refine LeO.ite ?_ ?_
      | refine LeO.bind ?_ (fun _ => ?_)
    · intro y0 y1 y2
      unfold spec_Unhex.l0
      repeat' first
      | (with_reducible exact ih0 _ _)
      | (with_reducible exact ih1 _ _ _)
      | (with_reducible exact spec_l01Value.mono _ _)
      | (with_reducible exact LeO.refl _)
      | (with_reducible exact LeO.none _)
      | (with_reducible refine LeO.ite ?_ ?_)
      | (with_reducible refine LeO.bind ?_ (fun _ => ?_))
      | exact ih0 _ _
      | exact ih1 _ _ _
      | exact spec_l01Value.mono _ _
      | exact LeO.none _
      | refine LeO.ite ?_ ?_
      | refine LeO.bind ?_ (fun _ => ?_)
theorem spec_Unhex.mono : ∀ a0 k, LeO (spec_Unhex.f k a0) (spec_Unhex.f (k + 1) a0) := by
  intro a0 k
  obtain ⟨ih0, ih1⟩ := spec_Unhex.mono_l k
  unfold spec_Unhex.f
  repeat' first
      | (with_reducible exact ih0 _ _)
      | (with_reducible exact ih1 _ _ _)
      | (with_reducible exact spec_l01Value.mono _ _)
      | (with_reducible exact LeO.refl _)
      | (with_reducible exact LeO.none _)
      | (with_reducible refine LeO.ite ?_ ?_)
      | (with_reducible refine LeO.bind ?_ (fun _ => ?_))
      | exact ih0 _ _
      | exact ih1 _ _ _
      | exact spec_l01Value.mono _ _
      | exact LeO.none _
      | refine LeO.ite ?_ ?_
      | refine LeO.bind ?_ (fun _ => ?_)
set_option maxHeartbeats 8000000 in
set_option maxRecDepth 100000 in
theorem spec_Unhex.calls (k : Nat) (a0 : ByteArray) (r1 : ByteArray) (r2 : Bool) (w : World) (h : spec_Unhex.f k a0 = some (r1, r2)) :
    Calls Try.prog 25 #[.string a0] w fun e w' => e = .returned (.tuple #[.string r1, .bool r2]) ∧ Below w.heap.size w w' := by
  have HB := Aside0.mk (Below.refl w.heap.size w)
  have H : (if (a0.size : Int) > 40000 then (spec_Unhex.j0 k a0 true) else (spec_Unhex.j0 k a0 (((a0.size : Int) % 2) != 0))) = some (r1, r2) := h
  clear h
  have HC2 := Aside0.mk H
  clear H
  go_enter Try.func25, Try.ntmps25
  go_upto_region 1 with (fail)
  go_cut [16] (fun v16 wc => ∃ (kq : Nat) (x16_1 : Bool), v16 = .bool x16_1 ∧ Aside0 (spec_Unhex.j0 kq a0 x16_1 = some (r1, r2)) ∧ Aside0 (kq ≤ k) ∧ Aside0 (Below w.heap.size w wc))
  case first =>
    have H := HC2.out
    clear HC2
    by_cases c3 : (a0.size : Int) > 40000
    · rw [if_pos c3] at H
      have c3b0 : decide (40000 < (a0.size : Int)) = true := decide_eq_true c3
      have c3b1 : decide (40000 < a0.size) = true := decide_eq_true (by omega)
      clear c3
      (first | rw [c3b0] | (simp only [i64_w, i32_w]; rw [c3b0]) | skip)
      have H' := Aside0.mk H
      clear H
      go_wp2
      go_meet
      case rel => exact ⟨_, (true), (by first | rfl | (simp; done) | (simp [*]; done)), H', ⟨by first | omega | exact Nat.le_refl _⟩, ⟨by repeat (first | (with_reducible first | exact HB.out | apply below_alloc | apply pw_below_drewN | apply below_drew1) | exact HB.out)⟩⟩
    · rw [if_neg c3] at H
      have c3b0 : decide (40000 < (a0.size : Int)) = false := decide_eq_false c3
      have c3b1 : decide (40000 < a0.size) = false := decide_eq_false (by omega)
      clear c3
      (first | rw [c3b0] | (simp only [i64_w, i32_w]; rw [c3b0]) | skip)
      have H' := Aside0.mk H
      clear H
      go_wp2
      go_meet
      case rel => exact ⟨_, ((((a0.size : Int) % 2) != 0)), (by first | rfl | (simp; done) | (simp [*]; done)), H', ⟨by first | omega | exact Nat.le_refl _⟩, ⟨by repeat (first | (with_reducible first | exact HB.out | apply below_alloc | apply pw_below_drewN | apply below_drew1) | exact HB.out)⟩⟩
  case rest =>
    clear HC2
    try clear c2
    try clear p2
    try clear c3
    try clear c3b0
    try clear c3b1
    obtain ⟨kq, x16_1, rfl, HA, HJ1, HB⟩ := hcut
    cases kq with
    | zero => exact absurd HA.out (by simp [spec_Unhex.j0])
    | succ kj1 =>
      have H := HA.out
      clear HA
      simp only [spec_Unhex.j0] at H
      by_cases c4 : x16_1 = true
      · subst c4
        have H1 : (some ((⟨#[]⟩ : ByteArray), false)) = some (r1, r2) := by rw [if_pos rfl] at H; exact H
        clear H
        have H := H1
        clear H1
        simp only [Option.some.injEq, Prod.mk.injEq] at H
        obtain ⟨rfl, rfl⟩ := H
        go_wp2
        go_ret2
        exact ⟨by first | rfl | (simp [errW_none, errW_some] <;> rfl) | (simp [*, errW_none, errW_some] <;> rfl), by repeat (first | (with_reducible first | exact HB.out | apply below_alloc | apply pw_below_drewN | apply below_drew1) | exact HB.out)⟩
      · replace c4 := Bool.eq_false_iff.mpr c4
        subst c4
        have H1 : (spec_Unhex.l0 kj1 a0 (([] : List Int)) 0) = some (r1, r2) := by rw [if_neg (show ¬ (false = true) by decide)] at H; exact H
        clear H
        have H := H1
        clear H1
        obtain ⟨y101, hy101⟩ : ∃ y_ : List Int, y_ = (([] : List Int)) := ⟨_, rfl⟩
        replace H : (spec_Unhex.l0 kj1 a0 y101 0) = some (r1, r2) := by first | (rw [hy101]; with_reducible exact H) | (have H2_ := (Option.bind_some _ _).symm.trans H; rw [hy101]; with_reducible exact H2_) | (have H2_ := (Option.bind_some _ _).symm.trans H; with_reducible exact H2_) | with_reducible exact H | (rw [hy101]; exact H) | exact H
        have Ny101 := Aside0.mk hy101
        clear hy101
        have H' := Aside0.mk H
        clear H
        go_wp2_with (first | ((with_reducible refine gate_dst (N := 17) rfl ?_); (try (refine gate_guard (by rfl) ?_; dsimp only)); refine Kd.R_lit (Kd.int .u8) _ 5 ?hg (N := 17) ?hd (xs := ([] : List Int)) (inner := []) (ok := fun _ => True) (okp := fun _ => True) ?hr ?hp (fun _ hk => hk) trivial (Below.refl _ _) (Nat.le_refl _) (by simp) ?_; (case hd => rfl); (case hg => rfl); (case hr => first | (go_simp; done) | (go_simp; rfl)); (case hp => exact (Reps.none _ _)); intro v102 w5 ho6 hb hg_ hnew_; clear hg_ hnew_; (first | rw [← Ny101.out] at ho6 | (simp only [Int.reduceToNat] at ho6; rw [← Ny101.out] at ho6)); have n0_ := Aside0.mk (Kd.R_lower ho6 (below_size (by repeat (first | (with_reducible first | exact HB.out | apply below_alloc | apply pw_below_drewN | apply below_drew1) | exact HB.out)))); have n1_ := Aside0.mk (below_step (by repeat (first | (with_reducible first | exact HB.out | apply below_alloc | apply pw_below_drewN | apply below_drew1) | exact HB.out)) hb); clear HB; have HO103 := n0_; have HB := n1_; clear n0_ n1_; clear hb ho6))
        go_loopg [4, 5] kj1 (fun kq v4 v5 w' => ∃ (x4_2 : List Int) (x5_2 : Int), v5 = .int .i64 x5_2 ∧ Aside0 (spec_Unhex.l0 kq a0 x4_2 x5_2 = some (r1, r2)) ∧ Aside0 (kq ≤ kj1) ∧ Aside0 (Kd.R (Kd.int .u8) 5 w' w.heap.size (fun _ => True) v4 x4_2) ∧ Aside0 (Below w.heap.size w w'))
        case atStart => exact ⟨(y101), (0), (by first | rfl | (simp; done) | (simp [*]; done)), H', ⟨Nat.le_refl _⟩, ⟨by (with_reducible repeat (first | apply Kd.R_alloc | apply Kd.R_drewN | apply Kd.R_drew)); exact HO103.out⟩, ⟨by repeat (first | (with_reducible first | exact HB.out | apply below_alloc | apply pw_below_drewN | apply below_drew1) | exact HB.out)⟩⟩
        case round =>
          clear H'
          try clear c2
          try clear p2
          try clear c3
          try clear c3b0
          try clear c3b1
          try clear c4
          try clear p2
          obtain ⟨x4_2, x5_2, rfl, HA, HK2, HO_4, HB⟩ := hrel
          cases gk with
          | zero => exact absurd HA.out (by simp [spec_Unhex.l0])
          | succ k2 =>
            have H := HA.out
            clear HA
            simp only [spec_Unhex.l0] at H
            by_cases c7 : x5_2 < (a0.size : Int)
            · rw [if_pos c7] at H
              have c7b0 : decide (x5_2 < (a0.size : Int)) = true := decide_eq_true c7
              clear c7
              by_cases c8 : 0 ≤ x5_2
              · rw [if_pos c8] at H
                have c8b0 : decide (0 ≤ x5_2) = true := decide_eq_true c8
                clear c8
                replace H := Option.bind_eq_some_iff.mp H
                obtain ⟨t104, A100, H⟩ := H
                replace H : (if 0 ≤ (wrap64 (x5_2 + 1)) then (if (wrap64 (x5_2 + 1)) < (a0.size : Int) then ((spec_l01Value.f k2 (bt a0 (wrap64 (x5_2 + 1)))).bind fun t105 => (if t104 < 0 then (some ((⟨#[]⟩ : ByteArray), false)) else (if t105 < 0 then (some ((⟨#[]⟩ : ByteArray), false)) else (if x4_2.length < 140737488355328 then (spec_Unhex.l0 k2 a0 (x4_2 ++ [(wrap64 ((wrap64 (16 * t104)) + t105)) % 256]) (wrap64 (x5_2 + 2))) else (none))))) else (none)) else (none)) = some (r1, r2) := H
                have A10 := Aside0.mk A100
                clear A100
                obtain ⟨ji11, hji11⟩ : ∃ j_ : Int, (wrap64 (x5_2 + 1)) = j_ := ⟨_, rfl⟩
                replace H : (if 0 ≤ (ji11) then (if (ji11) < (a0.size : Int) then ((spec_l01Value.f k2 (bt a0 (ji11))).bind fun t105 => (if t104 < 0 then (some ((⟨#[]⟩ : ByteArray), false)) else (if t105 < 0 then (some ((⟨#[]⟩ : ByteArray), false)) else (if x4_2.length < 140737488355328 then (spec_Unhex.l0 k2 a0 (x4_2 ++ [(wrap64 ((wrap64 (16 * t104)) + t105)) % 256]) (wrap64 (x5_2 + 2))) else (none))))) else (none)) else (none)) = some (r1, r2) := by first | (rw [hji11] at H; exact H) | (simp only [hji11] at H ⊢; exact H)
                (try rw [hji11] at A10)
                have hji11w : (IntKind.i64.wrap (x5_2 + 1)) = ji11 := (i64_w _).trans hji11
                by_cases c12 : 0 ≤ (ji11)
                · rw [if_pos c12] at H
                  have c12b0 : decide (0 ≤ (ji11)) = true := decide_eq_true c12
                  clear c12
                  by_cases c13 : (ji11) < (a0.size : Int)
                  · rw [if_pos c13] at H
                    have c13b0 : decide ((ji11) < (a0.size : Int)) = true := decide_eq_true c13
                    clear c13
                    replace H := Option.bind_eq_some_iff.mp H
                    obtain ⟨t105, A150, H⟩ := H
                    replace H : (if t104 < 0 then (some ((⟨#[]⟩ : ByteArray), false)) else (if t105 < 0 then (some ((⟨#[]⟩ : ByteArray), false)) else (if x4_2.length < 140737488355328 then (spec_Unhex.l0 k2 a0 (x4_2 ++ [(wrap64 ((wrap64 (16 * t104)) + t105)) % 256]) (wrap64 (x5_2 + 2))) else (none)))) = some (r1, r2) := H
                    have A15 := Aside0.mk A150
                    clear A150
                    by_cases c16 : t104 < 0
                    · rw [if_pos c16] at H
                      have c16b0 : decide (t104 < 0) = true := decide_eq_true c16
                      clear c16
                      simp only [Option.some.injEq, Prod.mk.injEq] at H
                      obtain ⟨rfl, rfl⟩ := H
                      have p9 : 0 ≤ (x5_2 : Int) := of_decide_eq_true (by first | (with_reducible assumption) | assumption)
                      have q9 : x5_2 < (a0.size : Int) := of_decide_eq_true (by first | (with_reducible assumption) | assumption)
                      have hx9 := bt_at a0 x5_2
                      replace p9 := eq_true p9
                      replace q9 := eq_true q9
                      go_wp2_with (first | ((with_reducible refine gate_callee (f := 41) rfl ?_); refine goesL_ (some 27) rfl rfl Try.func41 (by kernel_rfl) rfl #[.int .u8 (bt a0 x5_2)] rfl (by (try simp only [List.map_toArray, List.map_cons, List.map_nil]); first | done | rfl | (simp only [List.length_drop, List.length_take]; rfl)) ?_; (with_reducible refine (spec_l01Value.calls k2 (bt a0 x5_2) t104 _ A10.out).mono ?_); rintro e w' ⟨rfl, ⟨nd, rfl⟩⟩; refine ⟨_, rfl, ?_⟩; have p14 : 0 ≤ ((ji11) : Int) := of_decide_eq_true (by first | (with_reducible assumption) | assumption); have q14 : (ji11) < (a0.size : Int) := of_decide_eq_true (by first | (with_reducible assumption) | assumption); have hx14 := bt_at a0 (ji11); replace p14 := eq_true p14; replace q14 := eq_true q14) | ((with_reducible refine gate_callee (f := 41) rfl ?_); refine goesL_ (some 32) rfl rfl Try.func41 (by kernel_rfl) rfl #[.int .u8 (bt a0 (ji11))] rfl (by (try simp only [List.map_toArray, List.map_cons, List.map_nil]); first | done | (simp only [hji11]; rfl) | rfl | (simp only [List.length_drop, List.length_take]; rfl)) ?_; (with_reducible refine (spec_l01Value.calls k2 (bt a0 (ji11)) t105 _ A15.out).mono ?_); rintro e w' ⟨rfl, ⟨nd, rfl⟩⟩; refine ⟨_, rfl, ?_⟩))
                      go_ret2
                      exact ⟨by first | rfl | (simp [errW_none, errW_some] <;> rfl) | (simp only [← hji11]; first | rfl | (simp [errW_none, errW_some] <;> rfl)) | (simp [*, errW_none, errW_some] <;> rfl), by repeat (first | (with_reducible first | exact HB.out | apply below_alloc | apply pw_below_drewN | apply below_drew1) | exact HB.out)⟩
                    · rw [if_neg c16] at H
                      have c16b0 : decide (t104 < 0) = false := decide_eq_false c16
                      clear c16
                      by_cases c17 : t105 < 0
                      · rw [if_pos c17] at H
                        have c17b0 : decide (t105 < 0) = true := decide_eq_true c17
                        clear c17
                        simp only [Option.some.injEq, Prod.mk.injEq] at H
                        obtain ⟨rfl, rfl⟩ := H
                        have p9 : 0 ≤ (x5_2 : Int) := of_decide_eq_true (by first | (with_reducible assumption) | assumption)
                        have q9 : x5_2 < (a0.size : Int) := of_decide_eq_true (by first | (with_reducible assumption) | assumption)
                        have hx9 := bt_at a0 x5_2
                        replace p9 := eq_true p9
                        replace q9 := eq_true q9
                        go_wp2_with (first | ((with_reducible refine gate_callee (f := 41) rfl ?_); refine goesL_ (some 27) rfl rfl Try.func41 (by kernel_rfl) rfl #[.int .u8 (bt a0 x5_2)] rfl (by (try simp only [List.map_toArray, List.map_cons, List.map_nil]); first | done | rfl | (simp only [List.length_drop, List.length_take]; rfl)) ?_; (with_reducible refine (spec_l01Value.calls k2 (bt a0 x5_2) t104 _ A10.out).mono ?_); rintro e w' ⟨rfl, ⟨nd, rfl⟩⟩; refine ⟨_, rfl, ?_⟩; have p14 : 0 ≤ ((ji11) : Int) := of_decide_eq_true (by first | (with_reducible assumption) | assumption); have q14 : (ji11) < (a0.size : Int) := of_decide_eq_true (by first | (with_reducible assumption) | assumption); have hx14 := bt_at a0 (ji11); replace p14 := eq_true p14; replace q14 := eq_true q14) | ((with_reducible refine gate_callee (f := 41) rfl ?_); refine goesL_ (some 32) rfl rfl Try.func41 (by kernel_rfl) rfl #[.int .u8 (bt a0 (ji11))] rfl (by (try simp only [List.map_toArray, List.map_cons, List.map_nil]); first | done | (simp only [hji11]; rfl) | rfl | (simp only [List.length_drop, List.length_take]; rfl)) ?_; (with_reducible refine (spec_l01Value.calls k2 (bt a0 (ji11)) t105 _ A15.out).mono ?_); rintro e w' ⟨rfl, ⟨nd, rfl⟩⟩; refine ⟨_, rfl, ?_⟩))
                        go_ret2
                        exact ⟨by first | rfl | (simp [errW_none, errW_some] <;> rfl) | (simp only [← hji11]; first | rfl | (simp [errW_none, errW_some] <;> rfl)) | (simp [*, errW_none, errW_some] <;> rfl), by repeat (first | (with_reducible first | exact HB.out | apply below_alloc | apply pw_below_drewN | apply below_drew1) | exact HB.out)⟩
                      · rw [if_neg c17] at H
                        have c17b0 : decide (t105 < 0) = false := decide_eq_false c17
                        clear c17
                        by_cases c18 : x4_2.length < 140737488355328
                        · rw [if_pos c18] at H
                          have LMc18 := Aside0.mk c18
                          clear c18
                          obtain ⟨y106, hy106⟩ : ∃ y_ : List Int, y_ = (x4_2 ++ [(wrap64 ((wrap64 (16 * t104)) + t105)) % 256]) := ⟨_, rfl⟩
                          replace H : (spec_Unhex.l0 k2 a0 y106 (wrap64 (x5_2 + 2))) = some (r1, r2) := by first | (rw [hy106]; with_reducible exact H) | (have H2_ := (Option.bind_some _ _).symm.trans H; rw [hy106]; with_reducible exact H2_) | (have H2_ := (Option.bind_some _ _).symm.trans H; with_reducible exact H2_) | with_reducible exact H | (rw [hy106]; exact H) | exact H
                          have Ny106 := Aside0.mk hy106
                          clear hy106
                          have H' := Aside0.mk H
                          clear H
                          have p9 : 0 ≤ (x5_2 : Int) := of_decide_eq_true (by first | (with_reducible assumption) | assumption)
                          have q9 : x5_2 < (a0.size : Int) := of_decide_eq_true (by first | (with_reducible assumption) | assumption)
                          have hx9 := bt_at a0 x5_2
                          replace p9 := eq_true p9
                          replace q9 := eq_true q9
                          go_wp2_with (first | ((with_reducible refine gate_callee (f := 41) rfl ?_); refine goesL_ (some 27) rfl rfl Try.func41 (by kernel_rfl) rfl #[.int .u8 (bt a0 x5_2)] rfl (by (try simp only [List.map_toArray, List.map_cons, List.map_nil]); first | done | rfl | (simp only [List.length_drop, List.length_take]; rfl)) ?_; (with_reducible refine (spec_l01Value.calls k2 (bt a0 x5_2) t104 _ A10.out).mono ?_); rintro e w' ⟨rfl, ⟨nd, rfl⟩⟩; refine ⟨_, rfl, ?_⟩; have p14 : 0 ≤ ((ji11) : Int) := of_decide_eq_true (by first | (with_reducible assumption) | assumption); have q14 : (ji11) < (a0.size : Int) := of_decide_eq_true (by first | (with_reducible assumption) | assumption); have hx14 := bt_at a0 (ji11); replace p14 := eq_true p14; replace q14 := eq_true q14) | ((with_reducible refine gate_callee (f := 41) rfl ?_); refine goesL_ (some 32) rfl rfl Try.func41 (by kernel_rfl) rfl #[.int .u8 (bt a0 (ji11))] rfl (by (try simp only [List.map_toArray, List.map_cons, List.map_nil]); first | done | (simp only [hji11]; rfl) | rfl | (simp only [List.length_drop, List.length_take]; rfl)) ?_; (with_reducible refine (spec_l01Value.calls k2 (bt a0 (ji11)) t105 _ A15.out).mono ?_); rintro e w' ⟨rfl, ⟨nd, rfl⟩⟩; refine ⟨_, rfl, ?_⟩) | ((with_reducible refine gate_builtin (b := .append) (xs := #[.tmp 39, .tmp 45]) rfl ?_); (try (refine gate_guard (by rfl) ?_; dsimp only)); at_builtin; refine Kd.R_append (Kd.int .u8) (w0 := w) w.heap.size rfl (.tmp 39) (.tmp 45) 31 5 (.int .u8 0) 1 rfl Try.underlying31 info5 rfl (by decide) (by omega) u4 x4_2 ((wrap64 ((wrap64 (16 * t104)) + t105)) % 256) [.int .u8 ((wrap64 ((wrap64 (16 * t104)) + t105)) % 256)] (fun _ => True) (fun _ => False) rfl rfl ?aP (fun _ hk => hk.elim) ?aF ?aO ?aB ?aS ?aL ?_; (case aP => exact rfl); (case aB => exact (by repeat (first | (with_reducible first | exact HB.out | apply below_alloc | apply pw_below_drewN | apply below_drew1) | exact HB.out))); (case aF => exact (fun _ _ => trivial)); (case aO => exact (by (with_reducible repeat (first | apply Kd.R_alloc | apply Kd.R_drewN | apply Kd.R_drew)); exact HO_4.out)); (case aS => exact (below_size (by repeat (first | (with_reducible first | exact HB.out | apply below_alloc | apply pw_below_drewN | apply below_drew1) | exact HB.out)))); (case aL => have := LMc18.out; omega); intro v107 w19 ho hb hg hat; rw [← Ny106.out] at ho; have n0_ := Aside0.mk (hb); have n1_ := Aside0.mk (ho); clear HB; clear HO_4; have HB := n0_; have HO108 := n1_; clear n0_ n1_; clear ho hb hg hat))
                          go_roundg k2
                          case measure => have := HJ1.out; have := HK2.out; omega
                          case rel => exact ⟨(y106), (wrap64 (x5_2 + 2)), (by first | rfl | (simp; done) | (simp [*]; done)), H', ⟨by have := HJ1.out; have := HK2.out; omega⟩, ⟨by (with_reducible repeat (first | apply Kd.R_alloc | apply Kd.R_drewN | apply Kd.R_drew)); exact HO108.out⟩, ⟨by repeat (first | (with_reducible first | exact HB.out | apply below_alloc | apply pw_below_drewN | apply below_drew1) | exact HB.out)⟩⟩
                        · rw [if_neg c18] at H
                          exact absurd H (by simp)
                  · rw [if_neg c13] at H
                    exact absurd H (by simp)
                · rw [if_neg c12] at H
                  exact absurd H (by simp)
              · rw [if_neg c8] at H
                exact absurd H (by simp)
            · rw [if_neg c7] at H
              have c7b0 : decide (x5_2 < (a0.size : Int)) = false := decide_eq_false c7
              clear c7
              simp only [Option.some.injEq, Prod.mk.injEq] at H
              obtain ⟨rfl, rfl⟩ := H
              have hcv20 := own_string (P := Try.prog) Try.underlying31 Try.underlying5 Try.underlying9 (Kd.own_of_R HO_4.out)
              go_wp2
              go_ret2
              exact ⟨by first | rfl | (simp [errW_none, errW_some] <;> rfl) | (simp [*, errW_none, errW_some] <;> rfl), by repeat (first | (with_reducible first | exact HB.out | apply below_alloc | apply pw_below_drewN | apply below_drew1) | exact HB.out)⟩

end Go.Proofs.Ythnembgbooaplaa.P

namespace Go.Proofs.Ythnembgbooaplaa.P
open Go.RowKit Go.Proofs.YthnembgbooaplaaW.PrintWords Go.Proofs.YthnembgbooaplaaW.PrintLast Go.Proofs.YthnembgbooaplaaW.PrintMore
attribute [local go_sem] max2_int min2_int max_two min_two max_three min_three max_four min_four
set_option linter.unusedVariables false
set_option linter.unusedSimpArgs false

/-! ### spec_BodyIn: function 9 -/
def spec_BodyIn.f (k : Nat) (a0 : ByteArray) : Option (ByteArray × ByteArray × Bool) := if (wrap64 ((a0.size : Int) - 69)) < 0 then (some ((⟨#[]⟩ : ByteArray), (⟨#[]⟩ : ByteArray), false)) else (if (wrap64 ((a0.size : Int) - 69)) > 8000 then (some ((⟨#[]⟩ : ByteArray), (⟨#[]⟩ : ByteArray), false)) else (if (wrap64 ((a0.size : Int) - 69)) > 0 then (if 0 ≤ (wrap64 ((wrap64 ((a0.size : Int) - 69)) - 1)) then (if (wrap64 ((wrap64 ((a0.size : Int) - 69)) - 1)) < (a0.size : Int) then (if (bt a0 (wrap64 ((wrap64 ((a0.size : Int) - 69)) - 1))) = 10 then (if 0 ≤ (wrap64 ((a0.size : Int) - 69)) then (if (wrap64 ((a0.size : Int) - 69)) ≤ (wrap64 ((wrap64 ((a0.size : Int) - 69)) + 4)) then (if (wrap64 ((wrap64 ((a0.size : Int) - 69)) + 4)) ≤ (a0.size : Int) then (if (a0.extract ((wrap64 ((a0.size : Int) - 69)) : Int).toNat ((wrap64 ((wrap64 ((a0.size : Int) - 69)) + 4)) : Int).toNat).toList = ([116, 97, 103, 32] : List UInt8) then (if 0 ≤ (wrap64 ((wrap64 ((a0.size : Int) - 69)) + 68)) then (if (wrap64 ((wrap64 ((a0.size : Int) - 69)) + 68)) < (a0.size : Int) then (if (bt a0 (wrap64 ((wrap64 ((a0.size : Int) - 69)) + 68))) = 10 then (if 0 ≤ (wrap64 ((wrap64 ((a0.size : Int) - 69)) + 4)) then (if (wrap64 ((wrap64 ((a0.size : Int) - 69)) + 4)) ≤ (wrap64 ((wrap64 ((a0.size : Int) - 69)) + 68)) then (if (wrap64 ((wrap64 ((a0.size : Int) - 69)) + 68)) ≤ (a0.size : Int) then ((spec_Unhex.f k (a0.extract ((wrap64 ((wrap64 ((a0.size : Int) - 69)) + 4)) : Int).toNat ((wrap64 ((wrap64 ((a0.size : Int) - 69)) + 68)) : Int).toNat)).bind fun bt101 => (if bt101.2 = true then (if (wrap64 ((a0.size : Int) - 69)) ≤ (a0.size : Int) then (some (a0.extract 0 ((wrap64 ((a0.size : Int) - 69)) : Int).toNat, bt101.1, true)) else (none)) else (some ((⟨#[]⟩ : ByteArray), (⟨#[]⟩ : ByteArray), false)))) else (none)) else (none)) else (none)) else (some ((⟨#[]⟩ : ByteArray), (⟨#[]⟩ : ByteArray), false))) else (none)) else (none)) else (some ((⟨#[]⟩ : ByteArray), (⟨#[]⟩ : ByteArray), false))) else (none)) else (none)) else (none)) else (some ((⟨#[]⟩ : ByteArray), (⟨#[]⟩ : ByteArray), false))) else (none)) else (none)) else (if 0 ≤ (wrap64 ((a0.size : Int) - 69)) then (if (wrap64 ((a0.size : Int) - 69)) ≤ (wrap64 ((wrap64 ((a0.size : Int) - 69)) + 4)) then (if (wrap64 ((wrap64 ((a0.size : Int) - 69)) + 4)) ≤ (a0.size : Int) then (if (a0.extract ((wrap64 ((a0.size : Int) - 69)) : Int).toNat ((wrap64 ((wrap64 ((a0.size : Int) - 69)) + 4)) : Int).toNat).toList = ([116, 97, 103, 32] : List UInt8) then (if 0 ≤ (wrap64 ((wrap64 ((a0.size : Int) - 69)) + 68)) then (if (wrap64 ((wrap64 ((a0.size : Int) - 69)) + 68)) < (a0.size : Int) then (if (bt a0 (wrap64 ((wrap64 ((a0.size : Int) - 69)) + 68))) = 10 then (if 0 ≤ (wrap64 ((wrap64 ((a0.size : Int) - 69)) + 4)) then (if (wrap64 ((wrap64 ((a0.size : Int) - 69)) + 4)) ≤ (wrap64 ((wrap64 ((a0.size : Int) - 69)) + 68)) then (if (wrap64 ((wrap64 ((a0.size : Int) - 69)) + 68)) ≤ (a0.size : Int) then ((spec_Unhex.f k (a0.extract ((wrap64 ((wrap64 ((a0.size : Int) - 69)) + 4)) : Int).toNat ((wrap64 ((wrap64 ((a0.size : Int) - 69)) + 68)) : Int).toNat)).bind fun bt103 => (if bt103.2 = true then (if (wrap64 ((a0.size : Int) - 69)) ≤ (a0.size : Int) then (some (a0.extract 0 ((wrap64 ((a0.size : Int) - 69)) : Int).toNat, bt103.1, true)) else (none)) else (some ((⟨#[]⟩ : ByteArray), (⟨#[]⟩ : ByteArray), false)))) else (none)) else (none)) else (none)) else (some ((⟨#[]⟩ : ByteArray), (⟨#[]⟩ : ByteArray), false))) else (none)) else (none)) else (some ((⟨#[]⟩ : ByteArray), (⟨#[]⟩ : ByteArray), false))) else (none)) else (none)) else (none))))
theorem spec_BodyIn.mono : ∀ a0 k, LeO (spec_BodyIn.f k a0) (spec_BodyIn.f (k + 1) a0) := by
  intro a0 k
  unfold spec_BodyIn.f
  repeat' first
      | (with_reducible exact spec_Unhex.mono _ _)
      | (with_reducible exact LeO.refl _)
      | (with_reducible exact LeO.none _)
      | (with_reducible refine LeO.ite ?_ ?_)
      | (with_reducible refine LeO.bind ?_ (fun _ => ?_))
      | exact spec_Unhex.mono _ _
      | exact LeO.none _
      | refine LeO.ite ?_ ?_
      | refine LeO.bind ?_ (fun _ => ?_)
set_option maxHeartbeats 8000000 in
set_option maxRecDepth 100000 in
theorem spec_BodyIn.calls (k : Nat) (a0 : ByteArray) (r1 : ByteArray) (r2 : ByteArray) (r3 : Bool) (w : World) (h : spec_BodyIn.f k a0 = some (r1, r2, r3)) :
    Calls Try.prog 9 #[.string a0] w fun e w' => e = .returned (.tuple #[.string r1, .string r2, .bool r3]) ∧ Below w.heap.size w w' := by
  have HB := Aside0.mk (Below.refl w.heap.size w)
  have H : (if (wrap64 ((a0.size : Int) - 69)) < 0 then (some ((⟨#[]⟩ : ByteArray), (⟨#[]⟩ : ByteArray), false)) else (if (wrap64 ((a0.size : Int) - 69)) > 8000 then (some ((⟨#[]⟩ : ByteArray), (⟨#[]⟩ : ByteArray), false)) else (if (wrap64 ((a0.size : Int) - 69)) > 0 then (if 0 ≤ (wrap64 ((wrap64 ((a0.size : Int) - 69)) - 1)) then (if (wrap64 ((wrap64 ((a0.size : Int) - 69)) - 1)) < (a0.size : Int) then (if (bt a0 (wrap64 ((wrap64 ((a0.size : Int) - 69)) - 1))) = 10 then (if 0 ≤ (wrap64 ((a0.size : Int) - 69)) then (if (wrap64 ((a0.size : Int) - 69)) ≤ (wrap64 ((wrap64 ((a0.size : Int) - 69)) + 4)) then (if (wrap64 ((wrap64 ((a0.size : Int) - 69)) + 4)) ≤ (a0.size : Int) then (if (a0.extract ((wrap64 ((a0.size : Int) - 69)) : Int).toNat ((wrap64 ((wrap64 ((a0.size : Int) - 69)) + 4)) : Int).toNat).toList = ([116, 97, 103, 32] : List UInt8) then (if 0 ≤ (wrap64 ((wrap64 ((a0.size : Int) - 69)) + 68)) then (if (wrap64 ((wrap64 ((a0.size : Int) - 69)) + 68)) < (a0.size : Int) then (if (bt a0 (wrap64 ((wrap64 ((a0.size : Int) - 69)) + 68))) = 10 then (if 0 ≤ (wrap64 ((wrap64 ((a0.size : Int) - 69)) + 4)) then (if (wrap64 ((wrap64 ((a0.size : Int) - 69)) + 4)) ≤ (wrap64 ((wrap64 ((a0.size : Int) - 69)) + 68)) then (if (wrap64 ((wrap64 ((a0.size : Int) - 69)) + 68)) ≤ (a0.size : Int) then ((spec_Unhex.f k (a0.extract ((wrap64 ((wrap64 ((a0.size : Int) - 69)) + 4)) : Int).toNat ((wrap64 ((wrap64 ((a0.size : Int) - 69)) + 68)) : Int).toNat)).bind fun bt101 => (if bt101.2 = true then (if (wrap64 ((a0.size : Int) - 69)) ≤ (a0.size : Int) then (some (a0.extract 0 ((wrap64 ((a0.size : Int) - 69)) : Int).toNat, bt101.1, true)) else (none)) else (some ((⟨#[]⟩ : ByteArray), (⟨#[]⟩ : ByteArray), false)))) else (none)) else (none)) else (none)) else (some ((⟨#[]⟩ : ByteArray), (⟨#[]⟩ : ByteArray), false))) else (none)) else (none)) else (some ((⟨#[]⟩ : ByteArray), (⟨#[]⟩ : ByteArray), false))) else (none)) else (none)) else (none)) else (some ((⟨#[]⟩ : ByteArray), (⟨#[]⟩ : ByteArray), false))) else (none)) else (none)) else (if 0 ≤ (wrap64 ((a0.size : Int) - 69)) then (if (wrap64 ((a0.size : Int) - 69)) ≤ (wrap64 ((wrap64 ((a0.size : Int) - 69)) + 4)) then (if (wrap64 ((wrap64 ((a0.size : Int) - 69)) + 4)) ≤ (a0.size : Int) then (if (a0.extract ((wrap64 ((a0.size : Int) - 69)) : Int).toNat ((wrap64 ((wrap64 ((a0.size : Int) - 69)) + 4)) : Int).toNat).toList = ([116, 97, 103, 32] : List UInt8) then (if 0 ≤ (wrap64 ((wrap64 ((a0.size : Int) - 69)) + 68)) then (if (wrap64 ((wrap64 ((a0.size : Int) - 69)) + 68)) < (a0.size : Int) then (if (bt a0 (wrap64 ((wrap64 ((a0.size : Int) - 69)) + 68))) = 10 then (if 0 ≤ (wrap64 ((wrap64 ((a0.size : Int) - 69)) + 4)) then (if (wrap64 ((wrap64 ((a0.size : Int) - 69)) + 4)) ≤ (wrap64 ((wrap64 ((a0.size : Int) - 69)) + 68)) then (if (wrap64 ((wrap64 ((a0.size : Int) - 69)) + 68)) ≤ (a0.size : Int) then ((spec_Unhex.f k (a0.extract ((wrap64 ((wrap64 ((a0.size : Int) - 69)) + 4)) : Int).toNat ((wrap64 ((wrap64 ((a0.size : Int) - 69)) + 68)) : Int).toNat)).bind fun bt103 => (if bt103.2 = true then (if (wrap64 ((a0.size : Int) - 69)) ≤ (a0.size : Int) then (some (a0.extract 0 ((wrap64 ((a0.size : Int) - 69)) : Int).toNat, bt103.1, true)) else (none)) else (some ((⟨#[]⟩ : ByteArray), (⟨#[]⟩ : ByteArray), false)))) else (none)) else (none)) else (none)) else (some ((⟨#[]⟩ : ByteArray), (⟨#[]⟩ : ByteArray), false))) else (none)) else (none)) else (some ((⟨#[]⟩ : ByteArray), (⟨#[]⟩ : ByteArray), false))) else (none)) else (none)) else (none))))) = some (r1, r2, r3) := h
  clear h
  by_cases c2 : (wrap64 ((a0.size : Int) - 69)) < 0
  · rw [if_pos c2] at H
    have c2b0 : decide ((wrap64 ((a0.size : Int) - 69)) < 0) = true := decide_eq_true c2
    clear c2
    simp only [Option.some.injEq, Prod.mk.injEq] at H
    obtain ⟨rfl, rfl, rfl⟩ := H
    go_enter Try.func9, Try.ntmps9
    go_wp2
    go_ret3
    exact ⟨by first | rfl | (simp [errW_none, errW_some] <;> rfl) | (simp [*, errW_none, errW_some] <;> rfl), by repeat (first | (with_reducible first | exact HB.out | apply below_alloc | apply pw_below_drewN | apply below_drew1) | exact HB.out)⟩
  · rw [if_neg c2] at H
    have c2b0 : decide ((wrap64 ((a0.size : Int) - 69)) < 0) = false := decide_eq_false c2
    clear c2
    by_cases c3 : (wrap64 ((a0.size : Int) - 69)) > 8000
    · rw [if_pos c3] at H
      have c3b0 : decide (8000 < (wrap64 ((a0.size : Int) - 69))) = true := decide_eq_true c3
      clear c3
      simp only [Option.some.injEq, Prod.mk.injEq] at H
      obtain ⟨rfl, rfl, rfl⟩ := H
      go_enter Try.func9, Try.ntmps9
      go_wp2
      go_ret3
      exact ⟨by first | rfl | (simp [errW_none, errW_some] <;> rfl) | (simp [*, errW_none, errW_some] <;> rfl), by repeat (first | (with_reducible first | exact HB.out | apply below_alloc | apply pw_below_drewN | apply below_drew1) | exact HB.out)⟩
    · rw [if_neg c3] at H
      have c3b0 : decide (8000 < (wrap64 ((a0.size : Int) - 69))) = false := decide_eq_false c3
      clear c3
      by_cases c4 : (wrap64 ((a0.size : Int) - 69)) > 0
      · rw [if_pos c4] at H
        have c4b0 : decide (0 < (wrap64 ((a0.size : Int) - 69))) = true := decide_eq_true c4
        clear c4
        obtain ⟨ji5, hji5⟩ : ∃ j_ : Int, (wrap64 ((wrap64 ((a0.size : Int) - 69)) - 1)) = j_ := ⟨_, rfl⟩
        replace H : (if 0 ≤ (ji5) then (if (ji5) < (a0.size : Int) then (if (bt a0 (ji5)) = 10 then (if 0 ≤ (wrap64 ((a0.size : Int) - 69)) then (if (wrap64 ((a0.size : Int) - 69)) ≤ (wrap64 ((wrap64 ((a0.size : Int) - 69)) + 4)) then (if (wrap64 ((wrap64 ((a0.size : Int) - 69)) + 4)) ≤ (a0.size : Int) then (if (a0.extract ((wrap64 ((a0.size : Int) - 69)) : Int).toNat ((wrap64 ((wrap64 ((a0.size : Int) - 69)) + 4)) : Int).toNat).toList = ([116, 97, 103, 32] : List UInt8) then (if 0 ≤ (wrap64 ((wrap64 ((a0.size : Int) - 69)) + 68)) then (if (wrap64 ((wrap64 ((a0.size : Int) - 69)) + 68)) < (a0.size : Int) then (if (bt a0 (wrap64 ((wrap64 ((a0.size : Int) - 69)) + 68))) = 10 then (if 0 ≤ (wrap64 ((wrap64 ((a0.size : Int) - 69)) + 4)) then (if (wrap64 ((wrap64 ((a0.size : Int) - 69)) + 4)) ≤ (wrap64 ((wrap64 ((a0.size : Int) - 69)) + 68)) then (if (wrap64 ((wrap64 ((a0.size : Int) - 69)) + 68)) ≤ (a0.size : Int) then ((spec_Unhex.f k (a0.extract ((wrap64 ((wrap64 ((a0.size : Int) - 69)) + 4)) : Int).toNat ((wrap64 ((wrap64 ((a0.size : Int) - 69)) + 68)) : Int).toNat)).bind fun bt101 => (if bt101.2 = true then (if (wrap64 ((a0.size : Int) - 69)) ≤ (a0.size : Int) then (some (a0.extract 0 ((wrap64 ((a0.size : Int) - 69)) : Int).toNat, bt101.1, true)) else (none)) else (some ((⟨#[]⟩ : ByteArray), (⟨#[]⟩ : ByteArray), false)))) else (none)) else (none)) else (none)) else (some ((⟨#[]⟩ : ByteArray), (⟨#[]⟩ : ByteArray), false))) else (none)) else (none)) else (some ((⟨#[]⟩ : ByteArray), (⟨#[]⟩ : ByteArray), false))) else (none)) else (none)) else (none)) else (some ((⟨#[]⟩ : ByteArray), (⟨#[]⟩ : ByteArray), false))) else (none)) else (none)) = some (r1, r2, r3) := by first | (rw [hji5] at H; exact H) | (simp only [hji5] at H ⊢; exact H)
        have hji5w : (IntKind.i64.wrap ((wrap64 ((a0.size : Int) - 69)) - 1)) = ji5 := (i64_w _).trans hji5
        by_cases c6 : 0 ≤ (ji5)
        · rw [if_pos c6] at H
          have c6b0 : decide (0 ≤ (ji5)) = true := decide_eq_true c6
          clear c6
          by_cases c7 : (ji5) < (a0.size : Int)
          · rw [if_pos c7] at H
            have c7b0 : decide ((ji5) < (a0.size : Int)) = true := decide_eq_true c7
            clear c7
            by_cases c9 : (bt a0 (ji5)) = 10
            · rw [if_pos c9] at H
              have c9b0 : ((bt a0 (ji5)) == 10) = true := beq_iff_eq.mpr c9
              have c9b1 : ((bt a0 (ji5)) != 10) = false := bne_eq_false_iff_eq.mpr c9
              clear c9
              obtain ⟨ji10, hji10⟩ : ∃ j_ : Int, (wrap64 ((a0.size : Int) - 69)) = j_ := ⟨_, rfl⟩
              replace H : (if 0 ≤ (ji10) then (if (ji10) ≤ (wrap64 ((ji10) + 4)) then (if (wrap64 ((ji10) + 4)) ≤ (a0.size : Int) then (if (a0.extract ((ji10) : Int).toNat ((wrap64 ((ji10) + 4)) : Int).toNat).toList = ([116, 97, 103, 32] : List UInt8) then (if 0 ≤ (wrap64 ((ji10) + 68)) then (if (wrap64 ((ji10) + 68)) < (a0.size : Int) then (if (bt a0 (wrap64 ((ji10) + 68))) = 10 then (if 0 ≤ (wrap64 ((ji10) + 4)) then (if (wrap64 ((ji10) + 4)) ≤ (wrap64 ((ji10) + 68)) then (if (wrap64 ((ji10) + 68)) ≤ (a0.size : Int) then ((spec_Unhex.f k (a0.extract ((wrap64 ((ji10) + 4)) : Int).toNat ((wrap64 ((ji10) + 68)) : Int).toNat)).bind fun bt101 => (if bt101.2 = true then (if (ji10) ≤ (a0.size : Int) then (some (a0.extract 0 ((ji10) : Int).toNat, bt101.1, true)) else (none)) else (some ((⟨#[]⟩ : ByteArray), (⟨#[]⟩ : ByteArray), false)))) else (none)) else (none)) else (none)) else (some ((⟨#[]⟩ : ByteArray), (⟨#[]⟩ : ByteArray), false))) else (none)) else (none)) else (some ((⟨#[]⟩ : ByteArray), (⟨#[]⟩ : ByteArray), false))) else (none)) else (none)) else (none)) = some (r1, r2, r3) := by first | (rw [hji10] at H; exact H) | (simp only [hji10] at H ⊢; exact H)
              (try rw [hji10] at c2b0)
              (try rw [hji10] at c3b0)
              (try rw [hji10] at c4b0)
              have hji10w : (IntKind.i64.wrap ((a0.size : Int) - 69)) = ji10 := (i64_w _).trans hji10
              (try rw [hji10] at hji5)
              (try rw [hji10] at hji5w)
              by_cases c11 : 0 ≤ (ji10)
              · rw [if_pos c11] at H
                have c11b0 := eq_true c11
                have c11b1 : decide (0 ≤ (ji10)) = true := decide_eq_true c11
                clear c11
                by_cases c12 : (ji10) ≤ (wrap64 ((ji10) + 4))
                · rw [if_pos c12] at H
                  have c12b0 := eq_true c12
                  have c12b1 : decide ((ji10) ≤ (wrap64 ((ji10) + 4))) = true := decide_eq_true c12
                  by_cases c13 : (wrap64 ((ji10) + 4)) ≤ (a0.size : Int)
                  · rw [if_pos c13] at H
                    have c13b0 := eq_true c13
                    have c13b1 : decide ((wrap64 ((ji10) + 4)) ≤ (a0.size : Int)) = true := decide_eq_true c13
                    by_cases c14 : (a0.extract ((ji10) : Int).toNat ((wrap64 ((ji10) + 4)) : Int).toNat).toList = ([116, 97, 103, 32] : List UInt8)
                    · rw [if_pos c14] at H
                      have c14b0 : ((a0.extract ((ji10) : Int).toNat ((wrap64 ((ji10) + 4)) : Int).toNat).toList == ([116, 97, 103, 32] : List UInt8)) = true := beq_iff_eq.mpr c14
                      have c14b1 : ((a0.extract ((ji10) : Int).toNat ((wrap64 ((ji10) + 4)) : Int).toNat).toList != ([116, 97, 103, 32] : List UInt8)) = false := bne_eq_false_iff_eq.mpr c14
                      clear c14
                      obtain ⟨ji15, hji15⟩ : ∃ j_ : Int, (wrap64 ((ji10) + 68)) = j_ := ⟨_, rfl⟩
                      replace H : (if 0 ≤ (ji15) then (if (ji15) < (a0.size : Int) then (if (bt a0 (ji15)) = 10 then (if 0 ≤ (wrap64 ((ji10) + 4)) then (if (wrap64 ((ji10) + 4)) ≤ (ji15) then (if (ji15) ≤ (a0.size : Int) then ((spec_Unhex.f k (a0.extract ((wrap64 ((ji10) + 4)) : Int).toNat ((ji15) : Int).toNat)).bind fun bt101 => (if bt101.2 = true then (if (ji10) ≤ (a0.size : Int) then (some (a0.extract 0 ((ji10) : Int).toNat, bt101.1, true)) else (none)) else (some ((⟨#[]⟩ : ByteArray), (⟨#[]⟩ : ByteArray), false)))) else (none)) else (none)) else (none)) else (some ((⟨#[]⟩ : ByteArray), (⟨#[]⟩ : ByteArray), false))) else (none)) else (none)) = some (r1, r2, r3) := by first | (rw [hji15] at H; exact H) | (simp only [hji15] at H ⊢; exact H)
                      have hji15w : (IntKind.i64.wrap ((ji10) + 68)) = ji15 := (i64_w _).trans hji15
                      (try rw [hji15] at hji5)
                      (try rw [hji15] at hji5w)
                      (try rw [hji15] at hji10)
                      (try rw [hji15] at hji10w)
                      by_cases c16 : 0 ≤ (ji15)
                      · rw [if_pos c16] at H
                        have c16b0 : decide (0 ≤ (ji15)) = true := decide_eq_true c16
                        clear c16
                        by_cases c17 : (ji15) < (a0.size : Int)
                        · rw [if_pos c17] at H
                          have c17b0 : decide ((ji15) < (a0.size : Int)) = true := decide_eq_true c17
                          clear c17
                          by_cases c19 : (bt a0 (ji15)) = 10
                          · rw [if_pos c19] at H
                            have c19b0 : ((bt a0 (ji15)) == 10) = true := beq_iff_eq.mpr c19
                            have c19b1 : ((bt a0 (ji15)) != 10) = false := bne_eq_false_iff_eq.mpr c19
                            clear c19
                            obtain ⟨ji20, hji20⟩ : ∃ j_ : Int, (wrap64 ((ji10) + 4)) = j_ := ⟨_, rfl⟩
                            replace H : (if 0 ≤ (ji20) then (if (ji20) ≤ (ji15) then (if (ji15) ≤ (a0.size : Int) then ((spec_Unhex.f k (a0.extract ((ji20) : Int).toNat ((ji15) : Int).toNat)).bind fun bt101 => (if bt101.2 = true then (if (ji10) ≤ (a0.size : Int) then (some (a0.extract 0 ((ji10) : Int).toNat, bt101.1, true)) else (none)) else (some ((⟨#[]⟩ : ByteArray), (⟨#[]⟩ : ByteArray), false)))) else (none)) else (none)) else (none)) = some (r1, r2, r3) := by first | (rw [hji20] at H; exact H) | (simp only [hji20] at H ⊢; exact H)
                            (try rw [hji20] at c12b0)
                            (try rw [hji20] at c12b1)
                            (try rw [hji20] at c12)
                            (try rw [hji20] at c13b0)
                            (try rw [hji20] at c13b1)
                            (try rw [hji20] at c13)
                            (try rw [hji20] at c14b0)
                            (try rw [hji20] at c14b1)
                            have hji20w : (IntKind.i64.wrap ((ji10) + 4)) = ji20 := (i64_w _).trans hji20
                            (try rw [hji20] at hji5)
                            (try rw [hji20] at hji5w)
                            (try rw [hji20] at hji10)
                            (try rw [hji20] at hji10w)
                            (try rw [hji20] at hji15)
                            (try rw [hji20] at hji15w)
                            by_cases c21 : 0 ≤ (ji20)
                            · rw [if_pos c21] at H
                              have c21b0 := eq_true c21
                              have c21b1 : decide (0 ≤ (ji20)) = true := decide_eq_true c21
                              clear c21
                              by_cases c22 : (ji20) ≤ (ji15)
                              · rw [if_pos c22] at H
                                have c22b0 := eq_true c22
                                have c22b1 : decide ((ji20) ≤ (ji15)) = true := decide_eq_true c22
                                clear c22
                                by_cases c23 : (ji15) ≤ (a0.size : Int)
                                · rw [if_pos c23] at H
                                  have c23b0 := eq_true c23
                                  have c23b1 : decide ((ji15) ≤ (a0.size : Int)) = true := decide_eq_true c23
                                  clear c23
                                  replace H := Option.bind_eq_some_iff.mp H
                                  obtain ⟨⟨t101, t102⟩, A240, H⟩ := H
                                  replace H : (if t102 = true then (if (ji10) ≤ (a0.size : Int) then (some (a0.extract 0 ((ji10) : Int).toNat, t101, true)) else (none)) else (some ((⟨#[]⟩ : ByteArray), (⟨#[]⟩ : ByteArray), false))) = some (r1, r2, r3) := H
                                  have A24 := Aside0.mk A240
                                  clear A240
                                  by_cases c25 : t102 = true
                                  · subst c25
                                    have H1 : (if (ji10) ≤ (a0.size : Int) then (some (a0.extract 0 ((ji10) : Int).toNat, t101, true)) else (none)) = some (r1, r2, r3) := by rw [if_pos rfl] at H; exact H
                                    clear H
                                    have H := H1
                                    clear H1
                                    have c26b0 := eq_true (of_decide_eq_true (by first | (with_reducible assumption) | assumption) : 0 ≤ (ji10))
                                    by_cases c27 : (ji10) ≤ (a0.size : Int)
                                    · rw [if_pos c27] at H
                                      have c27b0 := eq_true c27
                                      have c27b1 : decide ((ji10) ≤ (a0.size : Int)) = true := decide_eq_true c27
                                      clear c27
                                      simp only [Option.some.injEq, Prod.mk.injEq] at H
                                      obtain ⟨rfl, rfl, rfl⟩ := H
                                      have p8 : 0 ≤ ((ji5) : Int) := of_decide_eq_true (by first | (with_reducible assumption) | assumption)
                                      have q8 : (ji5) < (a0.size : Int) := of_decide_eq_true (by first | (with_reducible assumption) | assumption)
                                      have hx8 := bt_at a0 (ji5)
                                      replace p8 := eq_true p8
                                      replace q8 := eq_true q8
                                      have p18 : 0 ≤ ((ji15) : Int) := of_decide_eq_true (by first | (with_reducible assumption) | assumption)
                                      have q18 : (ji15) < (a0.size : Int) := of_decide_eq_true (by first | (with_reducible assumption) | assumption)
                                      have hx18 := bt_at a0 (ji15)
                                      replace p18 := eq_true p18
                                      replace q18 := eq_true q18
                                      go_enter Try.func9, Try.ntmps9
                                      go_wp2_with (first | ((with_reducible refine gate_callee (f := 25) rfl ?_); refine goesL_ (some 50) rfl rfl Try.func25 (by kernel_rfl) rfl #[.string (a0.extract ((ji20) : Int).toNat ((ji15) : Int).toNat)] rfl (by (try simp only [List.map_toArray, List.map_cons, List.map_nil]); first | done | (simp only [hji15, hji20]; rfl) | rfl | (simp only [List.length_drop, List.length_take]; rfl)) ?_; (with_reducible refine (spec_Unhex.calls k (a0.extract ((ji20) : Int).toNat ((ji15) : Int).toNat) t101 true _ A24.out).mono ?_); rintro e w28 ⟨rfl, hb⟩; refine ⟨_, rfl, ?_⟩; have n0_ := Aside0.mk (below_step (by repeat (first | (with_reducible first | exact HB.out | apply below_alloc | apply pw_below_drewN | apply below_drew1) | exact HB.out)) hb); clear HB; have HB := n0_; clear n0_; (try clear hb); (try clear hb2); (try clear hk); (try clear hi)))
                                      go_ret3
                                      exact ⟨by first | rfl | (simp [errW_none, errW_some] <;> rfl) | (simp only [← hji5, ← hji10, ← hji15, ← hji20]; first | rfl | (simp [errW_none, errW_some] <;> rfl)) | (simp [*, errW_none, errW_some] <;> rfl), by repeat (first | (with_reducible first | exact HB.out | apply below_alloc | apply pw_below_drewN | apply below_drew1) | exact HB.out)⟩
                                    · rw [if_neg c27] at H
                                      exact absurd H (by simp)
                                  · replace c25 := Bool.eq_false_iff.mpr c25
                                    subst c25
                                    have H1 : (some ((⟨#[]⟩ : ByteArray), (⟨#[]⟩ : ByteArray), false)) = some (r1, r2, r3) := by rw [if_neg (show ¬ (false = true) by decide)] at H; exact H
                                    clear H
                                    have H := H1
                                    clear H1
                                    simp only [Option.some.injEq, Prod.mk.injEq] at H
                                    obtain ⟨rfl, rfl, rfl⟩ := H
                                    have p8 : 0 ≤ ((ji5) : Int) := of_decide_eq_true (by first | (with_reducible assumption) | assumption)
                                    have q8 : (ji5) < (a0.size : Int) := of_decide_eq_true (by first | (with_reducible assumption) | assumption)
                                    have hx8 := bt_at a0 (ji5)
                                    replace p8 := eq_true p8
                                    replace q8 := eq_true q8
                                    have p18 : 0 ≤ ((ji15) : Int) := of_decide_eq_true (by first | (with_reducible assumption) | assumption)
                                    have q18 : (ji15) < (a0.size : Int) := of_decide_eq_true (by first | (with_reducible assumption) | assumption)
                                    have hx18 := bt_at a0 (ji15)
                                    replace p18 := eq_true p18
                                    replace q18 := eq_true q18
                                    go_enter Try.func9, Try.ntmps9
                                    go_wp2_with (first | ((with_reducible refine gate_callee (f := 25) rfl ?_); refine goesL_ (some 50) rfl rfl Try.func25 (by kernel_rfl) rfl #[.string (a0.extract ((ji20) : Int).toNat ((ji15) : Int).toNat)] rfl (by (try simp only [List.map_toArray, List.map_cons, List.map_nil]); first | done | (simp only [hji15, hji20]; rfl) | rfl | (simp only [List.length_drop, List.length_take]; rfl)) ?_; (with_reducible refine (spec_Unhex.calls k (a0.extract ((ji20) : Int).toNat ((ji15) : Int).toNat) t101 false _ A24.out).mono ?_); rintro e w29 ⟨rfl, hb⟩; refine ⟨_, rfl, ?_⟩; have n0_ := Aside0.mk (below_step (by repeat (first | (with_reducible first | exact HB.out | apply below_alloc | apply pw_below_drewN | apply below_drew1) | exact HB.out)) hb); clear HB; have HB := n0_; clear n0_; (try clear hb); (try clear hb2); (try clear hk); (try clear hi)))
                                    go_ret3
                                    exact ⟨by first | rfl | (simp [errW_none, errW_some] <;> rfl) | (simp only [← hji5, ← hji10, ← hji15, ← hji20]; first | rfl | (simp [errW_none, errW_some] <;> rfl)) | (simp [*, errW_none, errW_some] <;> rfl), by repeat (first | (with_reducible first | exact HB.out | apply below_alloc | apply pw_below_drewN | apply below_drew1) | exact HB.out)⟩
                                · rw [if_neg c23] at H
                                  exact absurd H (by simp)
                              · rw [if_neg c22] at H
                                exact absurd H (by simp)
                            · rw [if_neg c21] at H
                              exact absurd H (by simp)
                          · rw [if_neg c19] at H
                            have c19b0 : ((bt a0 (ji15)) == 10) = false := beq_eq_false_iff_ne.mpr c19
                            have c19b1 : ((bt a0 (ji15)) != 10) = true := bne_iff_ne.mpr c19
                            simp only [Option.some.injEq, Prod.mk.injEq] at H
                            obtain ⟨rfl, rfl, rfl⟩ := H
                            have p8 : 0 ≤ ((ji5) : Int) := of_decide_eq_true (by first | (with_reducible assumption) | assumption)
                            have q8 : (ji5) < (a0.size : Int) := of_decide_eq_true (by first | (with_reducible assumption) | assumption)
                            have hx8 := bt_at a0 (ji5)
                            replace p8 := eq_true p8
                            replace q8 := eq_true q8
                            have p18 : 0 ≤ ((ji15) : Int) := of_decide_eq_true (by first | (with_reducible assumption) | assumption)
                            have q18 : (ji15) < (a0.size : Int) := of_decide_eq_true (by first | (with_reducible assumption) | assumption)
                            have hx18 := bt_at a0 (ji15)
                            replace p18 := eq_true p18
                            replace q18 := eq_true q18
                            go_enter Try.func9, Try.ntmps9
                            go_wp2
                            go_ret3
                            exact ⟨by first | rfl | (simp [errW_none, errW_some] <;> rfl) | (simp only [← hji5, ← hji10, ← hji15]; first | rfl | (simp [errW_none, errW_some] <;> rfl)) | (simp [*, errW_none, errW_some] <;> rfl), by repeat (first | (with_reducible first | exact HB.out | apply below_alloc | apply pw_below_drewN | apply below_drew1) | exact HB.out)⟩
                        · rw [if_neg c17] at H
                          exact absurd H (by simp)
                      · rw [if_neg c16] at H
                        exact absurd H (by simp)
                    · rw [if_neg c14] at H
                      have c14b0 : ((a0.extract ((ji10) : Int).toNat ((wrap64 ((ji10) + 4)) : Int).toNat).toList == ([116, 97, 103, 32] : List UInt8)) = false := beq_eq_false_iff_ne.mpr c14
                      have c14b1 : ((a0.extract ((ji10) : Int).toNat ((wrap64 ((ji10) + 4)) : Int).toNat).toList != ([116, 97, 103, 32] : List UInt8)) = true := bne_iff_ne.mpr c14
                      simp only [Option.some.injEq, Prod.mk.injEq] at H
                      obtain ⟨rfl, rfl, rfl⟩ := H
                      have p8 : 0 ≤ ((ji5) : Int) := of_decide_eq_true (by first | (with_reducible assumption) | assumption)
                      have q8 : (ji5) < (a0.size : Int) := of_decide_eq_true (by first | (with_reducible assumption) | assumption)
                      have hx8 := bt_at a0 (ji5)
                      replace p8 := eq_true p8
                      replace q8 := eq_true q8
                      go_enter Try.func9, Try.ntmps9
                      go_wp2
                      go_ret3
                      exact ⟨by first | rfl | (simp [errW_none, errW_some] <;> rfl) | (simp only [← hji5, ← hji10]; first | rfl | (simp [errW_none, errW_some] <;> rfl)) | (simp [*, errW_none, errW_some] <;> rfl), by repeat (first | (with_reducible first | exact HB.out | apply below_alloc | apply pw_below_drewN | apply below_drew1) | exact HB.out)⟩
                  · rw [if_neg c13] at H
                    exact absurd H (by simp)
                · rw [if_neg c12] at H
                  exact absurd H (by simp)
              · rw [if_neg c11] at H
                exact absurd H (by simp)
            · rw [if_neg c9] at H
              have c9b0 : ((bt a0 (ji5)) == 10) = false := beq_eq_false_iff_ne.mpr c9
              have c9b1 : ((bt a0 (ji5)) != 10) = true := bne_iff_ne.mpr c9
              simp only [Option.some.injEq, Prod.mk.injEq] at H
              obtain ⟨rfl, rfl, rfl⟩ := H
              have p8 : 0 ≤ ((ji5) : Int) := of_decide_eq_true (by first | (with_reducible assumption) | assumption)
              have q8 : (ji5) < (a0.size : Int) := of_decide_eq_true (by first | (with_reducible assumption) | assumption)
              have hx8 := bt_at a0 (ji5)
              replace p8 := eq_true p8
              replace q8 := eq_true q8
              go_enter Try.func9, Try.ntmps9
              go_wp2
              go_ret3
              exact ⟨by first | rfl | (simp [errW_none, errW_some] <;> rfl) | (simp only [← hji5]; first | rfl | (simp [errW_none, errW_some] <;> rfl)) | (simp [*, errW_none, errW_some] <;> rfl), by repeat (first | (with_reducible first | exact HB.out | apply below_alloc | apply pw_below_drewN | apply below_drew1) | exact HB.out)⟩
          · rw [if_neg c7] at H
            exact absurd H (by simp)
        · rw [if_neg c6] at H
          exact absurd H (by simp)
      · rw [if_neg c4] at H
        have c4b0 : decide (0 < (wrap64 ((a0.size : Int) - 69))) = false := decide_eq_false c4
        clear c4
        obtain ⟨ji30, hji30⟩ : ∃ j_ : Int, (wrap64 ((a0.size : Int) - 69)) = j_ := ⟨_, rfl⟩
        replace H : (if 0 ≤ (ji30) then (if (ji30) ≤ (wrap64 ((ji30) + 4)) then (if (wrap64 ((ji30) + 4)) ≤ (a0.size : Int) then (if (a0.extract ((ji30) : Int).toNat ((wrap64 ((ji30) + 4)) : Int).toNat).toList = ([116, 97, 103, 32] : List UInt8) then (if 0 ≤ (wrap64 ((ji30) + 68)) then (if (wrap64 ((ji30) + 68)) < (a0.size : Int) then (if (bt a0 (wrap64 ((ji30) + 68))) = 10 then (if 0 ≤ (wrap64 ((ji30) + 4)) then (if (wrap64 ((ji30) + 4)) ≤ (wrap64 ((ji30) + 68)) then (if (wrap64 ((ji30) + 68)) ≤ (a0.size : Int) then ((spec_Unhex.f k (a0.extract ((wrap64 ((ji30) + 4)) : Int).toNat ((wrap64 ((ji30) + 68)) : Int).toNat)).bind fun bt103 => (if bt103.2 = true then (if (ji30) ≤ (a0.size : Int) then (some (a0.extract 0 ((ji30) : Int).toNat, bt103.1, true)) else (none)) else (some ((⟨#[]⟩ : ByteArray), (⟨#[]⟩ : ByteArray), false)))) else (none)) else (none)) else (none)) else (some ((⟨#[]⟩ : ByteArray), (⟨#[]⟩ : ByteArray), false))) else (none)) else (none)) else (some ((⟨#[]⟩ : ByteArray), (⟨#[]⟩ : ByteArray), false))) else (none)) else (none)) else (none)) = some (r1, r2, r3) := by first | (rw [hji30] at H; exact H) | (simp only [hji30] at H ⊢; exact H)
        (try rw [hji30] at c2b0)
        (try rw [hji30] at c3b0)
        (try rw [hji30] at c4b0)
        have hji30w : (IntKind.i64.wrap ((a0.size : Int) - 69)) = ji30 := (i64_w _).trans hji30
        by_cases c31 : 0 ≤ (ji30)
        · rw [if_pos c31] at H
          have c31b0 := eq_true c31
          have c31b1 : decide (0 ≤ (ji30)) = true := decide_eq_true c31
          clear c31
          by_cases c32 : (ji30) ≤ (wrap64 ((ji30) + 4))
          · rw [if_pos c32] at H
            have c32b0 := eq_true c32
            have c32b1 : decide ((ji30) ≤ (wrap64 ((ji30) + 4))) = true := decide_eq_true c32
            by_cases c33 : (wrap64 ((ji30) + 4)) ≤ (a0.size : Int)
            · rw [if_pos c33] at H
              have c33b0 := eq_true c33
              have c33b1 : decide ((wrap64 ((ji30) + 4)) ≤ (a0.size : Int)) = true := decide_eq_true c33
              by_cases c34 : (a0.extract ((ji30) : Int).toNat ((wrap64 ((ji30) + 4)) : Int).toNat).toList = ([116, 97, 103, 32] : List UInt8)
              · rw [if_pos c34] at H
                have c34b0 : ((a0.extract ((ji30) : Int).toNat ((wrap64 ((ji30) + 4)) : Int).toNat).toList == ([116, 97, 103, 32] : List UInt8)) = true := beq_iff_eq.mpr c34
                have c34b1 : ((a0.extract ((ji30) : Int).toNat ((wrap64 ((ji30) + 4)) : Int).toNat).toList != ([116, 97, 103, 32] : List UInt8)) = false := bne_eq_false_iff_eq.mpr c34
                clear c34
                obtain ⟨ji35, hji35⟩ : ∃ j_ : Int, (wrap64 ((ji30) + 68)) = j_ := ⟨_, rfl⟩
                replace H : (if 0 ≤ (ji35) then (if (ji35) < (a0.size : Int) then (if (bt a0 (ji35)) = 10 then (if 0 ≤ (wrap64 ((ji30) + 4)) then (if (wrap64 ((ji30) + 4)) ≤ (ji35) then (if (ji35) ≤ (a0.size : Int) then ((spec_Unhex.f k (a0.extract ((wrap64 ((ji30) + 4)) : Int).toNat ((ji35) : Int).toNat)).bind fun bt103 => (if bt103.2 = true then (if (ji30) ≤ (a0.size : Int) then (some (a0.extract 0 ((ji30) : Int).toNat, bt103.1, true)) else (none)) else (some ((⟨#[]⟩ : ByteArray), (⟨#[]⟩ : ByteArray), false)))) else (none)) else (none)) else (none)) else (some ((⟨#[]⟩ : ByteArray), (⟨#[]⟩ : ByteArray), false))) else (none)) else (none)) = some (r1, r2, r3) := by first | (rw [hji35] at H; exact H) | (simp only [hji35] at H ⊢; exact H)
                have hji35w : (IntKind.i64.wrap ((ji30) + 68)) = ji35 := (i64_w _).trans hji35
                (try rw [hji35] at hji30)
                (try rw [hji35] at hji30w)
                by_cases c36 : 0 ≤ (ji35)
                · rw [if_pos c36] at H
                  have c36b0 : decide (0 ≤ (ji35)) = true := decide_eq_true c36
                  clear c36
                  by_cases c37 : (ji35) < (a0.size : Int)
                  · rw [if_pos c37] at H
                    have c37b0 : decide ((ji35) < (a0.size : Int)) = true := decide_eq_true c37
                    clear c37
                    by_cases c39 : (bt a0 (ji35)) = 10
                    · rw [if_pos c39] at H
                      have c39b0 : ((bt a0 (ji35)) == 10) = true := beq_iff_eq.mpr c39
                      have c39b1 : ((bt a0 (ji35)) != 10) = false := bne_eq_false_iff_eq.mpr c39
                      clear c39
                      obtain ⟨ji40, hji40⟩ : ∃ j_ : Int, (wrap64 ((ji30) + 4)) = j_ := ⟨_, rfl⟩
                      replace H : (if 0 ≤ (ji40) then (if (ji40) ≤ (ji35) then (if (ji35) ≤ (a0.size : Int) then ((spec_Unhex.f k (a0.extract ((ji40) : Int).toNat ((ji35) : Int).toNat)).bind fun bt103 => (if bt103.2 = true then (if (ji30) ≤ (a0.size : Int) then (some (a0.extract 0 ((ji30) : Int).toNat, bt103.1, true)) else (none)) else (some ((⟨#[]⟩ : ByteArray), (⟨#[]⟩ : ByteArray), false)))) else (none)) else (none)) else (none)) = some (r1, r2, r3) := by first | (rw [hji40] at H; exact H) | (simp only [hji40] at H ⊢; exact H)
                      (try rw [hji40] at c32b0)
                      (try rw [hji40] at c32b1)
                      (try rw [hji40] at c32)
                      (try rw [hji40] at c33b0)
                      (try rw [hji40] at c33b1)
                      (try rw [hji40] at c33)
                      (try rw [hji40] at c34b0)
                      (try rw [hji40] at c34b1)
                      have hji40w : (IntKind.i64.wrap ((ji30) + 4)) = ji40 := (i64_w _).trans hji40
                      (try rw [hji40] at hji30)
                      (try rw [hji40] at hji30w)
                      (try rw [hji40] at hji35)
                      (try rw [hji40] at hji35w)
                      by_cases c41 : 0 ≤ (ji40)
                      · rw [if_pos c41] at H
                        have c41b0 := eq_true c41
                        have c41b1 : decide (0 ≤ (ji40)) = true := decide_eq_true c41
                        clear c41
                        by_cases c42 : (ji40) ≤ (ji35)
                        · rw [if_pos c42] at H
                          have c42b0 := eq_true c42
                          have c42b1 : decide ((ji40) ≤ (ji35)) = true := decide_eq_true c42
                          clear c42
                          by_cases c43 : (ji35) ≤ (a0.size : Int)
                          · rw [if_pos c43] at H
                            have c43b0 := eq_true c43
                            have c43b1 : decide ((ji35) ≤ (a0.size : Int)) = true := decide_eq_true c43
                            clear c43
                            replace H := Option.bind_eq_some_iff.mp H
                            obtain ⟨⟨t103, t104⟩, A440, H⟩ := H
                            replace H : (if t104 = true then (if (ji30) ≤ (a0.size : Int) then (some (a0.extract 0 ((ji30) : Int).toNat, t103, true)) else (none)) else (some ((⟨#[]⟩ : ByteArray), (⟨#[]⟩ : ByteArray), false))) = some (r1, r2, r3) := H
                            have A44 := Aside0.mk A440
                            clear A440
                            by_cases c45 : t104 = true
                            · subst c45
                              have H1 : (if (ji30) ≤ (a0.size : Int) then (some (a0.extract 0 ((ji30) : Int).toNat, t103, true)) else (none)) = some (r1, r2, r3) := by rw [if_pos rfl] at H; exact H
                              clear H
                              have H := H1
                              clear H1
                              have c46b0 := eq_true (of_decide_eq_true (by first | (with_reducible assumption) | assumption) : 0 ≤ (ji30))
                              by_cases c47 : (ji30) ≤ (a0.size : Int)
                              · rw [if_pos c47] at H
                                have c47b0 := eq_true c47
                                have c47b1 : decide ((ji30) ≤ (a0.size : Int)) = true := decide_eq_true c47
                                clear c47
                                simp only [Option.some.injEq, Prod.mk.injEq] at H
                                obtain ⟨rfl, rfl, rfl⟩ := H
                                have p38 : 0 ≤ ((ji35) : Int) := of_decide_eq_true (by first | (with_reducible assumption) | assumption)
                                have q38 : (ji35) < (a0.size : Int) := of_decide_eq_true (by first | (with_reducible assumption) | assumption)
                                have hx38 := bt_at a0 (ji35)
                                replace p38 := eq_true p38
                                replace q38 := eq_true q38
                                go_enter Try.func9, Try.ntmps9
                                go_wp2_with (first | ((with_reducible refine gate_callee (f := 25) rfl ?_); refine goesL_ (some 50) rfl rfl Try.func25 (by kernel_rfl) rfl #[.string (a0.extract ((ji40) : Int).toNat ((ji35) : Int).toNat)] rfl (by (try simp only [List.map_toArray, List.map_cons, List.map_nil]); first | done | (simp only [hji35, hji40]; rfl) | rfl | (simp only [List.length_drop, List.length_take]; rfl)) ?_; (with_reducible refine (spec_Unhex.calls k (a0.extract ((ji40) : Int).toNat ((ji35) : Int).toNat) t103 true _ A44.out).mono ?_); rintro e w48 ⟨rfl, hb⟩; refine ⟨_, rfl, ?_⟩; have n0_ := Aside0.mk (below_step (by repeat (first | (with_reducible first | exact HB.out | apply below_alloc | apply pw_below_drewN | apply below_drew1) | exact HB.out)) hb); clear HB; have HB := n0_; clear n0_; (try clear hb); (try clear hb2); (try clear hk); (try clear hi)))
                                go_ret3
                                exact ⟨by first | rfl | (simp [errW_none, errW_some] <;> rfl) | (simp only [← hji30, ← hji35, ← hji40]; first | rfl | (simp [errW_none, errW_some] <;> rfl)) | (simp [*, errW_none, errW_some] <;> rfl), by repeat (first | (with_reducible first | exact HB.out | apply below_alloc | apply pw_below_drewN | apply below_drew1) | exact HB.out)⟩
                              · rw [if_neg c47] at H
                                exact absurd H (by simp)
                            · replace c45 := Bool.eq_false_iff.mpr c45
                              subst c45
                              have H1 : (some ((⟨#[]⟩ : ByteArray), (⟨#[]⟩ : ByteArray), false)) = some (r1, r2, r3) := by rw [if_neg (show ¬ (false = true) by decide)] at H; exact H
                              clear H
                              have H := H1
                              clear H1
                              simp only [Option.some.injEq, Prod.mk.injEq] at H
                              obtain ⟨rfl, rfl, rfl⟩ := H
                              have p38 : 0 ≤ ((ji35) : Int) := of_decide_eq_true (by first | (with_reducible assumption) | assumption)
                              have q38 : (ji35) < (a0.size : Int) := of_decide_eq_true (by first | (with_reducible assumption) | assumption)
                              have hx38 := bt_at a0 (ji35)
                              replace p38 := eq_true p38
                              replace q38 := eq_true q38
                              go_enter Try.func9, Try.ntmps9
                              go_wp2_with (first | ((with_reducible refine gate_callee (f := 25) rfl ?_); refine goesL_ (some 50) rfl rfl Try.func25 (by kernel_rfl) rfl #[.string (a0.extract ((ji40) : Int).toNat ((ji35) : Int).toNat)] rfl (by (try simp only [List.map_toArray, List.map_cons, List.map_nil]); first | done | (simp only [hji35, hji40]; rfl) | rfl | (simp only [List.length_drop, List.length_take]; rfl)) ?_; (with_reducible refine (spec_Unhex.calls k (a0.extract ((ji40) : Int).toNat ((ji35) : Int).toNat) t103 false _ A44.out).mono ?_); rintro e w49 ⟨rfl, hb⟩; refine ⟨_, rfl, ?_⟩; have n0_ := Aside0.mk (below_step (by repeat (first | (with_reducible first | exact HB.out | apply below_alloc | apply pw_below_drewN | apply below_drew1) | exact HB.out)) hb); clear HB; have HB := n0_; clear n0_; (try clear hb); (try clear hb2); (try clear hk); (try clear hi)))
                              go_ret3
                              exact ⟨by first | rfl | (simp [errW_none, errW_some] <;> rfl) | (simp only [← hji30, ← hji35, ← hji40]; first | rfl | (simp [errW_none, errW_some] <;> rfl)) | (simp [*, errW_none, errW_some] <;> rfl), by repeat (first | (with_reducible first | exact HB.out | apply below_alloc | apply pw_below_drewN | apply below_drew1) | exact HB.out)⟩
                          · rw [if_neg c43] at H
                            exact absurd H (by simp)
                        · rw [if_neg c42] at H
                          exact absurd H (by simp)
                      · rw [if_neg c41] at H
                        exact absurd H (by simp)
                    · rw [if_neg c39] at H
                      have c39b0 : ((bt a0 (ji35)) == 10) = false := beq_eq_false_iff_ne.mpr c39
                      have c39b1 : ((bt a0 (ji35)) != 10) = true := bne_iff_ne.mpr c39
                      simp only [Option.some.injEq, Prod.mk.injEq] at H
                      obtain ⟨rfl, rfl, rfl⟩ := H
                      have p38 : 0 ≤ ((ji35) : Int) := of_decide_eq_true (by first | (with_reducible assumption) | assumption)
                      have q38 : (ji35) < (a0.size : Int) := of_decide_eq_true (by first | (with_reducible assumption) | assumption)
                      have hx38 := bt_at a0 (ji35)
                      replace p38 := eq_true p38
                      replace q38 := eq_true q38
                      go_enter Try.func9, Try.ntmps9
                      go_wp2
                      go_ret3
                      exact ⟨by first | rfl | (simp [errW_none, errW_some] <;> rfl) | (simp only [← hji30, ← hji35]; first | rfl | (simp [errW_none, errW_some] <;> rfl)) | (simp [*, errW_none, errW_some] <;> rfl), by repeat (first | (with_reducible first | exact HB.out | apply below_alloc | apply pw_below_drewN | apply below_drew1) | exact HB.out)⟩
                  · rw [if_neg c37] at H
                    exact absurd H (by simp)
                · rw [if_neg c36] at H
                  exact absurd H (by simp)
              · rw [if_neg c34] at H
                have c34b0 : ((a0.extract ((ji30) : Int).toNat ((wrap64 ((ji30) + 4)) : Int).toNat).toList == ([116, 97, 103, 32] : List UInt8)) = false := beq_eq_false_iff_ne.mpr c34
                have c34b1 : ((a0.extract ((ji30) : Int).toNat ((wrap64 ((ji30) + 4)) : Int).toNat).toList != ([116, 97, 103, 32] : List UInt8)) = true := bne_iff_ne.mpr c34
                simp only [Option.some.injEq, Prod.mk.injEq] at H
                obtain ⟨rfl, rfl, rfl⟩ := H
                go_enter Try.func9, Try.ntmps9
                go_wp2
                go_ret3
                exact ⟨by first | rfl | (simp [errW_none, errW_some] <;> rfl) | (simp only [← hji30]; first | rfl | (simp [errW_none, errW_some] <;> rfl)) | (simp [*, errW_none, errW_some] <;> rfl), by repeat (first | (with_reducible first | exact HB.out | apply below_alloc | apply pw_below_drewN | apply below_drew1) | exact HB.out)⟩
            · rw [if_neg c33] at H
              exact absurd H (by simp)
          · rw [if_neg c32] at H
            exact absurd H (by simp)
        · rw [if_neg c31] at H
          exact absurd H (by simp)

end Go.Proofs.Ythnembgbooaplaa.P

namespace Go.Proofs.Ythnembgbooaplaa.P
open Go.RowKit Go.Proofs.YthnembgbooaplaaW.PrintWords Go.Proofs.YthnembgbooaplaaW.PrintLast Go.Proofs.YthnembgbooaplaaW.PrintMore
attribute [local go_sem] max2_int min2_int max_two min_two max_three min_three max_four min_four
set_option linter.unusedVariables false
set_option linter.unusedSimpArgs false

/-! ### laws_FnExactBodyIn: function 3 -/
def laws_FnExactBodyIn.f (k : Nat) (a0 : ByteArray) : Option (Bool) := if (a0.size : Int) > 1048576 then (some true) else ((spec_BodyIn.f k a0).bind fun bt101 => ((impl_BodyIn.f k a0).bind fun bt104 => (if bt104.1.toList = bt101.1.toList then (if bt104.2.1.toList = bt101.2.1.toList then (if (bt104.2.2 != bt101.2.2) = true then (some false) else (some true)) else (some false)) else (some false))))
theorem laws_FnExactBodyIn.mono : ∀ a0 k, LeO (laws_FnExactBodyIn.f k a0) (laws_FnExactBodyIn.f (k + 1) a0) := by
  intro a0 k
  unfold laws_FnExactBodyIn.f
  repeat' first
      | (with_reducible exact impl_BodyIn.mono _ _)
      | (with_reducible exact spec_BodyIn.mono _ _)
      | (with_reducible exact LeO.refl _)
      | (with_reducible exact LeO.none _)
      | (with_reducible refine LeO.ite ?_ ?_)
      | (with_reducible refine LeO.bind ?_ (fun _ => ?_))
      | exact impl_BodyIn.mono _ _
      | exact spec_BodyIn.mono _ _
      | exact LeO.none _
      | refine LeO.ite ?_ ?_
      | refine LeO.bind ?_ (fun _ => ?_)
set_option maxHeartbeats 8000000 in
set_option maxRecDepth 100000 in
theorem laws_FnExactBodyIn.calls (k : Nat) (a0 : ByteArray) (r : Bool) (w : World) (h : laws_FnExactBodyIn.f k a0 = some r) :
    Calls Try.prog 3 #[.string a0] w fun e w' => e = .returned (.bool r) ∧ Below w.heap.size w w' := by
  have HB := Aside0.mk (Below.refl w.heap.size w)
  have H : (if (a0.size : Int) > 1048576 then (some true) else ((spec_BodyIn.f k a0).bind fun bt101 => ((impl_BodyIn.f k a0).bind fun bt104 => (if bt104.1.toList = bt101.1.toList then (if bt104.2.1.toList = bt101.2.1.toList then (if (bt104.2.2 != bt101.2.2) = true then (some false) else (some true)) else (some false)) else (some false))))) = some r := h
  clear h
  by_cases c2 : (a0.size : Int) > 1048576
  · rw [if_pos c2] at H
    have c2b0 : decide (1048576 < (a0.size : Int)) = true := decide_eq_true c2
    have c2b1 : decide (1048576 < a0.size) = true := decide_eq_true (by omega)
    clear c2
    obtain rfl := Option.some.inj H
    go_enter Try.func3, Try.ntmps3
    go_wp2
    go_ret
    exact ⟨by first | rfl | (simp [errW_none, errW_some] <;> rfl) | (simp [*, errW_none, errW_some] <;> rfl), by repeat (first | (with_reducible first | exact HB.out | apply below_alloc | apply pw_below_drewN | apply below_drew1) | exact HB.out)⟩
  · rw [if_neg c2] at H
    have c2b0 : decide (1048576 < (a0.size : Int)) = false := decide_eq_false c2
    have c2b1 : decide (1048576 < a0.size) = false := decide_eq_false (by omega)
    clear c2
    replace H := Option.bind_eq_some_iff.mp H
    obtain ⟨⟨t101, t102, t103⟩, A30, H⟩ := H
    replace H : ((impl_BodyIn.f k a0).bind fun bt104 => (if bt104.1.toList = t101.toList then (if bt104.2.1.toList = t102.toList then (if (bt104.2.2 != t103) = true then (some false) else (some true)) else (some false)) else (some false))) = some r := H
    have A3 := Aside0.mk A30
    clear A30
    replace H := Option.bind_eq_some_iff.mp H
    obtain ⟨⟨t104, t105, t106⟩, A40, H⟩ := H
    replace H : (if t104.toList = t101.toList then (if t105.toList = t102.toList then (if (t106 != t103) = true then (some false) else (some true)) else (some false)) else (some false)) = some r := H
    have A4 := Aside0.mk A40
    clear A40
    by_cases c5 : t104.toList = t101.toList
    · rw [if_pos c5] at H
      have c5b0 : (t104.toList == t101.toList) = true := beq_iff_eq.mpr c5
      have c5b1 : (t104.toList != t101.toList) = false := bne_eq_false_iff_eq.mpr c5
      clear c5
      by_cases c6 : t105.toList = t102.toList
      · rw [if_pos c6] at H
        have c6b0 : (t105.toList == t102.toList) = true := beq_iff_eq.mpr c6
        have c6b1 : (t105.toList != t102.toList) = false := bne_eq_false_iff_eq.mpr c6
        clear c6
        by_cases c7 : (t106 != t103) = true
        · rw [if_pos c7] at H
          have c7b0 : (t106 != t103) = true := c7
          (try (have c7b1 : decide (t106 = t103) = false := by simpa using c7))
          (try (have c7b2 : (t106 == t103) = false := by simpa using c7))
          (try (have c7b3 : ¬ (t106 = t103) := by simpa using c7))
          clear c7
          obtain rfl := Option.some.inj H
          go_enter Try.func3, Try.ntmps3
          go_wp2_with (first | ((with_reducible refine gate_callee (f := 9) rfl ?_); refine goesL_ (some 14) rfl rfl Try.func9 (by kernel_rfl) rfl #[.string a0] rfl (by (try simp only [List.map_toArray, List.map_cons, List.map_nil]); first | done | rfl | (simp only [List.length_drop, List.length_take]; rfl)) ?_; (with_reducible refine (spec_BodyIn.calls k a0 t101 t102 t103 _ A3.out).mono ?_); rintro e w8 ⟨rfl, hb⟩; refine ⟨_, rfl, ?_⟩; have n0_ := Aside0.mk (below_step (by repeat (first | (with_reducible first | exact HB.out | apply below_alloc | apply pw_below_drewN | apply below_drew1) | exact HB.out)) hb); clear HB; have HB := n0_; clear n0_; (try clear hb); (try clear hb2); (try clear hk); (try clear hi)) | ((with_reducible refine gate_callee (f := 10) rfl ?_); refine goesL_ (some 20) rfl rfl Try.func10 (by kernel_rfl) rfl #[.string a0] rfl (by (try simp only [List.map_toArray, List.map_cons, List.map_nil]); first | done | rfl | (simp only [List.length_drop, List.length_take]; rfl)) ?_; (with_reducible refine (impl_BodyIn.calls k a0 t104 t105 t106 _ A4.out).mono ?_); rintro e w9 ⟨rfl, hb⟩; refine ⟨_, rfl, ?_⟩; have n0_ := Aside0.mk (below_step (by repeat (first | (with_reducible first | exact HB.out | apply below_alloc | apply pw_below_drewN | apply below_drew1) | exact HB.out)) hb); clear HB; have HB := n0_; clear n0_; (try clear hb); (try clear hb2); (try clear hk); (try clear hi)))
          go_ret
          exact ⟨by first | rfl | (simp [errW_none, errW_some] <;> rfl) | (simp [*, errW_none, errW_some] <;> rfl), by repeat (first | (with_reducible first | exact HB.out | apply below_alloc | apply pw_below_drewN | apply below_drew1) | exact HB.out)⟩
        · rw [if_neg c7] at H
          have c7b0 : (t106 != t103) = false := by simpa using c7
          (try (have c7b1 : decide (t106 = t103) = true := by simpa using c7))
          (try (have c7b2 : (t106 == t103) = true := by simpa using c7))
          clear c7
          obtain rfl := Option.some.inj H
          go_enter Try.func3, Try.ntmps3
          go_wp2_with (first | ((with_reducible refine gate_callee (f := 9) rfl ?_); refine goesL_ (some 14) rfl rfl Try.func9 (by kernel_rfl) rfl #[.string a0] rfl (by (try simp only [List.map_toArray, List.map_cons, List.map_nil]); first | done | rfl | (simp only [List.length_drop, List.length_take]; rfl)) ?_; (with_reducible refine (spec_BodyIn.calls k a0 t101 t102 t103 _ A3.out).mono ?_); rintro e w10 ⟨rfl, hb⟩; refine ⟨_, rfl, ?_⟩; have n0_ := Aside0.mk (below_step (by repeat (first | (with_reducible first | exact HB.out | apply below_alloc | apply pw_below_drewN | apply below_drew1) | exact HB.out)) hb); clear HB; have HB := n0_; clear n0_; (try clear hb); (try clear hb2); (try clear hk); (try clear hi)) | ((with_reducible refine gate_callee (f := 10) rfl ?_); refine goesL_ (some 20) rfl rfl Try.func10 (by kernel_rfl) rfl #[.string a0] rfl (by (try simp only [List.map_toArray, List.map_cons, List.map_nil]); first | done | rfl | (simp only [List.length_drop, List.length_take]; rfl)) ?_; (with_reducible refine (impl_BodyIn.calls k a0 t104 t105 t106 _ A4.out).mono ?_); rintro e w11 ⟨rfl, hb⟩; refine ⟨_, rfl, ?_⟩; have n0_ := Aside0.mk (below_step (by repeat (first | (with_reducible first | exact HB.out | apply below_alloc | apply pw_below_drewN | apply below_drew1) | exact HB.out)) hb); clear HB; have HB := n0_; clear n0_; (try clear hb); (try clear hb2); (try clear hk); (try clear hi)))
          go_ret
          exact ⟨by first | rfl | (simp [errW_none, errW_some] <;> rfl) | (simp [*, errW_none, errW_some] <;> rfl), by repeat (first | (with_reducible first | exact HB.out | apply below_alloc | apply pw_below_drewN | apply below_drew1) | exact HB.out)⟩
      · rw [if_neg c6] at H
        have c6b0 : (t105.toList == t102.toList) = false := beq_eq_false_iff_ne.mpr c6
        have c6b1 : (t105.toList != t102.toList) = true := bne_iff_ne.mpr c6
        obtain rfl := Option.some.inj H
        go_enter Try.func3, Try.ntmps3
        go_wp2_with (first | ((with_reducible refine gate_callee (f := 9) rfl ?_); refine goesL_ (some 14) rfl rfl Try.func9 (by kernel_rfl) rfl #[.string a0] rfl (by (try simp only [List.map_toArray, List.map_cons, List.map_nil]); first | done | rfl | (simp only [List.length_drop, List.length_take]; rfl)) ?_; (with_reducible refine (spec_BodyIn.calls k a0 t101 t102 t103 _ A3.out).mono ?_); rintro e w12 ⟨rfl, hb⟩; refine ⟨_, rfl, ?_⟩; have n0_ := Aside0.mk (below_step (by repeat (first | (with_reducible first | exact HB.out | apply below_alloc | apply pw_below_drewN | apply below_drew1) | exact HB.out)) hb); clear HB; have HB := n0_; clear n0_; (try clear hb); (try clear hb2); (try clear hk); (try clear hi)) | ((with_reducible refine gate_callee (f := 10) rfl ?_); refine goesL_ (some 20) rfl rfl Try.func10 (by kernel_rfl) rfl #[.string a0] rfl (by (try simp only [List.map_toArray, List.map_cons, List.map_nil]); first | done | rfl | (simp only [List.length_drop, List.length_take]; rfl)) ?_; (with_reducible refine (impl_BodyIn.calls k a0 t104 t105 t106 _ A4.out).mono ?_); rintro e w13 ⟨rfl, hb⟩; refine ⟨_, rfl, ?_⟩; have n0_ := Aside0.mk (below_step (by repeat (first | (with_reducible first | exact HB.out | apply below_alloc | apply pw_below_drewN | apply below_drew1) | exact HB.out)) hb); clear HB; have HB := n0_; clear n0_; (try clear hb); (try clear hb2); (try clear hk); (try clear hi)))
        go_ret
        exact ⟨by first | rfl | (simp [errW_none, errW_some] <;> rfl) | (simp [*, errW_none, errW_some] <;> rfl), by repeat (first | (with_reducible first | exact HB.out | apply below_alloc | apply pw_below_drewN | apply below_drew1) | exact HB.out)⟩
    · rw [if_neg c5] at H
      have c5b0 : (t104.toList == t101.toList) = false := beq_eq_false_iff_ne.mpr c5
      have c5b1 : (t104.toList != t101.toList) = true := bne_iff_ne.mpr c5
      obtain rfl := Option.some.inj H
      go_enter Try.func3, Try.ntmps3
      go_wp2_with (first | ((with_reducible refine gate_callee (f := 9) rfl ?_); refine goesL_ (some 14) rfl rfl Try.func9 (by kernel_rfl) rfl #[.string a0] rfl (by (try simp only [List.map_toArray, List.map_cons, List.map_nil]); first | done | rfl | (simp only [List.length_drop, List.length_take]; rfl)) ?_; (with_reducible refine (spec_BodyIn.calls k a0 t101 t102 t103 _ A3.out).mono ?_); rintro e w14 ⟨rfl, hb⟩; refine ⟨_, rfl, ?_⟩; have n0_ := Aside0.mk (below_step (by repeat (first | (with_reducible first | exact HB.out | apply below_alloc | apply pw_below_drewN | apply below_drew1) | exact HB.out)) hb); clear HB; have HB := n0_; clear n0_; (try clear hb); (try clear hb2); (try clear hk); (try clear hi)) | ((with_reducible refine gate_callee (f := 10) rfl ?_); refine goesL_ (some 20) rfl rfl Try.func10 (by kernel_rfl) rfl #[.string a0] rfl (by (try simp only [List.map_toArray, List.map_cons, List.map_nil]); first | done | rfl | (simp only [List.length_drop, List.length_take]; rfl)) ?_; (with_reducible refine (impl_BodyIn.calls k a0 t104 t105 t106 _ A4.out).mono ?_); rintro e w15 ⟨rfl, hb⟩; refine ⟨_, rfl, ?_⟩; have n0_ := Aside0.mk (below_step (by repeat (first | (with_reducible first | exact HB.out | apply below_alloc | apply pw_below_drewN | apply below_drew1) | exact HB.out)) hb); clear HB; have HB := n0_; clear n0_; (try clear hb); (try clear hb2); (try clear hk); (try clear hi)))
      go_ret
      exact ⟨by first | rfl | (simp [errW_none, errW_some] <;> rfl) | (simp [*, errW_none, errW_some] <;> rfl), by repeat (first | (with_reducible first | exact HB.out | apply below_alloc | apply pw_below_drewN | apply below_drew1) | exact HB.out)⟩

/-- THE ONE PURE STATEMENT of laws_FnExactBodyIn: yours. -/
def laws_FnExactBodyIn.Pure : Prop := ∀ (a0 : ByteArray), a0.size ≤ 140737488351232 → ∃ k, laws_FnExactBodyIn.f k a0 = some true
theorem laws_FnExactBodyIn.walk (P : laws_FnExactBodyIn.Pure) (a0 : ByteArray) (w : World) (w0 : a0.size ≤ 140737488351232) :
    Calls Try.prog 3 #[.string a0] w fun e w' => e = .returned (.bool true) ∧ Below w.heap.size w w' := by
  obtain ⟨k, h⟩ := P a0 w0
  refine (laws_FnExactBodyIn.calls k a0 true w h).mono ?_
  rintro e w' ⟨rfl, hd⟩
  exact ⟨rfl, hd⟩

end Go.Proofs.Ythnembgbooaplaa.P

namespace Go.Proofs.Ythnembgbooaplaa.Pure
open Go.RowKit Go.Proofs.Ythnembgbooaplaa.P Go.Proofs.YthnembgbooaplaaW.PrintWords
theorem bt_rng (s : ByteArray) (i : Int) : 0 ≤ bt s i ∧ bt s i < 256 := by
  unfold bt
  split
  · have := (s[i.toNat]).toNat_lt; omega
  · omega
abbrev hexT : ByteArray := ⟨#[48, 49, 50, 51, 52, 53, 54, 55, 56, 57, 97, 98, 99, 100, 101, 102]⟩
theorem digits_all : ∀ b : Fin 256, spec_l01Value.f 1 (b.val : Int) = strings_IndexByte.f hexT (b.val : Int) ∧ ((spec_l01Value.f 1 (b.val : Int)).all fun x => decide (-1 ≤ x ∧ x < 16)) = true ∧ (spec_l01Value.f 1 (b.val : Int)).isSome = true := by decide +kernel
theorem digit_mono (k : Nat) (c : Int) : spec_l01Value.f (k + 1) c = spec_l01Value.f 1 c := by
  have h : ∀ k b, spec_l01Value.j0 (k + 1) c b = spec_l01Value.j0 1 c b := by intro k b; simp only [spec_l01Value.j0]
  unfold spec_l01Value.f
  rw [h k (decide (c ≤ 57)), h k false]
theorem digit_is (k : Nat) (c : Int) (hk : 0 < k) (h0 : 0 ≤ c) (h1 : c < 256) : ∃ x, spec_l01Value.f k c = some x ∧ strings_IndexByte.f hexT c = some x ∧ -1 ≤ x ∧ x < 16 := by
  obtain ⟨k, rfl⟩ : ∃ m, k = m + 1 := ⟨k - 1, by omega⟩
  have h := digits_all ⟨c.toNat, by omega⟩
  have e : ((c.toNat : Nat) : Int) = c := by omega
  simp only [e] at h
  obtain ⟨x, hx⟩ := Option.isSome_iff_exists.mp h.2.2
  refine ⟨x, by rw [digit_mono, hx], by rw [← h.1, hx], ?_⟩
  have := h.2.1
  rw [hx] at this
  simpa using this
theorem both_all : ∀ a b : Fin 16, (Go.bits .or .i64 (wrap64 ((a.val : Int) * 16)) (b.val : Int)) % 256 = (wrap64 ((wrap64 (16 * (a.val : Int))) + (b.val : Int))) % 256 := by decide +kernel
theorem both_is (a b : Int) (a0 : 0 ≤ a) (a1 : a < 16) (b0 : 0 ≤ b) (b1 : b < 16) : (Go.bits .or .i64 (wrap64 (a * 16)) b) % 256 = (wrap64 ((wrap64 (16 * a)) + b)) % 256 := by
  have h := both_all ⟨a.toNat, by omega⟩ ⟨b.toNat, by omega⟩
  have e : ((a.toNat : Nat) : Int) = a := by omega
  have e' : ((b.toNat : Nat) : Int) = b := by omega
  simpa only [e, e'] using h
theorem unhex_loop (s : ByteArray) (hs : s.size ≤ 40000) (he : s.size % 2 = 0) (d : Nat) : ∀ (k : Nat) (acc : List Int) (i : Int), 0 ≤ i → i ≤ s.size → i % 2 = 0 → (s.size : Int) - i = d → d + 1 < k → acc.length ≤ i.toNat →
    ∃ r, spec_Unhex.l0 k s acc i = some r ∧ impl_Unhex.l0 k s acc i = some r := by
  induction d using Nat.strongRecOn with
  | _ d ih =>
  intro k acc i h0 h1 h2 hd hk ha
  obtain ⟨k, rfl⟩ : ∃ m, k = m + 1 := ⟨k - 1, by omega⟩
  simp only [spec_Unhex.l0, impl_Unhex.l0]
  by_cases c : i < (s.size : Int)
  · rw [if_pos c, if_pos h0, if_pos c, if_pos h0]
    obtain ⟨x, hx, hx', x0, x1⟩ := digit_is k (bt s i) (by omega) (bt_rng s i).1 (bt_rng s i).2
    obtain ⟨y, hy, hy', y0, y1⟩ := digit_is k (bt s (wrap64 (i + 1))) (by omega) (bt_rng s _).1 (bt_rng s _).2
    rw [hx, hx', hy, hy']
    simp only [Option.bind_some]
    have e : wrap64 (i + 1) = i + 1 := by unfold wrap64; omega
    have e2 : wrap64 (i + 2) = i + 2 := by unfold wrap64; omega
    have p1 : (0 ≤ i + 1) = True := eq_true (by omega)
    have p2 : (i + 1 < (s.size : Int)) = True := eq_true (by omega)
    have p3 : (acc.length < 140737488355328) = True := eq_true (by omega)
    simp only [e, e2, p1, p2, p3, if_true]
    by_cases cx : x < 0
    · simp only [eq_true cx, if_true]; exact ⟨_, rfl, rfl⟩
    · simp only [eq_false cx, if_false]
      by_cases cy : y < 0
      · simp only [eq_true cy, if_true]; exact ⟨_, rfl, rfl⟩
      · simp only [eq_false cy, if_false]
        rw [both_is x y (by omega) x1 (by omega) y1]
        exact ih (d - 2) (by omega) k _ (i + 2) (by omega) (by omega) (by omega) (by omega) (by omega) (by rw [List.length_append, List.length_singleton]; omega)
  · rw [if_neg c, if_neg c]; exact ⟨_, rfl, rfl⟩
theorem unhex_both (s : ByteArray) (k : Nat) (hk : 40010 < k) : ∃ r, spec_Unhex.f k s = some r ∧ impl_Unhex.f k s = some r := by
  obtain ⟨k, rfl⟩ : ∃ m, k = m + 1 := ⟨k - 1, by omega⟩
  unfold spec_Unhex.f impl_Unhex.f
  by_cases c : (s.size : Int) > 40000
  · rw [if_pos c, if_pos c]; simp only [spec_Unhex.j0, impl_Unhex.j0]; exact ⟨_, rfl, rfl⟩
  · rw [if_neg c, if_neg c]
    simp only [spec_Unhex.j0, impl_Unhex.j0]
    by_cases e : (((s.size : Int) % 2) != 0) = true
    · rw [if_pos e, if_pos e]; exact ⟨_, rfl, rfl⟩
    · rw [if_neg e, if_neg e]
      have e' : (s.size : Int) % 2 = 0 := by simpa using e
      have hw : wrap64 ((s.size : Int) / 2) = (s.size : Int) / 2 := by unfold wrap64; omega
      rw [hw, if_pos (by omega), if_pos (by omega)]
      exact unhex_loop s (by omega) (by omega) s.size k [] 0 (by omega) (by omega) (by omega) (by omega) (by omega) (by simp)
end Go.Proofs.Ythnembgbooaplaa.Pure

namespace Go.Proofs.Ythnembgbooaplaa.Pure
open Go.RowKit Go.Proofs.Ythnembgbooaplaa.P Go.Proofs.YthnembgbooaplaaW.PrintWords
abbrev bodyF : ByteArray × ByteArray × Bool := (⟨#[]⟩, ⟨#[]⟩, false)
def bodyRes (k : Nat) (a0 : ByteArray) (n : Nat) : ByteArray × ByteArray × Bool :=
  if 0 < n ∧ bt a0 ((n : Int) - 1) ≠ 10 then bodyF
  else if (a0.extract n (n + 4)).toList = ([116, 97, 103, 32] : List UInt8) ∧ bt a0 ((n : Int) + 68) = 10 then
    match spec_Unhex.f k (a0.extract (n + 4) (n + 68)) with
    | some (t, true) => (a0.extract 0 n, t, true)
    | _ => bodyF
  else bodyF
theorem spec_body (k : Nat) (hk : 40010 < k) (a0 : ByteArray) (n : Nat) (hn : a0.size = n + 69) (h1 : n ≤ 8000) : spec_BodyIn.f k a0 = some (bodyRes k a0 n) := by
  obtain ⟨⟨t, ok⟩, ht, _⟩ := unhex_both (a0.extract (n + 4) (n + 68)) k hk
  have e0 : wrap64 ((a0.size : Int) - 69) = (n : Int) := by unfold wrap64; omega
  have e1 : wrap64 ((n : Int) - 1) = (n : Int) - 1 := by unfold wrap64; omega
  have e4 : wrap64 ((n : Int) + 4) = (n : Int) + 4 := by unfold wrap64; omega
  have e68 : wrap64 ((n : Int) + 68) = (n : Int) + 68 := by unfold wrap64; omega
  have t0 : ((n : Int)).toNat = n := by omega
  have t4 : ((n : Int) + 4).toNat = n + 4 := by omega
  have t68 : ((n : Int) + 68).toNat = n + 68 := by omega
  have p1 : ((n : Int) < 0) = False := eq_false (by omega)
  have p2 : ((n : Int) > 8000) = False := eq_false (by omega)
  have p3 : (0 ≤ (n : Int)) = True := eq_true (by omega)
  have p4 : ((n : Int) ≤ (n : Int) + 4) = True := eq_true (by omega)
  have p5 : ((n : Int) + 4 ≤ (a0.size : Int)) = True := eq_true (by omega)
  have p6 : (0 ≤ (n : Int) + 68) = True := eq_true (by omega)
  have p7 : ((n : Int) + 68 < (a0.size : Int)) = True := eq_true (by omega)
  have p8 : (0 ≤ (n : Int) + 4) = True := eq_true (by omega)
  have p9 : ((n : Int) + 4 ≤ (n : Int) + 68) = True := eq_true (by omega)
  have p10 : ((n : Int) + 68 ≤ (a0.size : Int)) = True := eq_true (by omega)
  have p11 : ((n : Int) ≤ (a0.size : Int)) = True := eq_true (by omega)
  unfold spec_BodyIn.f bodyRes
  simp only [e0, e1, e4, e68, t0, t4, t68, p1, p2, p3, p4, p5, p6, p7, p8, p9, p10, p11, if_true, if_false, ht, Option.bind_some]
  by_cases hn0 : 0 < n
  · have q1 : ((n : Int) > 0) = True := eq_true (by omega)
    have q2 : (0 ≤ (n : Int) - 1) = True := eq_true (by omega)
    have q3 : ((n : Int) - 1 < (a0.size : Int)) = True := eq_true (by omega)
    simp only [q1, q2, q3, if_true, hn0, true_and]
    by_cases c1 : bt a0 ((n : Int) - 1) = 10
    · by_cases c2 : (a0.extract n (n + 4)).toList = ([116, 97, 103, 32] : List UInt8)
      · by_cases c3 : bt a0 ((n : Int) + 68) = 10
        · cases ok <;> simp [c1, c2, c3]
        · simp [c1, c2, c3]
      · simp [c1, c2]
    · simp [c1]
  · have q1 : ((n : Int) > 0) = False := eq_false (by omega)
    simp only [q1, if_false, hn0, false_and]
    by_cases c2 : (a0.extract n (n + 4)).toList = ([116, 97, 103, 32] : List UInt8)
    · by_cases c3 : bt a0 ((n : Int) + 68) = 10
      · cases ok <;> simp [c2, c3]
      · simp [c2, c3]
    · simp [c2]
theorem bt_extract (s : ByteArray) (a b i : Nat) (h : a + i < b) (hb : b ≤ s.size) : bt (s.extract a b) (i : Int) = bt s ((a + i : Nat) : Int) := by
  have h1 : ((i : Nat) : Int).toNat < (s.extract a b).size := by simp; omega
  have h2 : ((a + i : Nat) : Int).toNat < s.size := by omega
  rw [← bt_at _ _ h1, ← bt_at _ _ h2]
  simp only [Int.toNat_natCast, ByteArray.getElem_extract]
theorem pre_iff (l : List UInt8) : Lib.hasPrefix l [116, 97, 103, 32] = true ↔ l.take 4 = [116, 97, 103, 32] := by
  unfold Lib.hasPrefix
  rw [List.isPrefixOf_iff_prefix, List.prefix_iff_eq_take]
  exact ⟨fun h => h.symm, fun h => h.symm⟩
set_option maxHeartbeats 400000 in
theorem impl_body (k : Nat) (hk : 40010 < k) (a0 : ByteArray) (n : Nat) (hn : a0.size = n + 69) (h1 : n ≤ 8000) : impl_BodyIn.f k a0 = some (bodyRes k a0 n) := by
  have hs : a0.size - 69 = n := by omega
  have hs2 : a0.size - n = 69 := by omega
  unfold impl_BodyIn.f
  rw [if_pos (by omega), if_neg (by omega), hs, hs2, show 69 - 1 = 68 from rfl]
  show (if 69 < a0.size ∧ bt a0 ((n : Int) - 1) ≠ 10 then _ else _) = _
  unfold bodyRes
  have hlast : bt (a0.extract n a0.size) (((69 : Nat) : Int) - 1) = bt a0 ((n : Int) + 68) := bt_extract a0 n a0.size 68 (by omega) (by omega)
  by_cases c0 : 0 < n ∧ bt a0 ((n : Int) - 1) ≠ 10
  · rw [if_pos ⟨by omega, c0.2⟩, if_pos c0]
  · rw [if_neg (fun h => c0 ⟨by omega, h.2⟩), if_neg c0]
    have hcut : strings_CutPrefix.f ((a0.extract n a0.size).extract 0 68) ⟨#[116, 97, 103, 32]⟩ = some (⟨(Lib.trimPrefix ((a0.extract n a0.size).extract 0 68).data.toList [116, 97, 103, 32]).toArray⟩, Lib.hasPrefix ((a0.extract n a0.size).extract 0 68).data.toList [116, 97, 103, 32]) := rfl
    have hl : ((a0.extract n a0.size).extract 0 68).data.toList = (a0.data.toList.drop n).take 68 := by
      rw [Lib.extract_data, Lib.extract_data, List.drop_zero, Nat.sub_zero, List.take_take, hs2, show min 68 69 = 68 from rfl]
    have h4 : (a0.extract n (n + 4)).toList = (a0.data.toList.drop n).take 4 := by
      rw [Lib.toList_data, Lib.extract_data, show n + 4 - n = 4 from by omega]
    rw [hcut, hl]
    simp only [Option.bind_some, hlast, h4]
    have ht4 : ((a0.data.toList.drop n).take 68).take 4 = (a0.data.toList.drop n).take 4 := by rw [List.take_take]; rfl
    by_cases c1 : (a0.data.toList.drop n).take 4 = [116, 97, 103, 32]
    · have hp : Lib.hasPrefix ((a0.data.toList.drop n).take 68) [116, 97, 103, 32] = true := (pre_iff _).2 (ht4.trans c1)
      have hd : (⟨(Lib.trimPrefix ((a0.data.toList.drop n).take 68) [116, 97, 103, 32]).toArray⟩ : ByteArray) = a0.extract (n + 4) (n + 68) := by
        unfold Lib.trimPrefix
        rw [hp, if_pos rfl]
        have : (a0.extract (n + 4) (n + 68)).data.toList = (((a0.data.toList.drop n).take 68).drop 4) := by
          rw [Lib.extract_data, List.drop_take, List.drop_drop, show n + 68 - (n + 4) = 68 - 4 from by omega]
        show (⟨(((a0.data.toList.drop n).take 68).drop 4).toArray⟩ : ByteArray) = _
        rw [← this]
      obtain ⟨⟨t, ok⟩, hs', ht⟩ := unhex_both (a0.extract (n + 4) (n + 68)) k hk
      rw [hd, ht, hs', hp]
      simp only [Option.bind_some, c1, true_and]
      by_cases c3 : bt a0 ((n : Int) + 68) = 10
      · cases ok <;> simp [c3]
      · simp [c3]
    · have hp : Lib.hasPrefix ((a0.data.toList.drop n).take 68) [116, 97, 103, 32] = false := by
        apply Bool.eq_false_iff.mpr
        intro h
        exact c1 (ht4.symm.trans ((pre_iff _).1 h))
      obtain ⟨⟨t, ok⟩, hs', ht⟩ := unhex_both (⟨(Lib.trimPrefix ((a0.data.toList.drop n).take 68) [116, 97, 103, 32]).toArray⟩ : ByteArray) k hk
      rw [ht, hp]
      simp [c1]
theorem FnExactBodyIn : laws_FnExactBodyIn.Pure := by
  intro a0 ha
  refine ⟨50000, ?_⟩
  unfold laws_FnExactBodyIn.f
  by_cases big : (a0.size : Int) > 1048576
  · rw [if_pos big]
  · rw [if_neg big]
    by_cases c : a0.size < 69 ∨ 8069 < a0.size
    · have hi : impl_BodyIn.f 50000 a0 = some bodyF := by
        unfold impl_BodyIn.f
        rw [if_pos (by omega), if_pos c]
      have hsp : spec_BodyIn.f 50000 a0 = some bodyF := by
        unfold spec_BodyIn.f
        have e0 : wrap64 ((a0.size : Int) - 69) = (a0.size : Int) - 69 := by unfold wrap64; omega
        rw [e0]
        rcases c with c | c
        · rw [if_pos (by omega)]
        · rw [if_neg (by omega), if_pos (by omega)]
      rw [hi, hsp]
      simp
    · obtain ⟨n, hn⟩ : ∃ n, a0.size = n + 69 := ⟨a0.size - 69, by omega⟩
      rw [spec_body 50000 (by omega) a0 n hn (by omega), impl_body 50000 (by omega) a0 n hn (by omega)]
      simp
end Go.Proofs.Ythnembgbooaplaa.Pure

namespace Go.Proofs.Ythnembgbooaplaa.fnExactBodyIn
open Go.ChangeShapes Go.WideShapes Go.ChangeAt Go.RowKit
open Go.ChangeMaps (open_string shut_string)
set_option linter.unusedVariables false
theorem own : ownKnob Try.prog.godebug = none := by kernel_rfl
set_option maxRecDepth 100000 in
theorem lifted (os : Os) (started : os.Started) (H : Type) (enc : TypeId × Value → H) :
    ReturnsInHanded {} Try.checked os 3 .any (Rows.fnExactBodyInSpec.pre6 enc Try.prog Try.f3 Rows.fnExactBodyInRow.domain false) (Rows.fnExactBodyInSpec.post enc Try.prog Try.f3 false true false false) := by
  refine returnsInHanded_of_change_sized (C := Try.checked) own started (by kernel_rfl) Try.func3
    (ChangeSpec.witness6 (enc := enc) (C := Try.checked) false ⟨#[], #[.string ByteArray.empty], []⟩ 8 (by kernel_rfl) (by kernel_rfl) (by kernel_rfl) (by kernel_rfl)) ?_
  intro W base args ds gs before hval0 hW hcnd hsz0 _
  have hsz : (DataW.weightsEach Try.prog (Try.f3.params.toList ++ Rows.fnExactBodyInSpec.plain.varTypes Try.prog) (ds ++ gs)).all (· ≤ reachBytes) = true := hsz0
  have hval : ∀ (j : Nat) t v, Try.f3.params[j]? = some t → args[j]? = some v → Value.okWide Try.prog W .any base t v := hval0
  have hW' := hW
  obtain ⟨p, q, hA0, hV, rfl, hfz, hnd⟩ := hW
  have hA : DataW.TrodAll enc Try.prog W 0 (fun _ => true) true Try.f3.params.toList args.toList ds p := hA0
  rw [Try.params3] at hA hval hsz
  obtain ⟨v0, vs0, d0, ds0, p0, q0, hargs, rfl, rfl, h0, r0⟩ := trodAll_cons hA
  obtain ⟨rfl, rfl, rfl⟩ := trodAll_nil r0
  obtain rfl : args = #[v0] := by cases args; simp_all
  obtain ⟨rfl, rfl⟩ := trodVars_none hV
  obtain ⟨a0, rfl, rfl, rfl, y0⟩ := open_string Try.underlying9 (hval 0 9 v0 rfl rfl) h0
  have w0 : a0.size ≤ 140737488351232 := by
    have z := sized_string hsz (j := 0) (t := 9) rfl rfl
    rw [Array.length_toList] at z
    exact z
  clear hA0 hval0 hsz0 hsz
  refine (P.laws_FnExactBodyIn.walk Pure.FnExactBodyIn a0 W w0).mono fun e W' ⟨he, bel⟩ => ?_
  subst he
  exact ⟨_, rfl, _, _, _, [], _, [], hW', trodAll_mk1 (shut_bool Try.underlying4 _), (trodAll_cons_mk (shut_string Try.underlying9 y0) trodAll_mk0), rfl, bel.frame _, fun h => by cases h⟩
theorem over : Rows.fnExactBodyInRow.holds Try.pinned (OpenSpec.ofChange Rows.fnExactBodyInSpec) :=
  OpenClaim.holds_of_wide 3 Try.f3 rfl rfl rfl rfl rfl rfl rfl ⟨rfl, rfl, rfl, rfl, rfl⟩ rfl rfl rfl rfl rfl (by kernel_rfl) Try.func3 (by kernel_rfl)
    (of_decide_eq_true (by kernel_rfl)) (by unfold Func.isWrapper; first | (rw [if_pos (by decide +kernel)]; kernel_rfl) | (rw [if_neg (by decide +kernel)]; exact ⟨rfl, rfl⟩))
    (fun os started H enc _ => lifted os started H enc)
theorem proved : Rows.FnExactBodyInSaid := over
end Go.Proofs.Ythnembgbooaplaa.fnExactBodyIn
namespace Go.Proofs.Ythnembgbooaplaa
/-- The row, under a short name, for the claim. -/
theorem fnExactBodyIn_holds : Rows.FnExactBodyInSaid := fnExactBodyIn.proved
end Go.Proofs.Ythnembgbooaplaa
