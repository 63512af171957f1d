/- Part 3 of the proofs of this seat's rows: contracts of the functions that they reach. -/
import Derived.Test.YtefiapcfdabfpaaDoorBTm2
import Derived.Test.YtefiapcfdabfpaaDoorBTm1
import Derived.Test.YtefiapcfdabfpaaDoorRows
import Derived.Deep.DeepHandedRow
import Derived.Deep.DeepWitnessRowRef
import Derived.Lib.LaidIn
import Derived.Lib.LaidTab
import Derived.Stop.LaidErr
import Derived.ProofKit
import Derived.SizedLaws
import Derived.WalkKit
import Derived.OpenShut
import Derived.ShutString
import Derived.ChangeOld
import Derived.Below
import Derived.HandedShaped
import Derived.JoinedCond
import Derived.Shelf.Vars
set_option linter.unusedVariables false
set_option linter.unusedSimpArgs false
namespace Go.Proofs.YtefiapcfdabfpaaDoor.P
open Go.RowKit Go.Proofs.YtefiapcfdabfpaaDoorW.PrintWords
def digit (s : ByteArray) (j : Nat) : Prop := 48 ≤ bt s (j : Int) ∧ bt s (j : Int) ≤ 57
theorem digs_all (u : Nat) : ∀ c ∈ Lib.decDigits u, 48 ≤ c.toNat ∧ c.toNat ≤ 57 := by
  induction u using Nat.strongRecOn with
  | _ u ih =>
  intro c hc
  by_cases h : u < 10
  · rw [Lib.decDigits_one h, List.mem_singleton] at hc
    subst hc
    rw [show (UInt8.ofNat (48 + u)).toNat = 48 + u from by simp; omega]
    omega
  · rw [Lib.decDigits.eq_def u, dif_neg h, List.mem_append] at hc
    rcases hc with hc | hc
    · exact ih (u / 10) (by omega) c hc
    · rw [List.mem_singleton] at hc
      subst hc
      rw [show (UInt8.ofNat (48 + u % 10)).toNat = 48 + u % 10 from by simp; omega]
      omega
/-- What stands behind the digits. -/
def digRes (s : ByteArray) (a e : Nat) : Int × Int :=
  if (Pure.readP (s.extract a e).data.toList).2 = true ∧ (Pure.readP (s.extract a e).data.toList).1 ≤ 999 then ((Pure.readP (s.extract a e).data.toList).1, (e : Int)) else (0, -1)
theorem dig_read (s : ByteArray) (a e : Nat) (K : Nat) (hK : 60 < K) :
    ((spec_ReadDecimal.f K (s.extract ((a : Nat) : Int).toNat ((e : Nat) : Int).toNat)).bind fun bt101 => (if bt101.2 = true then (if bt101.1 > 999 then (some ((0 : Int), (-1 : Int))) else (some (bt101.1, (e : Int)))) else (some (0, (-1))))) = some (digRes s a e) := by
  simp only [Int.toNat_natCast]
  rw [Pure.specRead_is _ K hK]
  simp only [Option.bind_some]
  unfold digRes
  generalize Pure.readP (s.extract a e).data.toList = r
  by_cases h1 : r.2 = true
  · by_cases h2 : r.1 ≤ 999
    · rw [if_pos h1, if_neg (by omega), if_pos ⟨h1, h2⟩]
    · rw [if_pos h1, if_pos (by omega), if_neg (fun h => h2 h.2)]
  · rw [if_neg h1, if_neg (fun h => h1 h.1)]
theorem dig_loop (s : ByteArray) (hs : s.size ≤ 2000) (a : Nat) (ha : a ≤ s.size) : ∀ (d p K : Nat), d + p = s.size + 1 → a ≤ p → p ≤ a + 4 → 100 + d < K → (∀ j, a ≤ j → j < p → digit s j) →
    ∃ e, a ≤ e ∧ e ≤ s.size ∧ e ≤ a + 4 ∧ (∀ j, a ≤ j → j < e → digit s j) ∧ (e = s.size ∨ e = a + 4 ∨ ¬ digit s e) ∧ spec_l06Digits.l0 K s (a : Int) (p : Int) = some (digRes s a e) := by
  intro d
  induction d with
  | zero => intro p K h1 h2 h3 h4 h5; exact absurd (h5 s.size ha (by omega)) (fun h => by
      have := h.1; rw [show bt s ((s.size : Nat) : Int) = 0 from by unfold bt; rw [dif_neg (by simp)]] at this; omega)
  | succ d ih =>
    intro p K h1 h2 h3 h4 h5
    obtain ⟨K, rfl⟩ : ∃ m, K = m + 1 := ⟨K - 1, by omega⟩
    simp only [spec_l06Digits.l0]
    have e1 : wrap64 ((a : Int) + 4) = ((a + 4 : Nat) : Int) := by unfold wrap64; omega
    have e2 : wrap64 ((p : Int) + 1) = ((p + 1 : Nat) : Int) := by unfold wrap64; omega
    rw [e1, e2]
    rcases Nat.lt_or_ge p s.size with hp | hp
    · rw [if_pos (by omega)]
      rcases Nat.lt_or_ge p (a + 4) with hq | hq
      · rw [if_pos (by omega), if_pos (by omega)]
        by_cases g1 : bt s (p : Int) ≥ 48
        · rw [if_pos g1]
          by_cases g2 : bt s (p : Int) ≤ 57
          · rw [if_pos g2]
            exact ih (p + 1) K (by omega) (by omega) (by omega) (by omega) (fun j hj1 hj2 => by
              rcases Nat.lt_or_ge j p with h | h
              · exact h5 j hj1 h
              · obtain rfl : j = p := by omega
                exact ⟨g1, g2⟩)
          · rw [if_neg g2, if_pos (by omega), if_pos (by omega), if_pos (by omega)]
            exact ⟨p, h2, by omega, h3, h5, .inr (.inr (fun h => g2 h.2)), dig_read s a p K (by omega)⟩
        · rw [if_neg g1, if_pos (by omega), if_pos (by omega), if_pos (by omega)]
          exact ⟨p, h2, by omega, h3, h5, .inr (.inr (fun h => g1 h.1)), dig_read s a p K (by omega)⟩
      · rw [if_neg (by omega), if_pos (by omega), if_pos (by omega), if_pos (by omega)]
        exact ⟨p, h2, by omega, h3, h5, .inr (.inl (by omega)), dig_read s a p K (by omega)⟩
    · by_cases hpe : p = s.size
      · rw [if_neg (by omega), if_pos (by omega), if_pos (by omega), if_pos (by omega)]
        exact ⟨p, h2, by omega, h3, h5, .inl hpe, dig_read s a p K (by omega)⟩
      · have h6 := (h5 s.size ha (by omega)).1
        rw [show bt s ((s.size : Nat) : Int) = 0 from by unfold bt; rw [dif_neg (by simp)]] at h6
        omega
/-- A variable, read by the program: the digits reach to the point. -/
theorem rdV_inv (s : ByteArray) (hs : s.size ≤ 2000) (a : Nat) (t : Te) (z : Nat) (h : rdV s a = some (t, z)) : ∃ n : Nat, idx s 46 a = (n : Int) ∧ a + n < s.size ∧ n ≤ 3 ∧ (∀ j, a ≤ j → j < a + n → digit s j) ∧ bt s ((a + n : Nat) : Int) = 46 ∧ (Pure.readP (s.extract a (a + n)).data.toList).2 = true ∧ (Pure.readP (s.extract a (a + n)).data.toList).1 ≤ 999 := by
  rcases idx_cases s 46 a with h0 | ⟨n, h0⟩
  · unfold rdV at h; rw [h0] at h; simp at h
  · have hl := idx_lt s 46 a (by omega)
    rw [h0] at hl
    simp only [Int.toNat_natCast] at hl
    have hx : (s.extract a (a + n)).size = n := by rw [ByteArray.size_extract]; omega
    unfold rdV at h
    rw [h0, if_pos (by omega)] at h
    simp only [Int.toNat_natCast] at h
    rw [Pure.implRead_is _ (by omega), Option.bind_some] at h
    by_cases hc : (Pure.readP (s.extract a (a + n)).data.toList).2 = true ∧ (Pure.readP (s.extract a (a + n)).data.toList).1 ≤ 999
    · have hb : bt s ((a + n : Nat) : Int) = 46 := by
        unfold idx at h0
        have g := (Lib.indexByte_some h0).1
        have := drop_cell s a (a + n) (by omega) hl
        rw [show a + n - a = n from by omega, g] at this
        rw [bt_list s (a + n) (by simpa using hl)]
        have := congrArg UInt8.toNat (Option.some.inj this)
        rw [← this]
        rfl
      have hdd : ∃ u, u ≤ 1000000000 ∧ Lib.decDigits u = (s.extract a (a + n)).data.toList := Classical.byContradiction fun hno => by
        rw [Pure.readP_miss _ (fun u hu he => hno ⟨u, hu, he⟩)] at hc
        cases hc.1
      obtain ⟨u, hu, hd⟩ := hdd
      have hu9 : u ≤ 999 := by
        have := hc.2
        rw [← hd, Pure.readP_hit u hu] at this
        simp only at this
        omega
      have hn3 : n ≤ 3 := by
        have h6 := congrArg List.length hd
        rw [Lib.decDigits_length, Array.length_toList] at h6
        have h7 := Pure.nDigits_le 2 u (by omega)
        have h8 : (s.extract a (a + n)).data.size = n := hx
        omega
      refine ⟨n, h0, hl, hn3, fun j hj1 hj2 => ?_, hb, hc.1, hc.2⟩
      have hjm : s.data.toList[j]'(by simp; omega) ∈ (s.extract a (a + n)).data.toList := by
        rw [ByteArray.data_extract, Array.toList_extract, List.extract_eq_take_drop, List.mem_iff_getElem]
        refine ⟨j - a, by simp; omega, ?_⟩
        rw [List.getElem_take, List.getElem_drop]
        congr 1
        omega
      rw [← hd] at hjm
      have := digs_all u _ hjm
      unfold digit
      rw [bt_list s j (by simp; omega)]
      omega
    · rw [if_neg hc] at h; cases h
theorem dig_is (s : ByteArray) (hs : s.size ≤ 2000) (a : Nat) (ha : a ≤ s.size) : ∃ v en, spec_l06Digits.f 3000 s (a : Int) = some (v, en) ∧ (en = -1 ∨ ∃ m : Nat, en = (m : Int) ∧ m ≤ s.size) ∧
    (if 0 ≤ en ∧ en < (s.size : Int) ∧ bt s en = 46 then some ((⟨118, 0, 0, 0, v, ⟨#[]⟩, []⟩ : S43), en.toNat + 1) else none) = leafX (rdV s a) := by
  obtain ⟨e, h1, h2, h3, h4, h5, h6⟩ := dig_loop s hs a ha (s.size + 1 - a) a 3000 (by omega) (by omega) (by omega) (by omega) (fun j h1 h2 => by omega)
  have hno : ¬ (e < s.size ∧ bt s (e : Int) = 46 ∧ (Pure.readP (s.extract a e).data.toList).2 = true ∧ (Pure.readP (s.extract a e).data.toList).1 ≤ 999) → rdV s a = none := fun hn => by
    cases hr : rdV s a with
    | none => rfl
    | some r =>
      obtain ⟨n, g1, g2, g3, g4, g5, g6, g7⟩ := rdV_inv s hs a r.1 r.2 hr
      have hnd : ¬ digit s (a + n) := fun h => by have := h.1; have := h.2; rw [g5] at *; omega
      have hee : e = a + n := by
        rcases Nat.lt_trichotomy e (a + n) with h | h | h
        · exfalso
          rcases h5 with h5 | h5 | h5
          · omega
          · omega
          · exact h5 (g4 e h1 h)
        · exact h
        · exact absurd (h4 (a + n) (by omega) h) hnd
      subst hee
      exact absurd ⟨g2, g5, g6, g7⟩ hn
  unfold spec_l06Digits.f
  rw [h6]
  unfold digRes
  by_cases hc : (Pure.readP (s.extract a e).data.toList).2 = true ∧ (Pure.readP (s.extract a e).data.toList).1 ≤ 999
  · rw [if_pos hc]
    refine ⟨_, _, rfl, .inr ⟨e, rfl, h2⟩, ?_⟩
    by_cases hb : e < s.size ∧ bt s (e : Int) = 46
    · rw [if_pos ⟨by omega, by omega, hb.2⟩]
      have hidx := idx_is s 46 a e (by omega) h1 hb.1 hb.2 (fun j hj1 hj2 => by have := h4 j hj1 hj2; have := this.1; show bt s (j : Int) ≠ 46; omega)
      rw [show ((46 : Nat) : Int) = 46 from rfl] at hidx
      have : rdV s a = some (.var (Pure.readP (s.extract a e).data.toList).1, e + 1) := by
        unfold rdV
        rw [hidx, if_pos (by omega)]
        simp only [Int.toNat_natCast]
        rw [show a + (e - a) = e from by omega, Pure.implRead_is _ (by rw [ByteArray.size_extract]; omega), Option.bind_some, if_pos hc]
      rw [this]
      rfl
    · rw [if_neg (fun h => hb ⟨by omega, h.2.2⟩), hno (fun h => hb ⟨h.1, h.2.1⟩)]
      rfl
  · rw [if_neg hc]
    refine ⟨0, -1, rfl, .inl rfl, ?_⟩
    rw [if_neg (fun h => by omega), hno (fun h => hc h.2.2)]
    rfl
theorem sort_is (s : ByteArray) (hs : s.size ≤ 2000) (a : Nat) (ha : a ≤ s.size) : ∃ en, spec_l06Level.f 10000 s (a : Int) = some en ∧ (en = -1 ∨ ∃ m : Nat, en = (m : Int) ∧ m ≤ s.size ∧ a ≤ m) ∧
    (if 0 ≤ en ∧ en < (s.size : Int) ∧ bt s en = 46 then some ((⟨115, 0, 0, 0, 0, s.extract a en.toNat, []⟩ : S43), en.toNat + 1) else none) = leafX ((lvAt s 46 a).map fun e => (Te.sort (s.extract a e), e + 1)) := by
  refine ⟨_, spec_l06Level_is s a 10000 (by omega) ha (by omega), ?_, ?_⟩
  · cases h : lvEnd s a with
    | none => exact .inl rfl
    | some e =>
      have hg := lvE_ge s _ _ _ _ h ha
      rw [Option.bind_some]
      by_cases h6 : e - a ≤ 60
      · rw [if_pos h6]; exact .inr ⟨e, rfl, hg.2, by omega⟩
      · rw [if_neg h6]; exact .inl rfl
  · unfold lvAt
    cases h : lvEnd s a with
    | none => rfl
    | some e =>
      rw [Option.bind_some, Option.bind_some]
      by_cases h6 : e - a ≤ 60
      · rw [if_pos h6]
        by_cases hb : e < s.size ∧ bt s (e : Int) = 46
        · rw [if_pos ⟨by simp only [endI]; omega, by simp only [endI]; omega, hb.2⟩, if_pos ⟨hb.1, hb.2, h6⟩]; rfl
        · rw [if_neg (fun h => hb ⟨by have := h.2.1; simp only [endI] at this; omega, h.2.2⟩), if_neg (fun h => hb ⟨h.1, h.2.1⟩)]; rfl
      · rw [if_neg h6, if_neg (fun h => absurd h.1 (by decide)), if_neg (fun h => h6 h.2.2)]; rfl
end Go.Proofs.YtefiapcfdabfpaaDoor.P

namespace Go.Proofs.YtefiapcfdabfpaaDoor.P
open Go.RowKit Go.Proofs.YtefiapcfdabfpaaDoorW.PrintWords Go.Proofs.YtefiapcfdabfpaaDoorW.PrintLast Go.Proofs.YtefiapcfdabfpaaDoorW.PrintMore
set_option maxRecDepth 100000
set_option maxHeartbeats 8000000
/-- The loop over the levels. -/
structure AtL2 (s : ByteArray) (w : World) (name : ByteArray) (p0 m : Nat) (w' : World) (acc : List ByteArray) (v : Value) (p k : Nat) : Prop where
  nd : Nd w' (w.heap.size + 1) 99 0 name v
  r : Nd w' w.heap.size 0 0 ⟨#[]⟩ (.slice none 0 0)
  row : Kd.R Kd.string 9 w' w.heap.size (fun b => b ≠ w.heap.size ∧ b ≠ w.heap.size + 1) v acc
  b : Below w.heap.size w w'
  rest : lvs s (s.size + 1) p0 = (lvs s k p).map fun q => (acc ++ q.1, q.2)
  le : p ≤ s.size
  fuel : s.size - p < k
  len : acc.length ≤ 3
  meas : s.size - p ≤ m
theorem AtL2.below {s : ByteArray} {w : World} {name : ByteArray} {p0 m : Nat} {w' w3 : World} {acc : List ByteArray} {v : Value} {p k : Nat} (h : AtL2 s w name p0 m w' acc v p k) (hb : Below w'.heap.size w' w3) : AtL2 s w name p0 m w3 acc v p k :=
  ⟨h.nd.old (hb.block _ h.nd.lt), h.r.old (hb.block _ h.r.lt), Kd.R_below h.row hb, below_step h.b hb, h.rest, h.le, h.fuel, h.len, h.meas⟩
/-- A level more. -/
theorem AtL2.more {s : ByteArray} {w : World} {name : ByteArray} {p0 m : Nat} {w3 w4 : World} {acc : List ByteArray} {v v1 : Value} {p k e : Nat} (h : AtL2 s w name p0 m w3 acc v p (k + 1)) (hp : p < s.size) (hb : bt s (p : Int) ≠ 46) (he : lvAt s 44 p = some e) (hlen : acc.length < 3)
    (hg : w3.grownBy w4 v.ownBlock) (hat : v1.ownBlock = v.ownBlock ∨ ∃ b, v1.ownBlock = some b ∧ w3.heap.size ≤ b) (hR : Kd.R Kd.string 9 w4 w.heap.size (fun b => b ≠ w.heap.size ∧ b ≠ w.heap.size + 1) v1 (acc ++ [s.extract p e])) :
    AtL2 s w name p0 (s.size - (e + 1)) (w4.setCell ⟨w.heap.size + 1, 6, none⟩ v1) (acc ++ [s.extract p e]) v1 (e + 1) k := by
  have hge := lvAt_ge he h.le
  have hv : ∀ b, v.ownBlock = some b → b ≠ w.heap.size ∧ b ≠ w.heap.size + 1 := fun b hb => h.row.1 b hb
  have n4 := h.nd.old (hg.block _ h.nd.lt (fun e => (hv _ e.symm).2 rfl))
  have r4 := h.r.old (hg.block _ h.r.lt (fun e => (hv _ e.symm).1 rfl))
  have b4 : Below w.heap.size w w4 := h.b.trans ⟨hg.os, hg.tape, hg.output, hg.size, fun b hb => hg.block b (Nat.lt_of_lt_of_le hb h.b.size) (fun e => by have := Kd.R_base h.row _ e.symm; omega)⟩
  refine ⟨n4.set6 v1, r4.old (set_heap _ _ _ _ _ (by omega)), Kd.R_far hR (fun b hb => hb.2) _, b4.setCell (p := ⟨w.heap.size + 1, 6, none⟩) (Nat.le_succ _) _, ?_, by omega, by have := h.fuel; omega, by simp; omega, Nat.le_refl _⟩
  rw [h.rest, show lvs s (k + 1) p = if p < s.size then (if bt s (p : Int) = 46 then some ([], p) else (lvAt s 44 p).bind fun e => (lvs s k (e + 1)).map fun r => (s.extract p e :: r.1, r.2)) else none from rfl, if_pos hp, if_neg hb, he]
  simp only [Option.bind_some, Option.map_map, Function.comp_def, List.append_assoc, List.singleton_append]
theorem leaf_con (s : ByteArray) (a : Nat) (w : World) (hs : s.size ≤ 2000) (hlt : a < s.size) (hk : bt s (a : Int) = 99) :
    Calls Tryd.prog 81 #[.string s, .int .i64 (a : Int)] w (LeafP w (leafX (rdC s (a + 1)))) := by
  have hb : ((s[a]'hlt).toNat : Int) = 99 := by rw [← hk]; exact bt_at s a hlt
  have hNm : ∀ p, p ≤ s.size → ∃ b, spec_NameOk.f 1000 (s.extract (a + 1) p) = some b ∧ impl_NameOk.f (s.extract (a + 1) p) = some b := fun p hp =>
    have hz : (s.extract (a + 1) p).size ≤ 140737488351232 := by rw [ByteArray.size_extract]; omega
    ⟨_, Pure.specName_is _ 1000 (by omega), Pure.implName_is _ hz⟩
  have hX0 : rdC s (a + 1) = rdC s (a + 1) := rfl
  generalize hX : rdC s (a + 1) = X at hX0 ⊢
  clear hX0
  have hX' := Aside0.mk hX
  clear hk hX
  go_enter Tryd.func81, Tryd.ntmps81
  go_wp2
  go_loopg [8] (s.size + 1) (fun m v8 w' => ∃ p : Nat, v8 = .int .i64 (p : Int) ∧ a + 1 ≤ p ∧ p ≤ s.size ∧ p ≤ a + 42 ∧ s.size + 1 - p ≤ m ∧ Aside0 (∀ j, a + 1 ≤ j → j < p → bt s (j : Int) ≠ 59) ∧ w' = L0 w 99)
  case atStart => exact ⟨a + 1, rfl, Nat.le_refl _, by omega, by omega, by omega, ⟨fun j h1 h2 => by omega⟩, rfl⟩
  case round =>
    obtain ⟨p, rfl, hp1, hp2, hp3, hm, hA, rfl⟩ := hrel
    have hL0 := lf_of (Below.refl (L0 w 99).heap.size (L0 w 99))
    by_cases h1 : p < s.size
    · by_cases h2 : bt s (p : Int) = 59
      · have hx : (((s[p]'h1).toNat : Int) != 59) = false := bne_eq_false_iff_eq.mpr ((bt_at s p h1).trans h2)
        obtain ⟨b, hn1, hn2⟩ := hNm p hp2
        have hN := fun w1 (h : Below w.heap.size w w1) => spec_NameOk.calls 1000 (s.extract (a + 1) p) b w1 hn1
        have hidx := idx_is s 59 (a + 1) p (by omega) hp1 h1 h2 hA.out
        have hXe : X = (lvs s (s.size + 1) (p + 1)).bind fun q => if b = true ∧ q.1.length ≤ 3 then some (.con (s.extract (a + 1) p) q.1, q.2 + 1) else none := by
          rw [← hX'.out]
          unfold rdC
          rw [show ((59 : Nat) : Int) = 59 from rfl] at hidx
          rw [hidx, if_pos (by omega), Int.toNat_natCast, show a + 1 + (p - (a + 1)) = p from by omega, hn2]
          rfl
        have hb40 : b = true → p < a + 42 := fun hbt => by
          rcases Nat.lt_or_ge p (a + 42) with h | h
          · exact h
          · have h5 := name_long (s.extract (a + 1) p) (by rw [ByteArray.size_extract]; omega) (by rw [ByteArray.size_extract]; omega)
            rw [hn2, hbt] at h5
            cases h5
        cases b
        · have hXn : X = none := by rw [hXe]; cases lvs s (s.size + 1) (p + 1) <;> simp
          subst hXn
          clear hXe hX' hn1 hn2 hidx hb40
          by_cases h3 : p < a + 42
          · have h3i : (p : Int) < (a : Int) + 40 + 2 := by omega
            have h3j : (p : Int) < (a : Int) + 42 := by omega
            clear h2 hNm hA hm hL0
            go_wp2_with (first | (go_at_call 100; refine (hN _ (L0_below w 99)).mono ?_; rintro e w2 ⟨rfl, hb2⟩; have hL := lf_of (k := 99) hb2; clear hb2; obtain ⟨x0, x1, x2, x3, x4, x5, x6⟩ := hL.n.cells; have hR := hL.r; obtain ⟨y0, y1, y2, y3, y4, y5, y6⟩ := hR.cells; have fR := hR.f))
            have hF := fillN_nd hR 99 0 ⟨#[]⟩ (.slice none 0 0)
            have hFb := fillN_below hL.b w.heap.size (Nat.le_refl _) 99 0 ⟨#[]⟩ (.slice none 0 0)
            obtain ⟨z0, z1, z2, z3, z4, z5, z6⟩ := hF.cells
            refine bodyPost_ret (v := .tuple #[.agg #[.int .u8 99, .int .i64 0, .int .i64 0, .int .i64 0, .int .i64 0, .string ⟨#[]⟩, (.slice none 0 0)], .int .i64 (-1)]) ?_ rfl ?_
            · unfold fillN at z0 z1 z2 z3 z4 z5 z6
              clear hF hFb
              simp [results, Tryd.results81, go_sem, z0, z1, z2, z3, z4, z5, z6]
            · exact ⟨hFb, _, _, _, _, _, _, rfl⟩
          · have h3i : ¬ (p : Int) < (a : Int) + 40 + 2 := by omega
            have h3j : ¬ (p : Int) < (a : Int) + 42 := by omega
            clear h2 hNm hA hm hL0 h3
            go_wp2_with (first | (go_at_call 100; refine (hN _ (L0_below w 99)).mono ?_; rintro e w2 ⟨rfl, hb2⟩; have hL := lf_of (k := 99) hb2; clear hb2; obtain ⟨x0, x1, x2, x3, x4, x5, x6⟩ := hL.n.cells; have hR := hL.r; obtain ⟨y0, y1, y2, y3, y4, y5, y6⟩ := hR.cells; have fR := hR.f))
            have hF := fillN_nd hR 99 0 ⟨#[]⟩ (.slice none 0 0)
            have hFb := fillN_below hL.b w.heap.size (Nat.le_refl _) 99 0 ⟨#[]⟩ (.slice none 0 0)
            obtain ⟨z0, z1, z2, z3, z4, z5, z6⟩ := hF.cells
            refine bodyPost_ret (v := .tuple #[.agg #[.int .u8 99, .int .i64 0, .int .i64 0, .int .i64 0, .int .i64 0, .string ⟨#[]⟩, (.slice none 0 0)], .int .i64 (-1)]) ?_ rfl ?_
            · unfold fillN at z0 z1 z2 z3 z4 z5 z6
              clear hF hFb
              simp [results, Tryd.results81, go_sem, z0, z1, z2, z3, z4, z5, z6]
            · exact ⟨hFb, _, _, _, _, _, _, rfl⟩
        · have h3 := hb40 rfl
          have hXe1 : X = (lvs s (s.size + 1) (p + 1)).bind fun q => if q.1.length ≤ 3 then some (.con (s.extract (a + 1) p) q.1, q.2 + 1) else none := by rw [hXe]; simp
          have hXe' := Aside0.mk hXe1
          clear hXe1
          have h3i : (p : Int) < (a : Int) + 40 + 2 := by omega
          have h3j : (p : Int) < (a : Int) + 42 := by omega
          have h1n : ¬ s.size ≤ p := by omega
          clear h2 hn1 hn2 hNm hidx hXe hX' hA hm hL0 hb40
          go_wp2_with (first | (go_at_call 100; refine (hN _ (L0_below w 99)).mono ?_; rintro e w2 ⟨rfl, hb2⟩; have hL := lf_of (k := 99) hb2; clear hb2; have f5 := hL.n.f 5; have x5 := hL.n.cells.2.2.2.2.2.1))
          have hat : AtL2 s w (s.extract (a + 1) p) (p + 1) (s.size - (p + 1)) (w2.setCell ⟨w.heap.size + 1, 5, none⟩ (.string (s.extract (a + 1) p))) [] (.slice none 0 0) (p + 1) (s.size + 1) :=
            ⟨hL.n.set5 _, hL.r.old (set_heap _ _ _ _ _ (by omega)), Kd.R_nil _ _ _ _ _, hL.b.setCell (p := ⟨w.heap.size + 1, 5, none⟩) (Nat.le_succ _) _, by simp, by omega, by omega, by simp, Nat.le_refl _⟩
          clear hL f5 x5 hN h3i h3j hx h3
          generalize s.extract (a + 1) p = name at hat hXe' ⊢
          go_loopg [7] (s.size - (p + 1)) (fun m v7 w' => ∃ acc v q k, v7 = .int .i64 ((q : Nat) : Int) ∧ AtL2 s w name (p + 1) m w' acc v q k)
          case atStart => exact ⟨[], _, p + 1, _, rfl, hat⟩
          case round =>
            obtain ⟨acc, v, q, k, rfl, hQ⟩ := hrel
            clear hat
            obtain ⟨k, rfl⟩ : ∃ m, k = m + 1 := ⟨k - 1, by have := hQ.fuel; omega⟩
            have hrest := hQ.rest
            rw [show lvs s (k + 1) q = if q < s.size then (if bt s (q : Int) = 46 then some ([], q) else (lvAt s 44 q).bind fun e => (lvs s k (e + 1)).map fun r => (s.extract q e :: r.1, r.2)) else none from rfl] at hrest
            obtain ⟨A, c, rfl⟩ := Kd.R_slice hQ.row
            by_cases g1 : q < s.size
            · rw [if_pos g1] at hrest
              by_cases g2 : bt s (q : Int) = 46
              · have hx : (((s[q]'g1).toNat : Int) != 46) = false := bne_eq_false_iff_eq.mpr ((bt_at s q g1).trans g2)
                rw [if_pos g2] at hrest
                have hXs : X = some (.con name acc, q + 1) := by
                  rw [hXe'.out, hrest]
                  have := hQ.len
                  simp
                  omega
                subst hXs
                obtain ⟨x0, x1, x2, x3, x4, x5, x6⟩ := hQ.nd.cells
                have hR := hQ.r
                have hbq := hQ.b
                have hrow := Aside0.mk hQ.row
                obtain ⟨y0, y1, y2, y3, y4, y5, y6⟩ := hR.cells
                have fR := hR.f
                clear hrest hXe' g2 hQ
                go_wp2
                have hF := fillN_nd hR 99 0 name (.slice A acc.length c)
                have hFb := fillN_below hbq w.heap.size (Nat.le_refl _) 99 0 name (.slice A acc.length c)
                obtain ⟨z0, z1, z2, z3, z4, z5, z6⟩ := hF.cells
                refine bodyPost_ret (v := .tuple #[.agg #[.int .u8 99, .int .i64 0, .int .i64 0, .int .i64 0, .int .i64 0, .string name, (.slice A acc.length c)], .int .i64 (((q + 1 : Nat) : Int))]) ?_ rfl ?_
                · unfold fillN at z0 z1 z2 z3 z4 z5 z6
                  clear hF hFb
                  simp [results, Tryd.results81, go_sem, z0, z1, z2, z3, z4, z5, z6]
                · exact ⟨hFb, _, rfl, Kd.R_mono (Kd.R_step hrow.out (fun b hb1 _ => fillN_heap _ _ _ _ _ _ b hb1.1)) (fun _ _ => trivial)⟩
              · have hx : (((s[q]'g1).toNat : Int) != 46) = true := bne_iff_ne.mpr (fun h => g2 ((bt_at s q g1).symm.trans h))
                rw [if_neg g2] at hrest
                have hLv := fun w1 => (spec_l06Level.calls 10000 s (q : Int) _ w1 (spec_l06Level_is s q 10000 (by omega) hQ.le (by omega))).mono fun e w' h => (⟨h.1, below_drawn0 h.2⟩ : e = .returned (.int .i64 (endI ((lvEnd s q).bind fun e => if e - q ≤ 60 then some e else none))) ∧ Below w1.heap.size w1 w')
                have hFail : lvAt s 44 q = none → X = none := fun h => by rw [hXe'.out, hrest, h]; rfl
                have hFail3 : 3 ≤ acc.length → X = none := fun h => by
                  rw [hXe'.out, hrest]
                  cases lvAt s 44 q with
                  | none => rfl
                  | some e =>
                    cases h9 : lvs s k (e + 1) with
                    | none => simp [h9]
                    | some r => simp [h9]; omega
                cases hl0 : (lvEnd s q).bind fun e => if e - q ≤ 60 then some e else none with
                | none =>
                  have hXn : X = none := hFail (by
                    unfold lvAt
                    cases h5 : lvEnd s q with
                    | none => rfl
                    | some e =>
                      rw [h5, Option.bind_some] at hl0
                      rw [Option.bind_some, if_neg]
                      intro h6
                      rw [if_pos h6.2.2] at hl0
                      cases hl0)
                  subst hXn
                  rw [hl0] at hLv
                  have hQ' := Aside0.mk hQ
                  clear hrest hXe' g2 hFail hFail3 hl0 hQ
                  simp only [endI] at hLv
                  go_wp2_with (first | (go_at_call 99; refine (hLv _).mono ?_; rintro ex w3 ⟨rfl, hb3⟩; have hQ3 := Aside0.mk (hQ'.out.below hb3); clear hb3; obtain ⟨x0, x1, x2, x3, x4, x5, x6⟩ := hQ3.out.nd.cells; have hR := hQ3.out.r; obtain ⟨y0, y1, y2, y3, y4, y5, y6⟩ := hR.cells; have fR := hR.f))
                  have hF := fillN_nd hR 99 0 name (.slice A acc.length c)
                  have hFb := fillN_below hQ3.out.b w.heap.size (Nat.le_refl _) 99 0 name (.slice A acc.length c)
                  obtain ⟨z0, z1, z2, z3, z4, z5, z6⟩ := hF.cells
                  refine bodyPost_ret (v := .tuple #[.agg #[.int .u8 99, .int .i64 0, .int .i64 0, .int .i64 0, .int .i64 0, .string name, (.slice A acc.length c)], .int .i64 (-1)]) ?_ rfl ?_
                  · unfold fillN at z0 z1 z2 z3 z4 z5 z6
                    clear hF hFb
                    simp [results, Tryd.results81, go_sem, z0, z1, z2, z3, z4, z5, z6]
                  · exact ⟨hFb, _, _, _, _, _, _, rfl⟩
                | some e =>
                  rw [hl0] at hLv
                  obtain ⟨e', he1, he2⟩ := Option.bind_eq_some_iff.mp hl0
                  by_cases h60 : e' - q ≤ 60
                  · rw [if_pos h60] at he2
                    obtain rfl := Option.some.inj he2
                    have hge := lvE_ge s _ _ _ _ he1 hQ.le
                    have hlva : lvAt s 44 q = if e' < s.size ∧ bt s (e' : Int) = 44 ∧ e' - q ≤ 60 then some e' else none := by unfold lvAt; rw [he1]; rfl
                    clear hl0 he2 he1
                    by_cases j1 : e' < s.size
                    · by_cases j2 : bt s (e' : Int) = 44
                      · have hxe : (((s[e']'j1).toNat : Int) != 44) = false := bne_eq_false_iff_eq.mpr ((bt_at s e' j1).trans j2)
                        rw [if_pos ⟨j1, j2, h60⟩] at hlva
                        by_cases j3 : acc.length < 3
                        · have j3i : (acc.length : Int) < 3 := by omega
                          have hQ' := Aside0.mk hQ
                          have g2' := Aside0.mk g2
                          have hlva' := Aside0.mk hlva
                          clear hrest g2 hFail hFail3 hQ hlva j2
                          simp only [endI] at hLv
                          go_wp2_with (first | (go_at_call 99; refine (hLv _).mono ?_; rintro ex w3 ⟨rfl, hb3⟩; have hQ3 := Aside0.mk (hQ'.out.below hb3); clear hb3; obtain ⟨x0, x1, x2, x3, x4, x5, x6⟩ := hQ3.out.nd.cells; have hR := hQ3.out.r; obtain ⟨y0, y1, y2, y3, y4, y5, y6⟩ := hR.cells; have fR := hR.f))
                          have hslc : (q : Int) ≤ (e' : Int) := by omega
                          have hQd := Aside0.mk (hQ3.out.below (below_drew (Below.refl _ _)))
                          refine start_ (n := 10) (S := fun w' => w'.cell? ⟨w.heap.size + 1, 6, none⟩ = some (.slice A acc.length c)) (ds := [9]) #[false, false, false, false, false, false, false, false, false, false] (by kernel_rfl) rfl rfl (hQd.out.nd.cells.2.2.2.2.2.2) (fun hHeld => ?_)
                          refine pure_ (i := 0) (N := some 130) (v := ?_) (a' := ?_) #[true, false, false, false, false, false, false, false, false, false] rfl rfl (by kernel_rfl) (fun _ _ _ h => h) (Or.inl ⟨by rfl, ?_⟩) ?_ ?_
                          rotate_left
                          · intro w'
                            go_simp
                            with_reducible rfl
                          rotate_left
                          · simp only [Act.put, List.setIfInBounds_toArray, List.set_cons_zero, List.set_cons_succ, i64_w, i32_w]
                            rfl
                          refine pure_ (i := 2) (N := some 132) (v := ?_) (a' := ?_) #[true, false, true, false, false, false, false, false, false, false] rfl rfl (by kernel_rfl) (fun _ _ _ h => h) (Or.inl ⟨by rfl, ?_⟩) ?_ ?_
                          rotate_left
                          · intro w'
                            go_simp
                            with_reducible rfl
                          rotate_left
                          · simp only [Act.put, List.setIfInBounds_toArray, List.set_cons_zero, List.set_cons_succ, i64_w, i32_w]
                            rfl
                          refine pure_ (i := 3) (N := some 133) (v := ?_) (a' := ?_) #[true, false, true, true, false, false, false, false, false, false] rfl rfl (by kernel_rfl) (fun _ _ _ h => h) (Or.inl ⟨by rfl, ?_⟩) ?_ ?_
                          rotate_left
                          · intro w'
                            go_simp
                            with_reducible rfl
                          rotate_left
                          · simp only [Act.put, List.setIfInBounds_toArray, List.set_cons_zero, List.set_cons_succ, i64_w, i32_w]
                            rfl
                          refine pure_ (i := 4) (N := some 134) (v := ?_) (a' := ?_) #[true, false, true, true, true, false, false, false, false, false] rfl rfl (by kernel_rfl) (fun _ _ _ h => h) (Or.inl ⟨by rfl, ?_⟩) ?_ ?_
                          rotate_left
                          · intro w'
                            go_simp
                            with_reducible rfl
                          rotate_left
                          · simp only [Act.put, List.setIfInBounds_toArray, List.set_cons_zero, List.set_cons_succ, i64_w, i32_w]
                            rfl
                          refine pure_ (i := 5) (N := some 135) (v := ?_) (a' := ?_) #[true, false, true, true, true, true, false, false, false, false] rfl rfl (by kernel_rfl) (fun _ _ _ h => h) (Or.inl ⟨by rfl, ?_⟩) ?_ ?_
                          rotate_left
                          · intro w'
                            go_simp
                            with_reducible rfl
                          rotate_left
                          · simp only [Act.put, List.setIfInBounds_toArray, List.set_cons_zero, List.set_cons_succ, i64_w, i32_w]
                            rfl
                          refine take_ (i := 1) (N := some 131) (v := ?_) (a' := ?_) #[true, true, true, true, true, true, false, false, false, false] rfl rfl (by kernel_rfl) (fun _ _ _ h => h) (Or.inl ⟨by rfl, ?_⟩) hHeld ?_ ?_
                          rotate_left
                          · intro w' s0
                            go_simp
                            with_reducible rfl
                          rotate_left
                          · simp only [Act.put, List.setIfInBounds_toArray, List.set_cons_zero, List.set_cons_succ, i64_w, i32_w]
                            rfl
                          refine one_ (i := 6) (N := some 136) #[true, true, true, true, true, true, true, false, false, false] rfl rfl (by kernel_rfl) (by decide) (fun K hK => ?_)
                          refine value_ (w1 := ?_) (v := ?_) (by rfl) rfl ?_ ?_
                          rotate_left 2
                          · go_simp
                            constructor
                            · rfl
                            · rfl
                          refine hK.out _ _ ((cell_heap (alloc_old _ _ _ hQd.out.nd.lt) 6).trans hQd.out.nd.cells.2.2.2.2.2.2) (fun hHeld => ?_)
                          clear hK K
                          refine norm_ (a' := ?_) ?_ ?_
                          rotate_left
                          · show Act.put _ (some 136) _ = _
                            simp only [Act.put, List.setIfInBounds_toArray, List.set_cons_zero, List.set_cons_succ, i64_w, i32_w]
                            rfl
                          refine one_ (i := 7) (N := some 137) #[true, true, true, true, true, true, true, true, false, false] rfl rfl (by kernel_rfl) (by decide) (fun K hK => ?_)
                          refine Kd.R_append_step Kd.string (w0 := w3.drew) w.heap.size (by rfl) (.tmp 131) (.tmp 136) 25 9 (.string ⟨#[]⟩) 16 rfl Tryd.underlying25 info9 rfl (by decide) (by omega) (.slice A acc.length c) acc (s.extract q e') [.string (s.extract q e')] (fun b => b ≠ w.heap.size ∧ b ≠ w.heap.size + 1) (fun _ => False) rfl rfl ?aP (fun _ hk => hk.elim) ?aF hQd.out.row (Below.refl _ _) ?aS ?aL ?_
                          case aP => exact rfl
                          case aF => exact fun k2 hk2 => by have := hQd.out.nd.lt; omega
                          case aS => exact hQd.out.b.size
                          case aL => omega
                          intro v1 w4 hR4 hb4 hg4 hat4
                          obtain ⟨A1, c1, rfl⟩ := Kd.R_slice hR4
                          have hM4 := Aside0.mk (hQd.out.more g1 g2'.out hlva'.out j3 hg4 hat4 hR4)
                          have hN4 := hQd.out.nd.old (hg4.block _ hQd.out.nd.lt (fun e => (hQd.out.row.1 _ e.symm).2 rfl))
                          have n6 := hN4.cells.2.2.2.2.2.2
                          have nf := hN4.f 6
                          clear hb4 hg4 hat4 hN4 hR4
                          refine hK.out _ _ (n6) (fun hHeld => ?_)
                          clear hK K
                          refine norm_ (a' := ?_) ?_ ?_
                          rotate_left
                          · show Act.put _ (some 137) _ = _
                            simp only [Act.put, List.setIfInBounds_toArray, List.set_cons_zero, List.set_cons_succ, i64_w, i32_w]
                            rfl
                          refine pure_ (i := 8) (N := some 138) (v := ?_) (a' := ?_) #[true, true, true, true, true, true, true, true, true, false] rfl rfl (by kernel_rfl) (fun _ _ _ h => h) (Or.inl ⟨by rfl, ?_⟩) ?_ ?_
                          rotate_left
                          · intro w'
                            go_simp
                            with_reducible rfl
                          rotate_left
                          · simp only [Act.put, List.setIfInBounds_toArray, List.set_cons_zero, List.set_cons_succ, i64_w, i32_w]
                            rfl
                          refine last_ (i := 9) (N := none) #[true, true, true, true, true, true, true, true, true, true] rfl rfl (by kernel_rfl) (by decide) (fun K hK => ?_)
                          refine skip_ (w1 := ?_) (by rfl) rfl ?_ ?_
                          rotate_left
                          · go_simp
                            rfl
                          refine hK.out _ _ ?_
                          clear hK K
                          refine done_ (by kernel_rfl) ?_
                          go_wp2
                          go_roundg (s.size - (e' + 1))
                          case measure => have := hQ'.out.meas; omega
                          case rel =>
                            have hL1 : (acc ++ [s.extract q e']).length = acc.length + 1 := by simp
                            rw [hL1] at hM4
                            exact ⟨_, _, e' + 1, _, rfl, hM4.out⟩
                        · have j3i : ¬ (acc.length : Int) < 3 := by omega
                          have hXn : X = none := hFail3 (by omega)
                          subst hXn
                          have hQ' := Aside0.mk hQ
                          clear hrest hXe' g2 hFail hFail3 hQ hlva j2 j3
                          simp only [endI] at hLv
                          go_wp2_with (first | (go_at_call 99; refine (hLv _).mono ?_; rintro ex w3 ⟨rfl, hb3⟩; have hQ3 := Aside0.mk (hQ'.out.below hb3); clear hb3; obtain ⟨x0, x1, x2, x3, x4, x5, x6⟩ := hQ3.out.nd.cells; have hR := hQ3.out.r; obtain ⟨y0, y1, y2, y3, y4, y5, y6⟩ := hR.cells; have fR := hR.f))
                          have hF := fillN_nd hR 99 0 name (.slice A acc.length c)
                          have hFb := fillN_below hQ3.out.b w.heap.size (Nat.le_refl _) 99 0 name (.slice A acc.length c)
                          obtain ⟨z0, z1, z2, z3, z4, z5, z6⟩ := hF.cells
                          refine bodyPost_ret (v := .tuple #[.agg #[.int .u8 99, .int .i64 0, .int .i64 0, .int .i64 0, .int .i64 0, .string name, (.slice A acc.length c)], .int .i64 (-1)]) ?_ rfl ?_
                          · unfold fillN at z0 z1 z2 z3 z4 z5 z6
                            clear hF hFb
                            simp [results, Tryd.results81, go_sem, z0, z1, z2, z3, z4, z5, z6]
                          · exact ⟨hFb, _, _, _, _, _, _, rfl⟩
                      · have hxe : (((s[e']'j1).toNat : Int) != 44) = true := bne_iff_ne.mpr (fun h => j2 ((bt_at s e' j1).symm.trans h))
                        rw [if_neg (fun h => j2 h.2.1)] at hlva
                        have hXn : X = none := hFail hlva
                        subst hXn
                        have hQ' := Aside0.mk hQ
                        clear hrest hXe' g2 hFail hFail3 hQ hlva j2
                        simp only [endI] at hLv
                        go_wp2_with (first | (go_at_call 99; refine (hLv _).mono ?_; rintro ex w3 ⟨rfl, hb3⟩; have hQ3 := Aside0.mk (hQ'.out.below hb3); clear hb3; obtain ⟨x0, x1, x2, x3, x4, x5, x6⟩ := hQ3.out.nd.cells; have hR := hQ3.out.r; obtain ⟨y0, y1, y2, y3, y4, y5, y6⟩ := hR.cells; have fR := hR.f))
                        have hF := fillN_nd hR 99 0 name (.slice A acc.length c)
                        have hFb := fillN_below hQ3.out.b w.heap.size (Nat.le_refl _) 99 0 name (.slice A acc.length c)
                        obtain ⟨z0, z1, z2, z3, z4, z5, z6⟩ := hF.cells
                        refine bodyPost_ret (v := .tuple #[.agg #[.int .u8 99, .int .i64 0, .int .i64 0, .int .i64 0, .int .i64 0, .string name, (.slice A acc.length c)], .int .i64 (-1)]) ?_ rfl ?_
                        · unfold fillN at z0 z1 z2 z3 z4 z5 z6
                          clear hF hFb
                          simp [results, Tryd.results81, go_sem, z0, z1, z2, z3, z4, z5, z6]
                        · exact ⟨hFb, _, _, _, _, _, _, rfl⟩
                    · obtain rfl : e' = s.size := by omega
                      rw [if_neg (fun h => j1 h.1)] at hlva
                      have hXn : X = none := hFail hlva
                      subst hXn
                      have hQ' := Aside0.mk hQ
                      clear hrest hXe' g2 hFail hFail3 hQ hlva j1 hge
                      simp only [endI] at hLv
                      go_wp2_with (first | (go_at_call 99; refine (hLv _).mono ?_; rintro ex w3 ⟨rfl, hb3⟩; have hQ3 := Aside0.mk (hQ'.out.below hb3); clear hb3; obtain ⟨x0, x1, x2, x3, x4, x5, x6⟩ := hQ3.out.nd.cells; have hR := hQ3.out.r; obtain ⟨y0, y1, y2, y3, y4, y5, y6⟩ := hR.cells; have fR := hR.f))
                      have hF := fillN_nd hR 99 0 name (.slice A acc.length c)
                      have hFb := fillN_below hQ3.out.b w.heap.size (Nat.le_refl _) 99 0 name (.slice A acc.length c)
                      obtain ⟨z0, z1, z2, z3, z4, z5, z6⟩ := hF.cells
                      refine bodyPost_ret (v := .tuple #[.agg #[.int .u8 99, .int .i64 0, .int .i64 0, .int .i64 0, .int .i64 0, .string name, (.slice A acc.length c)], .int .i64 (-1)]) ?_ rfl ?_
                      · unfold fillN at z0 z1 z2 z3 z4 z5 z6
                        clear hF hFb
                        simp [results, Tryd.results81, go_sem, z0, z1, z2, z3, z4, z5, z6]
                      · exact ⟨hFb, _, _, _, _, _, _, rfl⟩
                  · rw [if_neg h60] at he2; cases he2
            · obtain rfl : q = s.size := by have := hQ.le; omega
              rw [if_neg g1] at hrest
              have hXn : X = none := by rw [hXe'.out, hrest]; rfl
              subst hXn
              obtain ⟨x0, x1, x2, x3, x4, x5, x6⟩ := hQ.nd.cells
              have hR := hQ.r
              have hbq := hQ.b
              obtain ⟨y0, y1, y2, y3, y4, y5, y6⟩ := hR.cells
              have fR := hR.f
              clear hrest hXe' hQ g1
              go_wp2
              have hF := fillN_nd hR 99 0 name (.slice A acc.length c)
              have hFb := fillN_below hbq w.heap.size (Nat.le_refl _) 99 0 name (.slice A acc.length c)
              obtain ⟨z0, z1, z2, z3, z4, z5, z6⟩ := hF.cells
              refine bodyPost_ret (v := .tuple #[.agg #[.int .u8 99, .int .i64 0, .int .i64 0, .int .i64 0, .int .i64 0, .string name, (.slice A acc.length c)], .int .i64 (-1)]) ?_ rfl ?_
              · unfold fillN at z0 z1 z2 z3 z4 z5 z6
                clear hF hFb
                simp [results, Tryd.results81, go_sem, z0, z1, z2, z3, z4, z5, z6]
              · exact ⟨hFb, _, _, _, _, _, _, rfl⟩
      · have hx : (((s[p]'h1).toNat : Int) != 59) = true := bne_iff_ne.mpr (fun h => h2 ((bt_at s p h1).symm.trans h))
        by_cases h3 : p < a + 42
        · have h3i : (p : Int) < (a : Int) + 40 + 2 := by omega
          have h3j : (p : Int) < (a : Int) + 42 := by omega
          have hA2 : Aside0 (∀ j, a + 1 ≤ j → j < p + 1 → bt s (j : Int) ≠ 59) := ⟨fun j hj1 hj2 => by
            rcases Nat.lt_or_ge j p with h | h
            · exact hA.out j hj1 h
            · obtain rfl : j = p := by omega
              exact h2⟩
          clear h2 hA hL0
          go_wp2
          go_roundg (s.size + 1 - (p + 1))
          case measure => omega
          case rel => exact ⟨p + 1, rfl, by omega, by omega, by omega, Nat.le_refl _, hA2, rfl⟩
        · have hXn : X = none := by
            rw [← hX'.out]
            refine rdC_none s hs (a + 1) (fun n hn => ?_)
            have hl := idx_lt s 59 (a + 1) (by omega)
            rw [hn] at hl
            simp only [Int.toNat_natCast] at hl
            rcases idx_far s 59 (a + 1) p (by omega) hp1 hA.out with h | ⟨n', h, hle⟩
            · rw [show ((59 : Nat) : Int) = 59 from rfl, hn] at h; omega
            · rw [show ((59 : Nat) : Int) = 59 from rfl, hn] at h
              exact name_long _ (by rw [ByteArray.size_extract]; omega) (by rw [ByteArray.size_extract]; omega)
          subst hXn
          have h3i : ¬ (p : Int) < (a : Int) + 40 + 2 := by omega
          have h3j : ¬ (p : Int) < (a : Int) + 42 := by omega
          obtain ⟨x0, x1, x2, x3, x4, x5, x6⟩ := hL0.n.cells
          have hR := hL0.r
          have hbq := hL0.b
          obtain ⟨y0, y1, y2, y3, y4, y5, y6⟩ := hR.cells
          have fR := hR.f
          clear h2 hA hL0 hX' hNm h3 hm
          go_wp2
          have hF := fillN_nd hR 99 0 ⟨#[]⟩ (.slice none 0 0)
          have hFb := fillN_below hbq w.heap.size (Nat.le_refl _) 99 0 ⟨#[]⟩ (.slice none 0 0)
          obtain ⟨z0, z1, z2, z3, z4, z5, z6⟩ := hF.cells
          refine bodyPost_ret (v := .tuple #[.agg #[.int .u8 99, .int .i64 0, .int .i64 0, .int .i64 0, .int .i64 0, .string ⟨#[]⟩, (.slice none 0 0)], .int .i64 (-1)]) ?_ rfl ?_
          · unfold fillN at z0 z1 z2 z3 z4 z5 z6
            clear hF hFb
            simp [results, Tryd.results81, go_sem, z0, z1, z2, z3, z4, z5, z6]
          · exact ⟨hFb, _, _, _, _, _, _, rfl⟩
    · have hXn : X = none := by
        rw [← hX'.out]
        refine rdC_none s hs (a + 1) (fun n hn => ?_)
        have hl := idx_lt s 59 (a + 1) (by omega)
        rw [hn] at hl
        simp only [Int.toNat_natCast] at hl
        rcases idx_far s 59 (a + 1) p (by omega) hp1 hA.out with h | ⟨n', h, hle⟩
        · rw [show ((59 : Nat) : Int) = 59 from rfl, hn] at h; omega
        · rw [show ((59 : Nat) : Int) = 59 from rfl, hn] at h
          omega
      subst hXn
      obtain rfl : p = s.size := by omega
      obtain ⟨x0, x1, x2, x3, x4, x5, x6⟩ := hL0.n.cells
      have hR := hL0.r
      have hbq := hL0.b
      obtain ⟨y0, y1, y2, y3, y4, y5, y6⟩ := hR.cells
      have fR := hR.f
      clear h1 hA hL0 hX' hNm hm
      go_wp2
      have hF := fillN_nd hR 99 0 ⟨#[]⟩ (.slice none 0 0)
      have hFb := fillN_below hbq w.heap.size (Nat.le_refl _) 99 0 ⟨#[]⟩ (.slice none 0 0)
      obtain ⟨z0, z1, z2, z3, z4, z5, z6⟩ := hF.cells
      refine bodyPost_ret (v := .tuple #[.agg #[.int .u8 99, .int .i64 0, .int .i64 0, .int .i64 0, .int .i64 0, .string ⟨#[]⟩, (.slice none 0 0)], .int .i64 (-1)]) ?_ rfl ?_
      · unfold fillN at z0 z1 z2 z3 z4 z5 z6
        clear hF hFb
        simp [results, Tryd.results81, go_sem, z0, z1, z2, z3, z4, z5, z6]
      · exact ⟨hFb, _, _, _, _, _, _, rfl⟩
end Go.Proofs.YtefiapcfdabfpaaDoor.P

namespace Go.Proofs.YtefiapcfdabfpaaDoor.P
open Go.RowKit Go.Proofs.YtefiapcfdabfpaaDoorW.PrintWords Go.Proofs.YtefiapcfdabfpaaDoorW.PrintLast Go.Proofs.YtefiapcfdabfpaaDoorW.PrintMore
set_option maxRecDepth 100000
set_option maxHeartbeats 8000000
theorem flat_leaf_of (s : ByteArray) (k a : Nat) (t : Te) (e b : Nat) (h : rdV s a = some (t, e) ∨ (lvAt s 46 a).map (fun e => (Te.sort (s.extract a e), e + 1)) = some (t, e) ∨ rdC s a = some (t, e)) : flat t b = [leafN t] ∧ t.sz = 1 := by
  rcases h with h | h | h
  · unfold rdV at h
    by_cases hi : 0 ≤ idx s 46 a
    · rw [if_pos hi] at h
      obtain ⟨r, _, h⟩ := Option.bind_eq_some_iff.mp h
      by_cases hc : r.2 = true ∧ r.1 ≤ 999
      · rw [if_pos hc] at h
        simp only [Option.some.injEq, Prod.mk.injEq] at h
        obtain ⟨rfl, rfl⟩ := h
        exact ⟨rfl, rfl⟩
      · rw [if_neg hc] at h; cases h
    · rw [if_neg hi] at h; cases h
  · obtain ⟨e1, he, h⟩ := Option.map_eq_some_iff.mp h
    simp only [Prod.mk.injEq] at h
    obtain ⟨rfl, rfl⟩ := h
    exact ⟨rfl, rfl⟩
  · unfold rdC at h
    by_cases hi : 0 ≤ idx s 59 a
    · rw [if_pos hi] at h
      obtain ⟨r, _, h⟩ := Option.bind_eq_some_iff.mp h
      obtain ⟨b, _, h⟩ := Option.bind_eq_some_iff.mp h
      by_cases hc : b = true ∧ r.1.length ≤ 3
      · rw [if_pos hc] at h
        simp only [Option.some.injEq, Prod.mk.injEq] at h
        obtain ⟨rfl, rfl⟩ := h
        exact ⟨rfl, rfl⟩
      · rw [if_neg hc] at h; cases h
    · rw [if_neg hi] at h; cases h
theorem read_of_leaf (s : ByteArray) (a nb B : Nat) (w : World) (v : Value) (acc : List S43) (X : Option (Te × Nat)) (hG : Gath w nb B v acc) (hB : B ≤ w.heap.size) (hnB : B ≤ nb) (hs : s.size ≤ 2000) (hlt : a < s.size) (hac : acc.length ≤ 2000)
    (h1 : bt s (a : Int) ≠ 64) (h2 : bt s (a : Int) ≠ 108) (h3 : bt s (a : Int) ≠ 112) (h4 : bt s (a : Int) ≠ 116) (hf : ∀ t e, X = some (t, e) → flat t acc.length = [leafN t] ∧ t.sz = 1)
    (hl : Calls Tryd.prog 81 #[.string s, .int .i64 (a : Int)] w (LeafP w (leafX X))) :
    Calls Tryd.prog 66 #[.string s, .int .i64 (a : Int), .pointer (some ⟨nb, 0, none⟩)] w (ReadP nb B w v acc X) := by
  cases X with
  | none => exact read_no s a nb B w v acc hlt h1 h2 h3 h4 hl
  | some r =>
    obtain ⟨t, e⟩ := r
    obtain ⟨g1, g2⟩ := hf t e rfl
    refine (read_leaf s a nb B w v acc (leafN t) e hG hB hnB hs hlt hac h1 h2 h3 h4 hl).mono fun ex w' h => ?_
    obtain ⟨hk, he, v', ho, hg⟩ := h
    refine ⟨hk, ?_, v', ho, ?_⟩
    · rw [he, g2]; rfl
    · rw [g1]; exact hg
theorem comp_two (s : ByteArray) (n a nb B : Nat) (w : World) (v : Value) (acc : List S43) (k : Int) (e : Ending) (w' : World)
    (h : Kp nb v w w' ∧ match rdN s n 2 (a + 1) with
      | some (ts, en) => e = .returned (.tuple #[.int .i64 ((acc.length + szs ts : Nat) : Int), .int .i64 (en : Int)]) ∧ ∃ v', Own3 v v' w ∧ Gath w' nb B v' (acc ++ (flats ts acc.length ++ [⟨k, fld acc.length ts 0, fld acc.length ts 1, fld acc.length ts 2, 0, ⟨#[]⟩, []⟩]))
      | none => e = .returned (.tuple #[.int .i64 (-1), .int .i64 (-1)])) :
    ReadP nb B w v acc ((rd s n (a + 1)).bind fun r1 => (rd s n r1.2).map fun r2 => (Te.two k r1.1 r2.1, r2.2)) e w' := by
  obtain ⟨hk, h⟩ := h
  refine ⟨hk, ?_⟩
  simp only [rdN] at h
  cases h1 : rd s n (a + 1) with
  | none => rw [h1] at h; simpa using h
  | some r1 =>
    obtain ⟨t1, e1⟩ := r1
    rw [h1] at h
    simp only [Option.bind_some] at h ⊢
    cases h2 : rd s n e1 with
    | none => rw [h2] at h; simpa using h
    | some r2 =>
      obtain ⟨t2, e2⟩ := r2
      rw [h2] at h
      simp only [Option.bind_some, Option.map_some] at h ⊢
      obtain ⟨he, v', ho, hg⟩ := h
      refine ⟨?_, v', ho, ?_⟩
      · rw [he, show acc.length + szs [t1, t2] = acc.length + (Te.two k t1 t2).sz - 1 from by simp only [szs, Te.sz]; omega]
      · have e3 : acc ++ flat (t1.two k t2) acc.length = acc ++ (flats [t1, t2] acc.length ++ [⟨k, fld acc.length [t1, t2] 0, fld acc.length [t1, t2] 1, fld acc.length [t1, t2] 2, 0, ⟨#[]⟩, []⟩]) := by
          simp [flat, flats, fld, szs]
          omega
        rw [e3]; exact hg
theorem comp_three (s : ByteArray) (n a nb B : Nat) (w : World) (v : Value) (acc : List S43) (e : Ending) (w' : World)
    (h : Kp nb v w w' ∧ match rdN s n 3 (a + 1) with
      | some (ts, en) => e = .returned (.tuple #[.int .i64 ((acc.length + szs ts : Nat) : Int), .int .i64 (en : Int)]) ∧ ∃ v', Own3 v v' w ∧ Gath w' nb B v' (acc ++ (flats ts acc.length ++ [⟨116, fld acc.length ts 0, fld acc.length ts 1, fld acc.length ts 2, 0, ⟨#[]⟩, []⟩]))
      | none => e = .returned (.tuple #[.int .i64 (-1), .int .i64 (-1)])) :
    ReadP nb B w v acc ((rd s n (a + 1)).bind fun r1 => (rd s n r1.2).bind fun r2 => (rd s n r2.2).map fun r3 => (Te.three r1.1 r2.1 r3.1, r3.2)) e w' := by
  obtain ⟨hk, h⟩ := h
  refine ⟨hk, ?_⟩
  simp only [rdN] at h
  cases h1 : rd s n (a + 1) with
  | none => rw [h1] at h; simpa using h
  | some r1 =>
    obtain ⟨t1, e1⟩ := r1
    rw [h1] at h
    simp only [Option.bind_some] at h ⊢
    cases h2 : rd s n e1 with
    | none => rw [h2] at h; simpa using h
    | some r2 =>
      obtain ⟨t2, e2⟩ := r2
      rw [h2] at h
      simp only [Option.bind_some] at h ⊢
      cases h3 : rd s n e2 with
      | none => rw [h3] at h; simpa using h
      | some r3 =>
        obtain ⟨t3, e3⟩ := r3
        rw [h3] at h
        simp only [Option.bind_some, Option.map_some] at h ⊢
        obtain ⟨he, v', ho, hg⟩ := h
        refine ⟨?_, v', ho, ?_⟩
        · rw [he, show acc.length + szs [t1, t2, t3] = acc.length + (Te.three t1 t2 t3).sz - 1 from by simp only [szs, Te.sz]; omega]
        · have e4 : acc ++ flat (t1.three t2 t3) acc.length = acc ++ (flats [t1, t2, t3] acc.length ++ [⟨116, fld acc.length [t1, t2, t3] 0, fld acc.length [t1, t2, t3] 1, fld acc.length [t1, t2, t3] 2, 0, ⟨#[]⟩, []⟩]) := by
            simp [flat, flats, fld, szs]
            omega
          rw [e4]; exact hg
theorem read_all (s : ByteArray) (nb B : Nat) (hs : s.size ≤ 2000) (hnB : B ≤ nb) : ∀ (n a : Nat) (w : World) (v : Value) (acc : List S43), Gath w nb B v acc → B ≤ w.heap.size → a ≤ s.size → acc.length ≤ a → s.size - a < n →
    Calls Tryd.prog 66 #[.string s, .int .i64 (a : Int), .pointer (some ⟨nb, 0, none⟩)] w (ReadP nb B w v acc (rd s n a)) := by
  intro n
  induction n with
  | zero => intro a w v acc hG hB ha hac hn; omega
  | succ n ih =>
    intro a w v acc hG hB ha hac hn
    simp only [rd]
    rcases Nat.lt_or_ge a s.size with hlt | hge
    · rw [if_pos hlt]
      have ih' : ∀ (a' : Nat) (w' : World) (v' : Value) (acc' : List S43), Gath w' nb B v' acc' → B ≤ w'.heap.size → a' ≤ s.size → acc'.length ≤ a' → s.size - a' < n → Calls Tryd.prog 66 #[.string s, .int .i64 (a' : Int), .pointer (some ⟨nb, 0, none⟩)] w' (ReadP nb B w' v' acc' (rd s n a')) := fun a' w' v' acc' => ih a' w' v' acc'
      by_cases h1 : bt s (a : Int) = 118
      · rw [if_pos h1]
        obtain ⟨v0, en, hd, hen, hx⟩ := dig_is s hs (a + 1) hlt
        refine read_of_leaf s a nb B w v acc _ hG hB hnB hs hlt (by omega) (by rw [h1]; decide) (by rw [h1]; decide) (by rw [h1]; decide) (by rw [h1]; decide) (fun t e h => flat_leaf_of s n _ t e _ (.inl h)) ?_
        rw [← hx]
        exact leaf_var s a v0 en w hs hlt h1 hd hen
      rw [if_neg h1]
      by_cases h2 : bt s (a : Int) = 115
      · rw [if_pos h2]
        obtain ⟨en, hd, hen, hx⟩ := sort_is s hs (a + 1) hlt
        refine read_of_leaf s a nb B w v acc _ hG hB hnB hs hlt (by omega) (by rw [h2]; decide) (by rw [h2]; decide) (by rw [h2]; decide) (by rw [h2]; decide) (fun t e h => flat_leaf_of s n _ t e _ (.inr (.inl h))) ?_
        rw [← hx]
        exact leaf_sort s a en w hs hlt h2 hd hen
      rw [if_neg h2]
      by_cases h3 : bt s (a : Int) = 99
      · rw [if_pos h3]
        exact read_of_leaf s a nb B w v acc _ hG hB hnB hs hlt (by omega) (by rw [h3]; decide) (by rw [h3]; decide) (by rw [h3]; decide) (by rw [h3]; decide) (fun t e h => flat_leaf_of s n _ t e _ (.inr (.inr h))) (leaf_con s a w hs hlt h3)
      rw [if_neg h3]
      by_cases h4 : bt s (a : Int) = 64
      · rw [if_pos (Or.inl h4), h4]
        exact (read_comp64 s a nb B n w v acc hG hB hnB hs hlt hac h4 hn ih').mono fun e w' h => comp_two s n a nb B w v acc 64 e w' h
      by_cases h5 : bt s (a : Int) = 108
      · rw [if_pos (Or.inr (Or.inl h5)), h5]
        exact (read_comp108 s a nb B n w v acc hG hB hnB hs hlt hac h5 hn ih').mono fun e w' h => comp_two s n a nb B w v acc 108 e w' h
      by_cases h6 : bt s (a : Int) = 112
      · rw [if_pos (Or.inr (Or.inr h6)), h6]
        exact (read_comp112 s a nb B n w v acc hG hB hnB hs hlt hac h6 hn ih').mono fun e w' h => comp_two s n a nb B w v acc 112 e w' h
      rw [if_neg (fun h => h.elim h4 (fun h => h.elim h5 h6))]
      by_cases h7 : bt s (a : Int) = 116
      · rw [if_pos h7]
        exact (read_comp116 s a nb B n w v acc hG hB hnB hs hlt hac h7 hn ih').mono fun e w' h => comp_three s n a nb B w v acc e w' h
      · rw [if_neg h7]
        exact read_of_leaf s a nb B w v acc none hG hB hnB hs hlt (by omega) h4 h5 h6 h7 (fun t e h => by cases h) (leaf_other s a w hs hlt h1 h2 h3)
    · rw [if_neg (by omega)]
      exact read_end s a nb B w v acc hge (by omega)
/-- The reference's nodes of a text. -/
def nodesOf (s : ByteArray) : List S43 := match parseT s with
  | some t => flat t 0
  | none => []
def spec_l06All.f (_k : Nat) (a0 : ByteArray) : Option (List S43) := if a0.size ≤ 140737488351232 then some (nodesOf a0) else none
theorem spec_l06All.mono : ∀ a0 k, LeO (spec_l06All.f k a0) (spec_l06All.f (k + 1) a0) := fun _ _ => LeO.refl _
theorem S_empty (w : World) (B : Nat) (ok : Nat → Prop) (hB : B ≤ w.heap.size) (hok : ok w.heap.size) : Kd.S k43 43 (w.alloc (.cells #[] 43)) B ok (.slice (some ⟨w.heap.size, 0, none⟩) 0 0) [] := by
  refine ⟨fun _ => 0, fun k hk => ?_, [], ?_, Reps.none _ _⟩
  · have : w.heap.size = k := by simpa [Value.ownBlock] using hk
    subst this
    exact hok
  · exact World.ownsRow_lit (base := B) (e := 43) (size := 7) w #[] 0 hB (by decide) (by simp)
/-- The world in which the reader begins. -/
def Wb (w : World) : World := (w.alloc (.cells #[] 43)).alloc (.cells #[.slice (some ⟨w.heap.size, 0, none⟩) 0 0] 36)
theorem allBase (w : World) : Gath (Wb w) (w.heap.size + 1) w.heap.size (.slice (some ⟨w.heap.size, 0, none⟩) 0 0) [] := by
  refine ⟨?_, Kd.S_below (S_empty w _ _ (Nat.le_refl _) (by omega)) (below_alloc (Below.refl _ _) _)⟩
  have h := alloc_here (w.alloc (.cells #[] 43)) (.cells #[.slice (some ⟨w.heap.size, 0, none⟩) 0 0] 36)
  rw [alloc_size] at h
  exact h
theorem spec_l06All.calls (k : Nat) (a0 : ByteArray) (r : List S43) (w : World) (h : spec_l06All.f k a0 = some r) :
    Calls Tryd.prog 44 #[.string a0] w fun e w' => ∃ v1_ : Value, e = .returned v1_ ∧ Kd.S k43 43 w' w.heap.size (fun _ => True) v1_ r ∧ Below w.heap.size w w' := by
  unfold spec_l06All.f at h
  by_cases hB : a0.size ≤ 140737488351232
  · rw [if_pos hB] at h
    obtain rfl := Option.some.inj h
    by_cases hs : a0.size ≤ 2000
    · have hsi : ¬ (2000 : Int) < (a0.size : Int) := by omega
      have hG := allBase w
      have hR := read_all a0 (w.heap.size + 1) w.heap.size hs (Nat.le_succ _) (a0.size + 1) 0 (Wb w) _ [] hG (by unfold Wb; rw [alloc_size, alloc_size]; omega) (Nat.zero_le _) (Nat.le_refl _) (by omega)
      have hWb : Below w.heap.size w (Wb w) := below_alloc (below_alloc (Below.refl _ _) _) _
      have hfin : ∀ w2, Kp (w.heap.size + 1) (.slice (some ⟨w.heap.size, 0, none⟩) 0 0) (Wb w) w2 → Below w.heap.size w w2 := fun w2 h => hWb.trans (h.below (by unfold Wb; rw [alloc_size, alloc_size]; omega) (Nat.le_succ _) (fun k hk => by simp [Value.ownBlock] at hk; omega))
      have hR' : Calls Tryd.prog 66 #[.string a0, .int .i64 0, .pointer (some ⟨w.heap.size + 1, 0, none⟩)] ((w.alloc (.cells #[] 43)).alloc (.cells #[.slice (some ⟨w.heap.size, 0, none⟩) 0 0] 36)) (ReadP (w.heap.size + 1) w.heap.size (Wb w) (.slice (some ⟨w.heap.size, 0, none⟩) 0 0) [] (rd a0 (a0.size + 1) 0)) := hR
      clear hR hG hWb
      cases hx : rd a0 (a0.size + 1) 0 with
      | none =>
        have hn : nodesOf a0 = [] := by unfold nodesOf parseT; rw [if_pos hs, hx]; rfl
        rw [hn]
        rw [hx] at hR'
        clear hx hn
        go_enter Tryd.func44, Tryd.ntmps44
        go_wp2_with (first | (go_at_call 66; refine (Calls.mono hR' ?_); rintro e w2 ⟨hk2, rfl⟩))
        go_ret
        exact ⟨_, rfl, S_empty w2 w.heap.size _ ((hfin _ hk2).size) trivial, below_alloc (hfin _ hk2) _⟩
      | some r =>
        obtain ⟨t, en⟩ := r
        rw [hx] at hR'
        by_cases he : en = a0.size
        · have hn : nodesOf a0 = flat t 0 := by unfold nodesOf parseT; rw [if_pos hs, hx, Option.bind_some, if_pos he]
          rw [hn]
          subst he
          clear hx hn
          go_enter Tryd.func44, Tryd.ntmps44
          go_wp2_with (first | (go_at_call 66; refine (Calls.mono hR' ?_); rintro e w2 ⟨hk2, rfl, v', ho, hg⟩; obtain ⟨A, c, rfl⟩ := Kd.S_slice hg.s; have hc2 := cell_of (T := 36) hg.c; have hS := Aside0.mk hg.s; clear hg ho))
          go_ret
          exact ⟨_, rfl, Kd.S_mono hS.out (fun _ _ => trivial), hfin _ hk2⟩
        · have hn : nodesOf a0 = [] := by unfold nodesOf parseT; rw [if_pos hs, hx, Option.bind_some, if_neg he]
          rw [hn]
          have hne : ((en : Int) != (a0.size : Int)) = true := bne_iff_ne.mpr (by omega)
          clear hx hn he
          go_enter Tryd.func44, Tryd.ntmps44
          go_wp2_with (first | (go_at_call 66; refine (Calls.mono hR' ?_); rintro e w2 ⟨hk2, rfl, v', ho, hg⟩; clear hg ho))
          go_ret
          exact ⟨_, rfl, S_empty w2 w.heap.size _ ((hfin _ hk2).size) trivial, below_alloc (hfin _ hk2) _⟩
    · have hsi : (2000 : Int) < (a0.size : Int) := by omega
      have hn : nodesOf a0 = [] := by unfold nodesOf parseT; rw [if_neg hs]
      rw [hn]
      go_enter Tryd.func44, Tryd.ntmps44
      go_wp2
      go_ret
      exact ⟨_, rfl, Kd.S_below (S_empty w w.heap.size _ (Nat.le_refl _) trivial) (below_alloc (Below.refl _ _) _), below_alloc (below_alloc (Below.refl _ _) _) _⟩
  · rw [if_neg hB] at h; cases h
end Go.Proofs.YtefiapcfdabfpaaDoor.P

namespace Go.Proofs.YtefiapcfdabfpaaDoor.P
open Go.RowKit Go.Proofs.YtefiapcfdabfpaaDoorW.PrintWords Go.Proofs.YtefiapcfdabfpaaDoorW.PrintLast Go.Proofs.YtefiapcfdabfpaaDoorW.PrintMore
attribute [local go_sem] max2_int min2_int max_two min_two max_three min_three max_four min_four
set_option linter.unusedVariables false
set_option linter.unusedSimpArgs false

/-! ### spec_TermOk: function 15 -/
def spec_TermOk.f (k : Nat) (a0 : ByteArray) : Option (Bool) := (spec_l06All.f k a0).bind fun t101 => (some (decide ((t101.length : Int) > 0)))
theorem spec_TermOk.mono : ∀ a0 k, LeO (spec_TermOk.f k a0) (spec_TermOk.f (k + 1) a0) := by
  intro a0 k
  unfold spec_TermOk.f
  repeat' first
      | (with_reducible exact spec_l06All.mono _ _)
      | (with_reducible exact LeO.refl _)
      | (with_reducible exact LeO.none _)
      | (with_reducible refine LeO.ite ?_ ?_)
      | (with_reducible refine LeO.bind ?_ (fun _ => ?_))
      | exact spec_l06All.mono _ _
      | exact LeO.none _
      | refine LeO.ite ?_ ?_
      | refine LeO.bind ?_ (fun _ => ?_)
set_option maxHeartbeats 8000000 in
set_option maxRecDepth 100000 in
theorem spec_TermOk.calls (k : Nat) (a0 : ByteArray) (r : Bool) (w : World) (h : spec_TermOk.f k a0 = some r) :
    Calls Tryd.prog 15 #[.string a0] w fun e w' => e = .returned (.bool r) ∧ Below w.heap.size w w' := by
  have HB := Aside0.mk (Below.refl w.heap.size w)
  have H : ((spec_l06All.f k a0).bind fun t101 => (some (decide ((t101.length : Int) > 0)))) = some r := h
  clear h
  replace H := Option.bind_eq_some_iff.mp H
  obtain ⟨t101, A20, H⟩ := H
  replace H : (some (decide ((t101.length : Int) > 0))) = some r := H
  have A2 := Aside0.mk A20
  clear A20
  obtain rfl := Option.some.inj H
  go_enter Tryd.func15, Tryd.ntmps15
  go_wp2_with (first | ((with_reducible refine gate_callee (f := 44) rfl ?_); refine goesL_ (some 4) rfl rfl Tryd.func44 (by kernel_rfl) rfl #[.string a0] rfl (by (try simp only [List.map_toArray, List.map_cons, List.map_nil]); first | done | rfl | (simp only [List.length_drop, List.length_take]; rfl)) ?_; (with_reducible refine (spec_l06All.calls k a0 t101 _ A2.out).mono ?_); rintro e w3 ⟨v102, rfl, ho0, hb⟩; refine ⟨_, rfl, ?_⟩; have n0_ := Aside0.mk (Kd.S_lower ho0 (below_size (by repeat (first | (with_reducible first | exact HB.out | apply below_alloc | apply pw_below_drewN | apply below_drew1) | exact HB.out)))); have n1_ := Aside0.mk (below_step (by repeat (first | (with_reducible first | exact HB.out | apply below_alloc | apply pw_below_drewN | apply below_drew1) | exact HB.out)) hb); clear HB; have HO103 := n0_; have HB := n1_; clear n0_ n1_; (try clear hb); (try clear hb2); (try clear hk); (try clear hi); (try clear ho0); obtain ⟨Ao4, co4, eo4⟩ := Kd.S_slice HO103.out; subst eo4))
  go_ret
  exact ⟨by first | rfl | (simp [errW_none, errW_some] <;> rfl) | (simp [*, errW_none, errW_some] <;> rfl), by repeat (first | (with_reducible first | exact HB.out | apply below_alloc | apply pw_below_drewN | apply below_drew1) | exact HB.out)⟩

end Go.Proofs.YtefiapcfdabfpaaDoor.P

namespace Go.Proofs.YtefiapcfdabfpaaDoor.P
open Go.RowKit Go.Proofs.YtefiapcfdabfpaaDoorW.PrintWords Go.Proofs.YtefiapcfdabfpaaDoorW.PrintLast Go.Proofs.YtefiapcfdabfpaaDoorW.PrintMore
set_option maxRecDepth 100000
set_option maxHeartbeats 8000000
theorem parse_all (text : ByteArray) (w : World) (hA : EnvA w) (hI : EnvI w) (hM : EnvM w) (hB : text.size ≤ 140737488351232) :
    Calls Tryd.prog 45 #[.string text] w (Parsed w (parseT text)) := by
  by_cases hs : text.size ≤ 2000
  · exact parse_main text w hA hI hM hs
  · have : parseT text = none := by unfold parseT; rw [if_neg hs]
    rw [this]
    exact parse_long text w (by omega) hB
def impl_TermOk.f (a0 : ByteArray) : Option Bool := if a0.size ≤ 140737488351232 then some (parseT a0).isSome else none
theorem impl_TermOk.calls (a0 : ByteArray) (r : Bool) (w : World) (hA : EnvA w) (hI : EnvI w) (hM : EnvM w) (h : impl_TermOk.f a0 = some r) :
    Calls Tryd.prog 16 #[.string a0] w fun e w' => e = .returned (.bool r) ∧ Below w.heap.size w w' := by
  unfold impl_TermOk.f at h
  by_cases hB : a0.size ≤ 140737488351232
  · rw [if_pos hB] at h
    obtain rfl := Option.some.inj h
    have hP := parse_all a0 w hA hI hM hB
    clear hA hI hM h
    cases hx : parseT a0 with
    | none =>
      rw [hx] at hP
      clear hx
      unfold Parsed at hP
      simp only at hP
      go_enter Tryd.func16, Tryd.ntmps16
      go_wp2_with (first | (go_at_call 45; refine (Calls.mono hP ?_); rintro e w2 ⟨hb2, rfl⟩))
      go_ret
      exact ⟨rfl, hb2⟩
    | some t =>
      rw [hx] at hP
      clear hx
      unfold Parsed at hP
      simp only at hP
      go_enter Tryd.func16, Tryd.ntmps16
      go_wp2_with (first | (go_at_call 45; refine (Calls.mono hP ?_); rintro e w2 ⟨hb2, g, rfl, hrep⟩))
      go_ret
      exact ⟨rfl, hb2⟩
  · rw [if_neg hB] at h; cases h
end Go.Proofs.YtefiapcfdabfpaaDoor.P

namespace Go.Proofs.YtefiapcfdabfpaaDoor.P
open Go.RowKit Go.Proofs.YtefiapcfdabfpaaDoorW.PrintWords Go.Proofs.YtefiapcfdabfpaaDoorW.PrintLast Go.Proofs.YtefiapcfdabfpaaDoorW.PrintMore
set_option maxRecDepth 100000
set_option maxHeartbeats 8000000
theorem parse_pos {s : ByteArray} {t : Te} (h : parseT s = some t) : 0 < s.size ∧ s.size ≤ 2000 := by
  unfold parseT at h
  by_cases hs : s.size ≤ 2000
  · rw [if_pos hs] at h
    obtain ⟨r, hr, h⟩ := Option.bind_eq_some_iff.mp h
    have := rdT_ok s hs _ _ r.1 r.2 hr (Nat.zero_le _)
    exact ⟨by omega, hs⟩
  · rw [if_neg hs] at h; cases h
def impl_TermKind.f (a0 : ByteArray) : Option ByteArray := if a0.size ≤ 140737488351232 then some (if (parseT a0).isSome then a0.extract 0 1 else ⟨#[]⟩) else none
theorem impl_TermKind.calls (a0 : ByteArray) (r : ByteArray) (w : World) (hA : EnvA w) (hI : EnvI w) (hM : EnvM w) (h : impl_TermKind.f a0 = some r) :
    Calls Tryd.prog 20 #[.string a0] w fun e w' => e = .returned (.string r) ∧ Below w.heap.size w w' := by
  unfold impl_TermKind.f at h
  by_cases hB : a0.size ≤ 140737488351232
  · rw [if_pos hB] at h
    obtain rfl := Option.some.inj h
    have hP := impl_TermOk.calls a0 _ w hA hI hM (by unfold impl_TermOk.f; rw [if_pos hB])
    clear hA hI hM h
    cases hx : parseT a0 with
    | none =>
      rw [hx] at hP
      clear hx
      simp only [Option.isSome_none] at hP ⊢
      go_enter Tryd.func20, Tryd.ntmps20
      go_wp2_with (first | (go_at_call 16; refine (Calls.mono hP ?_); rintro e w2 ⟨rfl, hb2⟩))
      go_ret
      exact ⟨rfl, hb2⟩
    | some t =>
      have hp := parse_pos hx
      rw [hx] at hP
      clear hx
      simp only [Option.isSome_some, if_true] at hP ⊢
      have h1 : 1 ≤ a0.size := hp.1
      go_enter Tryd.func20, Tryd.ntmps20
      go_wp2_with (first | (go_at_call 16; refine (Calls.mono hP ?_); rintro e w2 ⟨rfl, hb2⟩))
      go_ret
      exact ⟨rfl, hb2⟩
  · rw [if_neg hB] at h; cases h
end Go.Proofs.YtefiapcfdabfpaaDoor.P

namespace Go.Proofs.YtefiapcfdabfpaaDoor.Pure
open Go.RowKit Go.Proofs.YtefiapcfdabfpaaDoor.P Go.Proofs.YtefiapcfdabfpaaDoorW.PrintWords
theorem nodes_some {s : ByteArray} {t : Te} (h : parseT s = some t) : nodesOf s = flat t 0 := by unfold nodesOf; rw [h]
theorem nodes_none {s : ByteArray} (h : parseT s = none) : nodesOf s = [] := by unfold nodesOf; rw [h]
theorem nodes_pos (s : ByteArray) : decide (((nodesOf s).length : Int) > 0) = (parseT s).isSome := by
  cases h : parseT s with
  | none => rw [nodes_none h]; rfl
  | some t =>
    rw [nodes_some h, flat_length]
    have := t.sz_pos
    rw [decide_eq_true (by omega)]
    rfl
theorem spec_TermOk_is (s : ByteArray) (k : Nat) (hB : s.size ≤ 140737488351232) : spec_TermOk.f k s = some (parseT s).isSome := by
  unfold spec_TermOk.f spec_l06All.f
  rw [if_pos hB, Option.bind_some, nodes_pos]
theorem impl_TermOk_is (s : ByteArray) (hB : s.size ≤ 140737488351232) : impl_TermOk.f s = some (parseT s).isSome := by
  unfold impl_TermOk.f
  rw [if_pos hB]
end Go.Proofs.YtefiapcfdabfpaaDoor.Pure

namespace Go.Proofs.YtefiapcfdabfpaaDoor
open Go.ChangeShapes Go.WideShapes Go.ChangeAt Go.RowKit Go.Lib
theorem own : ownKnob Tryd.prog.godebug = none := by kernel_rfl
theorem laidOut : laidOutB Tryd.prog = true := by kernel_rfl
noncomputable def laidWorld (os : Os) : World :=
  let N := (World.settled Tryd.prog os).heap.size
  let w0 := World.holding Tryd.prog os ⟨#[.cells #[.string ⟨#[105, 110, 118, 97, 108, 105, 100, 32, 115, 121, 110, 116, 97, 120]⟩] 142, .cells #[.string ⟨#[118, 97, 108, 117, 101, 32, 111, 117, 116, 32, 111, 102, 32, 114, 97, 110, 103, 101]⟩] 142], #[], []⟩
  let put (h : Array Obj) (g : Nat) (cs : Array Value) : Array Obj := h.modify g fun
    | .cells _ t frozen => .cells cs t frozen
    | o => o
  let h0 := put w0.heap 1 #[.iface 140 (.pointer (some ⟨N + 0, 0, none⟩))]
  let h1 := put h0 2 #[.iface 140 (.pointer (some ⟨N + 1, 0, none⟩))]
  let h2 := put h1 3 #[.int .u64 1, .int .u64 10, .int .u64 100, .int .u64 1000, .int .u64 10000, .int .u64 100000, .int .u64 1000000, .int .u64 10000000, .int .u64 100000000, .int .u64 1000000000, .int .u64 10000000000, .int .u64 100000000000, .int .u64 1000000000000, .int .u64 10000000000000, .int .u64 100000000000000, .int .u64 1000000000000000, .int .u64 10000000000000000, .int .u64 100000000000000000, .int .u64 1000000000000000000, .int .u64 10000000000000000000]
  let h3 := put h2 4 ((Go.Pinned.utf8FirstZ.map fun z => Value.int .u8 (z : Nat)).toArray)
  let h4 := put h3 5 #[.int .u8 128, .int .u8 191, .int .u8 160, .int .u8 191, .int .u8 128, .int .u8 159, .int .u8 144, .int .u8 191, .int .u8 128, .int .u8 143, .int .u8 0, .int .u8 0, .int .u8 0, .int .u8 0, .int .u8 0, .int .u8 0, .int .u8 0, .int .u8 0, .int .u8 0, .int .u8 0, .int .u8 0, .int .u8 0, .int .u8 0, .int .u8 0, .int .u8 0, .int .u8 0, .int .u8 0, .int .u8 0, .int .u8 0, .int .u8 0, .int .u8 0, .int .u8 0]
  let h5 := put h4 6 #[.int .u8 0, .int .u8 1, .int .u8 28, .int .u8 2, .int .u8 29, .int .u8 14, .int .u8 24, .int .u8 3, .int .u8 30, .int .u8 22, .int .u8 20, .int .u8 15, .int .u8 25, .int .u8 17, .int .u8 4, .int .u8 8, .int .u8 31, .int .u8 27, .int .u8 13, .int .u8 23, .int .u8 21, .int .u8 19, .int .u8 16, .int .u8 7, .int .u8 26, .int .u8 12, .int .u8 18, .int .u8 6, .int .u8 11, .int .u8 5, .int .u8 10, .int .u8 9]
  let h6 := put h5 7 #[.int .u8 0, .int .u8 1, .int .u8 56, .int .u8 2, .int .u8 57, .int .u8 49, .int .u8 28, .int .u8 3, .int .u8 61, .int .u8 58, .int .u8 42, .int .u8 50, .int .u8 38, .int .u8 29, .int .u8 17, .int .u8 4, .int .u8 62, .int .u8 47, .int .u8 59, .int .u8 36, .int .u8 45, .int .u8 43, .int .u8 51, .int .u8 22, .int .u8 53, .int .u8 39, .int .u8 33, .int .u8 30, .int .u8 24, .int .u8 18, .int .u8 12, .int .u8 5, .int .u8 63, .int .u8 55, .int .u8 48, .int .u8 27, .int .u8 60, .int .u8 41, .int .u8 37, .int .u8 16, .int .u8 46, .int .u8 35, .int .u8 44, .int .u8 21, .int .u8 52, .int .u8 32, .int .u8 23, .int .u8 11, .int .u8 54, .int .u8 26, .int .u8 40, .int .u8 15, .int .u8 34, .int .u8 20, .int .u8 31, .int .u8 10, .int .u8 25, .int .u8 14, .int .u8 19, .int .u8 9, .int .u8 13, .int .u8 8, .int .u8 7, .int .u8 6]
  { w0 with heap := h6 }
noncomputable abbrev N0 : Nat := (World.settled Tryd.prog default).heap.size
theorem envM {W : World} (hsh : W.ShapedOpen Tryd.prog) : P.EnvM W :=
  let ⟨s0, hs⟩ := cell_of_shapedOpen_int (P := Tryd.prog) (g := 0) (t := 3) (zero := #[.int .i64 0]) hsh (of_decide_eq_true (by kernel_rfl)) (by kernel_rfl) rfl (by kernel_rfl) (by kernel_rfl) Tryd.underlying3
  ⟨s0, hs⟩
theorem envI {W : World} {r : List (String × DataW Unit)} (h : laidMet Tryd.prog (("internal/strconv.uint64pow10", Rows.laid_internal_strconv_uint64pow10) :: r) W) : P.EnvI W :=
  ⟨tabIs_of_head (k := .u64) (zs := Lib.pow10Tab) (g := 3) (t := 135) (e := 121) (n := 20) (by kernel_rfl) (by kernel_rfl) Tryd.underlying135 Tryd.underlying121 (by kernel_rfl) (by kernel_rfl) h⟩
theorem star : "*" ++ "errors.errorString" = "*errors.errorString" := by decide
theorem errRow (u : TypeId) (h : Tryd.prog.typeName? 3 u = some "*errors.errorString") : u = 140 :=
  typeName_ptr_named (nm := "errors.errorString") (by rw [star]; kernel_rfl) (by kernel_rfl) (by decide) u (by rw [star]; exact h)
theorem sent1 {W : World} {r : List (String × DataW Unit)} (h : laidMet Tryd.prog (("strconv.ErrSyntax", Rows.laid_strconv_ErrSyntax) :: r) W) : ∃ tp p, W.var? Tryd.prog "strconv.ErrSyntax" = some #[.iface tp p] := by
  obtain ⟨a, t, hv, _⟩ := laid_sentinel (g := 1) h (by kernel_rfl) (by kernel_rfl) Tryd.underlying95 errRow Tryd.underlying140 Tryd.underlying142 rfl rfl Tryd.underlying9 (by kernel_rfl) (by kernel_rfl)
  exact ⟨_, _, hv⟩
theorem sent2 {W : World} {r : List (String × DataW Unit)} (h : laidMet Tryd.prog (("strconv.ErrRange", Rows.laid_strconv_ErrRange) :: r) W) : ∃ tp p, W.var? Tryd.prog "strconv.ErrRange" = some #[.iface tp p] := by
  obtain ⟨a, t, hv, _⟩ := laid_sentinel (g := 2) h (by kernel_rfl) (by kernel_rfl) Tryd.underlying95 errRow Tryd.underlying140 Tryd.underlying142 rfl rfl Tryd.underlying9 (by kernel_rfl) (by kernel_rfl)
  exact ⟨_, _, hv⟩
end Go.Proofs.YtefiapcfdabfpaaDoor
