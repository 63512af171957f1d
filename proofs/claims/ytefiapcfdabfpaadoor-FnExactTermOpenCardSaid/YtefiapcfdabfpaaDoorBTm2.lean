/- Part 2 of the proofs of this seat's rows: contracts of the functions that they reach. -/
import Derived.Test.YtefiapcfdabfpaaDoorBTm1
import Derived.Lib.SplitLaws
import Derived.Lib.CountLaws
import Derived.Lib.AtoiTie
import Derived.Lib.ItoaMem
set_option linter.unusedVariables false
set_option linter.unusedSimpArgs false
namespace Go.Proofs.YtefiapcfdabfpaaDoor.P
open Go.RowKit Go.Proofs.YtefiapcfdabfpaaDoorW.PrintWords Go.Proofs.YtefiapcfdabfpaaDoorW.PrintLast Go.Proofs.YtefiapcfdabfpaaDoorW.PrintMore
attribute [local go_sem] max2_int min2_int max_two min_two max_three min_three max_four min_four
set_option linter.unusedVariables false
set_option linter.unusedSimpArgs false

/-! ### spec_Decimal: function 94 -/
def spec_Decimal.l0 : Nat → Int → Bool → ByteArray → Option (ByteArray)
  | 0, _, _, _ => none
  | k + 1, x0, x3, x4 => if x0 = 0 then (if x3 = true then (if 1 + x4.size ≤ 9223372036854775807 then (some ((⟨#[45]⟩ : ByteArray) ++ x4)) else (none)) else (some x4)) else (if (Int.tmod x0 10) < 0 then ((spec_l01Figure.f (wrap64 (-(Int.tmod x0 10)))).bind fun t101 => ((some (([t101] : List Int) : List Int)).bind fun y102 => (if (strOfNums y102).size + x4.size ≤ 9223372036854775807 then (spec_Decimal.l0 k (wrap64 (Int.tdiv x0 10)) x3 ((strOfNums y102) ++ x4)) else (none)))) else ((spec_l01Figure.f (Int.tmod x0 10)).bind fun t105 => ((some (([t105] : List Int) : List Int)).bind fun y106 => (if (strOfNums y106).size + x4.size ≤ 9223372036854775807 then (spec_Decimal.l0 k (wrap64 (Int.tdiv x0 10)) x3 ((strOfNums y106) ++ x4)) else (none)))))
def spec_Decimal.f (k : Nat) (a0 : Int) : Option (ByteArray) := if a0 = 0 then (some (⟨#[48]⟩ : ByteArray)) else (spec_Decimal.l0 k a0 (decide (a0 < 0)) (⟨#[]⟩ : ByteArray))
theorem spec_Decimal.mono_l : ∀ k, (∀ y0 y1 y2, LeO (spec_Decimal.l0 k y0 y1 y2) (spec_Decimal.l0 (k + 1) y0 y1 y2))
  | 0 => fun _ _ _ r h => by simp [spec_Decimal.l0] at h
  | k + 1 => by
    have ih0 := spec_Decimal.mono_l k
    · intro y0 y1 y2
      unfold spec_Decimal.l0
      repeat' first
      | (with_reducible exact ih0 _ _ _)
      | (with_reducible exact LeO.refl _)
      | (with_reducible exact LeO.none _)
      | (with_reducible refine LeO.ite ?_ ?_)
      | (with_reducible refine LeO.bind ?_ (fun _ => ?_))
      | exact ih0 _ _ _
      | exact LeO.none _
      | refine LeO.ite ?_ ?_
      | refine LeO.bind ?_ (fun _ => ?_)
theorem spec_Decimal.mono : ∀ a0 k, LeO (spec_Decimal.f k a0) (spec_Decimal.f (k + 1) a0) := by
  intro a0 k
  have ih0 := spec_Decimal.mono_l k
  unfold spec_Decimal.f
  repeat' first
      | (with_reducible exact ih0 _ _ _)
      | (with_reducible exact LeO.refl _)
      | (with_reducible exact LeO.none _)
      | (with_reducible refine LeO.ite ?_ ?_)
      | (with_reducible refine LeO.bind ?_ (fun _ => ?_))
      | exact ih0 _ _ _
      | exact LeO.none _
      | refine LeO.ite ?_ ?_
      | refine LeO.bind ?_ (fun _ => ?_)
set_option maxHeartbeats 8000000 in
set_option maxRecDepth 100000 in
theorem spec_Decimal.calls (k : Nat) (a0 : Int) (r : ByteArray) (w : World) (h : spec_Decimal.f k a0 = some r) :
    Calls Tryd.prog 94 #[.int .i64 a0] w fun e w' => e = .returned (.string r) ∧ Below w.heap.size w w' := by
  have HB := Aside0.mk (Below.refl w.heap.size w)
  have H : (if a0 = 0 then (some (⟨#[48]⟩ : ByteArray)) else (spec_Decimal.l0 k a0 (decide (a0 < 0)) (⟨#[]⟩ : ByteArray))) = some r := h
  clear h
  obtain ⟨jb, hjb⟩ : ∃ b : Bool, (decide (a0 < 0)) = b := ⟨_, rfl⟩
  rw [hjb] at H
  by_cases c2 : a0 = 0
  · rw [if_pos c2] at H
    have c2b0 : (a0 == 0) = true := beq_iff_eq.mpr c2
    have c2b1 : (a0 != 0) = false := bne_eq_false_iff_eq.mpr c2
    clear c2
    obtain rfl := Option.some.inj H
    go_enter Tryd.func94, Tryd.ntmps94
    go_wp2
    go_ret
    exact ⟨by first | rfl | (simp [errW_none, errW_some] <;> rfl) | (simp [*, errW_none, errW_some] <;> rfl), by repeat (first | (with_reducible first | exact HB.out | apply below_alloc | apply pw_below_drewN | apply below_drew1) | exact HB.out)⟩
  · rw [if_neg c2] at H
    have c2b0 : (a0 == 0) = false := beq_eq_false_iff_ne.mpr c2
    have c2b1 : (a0 != 0) = true := bne_iff_ne.mpr c2
    have H' := Aside0.mk H
    clear H
    go_enter Tryd.func94, Tryd.ntmps94
    go_wp2
    go_loopg [0, 4] k (fun kq v0 v4 w' => ∃ (x0_1 : Int) (x4_1 : ByteArray), v0 = .int .i64 x0_1 ∧ v4 = .string x4_1 ∧ Aside0 (spec_Decimal.l0 kq x0_1 jb x4_1 = some r) ∧ Aside0 (kq ≤ k) ∧ Aside0 (Below w.heap.size w w'))
    case atStart => exact ⟨(a0), ((⟨#[]⟩ : ByteArray)), (by first | rfl | (simp; done) | (simp [*]; done)), (by first | rfl | (simp; done) | (simp [*]; done)), H', ⟨Nat.le_refl _⟩, ⟨by repeat (first | (with_reducible first | exact HB.out | apply below_alloc | apply pw_below_drewN | apply below_drew1) | exact HB.out)⟩⟩
    case round =>
      clear H'
      try clear c2
      try clear c2b0
      try clear c2b1
      try clear p2
      obtain ⟨x0_1, x4_1, rfl, rfl, HA, HK1, HB⟩ := hrel
      cases gk with
      | zero => exact absurd HA.out (by simp [spec_Decimal.l0])
      | succ k1 =>
        have H := HA.out
        clear HA
        simp only [spec_Decimal.l0] at H
        by_cases c3 : x0_1 = 0
        · rw [if_pos c3] at H
          have c3b0 : (x0_1 == 0) = true := beq_iff_eq.mpr c3
          have c3b1 : (x0_1 != 0) = false := bne_eq_false_iff_eq.mpr c3
          clear c3
          by_cases c4 : jb = true
          · rw [if_pos c4] at H
            subst c4
            by_cases c5 : 1 + x4_1.size ≤ 9223372036854775807
            · rw [if_pos c5] at H
              have c5b0 := eq_true c5
              have c5b1 : decide (1 + x4_1.size ≤ 9223372036854775807) = true := decide_eq_true c5
              try have c5b2 : (9223372036854775807 < 1 + x4_1.size) = False := eq_false (Nat.not_lt.2 c5)
              obtain rfl := Option.some.inj H
              go_wp2
              go_ret
              exact ⟨by first | rfl | (simp [errW_none, errW_some] <;> rfl) | (simp [*, errW_none, errW_some] <;> rfl), by repeat (first | (with_reducible first | exact HB.out | apply below_alloc | apply pw_below_drewN | apply below_drew1) | exact HB.out)⟩
            · rw [if_neg c5] at H
              exact absurd H (by simp)
          · rw [if_neg c4] at H
            replace c4 := Bool.eq_false_iff.mpr c4
            subst c4
            obtain rfl := Option.some.inj H
            go_wp2
            go_ret
            exact ⟨by first | rfl | (simp [errW_none, errW_some] <;> rfl) | (simp [*, errW_none, errW_some] <;> rfl), by repeat (first | (with_reducible first | exact HB.out | apply below_alloc | apply pw_below_drewN | apply below_drew1) | exact HB.out)⟩
        · rw [if_neg c3] at H
          have c3b0 : (x0_1 == 0) = false := beq_eq_false_iff_ne.mpr c3
          have c3b1 : (x0_1 != 0) = true := bne_iff_ne.mpr c3
          by_cases c6 : (Int.tmod x0_1 10) < 0
          · rw [if_pos c6] at H
            have c6b0 : decide ((Int.tmod x0_1 10) < 0) = true := decide_eq_true c6
            clear c6
            replace H := Option.bind_eq_some_iff.mp H
            obtain ⟨t101, A70, H⟩ := H
            replace H : ((some (([t101] : List Int) : List Int)).bind fun y102 => (if (strOfNums y102).size + x4_1.size ≤ 9223372036854775807 then (spec_Decimal.l0 k1 (wrap64 (Int.tdiv x0_1 10)) jb ((strOfNums y102) ++ x4_1)) else (none))) = some r := H
            have A7 := Aside0.mk A70
            clear A70
            obtain ⟨y102, hy102⟩ : ∃ y_ : List Int, y_ = (([t101] : List Int)) := ⟨_, rfl⟩
            replace H : (if (strOfNums y102).size + x4_1.size ≤ 9223372036854775807 then (spec_Decimal.l0 k1 (wrap64 (Int.tdiv x0_1 10)) jb ((strOfNums y102) ++ x4_1)) else (none)) = some r := by first | (rw [hy102]; with_reducible exact H) | (have H2_ := (Option.bind_some _ _).symm.trans H; rw [hy102]; with_reducible exact H2_) | (have H2_ := (Option.bind_some _ _).symm.trans H; with_reducible exact H2_) | with_reducible exact H | (rw [hy102]; exact H) | exact H
            have Ny102 := Aside0.mk hy102
            clear hy102
            by_cases c8 : (strOfNums y102).size + x4_1.size ≤ 9223372036854775807
            · rw [if_pos c8] at H
              have c8b0 := eq_true c8
              have c8b1 : decide ((strOfNums y102).size + x4_1.size ≤ 9223372036854775807) = true := decide_eq_true c8
              try have c8b2 : (9223372036854775807 < (strOfNums y102).size + x4_1.size) = False := eq_false (Nat.not_lt.2 c8)
              have H' := Aside0.mk H
              clear H
              go_wp2_with (first | ((with_reducible refine gate_callee (f := 109) rfl ?_); refine goesL_ (some 19) rfl rfl Tryd.func109 (by kernel_rfl) rfl #[.int .i64 (wrap64 (-(Int.tmod x0_1 10)))] rfl (by (try simp only [List.map_toArray, List.map_cons, List.map_nil]); first | done | rfl | (simp only [List.length_drop, List.length_take]; rfl)) ?_; (with_reducible refine (spec_l01Figure.calls (wrap64 (-(Int.tmod x0_1 10))) t101 _ A7.out).mono ?_); rintro e w' ⟨rfl, ⟨nd, rfl⟩⟩; refine ⟨_, rfl, ?_⟩) | ((with_reducible refine gate_dst (N := 20) rfl ?_); refine Kd.R_lit (Kd.int .u8) _ 5 ?hg (N := 20) ?hd (xs := ([t101] : List Int)) (inner := [.int .u8 t101]) (ok := fun _ => True) (okp := fun _ => True) ?hr ?hp (fun _ hk => hk) trivial (Below.refl _ _) (Nat.le_refl _) (by simp) ?_; (case hd => rfl); (case hg => rfl); (case hr => first | (go_simp; done) | (go_simp; rfl)); (case hp => exact (Reps.one (show Kd.M (Kd.int .u8) _ _ _ t101 [.int .u8 t101] from rfl) (Reps.none _ _))); intro v103 w9 ho10 hb hg_ hnew_; clear hg_ hnew_; (first | rw [← Ny102.out] at ho10 | (simp only [Int.reduceToNat] at ho10; rw [← Ny102.out] at ho10)); have n0_ := Aside0.mk (Kd.R_lower ho10 (below_size (by repeat (first | (with_reducible first | exact HB.out | apply below_alloc | apply pw_below_drewN | apply below_drew1) | exact HB.out)))); have n1_ := Aside0.mk (below_step (by repeat (first | (with_reducible first | exact HB.out | apply below_alloc | apply pw_below_drewN | apply below_drew1) | exact HB.out)) hb); clear HB; have HO104 := n0_; have HB := n1_; clear n0_ n1_; clear hb ho10; have hcv11 := own_string (P := Tryd.prog) Tryd.underlying73 Tryd.underlying5 Tryd.underlying9 (Kd.own_of_R HO104.out)))
              go_roundg k1
              case measure => have := HK1.out; omega
              case rel => exact ⟨(wrap64 (Int.tdiv x0_1 10)), ((strOfNums y102) ++ x4_1), (by first | rfl | (simp; done) | (simp [*]; done)), (by first | rfl | (simp; done) | (simp [*]; done)), H', ⟨by have := HK1.out; omega⟩, ⟨by repeat (first | (with_reducible first | exact HB.out | apply below_alloc | apply pw_below_drewN | apply below_drew1) | exact HB.out)⟩⟩
            · rw [if_neg c8] at H
              exact absurd H (by simp)
          · rw [if_neg c6] at H
            have c6b0 : decide ((Int.tmod x0_1 10) < 0) = false := decide_eq_false c6
            clear c6
            replace H := Option.bind_eq_some_iff.mp H
            obtain ⟨t105, A120, H⟩ := H
            replace H : ((some (([t105] : List Int) : List Int)).bind fun y106 => (if (strOfNums y106).size + x4_1.size ≤ 9223372036854775807 then (spec_Decimal.l0 k1 (wrap64 (Int.tdiv x0_1 10)) jb ((strOfNums y106) ++ x4_1)) else (none))) = some r := H
            have A12 := Aside0.mk A120
            clear A120
            obtain ⟨y106, hy106⟩ : ∃ y_ : List Int, y_ = (([t105] : List Int)) := ⟨_, rfl⟩
            replace H : (if (strOfNums y106).size + x4_1.size ≤ 9223372036854775807 then (spec_Decimal.l0 k1 (wrap64 (Int.tdiv x0_1 10)) jb ((strOfNums y106) ++ x4_1)) else (none)) = some r := by first | (rw [hy106]; with_reducible exact H) | (have H2_ := (Option.bind_some _ _).symm.trans H; rw [hy106]; with_reducible exact H2_) | (have H2_ := (Option.bind_some _ _).symm.trans H; with_reducible exact H2_) | with_reducible exact H | (rw [hy106]; exact H) | exact H
            have Ny106 := Aside0.mk hy106
            clear hy106
            by_cases c13 : (strOfNums y106).size + x4_1.size ≤ 9223372036854775807
            · rw [if_pos c13] at H
              have c13b0 := eq_true c13
              have c13b1 : decide ((strOfNums y106).size + x4_1.size ≤ 9223372036854775807) = true := decide_eq_true c13
              try have c13b2 : (9223372036854775807 < (strOfNums y106).size + x4_1.size) = False := eq_false (Nat.not_lt.2 c13)
              have H' := Aside0.mk H
              clear H
              go_wp2_with (first | ((with_reducible refine gate_callee (f := 109) rfl ?_); refine goesL_ (some 19) rfl rfl Tryd.func109 (by kernel_rfl) rfl #[.int .i64 (Int.tmod x0_1 10)] rfl (by (try simp only [List.map_toArray, List.map_cons, List.map_nil]); first | done | rfl | (simp only [List.length_drop, List.length_take]; rfl)) ?_; (with_reducible refine (spec_l01Figure.calls (Int.tmod x0_1 10) t105 _ A12.out).mono ?_); rintro e w' ⟨rfl, ⟨nd, rfl⟩⟩; refine ⟨_, rfl, ?_⟩) | ((with_reducible refine gate_dst (N := 20) rfl ?_); refine Kd.R_lit (Kd.int .u8) _ 5 ?hg (N := 20) ?hd (xs := ([t105] : List Int)) (inner := [.int .u8 t105]) (ok := fun _ => True) (okp := fun _ => True) ?hr ?hp (fun _ hk => hk) trivial (Below.refl _ _) (Nat.le_refl _) (by simp) ?_; (case hd => rfl); (case hg => rfl); (case hr => first | (go_simp; done) | (go_simp; rfl)); (case hp => exact (Reps.one (show Kd.M (Kd.int .u8) _ _ _ t105 [.int .u8 t105] from rfl) (Reps.none _ _))); intro v107 w14 ho15 hb hg_ hnew_; clear hg_ hnew_; (first | rw [← Ny106.out] at ho15 | (simp only [Int.reduceToNat] at ho15; rw [← Ny106.out] at ho15)); have n0_ := Aside0.mk (Kd.R_lower ho15 (below_size (by repeat (first | (with_reducible first | exact HB.out | apply below_alloc | apply pw_below_drewN | apply below_drew1) | exact HB.out)))); have n1_ := Aside0.mk (below_step (by repeat (first | (with_reducible first | exact HB.out | apply below_alloc | apply pw_below_drewN | apply below_drew1) | exact HB.out)) hb); clear HB; have HO108 := n0_; have HB := n1_; clear n0_ n1_; clear hb ho15; have hcv16 := own_string (P := Tryd.prog) Tryd.underlying73 Tryd.underlying5 Tryd.underlying9 (Kd.own_of_R HO108.out)))
              go_roundg k1
              case measure => have := HK1.out; omega
              case rel => exact ⟨(wrap64 (Int.tdiv x0_1 10)), ((strOfNums y106) ++ x4_1), (by first | rfl | (simp; done) | (simp [*]; done)), (by first | rfl | (simp; done) | (simp [*]; done)), H', ⟨by have := HK1.out; omega⟩, ⟨by repeat (first | (with_reducible first | exact HB.out | apply below_alloc | apply pw_below_drewN | apply below_drew1) | exact HB.out)⟩⟩
            · rw [if_neg c13] at H
              exact absurd H (by simp)

end Go.Proofs.YtefiapcfdabfpaaDoor.P

namespace Go.Proofs.YtefiapcfdabfpaaDoor.P
open Go.RowKit Go.Proofs.YtefiapcfdabfpaaDoorW.PrintWords Go.Proofs.YtefiapcfdabfpaaDoorW.PrintLast Go.Proofs.YtefiapcfdabfpaaDoorW.PrintMore
attribute [local go_sem] max2_int min2_int max_two min_two max_three min_three max_four min_four
set_option linter.unusedVariables false
set_option linter.unusedSimpArgs false

/-! ### spec_ReadDecimal: function 112 -/
def spec_ReadDecimal.l0 : Nat → ByteArray → Int → Int → Option (Int × Bool)
  | 0, _, _, _ => none
  | k + 1, x0, x4, x5 => if x5 < (x0.size : Int) then (if 0 ≤ x5 then (if (bt x0 x5) < 48 then (some (0, false)) else (if (bt x0 x5) > 57 then (some (0, false)) else (spec_ReadDecimal.l0 k x0 (wrap64 ((wrap64 ((wrap64 (10 * x4)) + (wrap64 (bt x0 x5)))) - 48)) (wrap64 (x5 + 1))))) else (none)) else (if x4 > 1000000000 then (some (0, false)) else ((spec_Decimal.f k x4).bind fun t101 => (if t101.toList = x0.toList then (some (x4, true)) else (some (0, false)))))
def spec_ReadDecimal.f (k : Nat) (a0 : ByteArray) : Option (Int × Bool) := if (a0.size : Int) > 10 then (some (0, false)) else (spec_ReadDecimal.l0 k a0 0 0)
theorem spec_ReadDecimal.mono_l : ∀ k, (∀ y0 y1 y2, LeO (spec_ReadDecimal.l0 k y0 y1 y2) (spec_ReadDecimal.l0 (k + 1) y0 y1 y2))
  | 0 => fun _ _ _ r h => by simp [spec_ReadDecimal.l0] at h
  | k + 1 => by
    have ih0 := spec_ReadDecimal.mono_l k
    · intro y0 y1 y2
      unfold spec_ReadDecimal.l0
      repeat' first
      | (with_reducible exact ih0 _ _ _)
      | (with_reducible exact spec_Decimal.mono _ _)
      | (with_reducible exact LeO.refl _)
      | (with_reducible exact LeO.none _)
      | (with_reducible refine LeO.ite ?_ ?_)
      | (with_reducible refine LeO.bind ?_ (fun _ => ?_))
      | exact ih0 _ _ _
      | exact spec_Decimal.mono _ _
      | exact LeO.none _
      | refine LeO.ite ?_ ?_
      | refine LeO.bind ?_ (fun _ => ?_)
theorem spec_ReadDecimal.mono : ∀ a0 k, LeO (spec_ReadDecimal.f k a0) (spec_ReadDecimal.f (k + 1) a0) := by
  intro a0 k
  have ih0 := spec_ReadDecimal.mono_l k
  unfold spec_ReadDecimal.f
  repeat' first
      | (with_reducible exact ih0 _ _ _)
      | (with_reducible exact spec_Decimal.mono _ _)
      | (with_reducible exact LeO.refl _)
      | (with_reducible exact LeO.none _)
      | (with_reducible refine LeO.ite ?_ ?_)
      | (with_reducible refine LeO.bind ?_ (fun _ => ?_))
      | exact ih0 _ _ _
      | exact spec_Decimal.mono _ _
      | exact LeO.none _
      | refine LeO.ite ?_ ?_
      | refine LeO.bind ?_ (fun _ => ?_)
set_option maxHeartbeats 8000000 in
set_option maxRecDepth 100000 in
theorem spec_ReadDecimal.calls (k : Nat) (a0 : ByteArray) (r1 : Int) (r2 : Bool) (w : World) (h : spec_ReadDecimal.f k a0 = some (r1, r2)) :
    Calls Tryd.prog 112 #[.string a0] w fun e w' => e = .returned (.tuple #[.int .i64 r1, .bool r2]) ∧ Below w.heap.size w w' := by
  have HB := Aside0.mk (Below.refl w.heap.size w)
  have H : (if (a0.size : Int) > 10 then (some (0, false)) else (spec_ReadDecimal.l0 k a0 0 0)) = some (r1, r2) := h
  clear h
  by_cases c2 : (a0.size : Int) > 10
  · rw [if_pos c2] at H
    have c2b0 : decide (10 < (a0.size : Int)) = true := decide_eq_true c2
    have c2b1 : decide (10 < a0.size) = true := decide_eq_true (by omega)
    clear c2
    simp only [Option.some.injEq, Prod.mk.injEq] at H
    obtain ⟨rfl, rfl⟩ := H
    go_enter Tryd.func112, Tryd.ntmps112
    go_wp2
    go_ret2
    exact ⟨by first | rfl | (simp [errW_none, errW_some] <;> rfl) | (simp [*, errW_none, errW_some] <;> rfl), by repeat (first | (with_reducible first | exact HB.out | apply below_alloc | apply pw_below_drewN | apply below_drew1) | exact HB.out)⟩
  · rw [if_neg c2] at H
    have c2b0 : decide (10 < (a0.size : Int)) = false := decide_eq_false c2
    have c2b1 : decide (10 < a0.size) = false := decide_eq_false (by omega)
    clear c2
    have H' := Aside0.mk H
    clear H
    go_enter Tryd.func112, Tryd.ntmps112
    go_wp2
    go_loopg [4, 5] k (fun kq v4 v5 w' => ∃ (x4_1 : Int) (x5_1 : Int), v4 = .int .i64 x4_1 ∧ v5 = .int .i64 x5_1 ∧ Aside0 (spec_ReadDecimal.l0 kq a0 x4_1 x5_1 = some (r1, r2)) ∧ Aside0 (kq ≤ k) ∧ Aside0 (Below w.heap.size w w'))
    case atStart => exact ⟨(0), (0), (by first | rfl | (simp; done) | (simp [*]; done)), (by first | rfl | (simp; done) | (simp [*]; done)), H', ⟨Nat.le_refl _⟩, ⟨by repeat (first | (with_reducible first | exact HB.out | apply below_alloc | apply pw_below_drewN | apply below_drew1) | exact HB.out)⟩⟩
    case round =>
      clear H'
      try clear c1
      try clear c2
      try clear c2b0
      try clear c2b1
      try clear p2
      obtain ⟨x4_1, x5_1, rfl, rfl, HA, HK1, HB⟩ := hrel
      cases gk with
      | zero => exact absurd HA.out (by simp [spec_ReadDecimal.l0])
      | succ k1 =>
        have H := HA.out
        clear HA
        simp only [spec_ReadDecimal.l0] at H
        by_cases c3 : x5_1 < (a0.size : Int)
        · rw [if_pos c3] at H
          have c3b0 : decide (x5_1 < (a0.size : Int)) = true := decide_eq_true c3
          clear c3
          by_cases c4 : 0 ≤ x5_1
          · rw [if_pos c4] at H
            have c4b0 : decide (0 ≤ x5_1) = true := decide_eq_true c4
            clear c4
            by_cases c6 : (bt a0 x5_1) < 48
            · rw [if_pos c6] at H
              have c6b0 : decide ((bt a0 x5_1) < 48) = true := decide_eq_true c6
              clear c6
              simp only [Option.some.injEq, Prod.mk.injEq] at H
              obtain ⟨rfl, rfl⟩ := H
              have p5 : 0 ≤ (x5_1 : Int) := of_decide_eq_true (by first | (with_reducible assumption) | assumption)
              have q5 : x5_1 < (a0.size : Int) := of_decide_eq_true (by first | (with_reducible assumption) | assumption)
              have hx5 := bt_at a0 x5_1
              replace p5 := eq_true p5
              replace q5 := eq_true q5
              go_wp2
              go_ret2
              exact ⟨by first | rfl | (simp [errW_none, errW_some] <;> rfl) | (simp [*, errW_none, errW_some] <;> rfl), by repeat (first | (with_reducible first | exact HB.out | apply below_alloc | apply pw_below_drewN | apply below_drew1) | exact HB.out)⟩
            · rw [if_neg c6] at H
              have c6b0 : decide ((bt a0 x5_1) < 48) = false := decide_eq_false c6
              clear c6
              by_cases c8 : (bt a0 x5_1) > 57
              · rw [if_pos c8] at H
                have c8b0 : decide (57 < (bt a0 x5_1)) = true := decide_eq_true c8
                clear c8
                simp only [Option.some.injEq, Prod.mk.injEq] at H
                obtain ⟨rfl, rfl⟩ := H
                have p5 : 0 ≤ (x5_1 : Int) := of_decide_eq_true (by first | (with_reducible assumption) | assumption)
                have q5 : x5_1 < (a0.size : Int) := of_decide_eq_true (by first | (with_reducible assumption) | assumption)
                have hx5 := bt_at a0 x5_1
                replace p5 := eq_true p5
                replace q5 := eq_true q5
                have p7 : 0 ≤ (x5_1 : Int) := of_decide_eq_true (by first | (with_reducible assumption) | assumption)
                have q7 : x5_1 < (a0.size : Int) := of_decide_eq_true (by first | (with_reducible assumption) | assumption)
                have hx7 := bt_at a0 x5_1
                replace p7 := eq_true p7
                replace q7 := eq_true q7
                go_wp2
                go_ret2
                exact ⟨by first | rfl | (simp [errW_none, errW_some] <;> rfl) | (simp [*, errW_none, errW_some] <;> rfl), by repeat (first | (with_reducible first | exact HB.out | apply below_alloc | apply pw_below_drewN | apply below_drew1) | exact HB.out)⟩
              · rw [if_neg c8] at H
                have c8b0 : decide (57 < (bt a0 x5_1)) = false := decide_eq_false c8
                clear c8
                have H' := Aside0.mk H
                clear H
                have p5 : 0 ≤ (x5_1 : Int) := of_decide_eq_true (by first | (with_reducible assumption) | assumption)
                have q5 : x5_1 < (a0.size : Int) := of_decide_eq_true (by first | (with_reducible assumption) | assumption)
                have hx5 := bt_at a0 x5_1
                replace p5 := eq_true p5
                replace q5 := eq_true q5
                have p7 : 0 ≤ (x5_1 : Int) := of_decide_eq_true (by first | (with_reducible assumption) | assumption)
                have q7 : x5_1 < (a0.size : Int) := of_decide_eq_true (by first | (with_reducible assumption) | assumption)
                have hx7 := bt_at a0 x5_1
                replace p7 := eq_true p7
                replace q7 := eq_true q7
                have p9 : 0 ≤ (x5_1 : Int) := of_decide_eq_true (by first | (with_reducible assumption) | assumption)
                have q9 : x5_1 < (a0.size : Int) := of_decide_eq_true (by first | (with_reducible assumption) | assumption)
                have hx9 := bt_at a0 x5_1
                replace p9 := eq_true p9
                replace q9 := eq_true q9
                go_wp2
                go_roundg k1
                case measure => have := HK1.out; omega
                case rel => exact ⟨(wrap64 ((wrap64 ((wrap64 (10 * x4_1)) + (wrap64 (bt a0 x5_1)))) - 48)), (wrap64 (x5_1 + 1)), (by first | rfl | (simp; done) | (simp [*]; done)), (by first | rfl | (simp; done) | (simp [*]; done)), H', ⟨by have := HK1.out; omega⟩, ⟨by repeat (first | (with_reducible first | exact HB.out | apply below_alloc | apply pw_below_drewN | apply below_drew1) | exact HB.out)⟩⟩
          · rw [if_neg c4] at H
            exact absurd H (by simp)
        · rw [if_neg c3] at H
          have c3b0 : decide (x5_1 < (a0.size : Int)) = false := decide_eq_false c3
          clear c3
          by_cases c10 : x4_1 > 1000000000
          · rw [if_pos c10] at H
            have c10b0 : decide (1000000000 < x4_1) = true := decide_eq_true c10
            clear c10
            simp only [Option.some.injEq, Prod.mk.injEq] at H
            obtain ⟨rfl, rfl⟩ := H
            go_wp2
            go_ret2
            exact ⟨by first | rfl | (simp [errW_none, errW_some] <;> rfl) | (simp [*, errW_none, errW_some] <;> rfl), by repeat (first | (with_reducible first | exact HB.out | apply below_alloc | apply pw_below_drewN | apply below_drew1) | exact HB.out)⟩
          · rw [if_neg c10] at H
            have c10b0 : decide (1000000000 < x4_1) = false := decide_eq_false c10
            clear c10
            replace H := Option.bind_eq_some_iff.mp H
            obtain ⟨t101, A110, H⟩ := H
            replace H : (if t101.toList = a0.toList then (some (x4_1, true)) else (some (0, false))) = some (r1, r2) := H
            have A11 := Aside0.mk A110
            clear A110
            by_cases c12 : t101.toList = a0.toList
            · rw [if_pos c12] at H
              have c12b0 : (t101.toList == a0.toList) = true := beq_iff_eq.mpr c12
              have c12b1 : (t101.toList != a0.toList) = false := bne_eq_false_iff_eq.mpr c12
              clear c12
              simp only [Option.some.injEq, Prod.mk.injEq] at H
              obtain ⟨rfl, rfl⟩ := H
              go_wp2_with (first | (go_at_call 94; (with_reducible refine (spec_Decimal.calls k1 x4_1 t101 _ A11.out).mono ?_); rintro e w13 ⟨rfl, hb⟩; have n0_ := Aside0.mk (below_step (by repeat (first | (with_reducible first | exact HB.out | apply below_alloc | apply pw_below_drewN | apply below_drew1) | exact HB.out)) hb); clear HB; have HB := n0_; clear n0_; (try clear hb); (try clear hb2); (try clear hk); (try clear hi)))
              go_ret2
              exact ⟨by first | rfl | (simp [errW_none, errW_some] <;> rfl) | (simp [*, errW_none, errW_some] <;> rfl), by repeat (first | (with_reducible first | exact HB.out | apply below_alloc | apply pw_below_drewN | apply below_drew1) | exact HB.out)⟩
            · rw [if_neg c12] at H
              have c12b0 : (t101.toList == a0.toList) = false := beq_eq_false_iff_ne.mpr c12
              have c12b1 : (t101.toList != a0.toList) = true := bne_iff_ne.mpr c12
              simp only [Option.some.injEq, Prod.mk.injEq] at H
              obtain ⟨rfl, rfl⟩ := H
              go_wp2_with (first | (go_at_call 94; (with_reducible refine (spec_Decimal.calls k1 x4_1 t101 _ A11.out).mono ?_); rintro e w14 ⟨rfl, hb⟩; have n0_ := Aside0.mk (below_step (by repeat (first | (with_reducible first | exact HB.out | apply below_alloc | apply pw_below_drewN | apply below_drew1) | exact HB.out)) hb); clear HB; have HB := n0_; clear n0_; (try clear hb); (try clear hb2); (try clear hk); (try clear hi)))
              go_ret2
              exact ⟨by first | rfl | (simp [errW_none, errW_some] <;> rfl) | (simp [*, errW_none, errW_some] <;> rfl), by repeat (first | (with_reducible first | exact HB.out | apply below_alloc | apply pw_below_drewN | apply below_drew1) | exact HB.out)⟩

end Go.Proofs.YtefiapcfdabfpaaDoor.P

namespace Go.Proofs.YtefiapcfdabfpaaDoor.P
open Go.RowKit Go.Proofs.YtefiapcfdabfpaaDoorW.PrintWords Go.Proofs.YtefiapcfdabfpaaDoorW.PrintLast Go.Proofs.YtefiapcfdabfpaaDoorW.PrintMore
attribute [local go_sem] max2_int min2_int max_two min_two max_three min_three max_four min_four
set_option linter.unusedVariables false
set_option linter.unusedSimpArgs false

/-! ### spec_l06Digits: function 98 -/
def spec_l06Digits.l0 : Nat → ByteArray → Int → Int → Option (Int × Int)
  | 0, _, _, _ => none
  | k + 1, x0, x1, x6 => if x6 < (x0.size : Int) then (if x6 < (wrap64 (x1 + 4)) then (if 0 ≤ x6 then (if (bt x0 x6) ≥ 48 then (if (bt x0 x6) ≤ 57 then (spec_l06Digits.l0 k x0 x1 (wrap64 (x6 + 1))) else (if 0 ≤ x1 then (if x1 ≤ x6 then (if x6 ≤ (x0.size : Int) then ((spec_ReadDecimal.f k (x0.extract (x1 : Int).toNat (x6 : Int).toNat)).bind fun bt101 => (if bt101.2 = true then (if bt101.1 > 999 then (some (0, (-1))) else (some (bt101.1, x6))) else (some (0, (-1))))) else (none)) else (none)) else (none))) else (if 0 ≤ x1 then (if x1 ≤ x6 then (if x6 ≤ (x0.size : Int) then ((spec_ReadDecimal.f k (x0.extract (x1 : Int).toNat (x6 : Int).toNat)).bind fun bt103 => (if bt103.2 = true then (if bt103.1 > 999 then (some (0, (-1))) else (some (bt103.1, x6))) else (some (0, (-1))))) else (none)) else (none)) else (none))) else (none)) else (if 0 ≤ x1 then (if x1 ≤ x6 then (if x6 ≤ (x0.size : Int) then ((spec_ReadDecimal.f k (x0.extract (x1 : Int).toNat (x6 : Int).toNat)).bind fun bt105 => (if bt105.2 = true then (if bt105.1 > 999 then (some (0, (-1))) else (some (bt105.1, x6))) else (some (0, (-1))))) else (none)) else (none)) else (none))) else (if 0 ≤ x1 then (if x1 ≤ x6 then (if x6 ≤ (x0.size : Int) then ((spec_ReadDecimal.f k (x0.extract (x1 : Int).toNat (x6 : Int).toNat)).bind fun bt107 => (if bt107.2 = true then (if bt107.1 > 999 then (some (0, (-1))) else (some (bt107.1, x6))) else (some (0, (-1))))) else (none)) else (none)) else (none))
def spec_l06Digits.f (k : Nat) (a0 : ByteArray) (a1 : Int) : Option (Int × Int) := spec_l06Digits.l0 k a0 a1 a1
theorem spec_l06Digits.mono_l : ∀ k, (∀ y0 y1 y2, LeO (spec_l06Digits.l0 k y0 y1 y2) (spec_l06Digits.l0 (k + 1) y0 y1 y2))
  | 0 => fun _ _ _ r h => by simp [spec_l06Digits.l0] at h
  | k + 1 => by
    have ih0 := spec_l06Digits.mono_l k
    · intro y0 y1 y2
      unfold spec_l06Digits.l0
      repeat' first
      | (with_reducible exact ih0 _ _ _)
      | (with_reducible exact spec_ReadDecimal.mono _ _)
      | (with_reducible exact LeO.refl _)
      | (with_reducible exact LeO.none _)
      | (with_reducible refine LeO.ite ?_ ?_)
      | (with_reducible refine LeO.bind ?_ (fun _ => ?_))
      | exact ih0 _ _ _
      | exact spec_ReadDecimal.mono _ _
      | exact LeO.none _
      | refine LeO.ite ?_ ?_
      | refine LeO.bind ?_ (fun _ => ?_)
theorem spec_l06Digits.mono : ∀ a0 a1 k, LeO (spec_l06Digits.f k a0 a1) (spec_l06Digits.f (k + 1) a0 a1) := by
  intro a0 a1 k
  have ih0 := spec_l06Digits.mono_l k
  unfold spec_l06Digits.f
  repeat' first
      | (with_reducible exact ih0 _ _ _)
      | (with_reducible exact spec_ReadDecimal.mono _ _)
      | (with_reducible exact LeO.refl _)
      | (with_reducible exact LeO.none _)
      | (with_reducible refine LeO.ite ?_ ?_)
      | (with_reducible refine LeO.bind ?_ (fun _ => ?_))
      | exact ih0 _ _ _
      | exact spec_ReadDecimal.mono _ _
      | exact LeO.none _
      | refine LeO.ite ?_ ?_
      | refine LeO.bind ?_ (fun _ => ?_)
set_option maxHeartbeats 8000000 in
set_option maxRecDepth 100000 in
theorem spec_l06Digits.calls (k : Nat) (a0 : ByteArray) (a1 : Int) (r1 : Int) (r2 : Int) (w : World) (h : spec_l06Digits.f k a0 a1 = some (r1, r2)) :
    Calls Tryd.prog 98 #[.string a0, .int .i64 a1] w fun e w' => e = .returned (.tuple #[.int .i64 r1, .int .i64 r2]) ∧ Below w.heap.size w w' := by
  have HB := Aside0.mk (Below.refl w.heap.size w)
  have H : (spec_l06Digits.l0 k a0 a1 a1) = some (r1, r2) := h
  clear h
  have H' := Aside0.mk H
  clear H
  go_enter Tryd.func98, Tryd.ntmps98
  go_wp2
  go_loopg [6] k (fun kq v6 w' => ∃ (x6_1 : Int), v6 = .int .i64 x6_1 ∧ Aside0 (spec_l06Digits.l0 kq a0 a1 x6_1 = some (r1, r2)) ∧ Aside0 (kq ≤ k) ∧ Aside0 (Below w.heap.size w w'))
  case atStart => exact ⟨(a1), (by first | rfl | (simp; done) | (simp [*]; done)), H', ⟨Nat.le_refl _⟩, ⟨by repeat (first | (with_reducible first | exact HB.out | apply below_alloc | apply pw_below_drewN | apply below_drew1) | exact HB.out)⟩⟩
  case round =>
    clear H'
    try clear p2
    obtain ⟨x6_1, rfl, HA, HK1, HB⟩ := hrel
    cases gk with
    | zero => exact absurd HA.out (by simp [spec_l06Digits.l0])
    | succ k1 =>
      have H := HA.out
      clear HA
      simp only [spec_l06Digits.l0] at H
      by_cases c3 : x6_1 < (a0.size : Int)
      · rw [if_pos c3] at H
        have c3b0 : decide (x6_1 < (a0.size : Int)) = true := decide_eq_true c3
        clear c3
        by_cases c4 : x6_1 < (wrap64 (a1 + 4))
        · rw [if_pos c4] at H
          have c4b0 : decide (x6_1 < (wrap64 (a1 + 4))) = true := decide_eq_true c4
          clear c4
          by_cases c5 : 0 ≤ x6_1
          · rw [if_pos c5] at H
            have c5b0 : decide (0 ≤ x6_1) = true := decide_eq_true c5
            clear c5
            by_cases c7 : (bt a0 x6_1) ≥ 48
            · rw [if_pos c7] at H
              have c7b0 : decide (48 ≤ (bt a0 x6_1)) = true := decide_eq_true c7
              clear c7
              by_cases c9 : (bt a0 x6_1) ≤ 57
              · rw [if_pos c9] at H
                have c9b0 : decide ((bt a0 x6_1) ≤ 57) = true := decide_eq_true c9
                clear c9
                have H' := Aside0.mk H
                clear H
                have p6 : 0 ≤ (x6_1 : Int) := of_decide_eq_true (by first | (with_reducible assumption) | assumption)
                have q6 : x6_1 < (a0.size : Int) := of_decide_eq_true (by first | (with_reducible assumption) | assumption)
                have hx6 := bt_at a0 x6_1
                replace p6 := eq_true p6
                replace q6 := eq_true q6
                have p8 : 0 ≤ (x6_1 : Int) := of_decide_eq_true (by first | (with_reducible assumption) | assumption)
                have q8 : x6_1 < (a0.size : Int) := of_decide_eq_true (by first | (with_reducible assumption) | assumption)
                have hx8 := bt_at a0 x6_1
                replace p8 := eq_true p8
                replace q8 := eq_true q8
                go_wp2
                go_roundg k1
                case measure => have := HK1.out; omega
                case rel => exact ⟨(wrap64 (x6_1 + 1)), (by first | rfl | (simp; done) | (simp [*]; done)), H', ⟨by have := HK1.out; omega⟩, ⟨by repeat (first | (with_reducible first | exact HB.out | apply below_alloc | apply pw_below_drewN | apply below_drew1) | exact HB.out)⟩⟩
              · rw [if_neg c9] at H
                have c9b0 : decide ((bt a0 x6_1) ≤ 57) = false := decide_eq_false c9
                clear c9
                by_cases c10 : 0 ≤ a1
                · rw [if_pos c10] at H
                  have c10b0 := eq_true c10
                  have c10b1 : decide (0 ≤ a1) = true := decide_eq_true c10
                  clear c10
                  by_cases c11 : a1 ≤ x6_1
                  · rw [if_pos c11] at H
                    have c11b0 := eq_true c11
                    have c11b1 : decide (a1 ≤ x6_1) = true := decide_eq_true c11
                    clear c11
                    by_cases c12 : x6_1 ≤ (a0.size : Int)
                    · rw [if_pos c12] at H
                      have c12b0 := eq_true c12
                      have c12b1 : decide (x6_1 ≤ (a0.size : Int)) = true := decide_eq_true c12
                      clear c12
                      replace H := Option.bind_eq_some_iff.mp H
                      obtain ⟨⟨t101, t102⟩, A130, H⟩ := H
                      replace H : (if t102 = true then (if t101 > 999 then (some (0, (-1))) else (some (t101, x6_1))) else (some (0, (-1)))) = some (r1, r2) := H
                      have A13 := Aside0.mk A130
                      clear A130
                      by_cases c14 : t102 = true
                      · subst c14
                        have H1 : (if t101 > 999 then (some (0, (-1))) else (some (t101, x6_1))) = some (r1, r2) := by rw [if_pos rfl] at H; exact H
                        clear H
                        have H := H1
                        clear H1
                        by_cases c15 : t101 > 999
                        · rw [if_pos c15] at H
                          have c15b0 : decide (999 < t101) = true := decide_eq_true c15
                          clear c15
                          simp only [Option.some.injEq, Prod.mk.injEq] at H
                          obtain ⟨rfl, rfl⟩ := H
                          have p6 : 0 ≤ (x6_1 : Int) := of_decide_eq_true (by first | (with_reducible assumption) | assumption)
                          have q6 : x6_1 < (a0.size : Int) := of_decide_eq_true (by first | (with_reducible assumption) | assumption)
                          have hx6 := bt_at a0 x6_1
                          replace p6 := eq_true p6
                          replace q6 := eq_true q6
                          have p8 : 0 ≤ (x6_1 : Int) := of_decide_eq_true (by first | (with_reducible assumption) | assumption)
                          have q8 : x6_1 < (a0.size : Int) := of_decide_eq_true (by first | (with_reducible assumption) | assumption)
                          have hx8 := bt_at a0 x6_1
                          replace p8 := eq_true p8
                          replace q8 := eq_true q8
                          go_wp2_with (first | ((with_reducible refine gate_callee (f := 112) rfl ?_); refine goesL_ (some 39) rfl rfl Tryd.func112 (by kernel_rfl) rfl #[.string (a0.extract (a1 : Int).toNat (x6_1 : Int).toNat)] rfl (by (try simp only [List.map_toArray, List.map_cons, List.map_nil]); first | done | rfl | (simp only [List.length_drop, List.length_take]; rfl)) ?_; (with_reducible refine (spec_ReadDecimal.calls k1 (a0.extract (a1 : Int).toNat (x6_1 : Int).toNat) t101 true _ A13.out).mono ?_); rintro e w16 ⟨rfl, hb⟩; refine ⟨_, rfl, ?_⟩; have n0_ := Aside0.mk (below_step (by repeat (first | (with_reducible first | exact HB.out | apply below_alloc | apply pw_below_drewN | apply below_drew1) | exact HB.out)) hb); clear HB; have HB := n0_; clear n0_; (try clear hb); (try clear hb2); (try clear hk); (try clear hi)))
                          go_ret2
                          exact ⟨by first | rfl | (simp [errW_none, errW_some] <;> rfl) | (simp [*, errW_none, errW_some] <;> rfl), by repeat (first | (with_reducible first | exact HB.out | apply below_alloc | apply pw_below_drewN | apply below_drew1) | exact HB.out)⟩
                        · rw [if_neg c15] at H
                          have c15b0 : decide (999 < t101) = false := decide_eq_false c15
                          clear c15
                          simp only [Option.some.injEq, Prod.mk.injEq] at H
                          obtain ⟨rfl, rfl⟩ := H
                          have p6 : 0 ≤ (x6_1 : Int) := of_decide_eq_true (by first | (with_reducible assumption) | assumption)
                          have q6 : x6_1 < (a0.size : Int) := of_decide_eq_true (by first | (with_reducible assumption) | assumption)
                          have hx6 := bt_at a0 x6_1
                          replace p6 := eq_true p6
                          replace q6 := eq_true q6
                          have p8 : 0 ≤ (x6_1 : Int) := of_decide_eq_true (by first | (with_reducible assumption) | assumption)
                          have q8 : x6_1 < (a0.size : Int) := of_decide_eq_true (by first | (with_reducible assumption) | assumption)
                          have hx8 := bt_at a0 x6_1
                          replace p8 := eq_true p8
                          replace q8 := eq_true q8
                          go_wp2_with (first | ((with_reducible refine gate_callee (f := 112) rfl ?_); refine goesL_ (some 39) rfl rfl Tryd.func112 (by kernel_rfl) rfl #[.string (a0.extract (a1 : Int).toNat (x6_1 : Int).toNat)] rfl (by (try simp only [List.map_toArray, List.map_cons, List.map_nil]); first | done | rfl | (simp only [List.length_drop, List.length_take]; rfl)) ?_; (with_reducible refine (spec_ReadDecimal.calls k1 (a0.extract (a1 : Int).toNat (x6_1 : Int).toNat) t101 true _ A13.out).mono ?_); rintro e w17 ⟨rfl, hb⟩; refine ⟨_, rfl, ?_⟩; have n0_ := Aside0.mk (below_step (by repeat (first | (with_reducible first | exact HB.out | apply below_alloc | apply pw_below_drewN | apply below_drew1) | exact HB.out)) hb); clear HB; have HB := n0_; clear n0_; (try clear hb); (try clear hb2); (try clear hk); (try clear hi)))
                          go_ret2
                          exact ⟨by first | rfl | (simp [errW_none, errW_some] <;> rfl) | (simp [*, errW_none, errW_some] <;> rfl), by repeat (first | (with_reducible first | exact HB.out | apply below_alloc | apply pw_below_drewN | apply below_drew1) | exact HB.out)⟩
                      · replace c14 := Bool.eq_false_iff.mpr c14
                        subst c14
                        have H1 : (some (0, (-1))) = some (r1, r2) := by rw [if_neg (show ¬ (false = true) by decide)] at H; exact H
                        clear H
                        have H := H1
                        clear H1
                        simp only [Option.some.injEq, Prod.mk.injEq] at H
                        obtain ⟨rfl, rfl⟩ := H
                        have p6 : 0 ≤ (x6_1 : Int) := of_decide_eq_true (by first | (with_reducible assumption) | assumption)
                        have q6 : x6_1 < (a0.size : Int) := of_decide_eq_true (by first | (with_reducible assumption) | assumption)
                        have hx6 := bt_at a0 x6_1
                        replace p6 := eq_true p6
                        replace q6 := eq_true q6
                        have p8 : 0 ≤ (x6_1 : Int) := of_decide_eq_true (by first | (with_reducible assumption) | assumption)
                        have q8 : x6_1 < (a0.size : Int) := of_decide_eq_true (by first | (with_reducible assumption) | assumption)
                        have hx8 := bt_at a0 x6_1
                        replace p8 := eq_true p8
                        replace q8 := eq_true q8
                        go_wp2_with (first | ((with_reducible refine gate_callee (f := 112) rfl ?_); refine goesL_ (some 39) rfl rfl Tryd.func112 (by kernel_rfl) rfl #[.string (a0.extract (a1 : Int).toNat (x6_1 : Int).toNat)] rfl (by (try simp only [List.map_toArray, List.map_cons, List.map_nil]); first | done | rfl | (simp only [List.length_drop, List.length_take]; rfl)) ?_; (with_reducible refine (spec_ReadDecimal.calls k1 (a0.extract (a1 : Int).toNat (x6_1 : Int).toNat) t101 false _ A13.out).mono ?_); rintro e w18 ⟨rfl, hb⟩; refine ⟨_, rfl, ?_⟩; have n0_ := Aside0.mk (below_step (by repeat (first | (with_reducible first | exact HB.out | apply below_alloc | apply pw_below_drewN | apply below_drew1) | exact HB.out)) hb); clear HB; have HB := n0_; clear n0_; (try clear hb); (try clear hb2); (try clear hk); (try clear hi)))
                        go_ret2
                        exact ⟨by first | rfl | (simp [errW_none, errW_some] <;> rfl) | (simp [*, errW_none, errW_some] <;> rfl), by repeat (first | (with_reducible first | exact HB.out | apply below_alloc | apply pw_below_drewN | apply below_drew1) | exact HB.out)⟩
                    · rw [if_neg c12] at H
                      exact absurd H (by simp)
                  · rw [if_neg c11] at H
                    exact absurd H (by simp)
                · rw [if_neg c10] at H
                  exact absurd H (by simp)
            · rw [if_neg c7] at H
              have c7b0 : decide (48 ≤ (bt a0 x6_1)) = false := decide_eq_false c7
              clear c7
              by_cases c19 : 0 ≤ a1
              · rw [if_pos c19] at H
                have c19b0 := eq_true c19
                have c19b1 : decide (0 ≤ a1) = true := decide_eq_true c19
                clear c19
                by_cases c20 : a1 ≤ x6_1
                · rw [if_pos c20] at H
                  have c20b0 := eq_true c20
                  have c20b1 : decide (a1 ≤ x6_1) = true := decide_eq_true c20
                  clear c20
                  by_cases c21 : x6_1 ≤ (a0.size : Int)
                  · rw [if_pos c21] at H
                    have c21b0 := eq_true c21
                    have c21b1 : decide (x6_1 ≤ (a0.size : Int)) = true := decide_eq_true c21
                    clear c21
                    replace H := Option.bind_eq_some_iff.mp H
                    obtain ⟨⟨t103, t104⟩, A220, H⟩ := H
                    replace H : (if t104 = true then (if t103 > 999 then (some (0, (-1))) else (some (t103, x6_1))) else (some (0, (-1)))) = some (r1, r2) := H
                    have A22 := Aside0.mk A220
                    clear A220
                    by_cases c23 : t104 = true
                    · subst c23
                      have H1 : (if t103 > 999 then (some (0, (-1))) else (some (t103, x6_1))) = some (r1, r2) := by rw [if_pos rfl] at H; exact H
                      clear H
                      have H := H1
                      clear H1
                      by_cases c24 : t103 > 999
                      · rw [if_pos c24] at H
                        have c24b0 : decide (999 < t103) = true := decide_eq_true c24
                        clear c24
                        simp only [Option.some.injEq, Prod.mk.injEq] at H
                        obtain ⟨rfl, rfl⟩ := H
                        have p6 : 0 ≤ (x6_1 : Int) := of_decide_eq_true (by first | (with_reducible assumption) | assumption)
                        have q6 : x6_1 < (a0.size : Int) := of_decide_eq_true (by first | (with_reducible assumption) | assumption)
                        have hx6 := bt_at a0 x6_1
                        replace p6 := eq_true p6
                        replace q6 := eq_true q6
                        go_wp2_with (first | ((with_reducible refine gate_callee (f := 112) rfl ?_); refine goesL_ (some 39) rfl rfl Tryd.func112 (by kernel_rfl) rfl #[.string (a0.extract (a1 : Int).toNat (x6_1 : Int).toNat)] rfl (by (try simp only [List.map_toArray, List.map_cons, List.map_nil]); first | done | rfl | (simp only [List.length_drop, List.length_take]; rfl)) ?_; (with_reducible refine (spec_ReadDecimal.calls k1 (a0.extract (a1 : Int).toNat (x6_1 : Int).toNat) t103 true _ A22.out).mono ?_); rintro e w25 ⟨rfl, hb⟩; refine ⟨_, rfl, ?_⟩; have n0_ := Aside0.mk (below_step (by repeat (first | (with_reducible first | exact HB.out | apply below_alloc | apply pw_below_drewN | apply below_drew1) | exact HB.out)) hb); clear HB; have HB := n0_; clear n0_; (try clear hb); (try clear hb2); (try clear hk); (try clear hi)))
                        go_ret2
                        exact ⟨by first | rfl | (simp [errW_none, errW_some] <;> rfl) | (simp [*, errW_none, errW_some] <;> rfl), by repeat (first | (with_reducible first | exact HB.out | apply below_alloc | apply pw_below_drewN | apply below_drew1) | exact HB.out)⟩
                      · rw [if_neg c24] at H
                        have c24b0 : decide (999 < t103) = false := decide_eq_false c24
                        clear c24
                        simp only [Option.some.injEq, Prod.mk.injEq] at H
                        obtain ⟨rfl, rfl⟩ := H
                        have p6 : 0 ≤ (x6_1 : Int) := of_decide_eq_true (by first | (with_reducible assumption) | assumption)
                        have q6 : x6_1 < (a0.size : Int) := of_decide_eq_true (by first | (with_reducible assumption) | assumption)
                        have hx6 := bt_at a0 x6_1
                        replace p6 := eq_true p6
                        replace q6 := eq_true q6
                        go_wp2_with (first | ((with_reducible refine gate_callee (f := 112) rfl ?_); refine goesL_ (some 39) rfl rfl Tryd.func112 (by kernel_rfl) rfl #[.string (a0.extract (a1 : Int).toNat (x6_1 : Int).toNat)] rfl (by (try simp only [List.map_toArray, List.map_cons, List.map_nil]); first | done | rfl | (simp only [List.length_drop, List.length_take]; rfl)) ?_; (with_reducible refine (spec_ReadDecimal.calls k1 (a0.extract (a1 : Int).toNat (x6_1 : Int).toNat) t103 true _ A22.out).mono ?_); rintro e w26 ⟨rfl, hb⟩; refine ⟨_, rfl, ?_⟩; have n0_ := Aside0.mk (below_step (by repeat (first | (with_reducible first | exact HB.out | apply below_alloc | apply pw_below_drewN | apply below_drew1) | exact HB.out)) hb); clear HB; have HB := n0_; clear n0_; (try clear hb); (try clear hb2); (try clear hk); (try clear hi)))
                        go_ret2
                        exact ⟨by first | rfl | (simp [errW_none, errW_some] <;> rfl) | (simp [*, errW_none, errW_some] <;> rfl), by repeat (first | (with_reducible first | exact HB.out | apply below_alloc | apply pw_below_drewN | apply below_drew1) | exact HB.out)⟩
                    · replace c23 := Bool.eq_false_iff.mpr c23
                      subst c23
                      have H1 : (some (0, (-1))) = some (r1, r2) := by rw [if_neg (show ¬ (false = true) by decide)] at H; exact H
                      clear H
                      have H := H1
                      clear H1
                      simp only [Option.some.injEq, Prod.mk.injEq] at H
                      obtain ⟨rfl, rfl⟩ := H
                      have p6 : 0 ≤ (x6_1 : Int) := of_decide_eq_true (by first | (with_reducible assumption) | assumption)
                      have q6 : x6_1 < (a0.size : Int) := of_decide_eq_true (by first | (with_reducible assumption) | assumption)
                      have hx6 := bt_at a0 x6_1
                      replace p6 := eq_true p6
                      replace q6 := eq_true q6
                      go_wp2_with (first | ((with_reducible refine gate_callee (f := 112) rfl ?_); refine goesL_ (some 39) rfl rfl Tryd.func112 (by kernel_rfl) rfl #[.string (a0.extract (a1 : Int).toNat (x6_1 : Int).toNat)] rfl (by (try simp only [List.map_toArray, List.map_cons, List.map_nil]); first | done | rfl | (simp only [List.length_drop, List.length_take]; rfl)) ?_; (with_reducible refine (spec_ReadDecimal.calls k1 (a0.extract (a1 : Int).toNat (x6_1 : Int).toNat) t103 false _ A22.out).mono ?_); rintro e w27 ⟨rfl, hb⟩; refine ⟨_, rfl, ?_⟩; have n0_ := Aside0.mk (below_step (by repeat (first | (with_reducible first | exact HB.out | apply below_alloc | apply pw_below_drewN | apply below_drew1) | exact HB.out)) hb); clear HB; have HB := n0_; clear n0_; (try clear hb); (try clear hb2); (try clear hk); (try clear hi)))
                      go_ret2
                      exact ⟨by first | rfl | (simp [errW_none, errW_some] <;> rfl) | (simp [*, errW_none, errW_some] <;> rfl), by repeat (first | (with_reducible first | exact HB.out | apply below_alloc | apply pw_below_drewN | apply below_drew1) | exact HB.out)⟩
                  · rw [if_neg c21] at H
                    exact absurd H (by simp)
                · rw [if_neg c20] at H
                  exact absurd H (by simp)
              · rw [if_neg c19] at H
                exact absurd H (by simp)
          · rw [if_neg c5] at H
            exact absurd H (by simp)
        · rw [if_neg c4] at H
          have c4b0 : decide (x6_1 < (wrap64 (a1 + 4))) = false := decide_eq_false c4
          clear c4
          by_cases c28 : 0 ≤ a1
          · rw [if_pos c28] at H
            have c28b0 := eq_true c28
            have c28b1 : decide (0 ≤ a1) = true := decide_eq_true c28
            clear c28
            by_cases c29 : a1 ≤ x6_1
            · rw [if_pos c29] at H
              have c29b0 := eq_true c29
              have c29b1 : decide (a1 ≤ x6_1) = true := decide_eq_true c29
              clear c29
              by_cases c30 : x6_1 ≤ (a0.size : Int)
              · rw [if_pos c30] at H
                have c30b0 := eq_true c30
                have c30b1 : decide (x6_1 ≤ (a0.size : Int)) = true := decide_eq_true c30
                clear c30
                replace H := Option.bind_eq_some_iff.mp H
                obtain ⟨⟨t105, t106⟩, A310, H⟩ := H
                replace H : (if t106 = true then (if t105 > 999 then (some (0, (-1))) else (some (t105, x6_1))) else (some (0, (-1)))) = some (r1, r2) := H
                have A31 := Aside0.mk A310
                clear A310
                by_cases c32 : t106 = true
                · subst c32
                  have H1 : (if t105 > 999 then (some (0, (-1))) else (some (t105, x6_1))) = some (r1, r2) := by rw [if_pos rfl] at H; exact H
                  clear H
                  have H := H1
                  clear H1
                  by_cases c33 : t105 > 999
                  · rw [if_pos c33] at H
                    have c33b0 : decide (999 < t105) = true := decide_eq_true c33
                    clear c33
                    simp only [Option.some.injEq, Prod.mk.injEq] at H
                    obtain ⟨rfl, rfl⟩ := H
                    go_wp2_with (first | ((with_reducible refine gate_callee (f := 112) rfl ?_); refine goesL_ (some 39) rfl rfl Tryd.func112 (by kernel_rfl) rfl #[.string (a0.extract (a1 : Int).toNat (x6_1 : Int).toNat)] rfl (by (try simp only [List.map_toArray, List.map_cons, List.map_nil]); first | done | rfl | (simp only [List.length_drop, List.length_take]; rfl)) ?_; (with_reducible refine (spec_ReadDecimal.calls k1 (a0.extract (a1 : Int).toNat (x6_1 : Int).toNat) t105 true _ A31.out).mono ?_); rintro e w34 ⟨rfl, hb⟩; refine ⟨_, rfl, ?_⟩; have n0_ := Aside0.mk (below_step (by repeat (first | (with_reducible first | exact HB.out | apply below_alloc | apply pw_below_drewN | apply below_drew1) | exact HB.out)) hb); clear HB; have HB := n0_; clear n0_; (try clear hb); (try clear hb2); (try clear hk); (try clear hi)))
                    go_ret2
                    exact ⟨by first | rfl | (simp [errW_none, errW_some] <;> rfl) | (simp [*, errW_none, errW_some] <;> rfl), by repeat (first | (with_reducible first | exact HB.out | apply below_alloc | apply pw_below_drewN | apply below_drew1) | exact HB.out)⟩
                  · rw [if_neg c33] at H
                    have c33b0 : decide (999 < t105) = false := decide_eq_false c33
                    clear c33
                    simp only [Option.some.injEq, Prod.mk.injEq] at H
                    obtain ⟨rfl, rfl⟩ := H
                    go_wp2_with (first | ((with_reducible refine gate_callee (f := 112) rfl ?_); refine goesL_ (some 39) rfl rfl Tryd.func112 (by kernel_rfl) rfl #[.string (a0.extract (a1 : Int).toNat (x6_1 : Int).toNat)] rfl (by (try simp only [List.map_toArray, List.map_cons, List.map_nil]); first | done | rfl | (simp only [List.length_drop, List.length_take]; rfl)) ?_; (with_reducible refine (spec_ReadDecimal.calls k1 (a0.extract (a1 : Int).toNat (x6_1 : Int).toNat) t105 true _ A31.out).mono ?_); rintro e w35 ⟨rfl, hb⟩; refine ⟨_, rfl, ?_⟩; have n0_ := Aside0.mk (below_step (by repeat (first | (with_reducible first | exact HB.out | apply below_alloc | apply pw_below_drewN | apply below_drew1) | exact HB.out)) hb); clear HB; have HB := n0_; clear n0_; (try clear hb); (try clear hb2); (try clear hk); (try clear hi)))
                    go_ret2
                    exact ⟨by first | rfl | (simp [errW_none, errW_some] <;> rfl) | (simp [*, errW_none, errW_some] <;> rfl), by repeat (first | (with_reducible first | exact HB.out | apply below_alloc | apply pw_below_drewN | apply below_drew1) | exact HB.out)⟩
                · replace c32 := Bool.eq_false_iff.mpr c32
                  subst c32
                  have H1 : (some (0, (-1))) = some (r1, r2) := by rw [if_neg (show ¬ (false = true) by decide)] at H; exact H
                  clear H
                  have H := H1
                  clear H1
                  simp only [Option.some.injEq, Prod.mk.injEq] at H
                  obtain ⟨rfl, rfl⟩ := H
                  go_wp2_with (first | ((with_reducible refine gate_callee (f := 112) rfl ?_); refine goesL_ (some 39) rfl rfl Tryd.func112 (by kernel_rfl) rfl #[.string (a0.extract (a1 : Int).toNat (x6_1 : Int).toNat)] rfl (by (try simp only [List.map_toArray, List.map_cons, List.map_nil]); first | done | rfl | (simp only [List.length_drop, List.length_take]; rfl)) ?_; (with_reducible refine (spec_ReadDecimal.calls k1 (a0.extract (a1 : Int).toNat (x6_1 : Int).toNat) t105 false _ A31.out).mono ?_); rintro e w36 ⟨rfl, hb⟩; refine ⟨_, rfl, ?_⟩; have n0_ := Aside0.mk (below_step (by repeat (first | (with_reducible first | exact HB.out | apply below_alloc | apply pw_below_drewN | apply below_drew1) | exact HB.out)) hb); clear HB; have HB := n0_; clear n0_; (try clear hb); (try clear hb2); (try clear hk); (try clear hi)))
                  go_ret2
                  exact ⟨by first | rfl | (simp [errW_none, errW_some] <;> rfl) | (simp [*, errW_none, errW_some] <;> rfl), by repeat (first | (with_reducible first | exact HB.out | apply below_alloc | apply pw_below_drewN | apply below_drew1) | exact HB.out)⟩
              · rw [if_neg c30] at H
                exact absurd H (by simp)
            · rw [if_neg c29] at H
              exact absurd H (by simp)
          · rw [if_neg c28] at H
            exact absurd H (by simp)
      · rw [if_neg c3] at H
        have c3b0 : decide (x6_1 < (a0.size : Int)) = false := decide_eq_false c3
        clear c3
        by_cases c37 : 0 ≤ a1
        · rw [if_pos c37] at H
          have c37b0 := eq_true c37
          have c37b1 : decide (0 ≤ a1) = true := decide_eq_true c37
          clear c37
          by_cases c38 : a1 ≤ x6_1
          · rw [if_pos c38] at H
            have c38b0 := eq_true c38
            have c38b1 : decide (a1 ≤ x6_1) = true := decide_eq_true c38
            clear c38
            by_cases c39 : x6_1 ≤ (a0.size : Int)
            · rw [if_pos c39] at H
              have c39b0 := eq_true c39
              have c39b1 : decide (x6_1 ≤ (a0.size : Int)) = true := decide_eq_true c39
              clear c39
              replace H := Option.bind_eq_some_iff.mp H
              obtain ⟨⟨t107, t108⟩, A400, H⟩ := H
              replace H : (if t108 = true then (if t107 > 999 then (some (0, (-1))) else (some (t107, x6_1))) else (some (0, (-1)))) = some (r1, r2) := H
              have A40 := Aside0.mk A400
              clear A400
              by_cases c41 : t108 = true
              · subst c41
                have H1 : (if t107 > 999 then (some (0, (-1))) else (some (t107, x6_1))) = some (r1, r2) := by rw [if_pos rfl] at H; exact H
                clear H
                have H := H1
                clear H1
                by_cases c42 : t107 > 999
                · rw [if_pos c42] at H
                  have c42b0 : decide (999 < t107) = true := decide_eq_true c42
                  clear c42
                  simp only [Option.some.injEq, Prod.mk.injEq] at H
                  obtain ⟨rfl, rfl⟩ := H
                  go_wp2_with (first | ((with_reducible refine gate_callee (f := 112) rfl ?_); refine goesL_ (some 39) rfl rfl Tryd.func112 (by kernel_rfl) rfl #[.string (a0.extract (a1 : Int).toNat (x6_1 : Int).toNat)] rfl (by (try simp only [List.map_toArray, List.map_cons, List.map_nil]); first | done | rfl | (simp only [List.length_drop, List.length_take]; rfl)) ?_; (with_reducible refine (spec_ReadDecimal.calls k1 (a0.extract (a1 : Int).toNat (x6_1 : Int).toNat) t107 true _ A40.out).mono ?_); rintro e w43 ⟨rfl, hb⟩; refine ⟨_, rfl, ?_⟩; have n0_ := Aside0.mk (below_step (by repeat (first | (with_reducible first | exact HB.out | apply below_alloc | apply pw_below_drewN | apply below_drew1) | exact HB.out)) hb); clear HB; have HB := n0_; clear n0_; (try clear hb); (try clear hb2); (try clear hk); (try clear hi)))
                  go_ret2
                  exact ⟨by first | rfl | (simp [errW_none, errW_some] <;> rfl) | (simp [*, errW_none, errW_some] <;> rfl), by repeat (first | (with_reducible first | exact HB.out | apply below_alloc | apply pw_below_drewN | apply below_drew1) | exact HB.out)⟩
                · rw [if_neg c42] at H
                  have c42b0 : decide (999 < t107) = false := decide_eq_false c42
                  clear c42
                  simp only [Option.some.injEq, Prod.mk.injEq] at H
                  obtain ⟨rfl, rfl⟩ := H
                  go_wp2_with (first | ((with_reducible refine gate_callee (f := 112) rfl ?_); refine goesL_ (some 39) rfl rfl Tryd.func112 (by kernel_rfl) rfl #[.string (a0.extract (a1 : Int).toNat (x6_1 : Int).toNat)] rfl (by (try simp only [List.map_toArray, List.map_cons, List.map_nil]); first | done | rfl | (simp only [List.length_drop, List.length_take]; rfl)) ?_; (with_reducible refine (spec_ReadDecimal.calls k1 (a0.extract (a1 : Int).toNat (x6_1 : Int).toNat) t107 true _ A40.out).mono ?_); rintro e w44 ⟨rfl, hb⟩; refine ⟨_, rfl, ?_⟩; have n0_ := Aside0.mk (below_step (by repeat (first | (with_reducible first | exact HB.out | apply below_alloc | apply pw_below_drewN | apply below_drew1) | exact HB.out)) hb); clear HB; have HB := n0_; clear n0_; (try clear hb); (try clear hb2); (try clear hk); (try clear hi)))
                  go_ret2
                  exact ⟨by first | rfl | (simp [errW_none, errW_some] <;> rfl) | (simp [*, errW_none, errW_some] <;> rfl), by repeat (first | (with_reducible first | exact HB.out | apply below_alloc | apply pw_below_drewN | apply below_drew1) | exact HB.out)⟩
              · replace c41 := Bool.eq_false_iff.mpr c41
                subst c41
                have H1 : (some (0, (-1))) = some (r1, r2) := by rw [if_neg (show ¬ (false = true) by decide)] at H; exact H
                clear H
                have H := H1
                clear H1
                simp only [Option.some.injEq, Prod.mk.injEq] at H
                obtain ⟨rfl, rfl⟩ := H
                go_wp2_with (first | ((with_reducible refine gate_callee (f := 112) rfl ?_); refine goesL_ (some 39) rfl rfl Tryd.func112 (by kernel_rfl) rfl #[.string (a0.extract (a1 : Int).toNat (x6_1 : Int).toNat)] rfl (by (try simp only [List.map_toArray, List.map_cons, List.map_nil]); first | done | rfl | (simp only [List.length_drop, List.length_take]; rfl)) ?_; (with_reducible refine (spec_ReadDecimal.calls k1 (a0.extract (a1 : Int).toNat (x6_1 : Int).toNat) t107 false _ A40.out).mono ?_); rintro e w45 ⟨rfl, hb⟩; refine ⟨_, rfl, ?_⟩; have n0_ := Aside0.mk (below_step (by repeat (first | (with_reducible first | exact HB.out | apply below_alloc | apply pw_below_drewN | apply below_drew1) | exact HB.out)) hb); clear HB; have HB := n0_; clear n0_; (try clear hb); (try clear hb2); (try clear hk); (try clear hi)))
                go_ret2
                exact ⟨by first | rfl | (simp [errW_none, errW_some] <;> rfl) | (simp [*, errW_none, errW_some] <;> rfl), by repeat (first | (with_reducible first | exact HB.out | apply below_alloc | apply pw_below_drewN | apply below_drew1) | exact HB.out)⟩
            · rw [if_neg c39] at H
              exact absurd H (by simp)
          · rw [if_neg c38] at H
            exact absurd H (by simp)
        · rw [if_neg c37] at H
          exact absurd H (by simp)

end Go.Proofs.YtefiapcfdabfpaaDoor.P

namespace Go.Proofs.YtefiapcfdabfpaaDoor.P
open Go.RowKit Go.Proofs.YtefiapcfdabfpaaDoorW.PrintWords Go.Proofs.YtefiapcfdabfpaaDoorW.PrintLast Go.Proofs.YtefiapcfdabfpaaDoorW.PrintMore
attribute [local go_sem] max2_int min2_int max_two min_two max_three min_three max_four min_four
set_option linter.unusedVariables false
set_option linter.unusedSimpArgs false

/-! ### spec_l02Cut: function 113 -/
def spec_l02Cut.l0 : Nat → ByteArray → Int → List ByteArray → Int → Int → Option (List ByteArray)
  | 0, _, _, _, _, _ => none
  | k + 1, x0, x1, x5, x6, x7 => if x7 ≤ (x0.size : Int) then (if x7 = (x0.size : Int) then (if 0 ≤ x6 then (if x6 ≤ x7 then (if x5.length < 8796093022208 then (spec_l02Cut.l0 k x0 x1 (x5 ++ [x0.extract (x6 : Int).toNat (x7 : Int).toNat]) (wrap64 (x7 + 1)) (wrap64 (x7 + 1))) else (none)) else (none)) else (none)) else (if 0 ≤ x7 then (if x7 < (x0.size : Int) then (if (bt x0 x7) = x1 then (if 0 ≤ x6 then (if x6 ≤ x7 then (if x5.length < 8796093022208 then (spec_l02Cut.l0 k x0 x1 (x5 ++ [x0.extract (x6 : Int).toNat (x7 : Int).toNat]) (wrap64 (x7 + 1)) (wrap64 (x7 + 1))) else (none)) else (none)) else (none)) else (spec_l02Cut.l0 k x0 x1 x5 x6 (wrap64 (x7 + 1)))) else (none)) else (none))) else (some x5)
def spec_l02Cut.f (k : Nat) (a0 : ByteArray) (a1 : Int) : Option (List ByteArray) := spec_l02Cut.l0 k a0 a1 (([] : List ByteArray)) 0 0
theorem spec_l02Cut.mono_l : ∀ k, (∀ y0 y1 y2 y3 y4, LeO (spec_l02Cut.l0 k y0 y1 y2 y3 y4) (spec_l02Cut.l0 (k + 1) y0 y1 y2 y3 y4))
  | 0 => fun _ _ _ _ _ r h => by simp [spec_l02Cut.l0] at h
  | k + 1 => by
    have ih0 := spec_l02Cut.mono_l k
    · intro y0 y1 y2 y3 y4
      unfold spec_l02Cut.l0
      repeat' first
      | (with_reducible exact ih0 _ _ _ _ _)
      | (with_reducible exact LeO.refl _)
      | (with_reducible exact LeO.none _)
      | (with_reducible refine LeO.ite ?_ ?_)
      | (with_reducible refine LeO.bind ?_ (fun _ => ?_))
      | exact ih0 _ _ _ _ _
      | exact LeO.none _
      | refine LeO.ite ?_ ?_
      | refine LeO.bind ?_ (fun _ => ?_)
theorem spec_l02Cut.mono : ∀ a0 a1 k, LeO (spec_l02Cut.f k a0 a1) (spec_l02Cut.f (k + 1) a0 a1) := by
  intro a0 a1 k
  have ih0 := spec_l02Cut.mono_l k
  unfold spec_l02Cut.f
  repeat' first
      | (with_reducible exact ih0 _ _ _ _ _)
      | (with_reducible exact LeO.refl _)
      | (with_reducible exact LeO.none _)
      | (with_reducible refine LeO.ite ?_ ?_)
      | (with_reducible refine LeO.bind ?_ (fun _ => ?_))
      | exact ih0 _ _ _ _ _
      | exact LeO.none _
      | refine LeO.ite ?_ ?_
      | refine LeO.bind ?_ (fun _ => ?_)
set_option maxHeartbeats 8000000 in
set_option maxRecDepth 100000 in
theorem spec_l02Cut.calls (k : Nat) (a0 : ByteArray) (a1 : Int) (r : List ByteArray) (w : World) (h : spec_l02Cut.f k a0 a1 = some r) :
    Calls Tryd.prog 113 #[.string a0, .int .u8 a1] w fun e w' => ∃ v0_ : Value, e = .returned (v0_) ∧ Kd.R Kd.string 9 w' w.heap.size (fun _ => True) v0_ r ∧ Below w.heap.size w w' := by
  have HB := Aside0.mk (Below.refl w.heap.size w)
  have H : (spec_l02Cut.l0 k a0 a1 (([] : List ByteArray)) 0 0) = some r := h
  clear h
  obtain ⟨y101, hy101⟩ : ∃ y_ : List ByteArray, y_ = (([] : List ByteArray)) := ⟨_, rfl⟩
  replace H : (spec_l02Cut.l0 k a0 a1 y101 0 0) = some r := by first | (rw [hy101]; with_reducible exact H) | (have H2_ := (Option.bind_some _ _).symm.trans H; rw [hy101]; with_reducible exact H2_) | (have H2_ := (Option.bind_some _ _).symm.trans H; with_reducible exact H2_) | with_reducible exact H | (rw [hy101]; exact H) | exact H
  have Ny101 := Aside0.mk hy101
  clear hy101
  have H' := Aside0.mk H
  clear H
  go_enter Tryd.func113, Tryd.ntmps113
  go_wp2_with (first | ((with_reducible refine gate_dst (N := 8) rfl ?_); refine Kd.R_lit Kd.string _ 9 ?hg (N := 8) ?hd (xs := ([] : List ByteArray)) (inner := []) (ok := fun _ => True) (okp := fun _ => True) ?hr ?hp (fun _ hk => hk) trivial (Below.refl _ _) (Nat.le_refl _) (by simp) ?_; (case hd => rfl); (case hg => rfl); (case hr => first | (go_simp; done) | (go_simp; rfl)); (case hp => exact (Reps.none _ _)); intro v102 w3 ho4 hb hg_ hnew_; clear hg_ hnew_; (first | rw [← Ny101.out] at ho4 | (simp only [Int.reduceToNat] at ho4; rw [← Ny101.out] at ho4)); have n0_ := Aside0.mk (Kd.R_lower ho4 (below_size (by repeat (first | (with_reducible first | exact HB.out | apply below_alloc | apply pw_below_drewN | apply below_drew1) | exact HB.out)))); have n1_ := Aside0.mk (below_step (by repeat (first | (with_reducible first | exact HB.out | apply below_alloc | apply pw_below_drewN | apply below_drew1) | exact HB.out)) hb); clear HB; have HO103 := n0_; have HB := n1_; clear n0_ n1_; clear hb ho4))
  go_loopg [5, 6, 7] k (fun kq v5 v6 v7 w' => ∃ (x5_1 : List ByteArray) (x6_1 : Int) (x7_1 : Int), v6 = .int .i64 x6_1 ∧ v7 = .int .i64 x7_1 ∧ Aside0 (spec_l02Cut.l0 kq a0 a1 x5_1 x6_1 x7_1 = some r) ∧ Aside0 (kq ≤ k) ∧ Aside0 (Kd.R Kd.string 9 w' w.heap.size (fun _ => True) v5 x5_1) ∧ Aside0 (Below w.heap.size w w'))
  case atStart => exact ⟨(y101), (0), (0), (by first | rfl | (simp; done) | (simp [*]; done)), (by first | rfl | (simp; done) | (simp [*]; done)), H', ⟨Nat.le_refl _⟩, ⟨by (with_reducible repeat (first | apply Kd.R_alloc | apply Kd.R_drewN | apply Kd.R_drew)); exact HO103.out⟩, ⟨by repeat (first | (with_reducible first | exact HB.out | apply below_alloc | apply pw_below_drewN | apply below_drew1) | exact HB.out)⟩⟩
  case round =>
    clear H'
    try clear c1
    try clear p2
    obtain ⟨x5_1, x6_1, x7_1, rfl, rfl, HA, HK1, HO_5, HB⟩ := hrel
    cases gk with
    | zero => exact absurd HA.out (by simp [spec_l02Cut.l0])
    | succ k1 =>
      have H := HA.out
      clear HA
      simp only [spec_l02Cut.l0] at H
      by_cases c5 : x7_1 ≤ (a0.size : Int)
      · rw [if_pos c5] at H
        have c5b0 : decide (x7_1 ≤ (a0.size : Int)) = true := decide_eq_true c5
        clear c5
        by_cases c6 : x7_1 = (a0.size : Int)
        · rw [if_pos c6] at H
          have c6b0 : (x7_1 == (a0.size : Int)) = true := beq_iff_eq.mpr c6
          have c6b1 : (x7_1 != (a0.size : Int)) = false := bne_eq_false_iff_eq.mpr c6
          clear c6
          by_cases c7 : 0 ≤ x6_1
          · rw [if_pos c7] at H
            have c7b0 := eq_true c7
            have c7b1 : decide (0 ≤ x6_1) = true := decide_eq_true c7
            clear c7
            by_cases c8 : x6_1 ≤ x7_1
            · rw [if_pos c8] at H
              have c8b0 := eq_true c8
              have c8b1 : decide (x6_1 ≤ x7_1) = true := decide_eq_true c8
              clear c8
              have c9b0 := eq_true (of_decide_eq_true (by first | (with_reducible assumption) | assumption) : x7_1 ≤ (a0.size : Int))
              by_cases c10 : x5_1.length < 8796093022208
              · rw [if_pos c10] at H
                have LMc10 := Aside0.mk c10
                clear c10
                obtain ⟨y104, hy104⟩ : ∃ y_ : List ByteArray, y_ = (x5_1 ++ [a0.extract (x6_1 : Int).toNat (x7_1 : Int).toNat]) := ⟨_, rfl⟩
                replace H : (spec_l02Cut.l0 k1 a0 a1 y104 (wrap64 (x7_1 + 1)) (wrap64 (x7_1 + 1))) = some r := by first | (rw [hy104]; with_reducible exact H) | (have H2_ := (Option.bind_some _ _).symm.trans H; rw [hy104]; with_reducible exact H2_) | (have H2_ := (Option.bind_some _ _).symm.trans H; with_reducible exact H2_) | with_reducible exact H | (rw [hy104]; exact H) | exact H
                have Ny104 := Aside0.mk hy104
                clear hy104
                have H' := Aside0.mk H
                clear H
                go_wp2_with (first | ((with_reducible refine gate_builtin (b := .append) (xs := #[.tmp 26, .tmp 31]) rfl ?_); at_builtin; refine Kd.R_append Kd.string (w0 := w) w.heap.size rfl (.tmp 26) (.tmp 31) 25 9 (.string ⟨#[]⟩) 16 rfl Tryd.underlying25 info9 rfl (by decide) (by omega) u5 x5_1 (a0.extract (x6_1 : Int).toNat (x7_1 : Int).toNat) [.string (a0.extract (x6_1 : Int).toNat (x7_1 : Int).toNat)] (fun _ => True) (fun _ => False) rfl rfl ?aP (fun _ hk => hk.elim) ?aF ?aO ?aB ?aS ?aL ?_; (case aP => exact rfl); (case aB => exact (by repeat (first | (with_reducible first | exact HB.out | apply below_alloc | apply pw_below_drewN | apply below_drew1) | exact HB.out))); (case aF => exact (fun _ _ => trivial)); (case aO => exact (by (with_reducible repeat (first | apply Kd.R_alloc | apply Kd.R_drewN | apply Kd.R_drew)); exact HO_5.out)); (case aS => exact (below_size (by repeat (first | (with_reducible first | exact HB.out | apply below_alloc | apply pw_below_drewN | apply below_drew1) | exact HB.out)))); (case aL => have := LMc10.out; omega); intro v105 w11 ho hb hg hat; rw [← Ny104.out] at ho; have n0_ := Aside0.mk (hb); have n1_ := Aside0.mk (ho); clear HB; clear HO_5; have HB := n0_; have HO106 := n1_; clear n0_ n1_; clear ho hb hg hat))
                go_roundg k1
                case measure => have := HK1.out; omega
                case rel => exact ⟨(y104), (wrap64 (x7_1 + 1)), (wrap64 (x7_1 + 1)), (by first | rfl | (simp; done) | (simp [*]; done)), (by first | rfl | (simp; done) | (simp [*]; done)), H', ⟨by have := HK1.out; omega⟩, ⟨by (with_reducible repeat (first | apply Kd.R_alloc | apply Kd.R_drewN | apply Kd.R_drew)); exact HO106.out⟩, ⟨by repeat (first | (with_reducible first | exact HB.out | apply below_alloc | apply pw_below_drewN | apply below_drew1) | exact HB.out)⟩⟩
              · rw [if_neg c10] at H
                exact absurd H (by simp)
            · rw [if_neg c8] at H
              exact absurd H (by simp)
          · rw [if_neg c7] at H
            exact absurd H (by simp)
        · rw [if_neg c6] at H
          have c6b0 : (x7_1 == (a0.size : Int)) = false := beq_eq_false_iff_ne.mpr c6
          have c6b1 : (x7_1 != (a0.size : Int)) = true := bne_iff_ne.mpr c6
          by_cases c12 : 0 ≤ x7_1
          · rw [if_pos c12] at H
            have c12b0 : decide (0 ≤ x7_1) = true := decide_eq_true c12
            clear c12
            by_cases c13 : x7_1 < (a0.size : Int)
            · rw [if_pos c13] at H
              have c13b0 : decide (x7_1 < (a0.size : Int)) = true := decide_eq_true c13
              clear c13
              by_cases c15 : (bt a0 x7_1) = a1
              · rw [if_pos c15] at H
                have c15b0 : ((bt a0 x7_1) == a1) = true := beq_iff_eq.mpr c15
                have c15b1 : ((bt a0 x7_1) != a1) = false := bne_eq_false_iff_eq.mpr c15
                clear c15
                by_cases c16 : 0 ≤ x6_1
                · rw [if_pos c16] at H
                  have c16b0 := eq_true c16
                  have c16b1 : decide (0 ≤ x6_1) = true := decide_eq_true c16
                  clear c16
                  by_cases c17 : x6_1 ≤ x7_1
                  · rw [if_pos c17] at H
                    have c17b0 := eq_true c17
                    have c17b1 : decide (x6_1 ≤ x7_1) = true := decide_eq_true c17
                    clear c17
                    have c18b0 := eq_true (of_decide_eq_true (by first | (with_reducible assumption) | assumption) : x7_1 ≤ (a0.size : Int))
                    by_cases c19 : x5_1.length < 8796093022208
                    · rw [if_pos c19] at H
                      have LMc19 := Aside0.mk c19
                      clear c19
                      obtain ⟨y107, hy107⟩ : ∃ y_ : List ByteArray, y_ = (x5_1 ++ [a0.extract (x6_1 : Int).toNat (x7_1 : Int).toNat]) := ⟨_, rfl⟩
                      replace H : (spec_l02Cut.l0 k1 a0 a1 y107 (wrap64 (x7_1 + 1)) (wrap64 (x7_1 + 1))) = some r := by first | (rw [hy107]; with_reducible exact H) | (have H2_ := (Option.bind_some _ _).symm.trans H; rw [hy107]; with_reducible exact H2_) | (have H2_ := (Option.bind_some _ _).symm.trans H; with_reducible exact H2_) | with_reducible exact H | (rw [hy107]; exact H) | exact H
                      have Ny107 := Aside0.mk hy107
                      clear hy107
                      have H' := Aside0.mk H
                      clear H
                      have p14 : 0 ≤ (x7_1 : Int) := of_decide_eq_true (by first | (with_reducible assumption) | assumption)
                      have q14 : x7_1 < (a0.size : Int) := of_decide_eq_true (by first | (with_reducible assumption) | assumption)
                      have hx14 := bt_at a0 x7_1
                      replace p14 := eq_true p14
                      replace q14 := eq_true q14
                      go_wp2_with (first | ((with_reducible refine gate_builtin (b := .append) (xs := #[.tmp 26, .tmp 31]) rfl ?_); at_builtin; refine Kd.R_append Kd.string (w0 := w) w.heap.size rfl (.tmp 26) (.tmp 31) 25 9 (.string ⟨#[]⟩) 16 rfl Tryd.underlying25 info9 rfl (by decide) (by omega) u5 x5_1 (a0.extract (x6_1 : Int).toNat (x7_1 : Int).toNat) [.string (a0.extract (x6_1 : Int).toNat (x7_1 : Int).toNat)] (fun _ => True) (fun _ => False) rfl rfl ?aP (fun _ hk => hk.elim) ?aF ?aO ?aB ?aS ?aL ?_; (case aP => exact rfl); (case aB => exact (by repeat (first | (with_reducible first | exact HB.out | apply below_alloc | apply pw_below_drewN | apply below_drew1) | exact HB.out))); (case aF => exact (fun _ _ => trivial)); (case aO => exact (by (with_reducible repeat (first | apply Kd.R_alloc | apply Kd.R_drewN | apply Kd.R_drew)); exact HO_5.out)); (case aS => exact (below_size (by repeat (first | (with_reducible first | exact HB.out | apply below_alloc | apply pw_below_drewN | apply below_drew1) | exact HB.out)))); (case aL => have := LMc19.out; omega); intro v108 w20 ho hb hg hat; rw [← Ny107.out] at ho; have n0_ := Aside0.mk (hb); have n1_ := Aside0.mk (ho); clear HB; clear HO_5; have HB := n0_; have HO109 := n1_; clear n0_ n1_; clear ho hb hg hat))
                      go_roundg k1
                      case measure => have := HK1.out; omega
                      case rel => exact ⟨(y107), (wrap64 (x7_1 + 1)), (wrap64 (x7_1 + 1)), (by first | rfl | (simp; done) | (simp [*]; done)), (by first | rfl | (simp; done) | (simp [*]; done)), H', ⟨by have := HK1.out; omega⟩, ⟨by (with_reducible repeat (first | apply Kd.R_alloc | apply Kd.R_drewN | apply Kd.R_drew)); exact HO109.out⟩, ⟨by repeat (first | (with_reducible first | exact HB.out | apply below_alloc | apply pw_below_drewN | apply below_drew1) | exact HB.out)⟩⟩
                    · rw [if_neg c19] at H
                      exact absurd H (by simp)
                  · rw [if_neg c17] at H
                    exact absurd H (by simp)
                · rw [if_neg c16] at H
                  exact absurd H (by simp)
              · rw [if_neg c15] at H
                have c15b0 : ((bt a0 x7_1) == a1) = false := beq_eq_false_iff_ne.mpr c15
                have c15b1 : ((bt a0 x7_1) != a1) = true := bne_iff_ne.mpr c15
                have H' := Aside0.mk H
                clear H
                have p14 : 0 ≤ (x7_1 : Int) := of_decide_eq_true (by first | (with_reducible assumption) | assumption)
                have q14 : x7_1 < (a0.size : Int) := of_decide_eq_true (by first | (with_reducible assumption) | assumption)
                have hx14 := bt_at a0 x7_1
                replace p14 := eq_true p14
                replace q14 := eq_true q14
                go_wp2
                go_roundg k1
                case measure => have := HK1.out; omega
                case rel => exact ⟨(x5_1), (x6_1), (wrap64 (x7_1 + 1)), (by first | rfl | (simp; done) | (simp [*]; done)), (by first | rfl | (simp; done) | (simp [*]; done)), H', ⟨by have := HK1.out; omega⟩, ⟨by (with_reducible repeat (first | apply Kd.R_alloc | apply Kd.R_drewN | apply Kd.R_drew)); exact HO_5.out⟩, ⟨by repeat (first | (with_reducible first | exact HB.out | apply below_alloc | apply pw_below_drewN | apply below_drew1) | exact HB.out)⟩⟩
            · rw [if_neg c13] at H
              exact absurd H (by simp)
          · rw [if_neg c12] at H
            exact absurd H (by simp)
      · rw [if_neg c5] at H
        have c5b0 : decide (x7_1 ≤ (a0.size : Int)) = false := decide_eq_false c5
        clear c5
        obtain rfl := Option.some.inj H
        go_wp2
        go_ret
        exact ⟨_, by first | rfl | (simp [errW_none, errW_some] <;> rfl) | (simp [*, errW_none, errW_some] <;> rfl), by (with_reducible repeat (first | apply Kd.R_alloc | apply Kd.R_drewN | apply Kd.R_drew)); exact HO_5.out, by repeat (first | (with_reducible first | exact HB.out | apply below_alloc | apply pw_below_drewN | apply below_drew1) | exact HB.out)⟩

end Go.Proofs.YtefiapcfdabfpaaDoor.P

namespace Go.Proofs.YtefiapcfdabfpaaDoor.P
open Go.RowKit Go.Proofs.YtefiapcfdabfpaaDoorW.PrintWords Go.Proofs.YtefiapcfdabfpaaDoorW.PrintLast Go.Proofs.YtefiapcfdabfpaaDoorW.PrintMore
attribute [local go_sem] max2_int min2_int max_two min_two max_three min_three max_four min_four
set_option linter.unusedVariables false
set_option linter.unusedSimpArgs false

/-! ### spec_l02Part: function 114 -/
mutual
def spec_l02Part.j0 : Nat → ByteArray → Bool → Option (Bool)
  | 0, _, _ => none
  | k + 1, x0, x16 => if x16 = true then (some false) else (spec_l02Part.l0 k x0 0)
def spec_l02Part.l0 : Nat → ByteArray → Int → Option (Bool)
  | 0, _, _ => none
  | k + 1, x0, x3 => if x3 < (x0.size : Int) then (if 0 ≤ x3 then (if (bt x0 x3) ≥ 97 then (if ((bt x0 x3) ≤ 122) then (spec_l02Part.l0 k x0 (wrap64 (x3 + 1))) else (if (bt x0 x3) ≥ 48 then (if ((bt x0 x3) ≤ 57) then (spec_l02Part.l0 k x0 (wrap64 (x3 + 1))) else (some false)) else (some false))) else (if (bt x0 x3) ≥ 48 then (if ((bt x0 x3) ≤ 57) then (spec_l02Part.l0 k x0 (wrap64 (x3 + 1))) else (some false)) else (some false))) else (none)) else (some true)
end
def spec_l02Part.f (k : Nat) (a0 : ByteArray) : Option (Bool) := if (a0.size : Int) = 0 then (spec_l02Part.j0 k a0 true) else (if 0 < (a0.size : Int) then (if (bt a0 0) < 97 then (spec_l02Part.j0 k a0 true) else (spec_l02Part.j0 k a0 (decide ((bt a0 0) > 122)))) else (none))
theorem spec_l02Part.mono_l : ∀ k, (∀ y0 y1, LeO (spec_l02Part.j0 k y0 y1) (spec_l02Part.j0 (k + 1) y0 y1)) ∧ (∀ y0 y1, LeO (spec_l02Part.l0 k y0 y1) (spec_l02Part.l0 (k + 1) y0 y1))
  | 0 => ⟨fun _ _ r h => by simp [spec_l02Part.j0] at h, fun _ _ r h => by simp [spec_l02Part.l0] at h⟩
  | k + 1 => by
    obtain ⟨ih0, ih1⟩ := spec_l02Part.mono_l k
    refine ⟨?_, ?_⟩
    · intro y0 y1
      unfold spec_l02Part.j0
      repeat' first
      | (with_reducible exact ih0 _ _)
      | (with_reducible exact ih1 _ _)
      | (with_reducible exact LeO.refl _)
      | (with_reducible exact LeO.none _)
      | (with_reducible refine LeO.ite ?_ ?_)
      | (with_reducible refine LeO.bind ?_ (fun _ => ?_))
      | exact ih0 _ _
      | exact ih1 _ _
      | exact LeO.none _
      | refine LeO.ite ?_ ?_
      | refine LeO.bind ?_ (fun _ => ?_)
    · intro y0 y1
      unfold spec_l02Part.l0
      repeat' first
      | (with_reducible exact ih0 _ _)
      | (with_reducible exact ih1 _ _)
      | (with_reducible exact LeO.refl _)
      | (with_reducible exact LeO.none _)
      | (with_reducible refine LeO.ite ?_ ?_)
      | (with_reducible refine LeO.bind ?_ (fun _ => ?_))
      | exact ih0 _ _
      | exact ih1 _ _
      | exact LeO.none _
      | refine LeO.ite ?_ ?_
      | refine LeO.bind ?_ (fun _ => ?_)
theorem spec_l02Part.mono : ∀ a0 k, LeO (spec_l02Part.f k a0) (spec_l02Part.f (k + 1) a0) := by
  intro a0 k
  obtain ⟨ih0, ih1⟩ := spec_l02Part.mono_l k
  unfold spec_l02Part.f
  repeat' first
      | (with_reducible exact ih0 _ _)
      | (with_reducible exact ih1 _ _)
      | (with_reducible exact LeO.refl _)
      | (with_reducible exact LeO.none _)
      | (with_reducible refine LeO.ite ?_ ?_)
      | (with_reducible refine LeO.bind ?_ (fun _ => ?_))
      | exact ih0 _ _
      | exact ih1 _ _
      | exact LeO.none _
      | refine LeO.ite ?_ ?_
      | refine LeO.bind ?_ (fun _ => ?_)
set_option maxHeartbeats 8000000 in
set_option maxRecDepth 100000 in
theorem spec_l02Part.calls (k : Nat) (a0 : ByteArray) (r : Bool) (w : World) (h : spec_l02Part.f k a0 = some r) :
    Calls Tryd.prog 114 #[.string a0] w fun e w' => e = .returned (.bool r) ∧ Drawn0 w w' := by
  have H : (if (a0.size : Int) = 0 then (spec_l02Part.j0 k a0 true) else (if 0 < (a0.size : Int) then (if (bt a0 0) < 97 then (spec_l02Part.j0 k a0 true) else (spec_l02Part.j0 k a0 (decide ((bt a0 0) > 122)))) else (none))) = some r := h
  clear h
  have HC2 := Aside0.mk H
  clear H
  go_enter Tryd.func114, Tryd.ntmps114
  go_upto_region 1 with (fail)
  go_cut [16] (fun v16 wc => ∃ (kq : Nat) (x16_1 : Bool), v16 = .bool x16_1 ∧ Aside0 (spec_l02Part.j0 kq a0 x16_1 = some r) ∧ Aside0 (kq ≤ k) ∧ Drawn0 w wc)
  case first =>
    have H := HC2.out
    clear HC2
    by_cases c3 : (a0.size : Int) = 0
    · rw [if_pos c3] at H
      have c3b0 : ((a0.size : Int) == 0) = true := beq_iff_eq.mpr c3
      have c3b1 : ((a0.size : Int) != 0) = false := bne_eq_false_iff_eq.mpr c3
      clear c3
      (first | rw [c3b0] | (simp only [i64_w, i32_w]; rw [c3b0]) | skip)
      have H' := Aside0.mk H
      clear H
      go_wp2
      go_meet
      case rel => exact ⟨_, (true), (by first | rfl | (simp; done) | (simp [*]; done)), H', ⟨by first | omega | exact Nat.le_refl _⟩, by repeat (first | exact Drawn0.refl _ | apply Drawn0.step)⟩
    · rw [if_neg c3] at H
      have c3b0 : ((a0.size : Int) == 0) = false := beq_eq_false_iff_ne.mpr c3
      have c3b1 : ((a0.size : Int) != 0) = true := bne_iff_ne.mpr c3
      (first | rw [c3b0] | (simp only [i64_w, i32_w]; rw [c3b0]) | skip)
      by_cases c4 : 0 < (a0.size : Int)
      · rw [if_pos c4] at H
        have c4b0 : decide (0 < (a0.size : Int)) = true := decide_eq_true c4
        have c4b1 : decide (0 < a0.size) = true := decide_eq_true (by omega)
        clear c4
        by_cases c6 : (bt a0 0) < 97
        · rw [if_pos c6] at H
          have c6b0 : decide ((bt a0 0) < 97) = true := decide_eq_true c6
          clear c6
          have H' := Aside0.mk H
          clear H
          have p5 : 0 ≤ (0 : Int) := (by omega)
          have q5 : 0 < a0.size := (by have : (0 : Int) < (a0.size : Int) := of_decide_eq_true (by first | (with_reducible assumption) | assumption); omega)
          have hx5 : ∀ h : 0 < a0.size, ((a0[0]'h).toNat : Int) = bt a0 0 := bt_at a0 0
          clear p5
          have qi5 : (0 < (a0.size : Int)) = True := eq_true (of_decide_eq_true (by first | (with_reducible assumption) | assumption))
          replace q5 := eq_true q5
          go_wp2
          go_meet
          case rel => exact ⟨_, (true), (by first | rfl | (simp; done) | (simp [*]; done)), H', ⟨by first | omega | exact Nat.le_refl _⟩, by repeat (first | exact Drawn0.refl _ | apply Drawn0.step)⟩
        · rw [if_neg c6] at H
          have c6b0 : decide ((bt a0 0) < 97) = false := decide_eq_false c6
          clear c6
          have H' := Aside0.mk H
          clear H
          have p5 : 0 ≤ (0 : Int) := (by omega)
          have q5 : 0 < a0.size := (by have : (0 : Int) < (a0.size : Int) := of_decide_eq_true (by first | (with_reducible assumption) | assumption); omega)
          have hx5 : ∀ h : 0 < a0.size, ((a0[0]'h).toNat : Int) = bt a0 0 := bt_at a0 0
          clear p5
          have qi5 : (0 < (a0.size : Int)) = True := eq_true (of_decide_eq_true (by first | (with_reducible assumption) | assumption))
          replace q5 := eq_true q5
          have p7 : 0 ≤ (0 : Int) := (by omega)
          have q7 : 0 < a0.size := (by have : (0 : Int) < (a0.size : Int) := of_decide_eq_true (by first | (with_reducible assumption) | assumption); omega)
          have hx7 : ∀ h : 0 < a0.size, ((a0[0]'h).toNat : Int) = bt a0 0 := bt_at a0 0
          clear p7
          have qi7 : (0 < (a0.size : Int)) = True := eq_true (of_decide_eq_true (by first | (with_reducible assumption) | assumption))
          replace q7 := eq_true q7
          go_wp2
          go_meet
          case rel => exact ⟨_, (decide ((bt a0 0) > 122)), (by first | rfl | (simp; done) | (simp [*]; done)), H', ⟨by first | omega | exact Nat.le_refl _⟩, by repeat (first | exact Drawn0.refl _ | apply Drawn0.step)⟩
      · rw [if_neg c4] at H
        exact absurd H (by simp)
  case rest =>
    clear HC2
    try clear c1
    try clear p2
    try clear c3
    try clear c3b0
    try clear c3b1
    try clear c4
    try clear c4b0
    try clear c4b1
    try clear p5
    try clear q5
    try clear hx5
    try clear qi5
    try clear c6
    try clear c6b0
    try clear p7
    try clear q7
    try clear hx7
    try clear qi7
    try clear p5
    try clear p7
    try clear q5
    try clear q7
    obtain ⟨kq, x16_1, rfl, HA, HJ1, ⟨mc1, rfl⟩⟩ := hcut
    cases kq with
    | zero => exact absurd HA.out (by simp [spec_l02Part.j0])
    | succ kj1 =>
      have H := HA.out
      clear HA
      simp only [spec_l02Part.j0] at H
      by_cases c8 : x16_1 = true
      · subst c8
        have H1 : (some false) = some r := by rw [if_pos rfl] at H; exact H
        clear H
        have H := H1
        clear H1
        obtain rfl := Option.some.inj H
        go_wp2
        go_ret
        exact ⟨by first | rfl | (simp; done) | (simp [*]; done), by repeat (first | exact Drawn0.refl _ | apply Drawn0.step)⟩
      · replace c8 := Bool.eq_false_iff.mpr c8
        subst c8
        have H1 : (spec_l02Part.l0 kj1 a0 0) = some r := by rw [if_neg (show ¬ (false = true) by decide)] at H; exact H
        clear H
        have H := H1
        clear H1
        have H' := Aside0.mk H
        clear H
        go_wp2
        go_loopg [3] kj1 (fun kq v3 w' => ∃ (x3_2 : Int), v3 = .int .i64 x3_2 ∧ Aside0 (spec_l02Part.l0 kq a0 x3_2 = some r) ∧ Aside0 (kq ≤ kj1) ∧ Drawn0 w w')
        case atStart => exact ⟨(0), (by first | rfl | (simp; done) | (simp [*]; done)), H', ⟨Nat.le_refl _⟩, by repeat (first | exact Drawn0.refl _ | apply Drawn0.step)⟩
        case round =>
          clear H'
          try clear c1
          try clear p2
          try clear c3
          try clear c3b0
          try clear c3b1
          try clear c4
          try clear c4b0
          try clear c4b1
          try clear p5
          try clear q5
          try clear hx5
          try clear qi5
          try clear c6
          try clear c6b0
          try clear p7
          try clear q7
          try clear hx7
          try clear qi7
          try clear c8
          try clear p2
          try clear p5
          try clear p7
          try clear q5
          try clear q7
          obtain ⟨x3_2, rfl, HA, HK2, ⟨m2, rfl⟩⟩ := hrel
          cases gk with
          | zero => exact absurd HA.out (by simp [spec_l02Part.l0])
          | succ k2 =>
            have H := HA.out
            clear HA
            simp only [spec_l02Part.l0] at H
            by_cases c9 : x3_2 < (a0.size : Int)
            · rw [if_pos c9] at H
              have c9b0 : decide (x3_2 < (a0.size : Int)) = true := decide_eq_true c9
              clear c9
              by_cases c10 : 0 ≤ x3_2
              · rw [if_pos c10] at H
                have c10b0 : decide (0 ≤ x3_2) = true := decide_eq_true c10
                clear c10
                by_cases c12 : (bt a0 x3_2) ≥ 97
                · rw [if_pos c12] at H
                  have c12b0 : decide (97 ≤ (bt a0 x3_2)) = true := decide_eq_true c12
                  clear c12
                  by_cases c14 : ((bt a0 x3_2) ≤ 122)
                  · rw [if_pos c14] at H
                    have c14b0 : decide ((bt a0 x3_2) ≤ 122) = true := decide_eq_true c14
                    clear c14
                    have H' := Aside0.mk H
                    clear H
                    have p11 : 0 ≤ (x3_2 : Int) := of_decide_eq_true (by first | (with_reducible assumption) | assumption)
                    have q11 : x3_2 < (a0.size : Int) := of_decide_eq_true (by first | (with_reducible assumption) | assumption)
                    have hx11 := bt_at a0 x3_2
                    replace p11 := eq_true p11
                    replace q11 := eq_true q11
                    have p13 : 0 ≤ (x3_2 : Int) := of_decide_eq_true (by first | (with_reducible assumption) | assumption)
                    have q13 : x3_2 < (a0.size : Int) := of_decide_eq_true (by first | (with_reducible assumption) | assumption)
                    have hx13 := bt_at a0 x3_2
                    replace p13 := eq_true p13
                    replace q13 := eq_true q13
                    go_wp2
                    go_roundg k2
                    case measure => have := HJ1.out; have := HK2.out; omega
                    case rel => exact ⟨(wrap64 (x3_2 + 1)), (by first | rfl | (simp; done) | (simp [*]; done)), H', ⟨by have := HJ1.out; have := HK2.out; omega⟩, by repeat (first | exact Drawn0.refl _ | apply Drawn0.step)⟩
                  · rw [if_neg c14] at H
                    have c14b0 : decide ((bt a0 x3_2) ≤ 122) = false := decide_eq_false c14
                    clear c14
                    by_cases c16 : (bt a0 x3_2) ≥ 48
                    · rw [if_pos c16] at H
                      have c16b0 : decide (48 ≤ (bt a0 x3_2)) = true := decide_eq_true c16
                      clear c16
                      by_cases c18 : ((bt a0 x3_2) ≤ 57)
                      · rw [if_pos c18] at H
                        have c18b0 : decide ((bt a0 x3_2) ≤ 57) = true := decide_eq_true c18
                        clear c18
                        have H' := Aside0.mk H
                        clear H
                        have p11 : 0 ≤ (x3_2 : Int) := of_decide_eq_true (by first | (with_reducible assumption) | assumption)
                        have q11 : x3_2 < (a0.size : Int) := of_decide_eq_true (by first | (with_reducible assumption) | assumption)
                        have hx11 := bt_at a0 x3_2
                        replace p11 := eq_true p11
                        replace q11 := eq_true q11
                        have p13 : 0 ≤ (x3_2 : Int) := of_decide_eq_true (by first | (with_reducible assumption) | assumption)
                        have q13 : x3_2 < (a0.size : Int) := of_decide_eq_true (by first | (with_reducible assumption) | assumption)
                        have hx13 := bt_at a0 x3_2
                        replace p13 := eq_true p13
                        replace q13 := eq_true q13
                        have p15 : 0 ≤ (x3_2 : Int) := of_decide_eq_true (by first | (with_reducible assumption) | assumption)
                        have q15 : x3_2 < (a0.size : Int) := of_decide_eq_true (by first | (with_reducible assumption) | assumption)
                        have hx15 := bt_at a0 x3_2
                        replace p15 := eq_true p15
                        replace q15 := eq_true q15
                        have p17 : 0 ≤ (x3_2 : Int) := of_decide_eq_true (by first | (with_reducible assumption) | assumption)
                        have q17 : x3_2 < (a0.size : Int) := of_decide_eq_true (by first | (with_reducible assumption) | assumption)
                        have hx17 := bt_at a0 x3_2
                        replace p17 := eq_true p17
                        replace q17 := eq_true q17
                        go_wp2
                        go_roundg k2
                        case measure => have := HJ1.out; have := HK2.out; omega
                        case rel => exact ⟨(wrap64 (x3_2 + 1)), (by first | rfl | (simp; done) | (simp [*]; done)), H', ⟨by have := HJ1.out; have := HK2.out; omega⟩, by repeat (first | exact Drawn0.refl _ | apply Drawn0.step)⟩
                      · rw [if_neg c18] at H
                        have c18b0 : decide ((bt a0 x3_2) ≤ 57) = false := decide_eq_false c18
                        clear c18
                        obtain rfl := Option.some.inj H
                        have p11 : 0 ≤ (x3_2 : Int) := of_decide_eq_true (by first | (with_reducible assumption) | assumption)
                        have q11 : x3_2 < (a0.size : Int) := of_decide_eq_true (by first | (with_reducible assumption) | assumption)
                        have hx11 := bt_at a0 x3_2
                        replace p11 := eq_true p11
                        replace q11 := eq_true q11
                        have p13 : 0 ≤ (x3_2 : Int) := of_decide_eq_true (by first | (with_reducible assumption) | assumption)
                        have q13 : x3_2 < (a0.size : Int) := of_decide_eq_true (by first | (with_reducible assumption) | assumption)
                        have hx13 := bt_at a0 x3_2
                        replace p13 := eq_true p13
                        replace q13 := eq_true q13
                        have p15 : 0 ≤ (x3_2 : Int) := of_decide_eq_true (by first | (with_reducible assumption) | assumption)
                        have q15 : x3_2 < (a0.size : Int) := of_decide_eq_true (by first | (with_reducible assumption) | assumption)
                        have hx15 := bt_at a0 x3_2
                        replace p15 := eq_true p15
                        replace q15 := eq_true q15
                        have p17 : 0 ≤ (x3_2 : Int) := of_decide_eq_true (by first | (with_reducible assumption) | assumption)
                        have q17 : x3_2 < (a0.size : Int) := of_decide_eq_true (by first | (with_reducible assumption) | assumption)
                        have hx17 := bt_at a0 x3_2
                        replace p17 := eq_true p17
                        replace q17 := eq_true q17
                        go_wp2
                        go_ret
                        exact ⟨by first | rfl | (simp; done) | (simp [*]; done), by repeat (first | exact Drawn0.refl _ | apply Drawn0.step)⟩
                    · rw [if_neg c16] at H
                      have c16b0 : decide (48 ≤ (bt a0 x3_2)) = false := decide_eq_false c16
                      clear c16
                      obtain rfl := Option.some.inj H
                      have p11 : 0 ≤ (x3_2 : Int) := of_decide_eq_true (by first | (with_reducible assumption) | assumption)
                      have q11 : x3_2 < (a0.size : Int) := of_decide_eq_true (by first | (with_reducible assumption) | assumption)
                      have hx11 := bt_at a0 x3_2
                      replace p11 := eq_true p11
                      replace q11 := eq_true q11
                      have p13 : 0 ≤ (x3_2 : Int) := of_decide_eq_true (by first | (with_reducible assumption) | assumption)
                      have q13 : x3_2 < (a0.size : Int) := of_decide_eq_true (by first | (with_reducible assumption) | assumption)
                      have hx13 := bt_at a0 x3_2
                      replace p13 := eq_true p13
                      replace q13 := eq_true q13
                      have p15 : 0 ≤ (x3_2 : Int) := of_decide_eq_true (by first | (with_reducible assumption) | assumption)
                      have q15 : x3_2 < (a0.size : Int) := of_decide_eq_true (by first | (with_reducible assumption) | assumption)
                      have hx15 := bt_at a0 x3_2
                      replace p15 := eq_true p15
                      replace q15 := eq_true q15
                      go_wp2
                      go_ret
                      exact ⟨by first | rfl | (simp; done) | (simp [*]; done), by repeat (first | exact Drawn0.refl _ | apply Drawn0.step)⟩
                · rw [if_neg c12] at H
                  have c12b0 : decide (97 ≤ (bt a0 x3_2)) = false := decide_eq_false c12
                  clear c12
                  by_cases c20 : (bt a0 x3_2) ≥ 48
                  · rw [if_pos c20] at H
                    have c20b0 : decide (48 ≤ (bt a0 x3_2)) = true := decide_eq_true c20
                    clear c20
                    by_cases c22 : ((bt a0 x3_2) ≤ 57)
                    · rw [if_pos c22] at H
                      have c22b0 : decide ((bt a0 x3_2) ≤ 57) = true := decide_eq_true c22
                      clear c22
                      have H' := Aside0.mk H
                      clear H
                      have p11 : 0 ≤ (x3_2 : Int) := of_decide_eq_true (by first | (with_reducible assumption) | assumption)
                      have q11 : x3_2 < (a0.size : Int) := of_decide_eq_true (by first | (with_reducible assumption) | assumption)
                      have hx11 := bt_at a0 x3_2
                      replace p11 := eq_true p11
                      replace q11 := eq_true q11
                      have p19 : 0 ≤ (x3_2 : Int) := of_decide_eq_true (by first | (with_reducible assumption) | assumption)
                      have q19 : x3_2 < (a0.size : Int) := of_decide_eq_true (by first | (with_reducible assumption) | assumption)
                      have hx19 := bt_at a0 x3_2
                      replace p19 := eq_true p19
                      replace q19 := eq_true q19
                      have p21 : 0 ≤ (x3_2 : Int) := of_decide_eq_true (by first | (with_reducible assumption) | assumption)
                      have q21 : x3_2 < (a0.size : Int) := of_decide_eq_true (by first | (with_reducible assumption) | assumption)
                      have hx21 := bt_at a0 x3_2
                      replace p21 := eq_true p21
                      replace q21 := eq_true q21
                      go_wp2
                      go_roundg k2
                      case measure => have := HJ1.out; have := HK2.out; omega
                      case rel => exact ⟨(wrap64 (x3_2 + 1)), (by first | rfl | (simp; done) | (simp [*]; done)), H', ⟨by have := HJ1.out; have := HK2.out; omega⟩, by repeat (first | exact Drawn0.refl _ | apply Drawn0.step)⟩
                    · rw [if_neg c22] at H
                      have c22b0 : decide ((bt a0 x3_2) ≤ 57) = false := decide_eq_false c22
                      clear c22
                      obtain rfl := Option.some.inj H
                      have p11 : 0 ≤ (x3_2 : Int) := of_decide_eq_true (by first | (with_reducible assumption) | assumption)
                      have q11 : x3_2 < (a0.size : Int) := of_decide_eq_true (by first | (with_reducible assumption) | assumption)
                      have hx11 := bt_at a0 x3_2
                      replace p11 := eq_true p11
                      replace q11 := eq_true q11
                      have p19 : 0 ≤ (x3_2 : Int) := of_decide_eq_true (by first | (with_reducible assumption) | assumption)
                      have q19 : x3_2 < (a0.size : Int) := of_decide_eq_true (by first | (with_reducible assumption) | assumption)
                      have hx19 := bt_at a0 x3_2
                      replace p19 := eq_true p19
                      replace q19 := eq_true q19
                      have p21 : 0 ≤ (x3_2 : Int) := of_decide_eq_true (by first | (with_reducible assumption) | assumption)
                      have q21 : x3_2 < (a0.size : Int) := of_decide_eq_true (by first | (with_reducible assumption) | assumption)
                      have hx21 := bt_at a0 x3_2
                      replace p21 := eq_true p21
                      replace q21 := eq_true q21
                      go_wp2
                      go_ret
                      exact ⟨by first | rfl | (simp; done) | (simp [*]; done), by repeat (first | exact Drawn0.refl _ | apply Drawn0.step)⟩
                  · rw [if_neg c20] at H
                    have c20b0 : decide (48 ≤ (bt a0 x3_2)) = false := decide_eq_false c20
                    clear c20
                    obtain rfl := Option.some.inj H
                    have p11 : 0 ≤ (x3_2 : Int) := of_decide_eq_true (by first | (with_reducible assumption) | assumption)
                    have q11 : x3_2 < (a0.size : Int) := of_decide_eq_true (by first | (with_reducible assumption) | assumption)
                    have hx11 := bt_at a0 x3_2
                    replace p11 := eq_true p11
                    replace q11 := eq_true q11
                    have p19 : 0 ≤ (x3_2 : Int) := of_decide_eq_true (by first | (with_reducible assumption) | assumption)
                    have q19 : x3_2 < (a0.size : Int) := of_decide_eq_true (by first | (with_reducible assumption) | assumption)
                    have hx19 := bt_at a0 x3_2
                    replace p19 := eq_true p19
                    replace q19 := eq_true q19
                    go_wp2
                    go_ret
                    exact ⟨by first | rfl | (simp; done) | (simp [*]; done), by repeat (first | exact Drawn0.refl _ | apply Drawn0.step)⟩
              · rw [if_neg c10] at H
                exact absurd H (by simp)
            · rw [if_neg c9] at H
              have c9b0 : decide (x3_2 < (a0.size : Int)) = false := decide_eq_false c9
              clear c9
              obtain rfl := Option.some.inj H
              go_wp2
              go_ret
              exact ⟨by first | rfl | (simp; done) | (simp [*]; done), by repeat (first | exact Drawn0.refl _ | apply Drawn0.step)⟩

end Go.Proofs.YtefiapcfdabfpaaDoor.P

namespace Go.Proofs.YtefiapcfdabfpaaDoor.P
open Go.RowKit Go.Proofs.YtefiapcfdabfpaaDoorW.PrintWords Go.Proofs.YtefiapcfdabfpaaDoorW.PrintLast Go.Proofs.YtefiapcfdabfpaaDoorW.PrintMore
attribute [local go_sem] max2_int min2_int max_two min_two max_three min_three max_four min_four
set_option linter.unusedVariables false
set_option linter.unusedSimpArgs false

/-! ### spec_NameOk: function 100 -/
def spec_NameOk.l0 : Nat → List ByteArray → Int → Option (Bool)
  | 0, _, _ => none
  | k + 1, x3, x4 => if x4 < (x3.length : Int) then (if 0 ≤ x4 then ((spec_l02Part.f k (rdOf ByteArray.empty x3 x4)).bind fun t105 => (if t105 = true then (spec_NameOk.l0 k x3 (wrap64 (x4 + 1))) else (some false))) else (none)) else (some true)
def spec_NameOk.f (k : Nat) (a0 : ByteArray) : Option (Bool) := if (a0.size : Int) > 40 then (some false) else ((spec_l02Cut.f k a0 46).bind fun t101 => (if (t101.length : Int) > 5 then (some false) else (spec_NameOk.l0 k t101 0)))
theorem spec_NameOk.mono_l : ∀ k, (∀ y0 y1, LeO (spec_NameOk.l0 k y0 y1) (spec_NameOk.l0 (k + 1) y0 y1))
  | 0 => fun _ _ r h => by simp [spec_NameOk.l0] at h
  | k + 1 => by
    have ih0 := spec_NameOk.mono_l k
    · intro y0 y1
      unfold spec_NameOk.l0
      repeat' first
      | (with_reducible exact ih0 _ _)
      | (with_reducible exact spec_l02Cut.mono _ _ _)
      | (with_reducible exact spec_l02Part.mono _ _)
      | (with_reducible exact LeO.refl _)
      | (with_reducible exact LeO.none _)
      | (with_reducible refine LeO.ite ?_ ?_)
      | (with_reducible refine LeO.bind ?_ (fun _ => ?_))
      | exact ih0 _ _
      | exact spec_l02Cut.mono _ _ _
      | exact spec_l02Part.mono _ _
      | exact LeO.none _
      | refine LeO.ite ?_ ?_
      | refine LeO.bind ?_ (fun _ => ?_)
theorem spec_NameOk.mono : ∀ a0 k, LeO (spec_NameOk.f k a0) (spec_NameOk.f (k + 1) a0) := by
  intro a0 k
  have ih0 := spec_NameOk.mono_l k
  unfold spec_NameOk.f
  repeat' first
      | (with_reducible exact ih0 _ _)
      | (with_reducible exact spec_l02Cut.mono _ _ _)
      | (with_reducible exact spec_l02Part.mono _ _)
      | (with_reducible exact LeO.refl _)
      | (with_reducible exact LeO.none _)
      | (with_reducible refine LeO.ite ?_ ?_)
      | (with_reducible refine LeO.bind ?_ (fun _ => ?_))
      | exact ih0 _ _
      | exact spec_l02Cut.mono _ _ _
      | exact spec_l02Part.mono _ _
      | exact LeO.none _
      | refine LeO.ite ?_ ?_
      | refine LeO.bind ?_ (fun _ => ?_)
set_option maxHeartbeats 8000000 in
set_option maxRecDepth 100000 in
theorem spec_NameOk.calls (k : Nat) (a0 : ByteArray) (r : Bool) (w : World) (h : spec_NameOk.f k a0 = some r) :
    Calls Tryd.prog 100 #[.string a0] w fun e w' => e = .returned (.bool r) ∧ Below w.heap.size w w' := by
  have HB := Aside0.mk (Below.refl w.heap.size w)
  have H : (if (a0.size : Int) > 40 then (some false) else ((spec_l02Cut.f k a0 46).bind fun t101 => (if (t101.length : Int) > 5 then (some false) else (spec_NameOk.l0 k t101 0)))) = some r := h
  clear h
  by_cases c2 : (a0.size : Int) > 40
  · rw [if_pos c2] at H
    have c2b0 : decide (40 < (a0.size : Int)) = true := decide_eq_true c2
    have c2b1 : decide (40 < a0.size) = true := decide_eq_true (by omega)
    clear c2
    obtain rfl := Option.some.inj H
    go_enter Tryd.func100, Tryd.ntmps100
    go_wp2
    go_ret
    exact ⟨by first | rfl | (simp [errW_none, errW_some] <;> rfl) | (simp [*, errW_none, errW_some] <;> rfl), by repeat (first | (with_reducible first | exact HB.out | apply below_alloc | apply pw_below_drewN | apply below_drew1) | exact HB.out)⟩
  · rw [if_neg c2] at H
    have c2b0 : decide (40 < (a0.size : Int)) = false := decide_eq_false c2
    have c2b1 : decide (40 < a0.size) = false := decide_eq_false (by omega)
    clear c2
    replace H := Option.bind_eq_some_iff.mp H
    obtain ⟨t101, A30, H⟩ := H
    replace H : (if (t101.length : Int) > 5 then (some false) else (spec_NameOk.l0 k t101 0)) = some r := H
    have A3 := Aside0.mk A30
    clear A30
    by_cases c4 : (t101.length : Int) > 5
    · rw [if_pos c4] at H
      have c4b0 : decide (5 < (t101.length : Int)) = true := decide_eq_true c4
      have c4b1 : decide (5 < t101.length) = true := decide_eq_true (by omega)
      clear c4
      obtain rfl := Option.some.inj H
      go_enter Tryd.func100, Tryd.ntmps100
      go_wp2_with (first | ((with_reducible refine gate_callee (f := 113) rfl ?_); refine goesL_ (some 9) rfl rfl Tryd.func113 (by kernel_rfl) rfl #[.string a0, .int .u8 46] rfl (by (try simp only [List.map_toArray, List.map_cons, List.map_nil]); first | done | rfl | (simp only [List.length_drop, List.length_take]; rfl)) ?_; (with_reducible refine (spec_l02Cut.calls k a0 46 t101 _ A3.out).mono ?_); rintro e w5 ⟨v102, rfl, ho0, hb⟩; refine ⟨_, rfl, ?_⟩; have n0_ := Aside0.mk (Kd.R_lower ho0 (below_size (by repeat (first | (with_reducible first | exact HB.out | apply below_alloc | apply pw_below_drewN | apply below_drew1) | exact HB.out)))); have n1_ := Aside0.mk (below_step (by repeat (first | (with_reducible first | exact HB.out | apply below_alloc | apply pw_below_drewN | apply below_drew1) | exact HB.out)) hb); clear HB; have HO103 := n0_; have HB := n1_; clear n0_ n1_; (try clear hb); (try clear hb2); (try clear hk); (try clear hi); (try clear ho0); obtain ⟨Ao6, co6, eo6⟩ := Kd.R_slice HO103.out; subst eo6))
      go_ret
      exact ⟨by first | rfl | (simp [errW_none, errW_some] <;> rfl) | (simp [*, errW_none, errW_some] <;> rfl), by repeat (first | (with_reducible first | exact HB.out | apply below_alloc | apply pw_below_drewN | apply below_drew1) | exact HB.out)⟩
    · rw [if_neg c4] at H
      have c4b0 : decide (5 < (t101.length : Int)) = false := decide_eq_false c4
      have c4b1 : decide (5 < t101.length) = false := decide_eq_false (by omega)
      clear c4
      have H' := Aside0.mk H
      clear H
      go_enter Tryd.func100, Tryd.ntmps100
      go_wp2_with (first | ((with_reducible refine gate_callee (f := 113) rfl ?_); refine goesL_ (some 9) rfl rfl Tryd.func113 (by kernel_rfl) rfl #[.string a0, .int .u8 46] rfl (by (try simp only [List.map_toArray, List.map_cons, List.map_nil]); first | done | rfl | (simp only [List.length_drop, List.length_take]; rfl)) ?_; (with_reducible refine (spec_l02Cut.calls k a0 46 t101 _ A3.out).mono ?_); rintro e w7 ⟨v102, rfl, ho0, hb⟩; refine ⟨_, rfl, ?_⟩; have n0_ := Aside0.mk (Kd.R_lower ho0 (below_size (by repeat (first | (with_reducible first | exact HB.out | apply below_alloc | apply pw_below_drewN | apply below_drew1) | exact HB.out)))); have n1_ := Aside0.mk (below_step (by repeat (first | (with_reducible first | exact HB.out | apply below_alloc | apply pw_below_drewN | apply below_drew1) | exact HB.out)) hb); clear HB; have HO103 := n0_; have HB := n1_; clear n0_ n1_; (try clear hb); (try clear hb2); (try clear hk); (try clear hi); (try clear ho0); obtain ⟨Ao8, co8, eo8⟩ := Kd.R_slice HO103.out; subst eo8))
      go_loopg [4] k (fun kq v4 w' => ∃ (x4_1 : Int), v4 = .int .i64 x4_1 ∧ Aside0 (spec_NameOk.l0 kq t101 x4_1 = some r) ∧ Aside0 (kq ≤ k) ∧ Aside0 (Kd.R Kd.string 9 w' w.heap.size (fun _ => True) (.slice Ao8 t101.length co8) t101) ∧ Aside0 (Below w.heap.size w w'))
      case atStart => exact ⟨(0), (by first | rfl | (simp; done) | (simp [*]; done)), H', ⟨Nat.le_refl _⟩, ⟨by (with_reducible repeat (first | apply Kd.R_alloc | apply Kd.R_drewN | apply Kd.R_drew)); exact HO103.out⟩, ⟨by repeat (first | (with_reducible first | exact HB.out | apply below_alloc | apply pw_below_drewN | apply below_drew1) | exact HB.out)⟩⟩
      case round =>
        clear H'
        try clear c1
        try clear c2
        try clear c2b0
        try clear c2b1
        try clear p2
        try clear c4
        try clear c4b0
        try clear c4b1
        obtain ⟨x4_1, rfl, HA, HK1, HO_3, HB⟩ := hrel
        cases gk with
        | zero => exact absurd HA.out (by simp [spec_NameOk.l0])
        | succ k1 =>
          have H := HA.out
          clear HA
          simp only [spec_NameOk.l0] at H
          by_cases c9 : x4_1 < (t101.length : Int)
          · rw [if_pos c9] at H
            have c9b0 : decide (x4_1 < (t101.length : Int)) = true := decide_eq_true c9
            clear c9
            by_cases c10 : 0 ≤ x4_1
            · rw [if_pos c10] at H
              have c10b0 : decide (0 ≤ x4_1) = true := decide_eq_true c10
              clear c10
              replace H := Option.bind_eq_some_iff.mp H
              obtain ⟨t105, A110, H⟩ := H
              replace H : (if t105 = true then (spec_NameOk.l0 k1 t101 (wrap64 (x4_1 + 1))) else (some false)) = some r := H
              have A11 := Aside0.mk A110
              clear A110
              by_cases c12 : t105 = true
              · subst c12
                have H1 : (spec_NameOk.l0 k1 t101 (wrap64 (x4_1 + 1))) = some r := by rw [if_pos rfl] at H; exact H
                clear H
                have H := H1
                clear H1
                have H' := Aside0.mk H
                clear H
                have p104 : 0 ≤ (x4_1 : Int) := of_decide_eq_true (by first | (with_reducible assumption) | assumption)
                have q104 : x4_1 < (t101.length : Int) := of_decide_eq_true (by first | (with_reducible assumption) | assumption)
                obtain ⟨ad104, e104, hx104_0⟩ := Kd.at_string (Kd.R_reads' HO_3.out).2.2 x4_1 p104 q104
                cases e104
                replace p104 := eq_true p104
                replace q104 := eq_true q104
                go_wp2_with (first | ((with_reducible refine gate_callee (f := 114) rfl ?_); refine goesL_ (some 23) rfl rfl Tryd.func114 (by kernel_rfl) rfl #[.string (rdOf ByteArray.empty t101 x4_1)] rfl (by (try simp only [List.map_toArray, List.map_cons, List.map_nil]); first | done | rfl | (simp only [List.length_drop, List.length_take]; rfl)) ?_; (with_reducible refine (spec_l02Part.calls k1 (rdOf ByteArray.empty t101 x4_1) true _ A11.out).mono ?_); rintro e w' ⟨rfl, ⟨nd, rfl⟩⟩; refine ⟨_, rfl, ?_⟩))
                go_roundg k1
                case measure => have := HK1.out; omega
                case rel => exact ⟨(wrap64 (x4_1 + 1)), (by first | rfl | (simp; done) | (simp [*]; done)), H', ⟨by have := HK1.out; omega⟩, ⟨by (with_reducible repeat (first | apply Kd.R_alloc | apply Kd.R_drewN | apply Kd.R_drew)); exact HO_3.out⟩, ⟨by repeat (first | (with_reducible first | exact HB.out | apply below_alloc | apply pw_below_drewN | apply below_drew1) | exact HB.out)⟩⟩
              · replace c12 := Bool.eq_false_iff.mpr c12
                subst c12
                have H1 : (some false) = some r := by rw [if_neg (show ¬ (false = true) by decide)] at H; exact H
                clear H
                have H := H1
                clear H1
                obtain rfl := Option.some.inj H
                have p104 : 0 ≤ (x4_1 : Int) := of_decide_eq_true (by first | (with_reducible assumption) | assumption)
                have q104 : x4_1 < (t101.length : Int) := of_decide_eq_true (by first | (with_reducible assumption) | assumption)
                obtain ⟨ad104, e104, hx104_0⟩ := Kd.at_string (Kd.R_reads' HO_3.out).2.2 x4_1 p104 q104
                cases e104
                replace p104 := eq_true p104
                replace q104 := eq_true q104
                go_wp2_with (first | ((with_reducible refine gate_callee (f := 114) rfl ?_); refine goesL_ (some 23) rfl rfl Tryd.func114 (by kernel_rfl) rfl #[.string (rdOf ByteArray.empty t101 x4_1)] rfl (by (try simp only [List.map_toArray, List.map_cons, List.map_nil]); first | done | rfl | (simp only [List.length_drop, List.length_take]; rfl)) ?_; (with_reducible refine (spec_l02Part.calls k1 (rdOf ByteArray.empty t101 x4_1) false _ A11.out).mono ?_); rintro e w' ⟨rfl, ⟨nd, rfl⟩⟩; refine ⟨_, rfl, ?_⟩))
                go_ret
                exact ⟨by first | rfl | (simp [errW_none, errW_some] <;> rfl) | (simp [*, errW_none, errW_some] <;> rfl), by repeat (first | (with_reducible first | exact HB.out | apply below_alloc | apply pw_below_drewN | apply below_drew1) | exact HB.out)⟩
            · rw [if_neg c10] at H
              exact absurd H (by simp)
          · rw [if_neg c9] at H
            have c9b0 : decide (x4_1 < (t101.length : Int)) = false := decide_eq_false c9
            clear c9
            obtain rfl := Option.some.inj H
            go_wp2
            go_ret
            exact ⟨by first | rfl | (simp [errW_none, errW_some] <;> rfl) | (simp [*, errW_none, errW_some] <;> rfl), by repeat (first | (with_reducible first | exact HB.out | apply below_alloc | apply pw_below_drewN | apply below_drew1) | exact HB.out)⟩

/-- THE ONE PURE STATEMENT of spec_NameOk: yours. -/
def spec_NameOk.Pure : Prop := ∀ (a0 : ByteArray), a0.size ≤ 140737488351232 → ∃ k, spec_NameOk.f k a0 = some true
theorem spec_NameOk.walk (P : spec_NameOk.Pure) (a0 : ByteArray) (w : World) (w0 : a0.size ≤ 140737488351232) :
    Calls Tryd.prog 100 #[.string a0] w fun e w' => e = .returned (.bool true) ∧ Below w.heap.size w w' := by
  obtain ⟨k, h⟩ := P a0 w0
  refine (spec_NameOk.calls k a0 true w h).mono ?_
  rintro e w' ⟨rfl, hd⟩
  exact ⟨rfl, hd⟩

end Go.Proofs.YtefiapcfdabfpaaDoor.P

namespace Go.Proofs.YtefiapcfdabfpaaDoor.P
open Go.RowKit Go.Proofs.YtefiapcfdabfpaaDoorW.PrintWords Go.Proofs.YtefiapcfdabfpaaDoorW.PrintLast Go.Proofs.YtefiapcfdabfpaaDoorW.PrintMore
set_option maxRecDepth 100000
set_option maxHeartbeats 8000000
/-- A node of the reference in a block of its own. -/
def Nd (w : World) (b : Nat) (k num : Int) (text : ByteArray) (v : Value) : Prop :=
  w.heap[b]? = some (.cells #[.int .u8 k, .int .i64 0, .int .i64 0, .int .i64 0, .int .i64 num, .string text, v] 43 (0, 0))
theorem Nd.cells {w : World} {b : Nat} {k num : Int} {text : ByteArray} {v : Value} (h : Nd w b k num text v) :
    w.cell? ⟨b, 0, none⟩ = some (.int .u8 k) ∧ w.cell? ⟨b, 1, none⟩ = some (.int .i64 0) ∧ w.cell? ⟨b, 2, none⟩ = some (.int .i64 0) ∧ w.cell? ⟨b, 3, none⟩ = some (.int .i64 0) ∧ w.cell? ⟨b, 4, none⟩ = some (.int .i64 num) ∧ w.cell? ⟨b, 5, none⟩ = some (.string text) ∧ w.cell? ⟨b, 6, none⟩ = some v := by
  refine ⟨?_, ?_, ?_, ?_, ?_, ?_, ?_⟩
  all_goals
    unfold World.cell?
    rw [h]
    rfl
theorem Nd.f {w : World} {b : Nat} {k num : Int} {text : ByteArray} {v : Value} (h : Nd w b k num text v) (o : Nat) : w.frozen? ⟨b, o, none⟩ = false := by unfold World.frozen?; rw [h]; simp
theorem Nd.set4 {w : World} {b : Nat} {k num : Int} {text : ByteArray} {v : Value} (h : Nd w b k num text v) (n : Int) : Nd (w.setCell ⟨b, 4, none⟩ (.int .i64 n)) b k n text v := by
  unfold Nd at h ⊢
  simp [World.setCell, Array.getElem?_modify, h]
theorem Nd.set5 {w : World} {b : Nat} {k num : Int} {text : ByteArray} {v : Value} (h : Nd w b k num text v) (x : ByteArray) : Nd (w.setCell ⟨b, 5, none⟩ (.string x)) b k num x v := by
  unfold Nd at h ⊢
  simp [World.setCell, Array.getElem?_modify, h]
theorem Nd.set6 {w : World} {b : Nat} {k num : Int} {text : ByteArray} {v : Value} (h : Nd w b k num text v) (x : Value) : Nd (w.setCell ⟨b, 6, none⟩ x) b k num text x := by
  unfold Nd at h ⊢
  simp [World.setCell, Array.getElem?_modify, h]
theorem Nd.old {w w' : World} {b : Nat} {k num : Int} {text : ByteArray} {v : Value} (h : Nd w b k num text v) (hb : w'.heap[b]? = w.heap[b]?) : Nd w' b k num text v := hb.trans h
theorem Nd.lt {w : World} {b : Nat} {k num : Int} {text : ByteArray} {v : Value} (h : Nd w b k num text v) : b < w.heap.size := by
  unfold Nd at h
  rcases Nat.lt_or_ge b w.heap.size with h0 | h0
  · exact h0
  · rw [Array.getElem?_eq_none h0] at h; cases h
/-- The world in which a leaf is read: the result's block and the local's. -/
def L0 (w : World) (k : Int) : World := (w.alloc (.cells #[.int .u8 0, .int .i64 0, .int .i64 0, .int .i64 0, .int .i64 0, .string ⟨#[]⟩, .slice none 0 0] 43)).alloc (.cells #[.int .u8 k, .int .i64 0, .int .i64 0, .int .i64 0, .int .i64 0, .string ⟨#[]⟩, .slice none 0 0] 43)
theorem L0_size (w : World) (k : Int) : (L0 w k).heap.size = w.heap.size + 2 := by unfold L0; rw [alloc_size, alloc_size]
theorem L0_below (w : World) (k : Int) : Below w.heap.size w (L0 w k) := below_alloc (below_alloc (Below.refl _ _) _) _
theorem L0_r (w : World) (k : Int) : Nd (L0 w k) w.heap.size 0 0 ⟨#[]⟩ (.slice none 0 0) := by
  unfold Nd L0
  rw [alloc_old _ _ _ (by rw [alloc_size]; omega), alloc_here]
theorem L0_n (w : World) (k : Int) : Nd (L0 w k) (w.heap.size + 1) k 0 ⟨#[]⟩ (.slice none 0 0) := by
  unfold Nd L0
  have h := alloc_here (w.alloc (.cells #[.int .u8 0, .int .i64 0, .int .i64 0, .int .i64 0, .int .i64 0, .string ⟨#[]⟩, .slice none 0 0] 43)) (.cells #[.int .u8 k, .int .i64 0, .int .i64 0, .int .i64 0, .int .i64 0, .string ⟨#[]⟩, .slice none 0 0] 43)
  rw [alloc_size] at h
  exact h
structure Lf (w w2 : World) (k : Int) : Prop where
  r : Nd w2 w.heap.size 0 0 ⟨#[]⟩ (.slice none 0 0)
  n : Nd w2 (w.heap.size + 1) k 0 ⟨#[]⟩ (.slice none 0 0)
  b : Below w.heap.size w w2
theorem lf_of {w w2 : World} {k : Int} (h : Below (L0 w k).heap.size (L0 w k) w2) : Lf w w2 k :=
  ⟨(L0_r w k).old (h.block _ (by rw [L0_size]; omega)), (L0_n w k).old (h.block _ (by rw [L0_size]; omega)), below_step (L0_below w k) h⟩
/-- The result's block, filled. -/
def fillN (X : World) (b : Nat) (k num : Int) (text : ByteArray) (v : Value) : World :=
  ((((((X.setCell ⟨b, 0, none⟩ (.int .u8 k)).setCell ⟨b, 1, none⟩ (.int .i64 0)).setCell ⟨b, 2, none⟩ (.int .i64 0)).setCell ⟨b, 3, none⟩ (.int .i64 0)).setCell ⟨b, 4, none⟩ (.int .i64 num)).setCell ⟨b, 5, none⟩ (.string text)).setCell ⟨b, 6, none⟩ v
theorem fillN_nd {X : World} {b : Nat} {k0 n0 : Int} {t0 : ByteArray} {v0 : Value} (h : Nd X b k0 n0 t0 v0) (k num : Int) (text : ByteArray) (v : Value) : Nd (fillN X b k num text v) b k num text v := by
  unfold Nd at h
  unfold Nd fillN
  simp [World.setCell, Array.getElem?_modify, h]
theorem fillN_heap (X : World) (b : Nat) (k num : Int) (text : ByteArray) (v : Value) (g : Nat) (h : g ≠ b) : (fillN X b k num text v).heap[g]? = X.heap[g]? := by
  unfold fillN
  rw [set_heap _ _ _ _ _ h, set_heap _ _ _ _ _ h, set_heap _ _ _ _ _ h, set_heap _ _ _ _ _ h, set_heap _ _ _ _ _ h, set_heap _ _ _ _ _ h, set_heap _ _ _ _ _ h]
theorem fillN_below {w X : World} {B : Nat} (h : Below B w X) (b : Nat) (hb : B ≤ b) (k num : Int) (text : ByteArray) (v : Value) : Below B w (fillN X b k num text v) := by
  unfold fillN
  exact ((((((h.setCell (p := ⟨b, 0, none⟩) hb _).setCell (p := ⟨b, 1, none⟩) hb _).setCell (p := ⟨b, 2, none⟩) hb _).setCell (p := ⟨b, 3, none⟩) hb _).setCell (p := ⟨b, 4, none⟩) hb _).setCell (p := ⟨b, 5, none⟩) hb _).setCell (p := ⟨b, 6, none⟩) hb _
/-- What l06Leaf hands back. -/
def LeafP (w : World) (x : Option (S43 × Nat)) (e : Ending) (w' : World) : Prop :=
  Below w.heap.size w w' ∧ match x with
    | some (n, en) => ∃ v6, e = .returned (.tuple #[.agg #[.int .u8 n.f0, .int .i64 n.f1, .int .i64 n.f2, .int .i64 n.f3, .int .i64 n.f4, .string n.f5, v6], .int .i64 (en : Int)]) ∧ Kd.R Kd.string 9 w' w.heap.size (fun _ => True) v6 n.f6
    | none => ∃ k n x A m c, e = .returned (.tuple #[.agg #[.int .u8 k, .int .i64 0, .int .i64 0, .int .i64 0, .int .i64 n, .string x, .slice A m c], .int .i64 (-1)])
theorem leaf_var (s : ByteArray) (a : Nat) (v : Int) (en : Int) (w : World) (hs : s.size ≤ 2000) (hlt : a < s.size) (hk : bt s (a : Int) = 118) (hd : spec_l06Digits.f 3000 s ((a + 1 : Nat) : Int) = some (v, en)) (hen : en = -1 ∨ ∃ m : Nat, en = (m : Int) ∧ m ≤ s.size) :
    Calls Tryd.prog 81 #[.string s, .int .i64 (a : Int)] w (LeafP w (if 0 ≤ en ∧ en < (s.size : Int) ∧ bt s en = 46 then some (⟨118, 0, 0, 0, v, ⟨#[]⟩, []⟩, en.toNat + 1) else none)) := by
  have hb : ((s[a]'hlt).toNat : Int) = 118 := by rw [← hk]; exact bt_at s a hlt
  have hD := fun w => spec_l06Digits.calls 3000 s ((a + 1 : Nat) : Int) v en w hd
  clear hk hd
  rcases hen with rfl | ⟨m, rfl, hm⟩
  · rw [if_neg (fun h => by omega)]
    go_enter Tryd.func81, Tryd.ntmps81
    go_wp2_with (first | (go_at_call 98; refine (hD _).mono ?_; rintro e w2 ⟨rfl, hb2⟩; have hL := lf_of (k := 118) hb2; clear hb2; have hX := hL.n.set4 v; obtain ⟨x0, x1, x2, x3, x4, x5, x6⟩ := hX.cells; have x4' := hL.n.cells.2.2.2.2.1; have f4 := hL.n.f 4; have hR := hL.r.old (set_heap w2 (w.heap.size + 1) 4 (.int .i64 v) w.heap.size (by omega)); obtain ⟨y0, y1, y2, y3, y4, y5, y6⟩ := hR.cells; have fR := hR.f))
    have hF := fillN_nd hR 118 v ⟨#[]⟩ (.slice none 0 0)
    have hFb := fillN_below (hL.b.setCell (p := ⟨w.heap.size + 1, 4, none⟩) (Nat.le_succ _) (.int .i64 v)) w.heap.size (Nat.le_refl _) 118 v ⟨#[]⟩ (.slice none 0 0)
    clear hD
    obtain ⟨z0, z1, z2, z3, z4, z5, z6⟩ := hF.cells
    refine bodyPost_ret (v := .tuple #[.agg #[.int .u8 118, .int .i64 0, .int .i64 0, .int .i64 0, .int .i64 v, .string ⟨#[]⟩, (.slice none 0 0)], .int .i64 (-1)]) ?_ rfl ?_
    · unfold fillN at z0 z1 z2 z3 z4 z5 z6
      clear hF hFb
      simp [results, Tryd.results81, go_sem, z0, z1, z2, z3, z4, z5, z6]
    · exact ⟨hFb, _, _, _, _, _, _, rfl⟩
  · by_cases h1 : m < s.size
    · by_cases h2 : bt s (m : Int) = 46
      · rw [if_pos ⟨by omega, by omega, h2⟩]
        have hx : (((s[m]'h1).toNat : Int) != 46) = false := bne_eq_false_iff_eq.mpr ((bt_at s m h1).trans h2)
        clear h2 hm
        go_enter Tryd.func81, Tryd.ntmps81
        go_wp2_with (first | (go_at_call 98; refine (hD _).mono ?_; rintro e w2 ⟨rfl, hb2⟩; have hL := lf_of (k := 118) hb2; clear hb2; have hX := hL.n.set4 v; obtain ⟨x0, x1, x2, x3, x4, x5, x6⟩ := hX.cells; have x4' := hL.n.cells.2.2.2.2.1; have f4 := hL.n.f 4; have hR := hL.r.old (set_heap w2 (w.heap.size + 1) 4 (.int .i64 v) w.heap.size (by omega)); obtain ⟨y0, y1, y2, y3, y4, y5, y6⟩ := hR.cells; have fR := hR.f))
        have hF := fillN_nd hR 118 v ⟨#[]⟩ (.slice none 0 0)
        have hFb := fillN_below (hL.b.setCell (p := ⟨w.heap.size + 1, 4, none⟩) (Nat.le_succ _) (.int .i64 v)) w.heap.size (Nat.le_refl _) 118 v ⟨#[]⟩ (.slice none 0 0)
        clear hD
        obtain ⟨z0, z1, z2, z3, z4, z5, z6⟩ := hF.cells
        refine bodyPost_ret (v := .tuple #[.agg #[.int .u8 118, .int .i64 0, .int .i64 0, .int .i64 0, .int .i64 v, .string ⟨#[]⟩, (.slice none 0 0)], .int .i64 (((m + 1 : Nat) : Int))]) ?_ rfl ?_
        · unfold fillN at z0 z1 z2 z3 z4 z5 z6
          clear hF hFb
          simp [results, Tryd.results81, go_sem, z0, z1, z2, z3, z4, z5, z6]
        · exact ⟨hFb, _, rfl, Kd.R_nil _ _ _ _ _⟩
      · rw [if_neg (fun h => h2 h.2.2)]
        have hx : (((s[m]'h1).toNat : Int) != 46) = true := bne_iff_ne.mpr (fun h => h2 ((bt_at s m h1).symm.trans h))
        clear h2 hm
        go_enter Tryd.func81, Tryd.ntmps81
        go_wp2_with (first | (go_at_call 98; refine (hD _).mono ?_; rintro e w2 ⟨rfl, hb2⟩; have hL := lf_of (k := 118) hb2; clear hb2; have hX := hL.n.set4 v; obtain ⟨x0, x1, x2, x3, x4, x5, x6⟩ := hX.cells; have x4' := hL.n.cells.2.2.2.2.1; have f4 := hL.n.f 4; have hR := hL.r.old (set_heap w2 (w.heap.size + 1) 4 (.int .i64 v) w.heap.size (by omega)); obtain ⟨y0, y1, y2, y3, y4, y5, y6⟩ := hR.cells; have fR := hR.f))
        have hF := fillN_nd hR 118 v ⟨#[]⟩ (.slice none 0 0)
        have hFb := fillN_below (hL.b.setCell (p := ⟨w.heap.size + 1, 4, none⟩) (Nat.le_succ _) (.int .i64 v)) w.heap.size (Nat.le_refl _) 118 v ⟨#[]⟩ (.slice none 0 0)
        clear hD
        obtain ⟨z0, z1, z2, z3, z4, z5, z6⟩ := hF.cells
        refine bodyPost_ret (v := .tuple #[.agg #[.int .u8 118, .int .i64 0, .int .i64 0, .int .i64 0, .int .i64 v, .string ⟨#[]⟩, (.slice none 0 0)], .int .i64 (-1)]) ?_ rfl ?_
        · unfold fillN at z0 z1 z2 z3 z4 z5 z6
          clear hF hFb
          simp [results, Tryd.results81, go_sem, z0, z1, z2, z3, z4, z5, z6]
        · exact ⟨hFb, _, _, _, _, _, _, rfl⟩
    · rw [if_neg (fun h => by omega)]
      obtain rfl : m = s.size := by omega
      clear h1 hm
      go_enter Tryd.func81, Tryd.ntmps81
      go_wp2_with (first | (go_at_call 98; refine (hD _).mono ?_; rintro e w2 ⟨rfl, hb2⟩; have hL := lf_of (k := 118) hb2; clear hb2; have hX := hL.n.set4 v; obtain ⟨x0, x1, x2, x3, x4, x5, x6⟩ := hX.cells; have x4' := hL.n.cells.2.2.2.2.1; have f4 := hL.n.f 4; have hR := hL.r.old (set_heap w2 (w.heap.size + 1) 4 (.int .i64 v) w.heap.size (by omega)); obtain ⟨y0, y1, y2, y3, y4, y5, y6⟩ := hR.cells; have fR := hR.f))
      have hF := fillN_nd hR 118 v ⟨#[]⟩ (.slice none 0 0)
      have hFb := fillN_below (hL.b.setCell (p := ⟨w.heap.size + 1, 4, none⟩) (Nat.le_succ _) (.int .i64 v)) w.heap.size (Nat.le_refl _) 118 v ⟨#[]⟩ (.slice none 0 0)
      clear hD
      obtain ⟨z0, z1, z2, z3, z4, z5, z6⟩ := hF.cells
      refine bodyPost_ret (v := .tuple #[.agg #[.int .u8 118, .int .i64 0, .int .i64 0, .int .i64 0, .int .i64 v, .string ⟨#[]⟩, (.slice none 0 0)], .int .i64 (-1)]) ?_ rfl ?_
      · unfold fillN at z0 z1 z2 z3 z4 z5 z6
        clear hF hFb
        simp [results, Tryd.results81, go_sem, z0, z1, z2, z3, z4, z5, z6]
      · exact ⟨hFb, _, _, _, _, _, _, rfl⟩
end Go.Proofs.YtefiapcfdabfpaaDoor.P

namespace Go.Proofs.YtefiapcfdabfpaaDoor.Pure
open Go.RowKit Go.Proofs.YtefiapcfdabfpaaDoor.P Go.Proofs.YtefiapcfdabfpaaDoorW.PrintWords
def mk (l : List UInt8) : ByteArray := ⟨l.toArray⟩
theorem mk_data (s : ByteArray) : mk s.data.toList = s := by cases s; simp [mk]
theorem data_mk (l : List UInt8) : (mk l).data.toList = l := by simp [mk]
theorem toList_is (s : ByteArray) : s.toList = s.data.toList := by rw [ByteArray.toList_eq]
def cut1 (c : UInt8) : List UInt8 → List (List UInt8)
  | [] => [[]]
  | b :: l => if b = c then [] :: cut1 c l else match cut1 c l with
    | [] => [[b]]
    | h :: t => (b :: h) :: t
theorem cut1_ne (c : UInt8) : ∀ l, cut1 c l ≠ []
  | [] => by simp [cut1]
  | b :: l => by
    unfold cut1
    split
    · simp
    · split <;> simp
theorem cut1_length (c : UInt8) : ∀ l, (cut1 c l).length ≤ l.length + 1
  | [] => by simp [cut1]
  | b :: l => by
    have := cut1_length c l
    unfold cut1
    split
    · simp; omega
    · split
      · simp
      · rename_i h t e; rw [e] at this; simp at this ⊢; omega
theorem split_cut1 (c : UInt8) : ∀ l, Lib.splitK [c] 0 (Lib.count l [c]) l = cut1 c l
  | [] => by rw [Lib.count_miss (by simp [Lib.index])]; rfl
  | b :: l => by
    have ih := split_cut1 c l
    by_cases h : b = c
    · subst h
      have hix : Lib.index (b :: l) [b] = 0 := by rw [Lib.index]; simp [List.isPrefixOf]
      rw [Lib.count_cons_eq, Nat.add_comm, Lib.splitK, hix]
      simp only [cut1, if_true]
      rw [← ih]
      rfl
    · have hp : ([c] : List UInt8).isPrefixOf (b :: l) = false := by simp [List.isPrefixOf, Ne.symm h]
      have hix : Lib.index (b :: l) [c] = if Lib.index l [c] == -1 then -1 else Lib.index l [c] + 1 := by rw [Lib.index, hp]; simp
      rw [Lib.count_cons_ne b c l h]
      unfold cut1
      rw [if_neg h, ← ih]
      cases hk : Lib.count l [c] with
      | zero => rfl
      | succ k =>
        have hge := Lib.index_ge l [c]
        have hm : ¬ Lib.index l [c] = -1 := fun e => by rw [Lib.count_miss e] at hk; cases hk
        obtain ⟨i, hi⟩ : ∃ i : Nat, Lib.index l [c] = i := ⟨(Lib.index l [c]).toNat, by omega⟩
        have hix' : Lib.index (b :: l) [c] = ((i + 1 : Nat) : Int) := by rw [hix, if_neg (fun e => hm (beq_iff_eq.1 e)), hi]; omega
        rw [Lib.splitK, Lib.splitK, hix', hi, if_neg (by simp; omega), if_neg (by simp)]
        simp
/-- The texts between the bytes c of s. -/
def cuts (c : UInt8) (s : ByteArray) : List ByteArray := (cut1 c s.data.toList).map mk
theorem splitB_cuts (c : UInt8) (s : ByteArray) : Lib.splitB ⟨#[c]⟩ 0 (Lib.countB s ⟨#[c]⟩) s = cuts c s := by
  have h := Lib.splitB_data ⟨#[c]⟩ 0 (Lib.countB s ⟨#[c]⟩) s
  rw [show Lib.countB s ⟨#[c]⟩ = Lib.count s.data.toList [c] from rfl, show ((⟨#[c]⟩ : ByteArray).data.toList) = [c] from rfl, split_cut1] at h
  unfold cuts
  rw [← h, List.map_map]
  rw [show (mk ∘ fun x : ByteArray => x.data.toList) = id from funext fun x => mk_data x, List.map_id]
theorem cuts_length (c : UInt8) (s : ByteArray) : (cuts c s).length ≤ s.size + 1 := by
  have := cut1_length c s.data.toList
  unfold cuts
  simpa using this
theorem cuts_ne (c : UInt8) (s : ByteArray) : 0 < (cuts c s).length := by
  unfold cuts
  have := cut1_ne c s.data.toList
  rw [List.length_map]
  exact List.length_pos_iff.2 this
theorem split_is (c : UInt8) (s : ByteArray) (hs : s.size ≤ 4294967280) : strings_Split.f s ⟨#[c]⟩ = some (cuts c s) := by
  unfold strings_Split.f
  rw [if_pos ⟨by show 1 ≤ 1; omega, by omega⟩, splitB_cuts]
theorem btl (s : ByteArray) (i : Nat) (h : i < s.data.toList.length) : bt s (i : Int) = (s.data.toList[i]'h).toNat := by
  have h' : i < s.size := by simpa using h
  unfold bt
  rw [dif_pos (by simpa using h')]
  rfl
theorem ex_data (s : ByteArray) (a b : Nat) : (s.extract a b).data.toList = (s.data.toList.take b).drop a := by
  rw [ByteArray.data_extract, Array.toList_extract]
  simp [List.drop_take]
theorem cut_loop (c : UInt8) (s : ByteArray) (hs : s.size ≤ 1000000000) (d : Nat) : ∀ (a i : Nat) (out : List ByteArray), i + d = s.size → a ≤ i → out.length ≤ a → ∀ k, d + 1 < k →
    spec_l02Cut.l0 k s (c.toNat : Int) out (a : Int) (i : Int) = some (out ++ (match cut1 c (s.data.toList.drop i) with
      | [] => []
      | h :: t => mk ((s.data.toList.take i).drop a ++ h) :: t.map mk)) := by
  induction d with
  | zero =>
    intro a i out hi ha ho k hk
    obtain ⟨k, rfl⟩ : ∃ m, k = m + 2 := ⟨k - 2, by omega⟩
    have e : wrap64 ((i : Int) + 1) = (i : Int) + 1 := by unfold wrap64; omega
    simp only [spec_l02Cut.l0]
    rw [if_pos (by omega), if_pos (by omega), if_pos (by omega), if_pos (by omega), if_pos (by omega), e, if_neg (by omega)]
    rw [List.drop_eq_nil_of_le (by simp; omega)]
    simp only [cut1, List.append_nil, List.map_nil, Int.toNat_natCast]
    rw [← ex_data, mk_data]
  | succ d ih =>
    intro a i out hi ha ho k hk
    obtain ⟨k, rfl⟩ : ∃ m, k = m + 1 := ⟨k - 1, by omega⟩
    have hl : i < s.data.toList.length := by simp; omega
    have e : wrap64 ((i : Int) + 1) = ((i + 1 : Nat) : Int) := by unfold wrap64; omega
    simp only [spec_l02Cut.l0]
    rw [if_pos (by omega), if_neg (by omega), if_pos (by omega), if_pos (by omega), btl s i hl, e]
    have hdrop := List.drop_eq_getElem_cons hl
    by_cases hc : s.data.toList[i] = c
    · rw [if_pos (by rw [hc]), if_pos (by omega), if_pos (by omega), if_pos (by omega), ih (i + 1) (i + 1) _ (by omega) (by omega) (by simp; omega) k (by omega)]
      rw [hdrop, cut1, if_pos hc]
      simp only [Int.toNat_natCast, List.append_nil, List.append_assoc, List.singleton_append]
      rw [show mk (List.drop a (List.take i s.data.toList)) = s.extract a i from by rw [← ex_data, mk_data]]
      have hnil : (s.data.toList.take (i + 1)).drop (i + 1) = [] := List.drop_eq_nil_of_le (by rw [List.length_take]; omega)
      rw [hnil]
      cases hq : cut1 c (s.data.toList.drop (i + 1)) with
      | nil => exact absurd hq (cut1_ne _ _)
      | cons h t => rfl
    · rw [if_neg (by intro he; exact hc (UInt8.toNat_inj.1 (by omega))), ih a (i + 1) out (by omega) (by omega) ho k (by omega)]
      rw [hdrop, cut1, if_neg hc]
      congr 2
      cases hq : cut1 c (s.data.toList.drop (i + 1)) with
      | nil => exact absurd hq (cut1_ne _ _)
      | cons h t =>
        simp only
        have : (s.data.toList.take (i + 1)).drop a ++ h = (s.data.toList.take i).drop a ++ s.data.toList[i] :: h := by
          rw [List.take_succ_eq_append_getElem hl, List.drop_append_of_le_length (by simp; omega)]
          simp
        rw [this]
theorem l02Cut_is (c : UInt8) (s : ByteArray) (hs : s.size ≤ 1000000000) (k : Nat) (hk : s.size + 2 < k) : spec_l02Cut.f k s (c.toNat : Int) = some (cuts c s) := by
  unfold spec_l02Cut.f
  have := cut_loop c s hs s.size 0 0 [] (by omega) (by omega) (by simp) k (by omega)
  rw [show ((0 : Nat) : Int) = 0 from rfl] at this
  rw [this]
  unfold cuts
  simp only [List.drop_zero, List.nil_append, List.take_zero]
  cases hq : cut1 c s.data.toList with
  | nil => exact absurd hq (cut1_ne _ _)
  | cons h t => rfl
end Go.Proofs.YtefiapcfdabfpaaDoor.Pure

namespace Go.Proofs.YtefiapcfdabfpaaDoor.Pure
open Go.RowKit Go.Proofs.YtefiapcfdabfpaaDoor.P Go.Proofs.YtefiapcfdabfpaaDoorW.PrintWords
theorem spart_loop (s : ByteArray) (hs : s.size ≤ 140737488351232) (d : Nat) : ∀ (i : Nat), i + d = s.size → ∀ k, d < k → spec_l02Part.l0 k s (i : Int) = some ((s.data.toList.drop i).all lowNum) := by
  induction d with
  | zero =>
    intro i hi k hk
    obtain ⟨k, rfl⟩ : ∃ m, k = m + 1 := ⟨k - 1, by omega⟩
    simp only [spec_l02Part.l0]
    rw [if_neg (by omega), List.drop_eq_nil_of_le (by simp; omega)]
    rfl
  | succ d ih =>
    intro i hi k hk
    obtain ⟨k, rfl⟩ : ∃ m, k = m + 1 := ⟨k - 1, by omega⟩
    have hl : i < s.data.toList.length := by simp; omega
    have e : wrap64 ((i : Int) + 1) = ((i + 1 : Nat) : Int) := by unfold wrap64; omega
    simp only [spec_l02Part.l0]
    rw [if_pos (by omega), if_pos (by omega), bt_list s i hl, e, ih (i + 1) (by omega) k (by omega), List.drop_eq_getElem_cons hl, List.all_cons]
    generalize (s.data.toList.drop (i + 1)).all lowNum = R
    generalize s.data.toList[i] = c
    unfold lowNum lowOk
    have := c.toNat_lt
    by_cases h1 : ((c.toNat : Nat) : Int) ≥ 97
    · rw [if_pos h1]
      by_cases h2 : ((c.toNat : Nat) : Int) ≤ 122
      · rw [if_pos h2, decide_eq_true (by omega)]; rfl
      · rw [if_neg h2, if_pos (by omega), if_neg (by omega), decide_eq_false (by omega), decide_eq_false (by omega)]; rfl
    · rw [if_neg h1]
      by_cases h3 : ((c.toNat : Nat) : Int) ≥ 48
      · rw [if_pos h3]
        by_cases h4 : ((c.toNat : Nat) : Int) ≤ 57
        · rw [if_pos h4, decide_eq_false (by omega), decide_eq_true (by omega)]; rfl
        · rw [if_neg h4, decide_eq_false (by omega), decide_eq_false (by omega)]; rfl
      · rw [if_neg h3, decide_eq_false (by omega), decide_eq_false (by omega)]; rfl
theorem spart_is (s : ByteArray) (hs : s.size ≤ 140737488351232) (k : Nat) (hk : s.size + 5 < k) : spec_l02Part.f k s = some (namePart s.data.toList) := by
  obtain ⟨k, rfl⟩ : ∃ m, k = m + 1 := ⟨k - 1, by omega⟩
  unfold spec_l02Part.f
  rcases hl : s.data.toList with _ | ⟨c, l⟩
  · have hz : s.size = 0 := by have : s.data.toList.length = s.size := by simp
                               rw [hl] at this; simpa using this.symm
    rw [if_pos (by omega)]
    simp only [spec_l02Part.j0, if_true]
    rfl
  · have hz : 0 < s.data.toList.length := by rw [hl]; simp
    have hz' : 0 < s.size := by simpa using hz
    rw [if_neg (by omega), if_pos (by omega)]
    have hb := bt_list s 0 hz
    simp only [hl, List.getElem_cons_zero] at hb
    have hb' : bt s 0 = (c.toNat : Int) := hb
    rw [hb']
    have hloop := spart_loop s hs s.size 0 (by omega) k (by omega)
    rw [hl] at hloop
    have hj : ∀ b, spec_l02Part.j0 (k + 1) s b = if b = true then some false else some ((c :: l).all lowNum) := by
      intro b
      simp only [spec_l02Part.j0]
      rw [show (0 : Int) = ((0 : Nat) : Int) from rfl, hloop]
      rfl
    rw [hj, hj]
    unfold namePart lowOk
    have := c.toNat_lt
    by_cases h1 : ((c.toNat : Nat) : Int) < 97
    · rw [if_pos h1, if_pos rfl]; simp only; rw [decide_eq_false (by omega)]; rfl
    · rw [if_neg h1]
      by_cases h4 : ((c.toNat : Nat) : Int) > 122
      · rw [decide_eq_true h4, if_pos rfl]; simp only; rw [decide_eq_false (by omega)]; rfl
      · rw [decide_eq_false h4, if_neg (by simp)]; simp only; rw [decide_eq_true (by omega)]; rfl
theorem sname_loop (ps : List ByteArray) (hp : ∀ s ∈ ps, s.size ≤ 100) (hl : ps.length ≤ 1000) (d : Nat) : ∀ (i : Nat), i + d = ps.length → ∀ k, d + 200 < k → spec_NameOk.l0 k ps (i : Int) = some ((ps.drop i).all fun s => namePart s.data.toList) := by
  induction d with
  | zero =>
    intro i hi k hk
    obtain ⟨k, rfl⟩ : ∃ m, k = m + 1 := ⟨k - 1, by omega⟩
    simp only [spec_NameOk.l0]
    rw [if_neg (by omega), List.drop_eq_nil_of_le (by omega)]
    rfl
  | succ d ih =>
    intro i hi k hk
    obtain ⟨k, rfl⟩ : ∃ m, k = m + 1 := ⟨k - 1, by omega⟩
    have hlt : i < ps.length := by omega
    have e : wrap64 ((i : Int) + 1) = ((i + 1 : Nat) : Int) := by unfold wrap64; omega
    have hr : rdOf ByteArray.empty ps (i : Int) = ps[i] := by unfold rdOf; rw [Int.toNat_natCast, List.getD_eq_getElem?_getD, List.getElem?_eq_getElem hlt]; rfl
    have hsz := hp ps[i] (List.getElem_mem hlt)
    simp only [spec_NameOk.l0]
    rw [if_pos (by omega), if_pos (by omega), hr, spart_is _ (by omega) k (by omega), e, ih (i + 1) (by omega) k (by omega), List.drop_eq_getElem_cons hlt, List.all_cons]
    simp only [Option.bind_some]
    cases namePart ps[i].data.toList with
    | true => rw [if_pos rfl]; rfl
    | false => rw [if_neg (by decide)]; rfl
/-- What both NameOks answer. -/
def nameOkP (s : ByteArray) : Bool := if 40 < s.size then false else decide ((cuts 46 s).length ≤ 5) && (cuts 46 s).all fun x => namePart x.data.toList
theorem cuts_le (c : UInt8) (s : ByteArray) (x : ByteArray) (hx : x ∈ cuts c s) : x.size ≤ s.size := by
  rw [← splitB_cuts] at hx
  exact splitB_le _ _ _ _ hx
theorem implName_is (s : ByteArray) (hs : s.size ≤ 140737488351232) : impl_NameOk.f s = some (nameOkP s) := by
  unfold impl_NameOk.f nameOkP
  rw [if_pos hs]
  by_cases h : 40 < s.size
  · rw [if_pos h, if_pos h]
  · rw [if_neg h, if_neg h, split_is 46 s (by omega)]
    simp only [Option.bind_some]
    congr 2
    rw [List.all_eq_not_any_not]
theorem specName_is (s : ByteArray) (k : Nat) (hk : 300 < k) : spec_NameOk.f k s = some (nameOkP s) := by
  unfold spec_NameOk.f nameOkP
  by_cases h : 40 < s.size
  · rw [if_pos (by omega), if_pos h]
  · have e1 := l02Cut_is 46 s (by omega) k (by omega)
    rw [show (((46 : UInt8).toNat : Nat) : Int) = 46 from rfl] at e1
    rw [if_neg (by omega), if_neg h, e1]
    simp only [Option.bind_some]
    by_cases h5 : (cuts 46 s).length ≤ 5
    · rw [if_neg (by omega), decide_eq_true h5]
      have := sname_loop (cuts 46 s) (fun x hx => by have := cuts_le 46 s x hx; omega) (by omega) (cuts 46 s).length 0 (by omega) k (by omega)
      rw [show (0 : Int) = ((0 : Nat) : Int) from rfl, this]
      simp
    · rw [if_pos (by omega), decide_eq_false h5]; rfl
end Go.Proofs.YtefiapcfdabfpaaDoor.Pure

namespace Go.Proofs.YtefiapcfdabfpaaDoor.P
open Go.RowKit Go.Proofs.YtefiapcfdabfpaaDoorW.PrintWords Go.Proofs.YtefiapcfdabfpaaDoorW.PrintLast Go.Proofs.YtefiapcfdabfpaaDoorW.PrintMore
set_option maxRecDepth 100000
set_option maxHeartbeats 8000000
/-- The reference's node of a leaf. -/
def leafN : Te → S43
  | .var n => ⟨118, 0, 0, 0, n, ⟨#[]⟩, []⟩
  | .sort l => ⟨115, 0, 0, 0, 0, l, []⟩
  | .con n l => ⟨99, 0, 0, 0, 0, n, l⟩
  | .two k _ _ => ⟨k, 0, 0, 0, 0, ⟨#[]⟩, []⟩
  | .three _ _ _ => ⟨116, 0, 0, 0, 0, ⟨#[]⟩, []⟩
def leafX (x : Option (Te × Nat)) : Option (S43 × Nat) := x.map fun r => (leafN r.1, r.2)
theorem drop_cell (s : ByteArray) (a j : Nat) (hj : a ≤ j) (hl : j < s.size) : (s.extract a s.size).data.toList[j - a]? = some (s.data.toList[j]'(by simpa using hl)) := by
  rw [ByteArray.data_extract, Array.toList_extract, List.extract_eq_take_drop, List.take_of_length_le (by simp), List.getElem?_drop, show a + (j - a) = j from by omega, List.getElem?_eq_getElem (by simpa using hl)]
theorem byte_of (c : Nat) (hc : c < 256) : ((c : Int).toNat.toUInt8).toNat = c := by simp; omega
theorem idx_is (s : ByteArray) (c a p : Nat) (hc : c < 256) (h1 : a ≤ p) (h2 : p < s.size) (hb : bt s (p : Int) = (c : Int)) (hA : ∀ j, a ≤ j → j < p → bt s (j : Int) ≠ (c : Int)) : idx s (c : Int) a = ((p - a : Nat) : Int) := by
  have hcell : ∀ j (hj : a ≤ j) (hl : j < s.size), (s.extract a s.size).data.toList[j - a]? = some (s.data.toList[j]'(by simpa using hl)) := fun j hj hl => drop_cell s a j hj hl
  have hbt : ∀ j (hl : j < s.size), bt s (j : Int) = ((s.data.toList[j]'(by simpa using hl)).toNat : Int) := fun j hl => bt_list s j (by simpa using hl)
  rcases idx_cases s (c : Int) a with h | ⟨n, h⟩
  · unfold idx at h
    have := Lib.indexByte_none h (p - a)
    rw [hcell p h1 h2] at this
    exfalso
    apply this
    congr 1
    apply UInt8.toNat_inj.mp
    have h3 := hbt p h2
    rw [hb] at h3
    rw [byte_of c hc]
    omega
  · rw [h]
    have hl := idx_lt s (c : Int) a (by omega)
    rw [h] at hl
    simp only [Int.toNat_natCast] at hl
    unfold idx at h
    obtain ⟨g1, g2⟩ := Lib.indexByte_some h
    congr 1
    rcases Nat.lt_trichotomy (a + n) p with hlt | heq | hgt
    · exfalso
      apply hA (a + n) (by omega) hlt
      rw [hbt (a + n) hl]
      have := hcell (a + n) (by omega) hl
      rw [show a + n - a = n from by omega, g1] at this
      have := congrArg UInt8.toNat (Option.some.inj this)
      rw [byte_of c hc] at this
      omega
    · omega
    · exfalso
      apply g2 (p - a) (by omega)
      rw [hcell p h1 h2]
      congr 1
      apply UInt8.toNat_inj.mp
      have h3 := hbt p h2
      rw [hb] at h3
      rw [byte_of c hc]
      omega
/-- Where no byte is before the bound. -/
theorem idx_far (s : ByteArray) (c a p : Nat) (hc : c < 256) (h1 : a ≤ p) (hA : ∀ j, a ≤ j → j < p → bt s (j : Int) ≠ (c : Int)) : idx s (c : Int) a = -1 ∨ ∃ n : Nat, idx s (c : Int) a = (n : Int) ∧ p ≤ a + n := by
  rcases idx_cases s (c : Int) a with h | ⟨n, h⟩
  · exact .inl h
  · refine .inr ⟨n, h, ?_⟩
    have hl := idx_lt s (c : Int) a (by omega)
    rw [h] at hl
    simp only [Int.toNat_natCast] at hl
    rcases Nat.lt_or_ge (a + n) p with hlt | hge
    · exfalso
      apply hA (a + n) (by omega) hlt
      unfold idx at h
      obtain ⟨g1, g2⟩ := Lib.indexByte_some h
      rw [bt_list s (a + n) (by simpa using hl)]
      have h5 := drop_cell s a (a + n) (by omega) hl
      rw [show a + n - a = n from by omega] at h5
      rw [h5] at g1
      have := congrArg UInt8.toNat (Option.some.inj g1)
      rw [byte_of c hc] at this
      omega
    · exact hge
/-- No name: no constant. -/
theorem rdC_none (s : ByteArray) (hs : s.size ≤ 2000) (a : Nat) (h : ∀ n : Nat, idx s 59 a = (n : Int) → impl_NameOk.f (s.extract a (a + n)) = some false) : rdC s a = none := by
  unfold rdC
  rcases idx_cases s 59 a with h0 | ⟨n, h0⟩
  · rw [h0]; rfl
  · rw [h0, if_pos (by omega)]
    simp only [Int.toNat_natCast, h n h0]
    cases lvs s (s.size + 1) (a + n + 1) <;> simp
theorem name_long (s : ByteArray) (hs : s.size ≤ 2000) (h : 40 < s.size) : impl_NameOk.f s = some false := by
  unfold impl_NameOk.f
  rw [if_pos (by omega), if_pos h]
end Go.Proofs.YtefiapcfdabfpaaDoor.P

namespace Go.Proofs.YtefiapcfdabfpaaDoor.P
open Go.RowKit Go.Proofs.YtefiapcfdabfpaaDoorW.PrintWords Go.Proofs.YtefiapcfdabfpaaDoorW.PrintLast Go.Proofs.YtefiapcfdabfpaaDoorW.PrintMore
set_option maxRecDepth 100000
set_option maxHeartbeats 8000000
theorem below_drawn0 {w w' : World} (h : Drawn0 w w') : Below w.heap.size w w' := by
  obtain ⟨q, rfl⟩ := h
  exact pw_below_drewN (Below.refl _ _) q
theorem leaf_sort (s : ByteArray) (a : Nat) (en : Int) (w : World) (hs : s.size ≤ 2000) (hlt : a < s.size) (hk : bt s (a : Int) = 115) (hd : spec_l06Level.f 10000 s ((a + 1 : Nat) : Int) = some en) (hen : en = -1 ∨ ∃ m : Nat, en = (m : Int) ∧ m ≤ s.size ∧ a + 1 ≤ m) :
    Calls Tryd.prog 81 #[.string s, .int .i64 (a : Int)] w (LeafP w (if 0 ≤ en ∧ en < (s.size : Int) ∧ bt s en = 46 then some (⟨115, 0, 0, 0, 0, s.extract (a + 1) en.toNat, []⟩, en.toNat + 1) else none)) := by
  have hb : ((s[a]'hlt).toNat : Int) = 115 := by rw [← hk]; exact bt_at s a hlt
  have hD := fun w => (spec_l06Level.calls 10000 s ((a + 1 : Nat) : Int) en w hd).mono fun e w' h => (⟨h.1, below_drawn0 h.2⟩ : e = .returned (.int .i64 en) ∧ Below w.heap.size w w')
  clear hk hd
  rcases hen with rfl | ⟨m, rfl, hm, hm2⟩
  · rw [if_neg (fun h => by omega)]
    go_enter Tryd.func81, Tryd.ntmps81
    go_wp2_with (first | (go_at_call 99; refine (hD _).mono ?_; rintro e w2 ⟨rfl, hb2⟩; have hL := lf_of (k := 115) hb2; clear hb2; obtain ⟨x0, x1, x2, x3, x4, x5, x6⟩ := hL.n.cells; have hR := hL.r; obtain ⟨y0, y1, y2, y3, y4, y5, y6⟩ := hR.cells; have fR := hR.f))
    have hF := fillN_nd hR 115 0 ⟨#[]⟩ (.slice none 0 0)
    have hFb := fillN_below hL.b w.heap.size (Nat.le_refl _) 115 0 ⟨#[]⟩ (.slice none 0 0)
    (try clear hD)
    obtain ⟨z0, z1, z2, z3, z4, z5, z6⟩ := hF.cells
    refine bodyPost_ret (v := .tuple #[.agg #[.int .u8 115, .int .i64 0, .int .i64 0, .int .i64 0, .int .i64 0, .string ⟨#[]⟩, (.slice none 0 0)], .int .i64 (-1)]) ?_ rfl ?_
    · unfold fillN at z0 z1 z2 z3 z4 z5 z6
      clear hF hFb
      simp [results, Tryd.results81, go_sem, z0, z1, z2, z3, z4, z5, z6]
    · exact ⟨hFb, _, _, _, _, _, _, rfl⟩
  · by_cases h1 : m < s.size
    · by_cases h2 : bt s (m : Int) = 46
      · rw [if_pos ⟨by omega, by omega, h2⟩]
        have hx : (((s[m]'h1).toNat : Int) != 46) = false := bne_eq_false_iff_eq.mpr ((bt_at s m h1).trans h2)
        clear h2
        go_enter Tryd.func81, Tryd.ntmps81
        go_wp2_with (first | (go_at_call 99; refine (hD _).mono ?_; rintro e w2 ⟨rfl, hb2⟩; have hL := lf_of (k := 115) hb2; clear hb2; have hX := hL.n.set5 (s.extract (a + 1) m); obtain ⟨x0, x1, x2, x3, x4, x5, x6⟩ := hX.cells; have x5' := hL.n.cells.2.2.2.2.2.1; have f5 := hL.n.f 5; have hR := hL.r.old (set_heap w2 (w.heap.size + 1) 5 (.string (s.extract (a + 1) m)) w.heap.size (by omega)); obtain ⟨y0, y1, y2, y3, y4, y5, y6⟩ := hR.cells; have fR := hR.f))
        have hF := fillN_nd hR 115 0 (s.extract (a + 1) m) (.slice none 0 0)
        have hFb := fillN_below (hL.b.setCell (p := ⟨w.heap.size + 1, 5, none⟩) (Nat.le_succ _) (.string (s.extract (a + 1) m))) w.heap.size (Nat.le_refl _) 115 0 (s.extract (a + 1) m) (.slice none 0 0)
        (try clear hD)
        obtain ⟨z0, z1, z2, z3, z4, z5, z6⟩ := hF.cells
        refine bodyPost_ret (v := .tuple #[.agg #[.int .u8 115, .int .i64 0, .int .i64 0, .int .i64 0, .int .i64 0, .string (s.extract (a + 1) m), (.slice none 0 0)], .int .i64 (((m + 1 : Nat) : Int))]) ?_ rfl ?_
        · unfold fillN at z0 z1 z2 z3 z4 z5 z6
          clear hF hFb
          simp [results, Tryd.results81, go_sem, z0, z1, z2, z3, z4, z5, z6]
        · exact ⟨hFb, _, rfl, Kd.R_nil _ _ _ _ _⟩
      · rw [if_neg (fun h => h2 h.2.2)]
        have hx : (((s[m]'h1).toNat : Int) != 46) = true := bne_iff_ne.mpr (fun h => h2 ((bt_at s m h1).symm.trans h))
        clear h2
        go_enter Tryd.func81, Tryd.ntmps81
        go_wp2_with (first | (go_at_call 99; refine (hD _).mono ?_; rintro e w2 ⟨rfl, hb2⟩; have hL := lf_of (k := 115) hb2; clear hb2; have hX := hL.n.set5 (s.extract (a + 1) m); obtain ⟨x0, x1, x2, x3, x4, x5, x6⟩ := hX.cells; have x5' := hL.n.cells.2.2.2.2.2.1; have f5 := hL.n.f 5; have hR := hL.r.old (set_heap w2 (w.heap.size + 1) 5 (.string (s.extract (a + 1) m)) w.heap.size (by omega)); obtain ⟨y0, y1, y2, y3, y4, y5, y6⟩ := hR.cells; have fR := hR.f))
        have hF := fillN_nd hR 115 0 (s.extract (a + 1) m) (.slice none 0 0)
        have hFb := fillN_below (hL.b.setCell (p := ⟨w.heap.size + 1, 5, none⟩) (Nat.le_succ _) (.string (s.extract (a + 1) m))) w.heap.size (Nat.le_refl _) 115 0 (s.extract (a + 1) m) (.slice none 0 0)
        (try clear hD)
        obtain ⟨z0, z1, z2, z3, z4, z5, z6⟩ := hF.cells
        refine bodyPost_ret (v := .tuple #[.agg #[.int .u8 115, .int .i64 0, .int .i64 0, .int .i64 0, .int .i64 0, .string (s.extract (a + 1) m), (.slice none 0 0)], .int .i64 (-1)]) ?_ rfl ?_
        · unfold fillN at z0 z1 z2 z3 z4 z5 z6
          clear hF hFb
          simp [results, Tryd.results81, go_sem, z0, z1, z2, z3, z4, z5, z6]
        · exact ⟨hFb, _, _, _, _, _, _, rfl⟩
    · rw [if_neg (fun h => by omega)]
      obtain rfl : m = s.size := by omega
      clear h1 hm
      go_enter Tryd.func81, Tryd.ntmps81
      go_wp2_with (first | (go_at_call 99; refine (hD _).mono ?_; rintro e w2 ⟨rfl, hb2⟩; have hL := lf_of (k := 115) hb2; clear hb2; have hX := hL.n.set5 (s.extract (a + 1) s.size); obtain ⟨x0, x1, x2, x3, x4, x5, x6⟩ := hX.cells; have x5' := hL.n.cells.2.2.2.2.2.1; have f5 := hL.n.f 5; have hR := hL.r.old (set_heap w2 (w.heap.size + 1) 5 (.string (s.extract (a + 1) s.size)) w.heap.size (by omega)); obtain ⟨y0, y1, y2, y3, y4, y5, y6⟩ := hR.cells; have fR := hR.f))
      have hF := fillN_nd hR 115 0 (s.extract (a + 1) s.size) (.slice none 0 0)
      have hFb := fillN_below (hL.b.setCell (p := ⟨w.heap.size + 1, 5, none⟩) (Nat.le_succ _) (.string (s.extract (a + 1) s.size))) w.heap.size (Nat.le_refl _) 115 0 (s.extract (a + 1) s.size) (.slice none 0 0)
      (try clear hD)
      obtain ⟨z0, z1, z2, z3, z4, z5, z6⟩ := hF.cells
      refine bodyPost_ret (v := .tuple #[.agg #[.int .u8 115, .int .i64 0, .int .i64 0, .int .i64 0, .int .i64 0, .string (s.extract (a + 1) s.size), (.slice none 0 0)], .int .i64 (-1)]) ?_ rfl ?_
      · unfold fillN at z0 z1 z2 z3 z4 z5 z6
        clear hF hFb
        simp [results, Tryd.results81, go_sem, z0, z1, z2, z3, z4, z5, z6]
      · exact ⟨hFb, _, _, _, _, _, _, rfl⟩
def L1 (w : World) (k : Int) : World := (w.alloc (.cells #[.int .u8 k, .int .i64 0, .int .i64 0, .int .i64 0, .int .i64 0, .string ⟨#[]⟩, .slice none 0 0] 43)).alloc (.cells #[.int .u8 k, .int .i64 0, .int .i64 0, .int .i64 0, .int .i64 0, .string ⟨#[]⟩, .slice none 0 0] 43)
theorem L1_r (w : World) (k : Int) : Nd (L1 w k) w.heap.size k 0 ⟨#[]⟩ (.slice none 0 0) := by
  unfold Nd L1
  rw [alloc_old _ _ _ (by rw [alloc_size]; omega), alloc_here]
theorem leaf_other (s : ByteArray) (a : Nat) (w : World) (hs : s.size ≤ 2000) (hlt : a < s.size) (h1 : bt s (a : Int) ≠ 118) (h2 : bt s (a : Int) ≠ 115) (h3 : bt s (a : Int) ≠ 99) :
    Calls Tryd.prog 81 #[.string s, .int .i64 (a : Int)] w (LeafP w none) := by
  have hb := bt_at s a hlt
  have e1 : (((s[a]'hlt).toNat : Int) == 118) = false := beq_eq_false_iff_ne.mpr (fun h => h1 (hb.symm.trans h))
  have e2 : (((s[a]'hlt).toNat : Int) == 115) = false := beq_eq_false_iff_ne.mpr (fun h => h2 (hb.symm.trans h))
  have e3 : (((s[a]'hlt).toNat : Int) == 99) = false := beq_eq_false_iff_ne.mpr (fun h => h3 (hb.symm.trans h))
  clear hb h1 h2 h3
  go_enter Tryd.func81, Tryd.ntmps81
  go_wp2
  obtain ⟨z0, z1, z2, z3, z4, z5, z6⟩ := (L1_r w ((s[a]'hlt).toNat : Int)).cells
  have hFb : Below w.heap.size w (L1 w ((s[a]'hlt).toNat : Int)) := below_alloc (below_alloc (Below.refl _ _) _) _
  refine bodyPost_ret (v := .tuple #[.agg #[.int .u8 ((s[a]'hlt).toNat : Int), .int .i64 0, .int .i64 0, .int .i64 0, .int .i64 0, .string ⟨#[]⟩, .slice none 0 0], .int .i64 (-1)]) ?_ rfl ?_
  · unfold L1 at z0 z1 z2 z3 z4 z5 z6
    clear hFb
    simp [results, Tryd.results81, go_sem]
  · exact ⟨hFb, _, _, _, _, _, _, rfl⟩
end Go.Proofs.YtefiapcfdabfpaaDoor.P

namespace Go.Proofs.YtefiapcfdabfpaaDoor.P
open Go.RowKit Go.Proofs.YtefiapcfdabfpaaDoorW.PrintWords Go.Proofs.YtefiapcfdabfpaaDoorW.PrintLast Go.Proofs.YtefiapcfdabfpaaDoorW.PrintMore
set_option maxRecDepth 100000
set_option maxHeartbeats 8000000
/-- The variable in which the nodes are gathered. -/
structure Gath (w : World) (nb B : Nat) (v : Value) (acc : List S43) : Prop where
  c : w.heap[nb]? = some (.cells #[v] 36 (0, 0))
  s : Kd.S k43 43 w B (fun b => b ≠ nb) v acc
theorem Gath.lt {w : World} {nb B : Nat} {v : Value} {acc : List S43} (h : Gath w nb B v acc) : nb < w.heap.size := by
  rcases Nat.lt_or_ge nb w.heap.size with h0 | h0
  · exact h0
  · have := h.c; rw [Array.getElem?_eq_none h0] at this; cases this
theorem Gath.below {w w' : World} {nb B : Nat} {v : Value} {acc : List S43} (h : Gath w nb B v acc) (hb : Below w.heap.size w w') : Gath w' nb B v acc :=
  ⟨(hb.block nb h.lt).trans h.c, Kd.S_below h.s hb⟩
theorem infoN : (Tryd.prog.info? 43).map (fun i => (i.zero, i.size, i.bytes)) = some (some (.agg #[.int .u8 0, .int .i64 0, .int .i64 0, .int .i64 0, .int .i64 0, .string ⟨#[]⟩, .slice none 0 0]), 7, 80) := by kernel_rfl
/-- The reference's nodes of a term: its parts' first, then its own; from a place on. -/
def flat : Te → Nat → List S43
  | .two k x y, b => flat x b ++ (flat y (b + x.sz) ++ [⟨k, ((b + x.sz - 1 : Nat) : Int), ((b + x.sz + y.sz - 1 : Nat) : Int), 0, 0, ⟨#[]⟩, []⟩])
  | .three x y z, b => flat x b ++ (flat y (b + x.sz) ++ (flat z (b + x.sz + y.sz) ++ [⟨116, ((b + x.sz - 1 : Nat) : Int), ((b + x.sz + y.sz - 1 : Nat) : Int), ((b + x.sz + y.sz + z.sz - 1 : Nat) : Int), 0, ⟨#[]⟩, []⟩]))
  | .var n, _ => [leafN (.var n)]
  | .sort l, _ => [leafN (.sort l)]
  | .con n l, _ => [leafN (.con n l)]
theorem flat_length : ∀ (t : Te) (b : Nat), (flat t b).length = t.sz
  | .two k x y, b => by simp [flat, Te.sz, flat_length x, flat_length y]; omega
  | .three x y z, b => by simp [flat, Te.sz, flat_length x, flat_length y, flat_length z]; omega
  | .var n, _ => rfl
  | .sort l, _ => rfl
  | .con n l, _ => rfl
theorem set_size (w : World) (a : Addr) (v : Value) : (w.setCell a v).heap.size = w.heap.size := by simp [World.setCell]
/-- All that was there stays, but the variable and the row that it holds. -/
structure Kp (nb : Nat) (v : Value) (w w' : World) : Prop where
  os : w'.os = w.os
  tape : w'.tape = w.tape
  output : w'.output = w.output
  size : w.heap.size ≤ w'.heap.size
  block : ∀ b, b < w.heap.size → b ≠ nb → some b ≠ v.ownBlock → w'.heap[b]? = w.heap[b]?
def Own3 (v v' : Value) (w : World) : Prop := v'.ownBlock = v.ownBlock ∨ ∃ b, v'.ownBlock = some b ∧ w.heap.size ≤ b
theorem Kp.refl (nb : Nat) (v : Value) (w : World) : Kp nb v w w := ⟨rfl, rfl, rfl, Nat.le_refl _, fun _ _ _ _ => rfl⟩
theorem Kp.of_below {nb : Nat} {v : Value} {w w' : World} (h : Below w.heap.size w w') : Kp nb v w w' := ⟨h.os, h.tape, h.output, h.size, fun b hb _ _ => h.block b hb⟩
theorem Kp.trans {nb : Nat} {v v1 : Value} {w w1 w2 : World} (h : Kp nb v w w1) (h1 : Kp nb v1 w1 w2) (ho : Own3 v v1 w) : Kp nb v w w2 :=
  ⟨h1.os.trans h.os, h1.tape.trans h.tape, h1.output.trans h.output, Nat.le_trans h.size h1.size, fun b hb hn hv => (h1.block b (Nat.lt_of_lt_of_le hb h.size) hn (fun e => by
    rcases ho with ho | ⟨b2, ho, hle⟩
    · exact hv (e.trans ho)
    · rw [ho] at e; injection e with e; omega)).trans (h.block b hb hn hv)⟩
theorem Own3.refl (v : Value) (w : World) : Own3 v v w := .inl rfl
theorem Own3.trans {v v1 v2 : Value} {w w1 : World} (h : Own3 v v1 w) (h1 : Own3 v1 v2 w1) (hs : w.heap.size ≤ w1.heap.size) : Own3 v v2 w := by
  rcases h1 with h1 | ⟨b, h1, hle⟩
  · rcases h with h | ⟨b, h, hle⟩
    · exact .inl (h1.trans h)
    · exact .inr ⟨b, h1.trans h, hle⟩
  · exact .inr ⟨b, h1, Nat.le_trans hs hle⟩
theorem Kp.below {nb B : Nat} {v : Value} {w w' : World} (h : Kp nb v w w') (hB : B ≤ w.heap.size) (hn : B ≤ nb) (hv : ∀ k, v.ownBlock = some k → B ≤ k) : Below B w w' :=
  ⟨h.os, h.tape, h.output, h.size, fun b hb => h.block b (by omega) (by omega) (fun e => by have := hv b e.symm; omega)⟩
/-- What l06Read hands back. -/
def ReadP (nb B : Nat) (w : World) (v : Value) (acc : List S43) (x : Option (Te × Nat)) (e : Ending) (w' : World) : Prop :=
  Kp nb v w w' ∧ match x with
    | some (t, en) => e = .returned (.tuple #[.int .i64 ((acc.length + t.sz - 1 : Nat) : Int), .int .i64 (en : Int)]) ∧ ∃ v', Own3 v v' w ∧ Gath w' nb B v' (acc ++ flat t acc.length)
    | none => e = .returned (.tuple #[.int .i64 (-1), .int .i64 (-1)])
theorem read_end (s : ByteArray) (a nb B : Nat) (w : World) (v : Value) (acc : List S43) (hge : s.size ≤ a) (ha : a ≤ 100000) :
    Calls Tryd.prog 66 #[.string s, .int .i64 (a : Int), .pointer (some ⟨nb, 0, none⟩)] w (ReadP nb B w v acc none) := by
  have hgi : (s.size : Int) ≤ (a : Int) := by omega
  clear hge
  go_enter Tryd.func66, Tryd.ntmps66
  go_wp2
  go_ret2
  exact ⟨Kp.refl _ _ _, rfl⟩
theorem read_no (s : ByteArray) (a nb B : Nat) (w : World) (v : Value) (acc : List S43) (hlt : a < s.size) (h1 : bt s (a : Int) ≠ 64) (h2 : bt s (a : Int) ≠ 108) (h3 : bt s (a : Int) ≠ 112) (h4 : bt s (a : Int) ≠ 116)
    (hl : Calls Tryd.prog 81 #[.string s, .int .i64 (a : Int)] w (LeafP w none)) :
    Calls Tryd.prog 66 #[.string s, .int .i64 (a : Int), .pointer (some ⟨nb, 0, none⟩)] w (ReadP nb B w v acc none) := by
  have hb := bt_at s a hlt
  have e1 : (((s[a]'hlt).toNat : Int) == 64) = false := beq_eq_false_iff_ne.mpr (fun h => h1 (hb.symm.trans h))
  have e2 : (((s[a]'hlt).toNat : Int) == 108) = false := beq_eq_false_iff_ne.mpr (fun h => h2 (hb.symm.trans h))
  have e3 : (((s[a]'hlt).toNat : Int) == 112) = false := beq_eq_false_iff_ne.mpr (fun h => h3 (hb.symm.trans h))
  have e4 : (((s[a]'hlt).toNat : Int) == 116) = false := beq_eq_false_iff_ne.mpr (fun h => h4 (hb.symm.trans h))
  clear hb h1 h2 h3 h4
  have hfin : ∀ w2 o, Below w.heap.size w w2 → Kp nb v w (w2.alloc o) := fun w2 o h => .of_below (below_alloc h _)
  go_enter Tryd.func66, Tryd.ntmps66
  go_wp2_with (first | (go_at_call 81; refine (Calls.mono hl ?_); rintro e w2 ⟨hb2, k, n, x, A, m, c, rfl⟩))
  go_ret2
  exact ⟨hfin _ _ hb2, rfl⟩
theorem read_leaf (s : ByteArray) (a nb B : Nat) (w : World) (v : Value) (acc : List S43) (x : S43) (en : Nat) (hG : Gath w nb B v acc) (hB : B ≤ w.heap.size) (hnB : B ≤ nb) (hs : s.size ≤ 2000) (hlt : a < s.size) (hac : acc.length ≤ 2000) (h1 : bt s (a : Int) ≠ 64) (h2 : bt s (a : Int) ≠ 108) (h3 : bt s (a : Int) ≠ 112) (h4 : bt s (a : Int) ≠ 116)
    (hl : Calls Tryd.prog 81 #[.string s, .int .i64 (a : Int)] w (LeafP w (some (x, en)))) :
    Calls Tryd.prog 66 #[.string s, .int .i64 (a : Int), .pointer (some ⟨nb, 0, none⟩)] w (fun e w' => Kp nb v w w' ∧ e = .returned (.tuple #[.int .i64 (acc.length : Int), .int .i64 (en : Int)]) ∧ ∃ v', Own3 v v' w ∧ Gath w' nb B v' (acc ++ [x])) := by
  have hb := bt_at s a hlt
  have e1 : (((s[a]'hlt).toNat : Int) == 64) = false := beq_eq_false_iff_ne.mpr (fun h => h1 (hb.symm.trans h))
  have e2 : (((s[a]'hlt).toNat : Int) == 108) = false := beq_eq_false_iff_ne.mpr (fun h => h2 (hb.symm.trans h))
  have e3 : (((s[a]'hlt).toNat : Int) == 112) = false := beq_eq_false_iff_ne.mpr (fun h => h3 (hb.symm.trans h))
  have e4 : (((s[a]'hlt).toNat : Int) == 116) = false := beq_eq_false_iff_ne.mpr (fun h => h4 (hb.symm.trans h))
  clear hb h1 h2 h3 h4
  obtain ⟨A, c, rfl⟩ := Kd.S_slice hG.s
  have hc := cell_of (T := 36) hG.c
  have hf := froz_of (T := 36) hG.c
  go_enter Tryd.func66, Tryd.ntmps66
  go_wp2_with (first | (go_at_call 81; refine (Calls.mono hl ?_); rintro e w2 ⟨hb2, v6, rfl, hr2⟩; obtain ⟨A6, c6, rfl⟩ := Kd.R_slice hr2))
  have hal : Below w2.heap.size w2 (w2.alloc (.cells #[.int .u8 x.f0, .int .i64 x.f1, .int .i64 x.f2, .int .i64 x.f3, .int .i64 x.f4, .string x.f5, .slice A6 x.f6.length c6] 43)) := below_alloc (Below.refl _ _) _
  have hG3 := (hG.below hb2).below hal
  have hr3 := Kd.R_below hr2 hal
  have hsz3 : (w2.alloc (.cells #[.int .u8 x.f0, .int .i64 x.f1, .int .i64 x.f2, .int .i64 x.f3, .int .i64 x.f4, .string x.f5, .slice A6 x.f6.length c6] 43)).heap.size = w2.heap.size + 1 := alloc_size _ _
  have hb3 : Below w.heap.size w (w2.alloc (.cells #[.int .u8 x.f0, .int .i64 x.f1, .int .i64 x.f2, .int .i64 x.f3, .int .i64 x.f4, .string x.f5, .slice A6 x.f6.length c6] 43)) := below_step hb2 hal
  have hnd : (w2.alloc (.cells #[.int .u8 x.f0, .int .i64 x.f1, .int .i64 x.f2, .int .i64 x.f3, .int .i64 x.f4, .string x.f5, .slice A6 x.f6.length c6] 43)).heap[w2.heap.size]? = some (.cells #[.int .u8 x.f0, .int .i64 x.f1, .int .i64 x.f2, .int .i64 x.f3, .int .i64 x.f4, .string x.f5, .slice A6 x.f6.length c6] 43 (0, 0)) := alloc_here _ _
  generalize (w2.alloc (.cells #[.int .u8 x.f0, .int .i64 x.f1, .int .i64 x.f2, .int .i64 x.f3, .int .i64 x.f4, .string x.f5, .slice A6 x.f6.length c6] 43)) = w3 at hG3 hr3 hsz3 hb3 hnd ⊢
  have hc3 := cell_of (T := 36) hG3.c
  have hlt3 := hG3.lt
  have hltN : w2.heap.size < w3.heap.size := by omega
  have kk := fun j => Lib.cell_of_heap hnd j
  have k0 := kk 0; have k1 := kk 1; have k2 := kk 2; have k3 := kk 3; have k4 := kk 4; have k5 := kk 5; have k6 := kk 6
  replace k0 : w3.cell? ⟨w2.heap.size, 0, none⟩ = some (.int .u8 x.f0) := k0
  replace k1 : w3.cell? ⟨w2.heap.size, 1, none⟩ = some (.int .i64 x.f1) := k1
  replace k2 : w3.cell? ⟨w2.heap.size, 2, none⟩ = some (.int .i64 x.f2) := k2
  replace k3 : w3.cell? ⟨w2.heap.size, 3, none⟩ = some (.int .i64 x.f3) := k3
  replace k4 : w3.cell? ⟨w2.heap.size, 4, none⟩ = some (.int .i64 x.f4) := k4
  replace k5 : w3.cell? ⟨w2.heap.size, 5, none⟩ = some (.string x.f5) := k5
  replace k6 : w3.cell? ⟨w2.heap.size, 6, none⟩ = some (.slice A6 x.f6.length c6) := k6
  clear kk hnd hal
  have hBw : B ≤ w3.heap.size := Nat.le_trans hB hb3.size
  have hown : ∀ k, (Value.slice A acc.length c).ownBlock = some k → k ≠ nb := (Kd.S_R hG3.s).1
  have hold := Kd.S_lt hG.s
  have hSo : Kd.S k43 43 w3 B (fun b => b ≠ nb ∧ ¬ (w.heap.size ≤ b ∧ b ≠ nb ∧ some b ≠ (Value.slice A acc.length c).ownBlock)) (.slice A acc.length c) acc :=
    Kd.S_mono (Kd.S_below (Kd.S_bound hG.s) hb3) (fun b hb1 => ⟨hb1.1, fun h => by have := hb1.2.2.1; omega⟩)
  have hMx : k43.M w3 B (fun b => w.heap.size ≤ b ∧ b ≠ nb ∧ some b ≠ (Value.slice A acc.length c).ownBlock) x [.int .u8 x.f0, .int .i64 x.f1, .int .i64 x.f2, .int .i64 x.f3, .int .i64 x.f4, .string x.f5, .slice A6 x.f6.length c6] :=
    k43_mkM w3 B _ x (Kd.R_lower (Kd.R_mono (Kd.R_bound hr3) (fun b hb1 => ⟨hb1.2.1, by have := hG.lt; have := hb1.2.1; omega, fun e => by have := hold _ e.symm; have := hb1.2.1; omega⟩)) hB)
  have hbw3 := hb3
  clear hb3 hr3 hr2 hb2 hG hc hf hold hsz3
  refine start_ (n := 9) (S := fun w' => w'.cell? ⟨nb, 0, none⟩ = some (.slice A acc.length c) ∧ w'.cell? ⟨w2.heap.size, 0, none⟩ = some (.int .u8 x.f0) ∧ w'.cell? ⟨w2.heap.size, 1, none⟩ = some (.int .i64 x.f1) ∧ w'.cell? ⟨w2.heap.size, 2, none⟩ = some (.int .i64 x.f2) ∧ w'.cell? ⟨w2.heap.size, 3, none⟩ = some (.int .i64 x.f3) ∧ w'.cell? ⟨w2.heap.size, 4, none⟩ = some (.int .i64 x.f4) ∧ w'.cell? ⟨w2.heap.size, 5, none⟩ = some (.string x.f5) ∧ w'.cell? ⟨w2.heap.size, 6, none⟩ = some (.slice A6 x.f6.length c6)) (ds := [6, 8]) #[false, false, false, false, false, false, false, false, false] (by kernel_rfl) rfl rfl ⟨hc3, k0, k1, k2, k3, k4, k5, k6⟩ (fun hHeld => ?_)
  refine pure_ (i := 0) (N := some 38) (v := ?_) (a' := ?_) #[true, false, false, false, false, false, false, false, false] rfl rfl (by kernel_rfl) (fun _ _ _ h => h) (Or.inl ⟨by rfl, ?_⟩) ?_ ?_
  rotate_left
  · intro w'
    go_simp
    with_reducible rfl
  rotate_left
  · simp only [Act.put, List.setIfInBounds_toArray, List.set_cons_zero, List.set_cons_succ, i64_w, i32_w]
    rfl
  refine pure_ (i := 1) (N := some 39) (v := ?_) (a' := ?_) #[true, true, false, false, false, false, false, false, false] rfl rfl (by kernel_rfl) (fun _ _ _ h => h) (Or.inl ⟨by rfl, ?_⟩) ?_ ?_
  rotate_left
  · intro w'
    go_simp
    with_reducible rfl
  rotate_left
  · simp only [Act.put, List.setIfInBounds_toArray, List.set_cons_zero, List.set_cons_succ, i64_w, i32_w]
    rfl
  refine pure_ (i := 2) (N := some 40) (v := ?_) (a' := ?_) #[true, true, true, false, false, false, false, false, false] rfl rfl (by kernel_rfl) (fun _ _ _ h => h) (Or.inl ⟨by rfl, ?_⟩) ?_ ?_
  rotate_left
  · intro w'
    go_simp
    with_reducible rfl
  rotate_left
  · simp only [Act.put, List.setIfInBounds_toArray, List.set_cons_zero, List.set_cons_succ, i64_w, i32_w]
    rfl
  refine take_ (i := 3) (N := some 41) (v := ?_) (a' := ?_) #[true, true, true, true, false, false, false, false, false] rfl rfl (by kernel_rfl) (fun _ _ _ h => h) (Or.inl ⟨by rfl, ?_⟩) hHeld ?_ ?_
  rotate_left
  · rintro w' ⟨s0, s1, s2, s3, s4, s5, s6, s7⟩
    go_simp
    with_reducible rfl
  rotate_left
  · simp only [Act.put, List.setIfInBounds_toArray, List.set_cons_zero, List.set_cons_succ, i64_w, i32_w]
    rfl
  refine take_ (i := 4) (N := some 42) (v := ?_) (a' := ?_) #[true, true, true, true, true, false, false, false, false] rfl rfl (by kernel_rfl) (fun _ _ _ h => h) (Or.inl ⟨by rfl, ?_⟩) hHeld ?_ ?_
  rotate_left
  · rintro w' ⟨s0, s1, s2, s3, s4, s5, s6, s7⟩
    go_simp
    with_reducible rfl
  rotate_left
  · simp only [Act.put, List.setIfInBounds_toArray, List.set_cons_zero, List.set_cons_succ, i64_w, i32_w]
    rfl
  refine one_ (i := 5) (N := some 43) #[true, true, true, true, true, true, false, false, false] rfl rfl (by kernel_rfl) (by decide) (fun K hK => ?_)
  refine value_ (w1 := ?_) (v := ?_) (by rfl) rfl ?_ ?_
  rotate_left 2
  · go_simp
    constructor
    · rfl
    · rfl
  refine hK.out _ _ ⟨(cell_heap (alloc_old _ _ _ hlt3) 0).trans hc3, (cell_heap (alloc_old _ _ _ hltN) 0).trans k0, (cell_heap (alloc_old _ _ _ hltN) 1).trans k1, (cell_heap (alloc_old _ _ _ hltN) 2).trans k2, (cell_heap (alloc_old _ _ _ hltN) 3).trans k3, (cell_heap (alloc_old _ _ _ hltN) 4).trans k4, (cell_heap (alloc_old _ _ _ hltN) 5).trans k5, (cell_heap (alloc_old _ _ _ hltN) 6).trans k6⟩ (fun hHeld => ?_)
  clear hK K
  refine norm_ (a' := ?_) ?_ ?_
  rotate_left
  · show Act.put _ (some 43) _ = _
    simp only [Act.put, List.setIfInBounds_toArray, List.set_cons_zero, List.set_cons_succ, i64_w, i32_w]
    rfl
  refine last_ (i := 6) (N := some 44) #[true, true, true, true, true, true, true, false, false] rfl rfl (by kernel_rfl) (by decide) (fun K hK => ?_)
  refine Kd.S_append_step k43 (w0 := w3.drew) B (by rfl) (.tmp 41) (.tmp 43) 36 43 (.agg #[.int .u8 0, .int .i64 0, .int .i64 0, .int .i64 0, .int .i64 0, .string ⟨#[]⟩, .slice none 0 0]) 80 rfl Tryd.underlying36 infoN rfl (by decide) (by omega) (.slice A acc.length c) acc x [.int .u8 x.f0, .int .i64 x.f1, .int .i64 x.f2, .int .i64 x.f3, .int .i64 x.f4, .string x.f5, .slice A6 x.f6.length c6] (fun b => b ≠ nb) (fun b => w.heap.size ≤ b ∧ b ≠ nb ∧ some b ≠ (Value.slice A acc.length c).ownBlock) rfl rfl ?aP ?aK ?aF ?aO (Below.refl _ _) ?aS ?aL ?_
  case aP => exact hMx
  case aK => exact fun k hk => ⟨hk.2.1, hk.2.2⟩
  case aF => exact fun k2 hk2 => by have : w3.heap.size ≤ k2 := hk2; omega
  case aO => exact hSo
  case aS => exact hBw
  case aL => omega
  intro v1 w4 hS4 hb4 hg4 hat4
  obtain ⟨A1, c1, rfl⟩ := Kd.S_slice hS4
  have hnb4 : w4.heap[nb]? = some (.cells #[.slice A acc.length c] 36 (0, 0)) := (hg4.block nb hlt3 (fun e => hown _ e.symm rfl)).trans hG3.c
  have n0 := cell_of (T := 36) hnb4
  have nf := froz_of (T := 36) hnb4
  have hset := set_same (T := 36) hnb4 (.slice A1 (acc ++ [x]).length c1)
  have n1 := cell_of (T := 36) hset
  have hG4 : Gath (w4.setCell ⟨nb, 0, none⟩ (.slice A1 (acc ++ [x]).length c1)) nb B (.slice A1 (acc ++ [x]).length c1) (acc ++ [x]) := ⟨hset, Kd.S_far hS4 (fun _ hk => hk) _⟩
  have hk5 : Kp nb (.slice A acc.length c) w3 (w4.setCell ⟨nb, 0, none⟩ (.slice A1 (acc ++ [x]).length c1)) := ⟨hg4.os, hg4.tape, hg4.output, by rw [set_size]; exact hg4.size, fun b hb h1 h2 => (set_heap _ _ _ _ _ h1).trans (hg4.block b hb h2)⟩
  have hat5 : Own3 (.slice A acc.length c) (.slice A1 (acc ++ [x]).length c1) w3 := hat4
  clear hb4 hg4 hat4 hS4 hnb4 hset
  refine hK.out _ _ ?_
  clear hK K
  refine norm_ (a' := ?_) ?_ ?_
  rotate_left
  · show Act.put _ (some 44) _ = _
    simp only [Act.put, List.setIfInBounds_toArray, List.set_cons_zero, List.set_cons_succ, i64_w, i32_w]
    rfl
  refine pure_ (i := 7) (N := some 45) (v := ?_) (a' := ?_) #[true, true, true, true, true, true, true, true, false] rfl rfl (by kernel_rfl) (fun _ _ _ h => h) (Or.inl ⟨by rfl, ?_⟩) ?_ ?_
  rotate_left
  · intro w'
    go_simp
    with_reducible rfl
  rotate_left
  · simp only [Act.put, List.setIfInBounds_toArray, List.set_cons_zero, List.set_cons_succ, i64_w, i32_w]
    rfl
  refine last_ (i := 8) (N := none) #[true, true, true, true, true, true, true, true, true] rfl rfl (by kernel_rfl) (by decide) (fun K hK => ?_)
  refine skip_ (w1 := ?_) (by rfl) rfl ?_ ?_
  rotate_left
  · go_simp
    rfl
  refine hK.out _ _ ?_
  clear hK K
  refine done_ (by kernel_rfl) ?_
  go_wp2
  go_ret2
  have hL1 : (acc ++ [x]).length = acc.length + 1 := by simp
  rw [hL1] at hG4 hk5 hat5
  exact ⟨(Kp.of_below hbw3).trans hk5 (Own3.refl _ _), rfl, _, (Own3.refl _ w).trans hat5 hbw3.size, hG4⟩
end Go.Proofs.YtefiapcfdabfpaaDoor.P

namespace Go.Proofs.YtefiapcfdabfpaaDoor.P
open Go.RowKit Go.Proofs.YtefiapcfdabfpaaDoorW.PrintWords Go.Proofs.YtefiapcfdabfpaaDoorW.PrintLast Go.Proofs.YtefiapcfdabfpaaDoorW.PrintMore
set_option maxRecDepth 100000
set_option maxHeartbeats 8000000
/-- So many terms from a place on. -/
def rdN (s : ByteArray) (n : Nat) : Nat → Nat → Option (List Te × Nat)
  | 0, a => some ([], a)
  | c + 1, a => (rd s n a).bind fun r => (rdN s n c r.2).map fun q => (r.1 :: q.1, q.2)
def szs : List Te → Nat
  | [] => 0
  | t :: l => t.sz + szs l
def flats : List Te → Nat → List S43
  | [], _ => []
  | t :: l, b => flat t b ++ flats l (b + t.sz)
theorem szs_snoc (l : List Te) (t : Te) : szs (l ++ [t]) = szs l + t.sz := by
  induction l with
  | nil => simp [szs]
  | cons x l ih => simp only [List.cons_append, szs, ih]; omega
theorem flats_snoc (l : List Te) (t : Te) : ∀ b, flats (l ++ [t]) b = flats l b ++ flat t (b + szs l) := by
  induction l with
  | nil => intro b; simp [flats, szs]
  | cons x l ih => intro b; simp only [List.cons_append, flats, ih, szs, List.append_assoc]; rw [show b + x.sz + szs l = b + (x.sz + szs l) from by omega]
theorem flats_length (l : List Te) : ∀ b, (flats l b).length = szs l := by
  induction l with
  | nil => intro b; rfl
  | cons x l ih => intro b; simp [flats, szs, flat_length, ih]
/-- The root of part j, 0 where there is none. -/
def fld (base : Nat) (ts : List Te) (j : Nat) : Int := if j < ts.length then ((base + szs (ts.take (j + 1)) - 1 : Nat) : Int) else 0
theorem sz_le (s : ByteArray) : ∀ (k a : Nat) (t : Te) (e : Nat), rd s k a = some (t, e) → s.size ≤ 2000 → a ≤ s.size → t.sz ≤ e - a := by
  intro k
  induction k with
  | zero => intro a t e h; simp [rd] at h
  | succ k ih =>
    intro a t e h hs ha
    have hg := rdT_ok s hs _ _ _ _ h ha
    simp only [rd] at h
    by_cases h0 : a < s.size
    · rw [if_pos h0] at h
      by_cases h1 : bt s (a : Int) = 118
      · rw [if_pos h1] at h
        unfold rdV at h
        by_cases hi : 0 ≤ idx s 46 (a + 1)
        · rw [if_pos hi] at h
          obtain ⟨r, _, h⟩ := Option.bind_eq_some_iff.mp h
          by_cases hc : r.2 = true ∧ r.1 ≤ 999
          · rw [if_pos hc] at h
            simp only [Option.some.injEq, Prod.mk.injEq] at h
            obtain ⟨rfl, rfl⟩ := h
            simp only [Te.sz]; omega
          · rw [if_neg hc] at h; cases h
        · rw [if_neg hi] at h; cases h
      rw [if_neg h1] at h
      by_cases h2 : bt s (a : Int) = 115
      · rw [if_pos h2] at h
        obtain ⟨e1, he, h⟩ := Option.map_eq_some_iff.mp h
        simp only [Prod.mk.injEq] at h
        obtain ⟨rfl, rfl⟩ := h
        simp only [Te.sz]; omega
      rw [if_neg h2] at h
      by_cases h3 : bt s (a : Int) = 99
      · rw [if_pos h3] at h
        unfold rdC at h
        by_cases hi : 0 ≤ idx s 59 (a + 1)
        · rw [if_pos hi] at h
          obtain ⟨r, _, h⟩ := Option.bind_eq_some_iff.mp h
          obtain ⟨b, _, h⟩ := Option.bind_eq_some_iff.mp h
          by_cases hc : b = true ∧ r.1.length ≤ 3
          · rw [if_pos hc] at h
            simp only [Option.some.injEq, Prod.mk.injEq] at h
            obtain ⟨rfl, rfl⟩ := h
            simp only [Te.sz]; omega
          · rw [if_neg hc] at h; cases h
        · rw [if_neg hi] at h; cases h
      rw [if_neg h3] at h
      by_cases h4 : bt s (a : Int) = 64 ∨ bt s (a : Int) = 108 ∨ bt s (a : Int) = 112
      · rw [if_pos h4] at h
        obtain ⟨⟨t1, e1⟩, hr1, h⟩ := Option.bind_eq_some_iff.mp h
        obtain ⟨⟨t2, e2⟩, hr2, h⟩ := Option.map_eq_some_iff.mp h
        simp only [Prod.mk.injEq] at h
        obtain ⟨rfl, rfl⟩ := h
        have g1 := rdT_ok s hs _ _ _ _ hr1 (by omega)
        have g2 := rdT_ok s hs _ _ _ _ hr2 g1.2.2.1
        have l1 := ih _ _ _ hr1 hs (by omega)
        have l2 := ih _ _ _ hr2 hs g1.2.2.1
        simp only [Te.sz] at *
        omega
      rw [if_neg h4] at h
      by_cases h5 : bt s (a : Int) = 116
      · rw [if_pos h5] at h
        obtain ⟨⟨t1, e1⟩, hr1, h⟩ := Option.bind_eq_some_iff.mp h
        obtain ⟨⟨t2, e2⟩, hr2, h⟩ := Option.bind_eq_some_iff.mp h
        obtain ⟨⟨t3, e3⟩, hr3, h⟩ := Option.map_eq_some_iff.mp h
        simp only [Prod.mk.injEq] at h
        obtain ⟨rfl, rfl⟩ := h
        have g1 := rdT_ok s hs _ _ _ _ hr1 (by omega)
        have g2 := rdT_ok s hs _ _ _ _ hr2 g1.2.2.1
        have g3 := rdT_ok s hs _ _ _ _ hr3 g2.2.2.1
        have l1 := ih _ _ _ hr1 hs (by omega)
        have l2 := ih _ _ _ hr2 hs g1.2.2.1
        have l3 := ih _ _ _ hr3 hs g2.2.2.1
        simp only [Te.sz] at *
        omega
      rw [if_neg h5] at h; cases h
    · rw [if_neg h0] at h; cases h
/-- Where the loop over the parts stands. -/
structure AtC (s : ByteArray) (n a nb B : Nat) (w : World) (v0 : Value) (m : Nat) (k : Int) (acc : List S43) (mm : Nat) (w' : World) (v : Value) (ts : List Te) (i next : Nat) : Prop where
  g : Gath w' nb B v (acc ++ flats ts acc.length)
  o : Own3 v0 v w
  nd : w'.heap[w.heap.size]? = some (.cells #[.int .u8 k, .int .i64 (fld acc.length ts 0), .int .i64 (fld acc.length ts 1), .int .i64 (fld acc.length ts 2), .int .i64 0, .string ⟨#[]⟩, .slice none 0 0] 43 (0, 0))
  no : v.ownBlock ≠ some w.heap.size
  kp : Kp nb v0 w w'
  rest : rdN s n m (a + 1) = (rdN s n (m - i) next).map fun q => (ts ++ q.1, q.2)
  len : ts.length = i
  le : i ≤ m
  nx : next ≤ s.size
  gt : a < next
  sz : acc.length + szs ts ≤ next
  meas : m - i ≤ mm
theorem S_avoid {w : World} {B N : Nat} {ok : Nat → Prop} {v : Value} {xs : List S43} {cs : Array Value} (h : Kd.S k43 43 w B ok v xs) (hN : w.heap[N]? = some (.cells cs 43 (0, 0))) (hv : v.ownBlock ≠ some N) : Kd.S k43 43 w B (fun b => ok b ∧ b ≠ N) v xs := by
  obtain ⟨f, h0, inner, ho, hr⟩ := h
  refine ⟨f, fun k hk => ⟨h0 k hk, fun e => hv (e ▸ hk)⟩, inner, ho, hr.imp_ (fun p c hp => (Kd.tag f k43).M_mono (fun k hk => ⟨⟨hk.1.1, hk.2⟩, hk.1.2⟩) (Kd.M_types hp hN (show ∀ q, q ∈ k43.E → q ≠ 43 from by decide)))⟩
/-- A part more. -/
theorem AtC.more {s : ByteArray} {n a nb B : Nat} {w : World} {v0 : Value} {m : Nat} {k : Int} {acc : List S43} {mm : Nat} {wr w2 : World} {v1 v2 : Value} {ts : List Te} {i next : Nat} {t : Te} {en : Nat} (h : AtC s n a nb B w v0 m k acc mm wr v1 ts i next) (hs : s.size ≤ 2000) (hi : i < m) (hm : m ≤ 3) (hnb : nb < w.heap.size)
    (hx : rd s n next = some (t, en)) (hk : Kp nb v1 wr w2) (ho : Own3 v1 v2 wr) (hG : Gath w2 nb B v2 ((acc ++ flats ts acc.length) ++ flat t (acc ++ flats ts acc.length).length)) :
    AtC s n a nb B w v0 m k acc (m - (i + 1)) (w2.setCell ⟨w.heap.size, i + 1, none⟩ (.int .i64 (((acc ++ flats ts acc.length).length + t.sz - 1 : Nat) : Int))) v2 (ts ++ [t]) (i + 1) en := by
  have hg := rdT_ok s hs _ _ _ _ hx h.nx
  have hsz := sz_le s _ _ _ _ hx hs h.nx
  have hlw : w.heap.size < wr.heap.size := by
    rcases Nat.lt_or_ge w.heap.size wr.heap.size with h0 | h0
    · exact h0
    · have := h.nd; rw [Array.getElem?_eq_none h0] at this; cases this
  have hN2 := (hk.block w.heap.size hlw (by omega) (fun e => h.no e.symm)).trans h.nd
  have hno : v2.ownBlock ≠ some w.heap.size := fun e => by
    rcases ho with ho | ⟨b, ho, hle⟩
    · exact h.no (ho.symm.trans e)
    · rw [ho] at e; injection e with e; omega
  have h12 := h.kp.trans hk h.o
  have hac : (acc ++ flats ts acc.length).length = acc.length + szs ts := by rw [List.length_append, flats_length]
  refine ⟨⟨(set_heap _ _ _ _ _ (by omega)).trans hG.c, ?_⟩, h.o.trans ho h.kp.size, ?_, hno, ⟨h12.os, h12.tape, h12.output, by rw [set_size]; exact h12.size, fun b hb h1 h2 => (set_heap _ _ _ _ _ (by omega)).trans (h12.block b hb h1 h2)⟩, ?_, by simp [h.len], by omega, hg.2.2.1, by have := h.gt; omega, by rw [szs_snoc]; have := h.sz; omega, Nat.le_refl _⟩
  · have h3 := Kd.S_mono (Kd.S_far (p := ⟨w.heap.size, i + 1, none⟩) (S_avoid hG.s hN2 hno) (fun b hb => hb.2) (.int .i64 (((acc ++ flats ts acc.length).length + t.sz - 1 : Nat) : Int))) (fun b hb => hb.1)
    rw [flats_snoc, ← List.append_assoc, ← hac]
    exact h3
  · have hi3 : i = 0 ∨ i = 1 ∨ i = 2 := by omega
    rw [hac]
    have hlen := h.len
    rcases hi3 with rfl | rfl | rfl
    · obtain rfl := List.length_eq_zero_iff.mp hlen
      simp [World.setCell, Array.getElem?_modify, hN2, fld, szs]
    · obtain ⟨t1, rfl⟩ := List.length_eq_one_iff.mp hlen
      simp [World.setCell, Array.getElem?_modify, hN2, fld, szs]
      omega
    · obtain ⟨t1, t2, rfl⟩ : ∃ t1 t2, ts = [t1, t2] := by
        match ts, hlen with
        | [t1, t2], _ => exact ⟨t1, t2, rfl⟩
      simp [World.setCell, Array.getElem?_modify, hN2, fld, szs]
      omega
  · rw [h.rest, show m - i = (m - i - 1) + 1 from by omega, show rdN s n (m - i - 1 + 1) next = (rd s n next).bind fun r => (rdN s n (m - i - 1) r.2).map fun q => (r.1 :: q.1, q.2) from rfl, hx, show m - (i + 1) = m - i - 1 from by omega]
    simp only [Option.bind_some, Option.map_map, Function.comp_def, List.append_assoc, List.singleton_append]
theorem read_comp64 (s : ByteArray) (a nb B n : Nat) (w : World) (v : Value) (acc : List S43) (hG : Gath w nb B v acc) (hB : B ≤ w.heap.size) (hnB : B ≤ nb) (hs : s.size ≤ 2000) (hlt : a < s.size) (hac : acc.length ≤ a) (hk : bt s (a : Int) = 64) (hn : s.size - a < n + 1)
    (ih : ∀ (a' : Nat) (w' : World) (v' : Value) (acc' : List S43), Gath w' nb B v' acc' → B ≤ w'.heap.size → a' ≤ s.size → acc'.length ≤ a' → s.size - a' < n → Calls Tryd.prog 66 #[.string s, .int .i64 (a' : Int), .pointer (some ⟨nb, 0, none⟩)] w' (ReadP nb B w' v' acc' (rd s n a'))) :
    Calls Tryd.prog 66 #[.string s, .int .i64 (a : Int), .pointer (some ⟨nb, 0, none⟩)] w (fun e w' => Kp nb v w w' ∧ match rdN s n 2 (a + 1) with
      | some (ts, en) => e = .returned (.tuple #[.int .i64 ((acc.length + szs ts : Nat) : Int), .int .i64 (en : Int)]) ∧ ∃ v', Own3 v v' w ∧ Gath w' nb B v' (acc ++ (flats ts acc.length ++ [⟨64, fld acc.length ts 0, fld acc.length ts 1, fld acc.length ts 2, 0, ⟨#[]⟩, []⟩]))
      | none => e = .returned (.tuple #[.int .i64 (-1), .int .i64 (-1)])) := by
  have hb : ((s[a]'hlt).toNat : Int) = 64 := by rw [← hk]; exact bt_at s a hlt
  have hge : ¬ s.size ≤ a := by omega
  obtain ⟨X, hX⟩ : ∃ X, X = rdN s n 2 (a + 1) := ⟨_, rfl⟩
  rw [← hX]
  have hX' := Aside0.mk hX
  have hvb : ∀ k, v.ownBlock = some k → k < w.heap.size := Kd.S_lt hG.s
  have hvB : ∀ k, v.ownBlock = some k → B ≤ k := Kd.S_base hG.s
  clear hk hX
  go_enter Tryd.func66, Tryd.ntmps66
  go_wp2
  have hat : AtC s n a nb B w v 2 64 acc 2 (w.alloc (.cells #[.int .u8 64, .int .i64 0, .int .i64 0, .int .i64 0, .int .i64 0, .string ⟨#[]⟩, .slice none 0 0] 43)) v [] 0 (a + 1) :=
    ⟨by simpa [flats] using hG.below (below_alloc (Below.refl _ _) _), Own3.refl _ _, alloc_here _ _, fun e => by have := hvb _ e; omega, .of_below (below_alloc (Below.refl _ _) _), by simp, rfl, by omega, by omega, by omega, by simp [szs]; omega, Nat.le_refl _⟩
  have hnbl := hG.lt
  clear hb hge hG
  go_loopg [12, 13, 14] 2 (fun mm v12 v13 v14 w' => ∃ v1 ts i next, v13 = .int .i64 ((next : Nat) : Int) ∧ v14 = .int .i64 ((i : Nat) : Int) ∧ (∃ q, v12 = .int .i64 q) ∧ AtC s n a nb B w v 2 64 acc mm w' v1 ts i next)
  case atStart => exact ⟨v, [], 0, a + 1, rfl, rfl, ⟨_, rfl⟩, hat⟩
  case round =>
    obtain ⟨v1, ts, i, next, rfl, rfl, ⟨q0, rfl⟩, hC⟩ := hrel
    clear hat
    by_cases hi : i < 2
    · have hrest := hC.rest
      rw [show 2 - i = (2 - i - 1) + 1 from by omega, show rdN s n (2 - i - 1 + 1) next = (rd s n next).bind fun r => (rdN s n (2 - i - 1) r.2).map fun q => (r.1 :: q.1, q.2) from rfl] at hrest
      have hwB : B ≤ wr.heap.size := Nat.le_trans hB hC.kp.size
      have hR := ih next wr v1 _ hC.g hwB hC.nx (by rw [List.length_append, flats_length]; exact hC.sz) (by have := hC.gt; omega)
      cases hx : rd s n next with
      | none =>
        rw [hx] at hrest hR
        have hXn : X = none := by rw [hX'.out, hrest]; rfl
        subst hXn
        have hC' := Aside0.mk hC
        have hii : (i : Int) < 2 := by omega
        clear hX' hrest hx ih hC hi
        go_wp2_with (first | (go_at_call 66; refine (Calls.mono hR ?_); rintro e w2 ⟨hk2, rfl⟩))
        go_ret2
        exact ⟨hC'.out.kp.trans hk2 hC'.out.o, rfl⟩
      | some r =>
        obtain ⟨t, en⟩ := r
        rw [hx] at hrest hR
        have hg := rdT_ok s hs _ _ _ _ hx hC.nx
        have hsz := sz_le s _ _ _ _ hx hs hC.nx
        have hC' := Aside0.mk hC
        have hrest' := Aside0.mk hrest
        have hii : (i : Int) < 2 := by omega
        have hi3 : i = 0 ∨ i = 1 ∨ i = 2 := by omega
        have hlen := hC.len
        have hnd := hC.nd
        have hno := hC.no
        have hlw : w.heap.size < wr.heap.size := by
          rcases Nat.lt_or_ge w.heap.size wr.heap.size with h0 | h0
          · exact h0
          · rw [Array.getElem?_eq_none h0] at hnd; cases hnd
        have hmore := fun w2 v2 hk ho hG => hC'.out.more (w2 := w2) (v2 := v2) hs hi (by omega) hnbl hx hk ho hG
        have hmore' := Aside0.mk hmore
        clear hrest hx hC ih hmore hX'
        rcases hi3 with rfl | rfl | rfl
        · obtain rfl := List.length_eq_zero_iff.mp hlen
          obtain ⟨z, hz⟩ : ∃ z : Int, z = fld acc.length [] 0 := ⟨_, rfl⟩
          rw [← hz] at hnd
          clear hz hlen
          go_wp2_with (first | (go_at_call 66; refine (Calls.mono hR ?_); rintro e w2 ⟨hk2, rfl, v2, ho2, hG2⟩; have hN2 := (hk2.block w.heap.size hlw (fun e => by omega) (fun e => hno e.symm)).trans hnd; have xc : w2.cell? ⟨w.heap.size, 1, none⟩ = some (.int .i64 z) := Lib.cell_of_heap hN2 1; have xf := Lib.frozen_of_heap hN2 1; have hM2 := Aside0.mk (hmore'.out w2 v2 hk2 ho2 hG2); clear hG2 hN2 hk2 ho2))
          go_roundg (2 - (0 + 1))
          case measure => have := hC'.out.meas; omega
          case rel =>
            rw [List.length_append] at hM2
            exact ⟨v2, [] ++ [t], 0 + 1, en, rfl, rfl, ⟨_, rfl⟩, hM2.out⟩
        · obtain ⟨t1, rfl⟩ := List.length_eq_one_iff.mp hlen
          obtain ⟨z, hz⟩ : ∃ z : Int, z = fld acc.length [t1] 1 := ⟨_, rfl⟩
          rw [← hz] at hnd
          clear hz hlen
          go_wp2_with (first | (go_at_call 66; refine (Calls.mono hR ?_); rintro e w2 ⟨hk2, rfl, v2, ho2, hG2⟩; have hN2 := (hk2.block w.heap.size hlw (fun e => by omega) (fun e => hno e.symm)).trans hnd; have xc : w2.cell? ⟨w.heap.size, 2, none⟩ = some (.int .i64 z) := Lib.cell_of_heap hN2 2; have xf := Lib.frozen_of_heap hN2 2; have hM2 := Aside0.mk (hmore'.out w2 v2 hk2 ho2 hG2); clear hG2 hN2 hk2 ho2))
          go_roundg (2 - (1 + 1))
          case measure => have := hC'.out.meas; omega
          case rel =>
            rw [List.length_append] at hM2
            exact ⟨v2, [t1] ++ [t], 1 + 1, en, rfl, rfl, ⟨_, rfl⟩, hM2.out⟩
        · omega
    · obtain rfl : i = 2 := by have := hC.le; omega
      have hXs : X = some (ts, next) := by
        rw [hX'.out, hC.rest, show 2 - 2 = 0 from by omega]
        simp [rdN]
      subst hXs
      have hC' := Aside0.mk hC
      obtain ⟨ac2, hac2⟩ : ∃ l, l = acc ++ flats ts acc.length := ⟨_, rfl⟩
      obtain ⟨f1, hf1⟩ : ∃ f, f = fld acc.length ts 0 := ⟨_, rfl⟩
      obtain ⟨f2, hf2⟩ : ∃ f, f = fld acc.length ts 1 := ⟨_, rfl⟩
      obtain ⟨f3, hf3⟩ : ∃ f, f = fld acc.length ts 2 := ⟨_, rfl⟩
      have hG3 := hC.g
      rw [← hac2] at hG3
      have hnd := hC.nd
      rw [← hf1, ← hf2, ← hf3] at hnd
      have hac2l : ac2.length = acc.length + szs ts := by rw [hac2, List.length_append, flats_length]
      have hbigl : ac2.length ≤ 2000 := by rw [hac2l]; have := hC.sz; have := hC.nx; omega
      have hBw : B ≤ wr.heap.size := Nat.le_trans hB hC.kp.size
      clear hC
      obtain ⟨A, c, rfl⟩ := Kd.S_slice hG3.s
      have hc3 := cell_of (T := 36) hG3.c
      have hlt3 := hG3.lt
      have hltN : w.heap.size < wr.heap.size := by
        rcases Nat.lt_or_ge w.heap.size wr.heap.size with h0 | h0
        · exact h0
        · rw [Array.getElem?_eq_none h0] at hnd; cases hnd
      have kk := fun j => Lib.cell_of_heap hnd j
      have k0 := kk 0; have k1 := kk 1; have k2 := kk 2; have k3 := kk 3; have k4 := kk 4; have k5 := kk 5; have k6 := kk 6
      replace k0 : wr.cell? ⟨w.heap.size, 0, none⟩ = some (.int .u8 64) := k0
      replace k1 : wr.cell? ⟨w.heap.size, 1, none⟩ = some (.int .i64 f1) := k1
      replace k2 : wr.cell? ⟨w.heap.size, 2, none⟩ = some (.int .i64 f2) := k2
      replace k3 : wr.cell? ⟨w.heap.size, 3, none⟩ = some (.int .i64 f3) := k3
      replace k4 : wr.cell? ⟨w.heap.size, 4, none⟩ = some (.int .i64 0) := k4
      replace k5 : wr.cell? ⟨w.heap.size, 5, none⟩ = some (.string ⟨#[]⟩) := k5
      replace k6 : wr.cell? ⟨w.heap.size, 6, none⟩ = some (.slice none 0 0) := k6
      have hown : ∀ k, (Value.slice A ac2.length c).ownBlock = some k → k ≠ nb := (Kd.S_R hG3.s).1
      have hSo : Kd.S k43 43 wr B (fun b => b ≠ nb ∧ ¬ False) (.slice A ac2.length c) ac2 := Kd.S_mono hG3.s (fun b hb1 => ⟨hb1, fun h => h⟩)
      obtain ⟨x, hxe⟩ : ∃ x : S43, x = ⟨64, f1, f2, f3, 0, ⟨#[]⟩, []⟩ := ⟨_, rfl⟩
      have hMx : k43.M wr B (fun _ => False) x [.int .u8 64, .int .i64 f1, .int .i64 f2, .int .i64 f3, .int .i64 0, .string ⟨#[]⟩, .slice none 0 0] := by rw [hxe]; exact k43_mkM wr B _ ⟨64, f1, f2, f3, 0, ⟨#[]⟩, []⟩ (Kd.R_nil _ _ _ _ _)
      have hfin : acc ++ (flats ts acc.length ++ [(⟨64, fld acc.length ts 0, fld acc.length ts 1, fld acc.length ts 2, 0, ⟨#[]⟩, []⟩ : S43)]) = ac2 ++ [x] := by rw [hxe, hac2, hf1, hf2, hf3, List.append_assoc]
      have hfin' := Aside0.mk hfin
      have hac2l' := Aside0.mk hac2l
      clear kk hnd hX' ih hf1 hf2 hf3 hxe hac2 hac2l hfin
      generalize wr = w3 at *
      go_wp2
      refine start_ (n := 9) (S := fun w' => w'.cell? ⟨nb, 0, none⟩ = some (.slice A ac2.length c) ∧ w'.cell? ⟨w.heap.size, 0, none⟩ = some (.int .u8 64) ∧ w'.cell? ⟨w.heap.size, 1, none⟩ = some (.int .i64 f1) ∧ w'.cell? ⟨w.heap.size, 2, none⟩ = some (.int .i64 f2) ∧ w'.cell? ⟨w.heap.size, 3, none⟩ = some (.int .i64 f3) ∧ w'.cell? ⟨w.heap.size, 4, none⟩ = some (.int .i64 0) ∧ w'.cell? ⟨w.heap.size, 5, none⟩ = some (.string ⟨#[]⟩) ∧ w'.cell? ⟨w.heap.size, 6, none⟩ = some (.slice none 0 0)) (ds := [6, 8]) #[false, false, false, false, false, false, false, false, false] (by kernel_rfl) rfl rfl ⟨hc3, k0, k1, k2, k3, k4, k5, k6⟩ (fun hHeld => ?_)
      refine pure_ (i := 0) (N := some 83) (v := ?_) (a' := ?_) #[true, false, false, false, false, false, false, false, false] rfl rfl (by kernel_rfl) (fun _ _ _ h => h) (Or.inl ⟨by rfl, ?_⟩) ?_ ?_
      rotate_left
      · intro w'
        go_simp
        with_reducible rfl
      rotate_left
      · simp only [Act.put, List.setIfInBounds_toArray, List.set_cons_zero, List.set_cons_succ, i64_w, i32_w]
        rfl
      refine pure_ (i := 1) (N := some 84) (v := ?_) (a' := ?_) #[true, true, false, false, false, false, false, false, false] rfl rfl (by kernel_rfl) (fun _ _ _ h => h) (Or.inl ⟨by rfl, ?_⟩) ?_ ?_
      rotate_left
      · intro w'
        go_simp
        with_reducible rfl
      rotate_left
      · simp only [Act.put, List.setIfInBounds_toArray, List.set_cons_zero, List.set_cons_succ, i64_w, i32_w]
        rfl
      refine pure_ (i := 2) (N := some 85) (v := ?_) (a' := ?_) #[true, true, true, false, false, false, false, false, false] rfl rfl (by kernel_rfl) (fun _ _ _ h => h) (Or.inl ⟨by rfl, ?_⟩) ?_ ?_
      rotate_left
      · intro w'
        go_simp
        with_reducible rfl
      rotate_left
      · simp only [Act.put, List.setIfInBounds_toArray, List.set_cons_zero, List.set_cons_succ, i64_w, i32_w]
        rfl
      refine take_ (i := 3) (N := some 86) (v := ?_) (a' := ?_) #[true, true, true, true, false, false, false, false, false] rfl rfl (by kernel_rfl) (fun _ _ _ h => h) (Or.inl ⟨by rfl, ?_⟩) hHeld ?_ ?_
      rotate_left
      · rintro w' ⟨s0, s1, s2, s3, s4, s5, s6, s7⟩
        go_simp
        with_reducible rfl
      rotate_left
      · simp only [Act.put, List.setIfInBounds_toArray, List.set_cons_zero, List.set_cons_succ, i64_w, i32_w]
        rfl
      refine take_ (i := 4) (N := some 87) (v := ?_) (a' := ?_) #[true, true, true, true, true, false, false, false, false] rfl rfl (by kernel_rfl) (fun _ _ _ h => h) (Or.inl ⟨by rfl, ?_⟩) hHeld ?_ ?_
      rotate_left
      · rintro w' ⟨s0, s1, s2, s3, s4, s5, s6, s7⟩
        go_simp
        with_reducible rfl
      rotate_left
      · simp only [Act.put, List.setIfInBounds_toArray, List.set_cons_zero, List.set_cons_succ, i64_w, i32_w]
        rfl
      refine one_ (i := 5) (N := some 88) #[true, true, true, true, true, true, false, false, false] rfl rfl (by kernel_rfl) (by decide) (fun K hK => ?_)
      refine value_ (w1 := ?_) (v := ?_) (by rfl) rfl ?_ ?_
      rotate_left 2
      · go_simp
        constructor
        · rfl
        · rfl
      refine hK.out _ _ ⟨(cell_heap (alloc_old _ _ _ hlt3) 0).trans hc3, (cell_heap (alloc_old _ _ _ hltN) 0).trans k0, (cell_heap (alloc_old _ _ _ hltN) 1).trans k1, (cell_heap (alloc_old _ _ _ hltN) 2).trans k2, (cell_heap (alloc_old _ _ _ hltN) 3).trans k3, (cell_heap (alloc_old _ _ _ hltN) 4).trans k4, (cell_heap (alloc_old _ _ _ hltN) 5).trans k5, (cell_heap (alloc_old _ _ _ hltN) 6).trans k6⟩ (fun hHeld => ?_)
      clear hK K
      refine norm_ (a' := ?_) ?_ ?_
      rotate_left
      · show Act.put _ (some 88) _ = _
        simp only [Act.put, List.setIfInBounds_toArray, List.set_cons_zero, List.set_cons_succ, i64_w, i32_w]
        rfl
      refine last_ (i := 6) (N := some 89) #[true, true, true, true, true, true, true, false, false] rfl rfl (by kernel_rfl) (by decide) (fun K hK => ?_)
      refine Kd.S_append_step k43 (w0 := w3.drew) B (by rfl) (.tmp 86) (.tmp 88) 36 43 (.agg #[.int .u8 0, .int .i64 0, .int .i64 0, .int .i64 0, .int .i64 0, .string ⟨#[]⟩, .slice none 0 0]) 80 rfl Tryd.underlying36 infoN rfl (by decide) (by omega) (.slice A ac2.length c) ac2 x [.int .u8 64, .int .i64 f1, .int .i64 f2, .int .i64 f3, .int .i64 0, .string ⟨#[]⟩, .slice none 0 0] (fun b => b ≠ nb) (fun _ => False) rfl rfl ?aP ?aK ?aF ?aO (Below.refl _ _) ?aS ?aL ?_
      case aP => exact hMx
      case aK => exact fun k hk => hk.elim
      case aF => exact fun k2 hk2 => by have : w3.heap.size ≤ k2 := hk2; omega
      case aO => exact hSo
      case aS => exact hBw
      case aL => omega
      intro v1 w4 hS4 hb4 hg4 hat4
      obtain ⟨A1, c1, rfl⟩ := Kd.S_slice hS4
      have hnb4 : w4.heap[nb]? = some (.cells #[.slice A ac2.length c] 36 (0, 0)) := (hg4.block nb hlt3 (fun e => hown _ e.symm rfl)).trans hG3.c
      have n0 := cell_of (T := 36) hnb4
      have nf := froz_of (T := 36) hnb4
      have hset := set_same (T := 36) hnb4 (.slice A1 (ac2 ++ [x]).length c1)
      have n1 := cell_of (T := 36) hset
      have hG4 : Gath (w4.setCell ⟨nb, 0, none⟩ (.slice A1 (ac2 ++ [x]).length c1)) nb B (.slice A1 (ac2 ++ [x]).length c1) (ac2 ++ [x]) := ⟨hset, Kd.S_far hS4 (fun _ hk => hk) _⟩
      have hk5 : Kp nb (.slice A ac2.length c) w3 (w4.setCell ⟨nb, 0, none⟩ (.slice A1 (ac2 ++ [x]).length c1)) := ⟨hg4.os, hg4.tape, hg4.output, by rw [set_size]; exact hg4.size, fun b hb h1 h2 => (set_heap _ _ _ _ _ h1).trans (hg4.block b hb h2)⟩
      have hat5 : Own3 (.slice A ac2.length c) (.slice A1 (ac2 ++ [x]).length c1) w3 := hat4
      clear hb4 hg4 hat4 hS4 hnb4 hset
      refine hK.out _ _ ?_
      clear hK K
      refine norm_ (a' := ?_) ?_ ?_
      rotate_left
      · show Act.put _ (some 89) _ = _
        simp only [Act.put, List.setIfInBounds_toArray, List.set_cons_zero, List.set_cons_succ, i64_w, i32_w]
        rfl
      refine pure_ (i := 7) (N := some 90) (v := ?_) (a' := ?_) #[true, true, true, true, true, true, true, true, false] rfl rfl (by kernel_rfl) (fun _ _ _ h => h) (Or.inl ⟨by rfl, ?_⟩) ?_ ?_
      rotate_left
      · intro w'
        go_simp
        with_reducible rfl
      rotate_left
      · simp only [Act.put, List.setIfInBounds_toArray, List.set_cons_zero, List.set_cons_succ, i64_w, i32_w]
        rfl
      refine last_ (i := 8) (N := none) #[true, true, true, true, true, true, true, true, true] rfl rfl (by kernel_rfl) (by decide) (fun K hK => ?_)
      refine skip_ (w1 := ?_) (by rfl) rfl ?_ ?_
      rotate_left
      · go_simp
        rfl
      refine hK.out _ _ ?_
      clear hK K
      refine done_ (by kernel_rfl) ?_
      go_wp2
      go_ret2
      have hL1 : (ac2 ++ [x]).length = ac2.length + 1 := by simp
      rw [hL1] at hG4 hk5 hat5
      refine ⟨hC'.out.kp.trans hk5 hC'.out.o, by rw [hac2l'.out]; first | rfl | (congr 4; omega), _, hC'.out.o.trans hat5 hC'.out.kp.size, ?_⟩
      rw [hfin'.out]
      exact hG4
theorem read_comp108 (s : ByteArray) (a nb B n : Nat) (w : World) (v : Value) (acc : List S43) (hG : Gath w nb B v acc) (hB : B ≤ w.heap.size) (hnB : B ≤ nb) (hs : s.size ≤ 2000) (hlt : a < s.size) (hac : acc.length ≤ a) (hk : bt s (a : Int) = 108) (hn : s.size - a < n + 1)
    (ih : ∀ (a' : Nat) (w' : World) (v' : Value) (acc' : List S43), Gath w' nb B v' acc' → B ≤ w'.heap.size → a' ≤ s.size → acc'.length ≤ a' → s.size - a' < n → Calls Tryd.prog 66 #[.string s, .int .i64 (a' : Int), .pointer (some ⟨nb, 0, none⟩)] w' (ReadP nb B w' v' acc' (rd s n a'))) :
    Calls Tryd.prog 66 #[.string s, .int .i64 (a : Int), .pointer (some ⟨nb, 0, none⟩)] w (fun e w' => Kp nb v w w' ∧ match rdN s n 2 (a + 1) with
      | some (ts, en) => e = .returned (.tuple #[.int .i64 ((acc.length + szs ts : Nat) : Int), .int .i64 (en : Int)]) ∧ ∃ v', Own3 v v' w ∧ Gath w' nb B v' (acc ++ (flats ts acc.length ++ [⟨108, fld acc.length ts 0, fld acc.length ts 1, fld acc.length ts 2, 0, ⟨#[]⟩, []⟩]))
      | none => e = .returned (.tuple #[.int .i64 (-1), .int .i64 (-1)])) := by
  have hb : ((s[a]'hlt).toNat : Int) = 108 := by rw [← hk]; exact bt_at s a hlt
  have hge : ¬ s.size ≤ a := by omega
  obtain ⟨X, hX⟩ : ∃ X, X = rdN s n 2 (a + 1) := ⟨_, rfl⟩
  rw [← hX]
  have hX' := Aside0.mk hX
  have hvb : ∀ k, v.ownBlock = some k → k < w.heap.size := Kd.S_lt hG.s
  have hvB : ∀ k, v.ownBlock = some k → B ≤ k := Kd.S_base hG.s
  clear hk hX
  go_enter Tryd.func66, Tryd.ntmps66
  go_wp2
  have hat : AtC s n a nb B w v 2 108 acc 2 (w.alloc (.cells #[.int .u8 108, .int .i64 0, .int .i64 0, .int .i64 0, .int .i64 0, .string ⟨#[]⟩, .slice none 0 0] 43)) v [] 0 (a + 1) :=
    ⟨by simpa [flats] using hG.below (below_alloc (Below.refl _ _) _), Own3.refl _ _, alloc_here _ _, fun e => by have := hvb _ e; omega, .of_below (below_alloc (Below.refl _ _) _), by simp, rfl, by omega, by omega, by omega, by simp [szs]; omega, Nat.le_refl _⟩
  have hnbl := hG.lt
  clear hb hge hG
  go_loopg [12, 13, 14] 2 (fun mm v12 v13 v14 w' => ∃ v1 ts i next, v13 = .int .i64 ((next : Nat) : Int) ∧ v14 = .int .i64 ((i : Nat) : Int) ∧ (∃ q, v12 = .int .i64 q) ∧ AtC s n a nb B w v 2 108 acc mm w' v1 ts i next)
  case atStart => exact ⟨v, [], 0, a + 1, rfl, rfl, ⟨_, rfl⟩, hat⟩
  case round =>
    obtain ⟨v1, ts, i, next, rfl, rfl, ⟨q0, rfl⟩, hC⟩ := hrel
    clear hat
    by_cases hi : i < 2
    · have hrest := hC.rest
      rw [show 2 - i = (2 - i - 1) + 1 from by omega, show rdN s n (2 - i - 1 + 1) next = (rd s n next).bind fun r => (rdN s n (2 - i - 1) r.2).map fun q => (r.1 :: q.1, q.2) from rfl] at hrest
      have hwB : B ≤ wr.heap.size := Nat.le_trans hB hC.kp.size
      have hR := ih next wr v1 _ hC.g hwB hC.nx (by rw [List.length_append, flats_length]; exact hC.sz) (by have := hC.gt; omega)
      cases hx : rd s n next with
      | none =>
        rw [hx] at hrest hR
        have hXn : X = none := by rw [hX'.out, hrest]; rfl
        subst hXn
        have hC' := Aside0.mk hC
        have hii : (i : Int) < 2 := by omega
        clear hX' hrest hx ih hC hi
        go_wp2_with (first | (go_at_call 66; refine (Calls.mono hR ?_); rintro e w2 ⟨hk2, rfl⟩))
        go_ret2
        exact ⟨hC'.out.kp.trans hk2 hC'.out.o, rfl⟩
      | some r =>
        obtain ⟨t, en⟩ := r
        rw [hx] at hrest hR
        have hg := rdT_ok s hs _ _ _ _ hx hC.nx
        have hsz := sz_le s _ _ _ _ hx hs hC.nx
        have hC' := Aside0.mk hC
        have hrest' := Aside0.mk hrest
        have hii : (i : Int) < 2 := by omega
        have hi3 : i = 0 ∨ i = 1 ∨ i = 2 := by omega
        have hlen := hC.len
        have hnd := hC.nd
        have hno := hC.no
        have hlw : w.heap.size < wr.heap.size := by
          rcases Nat.lt_or_ge w.heap.size wr.heap.size with h0 | h0
          · exact h0
          · rw [Array.getElem?_eq_none h0] at hnd; cases hnd
        have hmore := fun w2 v2 hk ho hG => hC'.out.more (w2 := w2) (v2 := v2) hs hi (by omega) hnbl hx hk ho hG
        have hmore' := Aside0.mk hmore
        clear hrest hx hC ih hmore hX'
        rcases hi3 with rfl | rfl | rfl
        · obtain rfl := List.length_eq_zero_iff.mp hlen
          obtain ⟨z, hz⟩ : ∃ z : Int, z = fld acc.length [] 0 := ⟨_, rfl⟩
          rw [← hz] at hnd
          clear hz hlen
          go_wp2_with (first | (go_at_call 66; refine (Calls.mono hR ?_); rintro e w2 ⟨hk2, rfl, v2, ho2, hG2⟩; have hN2 := (hk2.block w.heap.size hlw (fun e => by omega) (fun e => hno e.symm)).trans hnd; have xc : w2.cell? ⟨w.heap.size, 1, none⟩ = some (.int .i64 z) := Lib.cell_of_heap hN2 1; have xf := Lib.frozen_of_heap hN2 1; have hM2 := Aside0.mk (hmore'.out w2 v2 hk2 ho2 hG2); clear hG2 hN2 hk2 ho2))
          go_roundg (2 - (0 + 1))
          case measure => have := hC'.out.meas; omega
          case rel =>
            rw [List.length_append] at hM2
            exact ⟨v2, [] ++ [t], 0 + 1, en, rfl, rfl, ⟨_, rfl⟩, hM2.out⟩
        · obtain ⟨t1, rfl⟩ := List.length_eq_one_iff.mp hlen
          obtain ⟨z, hz⟩ : ∃ z : Int, z = fld acc.length [t1] 1 := ⟨_, rfl⟩
          rw [← hz] at hnd
          clear hz hlen
          go_wp2_with (first | (go_at_call 66; refine (Calls.mono hR ?_); rintro e w2 ⟨hk2, rfl, v2, ho2, hG2⟩; have hN2 := (hk2.block w.heap.size hlw (fun e => by omega) (fun e => hno e.symm)).trans hnd; have xc : w2.cell? ⟨w.heap.size, 2, none⟩ = some (.int .i64 z) := Lib.cell_of_heap hN2 2; have xf := Lib.frozen_of_heap hN2 2; have hM2 := Aside0.mk (hmore'.out w2 v2 hk2 ho2 hG2); clear hG2 hN2 hk2 ho2))
          go_roundg (2 - (1 + 1))
          case measure => have := hC'.out.meas; omega
          case rel =>
            rw [List.length_append] at hM2
            exact ⟨v2, [t1] ++ [t], 1 + 1, en, rfl, rfl, ⟨_, rfl⟩, hM2.out⟩
        · omega
    · obtain rfl : i = 2 := by have := hC.le; omega
      have hXs : X = some (ts, next) := by
        rw [hX'.out, hC.rest, show 2 - 2 = 0 from by omega]
        simp [rdN]
      subst hXs
      have hC' := Aside0.mk hC
      obtain ⟨ac2, hac2⟩ : ∃ l, l = acc ++ flats ts acc.length := ⟨_, rfl⟩
      obtain ⟨f1, hf1⟩ : ∃ f, f = fld acc.length ts 0 := ⟨_, rfl⟩
      obtain ⟨f2, hf2⟩ : ∃ f, f = fld acc.length ts 1 := ⟨_, rfl⟩
      obtain ⟨f3, hf3⟩ : ∃ f, f = fld acc.length ts 2 := ⟨_, rfl⟩
      have hG3 := hC.g
      rw [← hac2] at hG3
      have hnd := hC.nd
      rw [← hf1, ← hf2, ← hf3] at hnd
      have hac2l : ac2.length = acc.length + szs ts := by rw [hac2, List.length_append, flats_length]
      have hbigl : ac2.length ≤ 2000 := by rw [hac2l]; have := hC.sz; have := hC.nx; omega
      have hBw : B ≤ wr.heap.size := Nat.le_trans hB hC.kp.size
      clear hC
      obtain ⟨A, c, rfl⟩ := Kd.S_slice hG3.s
      have hc3 := cell_of (T := 36) hG3.c
      have hlt3 := hG3.lt
      have hltN : w.heap.size < wr.heap.size := by
        rcases Nat.lt_or_ge w.heap.size wr.heap.size with h0 | h0
        · exact h0
        · rw [Array.getElem?_eq_none h0] at hnd; cases hnd
      have kk := fun j => Lib.cell_of_heap hnd j
      have k0 := kk 0; have k1 := kk 1; have k2 := kk 2; have k3 := kk 3; have k4 := kk 4; have k5 := kk 5; have k6 := kk 6
      replace k0 : wr.cell? ⟨w.heap.size, 0, none⟩ = some (.int .u8 108) := k0
      replace k1 : wr.cell? ⟨w.heap.size, 1, none⟩ = some (.int .i64 f1) := k1
      replace k2 : wr.cell? ⟨w.heap.size, 2, none⟩ = some (.int .i64 f2) := k2
      replace k3 : wr.cell? ⟨w.heap.size, 3, none⟩ = some (.int .i64 f3) := k3
      replace k4 : wr.cell? ⟨w.heap.size, 4, none⟩ = some (.int .i64 0) := k4
      replace k5 : wr.cell? ⟨w.heap.size, 5, none⟩ = some (.string ⟨#[]⟩) := k5
      replace k6 : wr.cell? ⟨w.heap.size, 6, none⟩ = some (.slice none 0 0) := k6
      have hown : ∀ k, (Value.slice A ac2.length c).ownBlock = some k → k ≠ nb := (Kd.S_R hG3.s).1
      have hSo : Kd.S k43 43 wr B (fun b => b ≠ nb ∧ ¬ False) (.slice A ac2.length c) ac2 := Kd.S_mono hG3.s (fun b hb1 => ⟨hb1, fun h => h⟩)
      obtain ⟨x, hxe⟩ : ∃ x : S43, x = ⟨108, f1, f2, f3, 0, ⟨#[]⟩, []⟩ := ⟨_, rfl⟩
      have hMx : k43.M wr B (fun _ => False) x [.int .u8 108, .int .i64 f1, .int .i64 f2, .int .i64 f3, .int .i64 0, .string ⟨#[]⟩, .slice none 0 0] := by rw [hxe]; exact k43_mkM wr B _ ⟨108, f1, f2, f3, 0, ⟨#[]⟩, []⟩ (Kd.R_nil _ _ _ _ _)
      have hfin : acc ++ (flats ts acc.length ++ [(⟨108, fld acc.length ts 0, fld acc.length ts 1, fld acc.length ts 2, 0, ⟨#[]⟩, []⟩ : S43)]) = ac2 ++ [x] := by rw [hxe, hac2, hf1, hf2, hf3, List.append_assoc]
      have hfin' := Aside0.mk hfin
      have hac2l' := Aside0.mk hac2l
      clear kk hnd hX' ih hf1 hf2 hf3 hxe hac2 hac2l hfin
      generalize wr = w3 at *
      go_wp2
      refine start_ (n := 9) (S := fun w' => w'.cell? ⟨nb, 0, none⟩ = some (.slice A ac2.length c) ∧ w'.cell? ⟨w.heap.size, 0, none⟩ = some (.int .u8 108) ∧ w'.cell? ⟨w.heap.size, 1, none⟩ = some (.int .i64 f1) ∧ w'.cell? ⟨w.heap.size, 2, none⟩ = some (.int .i64 f2) ∧ w'.cell? ⟨w.heap.size, 3, none⟩ = some (.int .i64 f3) ∧ w'.cell? ⟨w.heap.size, 4, none⟩ = some (.int .i64 0) ∧ w'.cell? ⟨w.heap.size, 5, none⟩ = some (.string ⟨#[]⟩) ∧ w'.cell? ⟨w.heap.size, 6, none⟩ = some (.slice none 0 0)) (ds := [6, 8]) #[false, false, false, false, false, false, false, false, false] (by kernel_rfl) rfl rfl ⟨hc3, k0, k1, k2, k3, k4, k5, k6⟩ (fun hHeld => ?_)
      refine pure_ (i := 0) (N := some 83) (v := ?_) (a' := ?_) #[true, false, false, false, false, false, false, false, false] rfl rfl (by kernel_rfl) (fun _ _ _ h => h) (Or.inl ⟨by rfl, ?_⟩) ?_ ?_
      rotate_left
      · intro w'
        go_simp
        with_reducible rfl
      rotate_left
      · simp only [Act.put, List.setIfInBounds_toArray, List.set_cons_zero, List.set_cons_succ, i64_w, i32_w]
        rfl
      refine pure_ (i := 1) (N := some 84) (v := ?_) (a' := ?_) #[true, true, false, false, false, false, false, false, false] rfl rfl (by kernel_rfl) (fun _ _ _ h => h) (Or.inl ⟨by rfl, ?_⟩) ?_ ?_
      rotate_left
      · intro w'
        go_simp
        with_reducible rfl
      rotate_left
      · simp only [Act.put, List.setIfInBounds_toArray, List.set_cons_zero, List.set_cons_succ, i64_w, i32_w]
        rfl
      refine pure_ (i := 2) (N := some 85) (v := ?_) (a' := ?_) #[true, true, true, false, false, false, false, false, false] rfl rfl (by kernel_rfl) (fun _ _ _ h => h) (Or.inl ⟨by rfl, ?_⟩) ?_ ?_
      rotate_left
      · intro w'
        go_simp
        with_reducible rfl
      rotate_left
      · simp only [Act.put, List.setIfInBounds_toArray, List.set_cons_zero, List.set_cons_succ, i64_w, i32_w]
        rfl
      refine take_ (i := 3) (N := some 86) (v := ?_) (a' := ?_) #[true, true, true, true, false, false, false, false, false] rfl rfl (by kernel_rfl) (fun _ _ _ h => h) (Or.inl ⟨by rfl, ?_⟩) hHeld ?_ ?_
      rotate_left
      · rintro w' ⟨s0, s1, s2, s3, s4, s5, s6, s7⟩
        go_simp
        with_reducible rfl
      rotate_left
      · simp only [Act.put, List.setIfInBounds_toArray, List.set_cons_zero, List.set_cons_succ, i64_w, i32_w]
        rfl
      refine take_ (i := 4) (N := some 87) (v := ?_) (a' := ?_) #[true, true, true, true, true, false, false, false, false] rfl rfl (by kernel_rfl) (fun _ _ _ h => h) (Or.inl ⟨by rfl, ?_⟩) hHeld ?_ ?_
      rotate_left
      · rintro w' ⟨s0, s1, s2, s3, s4, s5, s6, s7⟩
        go_simp
        with_reducible rfl
      rotate_left
      · simp only [Act.put, List.setIfInBounds_toArray, List.set_cons_zero, List.set_cons_succ, i64_w, i32_w]
        rfl
      refine one_ (i := 5) (N := some 88) #[true, true, true, true, true, true, false, false, false] rfl rfl (by kernel_rfl) (by decide) (fun K hK => ?_)
      refine value_ (w1 := ?_) (v := ?_) (by rfl) rfl ?_ ?_
      rotate_left 2
      · go_simp
        constructor
        · rfl
        · rfl
      refine hK.out _ _ ⟨(cell_heap (alloc_old _ _ _ hlt3) 0).trans hc3, (cell_heap (alloc_old _ _ _ hltN) 0).trans k0, (cell_heap (alloc_old _ _ _ hltN) 1).trans k1, (cell_heap (alloc_old _ _ _ hltN) 2).trans k2, (cell_heap (alloc_old _ _ _ hltN) 3).trans k3, (cell_heap (alloc_old _ _ _ hltN) 4).trans k4, (cell_heap (alloc_old _ _ _ hltN) 5).trans k5, (cell_heap (alloc_old _ _ _ hltN) 6).trans k6⟩ (fun hHeld => ?_)
      clear hK K
      refine norm_ (a' := ?_) ?_ ?_
      rotate_left
      · show Act.put _ (some 88) _ = _
        simp only [Act.put, List.setIfInBounds_toArray, List.set_cons_zero, List.set_cons_succ, i64_w, i32_w]
        rfl
      refine last_ (i := 6) (N := some 89) #[true, true, true, true, true, true, true, false, false] rfl rfl (by kernel_rfl) (by decide) (fun K hK => ?_)
      refine Kd.S_append_step k43 (w0 := w3.drew) B (by rfl) (.tmp 86) (.tmp 88) 36 43 (.agg #[.int .u8 0, .int .i64 0, .int .i64 0, .int .i64 0, .int .i64 0, .string ⟨#[]⟩, .slice none 0 0]) 80 rfl Tryd.underlying36 infoN rfl (by decide) (by omega) (.slice A ac2.length c) ac2 x [.int .u8 108, .int .i64 f1, .int .i64 f2, .int .i64 f3, .int .i64 0, .string ⟨#[]⟩, .slice none 0 0] (fun b => b ≠ nb) (fun _ => False) rfl rfl ?aP ?aK ?aF ?aO (Below.refl _ _) ?aS ?aL ?_
      case aP => exact hMx
      case aK => exact fun k hk => hk.elim
      case aF => exact fun k2 hk2 => by have : w3.heap.size ≤ k2 := hk2; omega
      case aO => exact hSo
      case aS => exact hBw
      case aL => omega
      intro v1 w4 hS4 hb4 hg4 hat4
      obtain ⟨A1, c1, rfl⟩ := Kd.S_slice hS4
      have hnb4 : w4.heap[nb]? = some (.cells #[.slice A ac2.length c] 36 (0, 0)) := (hg4.block nb hlt3 (fun e => hown _ e.symm rfl)).trans hG3.c
      have n0 := cell_of (T := 36) hnb4
      have nf := froz_of (T := 36) hnb4
      have hset := set_same (T := 36) hnb4 (.slice A1 (ac2 ++ [x]).length c1)
      have n1 := cell_of (T := 36) hset
      have hG4 : Gath (w4.setCell ⟨nb, 0, none⟩ (.slice A1 (ac2 ++ [x]).length c1)) nb B (.slice A1 (ac2 ++ [x]).length c1) (ac2 ++ [x]) := ⟨hset, Kd.S_far hS4 (fun _ hk => hk) _⟩
      have hk5 : Kp nb (.slice A ac2.length c) w3 (w4.setCell ⟨nb, 0, none⟩ (.slice A1 (ac2 ++ [x]).length c1)) := ⟨hg4.os, hg4.tape, hg4.output, by rw [set_size]; exact hg4.size, fun b hb h1 h2 => (set_heap _ _ _ _ _ h1).trans (hg4.block b hb h2)⟩
      have hat5 : Own3 (.slice A ac2.length c) (.slice A1 (ac2 ++ [x]).length c1) w3 := hat4
      clear hb4 hg4 hat4 hS4 hnb4 hset
      refine hK.out _ _ ?_
      clear hK K
      refine norm_ (a' := ?_) ?_ ?_
      rotate_left
      · show Act.put _ (some 89) _ = _
        simp only [Act.put, List.setIfInBounds_toArray, List.set_cons_zero, List.set_cons_succ, i64_w, i32_w]
        rfl
      refine pure_ (i := 7) (N := some 90) (v := ?_) (a' := ?_) #[true, true, true, true, true, true, true, true, false] rfl rfl (by kernel_rfl) (fun _ _ _ h => h) (Or.inl ⟨by rfl, ?_⟩) ?_ ?_
      rotate_left
      · intro w'
        go_simp
        with_reducible rfl
      rotate_left
      · simp only [Act.put, List.setIfInBounds_toArray, List.set_cons_zero, List.set_cons_succ, i64_w, i32_w]
        rfl
      refine last_ (i := 8) (N := none) #[true, true, true, true, true, true, true, true, true] rfl rfl (by kernel_rfl) (by decide) (fun K hK => ?_)
      refine skip_ (w1 := ?_) (by rfl) rfl ?_ ?_
      rotate_left
      · go_simp
        rfl
      refine hK.out _ _ ?_
      clear hK K
      refine done_ (by kernel_rfl) ?_
      go_wp2
      go_ret2
      have hL1 : (ac2 ++ [x]).length = ac2.length + 1 := by simp
      rw [hL1] at hG4 hk5 hat5
      refine ⟨hC'.out.kp.trans hk5 hC'.out.o, by rw [hac2l'.out]; first | rfl | (congr 4; omega), _, hC'.out.o.trans hat5 hC'.out.kp.size, ?_⟩
      rw [hfin'.out]
      exact hG4
theorem read_comp112 (s : ByteArray) (a nb B n : Nat) (w : World) (v : Value) (acc : List S43) (hG : Gath w nb B v acc) (hB : B ≤ w.heap.size) (hnB : B ≤ nb) (hs : s.size ≤ 2000) (hlt : a < s.size) (hac : acc.length ≤ a) (hk : bt s (a : Int) = 112) (hn : s.size - a < n + 1)
    (ih : ∀ (a' : Nat) (w' : World) (v' : Value) (acc' : List S43), Gath w' nb B v' acc' → B ≤ w'.heap.size → a' ≤ s.size → acc'.length ≤ a' → s.size - a' < n → Calls Tryd.prog 66 #[.string s, .int .i64 (a' : Int), .pointer (some ⟨nb, 0, none⟩)] w' (ReadP nb B w' v' acc' (rd s n a'))) :
    Calls Tryd.prog 66 #[.string s, .int .i64 (a : Int), .pointer (some ⟨nb, 0, none⟩)] w (fun e w' => Kp nb v w w' ∧ match rdN s n 2 (a + 1) with
      | some (ts, en) => e = .returned (.tuple #[.int .i64 ((acc.length + szs ts : Nat) : Int), .int .i64 (en : Int)]) ∧ ∃ v', Own3 v v' w ∧ Gath w' nb B v' (acc ++ (flats ts acc.length ++ [⟨112, fld acc.length ts 0, fld acc.length ts 1, fld acc.length ts 2, 0, ⟨#[]⟩, []⟩]))
      | none => e = .returned (.tuple #[.int .i64 (-1), .int .i64 (-1)])) := by
  have hb : ((s[a]'hlt).toNat : Int) = 112 := by rw [← hk]; exact bt_at s a hlt
  have hge : ¬ s.size ≤ a := by omega
  obtain ⟨X, hX⟩ : ∃ X, X = rdN s n 2 (a + 1) := ⟨_, rfl⟩
  rw [← hX]
  have hX' := Aside0.mk hX
  have hvb : ∀ k, v.ownBlock = some k → k < w.heap.size := Kd.S_lt hG.s
  have hvB : ∀ k, v.ownBlock = some k → B ≤ k := Kd.S_base hG.s
  clear hk hX
  go_enter Tryd.func66, Tryd.ntmps66
  go_wp2
  have hat : AtC s n a nb B w v 2 112 acc 2 (w.alloc (.cells #[.int .u8 112, .int .i64 0, .int .i64 0, .int .i64 0, .int .i64 0, .string ⟨#[]⟩, .slice none 0 0] 43)) v [] 0 (a + 1) :=
    ⟨by simpa [flats] using hG.below (below_alloc (Below.refl _ _) _), Own3.refl _ _, alloc_here _ _, fun e => by have := hvb _ e; omega, .of_below (below_alloc (Below.refl _ _) _), by simp, rfl, by omega, by omega, by omega, by simp [szs]; omega, Nat.le_refl _⟩
  have hnbl := hG.lt
  clear hb hge hG
  go_loopg [12, 13, 14] 2 (fun mm v12 v13 v14 w' => ∃ v1 ts i next, v13 = .int .i64 ((next : Nat) : Int) ∧ v14 = .int .i64 ((i : Nat) : Int) ∧ (∃ q, v12 = .int .i64 q) ∧ AtC s n a nb B w v 2 112 acc mm w' v1 ts i next)
  case atStart => exact ⟨v, [], 0, a + 1, rfl, rfl, ⟨_, rfl⟩, hat⟩
  case round =>
    obtain ⟨v1, ts, i, next, rfl, rfl, ⟨q0, rfl⟩, hC⟩ := hrel
    clear hat
    by_cases hi : i < 2
    · have hrest := hC.rest
      rw [show 2 - i = (2 - i - 1) + 1 from by omega, show rdN s n (2 - i - 1 + 1) next = (rd s n next).bind fun r => (rdN s n (2 - i - 1) r.2).map fun q => (r.1 :: q.1, q.2) from rfl] at hrest
      have hwB : B ≤ wr.heap.size := Nat.le_trans hB hC.kp.size
      have hR := ih next wr v1 _ hC.g hwB hC.nx (by rw [List.length_append, flats_length]; exact hC.sz) (by have := hC.gt; omega)
      cases hx : rd s n next with
      | none =>
        rw [hx] at hrest hR
        have hXn : X = none := by rw [hX'.out, hrest]; rfl
        subst hXn
        have hC' := Aside0.mk hC
        have hii : (i : Int) < 2 := by omega
        clear hX' hrest hx ih hC hi
        go_wp2_with (first | (go_at_call 66; refine (Calls.mono hR ?_); rintro e w2 ⟨hk2, rfl⟩))
        go_ret2
        exact ⟨hC'.out.kp.trans hk2 hC'.out.o, rfl⟩
      | some r =>
        obtain ⟨t, en⟩ := r
        rw [hx] at hrest hR
        have hg := rdT_ok s hs _ _ _ _ hx hC.nx
        have hsz := sz_le s _ _ _ _ hx hs hC.nx
        have hC' := Aside0.mk hC
        have hrest' := Aside0.mk hrest
        have hii : (i : Int) < 2 := by omega
        have hi3 : i = 0 ∨ i = 1 ∨ i = 2 := by omega
        have hlen := hC.len
        have hnd := hC.nd
        have hno := hC.no
        have hlw : w.heap.size < wr.heap.size := by
          rcases Nat.lt_or_ge w.heap.size wr.heap.size with h0 | h0
          · exact h0
          · rw [Array.getElem?_eq_none h0] at hnd; cases hnd
        have hmore := fun w2 v2 hk ho hG => hC'.out.more (w2 := w2) (v2 := v2) hs hi (by omega) hnbl hx hk ho hG
        have hmore' := Aside0.mk hmore
        clear hrest hx hC ih hmore hX'
        rcases hi3 with rfl | rfl | rfl
        · obtain rfl := List.length_eq_zero_iff.mp hlen
          obtain ⟨z, hz⟩ : ∃ z : Int, z = fld acc.length [] 0 := ⟨_, rfl⟩
          rw [← hz] at hnd
          clear hz hlen
          go_wp2_with (first | (go_at_call 66; refine (Calls.mono hR ?_); rintro e w2 ⟨hk2, rfl, v2, ho2, hG2⟩; have hN2 := (hk2.block w.heap.size hlw (fun e => by omega) (fun e => hno e.symm)).trans hnd; have xc : w2.cell? ⟨w.heap.size, 1, none⟩ = some (.int .i64 z) := Lib.cell_of_heap hN2 1; have xf := Lib.frozen_of_heap hN2 1; have hM2 := Aside0.mk (hmore'.out w2 v2 hk2 ho2 hG2); clear hG2 hN2 hk2 ho2))
          go_roundg (2 - (0 + 1))
          case measure => have := hC'.out.meas; omega
          case rel =>
            rw [List.length_append] at hM2
            exact ⟨v2, [] ++ [t], 0 + 1, en, rfl, rfl, ⟨_, rfl⟩, hM2.out⟩
        · obtain ⟨t1, rfl⟩ := List.length_eq_one_iff.mp hlen
          obtain ⟨z, hz⟩ : ∃ z : Int, z = fld acc.length [t1] 1 := ⟨_, rfl⟩
          rw [← hz] at hnd
          clear hz hlen
          go_wp2_with (first | (go_at_call 66; refine (Calls.mono hR ?_); rintro e w2 ⟨hk2, rfl, v2, ho2, hG2⟩; have hN2 := (hk2.block w.heap.size hlw (fun e => by omega) (fun e => hno e.symm)).trans hnd; have xc : w2.cell? ⟨w.heap.size, 2, none⟩ = some (.int .i64 z) := Lib.cell_of_heap hN2 2; have xf := Lib.frozen_of_heap hN2 2; have hM2 := Aside0.mk (hmore'.out w2 v2 hk2 ho2 hG2); clear hG2 hN2 hk2 ho2))
          go_roundg (2 - (1 + 1))
          case measure => have := hC'.out.meas; omega
          case rel =>
            rw [List.length_append] at hM2
            exact ⟨v2, [t1] ++ [t], 1 + 1, en, rfl, rfl, ⟨_, rfl⟩, hM2.out⟩
        · omega
    · obtain rfl : i = 2 := by have := hC.le; omega
      have hXs : X = some (ts, next) := by
        rw [hX'.out, hC.rest, show 2 - 2 = 0 from by omega]
        simp [rdN]
      subst hXs
      have hC' := Aside0.mk hC
      obtain ⟨ac2, hac2⟩ : ∃ l, l = acc ++ flats ts acc.length := ⟨_, rfl⟩
      obtain ⟨f1, hf1⟩ : ∃ f, f = fld acc.length ts 0 := ⟨_, rfl⟩
      obtain ⟨f2, hf2⟩ : ∃ f, f = fld acc.length ts 1 := ⟨_, rfl⟩
      obtain ⟨f3, hf3⟩ : ∃ f, f = fld acc.length ts 2 := ⟨_, rfl⟩
      have hG3 := hC.g
      rw [← hac2] at hG3
      have hnd := hC.nd
      rw [← hf1, ← hf2, ← hf3] at hnd
      have hac2l : ac2.length = acc.length + szs ts := by rw [hac2, List.length_append, flats_length]
      have hbigl : ac2.length ≤ 2000 := by rw [hac2l]; have := hC.sz; have := hC.nx; omega
      have hBw : B ≤ wr.heap.size := Nat.le_trans hB hC.kp.size
      clear hC
      obtain ⟨A, c, rfl⟩ := Kd.S_slice hG3.s
      have hc3 := cell_of (T := 36) hG3.c
      have hlt3 := hG3.lt
      have hltN : w.heap.size < wr.heap.size := by
        rcases Nat.lt_or_ge w.heap.size wr.heap.size with h0 | h0
        · exact h0
        · rw [Array.getElem?_eq_none h0] at hnd; cases hnd
      have kk := fun j => Lib.cell_of_heap hnd j
      have k0 := kk 0; have k1 := kk 1; have k2 := kk 2; have k3 := kk 3; have k4 := kk 4; have k5 := kk 5; have k6 := kk 6
      replace k0 : wr.cell? ⟨w.heap.size, 0, none⟩ = some (.int .u8 112) := k0
      replace k1 : wr.cell? ⟨w.heap.size, 1, none⟩ = some (.int .i64 f1) := k1
      replace k2 : wr.cell? ⟨w.heap.size, 2, none⟩ = some (.int .i64 f2) := k2
      replace k3 : wr.cell? ⟨w.heap.size, 3, none⟩ = some (.int .i64 f3) := k3
      replace k4 : wr.cell? ⟨w.heap.size, 4, none⟩ = some (.int .i64 0) := k4
      replace k5 : wr.cell? ⟨w.heap.size, 5, none⟩ = some (.string ⟨#[]⟩) := k5
      replace k6 : wr.cell? ⟨w.heap.size, 6, none⟩ = some (.slice none 0 0) := k6
      have hown : ∀ k, (Value.slice A ac2.length c).ownBlock = some k → k ≠ nb := (Kd.S_R hG3.s).1
      have hSo : Kd.S k43 43 wr B (fun b => b ≠ nb ∧ ¬ False) (.slice A ac2.length c) ac2 := Kd.S_mono hG3.s (fun b hb1 => ⟨hb1, fun h => h⟩)
      obtain ⟨x, hxe⟩ : ∃ x : S43, x = ⟨112, f1, f2, f3, 0, ⟨#[]⟩, []⟩ := ⟨_, rfl⟩
      have hMx : k43.M wr B (fun _ => False) x [.int .u8 112, .int .i64 f1, .int .i64 f2, .int .i64 f3, .int .i64 0, .string ⟨#[]⟩, .slice none 0 0] := by rw [hxe]; exact k43_mkM wr B _ ⟨112, f1, f2, f3, 0, ⟨#[]⟩, []⟩ (Kd.R_nil _ _ _ _ _)
      have hfin : acc ++ (flats ts acc.length ++ [(⟨112, fld acc.length ts 0, fld acc.length ts 1, fld acc.length ts 2, 0, ⟨#[]⟩, []⟩ : S43)]) = ac2 ++ [x] := by rw [hxe, hac2, hf1, hf2, hf3, List.append_assoc]
      have hfin' := Aside0.mk hfin
      have hac2l' := Aside0.mk hac2l
      clear kk hnd hX' ih hf1 hf2 hf3 hxe hac2 hac2l hfin
      generalize wr = w3 at *
      go_wp2
      refine start_ (n := 9) (S := fun w' => w'.cell? ⟨nb, 0, none⟩ = some (.slice A ac2.length c) ∧ w'.cell? ⟨w.heap.size, 0, none⟩ = some (.int .u8 112) ∧ w'.cell? ⟨w.heap.size, 1, none⟩ = some (.int .i64 f1) ∧ w'.cell? ⟨w.heap.size, 2, none⟩ = some (.int .i64 f2) ∧ w'.cell? ⟨w.heap.size, 3, none⟩ = some (.int .i64 f3) ∧ w'.cell? ⟨w.heap.size, 4, none⟩ = some (.int .i64 0) ∧ w'.cell? ⟨w.heap.size, 5, none⟩ = some (.string ⟨#[]⟩) ∧ w'.cell? ⟨w.heap.size, 6, none⟩ = some (.slice none 0 0)) (ds := [6, 8]) #[false, false, false, false, false, false, false, false, false] (by kernel_rfl) rfl rfl ⟨hc3, k0, k1, k2, k3, k4, k5, k6⟩ (fun hHeld => ?_)
      refine pure_ (i := 0) (N := some 83) (v := ?_) (a' := ?_) #[true, false, false, false, false, false, false, false, false] rfl rfl (by kernel_rfl) (fun _ _ _ h => h) (Or.inl ⟨by rfl, ?_⟩) ?_ ?_
      rotate_left
      · intro w'
        go_simp
        with_reducible rfl
      rotate_left
      · simp only [Act.put, List.setIfInBounds_toArray, List.set_cons_zero, List.set_cons_succ, i64_w, i32_w]
        rfl
      refine pure_ (i := 1) (N := some 84) (v := ?_) (a' := ?_) #[true, true, false, false, false, false, false, false, false] rfl rfl (by kernel_rfl) (fun _ _ _ h => h) (Or.inl ⟨by rfl, ?_⟩) ?_ ?_
      rotate_left
      · intro w'
        go_simp
        with_reducible rfl
      rotate_left
      · simp only [Act.put, List.setIfInBounds_toArray, List.set_cons_zero, List.set_cons_succ, i64_w, i32_w]
        rfl
      refine pure_ (i := 2) (N := some 85) (v := ?_) (a' := ?_) #[true, true, true, false, false, false, false, false, false] rfl rfl (by kernel_rfl) (fun _ _ _ h => h) (Or.inl ⟨by rfl, ?_⟩) ?_ ?_
      rotate_left
      · intro w'
        go_simp
        with_reducible rfl
      rotate_left
      · simp only [Act.put, List.setIfInBounds_toArray, List.set_cons_zero, List.set_cons_succ, i64_w, i32_w]
        rfl
      refine take_ (i := 3) (N := some 86) (v := ?_) (a' := ?_) #[true, true, true, true, false, false, false, false, false] rfl rfl (by kernel_rfl) (fun _ _ _ h => h) (Or.inl ⟨by rfl, ?_⟩) hHeld ?_ ?_
      rotate_left
      · rintro w' ⟨s0, s1, s2, s3, s4, s5, s6, s7⟩
        go_simp
        with_reducible rfl
      rotate_left
      · simp only [Act.put, List.setIfInBounds_toArray, List.set_cons_zero, List.set_cons_succ, i64_w, i32_w]
        rfl
      refine take_ (i := 4) (N := some 87) (v := ?_) (a' := ?_) #[true, true, true, true, true, false, false, false, false] rfl rfl (by kernel_rfl) (fun _ _ _ h => h) (Or.inl ⟨by rfl, ?_⟩) hHeld ?_ ?_
      rotate_left
      · rintro w' ⟨s0, s1, s2, s3, s4, s5, s6, s7⟩
        go_simp
        with_reducible rfl
      rotate_left
      · simp only [Act.put, List.setIfInBounds_toArray, List.set_cons_zero, List.set_cons_succ, i64_w, i32_w]
        rfl
      refine one_ (i := 5) (N := some 88) #[true, true, true, true, true, true, false, false, false] rfl rfl (by kernel_rfl) (by decide) (fun K hK => ?_)
      refine value_ (w1 := ?_) (v := ?_) (by rfl) rfl ?_ ?_
      rotate_left 2
      · go_simp
        constructor
        · rfl
        · rfl
      refine hK.out _ _ ⟨(cell_heap (alloc_old _ _ _ hlt3) 0).trans hc3, (cell_heap (alloc_old _ _ _ hltN) 0).trans k0, (cell_heap (alloc_old _ _ _ hltN) 1).trans k1, (cell_heap (alloc_old _ _ _ hltN) 2).trans k2, (cell_heap (alloc_old _ _ _ hltN) 3).trans k3, (cell_heap (alloc_old _ _ _ hltN) 4).trans k4, (cell_heap (alloc_old _ _ _ hltN) 5).trans k5, (cell_heap (alloc_old _ _ _ hltN) 6).trans k6⟩ (fun hHeld => ?_)
      clear hK K
      refine norm_ (a' := ?_) ?_ ?_
      rotate_left
      · show Act.put _ (some 88) _ = _
        simp only [Act.put, List.setIfInBounds_toArray, List.set_cons_zero, List.set_cons_succ, i64_w, i32_w]
        rfl
      refine last_ (i := 6) (N := some 89) #[true, true, true, true, true, true, true, false, false] rfl rfl (by kernel_rfl) (by decide) (fun K hK => ?_)
      refine Kd.S_append_step k43 (w0 := w3.drew) B (by rfl) (.tmp 86) (.tmp 88) 36 43 (.agg #[.int .u8 0, .int .i64 0, .int .i64 0, .int .i64 0, .int .i64 0, .string ⟨#[]⟩, .slice none 0 0]) 80 rfl Tryd.underlying36 infoN rfl (by decide) (by omega) (.slice A ac2.length c) ac2 x [.int .u8 112, .int .i64 f1, .int .i64 f2, .int .i64 f3, .int .i64 0, .string ⟨#[]⟩, .slice none 0 0] (fun b => b ≠ nb) (fun _ => False) rfl rfl ?aP ?aK ?aF ?aO (Below.refl _ _) ?aS ?aL ?_
      case aP => exact hMx
      case aK => exact fun k hk => hk.elim
      case aF => exact fun k2 hk2 => by have : w3.heap.size ≤ k2 := hk2; omega
      case aO => exact hSo
      case aS => exact hBw
      case aL => omega
      intro v1 w4 hS4 hb4 hg4 hat4
      obtain ⟨A1, c1, rfl⟩ := Kd.S_slice hS4
      have hnb4 : w4.heap[nb]? = some (.cells #[.slice A ac2.length c] 36 (0, 0)) := (hg4.block nb hlt3 (fun e => hown _ e.symm rfl)).trans hG3.c
      have n0 := cell_of (T := 36) hnb4
      have nf := froz_of (T := 36) hnb4
      have hset := set_same (T := 36) hnb4 (.slice A1 (ac2 ++ [x]).length c1)
      have n1 := cell_of (T := 36) hset
      have hG4 : Gath (w4.setCell ⟨nb, 0, none⟩ (.slice A1 (ac2 ++ [x]).length c1)) nb B (.slice A1 (ac2 ++ [x]).length c1) (ac2 ++ [x]) := ⟨hset, Kd.S_far hS4 (fun _ hk => hk) _⟩
      have hk5 : Kp nb (.slice A ac2.length c) w3 (w4.setCell ⟨nb, 0, none⟩ (.slice A1 (ac2 ++ [x]).length c1)) := ⟨hg4.os, hg4.tape, hg4.output, by rw [set_size]; exact hg4.size, fun b hb h1 h2 => (set_heap _ _ _ _ _ h1).trans (hg4.block b hb h2)⟩
      have hat5 : Own3 (.slice A ac2.length c) (.slice A1 (ac2 ++ [x]).length c1) w3 := hat4
      clear hb4 hg4 hat4 hS4 hnb4 hset
      refine hK.out _ _ ?_
      clear hK K
      refine norm_ (a' := ?_) ?_ ?_
      rotate_left
      · show Act.put _ (some 89) _ = _
        simp only [Act.put, List.setIfInBounds_toArray, List.set_cons_zero, List.set_cons_succ, i64_w, i32_w]
        rfl
      refine pure_ (i := 7) (N := some 90) (v := ?_) (a' := ?_) #[true, true, true, true, true, true, true, true, false] rfl rfl (by kernel_rfl) (fun _ _ _ h => h) (Or.inl ⟨by rfl, ?_⟩) ?_ ?_
      rotate_left
      · intro w'
        go_simp
        with_reducible rfl
      rotate_left
      · simp only [Act.put, List.setIfInBounds_toArray, List.set_cons_zero, List.set_cons_succ, i64_w, i32_w]
        rfl
      refine last_ (i := 8) (N := none) #[true, true, true, true, true, true, true, true, true] rfl rfl (by kernel_rfl) (by decide) (fun K hK => ?_)
      refine skip_ (w1 := ?_) (by rfl) rfl ?_ ?_
      rotate_left
      · go_simp
        rfl
      refine hK.out _ _ ?_
      clear hK K
      refine done_ (by kernel_rfl) ?_
      go_wp2
      go_ret2
      have hL1 : (ac2 ++ [x]).length = ac2.length + 1 := by simp
      rw [hL1] at hG4 hk5 hat5
      refine ⟨hC'.out.kp.trans hk5 hC'.out.o, by rw [hac2l'.out]; first | rfl | (congr 4; omega), _, hC'.out.o.trans hat5 hC'.out.kp.size, ?_⟩
      rw [hfin'.out]
      exact hG4
theorem read_comp116 (s : ByteArray) (a nb B n : Nat) (w : World) (v : Value) (acc : List S43) (hG : Gath w nb B v acc) (hB : B ≤ w.heap.size) (hnB : B ≤ nb) (hs : s.size ≤ 2000) (hlt : a < s.size) (hac : acc.length ≤ a) (hk : bt s (a : Int) = 116) (hn : s.size - a < n + 1)
    (ih : ∀ (a' : Nat) (w' : World) (v' : Value) (acc' : List S43), Gath w' nb B v' acc' → B ≤ w'.heap.size → a' ≤ s.size → acc'.length ≤ a' → s.size - a' < n → Calls Tryd.prog 66 #[.string s, .int .i64 (a' : Int), .pointer (some ⟨nb, 0, none⟩)] w' (ReadP nb B w' v' acc' (rd s n a'))) :
    Calls Tryd.prog 66 #[.string s, .int .i64 (a : Int), .pointer (some ⟨nb, 0, none⟩)] w (fun e w' => Kp nb v w w' ∧ match rdN s n 3 (a + 1) with
      | some (ts, en) => e = .returned (.tuple #[.int .i64 ((acc.length + szs ts : Nat) : Int), .int .i64 (en : Int)]) ∧ ∃ v', Own3 v v' w ∧ Gath w' nb B v' (acc ++ (flats ts acc.length ++ [⟨116, fld acc.length ts 0, fld acc.length ts 1, fld acc.length ts 2, 0, ⟨#[]⟩, []⟩]))
      | none => e = .returned (.tuple #[.int .i64 (-1), .int .i64 (-1)])) := by
  have hb : ((s[a]'hlt).toNat : Int) = 116 := by rw [← hk]; exact bt_at s a hlt
  have hge : ¬ s.size ≤ a := by omega
  obtain ⟨X, hX⟩ : ∃ X, X = rdN s n 3 (a + 1) := ⟨_, rfl⟩
  rw [← hX]
  have hX' := Aside0.mk hX
  have hvb : ∀ k, v.ownBlock = some k → k < w.heap.size := Kd.S_lt hG.s
  have hvB : ∀ k, v.ownBlock = some k → B ≤ k := Kd.S_base hG.s
  clear hk hX
  go_enter Tryd.func66, Tryd.ntmps66
  go_wp2
  have hat : AtC s n a nb B w v 3 116 acc 3 (w.alloc (.cells #[.int .u8 116, .int .i64 0, .int .i64 0, .int .i64 0, .int .i64 0, .string ⟨#[]⟩, .slice none 0 0] 43)) v [] 0 (a + 1) :=
    ⟨by simpa [flats] using hG.below (below_alloc (Below.refl _ _) _), Own3.refl _ _, alloc_here _ _, fun e => by have := hvb _ e; omega, .of_below (below_alloc (Below.refl _ _) _), by simp, rfl, by omega, by omega, by omega, by simp [szs]; omega, Nat.le_refl _⟩
  have hnbl := hG.lt
  clear hb hge hG
  go_loopg [12, 13, 14] 3 (fun mm v12 v13 v14 w' => ∃ v1 ts i next, v13 = .int .i64 ((next : Nat) : Int) ∧ v14 = .int .i64 ((i : Nat) : Int) ∧ (∃ q, v12 = .int .i64 q) ∧ AtC s n a nb B w v 3 116 acc mm w' v1 ts i next)
  case atStart => exact ⟨v, [], 0, a + 1, rfl, rfl, ⟨_, rfl⟩, hat⟩
  case round =>
    obtain ⟨v1, ts, i, next, rfl, rfl, ⟨q0, rfl⟩, hC⟩ := hrel
    clear hat
    by_cases hi : i < 3
    · have hrest := hC.rest
      rw [show 3 - i = (3 - i - 1) + 1 from by omega, show rdN s n (3 - i - 1 + 1) next = (rd s n next).bind fun r => (rdN s n (3 - i - 1) r.2).map fun q => (r.1 :: q.1, q.2) from rfl] at hrest
      have hwB : B ≤ wr.heap.size := Nat.le_trans hB hC.kp.size
      have hR := ih next wr v1 _ hC.g hwB hC.nx (by rw [List.length_append, flats_length]; exact hC.sz) (by have := hC.gt; omega)
      cases hx : rd s n next with
      | none =>
        rw [hx] at hrest hR
        have hXn : X = none := by rw [hX'.out, hrest]; rfl
        subst hXn
        have hC' := Aside0.mk hC
        have hii : (i : Int) < 3 := by omega
        clear hX' hrest hx ih hC hi
        go_wp2_with (first | (go_at_call 66; refine (Calls.mono hR ?_); rintro e w2 ⟨hk2, rfl⟩))
        go_ret2
        exact ⟨hC'.out.kp.trans hk2 hC'.out.o, rfl⟩
      | some r =>
        obtain ⟨t, en⟩ := r
        rw [hx] at hrest hR
        have hg := rdT_ok s hs _ _ _ _ hx hC.nx
        have hsz := sz_le s _ _ _ _ hx hs hC.nx
        have hC' := Aside0.mk hC
        have hrest' := Aside0.mk hrest
        have hii : (i : Int) < 3 := by omega
        have hi3 : i = 0 ∨ i = 1 ∨ i = 2 := by omega
        have hlen := hC.len
        have hnd := hC.nd
        have hno := hC.no
        have hlw : w.heap.size < wr.heap.size := by
          rcases Nat.lt_or_ge w.heap.size wr.heap.size with h0 | h0
          · exact h0
          · rw [Array.getElem?_eq_none h0] at hnd; cases hnd
        have hmore := fun w2 v2 hk ho hG => hC'.out.more (w2 := w2) (v2 := v2) hs hi (by omega) hnbl hx hk ho hG
        have hmore' := Aside0.mk hmore
        clear hrest hx hC ih hmore hX'
        rcases hi3 with rfl | rfl | rfl
        · obtain rfl := List.length_eq_zero_iff.mp hlen
          obtain ⟨z, hz⟩ : ∃ z : Int, z = fld acc.length [] 0 := ⟨_, rfl⟩
          rw [← hz] at hnd
          clear hz hlen
          go_wp2_with (first | (go_at_call 66; refine (Calls.mono hR ?_); rintro e w2 ⟨hk2, rfl, v2, ho2, hG2⟩; have hN2 := (hk2.block w.heap.size hlw (fun e => by omega) (fun e => hno e.symm)).trans hnd; have xc : w2.cell? ⟨w.heap.size, 1, none⟩ = some (.int .i64 z) := Lib.cell_of_heap hN2 1; have xf := Lib.frozen_of_heap hN2 1; have hM2 := Aside0.mk (hmore'.out w2 v2 hk2 ho2 hG2); clear hG2 hN2 hk2 ho2))
          go_roundg (3 - (0 + 1))
          case measure => have := hC'.out.meas; omega
          case rel =>
            rw [List.length_append] at hM2
            exact ⟨v2, [] ++ [t], 0 + 1, en, rfl, rfl, ⟨_, rfl⟩, hM2.out⟩
        · obtain ⟨t1, rfl⟩ := List.length_eq_one_iff.mp hlen
          obtain ⟨z, hz⟩ : ∃ z : Int, z = fld acc.length [t1] 1 := ⟨_, rfl⟩
          rw [← hz] at hnd
          clear hz hlen
          go_wp2_with (first | (go_at_call 66; refine (Calls.mono hR ?_); rintro e w2 ⟨hk2, rfl, v2, ho2, hG2⟩; have hN2 := (hk2.block w.heap.size hlw (fun e => by omega) (fun e => hno e.symm)).trans hnd; have xc : w2.cell? ⟨w.heap.size, 2, none⟩ = some (.int .i64 z) := Lib.cell_of_heap hN2 2; have xf := Lib.frozen_of_heap hN2 2; have hM2 := Aside0.mk (hmore'.out w2 v2 hk2 ho2 hG2); clear hG2 hN2 hk2 ho2))
          go_roundg (3 - (1 + 1))
          case measure => have := hC'.out.meas; omega
          case rel =>
            rw [List.length_append] at hM2
            exact ⟨v2, [t1] ++ [t], 1 + 1, en, rfl, rfl, ⟨_, rfl⟩, hM2.out⟩
        · obtain ⟨t1, t2, rfl⟩ : ∃ t1 t2, ts = [t1, t2] := by
            match ts, hlen with
            | [t1, t2], _ => exact ⟨t1, t2, rfl⟩
          obtain ⟨z, hz⟩ : ∃ z : Int, z = fld acc.length [t1, t2] 2 := ⟨_, rfl⟩
          rw [← hz] at hnd
          clear hz hlen
          go_wp2_with (first | (go_at_call 66; refine (Calls.mono hR ?_); rintro e w2 ⟨hk2, rfl, v2, ho2, hG2⟩; have hN2 := (hk2.block w.heap.size hlw (fun e => by omega) (fun e => hno e.symm)).trans hnd; have xc : w2.cell? ⟨w.heap.size, 3, none⟩ = some (.int .i64 z) := Lib.cell_of_heap hN2 3; have xf := Lib.frozen_of_heap hN2 3; have hM2 := Aside0.mk (hmore'.out w2 v2 hk2 ho2 hG2); clear hG2 hN2 hk2 ho2))
          go_roundg (3 - (2 + 1))
          case measure => have := hC'.out.meas; omega
          case rel =>
            rw [List.length_append] at hM2
            exact ⟨v2, [t1, t2] ++ [t], 2 + 1, en, rfl, rfl, ⟨_, rfl⟩, hM2.out⟩
    · obtain rfl : i = 3 := by have := hC.le; omega
      have hXs : X = some (ts, next) := by
        rw [hX'.out, hC.rest, show 3 - 3 = 0 from by omega]
        simp [rdN]
      subst hXs
      have hC' := Aside0.mk hC
      obtain ⟨ac2, hac2⟩ : ∃ l, l = acc ++ flats ts acc.length := ⟨_, rfl⟩
      obtain ⟨f1, hf1⟩ : ∃ f, f = fld acc.length ts 0 := ⟨_, rfl⟩
      obtain ⟨f2, hf2⟩ : ∃ f, f = fld acc.length ts 1 := ⟨_, rfl⟩
      obtain ⟨f3, hf3⟩ : ∃ f, f = fld acc.length ts 2 := ⟨_, rfl⟩
      have hG3 := hC.g
      rw [← hac2] at hG3
      have hnd := hC.nd
      rw [← hf1, ← hf2, ← hf3] at hnd
      have hac2l : ac2.length = acc.length + szs ts := by rw [hac2, List.length_append, flats_length]
      have hbigl : ac2.length ≤ 2000 := by rw [hac2l]; have := hC.sz; have := hC.nx; omega
      have hBw : B ≤ wr.heap.size := Nat.le_trans hB hC.kp.size
      clear hC
      obtain ⟨A, c, rfl⟩ := Kd.S_slice hG3.s
      have hc3 := cell_of (T := 36) hG3.c
      have hlt3 := hG3.lt
      have hltN : w.heap.size < wr.heap.size := by
        rcases Nat.lt_or_ge w.heap.size wr.heap.size with h0 | h0
        · exact h0
        · rw [Array.getElem?_eq_none h0] at hnd; cases hnd
      have kk := fun j => Lib.cell_of_heap hnd j
      have k0 := kk 0; have k1 := kk 1; have k2 := kk 2; have k3 := kk 3; have k4 := kk 4; have k5 := kk 5; have k6 := kk 6
      replace k0 : wr.cell? ⟨w.heap.size, 0, none⟩ = some (.int .u8 116) := k0
      replace k1 : wr.cell? ⟨w.heap.size, 1, none⟩ = some (.int .i64 f1) := k1
      replace k2 : wr.cell? ⟨w.heap.size, 2, none⟩ = some (.int .i64 f2) := k2
      replace k3 : wr.cell? ⟨w.heap.size, 3, none⟩ = some (.int .i64 f3) := k3
      replace k4 : wr.cell? ⟨w.heap.size, 4, none⟩ = some (.int .i64 0) := k4
      replace k5 : wr.cell? ⟨w.heap.size, 5, none⟩ = some (.string ⟨#[]⟩) := k5
      replace k6 : wr.cell? ⟨w.heap.size, 6, none⟩ = some (.slice none 0 0) := k6
      have hown : ∀ k, (Value.slice A ac2.length c).ownBlock = some k → k ≠ nb := (Kd.S_R hG3.s).1
      have hSo : Kd.S k43 43 wr B (fun b => b ≠ nb ∧ ¬ False) (.slice A ac2.length c) ac2 := Kd.S_mono hG3.s (fun b hb1 => ⟨hb1, fun h => h⟩)
      obtain ⟨x, hxe⟩ : ∃ x : S43, x = ⟨116, f1, f2, f3, 0, ⟨#[]⟩, []⟩ := ⟨_, rfl⟩
      have hMx : k43.M wr B (fun _ => False) x [.int .u8 116, .int .i64 f1, .int .i64 f2, .int .i64 f3, .int .i64 0, .string ⟨#[]⟩, .slice none 0 0] := by rw [hxe]; exact k43_mkM wr B _ ⟨116, f1, f2, f3, 0, ⟨#[]⟩, []⟩ (Kd.R_nil _ _ _ _ _)
      have hfin : acc ++ (flats ts acc.length ++ [(⟨116, fld acc.length ts 0, fld acc.length ts 1, fld acc.length ts 2, 0, ⟨#[]⟩, []⟩ : S43)]) = ac2 ++ [x] := by rw [hxe, hac2, hf1, hf2, hf3, List.append_assoc]
      have hfin' := Aside0.mk hfin
      have hac2l' := Aside0.mk hac2l
      clear kk hnd hX' ih hf1 hf2 hf3 hxe hac2 hac2l hfin
      generalize wr = w3 at *
      go_wp2
      refine start_ (n := 9) (S := fun w' => w'.cell? ⟨nb, 0, none⟩ = some (.slice A ac2.length c) ∧ w'.cell? ⟨w.heap.size, 0, none⟩ = some (.int .u8 116) ∧ w'.cell? ⟨w.heap.size, 1, none⟩ = some (.int .i64 f1) ∧ w'.cell? ⟨w.heap.size, 2, none⟩ = some (.int .i64 f2) ∧ w'.cell? ⟨w.heap.size, 3, none⟩ = some (.int .i64 f3) ∧ w'.cell? ⟨w.heap.size, 4, none⟩ = some (.int .i64 0) ∧ w'.cell? ⟨w.heap.size, 5, none⟩ = some (.string ⟨#[]⟩) ∧ w'.cell? ⟨w.heap.size, 6, none⟩ = some (.slice none 0 0)) (ds := [6, 8]) #[false, false, false, false, false, false, false, false, false] (by kernel_rfl) rfl rfl ⟨hc3, k0, k1, k2, k3, k4, k5, k6⟩ (fun hHeld => ?_)
      refine pure_ (i := 0) (N := some 83) (v := ?_) (a' := ?_) #[true, false, false, false, false, false, false, false, false] rfl rfl (by kernel_rfl) (fun _ _ _ h => h) (Or.inl ⟨by rfl, ?_⟩) ?_ ?_
      rotate_left
      · intro w'
        go_simp
        with_reducible rfl
      rotate_left
      · simp only [Act.put, List.setIfInBounds_toArray, List.set_cons_zero, List.set_cons_succ, i64_w, i32_w]
        rfl
      refine pure_ (i := 1) (N := some 84) (v := ?_) (a' := ?_) #[true, true, false, false, false, false, false, false, false] rfl rfl (by kernel_rfl) (fun _ _ _ h => h) (Or.inl ⟨by rfl, ?_⟩) ?_ ?_
      rotate_left
      · intro w'
        go_simp
        with_reducible rfl
      rotate_left
      · simp only [Act.put, List.setIfInBounds_toArray, List.set_cons_zero, List.set_cons_succ, i64_w, i32_w]
        rfl
      refine pure_ (i := 2) (N := some 85) (v := ?_) (a' := ?_) #[true, true, true, false, false, false, false, false, false] rfl rfl (by kernel_rfl) (fun _ _ _ h => h) (Or.inl ⟨by rfl, ?_⟩) ?_ ?_
      rotate_left
      · intro w'
        go_simp
        with_reducible rfl
      rotate_left
      · simp only [Act.put, List.setIfInBounds_toArray, List.set_cons_zero, List.set_cons_succ, i64_w, i32_w]
        rfl
      refine take_ (i := 3) (N := some 86) (v := ?_) (a' := ?_) #[true, true, true, true, false, false, false, false, false] rfl rfl (by kernel_rfl) (fun _ _ _ h => h) (Or.inl ⟨by rfl, ?_⟩) hHeld ?_ ?_
      rotate_left
      · rintro w' ⟨s0, s1, s2, s3, s4, s5, s6, s7⟩
        go_simp
        with_reducible rfl
      rotate_left
      · simp only [Act.put, List.setIfInBounds_toArray, List.set_cons_zero, List.set_cons_succ, i64_w, i32_w]
        rfl
      refine take_ (i := 4) (N := some 87) (v := ?_) (a' := ?_) #[true, true, true, true, true, false, false, false, false] rfl rfl (by kernel_rfl) (fun _ _ _ h => h) (Or.inl ⟨by rfl, ?_⟩) hHeld ?_ ?_
      rotate_left
      · rintro w' ⟨s0, s1, s2, s3, s4, s5, s6, s7⟩
        go_simp
        with_reducible rfl
      rotate_left
      · simp only [Act.put, List.setIfInBounds_toArray, List.set_cons_zero, List.set_cons_succ, i64_w, i32_w]
        rfl
      refine one_ (i := 5) (N := some 88) #[true, true, true, true, true, true, false, false, false] rfl rfl (by kernel_rfl) (by decide) (fun K hK => ?_)
      refine value_ (w1 := ?_) (v := ?_) (by rfl) rfl ?_ ?_
      rotate_left 2
      · go_simp
        constructor
        · rfl
        · rfl
      refine hK.out _ _ ⟨(cell_heap (alloc_old _ _ _ hlt3) 0).trans hc3, (cell_heap (alloc_old _ _ _ hltN) 0).trans k0, (cell_heap (alloc_old _ _ _ hltN) 1).trans k1, (cell_heap (alloc_old _ _ _ hltN) 2).trans k2, (cell_heap (alloc_old _ _ _ hltN) 3).trans k3, (cell_heap (alloc_old _ _ _ hltN) 4).trans k4, (cell_heap (alloc_old _ _ _ hltN) 5).trans k5, (cell_heap (alloc_old _ _ _ hltN) 6).trans k6⟩ (fun hHeld => ?_)
      clear hK K
      refine norm_ (a' := ?_) ?_ ?_
      rotate_left
      · show Act.put _ (some 88) _ = _
        simp only [Act.put, List.setIfInBounds_toArray, List.set_cons_zero, List.set_cons_succ, i64_w, i32_w]
        rfl
      refine last_ (i := 6) (N := some 89) #[true, true, true, true, true, true, true, false, false] rfl rfl (by kernel_rfl) (by decide) (fun K hK => ?_)
      refine Kd.S_append_step k43 (w0 := w3.drew) B (by rfl) (.tmp 86) (.tmp 88) 36 43 (.agg #[.int .u8 0, .int .i64 0, .int .i64 0, .int .i64 0, .int .i64 0, .string ⟨#[]⟩, .slice none 0 0]) 80 rfl Tryd.underlying36 infoN rfl (by decide) (by omega) (.slice A ac2.length c) ac2 x [.int .u8 116, .int .i64 f1, .int .i64 f2, .int .i64 f3, .int .i64 0, .string ⟨#[]⟩, .slice none 0 0] (fun b => b ≠ nb) (fun _ => False) rfl rfl ?aP ?aK ?aF ?aO (Below.refl _ _) ?aS ?aL ?_
      case aP => exact hMx
      case aK => exact fun k hk => hk.elim
      case aF => exact fun k2 hk2 => by have : w3.heap.size ≤ k2 := hk2; omega
      case aO => exact hSo
      case aS => exact hBw
      case aL => omega
      intro v1 w4 hS4 hb4 hg4 hat4
      obtain ⟨A1, c1, rfl⟩ := Kd.S_slice hS4
      have hnb4 : w4.heap[nb]? = some (.cells #[.slice A ac2.length c] 36 (0, 0)) := (hg4.block nb hlt3 (fun e => hown _ e.symm rfl)).trans hG3.c
      have n0 := cell_of (T := 36) hnb4
      have nf := froz_of (T := 36) hnb4
      have hset := set_same (T := 36) hnb4 (.slice A1 (ac2 ++ [x]).length c1)
      have n1 := cell_of (T := 36) hset
      have hG4 : Gath (w4.setCell ⟨nb, 0, none⟩ (.slice A1 (ac2 ++ [x]).length c1)) nb B (.slice A1 (ac2 ++ [x]).length c1) (ac2 ++ [x]) := ⟨hset, Kd.S_far hS4 (fun _ hk => hk) _⟩
      have hk5 : Kp nb (.slice A ac2.length c) w3 (w4.setCell ⟨nb, 0, none⟩ (.slice A1 (ac2 ++ [x]).length c1)) := ⟨hg4.os, hg4.tape, hg4.output, by rw [set_size]; exact hg4.size, fun b hb h1 h2 => (set_heap _ _ _ _ _ h1).trans (hg4.block b hb h2)⟩
      have hat5 : Own3 (.slice A ac2.length c) (.slice A1 (ac2 ++ [x]).length c1) w3 := hat4
      clear hb4 hg4 hat4 hS4 hnb4 hset
      refine hK.out _ _ ?_
      clear hK K
      refine norm_ (a' := ?_) ?_ ?_
      rotate_left
      · show Act.put _ (some 89) _ = _
        simp only [Act.put, List.setIfInBounds_toArray, List.set_cons_zero, List.set_cons_succ, i64_w, i32_w]
        rfl
      refine pure_ (i := 7) (N := some 90) (v := ?_) (a' := ?_) #[true, true, true, true, true, true, true, true, false] rfl rfl (by kernel_rfl) (fun _ _ _ h => h) (Or.inl ⟨by rfl, ?_⟩) ?_ ?_
      rotate_left
      · intro w'
        go_simp
        with_reducible rfl
      rotate_left
      · simp only [Act.put, List.setIfInBounds_toArray, List.set_cons_zero, List.set_cons_succ, i64_w, i32_w]
        rfl
      refine last_ (i := 8) (N := none) #[true, true, true, true, true, true, true, true, true] rfl rfl (by kernel_rfl) (by decide) (fun K hK => ?_)
      refine skip_ (w1 := ?_) (by rfl) rfl ?_ ?_
      rotate_left
      · go_simp
        rfl
      refine hK.out _ _ ?_
      clear hK K
      refine done_ (by kernel_rfl) ?_
      go_wp2
      go_ret2
      have hL1 : (ac2 ++ [x]).length = ac2.length + 1 := by simp
      rw [hL1] at hG4 hk5 hat5
      refine ⟨hC'.out.kp.trans hk5 hC'.out.o, by rw [hac2l'.out]; first | rfl | (congr 4; omega), _, hC'.out.o.trans hat5 hC'.out.kp.size, ?_⟩
      rw [hfin'.out]
      exact hG4
end Go.Proofs.YtefiapcfdabfpaaDoor.P

namespace Go.Proofs.YtefiapcfdabfpaaDoor.Pure
open Go.RowKit Go.Proofs.YtefiapcfdabfpaaDoor.P Go.Proofs.YtefiapcfdabfpaaDoorW.PrintWords
theorem w64 (x : Int) (h0 : -9223372036854775808 ≤ x) (h1 : x ≤ 9223372036854775807) : wrap64 x = x := by unfold wrap64; omega
theorem figure_is (d : Nat) (h : d < 10) : spec_l01Figure.f (d : Int) = some ((48 + d : Nat) : Int) := by
  unfold spec_l01Figure.f
  rw [if_pos (by omega)]
  congr 1
  unfold wrap64
  omega
theorem strOf_one (d : Nat) (h : d < 256) : strOfNums [((d : Nat) : Int)] = mk [UInt8.ofNat d] := by
  unfold strOfNums mk
  simp
theorem mk_append (a b : List UInt8) : mk a ++ mk b = mk (a ++ b) := by
  unfold mk
  apply ByteArray.ext
  simp
theorem mk_size (a : List UInt8) : (mk a).size = a.length := by simp [mk, ByteArray.size]
theorem nDigits_le : ∀ (k n : Nat), n < 10 ^ (k + 1) → Lib.nDigits n ≤ k + 1
  | 0, n, h => by rw [Lib.nDigits_small (by simpa using h)]; omega
  | k + 1, n, h => by
    by_cases h1 : n < 10
    · rw [Lib.nDigits_small h1]; omega
    · rw [Lib.nDigits, dif_neg h1]
      have := nDigits_le k (n / 10) (by rw [Nat.pow_succ] at h; omega)
      omega
theorem tdm (x : Int) (u : Nat) (hx : x.natAbs = u) : (0 ≤ x ∧ Int.tmod x 10 = ((u % 10 : Nat) : Int) ∧ Int.tdiv x 10 = ((u / 10 : Nat) : Int)) ∨ (x < 0 ∧ Int.tmod x 10 = -((u % 10 : Nat) : Int) ∧ Int.tdiv x 10 = -((u / 10 : Nat) : Int)) := by
  rcases Int.lt_or_le x 0 with h | h
  · right
    obtain rfl : x = -(u : Int) := by omega
    exact ⟨h, by rw [Int.neg_tmod]; rfl, by rw [Int.neg_tdiv]; rfl⟩
  · left
    obtain rfl : x = (u : Int) := by omega
    exact ⟨h, rfl, rfl⟩
theorem dec_loop (b : Bool) (k0 : Nat) : ∀ (u : Nat) (x : Int) (acc : List UInt8) (k : Nat), x.natAbs = u → 0 < u → -9223372036854775808 ≤ x → x ≤ 9223372036854775807 → acc.length + Lib.nDigits u ≤ 1000 → Lib.nDigits u + 1 < k →
    spec_Decimal.l0 k x b (mk acc) = some (mk ((if b then [45] else []) ++ (Lib.decDigits u ++ acc))) := by
  intro u
  induction u using Nat.strongRecOn with
  | _ u ih =>
  intro x acc k hx hu h0 h1 ha hk
  obtain ⟨k, rfl⟩ : ∃ m, k = m + 1 := ⟨k - 1, by omega⟩
  have hm : u % 10 < 10 := Nat.mod_lt _ (by omega)
  have hT := tdm x u hx
  have hstep : spec_Decimal.l0 (k + 1) x b (mk acc) = spec_Decimal.l0 k (Int.tdiv x 10) b (mk (UInt8.ofNat (48 + u % 10) :: acc)) := by
    have hw : wrap64 (Int.tdiv x 10) = Int.tdiv x 10 := w64 _ (by omega) (by omega)
    have hs : (mk [UInt8.ofNat (48 + u % 10)]).size + (mk acc).size ≤ 9223372036854775807 := by rw [mk_size, mk_size, List.length_singleton]; omega
    simp only [spec_Decimal.l0]
    rw [if_neg (by omega), hw]
    by_cases hn : Int.tmod x 10 < 0
    · have e : wrap64 (-(Int.tmod x 10)) = ((u % 10 : Nat) : Int) := by rw [w64 _ (by omega) (by omega)]; omega
      rw [if_pos hn, e, figure_is _ hm]
      simp only [Option.bind_some]
      rw [strOf_one _ (by omega), if_pos hs, mk_append]
      rfl
    · have e : Int.tmod x 10 = ((u % 10 : Nat) : Int) := by omega
      rw [if_neg hn, e, figure_is _ hm]
      simp only [Option.bind_some]
      rw [strOf_one _ (by omega), if_pos hs, mk_append]
      rfl
  rw [hstep]
  by_cases h10 : u < 10
  · obtain ⟨k, rfl⟩ : ∃ m, k = m + 1 := ⟨k - 1, by rw [Lib.nDigits_small h10] at hk; omega⟩
    have hz : Int.tdiv x 10 = 0 := by omega
    rw [hz]
    simp only [spec_Decimal.l0]
    rw [Lib.decDigits_one h10, Nat.mod_eq_of_lt h10]
    rw [if_pos trivial]
    cases b with
    | true =>
      rw [if_pos rfl, if_pos (by rw [mk_size, List.length_cons]; omega)]
      rw [show (⟨#[45]⟩ : ByteArray) = mk [45] from rfl, mk_append]
      rfl
    | false => rw [if_neg (by decide)]; rfl
  · have hd : Lib.nDigits u = Lib.nDigits (u / 10) + 1 := by rw [Lib.nDigits, dif_neg h10]
    rw [ih (u / 10) (by omega) (Int.tdiv x 10) _ k (by omega) (by omega) (by omega) (by omega) (by rw [List.length_cons]; omega) (by omega)]
    rw [Lib.decDigits.eq_def u, dif_neg h10, List.append_assoc, List.singleton_append]
theorem Decimal_is (n : Int) (h0 : -9223372036854775808 ≤ n) (h1 : n ≤ 9223372036854775807) (k : Nat) (hk : 30 < k) : spec_Decimal.f k n = some (mk (Lib.itoa n)) := by
  unfold spec_Decimal.f
  by_cases hz : n = 0
  · rw [if_pos hz]; subst hz; rw [show (0 : Int) = ((0 : Nat) : Int) from rfl, Lib.itoa_nonneg, Lib.decDigits_one (by omega)]; rfl
  · rw [if_neg hz]
    have hd := nDigits_le 18 n.natAbs (by have : (10 : Nat) ^ 19 = 10000000000000000000 := by decide
                                          omega)
    have := dec_loop (decide (n < 0)) 0 n.natAbs n [] k rfl (by omega) h0 h1 (by simp; omega) (by omega)
    rw [show (⟨#[]⟩ : ByteArray) = mk [] from rfl, this, List.append_nil]
    unfold Lib.itoa
    by_cases hn : n < 0
    · rw [if_pos hn, decide_eq_true hn]; rfl
    · rw [if_neg hn, decide_eq_false hn, show n.natAbs = n.toNat by omega]; rfl
/-- What both ReadDecimals answer. -/
def readP (l : List UInt8) : Int × Bool :=
  if 10 < l.length then (0, false) else match Lib.decFrom 0 l with
    | none => (0, false)
    | some n => if 1000000000 < n then (0, false) else if Lib.decDigits n = l then ((n : Int), true) else (0, false)
theorem decFrom_append : ∀ (l r : List UInt8) (acc : Nat), Lib.decFrom acc (l ++ r) = (Lib.decFrom acc l).bind fun n => Lib.decFrom n r
  | [], r, acc => rfl
  | b :: l, r, acc => by
    simp only [List.cons_append, Lib.decFrom]
    cases Lib.digitVal b with
    | none => rfl
    | some d => exact decFrom_append l r _
theorem digitVal_of (d : Nat) (h : d < 10) : Lib.digitVal (UInt8.ofNat (48 + d)) = some d := by
  unfold Lib.digitVal
  rw [show (UInt8.ofNat (48 + d)).toNat = 48 + d from by simp; omega, if_pos (by omega)]
  congr 1; omega
theorem decFrom_digits (u : Nat) : Lib.decFrom 0 (Lib.decDigits u) = some u := by
  induction u using Nat.strongRecOn with
  | _ u ih =>
  by_cases h : u < 10
  · rw [Lib.decDigits_one h]; simp only [Lib.decFrom]; rw [digitVal_of u h]; simp
  · rw [Lib.decDigits.eq_def u, dif_neg h, decFrom_append, ih (u / 10) (by omega)]
    simp only [Option.bind_some, Lib.decFrom, digitVal_of (u % 10) (by omega)]
    congr 1; omega
theorem decFrom_lt : ∀ (l : List UInt8) (acc n : Nat), Lib.decFrom acc l = some n → n < (acc + 1) * 10 ^ l.length
  | [], acc, n, h => by simp only [Lib.decFrom, Option.some.injEq] at h; subst h; simp
  | b :: l, acc, n, h => by
    simp only [Lib.decFrom] at h
    cases hd : Lib.digitVal b with
    | none => rw [hd] at h; cases h
    | some d =>
      rw [hd] at h
      have h1 := decFrom_lt l _ n h
      obtain ⟨_, _, hdd⟩ := Lib.digitVal_eq hd
      have hb := b.toNat_lt
      rw [List.length_cons, Nat.pow_succ, Nat.mul_comm (10 ^ l.length) 10, ← Nat.mul_assoc]
      exact Nat.lt_of_lt_of_le h1 (Nat.mul_le_mul_right _ (by omega))
theorem atoi_digits (u : Nat) (h : u ≤ 1000000000) : Lib.atoiAll (Lib.decDigits u) = .ok (u : Int) ∧ (Lib.decDigits u).length ≤ 10 := by
  have hl : (Lib.decDigits u).length ≤ 10 := by
    rw [Lib.decDigits_length]
    exact nDigits_le 9 u (by have : (10 : Nat) ^ (9 + 1) = 10000000000 := by decide
                             omega)
  refine ⟨?_, hl⟩
  have hf := decFrom_digits u
  rcases hd : Lib.decDigits u with _ | ⟨c, r⟩
  · have := Lib.decDigits_length u
    rw [hd] at this
    have h2 : 0 < Lib.nDigits u := by rw [Lib.nDigits]; split <;> omega
    simp at this; omega
  · rw [hd] at hf hl
    have hc : ∃ d, Lib.digitVal c = some d := Lib.digit_of_decFrom (c :: r) 0 u hf 0 c rfl
    obtain ⟨d, hc⟩ := hc
    obtain ⟨c1, c2, _⟩ := Lib.digitVal_eq hc
    unfold Lib.atoiAll
    simp only
    rw [if_neg (by omega)]
    have hp : Lib.parseMag (c :: r) = .ok u := by
      unfold Lib.parseMag
      rw [if_neg (by simp), Lib.parseUint10_short (c :: r) 0 1 (by decide) (by omega), hf]
      rfl
    rw [hp]
    simp only
    rw [if_neg (by omega), if_neg (by omega), if_neg (by omega)]
theorem readP_hit (u : Nat) (h : u ≤ 1000000000) : readP (Lib.decDigits u) = ((u : Int), true) := by
  unfold readP
  rw [if_neg (by have := (atoi_digits u h).2; omega), decFrom_digits]
  simp only
  rw [if_neg (by omega)]
  simp
theorem readP_miss (l : List UInt8) (h : ∀ u, u ≤ 1000000000 → Lib.decDigits u ≠ l) : readP l = (0, false) := by
  unfold readP
  split
  · rfl
  · split
    · rfl
    · split
      · rfl
      · rw [if_neg (h _ (by omega))]
theorem implRead_is (s : ByteArray) (hs : s.size ≤ 140737488351232) : impl_ReadDecimal.f s = some (readP s.data.toList) := by
  unfold impl_ReadDecimal.f
  rw [if_pos hs]
  by_cases H : ∃ u, u ≤ 1000000000 ∧ Lib.decDigits u = s.data.toList
  · obtain ⟨u, hu, he⟩ := H
    rw [← he, readP_hit u hu, (atoi_digits u hu).1]
    simp only
    rw [if_pos (by omega), if_pos (by rw [toList_is, toList_is, ← he]; simp [Lib.itoa_nonneg])]
  · have hm : ∀ u, u ≤ 1000000000 → Lib.decDigits u ≠ s.data.toList := fun u hu he => H ⟨u, hu, he⟩
    rw [readP_miss _ hm]
    cases Lib.atoiAll s.data.toList with
    | ok v =>
      simp only
      by_cases hv : 0 ≤ v ∧ v ≤ 1000000000
      · rw [if_pos hv, if_neg]
        intro he
        rw [toList_is, toList_is] at he
        refine hm v.toNat (by omega) ?_
        rw [← he]
        obtain ⟨n, rfl⟩ : ∃ n : Nat, v = (n : Int) := ⟨v.toNat, by omega⟩
        rw [Lib.itoa_nonneg]
        simp
      · rw [if_neg hv]
    | _ => rfl
theorem specRead_loop (s : ByteArray) (hs : s.size ≤ 10) (d : Nat) : ∀ (i acc : Nat), i + d = s.size → acc < 10 ^ i → ∀ k, d + 40 < k →
    spec_ReadDecimal.l0 k s (acc : Int) (i : Int) = some (match Lib.decFrom acc (s.data.toList.drop i) with
      | none => (0, false)
      | some n => if 1000000000 < n then (0, false) else if Lib.decDigits n = s.data.toList then ((n : Int), true) else (0, false)) := by
  induction d with
  | zero =>
    intro i acc hi ha k hk
    obtain ⟨k, rfl⟩ : ∃ m, k = m + 1 := ⟨k - 1, by omega⟩
    have hb : acc < 10 ^ 10 := Nat.lt_of_lt_of_le ha (Nat.pow_le_pow_right (by omega) (by omega))
    have hb' : (10 : Nat) ^ 10 = 10000000000 := by decide
    simp only [spec_ReadDecimal.l0]
    rw [if_neg (by omega), List.drop_eq_nil_of_le (by simp; omega)]
    simp only [Lib.decFrom]
    by_cases h1 : 1000000000 < acc
    · rw [if_pos h1, if_pos (by omega)]
    · rw [if_neg h1, if_neg (by omega), Decimal_is _ (by omega) (by omega) k (by omega)]
      simp only [Option.bind_some]
      rw [toList_is, toList_is, data_mk, Lib.itoa_nonneg]
      split <;> rfl
  | succ d ih =>
    intro i acc hi ha k hk
    obtain ⟨k, rfl⟩ : ∃ m, k = m + 1 := ⟨k - 1, by omega⟩
    have hl : i < s.data.toList.length := by simp; omega
    have hb : acc < 10 ^ 10 := Nat.lt_of_lt_of_le ha (Nat.pow_le_pow_right (by omega) (by omega))
    have hb' : (10 : Nat) ^ 10 = 10000000000 := by decide
    have e : wrap64 ((i : Int) + 1) = ((i + 1 : Nat) : Int) := by rw [w64 _ (by omega) (by omega)]; omega
    simp only [spec_ReadDecimal.l0]
    rw [if_pos (by omega), if_pos (by omega), btl s i hl, e, List.drop_eq_getElem_cons hl]
    generalize s.data.toList[i] = c
    have hc := c.toNat_lt
    simp only [Lib.decFrom]
    by_cases h1 : ((c.toNat : Nat) : Int) < 48
    · have hd : Lib.digitVal c = none := by unfold Lib.digitVal; rw [if_neg (by omega)]
      rw [if_pos h1, hd]
    · rw [if_neg h1]
      by_cases h2 : ((c.toNat : Nat) : Int) > 57
      · have hd : Lib.digitVal c = none := by unfold Lib.digitVal; rw [if_neg (by omega)]
        rw [if_pos h2, hd]
      · have hd : Lib.digitVal c = some (c.toNat - 48) := by unfold Lib.digitVal; rw [if_pos (by omega)]
        rw [if_neg h2, hd]
        have e2 : wrap64 ((wrap64 ((wrap64 (10 * (acc : Int))) + (wrap64 ((c.toNat : Nat) : Int)))) - 48) = ((acc * 10 + (c.toNat - 48) : Nat) : Int) := by
          rw [w64 (10 * (acc : Int)) (by omega) (by omega), w64 ((c.toNat : Nat) : Int) (by omega) (by omega), w64 (10 * (acc : Int) + ((c.toNat : Nat) : Int)) (by omega) (by omega), w64 _ (by omega) (by omega)]
          omega
        rw [e2]
        exact ih (i + 1) _ (by omega) (by rw [Nat.pow_succ]; omega) k (by omega)
theorem specRead_is (s : ByteArray) (k : Nat) (hk : 60 < k) : spec_ReadDecimal.f k s = some (readP s.data.toList) := by
  unfold spec_ReadDecimal.f readP
  by_cases h : s.size > 10
  · rw [if_pos (by omega), if_pos (by simpa using h)]
  · rw [if_neg (by omega), if_neg (by simpa using h)]
    have := specRead_loop s (by omega) s.size 0 0 (by omega) (by decide) k (by omega)
    rw [List.drop_zero] at this
    exact this
end Go.Proofs.YtefiapcfdabfpaaDoor.Pure
