/- The row of laws.FnExactReported and its tied card: for every input the law returns true, and the arguments read afterwards as before. Written by wip/tools/card.py. -/
import Derived.Test.YthnembgbooaplaaDoorKFnExactReported1
import Derived.Lib.SplitLaws
import Derived.Lib.CountLaws
import Derived.Test.YthnembgbooaplaaDoorCards
import Derived.Test.YthnembgbooaplaaDoorTie
import Derived.SevenTiedAt
namespace Go.Proofs.YthnembgbooaplaaDoor.P
open Go.RowKit Go.Proofs.YthnembgbooaplaaDoorW.PrintWords Go.Proofs.YthnembgbooaplaaDoorW.PrintLast Go.Proofs.YthnembgbooaplaaDoorW.PrintMore
attribute [local go_sem] max2_int min2_int max_two min_two max_three min_three max_four min_four
set_option linter.unusedVariables false
set_option linter.unusedSimpArgs false

/-! ### spec_l02Part: function 46 -/
mutual
def spec_l02Part.j0 : Nat → ByteArray → Bool → Option (Bool)
  | 0, _, _ => none
  | k + 1, x0, x16 => if x16 = true then (some false) else (spec_l02Part.l0 k x0 0)
def spec_l02Part.l0 : Nat → ByteArray → Int → Option (Bool)
  | 0, _, _ => none
  | k + 1, x0, x3 => if x3 < (x0.size : Int) then (if 0 ≤ x3 then (if (bt x0 x3) ≥ 97 then (if ((bt x0 x3) ≤ 122) then (spec_l02Part.l0 k x0 (wrap64 (x3 + 1))) else (if (bt x0 x3) ≥ 48 then (if ((bt x0 x3) ≤ 57) then (spec_l02Part.l0 k x0 (wrap64 (x3 + 1))) else (some false)) else (some false))) else (if (bt x0 x3) ≥ 48 then (if ((bt x0 x3) ≤ 57) then (spec_l02Part.l0 k x0 (wrap64 (x3 + 1))) else (some false)) else (some false))) else (none)) else (some true)
end
def spec_l02Part.f (k : Nat) (a0 : ByteArray) : Option (Bool) := if (a0.size : Int) = 0 then (spec_l02Part.j0 k a0 true) else (if 0 < (a0.size : Int) then (if (bt a0 0) < 97 then (spec_l02Part.j0 k a0 true) else (spec_l02Part.j0 k a0 (decide ((bt a0 0) > 122)))) else (none))
theorem spec_l02Part.mono_l : ∀ k, (∀ y0 y1, LeO (spec_l02Part.j0 k y0 y1) (spec_l02Part.j0 (k + 1) y0 y1)) ∧ (∀ y0 y1, LeO (spec_l02Part.l0 k y0 y1) (spec_l02Part.l0 (k + 1) y0 y1))
  | 0 => ⟨fun _ _ r h => by simp [spec_l02Part.j0] at h, fun _ _ r h => by simp [spec_l02Part.l0] at h⟩
  | k + 1 => by
    obtain ⟨ih0, ih1⟩ := spec_l02Part.mono_l k
    refine ⟨?_, ?_⟩
    · intro y0 y1
      unfold spec_l02Part.j0
      repeat' first
      | (with_reducible exact ih0 _ _)
      | (with_reducible exact ih1 _ _)
      | (with_reducible exact LeO.refl _)
      | (with_reducible exact LeO.none _)
      | (with_reducible refine LeO.ite ?_ ?_)
      | (with_reducible refine LeO.bind ?_ (fun _ => ?_))
      | exact ih0 _ _
      | exact ih1 _ _
      | exact LeO.none _
      | refine LeO.ite ?_ ?_
      | refine LeO.bind ?_ (fun _ => ?_)
    · intro y0 y1
      unfold spec_l02Part.l0
      repeat' first
      | (with_reducible exact ih0 _ _)
      | (with_reducible exact ih1 _ _)
      | (with_reducible exact LeO.refl _)
      | (with_reducible exact LeO.none _)
      | (with_reducible refine LeO.ite ?_ ?_)
      | (with_reducible refine LeO.bind ?_ (fun _ => ?_))
      | exact ih0 _ _
      | exact ih1 _ _
      | exact LeO.none _
      | refine LeO.ite ?_ ?_
      | refine LeO.bind ?_ (fun _ => ?_)
theorem spec_l02Part.mono : ∀ a0 k, LeO (spec_l02Part.f k a0) (spec_l02Part.f (k + 1) a0) := by
  intro a0 k
  obtain ⟨ih0, ih1⟩ := spec_l02Part.mono_l k
  unfold spec_l02Part.f
  repeat' first
      | (with_reducible exact ih0 _ _)
      | (with_reducible exact ih1 _ _)
      | (with_reducible exact LeO.refl _)
      | (with_reducible exact LeO.none _)
      | (with_reducible refine LeO.ite ?_ ?_)
      | (with_reducible refine LeO.bind ?_ (fun _ => ?_))
      | exact ih0 _ _
      | exact ih1 _ _
      | exact LeO.none _
      | refine LeO.ite ?_ ?_
      | refine LeO.bind ?_ (fun _ => ?_)
set_option maxHeartbeats 8000000 in
set_option maxRecDepth 100000 in
theorem spec_l02Part.calls (k : Nat) (a0 : ByteArray) (r : Bool) (w : World) (h : spec_l02Part.f k a0 = some r) :
    Calls Tryd.prog 46 #[.string a0] w fun e w' => e = .returned (.bool r) ∧ Drawn0 w w' := by
  have H : (if (a0.size : Int) = 0 then (spec_l02Part.j0 k a0 true) else (if 0 < (a0.size : Int) then (if (bt a0 0) < 97 then (spec_l02Part.j0 k a0 true) else (spec_l02Part.j0 k a0 (decide ((bt a0 0) > 122)))) else (none))) = some r := h
  clear h
  have HC2 := Aside0.mk H
  clear H
  go_enter Tryd.func46, Tryd.ntmps46
  go_upto_region 1 with (fail)
  go_cut [16] (fun v16 wc => ∃ (kq : Nat) (x16_1 : Bool), v16 = .bool x16_1 ∧ Aside0 (spec_l02Part.j0 kq a0 x16_1 = some r) ∧ Aside0 (kq ≤ k) ∧ Drawn0 w wc)
  case first =>
    have H := HC2.out
    clear HC2
    by_cases c3 : (a0.size : Int) = 0
    · rw [if_pos c3] at H
      have c3b0 : ((a0.size : Int) == 0) = true := beq_iff_eq.mpr c3
      have c3b1 : ((a0.size : Int) != 0) = false := bne_eq_false_iff_eq.mpr c3
      clear c3
      (first | rw [c3b0] | (simp only [i64_w, i32_w]; rw [c3b0]) | skip)
      have H' := Aside0.mk H
      clear H
      go_wp2
      go_meet
      case rel => exact ⟨_, (true), (by first | rfl | (simp; done) | (simp [*]; done)), H', ⟨by first | omega | exact Nat.le_refl _⟩, by repeat (first | exact Drawn0.refl _ | apply Drawn0.step)⟩
    · rw [if_neg c3] at H
      have c3b0 : ((a0.size : Int) == 0) = false := beq_eq_false_iff_ne.mpr c3
      have c3b1 : ((a0.size : Int) != 0) = true := bne_iff_ne.mpr c3
      (first | rw [c3b0] | (simp only [i64_w, i32_w]; rw [c3b0]) | skip)
      by_cases c4 : 0 < (a0.size : Int)
      · rw [if_pos c4] at H
        have c4b0 : decide (0 < (a0.size : Int)) = true := decide_eq_true c4
        have c4b1 : decide (0 < a0.size) = true := decide_eq_true (by omega)
        clear c4
        by_cases c6 : (bt a0 0) < 97
        · rw [if_pos c6] at H
          have c6b0 : decide ((bt a0 0) < 97) = true := decide_eq_true c6
          clear c6
          have H' := Aside0.mk H
          clear H
          have p5 : 0 ≤ (0 : Int) := (by omega)
          have q5 : 0 < a0.size := (by have : (0 : Int) < (a0.size : Int) := of_decide_eq_true (by first | (with_reducible assumption) | assumption); omega)
          have hx5 : ∀ h : 0 < a0.size, ((a0[0]'h).toNat : Int) = bt a0 0 := bt_at a0 0
          clear p5
          have qi5 : (0 < (a0.size : Int)) = True := eq_true (of_decide_eq_true (by first | (with_reducible assumption) | assumption))
          replace q5 := eq_true q5
          go_wp2
          go_meet
          case rel => exact ⟨_, (true), (by first | rfl | (simp; done) | (simp [*]; done)), H', ⟨by first | omega | exact Nat.le_refl _⟩, by repeat (first | exact Drawn0.refl _ | apply Drawn0.step)⟩
        · rw [if_neg c6] at H
          have c6b0 : decide ((bt a0 0) < 97) = false := decide_eq_false c6
          clear c6
          have H' := Aside0.mk H
          clear H
          have p5 : 0 ≤ (0 : Int) := (by omega)
          have q5 : 0 < a0.size := (by have : (0 : Int) < (a0.size : Int) := of_decide_eq_true (by first | (with_reducible assumption) | assumption); omega)
          have hx5 : ∀ h : 0 < a0.size, ((a0[0]'h).toNat : Int) = bt a0 0 := bt_at a0 0
          clear p5
          have qi5 : (0 < (a0.size : Int)) = True := eq_true (of_decide_eq_true (by first | (with_reducible assumption) | assumption))
          replace q5 := eq_true q5
          have p7 : 0 ≤ (0 : Int) := (by omega)
          have q7 : 0 < a0.size := (by have : (0 : Int) < (a0.size : Int) := of_decide_eq_true (by first | (with_reducible assumption) | assumption); omega)
          have hx7 : ∀ h : 0 < a0.size, ((a0[0]'h).toNat : Int) = bt a0 0 := bt_at a0 0
          clear p7
          have qi7 : (0 < (a0.size : Int)) = True := eq_true (of_decide_eq_true (by first | (with_reducible assumption) | assumption))
          replace q7 := eq_true q7
          go_wp2
          go_meet
          case rel => exact ⟨_, (decide ((bt a0 0) > 122)), (by first | rfl | (simp; done) | (simp [*]; done)), H', ⟨by first | omega | exact Nat.le_refl _⟩, by repeat (first | exact Drawn0.refl _ | apply Drawn0.step)⟩
      · rw [if_neg c4] at H
        exact absurd H (by simp)
  case rest =>
    clear HC2
    try clear p2
    try clear c3
    try clear c3b0
    try clear c3b1
    try clear c4
    try clear c4b0
    try clear c4b1
    try clear p5
    try clear q5
    try clear hx5
    try clear qi5
    try clear c6
    try clear c6b0
    try clear p7
    try clear q7
    try clear hx7
    try clear qi7
    try clear p5
    try clear p7
    try clear q5
    try clear q7
    obtain ⟨kq, x16_1, rfl, HA, HJ1, ⟨mc1, rfl⟩⟩ := hcut
    cases kq with
    | zero => exact absurd HA.out (by simp [spec_l02Part.j0])
    | succ kj1 =>
      have H := HA.out
      clear HA
      simp only [spec_l02Part.j0] at H
      by_cases c8 : x16_1 = true
      · subst c8
        have H1 : (some false) = some r := by rw [if_pos rfl] at H; exact H
        clear H
        have H := H1
        clear H1
        obtain rfl := Option.some.inj H
        go_wp2
        go_ret
        exact ⟨by first | rfl | (simp; done) | (simp [*]; done), by repeat (first | exact Drawn0.refl _ | apply Drawn0.step)⟩
      · replace c8 := Bool.eq_false_iff.mpr c8
        subst c8
        have H1 : (spec_l02Part.l0 kj1 a0 0) = some r := by rw [if_neg (show ¬ (false = true) by decide)] at H; exact H
        clear H
        have H := H1
        clear H1
        have H' := Aside0.mk H
        clear H
        go_wp2
        go_loopg [3] kj1 (fun kq v3 w' => ∃ (x3_2 : Int), v3 = .int .i64 x3_2 ∧ Aside0 (spec_l02Part.l0 kq a0 x3_2 = some r) ∧ Aside0 (kq ≤ kj1) ∧ Drawn0 w w')
        case atStart => exact ⟨(0), (by first | rfl | (simp; done) | (simp [*]; done)), H', ⟨Nat.le_refl _⟩, by repeat (first | exact Drawn0.refl _ | apply Drawn0.step)⟩
        case round =>
          clear H'
          try clear c1
          try clear p2
          try clear c3
          try clear c3b0
          try clear c3b1
          try clear c4
          try clear c4b0
          try clear c4b1
          try clear p5
          try clear q5
          try clear hx5
          try clear qi5
          try clear c6
          try clear c6b0
          try clear p7
          try clear q7
          try clear hx7
          try clear qi7
          try clear c8
          try clear p2
          try clear p5
          try clear p7
          try clear q5
          try clear q7
          obtain ⟨x3_2, rfl, HA, HK2, ⟨m2, rfl⟩⟩ := hrel
          cases gk with
          | zero => exact absurd HA.out (by simp [spec_l02Part.l0])
          | succ k2 =>
            have H := HA.out
            clear HA
            simp only [spec_l02Part.l0] at H
            by_cases c9 : x3_2 < (a0.size : Int)
            · rw [if_pos c9] at H
              have c9b0 : decide (x3_2 < (a0.size : Int)) = true := decide_eq_true c9
              clear c9
              by_cases c10 : 0 ≤ x3_2
              · rw [if_pos c10] at H
                have c10b0 : decide (0 ≤ x3_2) = true := decide_eq_true c10
                clear c10
                by_cases c12 : (bt a0 x3_2) ≥ 97
                · rw [if_pos c12] at H
                  have c12b0 : decide (97 ≤ (bt a0 x3_2)) = true := decide_eq_true c12
                  clear c12
                  by_cases c14 : ((bt a0 x3_2) ≤ 122)
                  · rw [if_pos c14] at H
                    have c14b0 : decide ((bt a0 x3_2) ≤ 122) = true := decide_eq_true c14
                    clear c14
                    have H' := Aside0.mk H
                    clear H
                    have p11 : 0 ≤ (x3_2 : Int) := of_decide_eq_true (by first | (with_reducible assumption) | assumption)
                    have q11 : x3_2 < (a0.size : Int) := of_decide_eq_true (by first | (with_reducible assumption) | assumption)
                    have hx11 := bt_at a0 x3_2
                    replace p11 := eq_true p11
                    replace q11 := eq_true q11
                    have p13 : 0 ≤ (x3_2 : Int) := of_decide_eq_true (by first | (with_reducible assumption) | assumption)
                    have q13 : x3_2 < (a0.size : Int) := of_decide_eq_true (by first | (with_reducible assumption) | assumption)
                    have hx13 := bt_at a0 x3_2
                    replace p13 := eq_true p13
                    replace q13 := eq_true q13
                    go_wp2
                    go_roundg k2
                    case measure => have := HJ1.out; have := HK2.out; omega
                    case rel => exact ⟨(wrap64 (x3_2 + 1)), (by first | rfl | (simp; done) | (simp [*]; done)), H', ⟨by have := HJ1.out; have := HK2.out; omega⟩, by repeat (first | exact Drawn0.refl _ | apply Drawn0.step)⟩
                  · rw [if_neg c14] at H
                    have c14b0 : decide ((bt a0 x3_2) ≤ 122) = false := decide_eq_false c14
                    clear c14
                    by_cases c16 : (bt a0 x3_2) ≥ 48
                    · rw [if_pos c16] at H
                      have c16b0 : decide (48 ≤ (bt a0 x3_2)) = true := decide_eq_true c16
                      clear c16
                      by_cases c18 : ((bt a0 x3_2) ≤ 57)
                      · rw [if_pos c18] at H
                        have c18b0 : decide ((bt a0 x3_2) ≤ 57) = true := decide_eq_true c18
                        clear c18
                        have H' := Aside0.mk H
                        clear H
                        have p11 : 0 ≤ (x3_2 : Int) := of_decide_eq_true (by first | (with_reducible assumption) | assumption)
                        have q11 : x3_2 < (a0.size : Int) := of_decide_eq_true (by first | (with_reducible assumption) | assumption)
                        have hx11 := bt_at a0 x3_2
                        replace p11 := eq_true p11
                        replace q11 := eq_true q11
                        have p13 : 0 ≤ (x3_2 : Int) := of_decide_eq_true (by first | (with_reducible assumption) | assumption)
                        have q13 : x3_2 < (a0.size : Int) := of_decide_eq_true (by first | (with_reducible assumption) | assumption)
                        have hx13 := bt_at a0 x3_2
                        replace p13 := eq_true p13
                        replace q13 := eq_true q13
                        have p15 : 0 ≤ (x3_2 : Int) := of_decide_eq_true (by first | (with_reducible assumption) | assumption)
                        have q15 : x3_2 < (a0.size : Int) := of_decide_eq_true (by first | (with_reducible assumption) | assumption)
                        have hx15 := bt_at a0 x3_2
                        replace p15 := eq_true p15
                        replace q15 := eq_true q15
                        have p17 : 0 ≤ (x3_2 : Int) := of_decide_eq_true (by first | (with_reducible assumption) | assumption)
                        have q17 : x3_2 < (a0.size : Int) := of_decide_eq_true (by first | (with_reducible assumption) | assumption)
                        have hx17 := bt_at a0 x3_2
                        replace p17 := eq_true p17
                        replace q17 := eq_true q17
                        go_wp2
                        go_roundg k2
                        case measure => have := HJ1.out; have := HK2.out; omega
                        case rel => exact ⟨(wrap64 (x3_2 + 1)), (by first | rfl | (simp; done) | (simp [*]; done)), H', ⟨by have := HJ1.out; have := HK2.out; omega⟩, by repeat (first | exact Drawn0.refl _ | apply Drawn0.step)⟩
                      · rw [if_neg c18] at H
                        have c18b0 : decide ((bt a0 x3_2) ≤ 57) = false := decide_eq_false c18
                        clear c18
                        obtain rfl := Option.some.inj H
                        have p11 : 0 ≤ (x3_2 : Int) := of_decide_eq_true (by first | (with_reducible assumption) | assumption)
                        have q11 : x3_2 < (a0.size : Int) := of_decide_eq_true (by first | (with_reducible assumption) | assumption)
                        have hx11 := bt_at a0 x3_2
                        replace p11 := eq_true p11
                        replace q11 := eq_true q11
                        have p13 : 0 ≤ (x3_2 : Int) := of_decide_eq_true (by first | (with_reducible assumption) | assumption)
                        have q13 : x3_2 < (a0.size : Int) := of_decide_eq_true (by first | (with_reducible assumption) | assumption)
                        have hx13 := bt_at a0 x3_2
                        replace p13 := eq_true p13
                        replace q13 := eq_true q13
                        have p15 : 0 ≤ (x3_2 : Int) := of_decide_eq_true (by first | (with_reducible assumption) | assumption)
                        have q15 : x3_2 < (a0.size : Int) := of_decide_eq_true (by first | (with_reducible assumption) | assumption)
                        have hx15 := bt_at a0 x3_2
                        replace p15 := eq_true p15
                        replace q15 := eq_true q15
                        have p17 : 0 ≤ (x3_2 : Int) := of_decide_eq_true (by first | (with_reducible assumption) | assumption)
                        have q17 : x3_2 < (a0.size : Int) := of_decide_eq_true (by first | (with_reducible assumption) | assumption)
                        have hx17 := bt_at a0 x3_2
                        replace p17 := eq_true p17
                        replace q17 := eq_true q17
                        go_wp2
                        go_ret
                        exact ⟨by first | rfl | (simp; done) | (simp [*]; done), by repeat (first | exact Drawn0.refl _ | apply Drawn0.step)⟩
                    · rw [if_neg c16] at H
                      have c16b0 : decide (48 ≤ (bt a0 x3_2)) = false := decide_eq_false c16
                      clear c16
                      obtain rfl := Option.some.inj H
                      have p11 : 0 ≤ (x3_2 : Int) := of_decide_eq_true (by first | (with_reducible assumption) | assumption)
                      have q11 : x3_2 < (a0.size : Int) := of_decide_eq_true (by first | (with_reducible assumption) | assumption)
                      have hx11 := bt_at a0 x3_2
                      replace p11 := eq_true p11
                      replace q11 := eq_true q11
                      have p13 : 0 ≤ (x3_2 : Int) := of_decide_eq_true (by first | (with_reducible assumption) | assumption)
                      have q13 : x3_2 < (a0.size : Int) := of_decide_eq_true (by first | (with_reducible assumption) | assumption)
                      have hx13 := bt_at a0 x3_2
                      replace p13 := eq_true p13
                      replace q13 := eq_true q13
                      have p15 : 0 ≤ (x3_2 : Int) := of_decide_eq_true (by first | (with_reducible assumption) | assumption)
                      have q15 : x3_2 < (a0.size : Int) := of_decide_eq_true (by first | (with_reducible assumption) | assumption)
                      have hx15 := bt_at a0 x3_2
                      replace p15 := eq_true p15
                      replace q15 := eq_true q15
                      go_wp2
                      go_ret
                      exact ⟨by first | rfl | (simp; done) | (simp [*]; done), by repeat (first | exact Drawn0.refl _ | apply Drawn0.step)⟩
                · rw [if_neg c12] at H
                  have c12b0 : decide (97 ≤ (bt a0 x3_2)) = false := decide_eq_false c12
                  clear c12
                  by_cases c20 : (bt a0 x3_2) ≥ 48
                  · rw [if_pos c20] at H
                    have c20b0 : decide (48 ≤ (bt a0 x3_2)) = true := decide_eq_true c20
                    clear c20
                    by_cases c22 : ((bt a0 x3_2) ≤ 57)
                    · rw [if_pos c22] at H
                      have c22b0 : decide ((bt a0 x3_2) ≤ 57) = true := decide_eq_true c22
                      clear c22
                      have H' := Aside0.mk H
                      clear H
                      have p11 : 0 ≤ (x3_2 : Int) := of_decide_eq_true (by first | (with_reducible assumption) | assumption)
                      have q11 : x3_2 < (a0.size : Int) := of_decide_eq_true (by first | (with_reducible assumption) | assumption)
                      have hx11 := bt_at a0 x3_2
                      replace p11 := eq_true p11
                      replace q11 := eq_true q11
                      have p19 : 0 ≤ (x3_2 : Int) := of_decide_eq_true (by first | (with_reducible assumption) | assumption)
                      have q19 : x3_2 < (a0.size : Int) := of_decide_eq_true (by first | (with_reducible assumption) | assumption)
                      have hx19 := bt_at a0 x3_2
                      replace p19 := eq_true p19
                      replace q19 := eq_true q19
                      have p21 : 0 ≤ (x3_2 : Int) := of_decide_eq_true (by first | (with_reducible assumption) | assumption)
                      have q21 : x3_2 < (a0.size : Int) := of_decide_eq_true (by first | (with_reducible assumption) | assumption)
                      have hx21 := bt_at a0 x3_2
                      replace p21 := eq_true p21
                      replace q21 := eq_true q21
                      go_wp2
                      go_roundg k2
                      case measure => have := HJ1.out; have := HK2.out; omega
                      case rel => exact ⟨(wrap64 (x3_2 + 1)), (by first | rfl | (simp; done) | (simp [*]; done)), H', ⟨by have := HJ1.out; have := HK2.out; omega⟩, by repeat (first | exact Drawn0.refl _ | apply Drawn0.step)⟩
                    · rw [if_neg c22] at H
                      have c22b0 : decide ((bt a0 x3_2) ≤ 57) = false := decide_eq_false c22
                      clear c22
                      obtain rfl := Option.some.inj H
                      have p11 : 0 ≤ (x3_2 : Int) := of_decide_eq_true (by first | (with_reducible assumption) | assumption)
                      have q11 : x3_2 < (a0.size : Int) := of_decide_eq_true (by first | (with_reducible assumption) | assumption)
                      have hx11 := bt_at a0 x3_2
                      replace p11 := eq_true p11
                      replace q11 := eq_true q11
                      have p19 : 0 ≤ (x3_2 : Int) := of_decide_eq_true (by first | (with_reducible assumption) | assumption)
                      have q19 : x3_2 < (a0.size : Int) := of_decide_eq_true (by first | (with_reducible assumption) | assumption)
                      have hx19 := bt_at a0 x3_2
                      replace p19 := eq_true p19
                      replace q19 := eq_true q19
                      have p21 : 0 ≤ (x3_2 : Int) := of_decide_eq_true (by first | (with_reducible assumption) | assumption)
                      have q21 : x3_2 < (a0.size : Int) := of_decide_eq_true (by first | (with_reducible assumption) | assumption)
                      have hx21 := bt_at a0 x3_2
                      replace p21 := eq_true p21
                      replace q21 := eq_true q21
                      go_wp2
                      go_ret
                      exact ⟨by first | rfl | (simp; done) | (simp [*]; done), by repeat (first | exact Drawn0.refl _ | apply Drawn0.step)⟩
                  · rw [if_neg c20] at H
                    have c20b0 : decide (48 ≤ (bt a0 x3_2)) = false := decide_eq_false c20
                    clear c20
                    obtain rfl := Option.some.inj H
                    have p11 : 0 ≤ (x3_2 : Int) := of_decide_eq_true (by first | (with_reducible assumption) | assumption)
                    have q11 : x3_2 < (a0.size : Int) := of_decide_eq_true (by first | (with_reducible assumption) | assumption)
                    have hx11 := bt_at a0 x3_2
                    replace p11 := eq_true p11
                    replace q11 := eq_true q11
                    have p19 : 0 ≤ (x3_2 : Int) := of_decide_eq_true (by first | (with_reducible assumption) | assumption)
                    have q19 : x3_2 < (a0.size : Int) := of_decide_eq_true (by first | (with_reducible assumption) | assumption)
                    have hx19 := bt_at a0 x3_2
                    replace p19 := eq_true p19
                    replace q19 := eq_true q19
                    go_wp2
                    go_ret
                    exact ⟨by first | rfl | (simp; done) | (simp [*]; done), by repeat (first | exact Drawn0.refl _ | apply Drawn0.step)⟩
              · rw [if_neg c10] at H
                exact absurd H (by simp)
            · rw [if_neg c9] at H
              have c9b0 : decide (x3_2 < (a0.size : Int)) = false := decide_eq_false c9
              clear c9
              obtain rfl := Option.some.inj H
              go_wp2
              go_ret
              exact ⟨by first | rfl | (simp; done) | (simp [*]; done), by repeat (first | exact Drawn0.refl _ | apply Drawn0.step)⟩

end Go.Proofs.YthnembgbooaplaaDoor.P

namespace Go.Proofs.YthnembgbooaplaaDoor.P
open Go.RowKit Go.Proofs.YthnembgbooaplaaDoorW.PrintWords Go.Proofs.YthnembgbooaplaaDoorW.PrintLast Go.Proofs.YthnembgbooaplaaDoorW.PrintMore
attribute [local go_sem] max2_int min2_int max_two min_two max_three min_three max_four min_four
set_option linter.unusedVariables false
set_option linter.unusedSimpArgs false

/-! ### spec_NameOk: function 25 -/
def spec_NameOk.l0 : Nat → List ByteArray → Int → Option (Bool)
  | 0, _, _ => none
  | k + 1, x3, x4 => if x4 < (x3.length : Int) then (if 0 ≤ x4 then ((spec_l02Part.f k (rdOf ByteArray.empty x3 x4)).bind fun t105 => (if t105 = true then (spec_NameOk.l0 k x3 (wrap64 (x4 + 1))) else (some false))) else (none)) else (some true)
def spec_NameOk.f (k : Nat) (a0 : ByteArray) : Option (Bool) := if (a0.size : Int) > 40 then (some false) else ((spec_l02Cut.f k a0 46).bind fun t101 => (if (t101.length : Int) > 5 then (some false) else (spec_NameOk.l0 k t101 0)))
theorem spec_NameOk.mono_l : ∀ k, (∀ y0 y1, LeO (spec_NameOk.l0 k y0 y1) (spec_NameOk.l0 (k + 1) y0 y1))
  | 0 => fun _ _ r h => by simp [spec_NameOk.l0] at h
  | k + 1 => by
    have ih0 := spec_NameOk.mono_l k
    · intro y0 y1
      unfold spec_NameOk.l0
      repeat' first
      | (with_reducible exact ih0 _ _)
      | (with_reducible exact spec_l02Cut.mono _ _ _)
      | (with_reducible exact spec_l02Part.mono _ _)
      | (with_reducible exact LeO.refl _)
      | (with_reducible exact LeO.none _)
      | (with_reducible refine LeO.ite ?_ ?_)
      | (with_reducible refine LeO.bind ?_ (fun _ => ?_))
      | exact ih0 _ _
      | exact spec_l02Cut.mono _ _ _
      | exact spec_l02Part.mono _ _
      | exact LeO.none _
      | refine LeO.ite ?_ ?_
      | refine LeO.bind ?_ (fun _ => ?_)
theorem spec_NameOk.mono : ∀ a0 k, LeO (spec_NameOk.f k a0) (spec_NameOk.f (k + 1) a0) := by
  intro a0 k
  have ih0 := spec_NameOk.mono_l k
  unfold spec_NameOk.f
  repeat' first
      | (with_reducible exact ih0 _ _)
      | (with_reducible exact spec_l02Cut.mono _ _ _)
      | (with_reducible exact spec_l02Part.mono _ _)
      | (with_reducible exact LeO.refl _)
      | (with_reducible exact LeO.none _)
      | (with_reducible refine LeO.ite ?_ ?_)
      | (with_reducible refine LeO.bind ?_ (fun _ => ?_))
      | exact ih0 _ _
      | exact spec_l02Cut.mono _ _ _
      | exact spec_l02Part.mono _ _
      | exact LeO.none _
      | refine LeO.ite ?_ ?_
      | refine LeO.bind ?_ (fun _ => ?_)
set_option maxHeartbeats 8000000 in
set_option maxRecDepth 100000 in
theorem spec_NameOk.calls (k : Nat) (a0 : ByteArray) (r : Bool) (w : World) (h : spec_NameOk.f k a0 = some r) :
    Calls Tryd.prog 25 #[.string a0] w fun e w' => e = .returned (.bool r) ∧ Below w.heap.size w w' := by
  have HB := Aside0.mk (Below.refl w.heap.size w)
  have H : (if (a0.size : Int) > 40 then (some false) else ((spec_l02Cut.f k a0 46).bind fun t101 => (if (t101.length : Int) > 5 then (some false) else (spec_NameOk.l0 k t101 0)))) = some r := h
  clear h
  by_cases c2 : (a0.size : Int) > 40
  · rw [if_pos c2] at H
    have c2b0 : decide (40 < (a0.size : Int)) = true := decide_eq_true c2
    have c2b1 : decide (40 < a0.size) = true := decide_eq_true (by omega)
    clear c2
    obtain rfl := Option.some.inj H
    go_enter Tryd.func25, Tryd.ntmps25
    go_wp2
    go_ret
    exact ⟨by first | rfl | (simp [errW_none, errW_some] <;> rfl) | (simp [*, errW_none, errW_some] <;> rfl), by repeat (first | (with_reducible first | exact HB.out | apply below_alloc | apply pw_below_drewN | apply below_drew1) | exact HB.out)⟩
  · rw [if_neg c2] at H
    have c2b0 : decide (40 < (a0.size : Int)) = false := decide_eq_false c2
    have c2b1 : decide (40 < a0.size) = false := decide_eq_false (by omega)
    clear c2
    replace H := Option.bind_eq_some_iff.mp H
    obtain ⟨t101, A30, H⟩ := H
    replace H : (if (t101.length : Int) > 5 then (some false) else (spec_NameOk.l0 k t101 0)) = some r := H
    have A3 := Aside0.mk A30
    clear A30
    by_cases c4 : (t101.length : Int) > 5
    · rw [if_pos c4] at H
      have c4b0 : decide (5 < (t101.length : Int)) = true := decide_eq_true c4
      have c4b1 : decide (5 < t101.length) = true := decide_eq_true (by omega)
      clear c4
      obtain rfl := Option.some.inj H
      go_enter Tryd.func25, Tryd.ntmps25
      go_wp2_with (first | ((with_reducible refine gate_callee (f := 22) rfl ?_); refine goesL_ (some 9) rfl rfl Tryd.func22 (by kernel_rfl) rfl #[.string a0, .int .u8 46] rfl (by (try simp only [List.map_toArray, List.map_cons, List.map_nil]); first | done | rfl | (simp only [List.length_drop, List.length_take]; rfl)) ?_; (with_reducible refine (spec_l02Cut.calls k a0 46 t101 _ A3.out).mono ?_); rintro e w5 ⟨v102, rfl, ho0, hb⟩; refine ⟨_, rfl, ?_⟩; have n0_ := Aside0.mk (Kd.R_lower ho0 (below_size (by repeat (first | (with_reducible first | exact HB.out | apply below_alloc | apply pw_below_drewN | apply below_drew1) | exact HB.out)))); have n1_ := Aside0.mk (below_step (by repeat (first | (with_reducible first | exact HB.out | apply below_alloc | apply pw_below_drewN | apply below_drew1) | exact HB.out)) hb); clear HB; have HO103 := n0_; have HB := n1_; clear n0_ n1_; (try clear hb); (try clear hb2); (try clear hk); (try clear hi); (try clear ho0); obtain ⟨Ao6, co6, eo6⟩ := Kd.R_slice HO103.out; subst eo6))
      go_ret
      exact ⟨by first | rfl | (simp [errW_none, errW_some] <;> rfl) | (simp [*, errW_none, errW_some] <;> rfl), by repeat (first | (with_reducible first | exact HB.out | apply below_alloc | apply pw_below_drewN | apply below_drew1) | exact HB.out)⟩
    · rw [if_neg c4] at H
      have c4b0 : decide (5 < (t101.length : Int)) = false := decide_eq_false c4
      have c4b1 : decide (5 < t101.length) = false := decide_eq_false (by omega)
      clear c4
      have H' := Aside0.mk H
      clear H
      go_enter Tryd.func25, Tryd.ntmps25
      go_wp2_with (first | ((with_reducible refine gate_callee (f := 22) rfl ?_); refine goesL_ (some 9) rfl rfl Tryd.func22 (by kernel_rfl) rfl #[.string a0, .int .u8 46] rfl (by (try simp only [List.map_toArray, List.map_cons, List.map_nil]); first | done | rfl | (simp only [List.length_drop, List.length_take]; rfl)) ?_; (with_reducible refine (spec_l02Cut.calls k a0 46 t101 _ A3.out).mono ?_); rintro e w7 ⟨v102, rfl, ho0, hb⟩; refine ⟨_, rfl, ?_⟩; have n0_ := Aside0.mk (Kd.R_lower ho0 (below_size (by repeat (first | (with_reducible first | exact HB.out | apply below_alloc | apply pw_below_drewN | apply below_drew1) | exact HB.out)))); have n1_ := Aside0.mk (below_step (by repeat (first | (with_reducible first | exact HB.out | apply below_alloc | apply pw_below_drewN | apply below_drew1) | exact HB.out)) hb); clear HB; have HO103 := n0_; have HB := n1_; clear n0_ n1_; (try clear hb); (try clear hb2); (try clear hk); (try clear hi); (try clear ho0); obtain ⟨Ao8, co8, eo8⟩ := Kd.R_slice HO103.out; subst eo8))
      go_loopg [4] k (fun kq v4 w' => ∃ (x4_1 : Int), v4 = .int .i64 x4_1 ∧ Aside0 (spec_NameOk.l0 kq t101 x4_1 = some r) ∧ Aside0 (kq ≤ k) ∧ Aside0 (Kd.R Kd.string 9 w' w.heap.size (fun _ => True) (.slice Ao8 t101.length co8) t101) ∧ Aside0 (Below w.heap.size w w'))
      case atStart => exact ⟨(0), (by first | rfl | (simp; done) | (simp [*]; done)), H', ⟨Nat.le_refl _⟩, ⟨by (with_reducible repeat (first | apply Kd.R_alloc | apply Kd.R_drewN | apply Kd.R_drew)); exact HO103.out⟩, ⟨by repeat (first | (with_reducible first | exact HB.out | apply below_alloc | apply pw_below_drewN | apply below_drew1) | exact HB.out)⟩⟩
      case round =>
        clear H'
        try clear c2
        try clear c2b0
        try clear c2b1
        try clear p2
        try clear c4
        try clear c4b0
        try clear c4b1
        obtain ⟨x4_1, rfl, HA, HK1, HO_3, HB⟩ := hrel
        cases gk with
        | zero => exact absurd HA.out (by simp [spec_NameOk.l0])
        | succ k1 =>
          have H := HA.out
          clear HA
          simp only [spec_NameOk.l0] at H
          by_cases c9 : x4_1 < (t101.length : Int)
          · rw [if_pos c9] at H
            have c9b0 : decide (x4_1 < (t101.length : Int)) = true := decide_eq_true c9
            clear c9
            by_cases c10 : 0 ≤ x4_1
            · rw [if_pos c10] at H
              have c10b0 : decide (0 ≤ x4_1) = true := decide_eq_true c10
              clear c10
              replace H := Option.bind_eq_some_iff.mp H
              obtain ⟨t105, A110, H⟩ := H
              replace H : (if t105 = true then (spec_NameOk.l0 k1 t101 (wrap64 (x4_1 + 1))) else (some false)) = some r := H
              have A11 := Aside0.mk A110
              clear A110
              by_cases c12 : t105 = true
              · subst c12
                have H1 : (spec_NameOk.l0 k1 t101 (wrap64 (x4_1 + 1))) = some r := by rw [if_pos rfl] at H; exact H
                clear H
                have H := H1
                clear H1
                have H' := Aside0.mk H
                clear H
                have p104 : 0 ≤ (x4_1 : Int) := of_decide_eq_true (by first | (with_reducible assumption) | assumption)
                have q104 : x4_1 < (t101.length : Int) := of_decide_eq_true (by first | (with_reducible assumption) | assumption)
                obtain ⟨ad104, e104, hx104_0⟩ := Kd.at_string (Kd.R_reads' HO_3.out).2.2 x4_1 p104 q104
                cases e104
                replace p104 := eq_true p104
                replace q104 := eq_true q104
                go_wp2_with (first | ((with_reducible refine gate_callee (f := 46) rfl ?_); refine goesL_ (some 23) rfl rfl Tryd.func46 (by kernel_rfl) rfl #[.string (rdOf ByteArray.empty t101 x4_1)] rfl (by (try simp only [List.map_toArray, List.map_cons, List.map_nil]); first | done | rfl | (simp only [List.length_drop, List.length_take]; rfl)) ?_; (with_reducible refine (spec_l02Part.calls k1 (rdOf ByteArray.empty t101 x4_1) true _ A11.out).mono ?_); rintro e w' ⟨rfl, ⟨nd, rfl⟩⟩; refine ⟨_, rfl, ?_⟩))
                go_roundg k1
                case measure => have := HK1.out; omega
                case rel => exact ⟨(wrap64 (x4_1 + 1)), (by first | rfl | (simp; done) | (simp [*]; done)), H', ⟨by have := HK1.out; omega⟩, ⟨by (with_reducible repeat (first | apply Kd.R_alloc | apply Kd.R_drewN | apply Kd.R_drew)); exact HO_3.out⟩, ⟨by repeat (first | (with_reducible first | exact HB.out | apply below_alloc | apply pw_below_drewN | apply below_drew1) | exact HB.out)⟩⟩
              · replace c12 := Bool.eq_false_iff.mpr c12
                subst c12
                have H1 : (some false) = some r := by rw [if_neg (show ¬ (false = true) by decide)] at H; exact H
                clear H
                have H := H1
                clear H1
                obtain rfl := Option.some.inj H
                have p104 : 0 ≤ (x4_1 : Int) := of_decide_eq_true (by first | (with_reducible assumption) | assumption)
                have q104 : x4_1 < (t101.length : Int) := of_decide_eq_true (by first | (with_reducible assumption) | assumption)
                obtain ⟨ad104, e104, hx104_0⟩ := Kd.at_string (Kd.R_reads' HO_3.out).2.2 x4_1 p104 q104
                cases e104
                replace p104 := eq_true p104
                replace q104 := eq_true q104
                go_wp2_with (first | ((with_reducible refine gate_callee (f := 46) rfl ?_); refine goesL_ (some 23) rfl rfl Tryd.func46 (by kernel_rfl) rfl #[.string (rdOf ByteArray.empty t101 x4_1)] rfl (by (try simp only [List.map_toArray, List.map_cons, List.map_nil]); first | done | rfl | (simp only [List.length_drop, List.length_take]; rfl)) ?_; (with_reducible refine (spec_l02Part.calls k1 (rdOf ByteArray.empty t101 x4_1) false _ A11.out).mono ?_); rintro e w' ⟨rfl, ⟨nd, rfl⟩⟩; refine ⟨_, rfl, ?_⟩))
                go_ret
                exact ⟨by first | rfl | (simp [errW_none, errW_some] <;> rfl) | (simp [*, errW_none, errW_some] <;> rfl), by repeat (first | (with_reducible first | exact HB.out | apply below_alloc | apply pw_below_drewN | apply below_drew1) | exact HB.out)⟩
            · rw [if_neg c10] at H
              exact absurd H (by simp)
          · rw [if_neg c9] at H
            have c9b0 : decide (x4_1 < (t101.length : Int)) = false := decide_eq_false c9
            clear c9
            obtain rfl := Option.some.inj H
            go_wp2
            go_ret
            exact ⟨by first | rfl | (simp [errW_none, errW_some] <;> rfl) | (simp [*, errW_none, errW_some] <;> rfl), by repeat (first | (with_reducible first | exact HB.out | apply below_alloc | apply pw_below_drewN | apply below_drew1) | exact HB.out)⟩

end Go.Proofs.YthnembgbooaplaaDoor.P

namespace Go.Proofs.YthnembgbooaplaaDoor.P
open Go.RowKit Go.Proofs.YthnembgbooaplaaDoorW.PrintWords Go.Proofs.YthnembgbooaplaaDoorW.PrintLast Go.Proofs.YthnembgbooaplaaDoorW.PrintMore
attribute [local go_sem] max2_int min2_int max_two min_two max_three min_three max_four min_four
set_option linter.unusedVariables false
set_option linter.unusedSimpArgs false

/-! ### spec_Reported: function 10 -/
mutual
def spec_Reported.j0 : Nat → ByteArray → ByteArray → Bool → Option (ByteArray × Bool)
  | 0, _, _, _ => none
  | k + 1, x1, x6, x23 => if x23 = true then (some ((⟨#[]⟩ : ByteArray), false)) else ((spec_l02Cut.f k x6 10).bind fun t105 => (spec_Reported.l0 k x1 t105 (wrap64 ((t105.length : Int) - 1))))
def spec_Reported.l0 : Nat → ByteArray → List ByteArray → Int → Option (ByteArray × Bool)
  | 0, _, _, _ => none
  | k + 1, x1, x9, x10 => if x10 ≥ 2 then (if 0 ≤ x10 then (if x10 < (x9.length : Int) then (if ((rdOf ByteArray.empty x9 x10).size : Int) > (x1.size : Int) then (if 0 ≤ (wrap64 ((x1.size : Int) + 1)) then (if (wrap64 ((x1.size : Int) + 1)) ≤ ((rdOf ByteArray.empty x9 x10).size : Int) then (if x1.size + 1 ≤ 9223372036854775807 then (if ((rdOf ByteArray.empty x9 x10).extract 0 ((wrap64 ((x1.size : Int) + 1)) : Int).toNat).toList = (x1 ++ (⟨#[32]⟩ : ByteArray)).toList then (some ((rdOf ByteArray.empty x9 x10).extract ((wrap64 ((x1.size : Int) + 1)) : Int).toNat (rdOf ByteArray.empty x9 x10).size, true)) else (spec_Reported.l0 k x1 x9 (wrap64 (x10 - 1)))) else (none)) else (none)) else (none)) else (spec_Reported.l0 k x1 x9 (wrap64 (x10 - 1)))) else (none)) else (none)) else (some ((⟨#[]⟩ : ByteArray), false))
end
def spec_Reported.f (k : Nat) (a0 : ByteArray) (a1 : ByteArray) : Option (ByteArray × Bool) := (spec_BodyIn.f k a0).bind fun bt101 => (if bt101.2.2 = true then ((spec_NameOk.f k a1).bind fun t104 => (spec_Reported.j0 k a1 bt101.1 (!t104))) else (spec_Reported.j0 k a1 bt101.1 true))
theorem spec_Reported.mono_l : ∀ k, (∀ y0 y1 y2, LeO (spec_Reported.j0 k y0 y1 y2) (spec_Reported.j0 (k + 1) y0 y1 y2)) ∧ (∀ y0 y1 y2, LeO (spec_Reported.l0 k y0 y1 y2) (spec_Reported.l0 (k + 1) y0 y1 y2))
  | 0 => ⟨fun _ _ _ r h => by simp [spec_Reported.j0] at h, fun _ _ _ r h => by simp [spec_Reported.l0] at h⟩
  | k + 1 => by
    obtain ⟨ih0, ih1⟩ := spec_Reported.mono_l k
    refine ⟨?_, ?_⟩
    · intro y0 y1 y2
      unfold spec_Reported.j0
      repeat' first
      | (with_reducible exact ih0 _ _ _)
      | (with_reducible exact ih1 _ _ _)
      | (with_reducible exact spec_BodyIn.mono _ _)
      | (with_reducible exact spec_NameOk.mono _ _)
      | (with_reducible exact spec_l02Cut.mono _ _ _)
      | (with_reducible exact LeO.refl _)
      | (with_reducible exact LeO.none _)
      | (with_reducible refine LeO.ite ?_ ?_)
      | (with_reducible refine LeO.bind ?_ (fun _ => ?_))
      | exact ih0 _ _ _
      | exact ih1 _ _ _
      | exact spec_BodyIn.mono _ _
      | exact spec_NameOk.mono _ _
      | exact spec_l02Cut.mono _ _ _
      | exact LeO.none _
      | refine LeO.ite ?_ ?_
      | refine LeO.bind ?_ (fun _ => ?_)
    · intro y0 y1 y2
      unfold spec_Reported.l0
      repeat' first
      | (with_reducible exact ih0 _ _ _)
      | (with_reducible exact ih1 _ _ _)
      | (with_reducible exact spec_BodyIn.mono _ _)
      | (with_reducible exact spec_NameOk.mono _ _)
      | (with_reducible exact spec_l02Cut.mono _ _ _)
      | (with_reducible exact LeO.refl _)
      | (with_reducible exact LeO.none _)
      | (with_reducible refine LeO.ite ?_ ?_)
      | (with_reducible refine LeO.bind ?_ (fun _ => ?_))
      | exact ih0 _ _ _
      | exact ih1 _ _ _
      | exact spec_BodyIn.mono _ _
      | exact spec_NameOk.mono _ _
      | exact spec_l02Cut.mono _ _ _
      | exact LeO.none _
      | refine LeO.ite ?_ ?_
      | refine LeO.bind ?_ (fun _ => ?_)
theorem spec_Reported.mono : ∀ a0 a1 k, LeO (spec_Reported.f k a0 a1) (spec_Reported.f (k + 1) a0 a1) := by
  intro a0 a1 k
  obtain ⟨ih0, ih1⟩ := spec_Reported.mono_l k
  unfold spec_Reported.f
  repeat' first
      | (with_reducible exact ih0 _ _ _)
      | (with_reducible exact ih1 _ _ _)
      | (with_reducible exact spec_BodyIn.mono _ _)
      | (with_reducible exact spec_NameOk.mono _ _)
      | (with_reducible exact spec_l02Cut.mono _ _ _)
      | (with_reducible exact LeO.refl _)
      | (with_reducible exact LeO.none _)
      | (with_reducible refine LeO.ite ?_ ?_)
      | (with_reducible refine LeO.bind ?_ (fun _ => ?_))
      | exact ih0 _ _ _
      | exact ih1 _ _ _
      | exact spec_BodyIn.mono _ _
      | exact spec_NameOk.mono _ _
      | exact spec_l02Cut.mono _ _ _
      | exact LeO.none _
      | refine LeO.ite ?_ ?_
      | refine LeO.bind ?_ (fun _ => ?_)
set_option maxHeartbeats 8000000 in
set_option maxRecDepth 100000 in
theorem spec_Reported.calls (k : Nat) (a0 : ByteArray) (a1 : ByteArray) (r1 : ByteArray) (r2 : Bool) (w : World) (h : spec_Reported.f k a0 a1 = some (r1, r2)) :
    Calls Tryd.prog 10 #[.string a0, .string a1] w fun e w' => e = .returned (.tuple #[.string r1, .bool r2]) ∧ Below w.heap.size w w' := by
  have HB := Aside0.mk (Below.refl w.heap.size w)
  have H : ((spec_BodyIn.f k a0).bind fun bt101 => (if bt101.2.2 = true then ((spec_NameOk.f k a1).bind fun t104 => (spec_Reported.j0 k a1 bt101.1 (!t104))) else (spec_Reported.j0 k a1 bt101.1 true))) = some (r1, r2) := h
  clear h
  replace H := Option.bind_eq_some_iff.mp H
  obtain ⟨⟨t101, t102, t103⟩, A30, H⟩ := H
  replace H : (if t103 = true then ((spec_NameOk.f k a1).bind fun t104 => (spec_Reported.j0 k a1 t101 (!t104))) else (spec_Reported.j0 k a1 t101 true)) = some (r1, r2) := H
  have A3 := Aside0.mk A30
  clear A30
  have HC4 := Aside0.mk H
  clear H
  go_enter Tryd.func10, Tryd.ntmps10
  go_upto_region 2 with (first | ((with_reducible refine gate_callee (f := 24) rfl ?_); refine goesL_ (some 13) rfl rfl Tryd.func24 (by kernel_rfl) rfl #[.string a0] rfl (by (try simp only [List.map_toArray, List.map_cons, List.map_nil]); first | done | rfl | (simp only [List.length_drop, List.length_take]; rfl)) ?_; (with_reducible refine (spec_BodyIn.calls k a0 t101 t102 t103 _ A3.out).mono ?_); rintro e w5 ⟨rfl, hb⟩; refine ⟨_, rfl, ?_⟩; have n0_ := Aside0.mk (below_step (by repeat (first | (with_reducible first | exact HB.out | apply below_alloc | apply pw_below_drewN | apply below_drew1) | exact HB.out)) hb); clear HB; have HB := n0_; clear n0_; (try clear hb); (try clear hb2); (try clear hk); (try clear hi)))
  (try simp only [Act.put, List.setIfInBounds_toArray, List.set_cons_zero, List.set_cons_succ])
  go_cut [23] (fun v23 wc => ∃ (kq : Nat) (x23_3 : Bool), v23 = .bool x23_3 ∧ Aside0 (spec_Reported.j0 kq a1 t101 x23_3 = some (r1, r2)) ∧ Aside0 (kq ≤ k) ∧ Aside0 (Below w.heap.size w wc))
  case first =>
    have H := HC4.out
    clear HC4
    by_cases c6 : t103 = true
    · subst c6
      have H1 : ((spec_NameOk.f k a1).bind fun t104 => (spec_Reported.j0 k a1 t101 (!t104))) = some (r1, r2) := by rw [if_pos rfl] at H; exact H
      clear H
      have H := H1
      clear H1
      replace H := Option.bind_eq_some_iff.mp H
      obtain ⟨t104, A70, H⟩ := H
      replace H : (spec_Reported.j0 k a1 t101 (!t104)) = some (r1, r2) := H
      have A7 := Aside0.mk A70
      clear A70
      have H' := Aside0.mk H
      clear H
      go_wp2_with (first | (go_at_call 25; (with_reducible refine (spec_NameOk.calls k a1 t104 _ A7.out).mono ?_); rintro e w8 ⟨rfl, hb⟩; have n0_ := Aside0.mk (below_step (by repeat (first | (with_reducible first | exact HB.out | apply below_alloc | apply pw_below_drewN | apply below_drew1) | exact HB.out)) hb); clear HB; have HB := n0_; clear n0_; (try clear hb); (try clear hb2); (try clear hk); (try clear hi)))
      go_meet
      case rel => exact ⟨_, (!t104), (by first | rfl | (simp; done) | (simp [*]; done)), H', ⟨by first | omega | exact Nat.le_refl _⟩, ⟨by repeat (first | (with_reducible first | exact HB.out | apply below_alloc | apply pw_below_drewN | apply below_drew1) | exact HB.out)⟩⟩
    · replace c6 := Bool.eq_false_iff.mpr c6
      subst c6
      have H1 : (spec_Reported.j0 k a1 t101 true) = some (r1, r2) := by rw [if_neg (show ¬ (false = true) by decide)] at H; exact H
      clear H
      have H := H1
      clear H1
      have H' := Aside0.mk H
      clear H
      go_wp2
      go_meet
      case rel => exact ⟨_, (true), (by first | rfl | (simp; done) | (simp [*]; done)), H', ⟨by first | omega | exact Nat.le_refl _⟩, ⟨by repeat (first | (with_reducible first | exact HB.out | apply below_alloc | apply pw_below_drewN | apply below_drew1) | exact HB.out)⟩⟩
  case rest =>
    clear HC4
    try clear c1
    try clear c2
    try clear p2
    try clear c6
    obtain ⟨kq, x23_3, rfl, HA, HJ3, HB⟩ := hcut
    cases kq with
    | zero => exact absurd HA.out (by simp [spec_Reported.j0])
    | succ kj3 =>
      have H := HA.out
      clear HA
      simp only [spec_Reported.j0] at H
      by_cases c9 : x23_3 = true
      · subst c9
        have H1 : (some ((⟨#[]⟩ : ByteArray), false)) = some (r1, r2) := by rw [if_pos rfl] at H; exact H
        clear H
        have H := H1
        clear H1
        simp only [Option.some.injEq, Prod.mk.injEq] at H
        obtain ⟨rfl, rfl⟩ := H
        go_wp2
        go_ret2
        exact ⟨by first | rfl | (simp [errW_none, errW_some] <;> rfl) | (simp [*, errW_none, errW_some] <;> rfl), by repeat (first | (with_reducible first | exact HB.out | apply below_alloc | apply pw_below_drewN | apply below_drew1) | exact HB.out)⟩
      · replace c9 := Bool.eq_false_iff.mpr c9
        subst c9
        have H1 : ((spec_l02Cut.f kj3 t101 10).bind fun t105 => (spec_Reported.l0 kj3 a1 t105 (wrap64 ((t105.length : Int) - 1)))) = some (r1, r2) := by rw [if_neg (show ¬ (false = true) by decide)] at H; exact H
        clear H
        have H := H1
        clear H1
        replace H := Option.bind_eq_some_iff.mp H
        obtain ⟨t105, A100, H⟩ := H
        replace H : (spec_Reported.l0 kj3 a1 t105 (wrap64 ((t105.length : Int) - 1))) = some (r1, r2) := H
        have A10 := Aside0.mk A100
        clear A100
        have H' := Aside0.mk H
        clear H
        go_wp2_with (first | ((with_reducible refine gate_callee (f := 22) rfl ?_); refine goesL_ (some 25) rfl rfl Tryd.func22 (by kernel_rfl) rfl #[.string t101, .int .u8 10] rfl (by (try simp only [List.map_toArray, List.map_cons, List.map_nil]); first | done | rfl | (simp only [List.length_drop, List.length_take]; rfl)) ?_; (with_reducible refine (spec_l02Cut.calls kj3 t101 10 t105 _ A10.out).mono ?_); rintro e w11 ⟨v106, rfl, ho0, hb⟩; refine ⟨_, rfl, ?_⟩; have n0_ := Aside0.mk (Kd.R_lower ho0 (below_size (by repeat (first | (with_reducible first | exact HB.out | apply below_alloc | apply pw_below_drewN | apply below_drew1) | exact HB.out)))); have n1_ := Aside0.mk (below_step (by repeat (first | (with_reducible first | exact HB.out | apply below_alloc | apply pw_below_drewN | apply below_drew1) | exact HB.out)) hb); clear HB; have HO107 := n0_; have HB := n1_; clear n0_ n1_; (try clear hb); (try clear hb2); (try clear hk); (try clear hi); (try clear ho0); obtain ⟨Ao12, co12, eo12⟩ := Kd.R_slice HO107.out; subst eo12))
        go_loopg [10] kj3 (fun kq v10 w' => ∃ (x10_2 : Int), v10 = .int .i64 x10_2 ∧ Aside0 (spec_Reported.l0 kq a1 t105 x10_2 = some (r1, r2)) ∧ Aside0 (kq ≤ kj3) ∧ Aside0 (Kd.R Kd.string 9 w' w.heap.size (fun _ => True) (.slice Ao12 t105.length co12) t105) ∧ Aside0 (Below w.heap.size w w'))
        case atStart => exact ⟨(wrap64 ((t105.length : Int) - 1)), (by first | rfl | (simp; done) | (simp [*]; done)), H', ⟨Nat.le_refl _⟩, ⟨by (with_reducible repeat (first | apply Kd.R_alloc | apply Kd.R_drewN | apply Kd.R_drew)); exact HO107.out⟩, ⟨by repeat (first | (with_reducible first | exact HB.out | apply below_alloc | apply pw_below_drewN | apply below_drew1) | exact HB.out)⟩⟩
        case round =>
          clear H'
          try clear c1
          try clear c2
          try clear p2
          try clear c6
          try clear p6
          try clear c9
          try clear c10
          try clear p2
          obtain ⟨x10_2, rfl, HA, HK2, HO_9, HB⟩ := hrel
          cases gk with
          | zero => exact absurd HA.out (by simp [spec_Reported.l0])
          | succ k2 =>
            have H := HA.out
            clear HA
            simp only [spec_Reported.l0] at H
            by_cases c13 : x10_2 ≥ 2
            · rw [if_pos c13] at H
              have c13b0 : decide (2 ≤ x10_2) = true := decide_eq_true c13
              clear c13
              by_cases c14 : 0 ≤ x10_2
              · rw [if_pos c14] at H
                have c14b0 : decide (0 ≤ x10_2) = true := decide_eq_true c14
                clear c14
                by_cases c15 : x10_2 < (t105.length : Int)
                · rw [if_pos c15] at H
                  have c15b0 : decide (x10_2 < (t105.length : Int)) = true := decide_eq_true c15
                  clear c15
                  by_cases c16 : ((rdOf ByteArray.empty t105 x10_2).size : Int) > (a1.size : Int)
                  · rw [if_pos c16] at H
                    have c16b0 : decide ((a1.size : Int) < ((rdOf ByteArray.empty t105 x10_2).size : Int)) = true := decide_eq_true c16
                    have c16b1 : decide (a1.size < (rdOf ByteArray.empty t105 x10_2).size) = true := decide_eq_true (Int.ofNat_lt.mp c16)
                    clear c16
                    obtain ⟨ji17, hji17⟩ : ∃ j_ : Int, (wrap64 ((a1.size : Int) + 1)) = j_ := ⟨_, rfl⟩
                    replace H : (if 0 ≤ (ji17) then (if (ji17) ≤ ((rdOf ByteArray.empty t105 x10_2).size : Int) then (if a1.size + 1 ≤ 9223372036854775807 then (if ((rdOf ByteArray.empty t105 x10_2).extract 0 ((ji17) : Int).toNat).toList = (a1 ++ (⟨#[32]⟩ : ByteArray)).toList then (some ((rdOf ByteArray.empty t105 x10_2).extract ((ji17) : Int).toNat (rdOf ByteArray.empty t105 x10_2).size, true)) else (spec_Reported.l0 k2 a1 t105 (wrap64 (x10_2 - 1)))) else (none)) else (none)) else (none)) = some (r1, r2) := by first | (rw [hji17] at H; exact H) | (simp only [hji17] at H ⊢; exact H)
                    have hji17w : (IntKind.i64.wrap ((a1.size : Int) + 1)) = ji17 := (i64_w _).trans hji17
                    by_cases c18 : 0 ≤ (ji17)
                    · rw [if_pos c18] at H
                      have c18b0 := eq_true c18
                      have c18b1 : decide (0 ≤ (ji17)) = true := decide_eq_true c18
                      clear c18
                      by_cases c19 : (ji17) ≤ ((rdOf ByteArray.empty t105 x10_2).size : Int)
                      · rw [if_pos c19] at H
                        have c19b0 := eq_true c19
                        have c19b1 : decide ((ji17) ≤ ((rdOf ByteArray.empty t105 x10_2).size : Int)) = true := decide_eq_true c19
                        clear c19
                        by_cases c20 : a1.size + 1 ≤ 9223372036854775807
                        · rw [if_pos c20] at H
                          have c20b0 := eq_true c20
                          have c20b1 : decide (a1.size + 1 ≤ 9223372036854775807) = true := decide_eq_true c20
                          try have c20b2 : (9223372036854775807 < a1.size + 1) = False := eq_false (Nat.not_lt.2 c20)
                          by_cases c21 : ((rdOf ByteArray.empty t105 x10_2).extract 0 ((ji17) : Int).toNat).toList = (a1 ++ (⟨#[32]⟩ : ByteArray)).toList
                          · rw [if_pos c21] at H
                            have c21b0 : (((rdOf ByteArray.empty t105 x10_2).extract 0 ((ji17) : Int).toNat).toList == (a1 ++ (⟨#[32]⟩ : ByteArray)).toList) = true := beq_iff_eq.mpr c21
                            have c21b1 : (((rdOf ByteArray.empty t105 x10_2).extract 0 ((ji17) : Int).toNat).toList != (a1 ++ (⟨#[32]⟩ : ByteArray)).toList) = false := bne_eq_false_iff_eq.mpr c21
                            clear c21
                            have c22b0 := eq_true (of_decide_eq_true (by first | (with_reducible assumption) | assumption) : 0 ≤ (ji17))
                            have c23b0 := eq_true (of_decide_eq_true (by first | (with_reducible assumption) | assumption) : (ji17) ≤ ((rdOf ByteArray.empty t105 x10_2).size : Int))
                            simp only [Option.some.injEq, Prod.mk.injEq] at H
                            obtain ⟨rfl, rfl⟩ := H
                            have p108 : 0 ≤ (x10_2 : Int) := of_decide_eq_true (by first | (with_reducible assumption) | assumption)
                            have q108 : x10_2 < (t105.length : Int) := of_decide_eq_true (by first | (with_reducible assumption) | assumption)
                            obtain ⟨ad108, e108, hx108_0⟩ := Kd.at_string (Kd.R_reads' HO_9.out).2.2 x10_2 p108 q108
                            cases e108
                            replace p108 := eq_true p108
                            replace q108 := eq_true q108
                            have p109 : 0 ≤ (x10_2 : Int) := of_decide_eq_true (by first | (with_reducible assumption) | assumption)
                            have q109 : x10_2 < (t105.length : Int) := of_decide_eq_true (by first | (with_reducible assumption) | assumption)
                            obtain ⟨ad109, e109, hx109_0⟩ := Kd.at_string (Kd.R_reads' HO_9.out).2.2 x10_2 p109 q109
                            obtain rfl : ad108 = ad109 := (by injection e109)
                            replace p109 := eq_true p109
                            replace q109 := eq_true q109
                            have p110 : 0 ≤ (x10_2 : Int) := of_decide_eq_true (by first | (with_reducible assumption) | assumption)
                            have q110 : x10_2 < (t105.length : Int) := of_decide_eq_true (by first | (with_reducible assumption) | assumption)
                            obtain ⟨ad110, e110, hx110_0⟩ := Kd.at_string (Kd.R_reads' HO_9.out).2.2 x10_2 p110 q110
                            obtain rfl : ad108 = ad110 := (by injection e110)
                            replace p110 := eq_true p110
                            replace q110 := eq_true q110
                            go_wp2
                            go_ret2
                            exact ⟨by first | rfl | (simp [errW_none, errW_some] <;> rfl) | (simp only [← hji17]; first | rfl | (simp [errW_none, errW_some] <;> rfl)) | (simp [*, errW_none, errW_some] <;> rfl), by repeat (first | (with_reducible first | exact HB.out | apply below_alloc | apply pw_below_drewN | apply below_drew1) | exact HB.out)⟩
                          · rw [if_neg c21] at H
                            have c21b0 : (((rdOf ByteArray.empty t105 x10_2).extract 0 ((ji17) : Int).toNat).toList == (a1 ++ (⟨#[32]⟩ : ByteArray)).toList) = false := beq_eq_false_iff_ne.mpr c21
                            have c21b1 : (((rdOf ByteArray.empty t105 x10_2).extract 0 ((ji17) : Int).toNat).toList != (a1 ++ (⟨#[32]⟩ : ByteArray)).toList) = true := bne_iff_ne.mpr c21
                            have H' := Aside0.mk H
                            clear H
                            have p108 : 0 ≤ (x10_2 : Int) := of_decide_eq_true (by first | (with_reducible assumption) | assumption)
                            have q108 : x10_2 < (t105.length : Int) := of_decide_eq_true (by first | (with_reducible assumption) | assumption)
                            obtain ⟨ad108, e108, hx108_0⟩ := Kd.at_string (Kd.R_reads' HO_9.out).2.2 x10_2 p108 q108
                            cases e108
                            replace p108 := eq_true p108
                            replace q108 := eq_true q108
                            have p109 : 0 ≤ (x10_2 : Int) := of_decide_eq_true (by first | (with_reducible assumption) | assumption)
                            have q109 : x10_2 < (t105.length : Int) := of_decide_eq_true (by first | (with_reducible assumption) | assumption)
                            obtain ⟨ad109, e109, hx109_0⟩ := Kd.at_string (Kd.R_reads' HO_9.out).2.2 x10_2 p109 q109
                            obtain rfl : ad108 = ad109 := (by injection e109)
                            replace p109 := eq_true p109
                            replace q109 := eq_true q109
                            go_wp2
                            go_roundg k2
                            case measure => have := HJ3.out; have := HK2.out; omega
                            case rel => exact ⟨(wrap64 (x10_2 - 1)), (by first | rfl | (simp; done) | (simp [*]; done)), H', ⟨by have := HJ3.out; have := HK2.out; omega⟩, ⟨by (with_reducible repeat (first | apply Kd.R_alloc | apply Kd.R_drewN | apply Kd.R_drew)); exact HO_9.out⟩, ⟨by repeat (first | (with_reducible first | exact HB.out | apply below_alloc | apply pw_below_drewN | apply below_drew1) | exact HB.out)⟩⟩
                        · rw [if_neg c20] at H
                          exact absurd H (by simp)
                      · rw [if_neg c19] at H
                        exact absurd H (by simp)
                    · rw [if_neg c18] at H
                      exact absurd H (by simp)
                  · rw [if_neg c16] at H
                    have c16b0 : decide ((a1.size : Int) < ((rdOf ByteArray.empty t105 x10_2).size : Int)) = false := decide_eq_false c16
                    have c16b1 : decide (a1.size < (rdOf ByteArray.empty t105 x10_2).size) = false := decide_eq_false (fun h => c16 (Int.ofNat_lt.mpr h))
                    clear c16
                    have H' := Aside0.mk H
                    clear H
                    have p108 : 0 ≤ (x10_2 : Int) := of_decide_eq_true (by first | (with_reducible assumption) | assumption)
                    have q108 : x10_2 < (t105.length : Int) := of_decide_eq_true (by first | (with_reducible assumption) | assumption)
                    obtain ⟨ad108, e108, hx108_0⟩ := Kd.at_string (Kd.R_reads' HO_9.out).2.2 x10_2 p108 q108
                    cases e108
                    replace p108 := eq_true p108
                    replace q108 := eq_true q108
                    go_wp2
                    go_roundg k2
                    case measure => have := HJ3.out; have := HK2.out; omega
                    case rel => exact ⟨(wrap64 (x10_2 - 1)), (by first | rfl | (simp; done) | (simp [*]; done)), H', ⟨by have := HJ3.out; have := HK2.out; omega⟩, ⟨by (with_reducible repeat (first | apply Kd.R_alloc | apply Kd.R_drewN | apply Kd.R_drew)); exact HO_9.out⟩, ⟨by repeat (first | (with_reducible first | exact HB.out | apply below_alloc | apply pw_below_drewN | apply below_drew1) | exact HB.out)⟩⟩
                · rw [if_neg c15] at H
                  exact absurd H (by simp)
              · rw [if_neg c14] at H
                exact absurd H (by simp)
            · rw [if_neg c13] at H
              have c13b0 : decide (2 ≤ x10_2) = false := decide_eq_false c13
              clear c13
              simp only [Option.some.injEq, Prod.mk.injEq] at H
              obtain ⟨rfl, rfl⟩ := H
              go_wp2
              go_ret2
              exact ⟨by first | rfl | (simp [errW_none, errW_some] <;> rfl) | (simp [*, errW_none, errW_some] <;> rfl), by repeat (first | (with_reducible first | exact HB.out | apply below_alloc | apply pw_below_drewN | apply below_drew1) | exact HB.out)⟩

end Go.Proofs.YthnembgbooaplaaDoor.P

namespace Go.Proofs.YthnembgbooaplaaDoor.P
open Go.RowKit Go.Proofs.YthnembgbooaplaaDoorW.PrintWords Go.Proofs.YthnembgbooaplaaDoorW.PrintLast Go.Proofs.YthnembgbooaplaaDoorW.PrintMore
attribute [local go_sem] max2_int min2_int max_two min_two max_three min_three max_four min_four
set_option linter.unusedVariables false
set_option linter.unusedSimpArgs false

/-! ### laws_FnExactReported: function 4 -/
def laws_FnExactReported.f (k : Nat) (a0 : ByteArray) (a1 : ByteArray) : Option (Bool) := if (a0.size : Int) > 1048576 then (some true) else (if (a1.size : Int) > 1048576 then (some true) else ((spec_Reported.f k a0 a1).bind fun bt101 => ((impl_Reported.f k a0 a1).bind fun bt103 => (if bt103.1.toList = bt101.1.toList then (if (bt103.2 != bt101.2) = true then (some false) else (some true)) else (some false)))))
theorem laws_FnExactReported.mono : ∀ a0 a1 k, LeO (laws_FnExactReported.f k a0 a1) (laws_FnExactReported.f (k + 1) a0 a1) := by
  intro a0 a1 k
  unfold laws_FnExactReported.f
  repeat' first
      | (with_reducible exact impl_Reported.mono _ _ _)
      | (with_reducible exact spec_Reported.mono _ _ _)
      | (with_reducible exact LeO.refl _)
      | (with_reducible exact LeO.none _)
      | (with_reducible refine LeO.ite ?_ ?_)
      | (with_reducible refine LeO.bind ?_ (fun _ => ?_))
      | exact impl_Reported.mono _ _ _
      | exact spec_Reported.mono _ _ _
      | exact LeO.none _
      | refine LeO.ite ?_ ?_
      | refine LeO.bind ?_ (fun _ => ?_)
set_option maxHeartbeats 8000000 in
set_option maxRecDepth 100000 in
theorem laws_FnExactReported.calls (k : Nat) (a0 : ByteArray) (a1 : ByteArray) (r : Bool) (w : World) (hEM : EnvM w) (h : laws_FnExactReported.f k a0 a1 = some r) :
    Calls Tryd.prog 4 #[.string a0, .string a1] w fun e w' => e = .returned (.bool r) ∧ Below w.heap.size w w' := by
  have HB := Aside0.mk (Below.refl w.heap.size w)
  have H : (if (a0.size : Int) > 1048576 then (some true) else (if (a1.size : Int) > 1048576 then (some true) else ((spec_Reported.f k a0 a1).bind fun bt101 => ((impl_Reported.f k a0 a1).bind fun bt103 => (if bt103.1.toList = bt101.1.toList then (if (bt103.2 != bt101.2) = true then (some false) else (some true)) else (some false)))))) = some r := h
  clear h
  by_cases c3 : (a0.size : Int) > 1048576
  · rw [if_pos c3] at H
    have c3b0 : decide (1048576 < (a0.size : Int)) = true := decide_eq_true c3
    have c3b1 : decide (1048576 < a0.size) = true := decide_eq_true (by omega)
    clear c3
    obtain rfl := Option.some.inj H
    go_enter Tryd.func4, Tryd.ntmps4
    go_wp2
    go_ret
    exact ⟨by first | rfl | (simp [errW_none, errW_some] <;> rfl) | (simp [*, errW_none, errW_some] <;> rfl), by repeat (first | (with_reducible first | exact HB.out | apply below_alloc | apply pw_below_drewN | apply below_drew1) | exact HB.out)⟩
  · rw [if_neg c3] at H
    have c3b0 : decide (1048576 < (a0.size : Int)) = false := decide_eq_false c3
    have c3b1 : decide (1048576 < a0.size) = false := decide_eq_false (by omega)
    clear c3
    by_cases c4 : (a1.size : Int) > 1048576
    · rw [if_pos c4] at H
      have c4b0 : decide (1048576 < (a1.size : Int)) = true := decide_eq_true c4
      have c4b1 : decide (1048576 < a1.size) = true := decide_eq_true (by omega)
      clear c4
      obtain rfl := Option.some.inj H
      go_enter Tryd.func4, Tryd.ntmps4
      go_wp2
      go_ret
      exact ⟨by first | rfl | (simp [errW_none, errW_some] <;> rfl) | (simp [*, errW_none, errW_some] <;> rfl), by repeat (first | (with_reducible first | exact HB.out | apply below_alloc | apply pw_below_drewN | apply below_drew1) | exact HB.out)⟩
    · rw [if_neg c4] at H
      have c4b0 : decide (1048576 < (a1.size : Int)) = false := decide_eq_false c4
      have c4b1 : decide (1048576 < a1.size) = false := decide_eq_false (by omega)
      clear c4
      replace H := Option.bind_eq_some_iff.mp H
      obtain ⟨⟨t101, t102⟩, A50, H⟩ := H
      replace H : ((impl_Reported.f k a0 a1).bind fun bt103 => (if bt103.1.toList = t101.toList then (if (bt103.2 != t102) = true then (some false) else (some true)) else (some false))) = some r := H
      have A5 := Aside0.mk A50
      clear A50
      replace H := Option.bind_eq_some_iff.mp H
      obtain ⟨⟨t103, t104⟩, A60, H⟩ := H
      replace H : (if t103.toList = t101.toList then (if (t104 != t102) = true then (some false) else (some true)) else (some false)) = some r := H
      have A6 := Aside0.mk A60
      clear A60
      by_cases c7 : t103.toList = t101.toList
      · rw [if_pos c7] at H
        have c7b0 : (t103.toList == t101.toList) = true := beq_iff_eq.mpr c7
        have c7b1 : (t103.toList != t101.toList) = false := bne_eq_false_iff_eq.mpr c7
        clear c7
        by_cases c8 : (t104 != t102) = true
        · rw [if_pos c8] at H
          have c8b0 : (t104 != t102) = true := c8
          (try (have c8b1 : decide (t104 = t102) = false := by simpa using c8))
          (try (have c8b2 : (t104 == t102) = false := by simpa using c8))
          (try (have c8b3 : ¬ (t104 = t102) := by simpa using c8))
          clear c8
          obtain rfl := Option.some.inj H
          go_enter Tryd.func4, Tryd.ntmps4
          go_wp2_with (first | ((with_reducible refine gate_callee (f := 10) rfl ?_); refine goesL_ (some 18) rfl rfl Tryd.func10 (by kernel_rfl) rfl #[.string a0, .string a1] rfl (by (try simp only [List.map_toArray, List.map_cons, List.map_nil]); first | done | rfl | (simp only [List.length_drop, List.length_take]; rfl)) ?_; (with_reducible refine (spec_Reported.calls k a0 a1 t101 t102 _ A5.out).mono ?_); rintro e w9 ⟨rfl, hb⟩; refine ⟨_, rfl, ?_⟩; have n0_ := Aside0.mk (below_step (by repeat (first | (with_reducible first | exact HB.out | apply below_alloc | apply pw_below_drewN | apply below_drew1) | exact HB.out)) hb); clear HB; have HB := n0_; clear n0_; (try clear hb); (try clear hb2); (try clear hk); (try clear hi)) | ((with_reducible refine gate_callee (f := 11) rfl ?_); refine goesL_ (some 24) rfl rfl Tryd.func11 (by kernel_rfl) rfl #[.string a0, .string a1] rfl (by (try simp only [List.map_toArray, List.map_cons, List.map_nil]); first | done | rfl | (simp only [List.length_drop, List.length_take]; rfl)) ?_; (with_reducible refine (impl_Reported.calls k a0 a1 t103 t104 _ ?side1 A6.out).mono ?_); (case side1 => first | exact hEM | exact EnvM.below hEM (by repeat (first | (with_reducible first | exact HB.out | apply below_alloc | apply pw_below_drewN | apply below_drew1) | exact HB.out))); rintro e w10 ⟨rfl, hb⟩; refine ⟨_, rfl, ?_⟩; have n0_ := Aside0.mk (below_step (by repeat (first | (with_reducible first | exact HB.out | apply below_alloc | apply pw_below_drewN | apply below_drew1) | exact HB.out)) hb); clear HB; have HB := n0_; clear n0_; (try clear hb); (try clear hb2); (try clear hk); (try clear hi)))
          go_ret
          exact ⟨by first | rfl | (simp [errW_none, errW_some] <;> rfl) | (simp [*, errW_none, errW_some] <;> rfl), by repeat (first | (with_reducible first | exact HB.out | apply below_alloc | apply pw_below_drewN | apply below_drew1) | exact HB.out)⟩
        · rw [if_neg c8] at H
          have c8b0 : (t104 != t102) = false := by simpa using c8
          (try (have c8b1 : decide (t104 = t102) = true := by simpa using c8))
          (try (have c8b2 : (t104 == t102) = true := by simpa using c8))
          clear c8
          obtain rfl := Option.some.inj H
          go_enter Tryd.func4, Tryd.ntmps4
          go_wp2_with (first | ((with_reducible refine gate_callee (f := 10) rfl ?_); refine goesL_ (some 18) rfl rfl Tryd.func10 (by kernel_rfl) rfl #[.string a0, .string a1] rfl (by (try simp only [List.map_toArray, List.map_cons, List.map_nil]); first | done | rfl | (simp only [List.length_drop, List.length_take]; rfl)) ?_; (with_reducible refine (spec_Reported.calls k a0 a1 t101 t102 _ A5.out).mono ?_); rintro e w11 ⟨rfl, hb⟩; refine ⟨_, rfl, ?_⟩; have n0_ := Aside0.mk (below_step (by repeat (first | (with_reducible first | exact HB.out | apply below_alloc | apply pw_below_drewN | apply below_drew1) | exact HB.out)) hb); clear HB; have HB := n0_; clear n0_; (try clear hb); (try clear hb2); (try clear hk); (try clear hi)) | ((with_reducible refine gate_callee (f := 11) rfl ?_); refine goesL_ (some 24) rfl rfl Tryd.func11 (by kernel_rfl) rfl #[.string a0, .string a1] rfl (by (try simp only [List.map_toArray, List.map_cons, List.map_nil]); first | done | rfl | (simp only [List.length_drop, List.length_take]; rfl)) ?_; (with_reducible refine (impl_Reported.calls k a0 a1 t103 t104 _ ?side1 A6.out).mono ?_); (case side1 => first | exact hEM | exact EnvM.below hEM (by repeat (first | (with_reducible first | exact HB.out | apply below_alloc | apply pw_below_drewN | apply below_drew1) | exact HB.out))); rintro e w12 ⟨rfl, hb⟩; refine ⟨_, rfl, ?_⟩; have n0_ := Aside0.mk (below_step (by repeat (first | (with_reducible first | exact HB.out | apply below_alloc | apply pw_below_drewN | apply below_drew1) | exact HB.out)) hb); clear HB; have HB := n0_; clear n0_; (try clear hb); (try clear hb2); (try clear hk); (try clear hi)))
          go_ret
          exact ⟨by first | rfl | (simp [errW_none, errW_some] <;> rfl) | (simp [*, errW_none, errW_some] <;> rfl), by repeat (first | (with_reducible first | exact HB.out | apply below_alloc | apply pw_below_drewN | apply below_drew1) | exact HB.out)⟩
      · rw [if_neg c7] at H
        have c7b0 : (t103.toList == t101.toList) = false := beq_eq_false_iff_ne.mpr c7
        have c7b1 : (t103.toList != t101.toList) = true := bne_iff_ne.mpr c7
        obtain rfl := Option.some.inj H
        go_enter Tryd.func4, Tryd.ntmps4
        go_wp2_with (first | ((with_reducible refine gate_callee (f := 10) rfl ?_); refine goesL_ (some 18) rfl rfl Tryd.func10 (by kernel_rfl) rfl #[.string a0, .string a1] rfl (by (try simp only [List.map_toArray, List.map_cons, List.map_nil]); first | done | rfl | (simp only [List.length_drop, List.length_take]; rfl)) ?_; (with_reducible refine (spec_Reported.calls k a0 a1 t101 t102 _ A5.out).mono ?_); rintro e w13 ⟨rfl, hb⟩; refine ⟨_, rfl, ?_⟩; have n0_ := Aside0.mk (below_step (by repeat (first | (with_reducible first | exact HB.out | apply below_alloc | apply pw_below_drewN | apply below_drew1) | exact HB.out)) hb); clear HB; have HB := n0_; clear n0_; (try clear hb); (try clear hb2); (try clear hk); (try clear hi)) | ((with_reducible refine gate_callee (f := 11) rfl ?_); refine goesL_ (some 24) rfl rfl Tryd.func11 (by kernel_rfl) rfl #[.string a0, .string a1] rfl (by (try simp only [List.map_toArray, List.map_cons, List.map_nil]); first | done | rfl | (simp only [List.length_drop, List.length_take]; rfl)) ?_; (with_reducible refine (impl_Reported.calls k a0 a1 t103 t104 _ ?side1 A6.out).mono ?_); (case side1 => first | exact hEM | exact EnvM.below hEM (by repeat (first | (with_reducible first | exact HB.out | apply below_alloc | apply pw_below_drewN | apply below_drew1) | exact HB.out))); rintro e w14 ⟨rfl, hb⟩; refine ⟨_, rfl, ?_⟩; have n0_ := Aside0.mk (below_step (by repeat (first | (with_reducible first | exact HB.out | apply below_alloc | apply pw_below_drewN | apply below_drew1) | exact HB.out)) hb); clear HB; have HB := n0_; clear n0_; (try clear hb); (try clear hb2); (try clear hk); (try clear hi)))
        go_ret
        exact ⟨by first | rfl | (simp [errW_none, errW_some] <;> rfl) | (simp [*, errW_none, errW_some] <;> rfl), by repeat (first | (with_reducible first | exact HB.out | apply below_alloc | apply pw_below_drewN | apply below_drew1) | exact HB.out)⟩

/-- THE ONE PURE STATEMENT of laws_FnExactReported: yours. -/
def laws_FnExactReported.Pure : Prop := ∀ (a0 : ByteArray) (a1 : ByteArray), a0.size ≤ 140737488351232 → a1.size ≤ 140737488351232 → ∃ k, laws_FnExactReported.f k a0 a1 = some true
theorem laws_FnExactReported.walk (P : laws_FnExactReported.Pure) (a0 : ByteArray) (a1 : ByteArray) (w : World) (w0 : a0.size ≤ 140737488351232) (w1 : a1.size ≤ 140737488351232) (hEM : EnvM w) :
    Calls Tryd.prog 4 #[.string a0, .string a1] w fun e w' => e = .returned (.bool true) ∧ Below w.heap.size w w' := by
  obtain ⟨k, h⟩ := P a0 a1 w0 w1
  refine (laws_FnExactReported.calls k a0 a1 true w hEM h).mono ?_
  rintro e w' ⟨rfl, hd⟩
  exact ⟨rfl, hd⟩

end Go.Proofs.YthnembgbooaplaaDoor.P

namespace Go.Proofs.YthnembgbooaplaaDoor.Pure
open Go.RowKit Go.Proofs.YthnembgbooaplaaDoor.P Go.Proofs.YthnembgbooaplaaDoorW.PrintWords
def mk (l : List UInt8) : ByteArray := ⟨l.toArray⟩
theorem mk_data (s : ByteArray) : mk s.data.toList = s := by cases s; simp [mk]
theorem data_mk (l : List UInt8) : (mk l).data.toList = l := by simp [mk]
theorem toList_is (s : ByteArray) : s.toList = s.data.toList := by rw [ByteArray.toList_eq]
def cut1 (c : UInt8) : List UInt8 → List (List UInt8)
  | [] => [[]]
  | b :: l => if b = c then [] :: cut1 c l else match cut1 c l with
    | [] => [[b]]
    | h :: t => (b :: h) :: t
theorem cut1_ne (c : UInt8) : ∀ l, cut1 c l ≠ []
  | [] => by simp [cut1]
  | b :: l => by
    unfold cut1
    split
    · simp
    · split <;> simp
theorem cut1_length (c : UInt8) : ∀ l, (cut1 c l).length ≤ l.length + 1
  | [] => by simp [cut1]
  | b :: l => by
    have := cut1_length c l
    unfold cut1
    split
    · simp; omega
    · split
      · simp
      · rename_i h t e; rw [e] at this; simp at this ⊢; omega
theorem split_cut1 (c : UInt8) : ∀ l, Lib.splitK [c] 0 (Lib.count l [c]) l = cut1 c l
  | [] => by rw [Lib.count_miss (by simp [Lib.index])]; rfl
  | b :: l => by
    have ih := split_cut1 c l
    by_cases h : b = c
    · subst h
      have hix : Lib.index (b :: l) [b] = 0 := by rw [Lib.index]; simp [List.isPrefixOf]
      rw [Lib.count_cons_eq, Nat.add_comm, Lib.splitK, hix]
      simp only [cut1, if_true]
      rw [← ih]
      rfl
    · have hp : ([c] : List UInt8).isPrefixOf (b :: l) = false := by simp [List.isPrefixOf, Ne.symm h]
      have hix : Lib.index (b :: l) [c] = if Lib.index l [c] == -1 then -1 else Lib.index l [c] + 1 := by rw [Lib.index, hp]; simp
      rw [Lib.count_cons_ne b c l h]
      unfold cut1
      rw [if_neg h, ← ih]
      cases hk : Lib.count l [c] with
      | zero => rfl
      | succ k =>
        have hge := Lib.index_ge l [c]
        have hm : ¬ Lib.index l [c] = -1 := fun e => by rw [Lib.count_miss e] at hk; cases hk
        obtain ⟨i, hi⟩ : ∃ i : Nat, Lib.index l [c] = i := ⟨(Lib.index l [c]).toNat, by omega⟩
        have hix' : Lib.index (b :: l) [c] = ((i + 1 : Nat) : Int) := by rw [hix, if_neg (fun e => hm (beq_iff_eq.1 e)), hi]; omega
        rw [Lib.splitK, Lib.splitK, hix', hi, if_neg (by simp; omega), if_neg (by simp)]
        simp
/-- The texts between the bytes c of s. -/
def cuts (c : UInt8) (s : ByteArray) : List ByteArray := (cut1 c s.data.toList).map mk
theorem splitB_cuts (c : UInt8) (s : ByteArray) : Lib.splitB ⟨#[c]⟩ 0 (Lib.countB s ⟨#[c]⟩) s = cuts c s := by
  have h := Lib.splitB_data ⟨#[c]⟩ 0 (Lib.countB s ⟨#[c]⟩) s
  rw [show Lib.countB s ⟨#[c]⟩ = Lib.count s.data.toList [c] from rfl, show ((⟨#[c]⟩ : ByteArray).data.toList) = [c] from rfl, split_cut1] at h
  unfold cuts
  rw [← h, List.map_map]
  rw [show (mk ∘ fun x : ByteArray => x.data.toList) = id from funext fun x => mk_data x, List.map_id]
theorem cuts_length (c : UInt8) (s : ByteArray) : (cuts c s).length ≤ s.size + 1 := by
  have := cut1_length c s.data.toList
  unfold cuts
  simpa using this
theorem cuts_ne (c : UInt8) (s : ByteArray) : 0 < (cuts c s).length := by
  unfold cuts
  have := cut1_ne c s.data.toList
  rw [List.length_map]
  exact List.length_pos_iff.2 this
theorem split_is (c : UInt8) (s : ByteArray) (hs : s.size ≤ 4294967280) : strings_Split.f s ⟨#[c]⟩ = some (cuts c s) := by
  unfold strings_Split.f
  rw [if_pos ⟨by show 1 ≤ 1; omega, by omega⟩, splitB_cuts]
theorem btl (s : ByteArray) (i : Nat) (h : i < s.data.toList.length) : bt s (i : Int) = (s.data.toList[i]'h).toNat := by
  have h' : i < s.size := by simpa using h
  unfold bt
  rw [dif_pos (by simpa using h')]
  rfl
theorem ex_data (s : ByteArray) (a b : Nat) : (s.extract a b).data.toList = (s.data.toList.take b).drop a := by
  rw [ByteArray.data_extract, Array.toList_extract]
  simp [List.drop_take]
theorem cut_loop (c : UInt8) (s : ByteArray) (hs : s.size ≤ 1000000000) (d : Nat) : ∀ (a i : Nat) (out : List ByteArray), i + d = s.size → a ≤ i → out.length ≤ a → ∀ k, d + 1 < k →
    spec_l02Cut.l0 k s (c.toNat : Int) out (a : Int) (i : Int) = some (out ++ (match cut1 c (s.data.toList.drop i) with
      | [] => []
      | h :: t => mk ((s.data.toList.take i).drop a ++ h) :: t.map mk)) := by
  induction d with
  | zero =>
    intro a i out hi ha ho k hk
    obtain ⟨k, rfl⟩ : ∃ m, k = m + 2 := ⟨k - 2, by omega⟩
    have e : wrap64 ((i : Int) + 1) = (i : Int) + 1 := by unfold wrap64; omega
    simp only [spec_l02Cut.l0]
    rw [if_pos (by omega), if_pos (by omega), if_pos (by omega), if_pos (by omega), if_pos (by omega), e, if_neg (by omega)]
    rw [List.drop_eq_nil_of_le (by simp; omega)]
    simp only [cut1, List.append_nil, List.map_nil, Int.toNat_natCast]
    rw [← ex_data, mk_data]
  | succ d ih =>
    intro a i out hi ha ho k hk
    obtain ⟨k, rfl⟩ : ∃ m, k = m + 1 := ⟨k - 1, by omega⟩
    have hl : i < s.data.toList.length := by simp; omega
    have e : wrap64 ((i : Int) + 1) = ((i + 1 : Nat) : Int) := by unfold wrap64; omega
    simp only [spec_l02Cut.l0]
    rw [if_pos (by omega), if_neg (by omega), if_pos (by omega), if_pos (by omega), btl s i hl, e]
    have hdrop := List.drop_eq_getElem_cons hl
    by_cases hc : s.data.toList[i] = c
    · rw [if_pos (by rw [hc]), if_pos (by omega), if_pos (by omega), if_pos (by omega), ih (i + 1) (i + 1) _ (by omega) (by omega) (by simp; omega) k (by omega)]
      rw [hdrop, cut1, if_pos hc]
      simp only [Int.toNat_natCast, List.append_nil, List.append_assoc, List.singleton_append]
      rw [show mk (List.drop a (List.take i s.data.toList)) = s.extract a i from by rw [← ex_data, mk_data]]
      have hnil : (s.data.toList.take (i + 1)).drop (i + 1) = [] := List.drop_eq_nil_of_le (by rw [List.length_take]; omega)
      rw [hnil]
      cases hq : cut1 c (s.data.toList.drop (i + 1)) with
      | nil => exact absurd hq (cut1_ne _ _)
      | cons h t => rfl
    · rw [if_neg (by intro he; exact hc (UInt8.toNat_inj.1 (by omega))), ih a (i + 1) out (by omega) (by omega) ho k (by omega)]
      rw [hdrop, cut1, if_neg hc]
      congr 2
      cases hq : cut1 c (s.data.toList.drop (i + 1)) with
      | nil => exact absurd hq (cut1_ne _ _)
      | cons h t =>
        simp only
        have : (s.data.toList.take (i + 1)).drop a ++ h = (s.data.toList.take i).drop a ++ s.data.toList[i] :: h := by
          rw [List.take_succ_eq_append_getElem hl, List.drop_append_of_le_length (by simp; omega)]
          simp
        rw [this]
theorem l02Cut_is (c : UInt8) (s : ByteArray) (hs : s.size ≤ 1000000000) (k : Nat) (hk : s.size + 2 < k) : spec_l02Cut.f k s (c.toNat : Int) = some (cuts c s) := by
  unfold spec_l02Cut.f
  have := cut_loop c s hs s.size 0 0 [] (by omega) (by omega) (by simp) k (by omega)
  rw [show ((0 : Nat) : Int) = 0 from rfl] at this
  rw [this]
  unfold cuts
  simp only [List.drop_zero, List.nil_append, List.take_zero]
  cases hq : cut1 c s.data.toList with
  | nil => exact absurd hq (cut1_ne _ _)
  | cons h t => rfl
end Go.Proofs.YthnembgbooaplaaDoor.Pure

namespace Go.Proofs.YthnembgbooaplaaDoor.Pure
open Go.RowKit Go.Proofs.YthnembgbooaplaaDoor.P Go.Proofs.YthnembgbooaplaaDoorW.PrintWords
theorem spart_loop (s : ByteArray) (hs : s.size ≤ 140737488351232) (d : Nat) : ∀ (i : Nat), i + d = s.size → ∀ k, d < k → spec_l02Part.l0 k s (i : Int) = some ((s.data.toList.drop i).all lowNum) := by
  induction d with
  | zero =>
    intro i hi k hk
    obtain ⟨k, rfl⟩ : ∃ m, k = m + 1 := ⟨k - 1, by omega⟩
    simp only [spec_l02Part.l0]
    rw [if_neg (by omega), List.drop_eq_nil_of_le (by simp; omega)]
    rfl
  | succ d ih =>
    intro i hi k hk
    obtain ⟨k, rfl⟩ : ∃ m, k = m + 1 := ⟨k - 1, by omega⟩
    have hl : i < s.data.toList.length := by simp; omega
    have e : wrap64 ((i : Int) + 1) = ((i + 1 : Nat) : Int) := by unfold wrap64; omega
    simp only [spec_l02Part.l0]
    rw [if_pos (by omega), if_pos (by omega), bt_list s i hl, e, ih (i + 1) (by omega) k (by omega), List.drop_eq_getElem_cons hl, List.all_cons]
    generalize (s.data.toList.drop (i + 1)).all lowNum = R
    generalize s.data.toList[i] = c
    unfold lowNum lowOk
    have := c.toNat_lt
    by_cases h1 : ((c.toNat : Nat) : Int) ≥ 97
    · rw [if_pos h1]
      by_cases h2 : ((c.toNat : Nat) : Int) ≤ 122
      · rw [if_pos h2, decide_eq_true (by omega)]; rfl
      · rw [if_neg h2, if_pos (by omega), if_neg (by omega), decide_eq_false (by omega), decide_eq_false (by omega)]; rfl
    · rw [if_neg h1]
      by_cases h3 : ((c.toNat : Nat) : Int) ≥ 48
      · rw [if_pos h3]
        by_cases h4 : ((c.toNat : Nat) : Int) ≤ 57
        · rw [if_pos h4, decide_eq_false (by omega), decide_eq_true (by omega)]; rfl
        · rw [if_neg h4, decide_eq_false (by omega), decide_eq_false (by omega)]; rfl
      · rw [if_neg h3, decide_eq_false (by omega), decide_eq_false (by omega)]; rfl
theorem spart_is (s : ByteArray) (hs : s.size ≤ 140737488351232) (k : Nat) (hk : s.size + 5 < k) : spec_l02Part.f k s = some (namePart s.data.toList) := by
  obtain ⟨k, rfl⟩ : ∃ m, k = m + 1 := ⟨k - 1, by omega⟩
  unfold spec_l02Part.f
  rcases hl : s.data.toList with _ | ⟨c, l⟩
  · have hz : s.size = 0 := by have : s.data.toList.length = s.size := by simp
                               rw [hl] at this; simpa using this.symm
    rw [if_pos (by omega)]
    simp only [spec_l02Part.j0, if_true]
    rfl
  · have hz : 0 < s.data.toList.length := by rw [hl]; simp
    have hz' : 0 < s.size := by simpa using hz
    rw [if_neg (by omega), if_pos (by omega)]
    have hb := bt_list s 0 hz
    simp only [hl, List.getElem_cons_zero] at hb
    have hb' : bt s 0 = (c.toNat : Int) := hb
    rw [hb']
    have hloop := spart_loop s hs s.size 0 (by omega) k (by omega)
    rw [hl] at hloop
    have hj : ∀ b, spec_l02Part.j0 (k + 1) s b = if b = true then some false else some ((c :: l).all lowNum) := by
      intro b
      simp only [spec_l02Part.j0]
      rw [show (0 : Int) = ((0 : Nat) : Int) from rfl, hloop]
      rfl
    rw [hj, hj]
    unfold namePart lowOk
    have := c.toNat_lt
    by_cases h1 : ((c.toNat : Nat) : Int) < 97
    · rw [if_pos h1, if_pos rfl]; simp only; rw [decide_eq_false (by omega)]; rfl
    · rw [if_neg h1]
      by_cases h4 : ((c.toNat : Nat) : Int) > 122
      · rw [decide_eq_true h4, if_pos rfl]; simp only; rw [decide_eq_false (by omega)]; rfl
      · rw [decide_eq_false h4, if_neg (by simp)]; simp only; rw [decide_eq_true (by omega)]; rfl
theorem sname_loop (ps : List ByteArray) (hp : ∀ s ∈ ps, s.size ≤ 100) (hl : ps.length ≤ 1000) (d : Nat) : ∀ (i : Nat), i + d = ps.length → ∀ k, d + 200 < k → spec_NameOk.l0 k ps (i : Int) = some ((ps.drop i).all fun s => namePart s.data.toList) := by
  induction d with
  | zero =>
    intro i hi k hk
    obtain ⟨k, rfl⟩ : ∃ m, k = m + 1 := ⟨k - 1, by omega⟩
    simp only [spec_NameOk.l0]
    rw [if_neg (by omega), List.drop_eq_nil_of_le (by omega)]
    rfl
  | succ d ih =>
    intro i hi k hk
    obtain ⟨k, rfl⟩ : ∃ m, k = m + 1 := ⟨k - 1, by omega⟩
    have hlt : i < ps.length := by omega
    have e : wrap64 ((i : Int) + 1) = ((i + 1 : Nat) : Int) := by unfold wrap64; omega
    have hr : rdOf ByteArray.empty ps (i : Int) = ps[i] := by unfold rdOf; rw [Int.toNat_natCast, List.getD_eq_getElem?_getD, List.getElem?_eq_getElem hlt]; rfl
    have hsz := hp ps[i] (List.getElem_mem hlt)
    simp only [spec_NameOk.l0]
    rw [if_pos (by omega), if_pos (by omega), hr, spart_is _ (by omega) k (by omega), e, ih (i + 1) (by omega) k (by omega), List.drop_eq_getElem_cons hlt, List.all_cons]
    simp only [Option.bind_some]
    cases namePart ps[i].data.toList with
    | true => rw [if_pos rfl]; rfl
    | false => rw [if_neg (by decide)]; rfl
/-- What both NameOks answer. -/
def nameOkP (s : ByteArray) : Bool := if 40 < s.size then false else decide ((cuts 46 s).length ≤ 5) && (cuts 46 s).all fun x => namePart x.data.toList
theorem cuts_le (c : UInt8) (s : ByteArray) (x : ByteArray) (hx : x ∈ cuts c s) : x.size ≤ s.size := by
  rw [← splitB_cuts] at hx
  exact splitB_le _ _ _ _ hx
theorem implName_is (s : ByteArray) (hs : s.size ≤ 140737488351232) : impl_NameOk.f s = some (nameOkP s) := by
  unfold impl_NameOk.f nameOkP
  rw [if_pos hs]
  by_cases h : 40 < s.size
  · rw [if_pos h, if_pos h]
  · rw [if_neg h, if_neg h, split_is 46 s (by omega)]
    simp only [Option.bind_some]
    congr 2
    rw [List.all_eq_not_any_not]
theorem specName_is (s : ByteArray) (k : Nat) (hk : 300 < k) : spec_NameOk.f k s = some (nameOkP s) := by
  unfold spec_NameOk.f nameOkP
  by_cases h : 40 < s.size
  · rw [if_pos (by omega), if_pos h]
  · have e1 := l02Cut_is 46 s (by omega) k (by omega)
    rw [show (((46 : UInt8).toNat : Nat) : Int) = 46 from rfl] at e1
    rw [if_neg (by omega), if_neg h, e1]
    simp only [Option.bind_some]
    by_cases h5 : (cuts 46 s).length ≤ 5
    · rw [if_neg (by omega), decide_eq_true h5]
      have := sname_loop (cuts 46 s) (fun x hx => by have := cuts_le 46 s x hx; omega) (by omega) (cuts 46 s).length 0 (by omega) k (by omega)
      rw [show (0 : Int) = ((0 : Nat) : Int) from rfl, this]
      simp
    · rw [if_pos (by omega), decide_eq_false h5]; rfl
end Go.Proofs.YthnembgbooaplaaDoor.Pure

namespace Go.Proofs.YthnembgbooaplaaDoor.Pure
open Go.RowKit Go.Proofs.YthnembgbooaplaaDoor.P Go.Proofs.YthnembgbooaplaaDoorW.PrintWords
theorem bt_rng (s : ByteArray) (i : Int) : 0 ≤ bt s i ∧ bt s i < 256 := by
  unfold bt
  split
  · have := (s[i.toNat]).toNat_lt; omega
  · omega
abbrev hexT : ByteArray := ⟨#[48, 49, 50, 51, 52, 53, 54, 55, 56, 57, 97, 98, 99, 100, 101, 102]⟩
theorem digits_all : ∀ b : Fin 256, spec_l01Value.f 1 (b.val : Int) = strings_IndexByte.f hexT (b.val : Int) ∧ ((spec_l01Value.f 1 (b.val : Int)).all fun x => decide (-1 ≤ x ∧ x < 16)) = true ∧ (spec_l01Value.f 1 (b.val : Int)).isSome = true := by decide +kernel
theorem digit_mono (k : Nat) (c : Int) : spec_l01Value.f (k + 1) c = spec_l01Value.f 1 c := by
  have h : ∀ k b, spec_l01Value.j0 (k + 1) c b = spec_l01Value.j0 1 c b := by intro k b; simp only [spec_l01Value.j0]
  unfold spec_l01Value.f
  rw [h k (decide (c ≤ 57)), h k false]
theorem digit_is (k : Nat) (c : Int) (hk : 0 < k) (h0 : 0 ≤ c) (h1 : c < 256) : ∃ x, spec_l01Value.f k c = some x ∧ strings_IndexByte.f hexT c = some x ∧ -1 ≤ x ∧ x < 16 := by
  obtain ⟨k, rfl⟩ : ∃ m, k = m + 1 := ⟨k - 1, by omega⟩
  have h := digits_all ⟨c.toNat, by omega⟩
  have e : ((c.toNat : Nat) : Int) = c := by omega
  simp only [e] at h
  obtain ⟨x, hx⟩ := Option.isSome_iff_exists.mp h.2.2
  refine ⟨x, by rw [digit_mono, hx], by rw [← h.1, hx], ?_⟩
  have := h.2.1
  rw [hx] at this
  simpa using this
theorem both_all : ∀ a b : Fin 16, (Go.bits .or .i64 (wrap64 ((a.val : Int) * 16)) (b.val : Int)) % 256 = (wrap64 ((wrap64 (16 * (a.val : Int))) + (b.val : Int))) % 256 := by decide +kernel
theorem both_is (a b : Int) (a0 : 0 ≤ a) (a1 : a < 16) (b0 : 0 ≤ b) (b1 : b < 16) : (Go.bits .or .i64 (wrap64 (a * 16)) b) % 256 = (wrap64 ((wrap64 (16 * a)) + b)) % 256 := by
  have h := both_all ⟨a.toNat, by omega⟩ ⟨b.toNat, by omega⟩
  have e : ((a.toNat : Nat) : Int) = a := by omega
  have e' : ((b.toNat : Nat) : Int) = b := by omega
  simpa only [e, e'] using h
theorem unhex_loop (s : ByteArray) (hs : s.size ≤ 40000) (he : s.size % 2 = 0) (d : Nat) : ∀ (k : Nat) (acc : List Int) (i : Int), 0 ≤ i → i ≤ s.size → i % 2 = 0 → (s.size : Int) - i = d → d + 1 < k → acc.length ≤ i.toNat →
    ∃ r, spec_Unhex.l0 k s acc i = some r ∧ impl_Unhex.l0 k s acc i = some r := by
  induction d using Nat.strongRecOn with
  | _ d ih =>
  intro k acc i h0 h1 h2 hd hk ha
  obtain ⟨k, rfl⟩ : ∃ m, k = m + 1 := ⟨k - 1, by omega⟩
  simp only [spec_Unhex.l0, impl_Unhex.l0]
  by_cases c : i < (s.size : Int)
  · rw [if_pos c, if_pos h0, if_pos c, if_pos h0]
    obtain ⟨x, hx, hx', x0, x1⟩ := digit_is k (bt s i) (by omega) (bt_rng s i).1 (bt_rng s i).2
    obtain ⟨y, hy, hy', y0, y1⟩ := digit_is k (bt s (wrap64 (i + 1))) (by omega) (bt_rng s _).1 (bt_rng s _).2
    rw [hx, hx', hy, hy']
    simp only [Option.bind_some]
    have e : wrap64 (i + 1) = i + 1 := by unfold wrap64; omega
    have e2 : wrap64 (i + 2) = i + 2 := by unfold wrap64; omega
    have p1 : (0 ≤ i + 1) = True := eq_true (by omega)
    have p2 : (i + 1 < (s.size : Int)) = True := eq_true (by omega)
    have p3 : (acc.length < 140737488355328) = True := eq_true (by omega)
    simp only [e, e2, p1, p2, p3, if_true]
    by_cases cx : x < 0
    · simp only [eq_true cx, if_true]; exact ⟨_, rfl, rfl⟩
    · simp only [eq_false cx, if_false]
      by_cases cy : y < 0
      · simp only [eq_true cy, if_true]; exact ⟨_, rfl, rfl⟩
      · simp only [eq_false cy, if_false]
        rw [both_is x y (by omega) x1 (by omega) y1]
        exact ih (d - 2) (by omega) k _ (i + 2) (by omega) (by omega) (by omega) (by omega) (by omega) (by rw [List.length_append, List.length_singleton]; omega)
  · rw [if_neg c, if_neg c]; exact ⟨_, rfl, rfl⟩
theorem unhex_both (s : ByteArray) (k : Nat) (hk : 40010 < k) : ∃ r, spec_Unhex.f k s = some r ∧ impl_Unhex.f k s = some r := by
  obtain ⟨k, rfl⟩ : ∃ m, k = m + 1 := ⟨k - 1, by omega⟩
  unfold spec_Unhex.f impl_Unhex.f
  by_cases c : (s.size : Int) > 40000
  · rw [if_pos c, if_pos c]; simp only [spec_Unhex.j0, impl_Unhex.j0]; exact ⟨_, rfl, rfl⟩
  · rw [if_neg c, if_neg c]
    simp only [spec_Unhex.j0, impl_Unhex.j0]
    by_cases e : (((s.size : Int) % 2) != 0) = true
    · rw [if_pos e, if_pos e]; exact ⟨_, rfl, rfl⟩
    · rw [if_neg e, if_neg e]
      have e' : (s.size : Int) % 2 = 0 := by simpa using e
      have hw : wrap64 ((s.size : Int) / 2) = (s.size : Int) / 2 := by unfold wrap64; omega
      rw [hw, if_pos (by omega), if_pos (by omega)]
      exact unhex_loop s (by omega) (by omega) s.size k [] 0 (by omega) (by omega) (by omega) (by omega) (by omega) (by simp)
end Go.Proofs.YthnembgbooaplaaDoor.Pure

namespace Go.Proofs.YthnembgbooaplaaDoor.Pure
open Go.RowKit Go.Proofs.YthnembgbooaplaaDoor.P Go.Proofs.YthnembgbooaplaaDoorW.PrintWords
abbrev bodyF : ByteArray × ByteArray × Bool := (⟨#[]⟩, ⟨#[]⟩, false)
def bodyRes (k : Nat) (a0 : ByteArray) (n : Nat) : ByteArray × ByteArray × Bool :=
  if 0 < n ∧ bt a0 ((n : Int) - 1) ≠ 10 then bodyF
  else if (a0.extract n (n + 4)).toList = ([116, 97, 103, 32] : List UInt8) ∧ bt a0 ((n : Int) + 68) = 10 then
    match spec_Unhex.f k (a0.extract (n + 4) (n + 68)) with
    | some (t, true) => (a0.extract 0 n, t, true)
    | _ => bodyF
  else bodyF
theorem spec_body (k : Nat) (hk : 40010 < k) (a0 : ByteArray) (n : Nat) (hn : a0.size = n + 69) (h1 : n ≤ 8000) : spec_BodyIn.f k a0 = some (bodyRes k a0 n) := by
  obtain ⟨⟨t, ok⟩, ht, _⟩ := unhex_both (a0.extract (n + 4) (n + 68)) k hk
  have e0 : wrap64 ((a0.size : Int) - 69) = (n : Int) := by unfold wrap64; omega
  have e1 : wrap64 ((n : Int) - 1) = (n : Int) - 1 := by unfold wrap64; omega
  have e4 : wrap64 ((n : Int) + 4) = (n : Int) + 4 := by unfold wrap64; omega
  have e68 : wrap64 ((n : Int) + 68) = (n : Int) + 68 := by unfold wrap64; omega
  have t0 : ((n : Int)).toNat = n := by omega
  have t4 : ((n : Int) + 4).toNat = n + 4 := by omega
  have t68 : ((n : Int) + 68).toNat = n + 68 := by omega
  have p1 : ((n : Int) < 0) = False := eq_false (by omega)
  have p2 : ((n : Int) > 8000) = False := eq_false (by omega)
  have p3 : (0 ≤ (n : Int)) = True := eq_true (by omega)
  have p4 : ((n : Int) ≤ (n : Int) + 4) = True := eq_true (by omega)
  have p5 : ((n : Int) + 4 ≤ (a0.size : Int)) = True := eq_true (by omega)
  have p6 : (0 ≤ (n : Int) + 68) = True := eq_true (by omega)
  have p7 : ((n : Int) + 68 < (a0.size : Int)) = True := eq_true (by omega)
  have p8 : (0 ≤ (n : Int) + 4) = True := eq_true (by omega)
  have p9 : ((n : Int) + 4 ≤ (n : Int) + 68) = True := eq_true (by omega)
  have p10 : ((n : Int) + 68 ≤ (a0.size : Int)) = True := eq_true (by omega)
  have p11 : ((n : Int) ≤ (a0.size : Int)) = True := eq_true (by omega)
  unfold spec_BodyIn.f bodyRes
  simp only [e0, e1, e4, e68, t0, t4, t68, p1, p2, p3, p4, p5, p6, p7, p8, p9, p10, p11, if_true, if_false, ht, Option.bind_some]
  by_cases hn0 : 0 < n
  · have q1 : ((n : Int) > 0) = True := eq_true (by omega)
    have q2 : (0 ≤ (n : Int) - 1) = True := eq_true (by omega)
    have q3 : ((n : Int) - 1 < (a0.size : Int)) = True := eq_true (by omega)
    simp only [q1, q2, q3, if_true, hn0, true_and]
    by_cases c1 : bt a0 ((n : Int) - 1) = 10
    · by_cases c2 : (a0.extract n (n + 4)).toList = ([116, 97, 103, 32] : List UInt8)
      · by_cases c3 : bt a0 ((n : Int) + 68) = 10
        · cases ok <;> simp [c1, c2, c3]
        · simp [c1, c2, c3]
      · simp [c1, c2]
    · simp [c1]
  · have q1 : ((n : Int) > 0) = False := eq_false (by omega)
    simp only [q1, if_false, hn0, false_and]
    by_cases c2 : (a0.extract n (n + 4)).toList = ([116, 97, 103, 32] : List UInt8)
    · by_cases c3 : bt a0 ((n : Int) + 68) = 10
      · cases ok <;> simp [c2, c3]
      · simp [c2, c3]
    · simp [c2]
theorem bt_extract (s : ByteArray) (a b i : Nat) (h : a + i < b) (hb : b ≤ s.size) : bt (s.extract a b) (i : Int) = bt s ((a + i : Nat) : Int) := by
  have h1 : ((i : Nat) : Int).toNat < (s.extract a b).size := by simp; omega
  have h2 : ((a + i : Nat) : Int).toNat < s.size := by omega
  rw [← bt_at _ _ h1, ← bt_at _ _ h2]
  simp only [Int.toNat_natCast, ByteArray.getElem_extract]
theorem pre_iff (l : List UInt8) : Lib.hasPrefix l [116, 97, 103, 32] = true ↔ l.take 4 = [116, 97, 103, 32] := by
  unfold Lib.hasPrefix
  rw [List.isPrefixOf_iff_prefix, List.prefix_iff_eq_take]
  exact ⟨fun h => h.symm, fun h => h.symm⟩
set_option maxHeartbeats 400000 in
theorem impl_body (k : Nat) (hk : 40010 < k) (a0 : ByteArray) (n : Nat) (hn : a0.size = n + 69) (h1 : n ≤ 8000) : impl_BodyIn.f k a0 = some (bodyRes k a0 n) := by
  have hs : a0.size - 69 = n := by omega
  have hs2 : a0.size - n = 69 := by omega
  unfold impl_BodyIn.f
  rw [if_pos (by omega), if_neg (by omega), hs, hs2, show 69 - 1 = 68 from rfl]
  show (if 69 < a0.size ∧ bt a0 ((n : Int) - 1) ≠ 10 then _ else _) = _
  unfold bodyRes
  have hlast : bt (a0.extract n a0.size) (((69 : Nat) : Int) - 1) = bt a0 ((n : Int) + 68) := bt_extract a0 n a0.size 68 (by omega) (by omega)
  by_cases c0 : 0 < n ∧ bt a0 ((n : Int) - 1) ≠ 10
  · rw [if_pos ⟨by omega, c0.2⟩, if_pos c0]
  · rw [if_neg (fun h => c0 ⟨by omega, h.2⟩), if_neg c0]
    have hcut : strings_CutPrefix.f ((a0.extract n a0.size).extract 0 68) ⟨#[116, 97, 103, 32]⟩ = some (⟨(Lib.trimPrefix ((a0.extract n a0.size).extract 0 68).data.toList [116, 97, 103, 32]).toArray⟩, Lib.hasPrefix ((a0.extract n a0.size).extract 0 68).data.toList [116, 97, 103, 32]) := rfl
    have hl : ((a0.extract n a0.size).extract 0 68).data.toList = (a0.data.toList.drop n).take 68 := by
      rw [Lib.extract_data, Lib.extract_data, List.drop_zero, Nat.sub_zero, List.take_take, hs2, show min 68 69 = 68 from rfl]
    have h4 : (a0.extract n (n + 4)).toList = (a0.data.toList.drop n).take 4 := by
      rw [Lib.toList_data, Lib.extract_data, show n + 4 - n = 4 from by omega]
    rw [hcut, hl]
    simp only [Option.bind_some, hlast, h4]
    have ht4 : ((a0.data.toList.drop n).take 68).take 4 = (a0.data.toList.drop n).take 4 := by rw [List.take_take]; rfl
    by_cases c1 : (a0.data.toList.drop n).take 4 = [116, 97, 103, 32]
    · have hp : Lib.hasPrefix ((a0.data.toList.drop n).take 68) [116, 97, 103, 32] = true := (pre_iff _).2 (ht4.trans c1)
      have hd : (⟨(Lib.trimPrefix ((a0.data.toList.drop n).take 68) [116, 97, 103, 32]).toArray⟩ : ByteArray) = a0.extract (n + 4) (n + 68) := by
        unfold Lib.trimPrefix
        rw [hp, if_pos rfl]
        have : (a0.extract (n + 4) (n + 68)).data.toList = (((a0.data.toList.drop n).take 68).drop 4) := by
          rw [Lib.extract_data, List.drop_take, List.drop_drop, show n + 68 - (n + 4) = 68 - 4 from by omega]
        show (⟨(((a0.data.toList.drop n).take 68).drop 4).toArray⟩ : ByteArray) = _
        rw [← this]
      obtain ⟨⟨t, ok⟩, hs', ht⟩ := unhex_both (a0.extract (n + 4) (n + 68)) k hk
      rw [hd, ht, hs', hp]
      simp only [Option.bind_some, c1, true_and]
      by_cases c3 : bt a0 ((n : Int) + 68) = 10
      · cases ok <;> simp [c3]
      · simp [c3]
    · have hp : Lib.hasPrefix ((a0.data.toList.drop n).take 68) [116, 97, 103, 32] = false := by
        apply Bool.eq_false_iff.mpr
        intro h
        exact c1 (ht4.symm.trans ((pre_iff _).1 h))
      obtain ⟨⟨t, ok⟩, hs', ht⟩ := unhex_both (⟨(Lib.trimPrefix ((a0.data.toList.drop n).take 68) [116, 97, 103, 32]).toArray⟩ : ByteArray) k hk
      rw [ht, hp]
      simp [c1]
theorem body_both (a0 : ByteArray) (hs : a0.size ≤ 1048576) (k : Nat) (hk : 40010 < k) : ∃ r, spec_BodyIn.f k a0 = some r ∧ impl_BodyIn.f k a0 = some r ∧ r.1.size ≤ 8000 := by
  by_cases c : a0.size < 69 ∨ 8069 < a0.size
  · have hi : impl_BodyIn.f k a0 = some bodyF := by
      unfold impl_BodyIn.f
      rw [if_pos (by omega), if_pos c]
    have hsp : spec_BodyIn.f k a0 = some bodyF := by
      unfold spec_BodyIn.f
      have e0 : wrap64 ((a0.size : Int) - 69) = (a0.size : Int) - 69 := by unfold wrap64; omega
      rw [e0]
      rcases c with c | c
      · rw [if_pos (by omega)]
      · rw [if_neg (by omega), if_pos (by omega)]
    exact ⟨_, hsp, hi, by decide⟩
  · obtain ⟨n, hn⟩ : ∃ n, a0.size = n + 69 := ⟨a0.size - 69, by omega⟩
    refine ⟨_, spec_body k hk a0 n hn (by omega), impl_body k hk a0 n hn (by omega), ?_⟩
    unfold bodyRes
    split
    · show (⟨#[]⟩ : ByteArray).size ≤ 8000; decide
    · split
      · split
        · show (a0.extract 0 n).size ≤ 8000
          rw [ByteArray.size_extract]; omega
        · show (⟨#[]⟩ : ByteArray).size ≤ 8000; decide
      · show (⟨#[]⟩ : ByteArray).size ≤ 8000; decide
end Go.Proofs.YthnembgbooaplaaDoor.Pure

namespace Go.Proofs.YthnembgbooaplaaDoor.Pure
open Go.RowKit Go.Proofs.YthnembgbooaplaaDoor.P Go.Proofs.YthnembgbooaplaaDoorW.PrintWords
theorem rep_loop (n : ByteArray) (x : List ByteArray) (hx : x.length ≤ 100000000) (hn : n.size ≤ 1000) (hxs : ∀ s ∈ x, s.size ≤ 100000) : ∀ (i : Nat), i ≤ x.length → ∀ k, i < k →
    ∃ r, spec_Reported.l0 k n x ((i : Int) - 1) = some r ∧ impl_Reported.l0 k n x ((i : Int) - 1) = some r := by
  intro i
  induction i with
  | zero =>
    intro hi k hk
    obtain ⟨k, rfl⟩ : ∃ m, k = m + 1 := ⟨k - 1, by omega⟩
    simp only [spec_Reported.l0, impl_Reported.l0]
    rw [if_neg (by omega), if_neg (by omega)]
    exact ⟨_, rfl, rfl⟩
  | succ i ih =>
    intro hi k hk
    obtain ⟨k, rfl⟩ : ∃ m, k = m + 1 := ⟨k - 1, by omega⟩
    have e0 : ((i + 1 : Nat) : Int) - 1 = (i : Int) := by omega
    rw [e0]
    simp only [spec_Reported.l0, impl_Reported.l0]
    by_cases h2 : (i : Int) ≥ 2
    · have hlt : i < x.length := by omega
      have hr : rdOf ByteArray.empty x (i : Int) = x[i] := by unfold rdOf; rw [Int.toNat_natCast, List.getD_eq_getElem?_getD, List.getElem?_eq_getElem hlt]; rfl
      have hsz := hxs x[i] (List.getElem_mem hlt)
      have e1 : wrap64 ((i : Int) - 1) = (i : Int) - 1 := by unfold wrap64; omega
      have e2 : wrap64 ((n.size : Int) + 1) = ((n.size + 1 : Nat) : Int) := by unfold wrap64; omega
      obtain ⟨r, i1, i2⟩ := ih (by omega) k (by omega)
      have p1 : ((0 : Int) ≤ (i : Int)) = True := eq_true (by omega)
      have p2 : ((i : Int) < (x.length : Int)) = True := eq_true (by omega)
      have p3 : (n.size + 1 ≤ 9223372036854775807) = True := eq_true (by omega)
      simp only [eq_true h2, p1, p2, p3, if_true, hr, e1, e2]
      generalize x[i] = s at hsz
      simp only [strings_CutPrefix.f, Option.bind_some, Int.toNat_natCast]
      have hnd : (n ++ (⟨#[32]⟩ : ByteArray)).data.toList = n.data.toList ++ [32] := by simp
      rw [hnd]
      have hlen : (n.data.toList ++ [32]).length = n.size + 1 := by simp
      by_cases c1 : (s.size : Int) > (n.size : Int)
      · rw [if_pos c1, if_pos (by omega), if_pos (by omega)]
        have hx1 : (s.extract 0 (n.size + 1)).toList = s.data.toList.take (n.size + 1) := by rw [toList_is, ex_data, List.drop_zero]
        have hx2 : (n ++ (⟨#[32]⟩ : ByteArray)).toList = n.data.toList ++ [32] := by rw [toList_is, hnd]
        rw [hx1, hx2]
        by_cases c2 : s.data.toList.take (n.size + 1) = n.data.toList ++ [32]
        · have hp : Lib.hasPrefix s.data.toList (n.data.toList ++ [32]) = true := by
            unfold Lib.hasPrefix
            exact List.isPrefixOf_iff_prefix.2 ⟨s.data.toList.drop (n.size + 1), by rw [← c2, List.take_append_drop]⟩
          rw [if_pos c2, hp, if_pos rfl]
          refine ⟨_, rfl, ?_⟩
          unfold Lib.trimPrefix
          rw [hp, if_pos rfl, hlen, ← mk_data (s.extract (n.size + 1) s.size), ex_data, List.take_of_length_le (by simp)]
          rfl
        · have hp : Lib.hasPrefix s.data.toList (n.data.toList ++ [32]) = false := by
            refine Bool.eq_false_iff.mpr fun h => c2 ?_
            unfold Lib.hasPrefix at h
            obtain ⟨t, ht⟩ := List.isPrefixOf_iff_prefix.1 h
            rw [← ht, ← hlen, List.take_left]
          rw [if_neg c2, hp, if_neg (by decide)]
          exact ⟨r, i1, i2⟩
      · have hp : Lib.hasPrefix s.data.toList (n.data.toList ++ [32]) = false := by
          refine Bool.eq_false_iff.mpr fun h => c1 ?_
          unfold Lib.hasPrefix at h
          have := List.IsPrefix.length_le (List.isPrefixOf_iff_prefix.1 h)
          rw [hlen] at this
          simp at this
          omega
        rw [if_neg c1, hp, if_neg (by decide)]
        exact ⟨r, i1, i2⟩
    · rw [if_neg h2, if_neg h2]
      exact ⟨_, rfl, rfl⟩
theorem Reported_both (a b : ByteArray) (ha : a.size ≤ 1048576) (hb : b.size ≤ 1048576) : ∃ r, spec_Reported.f 60000 a b = some r ∧ impl_Reported.f 60000 a b = some r := by
  unfold spec_Reported.f impl_Reported.f
  obtain ⟨⟨body, tag, ok⟩, h1, h2, h3⟩ := body_both a ha 60000 (by omega)
  have h3 : body.size ≤ 8000 := h3
  rw [h1, h2, specName_is b 60000 (by omega), implName_is b (by omega)]
  simp only [Option.bind_some]
  cases ok with
  | false =>
    rw [if_neg (by decide), if_neg (by decide)]
    show ∃ r, spec_Reported.j0 (59999 + 1) b body true = some r ∧ impl_Reported.j0 (59999 + 1) b body true = some r
    simp only [spec_Reported.j0, impl_Reported.j0, if_true]
    exact ⟨_, rfl, rfl⟩
  | true =>
    rw [if_pos rfl, if_pos rfl]
    show ∃ r, spec_Reported.j0 (59999 + 1) b body (!nameOkP b) = some r ∧ impl_Reported.j0 (59999 + 1) b body (!nameOkP b) = some r
    simp only [spec_Reported.j0, impl_Reported.j0]
    cases hn : nameOkP b with
    | false => rw [if_pos (by decide), if_pos (by decide)]; exact ⟨_, rfl, rfl⟩
    | true =>
      have hbs : b.size ≤ 40 := by
        unfold nameOkP at hn
        by_cases h : 40 < b.size
        · rw [if_pos h] at hn; cases hn
        · omega
      have e1 := l02Cut_is 10 body (by omega) 59999 (by omega)
      rw [show (((10 : UInt8).toNat : Nat) : Int) = 10 from rfl] at e1
      rw [if_neg (by decide), if_neg (by decide), e1, split_is 10 body (by omega)]
      simp only [Option.bind_some]
      have hl := cuts_length 10 body
      have hp := cuts_ne 10 body
      have e : wrap64 (((cuts 10 body).length : Int) - 1) = ((cuts 10 body).length : Int) - 1 := by unfold wrap64; omega
      rw [e]
      exact rep_loop b (cuts 10 body) (by omega) (by omega) (fun s hs => by have := cuts_le 10 body s hs; omega) _ (Nat.le_refl _) 59999 (by omega)
theorem FnExactReported : laws_FnExactReported.Pure := by
  intro a0 a1 h0 h1
  refine ⟨60000, ?_⟩
  unfold laws_FnExactReported.f
  by_cases c1 : (a0.size : Int) > 1048576
  · rw [if_pos c1]
  · rw [if_neg c1]
    by_cases c2 : (a1.size : Int) > 1048576
    · rw [if_pos c2]
    · rw [if_neg c2]
      obtain ⟨r, h1, h2⟩ := Reported_both a0 a1 (by omega) (by omega)
      rw [h1, h2]
      simp
end Go.Proofs.YthnembgbooaplaaDoor.Pure

namespace Go.Proofs.YthnembgbooaplaaDoor.fnExactReported
open Go.ChangeShapes Go.WideShapes Go.ChangeAt Go.RowKit
open Go.ChangeMaps (open_string shut_string)
set_option linter.unusedVariables false
theorem laid_met (os : Os) (args : Array Value) : laidMet Tryd.prog Rows.fnExactReportedRow.laid ((laidWorld os).forCall (fun _ _ => 0) ⟨#[], args, []⟩).memory :=
  (LaidIn.of_run [4, 3] 8 (by kernel_rfl) (by kernel_rfl) (by kernel_rfl) (by kernel_rfl)).met
theorem witness_row (os : Os) {H : Type} (enc : TypeId × Value → H) :
    (OpenSpec.ofChange Rows.fnExactReportedSpec).preRow enc Tryd.prog Tryd.f4 Rows.fnExactReportedRow.domain false Rows.fnExactReportedRow.laid ((laidWorld os).forCall (fun _ _ => 0) ⟨#[], #[.string ⟨#[]⟩, .string ⟨#[]⟩], []⟩).memory #[.string ⟨#[]⟩, .string ⟨#[]⟩] := by
  have hw : (DataW.whole enc Tryd.prog ((laidWorld os).forCall (fun _ _ => 0) ⟨#[], #[.string ⟨#[]⟩, .string ⟨#[]⟩], []⟩).memory Tryd.f4.params.toList (OpenSpec.ofChange Rows.fnExactReportedSpec).vars false (#[.string ⟨#[]⟩, .string ⟨#[]⟩] : Array Value).toList 8).map (fun x => (x.1, x.2.1)) =
      some ([.lit (.string []), .lit (.string [])], []) := by kernel_rfl
  obtain ⟨⟨x1, x2, x3⟩, hx, hx1⟩ := Option.map_eq_some_iff.1 hw
  simp only [Prod.mk.injEq] at hx1
  obtain ⟨rfl, rfl⟩ := hx1
  exact OpenSpec.preRow_of_cond 8 hx (by kernel_rfl) (fun k hk => by cases hk) (by kernel_rfl) (laid_met os _)
set_option maxRecDepth 100000 in
theorem lifted (os : Os) (started : os.Started) (H : Type) (enc : TypeId × Value → H) (F : Stop.Interp) :
    ReturnsInHanded {} Tryd.checked os 4 .any ((OpenSpec.ofChange Rows.fnExactReportedSpec).preRow enc Tryd.prog Tryd.f4 Rows.fnExactReportedRow.domain false Rows.fnExactReportedRow.laid) (((OpenSpec.ofChange Rows.fnExactReportedSpec).at F).post enc Tryd.prog Tryd.f4 false true false false) := by
  refine returnsInHanded_of_row (C := Tryd.checked) (s := (OpenSpec.ofChange Rows.fnExactReportedSpec)) own started (by kernel_rfl) Tryd.func4
    (witness_row_atRef (enc := enc) (C := Tryd.checked) false (laidWorld os) #[.string ⟨#[]⟩, .string ⟨#[]⟩] rfl (by kernel_rfl) (by kernel_rfl) (by kernel_rfl) (witness_row os enc)) ?_
  intro W base args ds gs before hval0 hW hcnd0 _ hsz0 hL hsh _
  have hsz : (DataW.weightsEach Tryd.prog (Tryd.f4.params.toList ++ Rows.fnExactReportedSpec.plain.varTypes Tryd.prog) (ds ++ gs)).all (· ≤ reachBytes) = true := hsz0
  have hval : ∀ (j : Nat) t v, Tryd.f4.params[j]? = some t → args[j]? = some v → Value.okWide Tryd.prog W .any base t v := hval0
  have hW' := hW
  obtain ⟨p, q, hA0, hV0, rfl, hfz, hnd⟩ := hW
  have hA : DataW.TrodAll enc Tryd.prog W 0 (fun _ => true) true Tryd.f4.params.toList args.toList ds p := hA0
  rw [Tryd.params4] at hA hval hsz
  obtain ⟨v0, vs0, d0, ds0, p0, q0, hargs, rfl, rfl, h0, r0⟩ := trodAll_cons hA
  obtain ⟨v1, vs1, d1, ds1, p1, q1, rfl, rfl, rfl, h1, r1⟩ := trodAll_cons r0
  obtain ⟨rfl, rfl, rfl⟩ := trodAll_nil r1
  obtain rfl : args = #[v0, v1] := by cases args; simp_all
  obtain ⟨rfl, rfl⟩ := trodVars_none hV0
  obtain ⟨a0, rfl, rfl, rfl, y0⟩ := open_string Tryd.underlying9 (hval 0 9 v0 rfl rfl) h0
  have w0 : a0.size ≤ 140737488351232 := by
    have z := sized_string hsz (j := 0) (t := 9) rfl rfl
    rw [Array.length_toList] at z
    exact z
  obtain ⟨a1, rfl, rfl, rfl, y1⟩ := open_string Tryd.underlying9 (hval 1 9 v1 rfl rfl) h1
  have w1 : a1.size ≤ 140737488351232 := by
    have z := sized_string hsz (j := 1) (t := 9) rfl rfl
    rw [Array.length_toList] at z
    exact z
  clear hA0 hval0 hsz0 hsz hV0
  have hL' : laidMet Tryd.prog [("unicode/utf8.acceptRanges", Rows.laid_unicode_utf8_acceptRanges), ("unicode/utf8.first", Rows.laid_unicode_utf8_first)] W := hL
  have hEM := envM hsh
  refine (P.laws_FnExactReported.walk Pure.FnExactReported a0 a1 W w0 w1 hEM).mono fun e W' ⟨he, bel⟩ => ?_
  subst he
  exact ⟨_, rfl, _, _, _, [], _, [], hW', trodAll_mk1 (shut_bool Tryd.underlying4 _), (trodAll_cons_mk (shut_string Tryd.underlying9 y0) (trodAll_cons_mk (shut_string Tryd.underlying9 y1) trodAll_mk0)), rfl, bel.frame _, fun h => by cases h⟩
theorem over : Rows.fnExactReportedRow.holds Tryd.pinned (OpenSpec.ofChange Rows.fnExactReportedSpec) :=
  OpenClaim.holds_of_cond 4 Tryd.f4 rfl rfl rfl rfl rfl rfl rfl ⟨rfl, rfl, rfl, rfl, rfl⟩ rfl rfl rfl rfl rfl (by kernel_rfl) Tryd.func4 (by kernel_rfl)
    (of_decide_eq_true (by kernel_rfl)) (by unfold Func.isWrapper; first | (rw [if_pos (by decide +kernel)]; kernel_rfl) | (rw [if_neg (by decide +kernel)]; exact ⟨rfl, rfl⟩))
    (fun os started H enc _ F => by rw [OpenClaim.pre_eq_preRow]; exact lifted os started H enc F)
theorem card_holds : Rows.FnExactReportedCardSaid :=
  Claim7.holds_tied_plain_at .later [] [.data, .pinned] true (true, "6ea81c7f6412211a9cde187ddac16eb20a6bc9783d50467b731864b060911ab7") true
    over (fun _ h => by cases h) (by kernel_rfl) (fun _ h => by cases h) fnExactReported_row_tie rfl ⟨rfl, rfl⟩ (by kernel_rfl) rfl
    (fun f fn hf hfn => by
      obtain rfl : f = 4 := Option.some.inj ((show Tryd.prog.funcNamed "loop.example/g00963/laws.FnExactReported" = some 4 by kernel_rfl).symm.trans hf) |>.symm
      obtain rfl : fn = Tryd.f4 := (Option.some.inj (Tryd.func4.symm.trans hfn)).symm
      exact ⟨by kernel_rfl, fun j t ht => by
        rw [Tryd.params4] at ht
        have hm : t = 9 := by
          rcases j with _ | j
          · have := ht.symm; simp at this; omega
          rcases j with _ | j
          · have := ht.symm; simp at this; omega
          · simp at ht
        rcases hm with rfl
        · exact (show Tryd.prog.wantsStandIn 9 = false by kernel_rfl)⟩)
    (by kernel_rfl)
end Go.Proofs.YthnembgbooaplaaDoor.fnExactReported
namespace Go.Proofs.YthnembgbooaplaaDoor
/-- The tied card, under a short name, for the claim. -/
theorem fnExactReported_holds : Rows.FnExactReportedCardSaid := fnExactReported.card_holds
end Go.Proofs.YthnembgbooaplaaDoor
