/- The row of laws.FnExactVerdictLine and its tied card: for every input the law returns true, and the arguments read afterwards as before. Written by wip/tools/card.py. -/
import Derived.Test.YthnembgbooaplaaDoorKFnExactVerdictLine1
import Derived.Test.YthnembgbooaplaaDoorKFnExactVerdictLine2
import Derived.Lib.SplitLaws
import Derived.Lib.CountLaws
import Derived.WalkSpells
import Derived.Lib.AtoiErrMem
import Derived.Lib.AtoiTie
import Derived.Lib.ItoaMem
import Derived.KernelRfl
import Derived.Lib.ItoaLen
import Derived.Deep.Slices
import Derived.ChangeArms
import Derived.SizedLaws
import Derived.DataReads
import Derived.Lib.SmallJoins
import Derived.Test.YthnembgbooaplaaDoorCards
import Derived.Test.YthnembgbooaplaaDoorTie
import Derived.SevenTiedAt
namespace Go.Proofs.YthnembgbooaplaaDoor.P
open Go.RowKit Go.Proofs.YthnembgbooaplaaDoorW.PrintWords Go.Proofs.YthnembgbooaplaaDoorW.PrintLast Go.Proofs.YthnembgbooaplaaDoorW.PrintMore
attribute [local go_sem] max2_int min2_int max_two min_two max_three min_three max_four min_four
set_option linter.unusedVariables false
set_option linter.unusedSimpArgs false

/-! ### laws_FnExactVerdictLine: function 6 -/
def laws_FnExactVerdictLine.f (k : Nat) (a0_0 : ByteArray) (a0_1 : Int) (l0_2 : List (S80)) (a0_3 : Int) : Option (Bool) := (laws_szVerdict.f k a0_0 a0_1 l0_2 a0_3 1048576).bind fun t102 => (if t102 < 0 then (some true) else ((laws_toVerdict.f k a0_0 a0_1 l0_2 a0_3).bind fun bt103 => ((spec_VerdictLine.f k bt103.1 bt103.2.1 bt103.2.2.1 bt103.2.2.2).bind fun t109 => ((laws_toVerdict.f k a0_0 a0_1 l0_2 a0_3).bind fun bt110 => ((impl_VerdictLine.f k bt110.1 bt110.2.1 bt110.2.2.1 bt110.2.2.2).bind fun t117 => (if t117.toList = t109.toList then ((laws_toVerdict.f k a0_0 a0_1 l0_2 a0_3).bind fun bt118 => ((laws_eqVerdict.f k bt110.1 bt110.2.1 bt110.2.2.1 bt110.2.2.2 bt118.1 bt118.2.1 bt118.2.2.1 bt118.2.2.2).bind fun t124 => (if t124 = true then (some true) else (some false)))) else (some false)))))))
theorem laws_FnExactVerdictLine.mono : ∀ a0 a1 a2 a3 k, LeO (laws_FnExactVerdictLine.f k a0 a1 a2 a3) (laws_FnExactVerdictLine.f (k + 1) a0 a1 a2 a3) := by
  intro a0 a1 a2 a3 k
  unfold laws_FnExactVerdictLine.f
  repeat' first
      | (with_reducible exact impl_VerdictLine.mono _ _ _ _ _)
      | (with_reducible exact laws_eqVerdict.mono _ _ _ _ _ _ _ _ _)
      | (with_reducible exact laws_szVerdict.mono _ _ _ _ _ _)
      | (with_reducible exact laws_toVerdict.mono _ _ _ _ _)
      | (with_reducible exact spec_VerdictLine.mono _ _ _ _ _)
      | (with_reducible exact LeO.refl _)
      | (with_reducible exact LeO.none _)
      | (with_reducible refine LeO.ite ?_ ?_)
      | (with_reducible refine LeO.bind ?_ (fun _ => ?_))
      | exact impl_VerdictLine.mono _ _ _ _ _
      | exact laws_eqVerdict.mono _ _ _ _ _ _ _ _ _
      | exact laws_szVerdict.mono _ _ _ _ _ _
      | exact laws_toVerdict.mono _ _ _ _ _
      | exact spec_VerdictLine.mono _ _ _ _ _
      | exact LeO.none _
      | refine LeO.ite ?_ ?_
      | refine LeO.bind ?_ (fun _ => ?_)
set_option maxHeartbeats 8000000 in
set_option maxRecDepth 100000 in
theorem laws_FnExactVerdictLine.calls (k : Nat) (a0_0 : ByteArray) (a0_1 : Int) (A0_2 : Option Addr) (c0_2 : Nat) (l0_2 : List (S80)) (a0_3 : Int) (r : Bool) (w : World) (hr0_2 : Kd.C k80 w A0_2 l0_2.length l0_2) (hc0_2 : l0_2.length ≤ c0_2) (hEI : EnvI w) (hEM : EnvM w) (h : laws_FnExactVerdictLine.f k a0_0 a0_1 l0_2 a0_3 = some r) :
    Calls Tryd.prog 6 #[.agg #[.string a0_0, .int .i64 a0_1, .slice A0_2 l0_2.length c0_2, .int .i64 a0_3]] w fun e w' => e = .returned (.bool r) ∧ Below w.heap.size w w' := by
  have hu31 := Tryd.underlying31
  have hu36 := Tryd.underlying36
  have HR0_2 := Aside0.mk hr0_2
  have HC0_2 := Aside0.mk hc0_2
  clear hr0_2 hc0_2
  have HB := Aside0.mk (Below.refl w.heap.size w)
  have H : ((laws_szVerdict.f k a0_0 a0_1 l0_2 a0_3 1048576).bind fun t102 => (if t102 < 0 then (some true) else ((laws_toVerdict.f k a0_0 a0_1 l0_2 a0_3).bind fun bt103 => ((spec_VerdictLine.f k bt103.1 bt103.2.1 bt103.2.2.1 bt103.2.2.2).bind fun t109 => ((laws_toVerdict.f k a0_0 a0_1 l0_2 a0_3).bind fun bt110 => ((impl_VerdictLine.f k bt110.1 bt110.2.1 bt110.2.2.1 bt110.2.2.2).bind fun t117 => (if t117.toList = t109.toList then ((laws_toVerdict.f k a0_0 a0_1 l0_2 a0_3).bind fun bt118 => ((laws_eqVerdict.f k bt110.1 bt110.2.1 bt110.2.2.1 bt110.2.2.2 bt118.1 bt118.2.1 bt118.2.2.1 bt118.2.2.2).bind fun t124 => (if t124 = true then (some true) else (some false)))) else (some false)))))))) = some r := h
  clear h
  replace H := Option.bind_eq_some_iff.mp H
  obtain ⟨t102, A20, H⟩ := H
  replace H : (if t102 < 0 then (some true) else ((laws_toVerdict.f k a0_0 a0_1 l0_2 a0_3).bind fun bt103 => ((spec_VerdictLine.f k bt103.1 bt103.2.1 bt103.2.2.1 bt103.2.2.2).bind fun t109 => ((laws_toVerdict.f k a0_0 a0_1 l0_2 a0_3).bind fun bt110 => ((impl_VerdictLine.f k bt110.1 bt110.2.1 bt110.2.2.1 bt110.2.2.2).bind fun t117 => (if t117.toList = t109.toList then ((laws_toVerdict.f k a0_0 a0_1 l0_2 a0_3).bind fun bt118 => ((laws_eqVerdict.f k bt110.1 bt110.2.1 bt110.2.2.1 bt110.2.2.2 bt118.1 bt118.2.1 bt118.2.2.1 bt118.2.2.2).bind fun t124 => (if t124 = true then (some true) else (some false)))) else (some false))))))) = some r := H
  have A2 := Aside0.mk A20
  clear A20
  by_cases c3 : t102 < 0
  · rw [if_pos c3] at H
    have c3b0 : decide (t102 < 0) = true := decide_eq_true c3
    clear c3
    obtain rfl := Option.some.inj H
    go_enter Tryd.func6, Tryd.ntmps6
    go_wp2_with (first | ((with_reducible refine gate_dst (N := 1) rfl ?_); refine box_event ?hg (N := 1) ?hd (cs := #[.string a0_0, .int .i64 a0_1, .slice A0_2 l0_2.length c0_2, .int .i64 a0_3]) (t := 31) ?hr ?_; (case hd => rfl); (case hg => rfl); (case hr => first | (go_simp; done) | (go_simp; rfl)); intro gb101 hg w4 hbox hb; have n0_ := Aside0.mk (below_step (by repeat (first | (with_reducible first | exact HB.out | apply below_alloc | apply pw_below_drewN | apply below_drew1) | exact HB.out)) hb); have n1_ := Aside0.mk (hbox); have n2_ := Aside0.mk ((by rw [hg]; exact (below_size (by repeat (first | (with_reducible first | exact HB.out | apply below_alloc | apply pw_below_drewN | apply below_drew1) | exact HB.out))) : w.heap.size ≤ gb101)); have n3_ := Aside0.mk ((by rw [hg]; exact (below_size (by repeat (first | (with_reducible first | exact HB.out | apply below_alloc | apply pw_below_drewN | apply below_drew1) | exact HB.out))) : w.heap.size ≤ gb101)); clear HB; have HB := n0_; have BK101 := n1_; have GW101 := n2_; have GE101 := n3_; clear n0_ n1_ n2_ n3_; clear hb hbox hg; have hcz5_0 : w4.cell? ⟨gb101, 0, none⟩ = some (.string a0_0) := (blk_cell BK101.out 0).trans rfl; have hcz5_1 : w4.cell? ⟨gb101, 1, none⟩ = some (.int .i64 a0_1) := (blk_cell BK101.out 1).trans rfl; have hcz5_2 : w4.cell? ⟨gb101, 2, none⟩ = some (.slice A0_2 l0_2.length c0_2) := (blk_cell BK101.out 2).trans rfl; have hcz5_3 : w4.cell? ⟨gb101, 3, none⟩ = some (.int .i64 a0_3) := (blk_cell BK101.out 3).trans rfl; have hfz5_0 := blk_frozen BK101.out 0; have hfz5_1 := blk_frozen BK101.out 1; have hfz5_2 := blk_frozen BK101.out 2; have hfz5_3 := blk_frozen BK101.out 3) | ((with_reducible refine gate_callee (f := 14) rfl ?_); refine goesL_ (some 9) rfl rfl Tryd.func14 (by kernel_rfl) rfl #[.agg #[.string a0_0, .int .i64 a0_1, .slice A0_2 l0_2.length c0_2, .int .i64 a0_3], .int .i64 1048576] rfl (by (try simp only [List.map_toArray, List.map_cons, List.map_nil]); first | done | rfl | (simp only [List.length_drop, List.length_take]; rfl)) ?_; (with_reducible refine (laws_szVerdict.calls k a0_0 a0_1 _ _ l0_2 a0_3 1048576 t102 _ ?side1 ?side2 A2.out).mono ?_); (case side1 => repeat (first | exact (Kd.C_below HR0_2.out HB.out) | (with_reducible refine Kd.C_alloc ?_ _) | (with_reducible refine Kd.C_drewN ?_ _) | (with_reducible refine Kd.C_drew ?_))); (case side2 => exact HC0_2.out); rintro e w6 ⟨rfl, hb⟩; refine ⟨_, rfl, ?_⟩; have n0_ := Aside0.mk (blk_below (g := gb101) (o := .cells #[.string a0_0, .int .i64 a0_1, .slice A0_2 l0_2.length c0_2, .int .i64 a0_3] 31 (0, 0)) (by (with_reducible repeat (first | refine blk_drewN ?_ _ | refine blk_drew ?_ | refine blk_alloc ?_ _)); exact BK101.out) hb); have n1_ := Aside0.mk (below_step (by repeat (first | (with_reducible first | exact HB.out | apply below_alloc | apply pw_below_drewN | apply below_drew1 | refine below_set ?_ GE101.out) | exact HB.out)) hb); clear BK101; clear HB; have BK101 := n0_; have HB := n1_; clear n0_ n1_; (try clear hb); (try clear hb2); (try clear hk); (try clear hi)))
    go_ret
    exact ⟨by first | rfl | (simp [errW_none, errW_some] <;> rfl) | (simp [*, errW_none, errW_some] <;> rfl), by repeat (first | (with_reducible first | exact HB.out | apply below_alloc | apply pw_below_drewN | apply below_drew1 | refine below_set ?_ GE101.out) | exact HB.out)⟩
  · rw [if_neg c3] at H
    have c3b0 : decide (t102 < 0) = false := decide_eq_false c3
    clear c3
    replace H := Option.bind_eq_some_iff.mp H
    obtain ⟨⟨t103, t104, t105, t108⟩, A70, H⟩ := H
    replace H : ((spec_VerdictLine.f k t103 t104 t105 t108).bind fun t109 => ((laws_toVerdict.f k a0_0 a0_1 l0_2 a0_3).bind fun bt110 => ((impl_VerdictLine.f k bt110.1 bt110.2.1 bt110.2.2.1 bt110.2.2.2).bind fun t117 => (if t117.toList = t109.toList then ((laws_toVerdict.f k a0_0 a0_1 l0_2 a0_3).bind fun bt118 => ((laws_eqVerdict.f k bt110.1 bt110.2.1 bt110.2.2.1 bt110.2.2.2 bt118.1 bt118.2.1 bt118.2.2.1 bt118.2.2.2).bind fun t124 => (if t124 = true then (some true) else (some false)))) else (some false))))) = some r := H
    have A7 := Aside0.mk A70
    clear A70
    replace H := Option.bind_eq_some_iff.mp H
    obtain ⟨t109, A80, H⟩ := H
    replace H : ((laws_toVerdict.f k a0_0 a0_1 l0_2 a0_3).bind fun bt110 => ((impl_VerdictLine.f k bt110.1 bt110.2.1 bt110.2.2.1 bt110.2.2.2).bind fun t117 => (if t117.toList = t109.toList then ((laws_toVerdict.f k a0_0 a0_1 l0_2 a0_3).bind fun bt118 => ((laws_eqVerdict.f k bt110.1 bt110.2.1 bt110.2.2.1 bt110.2.2.2 bt118.1 bt118.2.1 bt118.2.2.1 bt118.2.2.2).bind fun t124 => (if t124 = true then (some true) else (some false)))) else (some false)))) = some r := H
    have A8 := Aside0.mk A80
    clear A80
    replace H := Option.bind_eq_some_iff.mp H
    obtain ⟨⟨t110, t111, t112, t115⟩, A90, H⟩ := H
    replace H : ((impl_VerdictLine.f k t110 t111 t112 t115).bind fun t117 => (if t117.toList = t109.toList then ((laws_toVerdict.f k a0_0 a0_1 l0_2 a0_3).bind fun bt118 => ((laws_eqVerdict.f k t110 t111 t112 t115 bt118.1 bt118.2.1 bt118.2.2.1 bt118.2.2.2).bind fun t124 => (if t124 = true then (some true) else (some false)))) else (some false))) = some r := H
    have A9 := Aside0.mk A90
    clear A90
    replace H := Option.bind_eq_some_iff.mp H
    obtain ⟨t117, A100, H⟩ := H
    replace H : (if t117.toList = t109.toList then ((laws_toVerdict.f k a0_0 a0_1 l0_2 a0_3).bind fun bt118 => ((laws_eqVerdict.f k t110 t111 t112 t115 bt118.1 bt118.2.1 bt118.2.2.1 bt118.2.2.2).bind fun t124 => (if t124 = true then (some true) else (some false)))) else (some false)) = some r := H
    have A10 := Aside0.mk A100
    clear A100
    by_cases c11 : t117.toList = t109.toList
    · rw [if_pos c11] at H
      have c11b0 : (t117.toList == t109.toList) = true := beq_iff_eq.mpr c11
      have c11b1 : (t117.toList != t109.toList) = false := bne_eq_false_iff_eq.mpr c11
      clear c11
      replace H := Option.bind_eq_some_iff.mp H
      obtain ⟨⟨t118, t119, t120, t123⟩, A120, H⟩ := H
      replace H : ((laws_eqVerdict.f k t110 t111 t112 t115 t118 t119 t120 t123).bind fun t124 => (if t124 = true then (some true) else (some false))) = some r := H
      have A12 := Aside0.mk A120
      clear A120
      replace H := Option.bind_eq_some_iff.mp H
      obtain ⟨t124, A130, H⟩ := H
      replace H : (if t124 = true then (some true) else (some false)) = some r := H
      have A13 := Aside0.mk A130
      clear A130
      by_cases c14 : t124 = true
      · subst c14
        have H1 : (some true) = some r := by rw [if_pos rfl] at H; exact H
        clear H
        have H := H1
        clear H1
        obtain rfl := Option.some.inj H
        go_enter Tryd.func6, Tryd.ntmps6
        try go_wp2_with (first | ((with_reducible refine gate_dst (N := 1) rfl ?_); refine box_event ?hg (N := 1) ?hd (cs := #[.string a0_0, .int .i64 a0_1, .slice A0_2 l0_2.length c0_2, .int .i64 a0_3]) (t := 31) ?hr ?_; (case hd => rfl); (case hg => rfl); (case hr => first | (go_simp; done) | (go_simp; rfl)); intro gb101 hg w15 hbox hb; have n0_ := Aside0.mk (below_step (by repeat (first | (with_reducible first | exact HB.out | apply below_alloc | apply pw_below_drewN | apply below_drew1) | exact HB.out)) hb); have n1_ := Aside0.mk (hbox); have n2_ := Aside0.mk ((by rw [hg]; exact (below_size (by repeat (first | (with_reducible first | exact HB.out | apply below_alloc | apply pw_below_drewN | apply below_drew1) | exact HB.out))) : w.heap.size ≤ gb101)); have n3_ := Aside0.mk ((by rw [hg]; exact (below_size (by repeat (first | (with_reducible first | exact HB.out | apply below_alloc | apply pw_below_drewN | apply below_drew1) | exact HB.out))) : w.heap.size ≤ gb101)); clear HB; have HB := n0_; have BK101 := n1_; have GW101 := n2_; have GE101 := n3_; clear n0_ n1_ n2_ n3_; clear hb hbox hg; have hcz16_0 : w15.cell? ⟨gb101, 0, none⟩ = some (.string a0_0) := (blk_cell BK101.out 0).trans rfl; have hcz16_1 : w15.cell? ⟨gb101, 1, none⟩ = some (.int .i64 a0_1) := (blk_cell BK101.out 1).trans rfl; have hcz16_2 : w15.cell? ⟨gb101, 2, none⟩ = some (.slice A0_2 l0_2.length c0_2) := (blk_cell BK101.out 2).trans rfl; have hcz16_3 : w15.cell? ⟨gb101, 3, none⟩ = some (.int .i64 a0_3) := (blk_cell BK101.out 3).trans rfl; have hfz16_0 := blk_frozen BK101.out 0; have hfz16_1 := blk_frozen BK101.out 1; have hfz16_2 := blk_frozen BK101.out 2; have hfz16_3 := blk_frozen BK101.out 3) | ((with_reducible refine gate_callee (f := 14) rfl ?_); refine goesL_ (some 9) rfl rfl Tryd.func14 (by kernel_rfl) rfl #[.agg #[.string a0_0, .int .i64 a0_1, .slice A0_2 l0_2.length c0_2, .int .i64 a0_3], .int .i64 1048576] rfl (by (try simp only [List.map_toArray, List.map_cons, List.map_nil]); first | done | rfl | (simp only [List.length_drop, List.length_take]; rfl)) ?_; (with_reducible refine (laws_szVerdict.calls k a0_0 a0_1 _ _ l0_2 a0_3 1048576 t102 _ ?side1 ?side2 A2.out).mono ?_); (case side1 => repeat (first | exact (Kd.C_below HR0_2.out HB.out) | (with_reducible refine Kd.C_alloc ?_ _) | (with_reducible refine Kd.C_drewN ?_ _) | (with_reducible refine Kd.C_drew ?_))); (case side2 => exact HC0_2.out); rintro e w17 ⟨rfl, hb⟩; refine ⟨_, rfl, ?_⟩; have n0_ := Aside0.mk (blk_below (g := gb101) (o := .cells #[.string a0_0, .int .i64 a0_1, .slice A0_2 l0_2.length c0_2, .int .i64 a0_3] 31 (0, 0)) (by (with_reducible repeat (first | refine blk_drewN ?_ _ | refine blk_drew ?_ | refine blk_alloc ?_ _)); exact BK101.out) hb); have n1_ := Aside0.mk (below_step (by repeat (first | (with_reducible first | exact HB.out | apply below_alloc | apply pw_below_drewN | apply below_drew1 | refine below_set ?_ GE101.out) | exact HB.out)) hb); clear BK101; clear HB; have BK101 := n0_; have HB := n1_; clear n0_ n1_; (try clear hb); (try clear hb2); (try clear hk); (try clear hi); have hcz18_0 : w17.cell? ⟨gb101, 0, none⟩ = some (.string a0_0) := (blk_cell BK101.out 0).trans rfl; have hcz18_1 : w17.cell? ⟨gb101, 1, none⟩ = some (.int .i64 a0_1) := (blk_cell BK101.out 1).trans rfl; have hcz18_2 : w17.cell? ⟨gb101, 2, none⟩ = some (.slice A0_2 l0_2.length c0_2) := (blk_cell BK101.out 2).trans rfl; have hcz18_3 : w17.cell? ⟨gb101, 3, none⟩ = some (.int .i64 a0_3) := (blk_cell BK101.out 3).trans rfl; have hfz18_0 := blk_frozen BK101.out 0; have hfz18_1 := blk_frozen BK101.out 1; have hfz18_2 := blk_frozen BK101.out 2; have hfz18_3 := blk_frozen BK101.out 3) | ((with_reducible refine gate_callee (f := 16) rfl ?_); refine goesL_ (some 13) rfl rfl Tryd.func16 (by kernel_rfl) rfl #[.agg #[.string a0_0, .int .i64 a0_1, .slice A0_2 l0_2.length c0_2, .int .i64 a0_3]] rfl (by (try simp only [List.map_toArray, List.map_cons, List.map_nil]); first | done | rfl | (simp only [List.length_drop, List.length_take]; rfl)) ?_; (with_reducible refine (laws_toVerdict.calls k a0_0 a0_1 _ _ l0_2 a0_3 t103 t104 t105 t108 _ ?side1 ?side2 A7.out).mono ?_); (case side1 => repeat (first | exact (Kd.C_below HR0_2.out HB.out) | (with_reducible refine Kd.C_alloc ?_ _) | (with_reducible refine Kd.C_drewN ?_ _) | (with_reducible refine Kd.C_drew ?_))); (case side2 => exact HC0_2.out); rintro e w19 ⟨v106, rfl, ho0, hb⟩; refine ⟨_, rfl, ?_⟩; have n0_ := Aside0.mk (Kd.R_lower ho0 (below_size (by repeat (first | (with_reducible first | exact HB.out | apply below_alloc | apply pw_below_drewN | apply below_drew1 | refine below_set ?_ GE101.out) | exact HB.out)))); have n1_ := Aside0.mk (blk_below (g := gb101) (o := .cells #[.string a0_0, .int .i64 a0_1, .slice A0_2 l0_2.length c0_2, .int .i64 a0_3] 31 (0, 0)) (by (with_reducible repeat (first | refine blk_drewN ?_ _ | refine blk_drew ?_ | refine blk_alloc ?_ _)); exact BK101.out) hb); have n2_ := Aside0.mk (below_step (by repeat (first | (with_reducible first | exact HB.out | apply below_alloc | apply pw_below_drewN | apply below_drew1 | refine below_set ?_ GE101.out) | exact HB.out)) hb); clear BK101; clear HB; have HO107 := n0_; have BK101 := n1_; have HB := n2_; clear n0_ n1_ n2_; (try clear hb); (try clear hb2); (try clear hk); (try clear hi); (try clear ho0); obtain ⟨Ao20, co20, eo20⟩ := Kd.R_slice HO107.out; subst eo20) | ((with_reducible refine gate_callee (f := 15) rfl ?_); refine goesL_ (some 14) rfl rfl Tryd.func15 (by kernel_rfl) rfl #[.agg #[.string t103, .int .i64 t104, .slice Ao20 t105.length co20, .int .i64 t108]] rfl (by (try simp only [List.map_toArray, List.map_cons, List.map_nil]); first | done | rfl | (simp only [List.length_drop, List.length_take]; rfl)) ?_; (with_reducible refine (spec_VerdictLine.calls k t103 t104 _ _ t105 t108 t109 _ ?side1 ?side2 A8.out).mono ?_); (case side1 => repeat (first | exact (Kd.R_reads' HO107.out).2.2 | (with_reducible refine Kd.C_alloc ?_ _) | (with_reducible refine Kd.C_drewN ?_ _) | (with_reducible refine Kd.C_drew ?_))); (case side2 => exact (Kd.R_reads' HO107.out).2.1); rintro e w21 ⟨rfl, hb⟩; refine ⟨_, rfl, ?_⟩; have n0_ := Aside0.mk (Kd.R_below (by (with_reducible repeat (first | apply Kd.R_alloc | apply Kd.R_drewN | apply Kd.R_drew)); exact HO107.out) hb); have n1_ := Aside0.mk (blk_below (g := gb101) (o := .cells #[.string a0_0, .int .i64 a0_1, .slice A0_2 l0_2.length c0_2, .int .i64 a0_3] 31 (0, 0)) (by (with_reducible repeat (first | refine blk_drewN ?_ _ | refine blk_drew ?_ | refine blk_alloc ?_ _)); exact BK101.out) hb); have n2_ := Aside0.mk (below_step (by repeat (first | (with_reducible first | exact HB.out | apply below_alloc | apply pw_below_drewN | apply below_drew1 | refine below_set ?_ GE101.out) | exact HB.out)) hb); clear HO107; clear BK101; clear HB; have HO107 := n0_; have BK101 := n1_; have HB := n2_; clear n0_ n1_ n2_; (try clear hb); (try clear hb2); (try clear hk); (try clear hi); have hcz22_0 : w21.cell? ⟨gb101, 0, none⟩ = some (.string a0_0) := (blk_cell BK101.out 0).trans rfl; have hcz22_1 : w21.cell? ⟨gb101, 1, none⟩ = some (.int .i64 a0_1) := (blk_cell BK101.out 1).trans rfl; have hcz22_2 : w21.cell? ⟨gb101, 2, none⟩ = some (.slice A0_2 l0_2.length c0_2) := (blk_cell BK101.out 2).trans rfl; have hcz22_3 : w21.cell? ⟨gb101, 3, none⟩ = some (.int .i64 a0_3) := (blk_cell BK101.out 3).trans rfl; have hfz22_0 := blk_frozen BK101.out 0; have hfz22_1 := blk_frozen BK101.out 1; have hfz22_2 := blk_frozen BK101.out 2; have hfz22_3 := blk_frozen BK101.out 3) | ((with_reducible refine gate_callee (f := 16) rfl ?_); refine goesL_ (some 16) rfl rfl Tryd.func16 (by kernel_rfl) rfl #[.agg #[.string a0_0, .int .i64 a0_1, .slice A0_2 l0_2.length c0_2, .int .i64 a0_3]] rfl (by (try simp only [List.map_toArray, List.map_cons, List.map_nil]); first | done | rfl | (simp only [List.length_drop, List.length_take]; rfl)) ?_; (with_reducible refine (laws_toVerdict.calls k a0_0 a0_1 _ _ l0_2 a0_3 t110 t111 t112 t115 _ ?side1 ?side2 A9.out).mono ?_); (case side1 => repeat (first | exact (Kd.C_below HR0_2.out HB.out) | (with_reducible refine Kd.C_alloc ?_ _) | (with_reducible refine Kd.C_drewN ?_ _) | (with_reducible refine Kd.C_drew ?_))); (case side2 => exact HC0_2.out); rintro e w23 ⟨v113, rfl, ho0, hb⟩; refine ⟨_, rfl, ?_⟩; have n0_ := Aside0.mk (Kd.R_elder' (by (with_reducible repeat (first | apply Kd.R_alloc | apply Kd.R_drewN | apply Kd.R_drew)); exact HO107.out) (Kd.R_base ho0) hb); have n1_ := Aside0.mk (Kd.R_lower (Kd.R_new' ho0 (Kd.R_lt (by (with_reducible repeat (first | apply Kd.R_alloc | apply Kd.R_drewN | apply Kd.R_drew)); exact HO107.out))) (below_size (by repeat (first | (with_reducible first | exact HB.out | apply below_alloc | apply pw_below_drewN | apply below_drew1 | refine below_set ?_ GE101.out) | exact HB.out)))); have n2_ := Aside0.mk (blk_below (g := gb101) (o := .cells #[.string a0_0, .int .i64 a0_1, .slice A0_2 l0_2.length c0_2, .int .i64 a0_3] 31 (0, 0)) (by (with_reducible repeat (first | refine blk_drewN ?_ _ | refine blk_drew ?_ | refine blk_alloc ?_ _)); exact BK101.out) hb); have n3_ := Aside0.mk (below_step (by repeat (first | (with_reducible first | exact HB.out | apply below_alloc | apply pw_below_drewN | apply below_drew1 | refine below_set ?_ GE101.out) | exact HB.out)) hb); clear HO107; clear BK101; clear HB; have HO107 := n0_; have HO114 := n1_; have BK101 := n2_; have HB := n3_; clear n0_ n1_ n2_ n3_; (try clear hb); (try clear hb2); (try clear hk); (try clear hi); (try clear ho0)) | ((with_reducible refine gate_dst (N := 5) rfl ?_); refine box_event ?hg (N := 5) ?hd (cs := #[.string (⟨#[]⟩ : ByteArray), .int .i64 0, .slice none 0 0, .int .i64 0]) (t := 36) ?hr ?_; (case hd => rfl); (case hg => rfl); (case hr => first | (go_simp; done) | (go_simp; rfl)); intro gb116 hg w24 hbox hb; have n0_ := Aside0.mk (Kd.R_below (by (with_reducible repeat (first | apply Kd.R_alloc | apply Kd.R_drewN | apply Kd.R_drew)); exact HO107.out) hb); have n1_ := Aside0.mk (Kd.R_below (by (with_reducible repeat (first | apply Kd.R_alloc | apply Kd.R_drewN | apply Kd.R_drew)); exact HO114.out) hb); have n2_ := Aside0.mk (blk_below (g := gb101) (o := .cells #[.string a0_0, .int .i64 a0_1, .slice A0_2 l0_2.length c0_2, .int .i64 a0_3] 31 (0, 0)) (by (with_reducible repeat (first | refine blk_drewN ?_ _ | refine blk_drew ?_ | refine blk_alloc ?_ _)); exact BK101.out) hb); have n3_ := Aside0.mk (below_step (by repeat (first | (with_reducible first | exact HB.out | apply below_alloc | apply pw_below_drewN | apply below_drew1 | refine below_set ?_ GE101.out) | exact HB.out)) hb); have n4_ := Aside0.mk (hbox); have n5_ := Aside0.mk ((by rw [hg]; exact (below_size (by repeat (first | (with_reducible first | exact HB.out | apply below_alloc | apply pw_below_drewN | apply below_drew1 | refine below_set ?_ GE101.out) | exact HB.out))) : w.heap.size ≤ gb116)); have n6_ := Aside0.mk ((by rw [hg]; exact (below_size (by repeat (first | (with_reducible first | exact HB.out | apply below_alloc | apply pw_below_drewN | apply below_drew1 | refine below_set ?_ GE101.out) | exact HB.out))) : w.heap.size ≤ gb116)); have n7_ := Aside0.mk ((by rw [hg]; exact Nat.ne_of_lt (blk_lt (g := gb101) (o := .cells #[.string a0_0, .int .i64 a0_1, .slice A0_2 l0_2.length c0_2, .int .i64 a0_3] 31 (0, 0)) (by (with_reducible repeat (first | refine blk_drewN ?_ _ | refine blk_drew ?_ | refine blk_alloc ?_ _)); exact BK101.out)) : gb101 ≠ gb116)); have n8_ := Aside0.mk ((by rw [hg]; exact Nat.ne_of_gt (blk_lt (g := gb101) (o := .cells #[.string a0_0, .int .i64 a0_1, .slice A0_2 l0_2.length c0_2, .int .i64 a0_3] 31 (0, 0)) (by (with_reducible repeat (first | refine blk_drewN ?_ _ | refine blk_drew ?_ | refine blk_alloc ?_ _)); exact BK101.out)) : gb116 ≠ gb101)); clear HO107; clear HO114; clear BK101; clear HB; have HO107 := n0_; have HO114 := n1_; have BK101 := n2_; have HB := n3_; have BK116 := n4_; have GW116 := n5_; have GE116 := n6_; have NB101_116 := n7_; have NB116_101 := n8_; clear n0_ n1_ n2_ n3_ n4_ n5_ n6_ n7_ n8_; clear hb hbox hg; have hnb25 := NB116_101.out; have hnc25 := NB101_116.out; have hcz26_0 : w24.cell? ⟨gb116, 0, none⟩ = some (.string (⟨#[]⟩ : ByteArray)) := (blk_cell BK116.out 0).trans rfl; have hcz26_1 : w24.cell? ⟨gb116, 1, none⟩ = some (.int .i64 0) := (blk_cell BK116.out 1).trans rfl; have hcz26_2 : w24.cell? ⟨gb116, 2, none⟩ = some (.slice none 0 0) := (blk_cell BK116.out 2).trans rfl; have hcz26_3 : w24.cell? ⟨gb116, 3, none⟩ = some (.int .i64 0) := (blk_cell BK116.out 3).trans rfl; have hfz26_0 := blk_frozen BK116.out 0; have hfz26_1 := blk_frozen BK116.out 1; have hfz26_2 := blk_frozen BK116.out 2; have hfz26_3 := blk_frozen BK116.out 3; obtain ⟨Ao27, co27, eo27⟩ := Kd.R_slice HO114.out; subst eo27) | ((with_reducible refine gate_callee (f := 17) rfl ?_); refine goesL_ (some 18) rfl rfl Tryd.func17 (by kernel_rfl) rfl #[.agg #[.string t110, .int .i64 t111, .slice Ao27 t112.length co27, .int .i64 t115]] rfl (by (try simp only [List.map_toArray, List.map_cons, List.map_nil]); first | done | rfl | (simp only [List.length_drop, List.length_take]; rfl)) ?_; (with_reducible refine (impl_VerdictLine.calls k t110 t111 _ _ t112 t115 t117 _ ?side3 ?side4 ?side1 ?side2 A10.out).mono ?_); (case side1 => first | exact hEI | exact EnvI.below hEI (by repeat (first | (with_reducible first | exact HB.out | apply below_alloc | apply pw_below_drewN | apply below_drew1 | refine below_set ?_ GE101.out | refine below_set ?_ GE116.out) | exact HB.out))); (case side2 => first | exact hEM | exact EnvM.below hEM (by repeat (first | (with_reducible first | exact HB.out | apply below_alloc | apply pw_below_drewN | apply below_drew1 | refine below_set ?_ GE101.out | refine below_set ?_ GE116.out) | exact HB.out))); (case side3 => refine (Kd.R_reads' (e := 83) (base := w.heap.size) (ok := fun k_ => (True ∧ some k_ ≠ (.slice Ao20 t105.length co20 : Value).ownBlock)) (n := t112.length) (c := co27) ?_).2.2; exact (by (with_reducible repeat (first | apply Kd.R_alloc | apply Kd.R_drewN | apply Kd.R_drew)); exact (Kd.R_mono (Kd.R_far (p := ⟨gb116, 3, none⟩) (Kd.R_far (p := ⟨gb116, 2, none⟩) (Kd.R_far (p := ⟨gb116, 1, none⟩) (Kd.R_far (p := ⟨gb116, 0, none⟩) (Kd.R_types HO114.out BK116.out (by decide)) (fun _ hk => hk.2) (.string t110)) (fun _ hk => hk.2) (.int .i64 t111)) (fun _ hk => hk.2) (.slice Ao27 t112.length co27)) (fun _ hk => hk.2) (.int .i64 t115)) (fun _ h_ => h_.1)))); (case side4 => exact (Kd.R_reads' HO114.out).2.1); rintro e w28 ⟨rfl, hb⟩; refine ⟨_, rfl, ?_⟩; have n0_ := Aside0.mk (Kd.R_below (by (with_reducible repeat (first | apply Kd.R_alloc | apply Kd.R_drewN | apply Kd.R_drew)); exact (Kd.R_mono (Kd.R_far (p := ⟨gb116, 3, none⟩) (Kd.R_far (p := ⟨gb116, 2, none⟩) (Kd.R_far (p := ⟨gb116, 1, none⟩) (Kd.R_far (p := ⟨gb116, 0, none⟩) (Kd.R_types HO107.out BK116.out (by decide)) (fun _ hk => hk.2) (.string t110)) (fun _ hk => hk.2) (.int .i64 t111)) (fun _ hk => hk.2) (.slice Ao27 t112.length co27)) (fun _ hk => hk.2) (.int .i64 t115)) (fun _ h_ => h_.1))) hb); have n1_ := Aside0.mk (Kd.R_below (by (with_reducible repeat (first | apply Kd.R_alloc | apply Kd.R_drewN | apply Kd.R_drew)); exact (Kd.R_mono (Kd.R_far (p := ⟨gb116, 3, none⟩) (Kd.R_far (p := ⟨gb116, 2, none⟩) (Kd.R_far (p := ⟨gb116, 1, none⟩) (Kd.R_far (p := ⟨gb116, 0, none⟩) (Kd.R_types HO114.out BK116.out (by decide)) (fun _ hk => hk.2) (.string t110)) (fun _ hk => hk.2) (.int .i64 t111)) (fun _ hk => hk.2) (.slice Ao27 t112.length co27)) (fun _ hk => hk.2) (.int .i64 t115)) (fun _ h_ => h_.1))) hb); have n2_ := Aside0.mk (blk_below (g := gb101) (o := .cells #[.string a0_0, .int .i64 a0_1, .slice A0_2 l0_2.length c0_2, .int .i64 a0_3] 31 (0, 0)) (by (with_reducible repeat (first | refine blk_drewN ?_ _ | refine blk_drew ?_ | refine blk_alloc ?_ _)); refine blk_far ?_ NB101_116.out _; (with_reducible repeat (first | refine blk_drewN ?_ _ | refine blk_drew ?_ | refine blk_alloc ?_ _)); refine blk_far ?_ NB101_116.out _; (with_reducible repeat (first | refine blk_drewN ?_ _ | refine blk_drew ?_ | refine blk_alloc ?_ _)); refine blk_far ?_ NB101_116.out _; (with_reducible repeat (first | refine blk_drewN ?_ _ | refine blk_drew ?_ | refine blk_alloc ?_ _)); refine blk_far ?_ NB101_116.out _; (with_reducible repeat (first | refine blk_drewN ?_ _ | refine blk_drew ?_ | refine blk_alloc ?_ _)); exact BK101.out) hb); have n3_ := Aside0.mk (blk_below (g := gb116) (o := .cells #[.string t110, .int .i64 t111, .slice Ao27 t112.length co27, .int .i64 t115] 36 (0, 0)) (by (with_reducible repeat (first | refine blk_drewN ?_ _ | refine blk_drew ?_ | refine blk_alloc ?_ _)); refine blk_put (cs := #[.string t110, .int .i64 t111, .slice Ao27 t112.length co27, .int .i64 0]) ?_ 3 _ rfl; (with_reducible repeat (first | refine blk_drewN ?_ _ | refine blk_drew ?_ | refine blk_alloc ?_ _)); refine blk_put (cs := #[.string t110, .int .i64 t111, .slice none 0 0, .int .i64 0]) ?_ 2 _ rfl; (with_reducible repeat (first | refine blk_drewN ?_ _ | refine blk_drew ?_ | refine blk_alloc ?_ _)); refine blk_put (cs := #[.string t110, .int .i64 0, .slice none 0 0, .int .i64 0]) ?_ 1 _ rfl; (with_reducible repeat (first | refine blk_drewN ?_ _ | refine blk_drew ?_ | refine blk_alloc ?_ _)); refine blk_put (cs := #[.string (⟨#[]⟩ : ByteArray), .int .i64 0, .slice none 0 0, .int .i64 0]) ?_ 0 _ rfl; (with_reducible repeat (first | refine blk_drewN ?_ _ | refine blk_drew ?_ | refine blk_alloc ?_ _)); exact BK116.out) hb); have n4_ := Aside0.mk (below_step (by repeat (first | (with_reducible first | exact HB.out | apply below_alloc | apply pw_below_drewN | apply below_drew1 | refine below_set ?_ GE101.out | refine below_set ?_ GE116.out) | exact HB.out)) hb); clear HO107; clear HO114; clear BK101; clear BK116; clear HB; have HO107 := n0_; have HO114 := n1_; have BK101 := n2_; have BK116 := n3_; have HB := n4_; clear n0_ n1_ n2_ n3_ n4_; (try clear hb); (try clear hb2); (try clear hk); (try clear hi)))
        have n0_ := Aside0.mk (Kd.R_drew HO107.out)
        have n1_ := Aside0.mk (Kd.R_drew HO114.out)
        have n2_ := Aside0.mk (blk_drew BK101.out)
        have n3_ := Aside0.mk (blk_drew BK116.out)
        have n4_ := Aside0.mk (below_drew1 HB.out)
        clear HO107
        clear HO114
        clear BK101
        clear BK116
        clear HB
        have HO107 := n0_
        have HO114 := n1_
        have BK101 := n2_
        have BK116 := n3_
        have HB := n4_
        clear n0_ n1_ n2_ n3_ n4_
        refine start_ (n := 5) (S := fun w' => w'.cell? ⟨gb116, 0, none⟩ = some (.string t110) ∧ w'.cell? ⟨gb116, 1, none⟩ = some (.int .i64 t111) ∧ w'.cell? ⟨gb116, 2, none⟩ = some (.slice Ao27 t112.length co27) ∧ w'.cell? ⟨gb116, 3, none⟩ = some (.int .i64 t115) ∧ w'.cell? ⟨gb101, 0, none⟩ = some (.string a0_0) ∧ w'.cell? ⟨gb101, 1, none⟩ = some (.int .i64 a0_1) ∧ w'.cell? ⟨gb101, 2, none⟩ = some (.slice A0_2 l0_2.length c0_2) ∧ w'.cell? ⟨gb101, 3, none⟩ = some (.int .i64 a0_3)) (ds := []) #[false, false, false, false, false] (by kernel_rfl) rfl rfl ⟨(blk_cell BK116.out 0).trans rfl, (blk_cell BK116.out 1).trans rfl, (blk_cell BK116.out 2).trans rfl, (blk_cell BK116.out 3).trans rfl, (blk_cell BK101.out 0).trans rfl, (blk_cell BK101.out 1).trans rfl, (blk_cell BK101.out 2).trans rfl, (blk_cell BK101.out 3).trans rfl⟩ (fun hHeld => ?_)
        generalize w28.drew = w29 at HO107 HO114 BK101 BK116 HB hHeld ⊢
        refine take_ (i := 0) (N := some 22) (v := ?_) (a' := ?_) #[true, false, false, false, false] rfl rfl (by kernel_rfl) (fun _ _ _ h => h) (Or.inl ⟨by rfl, ?_⟩) hHeld ?_ ?_
        rotate_left
        · rintro w' ⟨s0, s1, s2, s3, s4, s5, s6, s7⟩
          go_simp
          with_reducible rfl
        rotate_left
        · simp only [Act.put, List.setIfInBounds_toArray, List.set_cons_zero, List.set_cons_succ, i64_w, i32_w]
          rfl
        refine take_ (i := 1) (N := some 23) (v := ?_) (a' := ?_) #[true, true, false, false, false] rfl rfl (by kernel_rfl) (fun _ _ _ h => h) (Or.inl ⟨by rfl, ?_⟩) hHeld ?_ ?_
        rotate_left
        · rintro w' ⟨s0, s1, s2, s3, s4, s5, s6, s7⟩
          go_simp
          with_reducible rfl
        rotate_left
        · simp only [Act.put, List.setIfInBounds_toArray, List.set_cons_zero, List.set_cons_succ, i64_w, i32_w]
          rfl
        refine one_ (i := 2) (N := some 24) #[true, true, true, false, false] rfl rfl (by kernel_rfl) (by decide) (fun K hK => ?_)
        refine goes_ Tryd.func16 (by kernel_rfl) rfl #[.agg #[.string a0_0, .int .i64 a0_1, .slice A0_2 l0_2.length c0_2, .int .i64 a0_3]] (by rfl) rfl rfl (by (try simp only [List.map_toArray, List.map_cons, List.map_nil]); first | done | rfl | (simp only [List.length_drop, List.length_take]; rfl)) ?_
        with_reducible refine (laws_toVerdict.calls k a0_0 a0_1 _ _ l0_2 a0_3 t118 t119 t120 t123 _ ?side1 ?side2 A12.out).mono ?_
        (case side1 => repeat (first | exact (Kd.C_below HR0_2.out HB.out) | (with_reducible refine Kd.C_alloc ?_ _) | (with_reducible refine Kd.C_drewN ?_ _) | (with_reducible refine Kd.C_drew ?_)))
        (case side2 => exact HC0_2.out)
        rintro e w30 ⟨v121, rfl, ho0, hb⟩
        refine ⟨_, rfl, ?_⟩
        have n0_ := Aside0.mk (Kd.R_elder' (by (with_reducible repeat (first | apply Kd.R_alloc | apply Kd.R_drewN | apply Kd.R_drew)); exact HO107.out) (Kd.R_base ho0) hb)
        have n1_ := Aside0.mk (Kd.R_elder' (by (with_reducible repeat (first | apply Kd.R_alloc | apply Kd.R_drewN | apply Kd.R_drew)); exact HO114.out) (Kd.R_base ho0) hb)
        have n2_ := Aside0.mk (Kd.R_lower (Kd.R_new' (Kd.R_new' ho0 (Kd.R_lt (by (with_reducible repeat (first | apply Kd.R_alloc | apply Kd.R_drewN | apply Kd.R_drew)); exact HO107.out))) (Kd.R_lt (by (with_reducible repeat (first | apply Kd.R_alloc | apply Kd.R_drewN | apply Kd.R_drew)); exact HO114.out))) (below_size (by repeat (first | (with_reducible first | exact HB.out | apply below_alloc | apply pw_below_drewN | apply below_drew1 | refine below_set ?_ GE101.out | refine below_set ?_ GE116.out) | exact HB.out))))
        have n3_ := Aside0.mk (blk_below (g := gb101) (o := .cells #[.string a0_0, .int .i64 a0_1, .slice A0_2 l0_2.length c0_2, .int .i64 a0_3] 31 (0, 0)) (by (with_reducible repeat (first | refine blk_drewN ?_ _ | refine blk_drew ?_ | refine blk_alloc ?_ _)); exact BK101.out) hb)
        have n4_ := Aside0.mk (blk_below (g := gb116) (o := .cells #[.string t110, .int .i64 t111, .slice Ao27 t112.length co27, .int .i64 t115] 36 (0, 0)) (by (with_reducible repeat (first | refine blk_drewN ?_ _ | refine blk_drew ?_ | refine blk_alloc ?_ _)); exact BK116.out) hb)
        have n5_ := Aside0.mk (below_step (by repeat (first | (with_reducible first | exact HB.out | apply below_alloc | apply pw_below_drewN | apply below_drew1 | refine below_set ?_ GE101.out | refine below_set ?_ GE116.out) | exact HB.out)) hb)
        clear HO107
        clear HO114
        clear BK101
        clear BK116
        clear HB
        have HO107 := n0_
        have HO114 := n1_
        have HO122 := n2_
        have BK101 := n3_
        have BK116 := n4_
        have HB := n5_
        clear n0_ n1_ n2_ n3_ n4_ n5_
        (try clear hb)
        (try clear hb2)
        (try clear hk)
        (try clear hi)
        (try clear ho0)
        obtain ⟨Ao31, co31, eo31⟩ := Kd.R_slice HO122.out
        (first | subst eo31 | (injection eo31 with f1_ f2_ f3_; have f4_ := f1_.symm; have f5_ := f3_.symm; clear f1_ f2_ f3_; subst f4_; subst f5_))
        refine hK.out _ _ ⟨(blk_cell BK116.out 0).trans rfl, (blk_cell BK116.out 1).trans rfl, (blk_cell BK116.out 2).trans rfl, (blk_cell BK116.out 3).trans rfl, (blk_cell BK101.out 0).trans rfl, (blk_cell BK101.out 1).trans rfl, (blk_cell BK101.out 2).trans rfl, (blk_cell BK101.out 3).trans rfl⟩ (fun hHeld => ?_)
        clear hK K
        refine norm_ (a' := ?_) ?_ ?_
        rotate_left
        · show Act.put _ (some 24) _ = _
          simp only [Act.put, List.setIfInBounds_toArray, List.set_cons_zero, List.set_cons_succ, i64_w, i32_w]
          rfl
        refine one_ (i := 3) (N := some 25) #[true, true, true, true, false] rfl rfl (by kernel_rfl) (by decide) (fun K hK => ?_)
        refine goes_ Tryd.func18 (by kernel_rfl) rfl #[.agg #[.string t110, .int .i64 t111, .slice Ao27 t112.length co27, .int .i64 t115], .agg #[.string t118, .int .i64 t119, .slice Ao31 t120.length co31, .int .i64 t123]] (by rfl) rfl rfl (by (try simp only [List.map_toArray, List.map_cons, List.map_nil]); first | done | rfl | (simp only [List.length_drop, List.length_take]; rfl)) ?_
        with_reducible refine (laws_eqVerdict.calls k t110 t111 _ _ t112 t115 t118 t119 _ _ t120 t123 true _ ?side1 ?side2 ?side3 ?side4 A13.out).mono ?_
        (case side1 => repeat (first | exact (Kd.R_reads' HO114.out).2.2 | (with_reducible refine Kd.C_alloc ?_ _) | (with_reducible refine Kd.C_drewN ?_ _) | (with_reducible refine Kd.C_drew ?_)))
        (case side2 => exact (Kd.R_reads' HO114.out).2.1)
        (case side3 => repeat (first | exact (Kd.R_reads' HO122.out).2.2 | (with_reducible refine Kd.C_alloc ?_ _) | (with_reducible refine Kd.C_drewN ?_ _) | (with_reducible refine Kd.C_drew ?_)))
        (case side4 => exact (Kd.R_reads' HO122.out).2.1)
        rintro e w32 ⟨rfl, hb⟩
        refine ⟨_, rfl, ?_⟩
        have n0_ := Aside0.mk (Kd.R_below (by (with_reducible repeat (first | apply Kd.R_alloc | apply Kd.R_drewN | apply Kd.R_drew)); exact HO107.out) hb)
        have n1_ := Aside0.mk (Kd.R_below (by (with_reducible repeat (first | apply Kd.R_alloc | apply Kd.R_drewN | apply Kd.R_drew)); exact HO114.out) hb)
        have n2_ := Aside0.mk (Kd.R_below (by (with_reducible repeat (first | apply Kd.R_alloc | apply Kd.R_drewN | apply Kd.R_drew)); exact HO122.out) hb)
        have n3_ := Aside0.mk (blk_below (g := gb101) (o := .cells #[.string a0_0, .int .i64 a0_1, .slice A0_2 l0_2.length c0_2, .int .i64 a0_3] 31 (0, 0)) (by (with_reducible repeat (first | refine blk_drewN ?_ _ | refine blk_drew ?_ | refine blk_alloc ?_ _)); exact BK101.out) hb)
        have n4_ := Aside0.mk (blk_below (g := gb116) (o := .cells #[.string t110, .int .i64 t111, .slice Ao27 t112.length co27, .int .i64 t115] 36 (0, 0)) (by (with_reducible repeat (first | refine blk_drewN ?_ _ | refine blk_drew ?_ | refine blk_alloc ?_ _)); exact BK116.out) hb)
        have n5_ := Aside0.mk (below_step (by repeat (first | (with_reducible first | exact HB.out | apply below_alloc | apply pw_below_drewN | apply below_drew1 | refine below_set ?_ GE101.out | refine below_set ?_ GE116.out) | exact HB.out)) hb)
        clear HO107
        clear HO114
        clear HO122
        clear BK101
        clear BK116
        clear HB
        have HO107 := n0_
        have HO114 := n1_
        have HO122 := n2_
        have BK101 := n3_
        have BK116 := n4_
        have HB := n5_
        clear n0_ n1_ n2_ n3_ n4_ n5_
        (try clear hb)
        (try clear hb2)
        (try clear hk)
        (try clear hi)
        refine hK.out _ _ ⟨(blk_cell BK116.out 0).trans rfl, (blk_cell BK116.out 1).trans rfl, (blk_cell BK116.out 2).trans rfl, (blk_cell BK116.out 3).trans rfl, (blk_cell BK101.out 0).trans rfl, (blk_cell BK101.out 1).trans rfl, (blk_cell BK101.out 2).trans rfl, (blk_cell BK101.out 3).trans rfl⟩ (fun hHeld => ?_)
        clear hK K
        refine norm_ (a' := ?_) ?_ ?_
        rotate_left
        · show Act.put _ (some 25) _ = _
          simp only [Act.put, List.setIfInBounds_toArray, List.set_cons_zero, List.set_cons_succ, i64_w, i32_w]
          rfl
        refine pure_ (i := 4) (N := some 26) (v := ?_) (a' := ?_) #[true, true, true, true, true] rfl rfl (by kernel_rfl) (fun _ _ _ h => h) (Or.inl ⟨by rfl, ?_⟩) ?_ ?_
        rotate_left
        · intro w'
          go_simp
          with_reducible rfl
        rotate_left
        · simp only [Act.put, List.setIfInBounds_toArray, List.set_cons_zero, List.set_cons_succ, i64_w, i32_w]
          rfl
        refine done_ (by kernel_rfl) ?_
        try go_wp2
        go_ret
        exact ⟨by first | rfl | (simp [errW_none, errW_some] <;> rfl) | (simp [*, errW_none, errW_some] <;> rfl), by repeat (first | (with_reducible first | exact HB.out | apply below_alloc | apply pw_below_drewN | apply below_drew1 | refine below_set ?_ GE101.out | refine below_set ?_ GE116.out) | exact HB.out)⟩
      · replace c14 := Bool.eq_false_iff.mpr c14
        subst c14
        have H1 : (some false) = some r := by rw [if_neg (show ¬ (false = true) by decide)] at H; exact H
        clear H
        have H := H1
        clear H1
        obtain rfl := Option.some.inj H
        go_enter Tryd.func6, Tryd.ntmps6
        try go_wp2_with (first | ((with_reducible refine gate_dst (N := 1) rfl ?_); refine box_event ?hg (N := 1) ?hd (cs := #[.string a0_0, .int .i64 a0_1, .slice A0_2 l0_2.length c0_2, .int .i64 a0_3]) (t := 31) ?hr ?_; (case hd => rfl); (case hg => rfl); (case hr => first | (go_simp; done) | (go_simp; rfl)); intro gb101 hg w33 hbox hb; have n0_ := Aside0.mk (below_step (by repeat (first | (with_reducible first | exact HB.out | apply below_alloc | apply pw_below_drewN | apply below_drew1) | exact HB.out)) hb); have n1_ := Aside0.mk (hbox); have n2_ := Aside0.mk ((by rw [hg]; exact (below_size (by repeat (first | (with_reducible first | exact HB.out | apply below_alloc | apply pw_below_drewN | apply below_drew1) | exact HB.out))) : w.heap.size ≤ gb101)); have n3_ := Aside0.mk ((by rw [hg]; exact (below_size (by repeat (first | (with_reducible first | exact HB.out | apply below_alloc | apply pw_below_drewN | apply below_drew1) | exact HB.out))) : w.heap.size ≤ gb101)); clear HB; have HB := n0_; have BK101 := n1_; have GW101 := n2_; have GE101 := n3_; clear n0_ n1_ n2_ n3_; clear hb hbox hg; have hcz34_0 : w33.cell? ⟨gb101, 0, none⟩ = some (.string a0_0) := (blk_cell BK101.out 0).trans rfl; have hcz34_1 : w33.cell? ⟨gb101, 1, none⟩ = some (.int .i64 a0_1) := (blk_cell BK101.out 1).trans rfl; have hcz34_2 : w33.cell? ⟨gb101, 2, none⟩ = some (.slice A0_2 l0_2.length c0_2) := (blk_cell BK101.out 2).trans rfl; have hcz34_3 : w33.cell? ⟨gb101, 3, none⟩ = some (.int .i64 a0_3) := (blk_cell BK101.out 3).trans rfl; have hfz34_0 := blk_frozen BK101.out 0; have hfz34_1 := blk_frozen BK101.out 1; have hfz34_2 := blk_frozen BK101.out 2; have hfz34_3 := blk_frozen BK101.out 3) | ((with_reducible refine gate_callee (f := 14) rfl ?_); refine goesL_ (some 9) rfl rfl Tryd.func14 (by kernel_rfl) rfl #[.agg #[.string a0_0, .int .i64 a0_1, .slice A0_2 l0_2.length c0_2, .int .i64 a0_3], .int .i64 1048576] rfl (by (try simp only [List.map_toArray, List.map_cons, List.map_nil]); first | done | rfl | (simp only [List.length_drop, List.length_take]; rfl)) ?_; (with_reducible refine (laws_szVerdict.calls k a0_0 a0_1 _ _ l0_2 a0_3 1048576 t102 _ ?side1 ?side2 A2.out).mono ?_); (case side1 => repeat (first | exact (Kd.C_below HR0_2.out HB.out) | (with_reducible refine Kd.C_alloc ?_ _) | (with_reducible refine Kd.C_drewN ?_ _) | (with_reducible refine Kd.C_drew ?_))); (case side2 => exact HC0_2.out); rintro e w35 ⟨rfl, hb⟩; refine ⟨_, rfl, ?_⟩; have n0_ := Aside0.mk (blk_below (g := gb101) (o := .cells #[.string a0_0, .int .i64 a0_1, .slice A0_2 l0_2.length c0_2, .int .i64 a0_3] 31 (0, 0)) (by (with_reducible repeat (first | refine blk_drewN ?_ _ | refine blk_drew ?_ | refine blk_alloc ?_ _)); exact BK101.out) hb); have n1_ := Aside0.mk (below_step (by repeat (first | (with_reducible first | exact HB.out | apply below_alloc | apply pw_below_drewN | apply below_drew1 | refine below_set ?_ GE101.out) | exact HB.out)) hb); clear BK101; clear HB; have BK101 := n0_; have HB := n1_; clear n0_ n1_; (try clear hb); (try clear hb2); (try clear hk); (try clear hi); have hcz36_0 : w35.cell? ⟨gb101, 0, none⟩ = some (.string a0_0) := (blk_cell BK101.out 0).trans rfl; have hcz36_1 : w35.cell? ⟨gb101, 1, none⟩ = some (.int .i64 a0_1) := (blk_cell BK101.out 1).trans rfl; have hcz36_2 : w35.cell? ⟨gb101, 2, none⟩ = some (.slice A0_2 l0_2.length c0_2) := (blk_cell BK101.out 2).trans rfl; have hcz36_3 : w35.cell? ⟨gb101, 3, none⟩ = some (.int .i64 a0_3) := (blk_cell BK101.out 3).trans rfl; have hfz36_0 := blk_frozen BK101.out 0; have hfz36_1 := blk_frozen BK101.out 1; have hfz36_2 := blk_frozen BK101.out 2; have hfz36_3 := blk_frozen BK101.out 3) | ((with_reducible refine gate_callee (f := 16) rfl ?_); refine goesL_ (some 13) rfl rfl Tryd.func16 (by kernel_rfl) rfl #[.agg #[.string a0_0, .int .i64 a0_1, .slice A0_2 l0_2.length c0_2, .int .i64 a0_3]] rfl (by (try simp only [List.map_toArray, List.map_cons, List.map_nil]); first | done | rfl | (simp only [List.length_drop, List.length_take]; rfl)) ?_; (with_reducible refine (laws_toVerdict.calls k a0_0 a0_1 _ _ l0_2 a0_3 t103 t104 t105 t108 _ ?side1 ?side2 A7.out).mono ?_); (case side1 => repeat (first | exact (Kd.C_below HR0_2.out HB.out) | (with_reducible refine Kd.C_alloc ?_ _) | (with_reducible refine Kd.C_drewN ?_ _) | (with_reducible refine Kd.C_drew ?_))); (case side2 => exact HC0_2.out); rintro e w37 ⟨v106, rfl, ho0, hb⟩; refine ⟨_, rfl, ?_⟩; have n0_ := Aside0.mk (Kd.R_lower ho0 (below_size (by repeat (first | (with_reducible first | exact HB.out | apply below_alloc | apply pw_below_drewN | apply below_drew1 | refine below_set ?_ GE101.out) | exact HB.out)))); have n1_ := Aside0.mk (blk_below (g := gb101) (o := .cells #[.string a0_0, .int .i64 a0_1, .slice A0_2 l0_2.length c0_2, .int .i64 a0_3] 31 (0, 0)) (by (with_reducible repeat (first | refine blk_drewN ?_ _ | refine blk_drew ?_ | refine blk_alloc ?_ _)); exact BK101.out) hb); have n2_ := Aside0.mk (below_step (by repeat (first | (with_reducible first | exact HB.out | apply below_alloc | apply pw_below_drewN | apply below_drew1 | refine below_set ?_ GE101.out) | exact HB.out)) hb); clear BK101; clear HB; have HO107 := n0_; have BK101 := n1_; have HB := n2_; clear n0_ n1_ n2_; (try clear hb); (try clear hb2); (try clear hk); (try clear hi); (try clear ho0); obtain ⟨Ao38, co38, eo38⟩ := Kd.R_slice HO107.out; subst eo38) | ((with_reducible refine gate_callee (f := 15) rfl ?_); refine goesL_ (some 14) rfl rfl Tryd.func15 (by kernel_rfl) rfl #[.agg #[.string t103, .int .i64 t104, .slice Ao38 t105.length co38, .int .i64 t108]] rfl (by (try simp only [List.map_toArray, List.map_cons, List.map_nil]); first | done | rfl | (simp only [List.length_drop, List.length_take]; rfl)) ?_; (with_reducible refine (spec_VerdictLine.calls k t103 t104 _ _ t105 t108 t109 _ ?side1 ?side2 A8.out).mono ?_); (case side1 => repeat (first | exact (Kd.R_reads' HO107.out).2.2 | (with_reducible refine Kd.C_alloc ?_ _) | (with_reducible refine Kd.C_drewN ?_ _) | (with_reducible refine Kd.C_drew ?_))); (case side2 => exact (Kd.R_reads' HO107.out).2.1); rintro e w39 ⟨rfl, hb⟩; refine ⟨_, rfl, ?_⟩; have n0_ := Aside0.mk (Kd.R_below (by (with_reducible repeat (first | apply Kd.R_alloc | apply Kd.R_drewN | apply Kd.R_drew)); exact HO107.out) hb); have n1_ := Aside0.mk (blk_below (g := gb101) (o := .cells #[.string a0_0, .int .i64 a0_1, .slice A0_2 l0_2.length c0_2, .int .i64 a0_3] 31 (0, 0)) (by (with_reducible repeat (first | refine blk_drewN ?_ _ | refine blk_drew ?_ | refine blk_alloc ?_ _)); exact BK101.out) hb); have n2_ := Aside0.mk (below_step (by repeat (first | (with_reducible first | exact HB.out | apply below_alloc | apply pw_below_drewN | apply below_drew1 | refine below_set ?_ GE101.out) | exact HB.out)) hb); clear HO107; clear BK101; clear HB; have HO107 := n0_; have BK101 := n1_; have HB := n2_; clear n0_ n1_ n2_; (try clear hb); (try clear hb2); (try clear hk); (try clear hi); have hcz40_0 : w39.cell? ⟨gb101, 0, none⟩ = some (.string a0_0) := (blk_cell BK101.out 0).trans rfl; have hcz40_1 : w39.cell? ⟨gb101, 1, none⟩ = some (.int .i64 a0_1) := (blk_cell BK101.out 1).trans rfl; have hcz40_2 : w39.cell? ⟨gb101, 2, none⟩ = some (.slice A0_2 l0_2.length c0_2) := (blk_cell BK101.out 2).trans rfl; have hcz40_3 : w39.cell? ⟨gb101, 3, none⟩ = some (.int .i64 a0_3) := (blk_cell BK101.out 3).trans rfl; have hfz40_0 := blk_frozen BK101.out 0; have hfz40_1 := blk_frozen BK101.out 1; have hfz40_2 := blk_frozen BK101.out 2; have hfz40_3 := blk_frozen BK101.out 3) | ((with_reducible refine gate_callee (f := 16) rfl ?_); refine goesL_ (some 16) rfl rfl Tryd.func16 (by kernel_rfl) rfl #[.agg #[.string a0_0, .int .i64 a0_1, .slice A0_2 l0_2.length c0_2, .int .i64 a0_3]] rfl (by (try simp only [List.map_toArray, List.map_cons, List.map_nil]); first | done | rfl | (simp only [List.length_drop, List.length_take]; rfl)) ?_; (with_reducible refine (laws_toVerdict.calls k a0_0 a0_1 _ _ l0_2 a0_3 t110 t111 t112 t115 _ ?side1 ?side2 A9.out).mono ?_); (case side1 => repeat (first | exact (Kd.C_below HR0_2.out HB.out) | (with_reducible refine Kd.C_alloc ?_ _) | (with_reducible refine Kd.C_drewN ?_ _) | (with_reducible refine Kd.C_drew ?_))); (case side2 => exact HC0_2.out); rintro e w41 ⟨v113, rfl, ho0, hb⟩; refine ⟨_, rfl, ?_⟩; have n0_ := Aside0.mk (Kd.R_elder' (by (with_reducible repeat (first | apply Kd.R_alloc | apply Kd.R_drewN | apply Kd.R_drew)); exact HO107.out) (Kd.R_base ho0) hb); have n1_ := Aside0.mk (Kd.R_lower (Kd.R_new' ho0 (Kd.R_lt (by (with_reducible repeat (first | apply Kd.R_alloc | apply Kd.R_drewN | apply Kd.R_drew)); exact HO107.out))) (below_size (by repeat (first | (with_reducible first | exact HB.out | apply below_alloc | apply pw_below_drewN | apply below_drew1 | refine below_set ?_ GE101.out) | exact HB.out)))); have n2_ := Aside0.mk (blk_below (g := gb101) (o := .cells #[.string a0_0, .int .i64 a0_1, .slice A0_2 l0_2.length c0_2, .int .i64 a0_3] 31 (0, 0)) (by (with_reducible repeat (first | refine blk_drewN ?_ _ | refine blk_drew ?_ | refine blk_alloc ?_ _)); exact BK101.out) hb); have n3_ := Aside0.mk (below_step (by repeat (first | (with_reducible first | exact HB.out | apply below_alloc | apply pw_below_drewN | apply below_drew1 | refine below_set ?_ GE101.out) | exact HB.out)) hb); clear HO107; clear BK101; clear HB; have HO107 := n0_; have HO114 := n1_; have BK101 := n2_; have HB := n3_; clear n0_ n1_ n2_ n3_; (try clear hb); (try clear hb2); (try clear hk); (try clear hi); (try clear ho0)) | ((with_reducible refine gate_dst (N := 5) rfl ?_); refine box_event ?hg (N := 5) ?hd (cs := #[.string (⟨#[]⟩ : ByteArray), .int .i64 0, .slice none 0 0, .int .i64 0]) (t := 36) ?hr ?_; (case hd => rfl); (case hg => rfl); (case hr => first | (go_simp; done) | (go_simp; rfl)); intro gb116 hg w42 hbox hb; have n0_ := Aside0.mk (Kd.R_below (by (with_reducible repeat (first | apply Kd.R_alloc | apply Kd.R_drewN | apply Kd.R_drew)); exact HO107.out) hb); have n1_ := Aside0.mk (Kd.R_below (by (with_reducible repeat (first | apply Kd.R_alloc | apply Kd.R_drewN | apply Kd.R_drew)); exact HO114.out) hb); have n2_ := Aside0.mk (blk_below (g := gb101) (o := .cells #[.string a0_0, .int .i64 a0_1, .slice A0_2 l0_2.length c0_2, .int .i64 a0_3] 31 (0, 0)) (by (with_reducible repeat (first | refine blk_drewN ?_ _ | refine blk_drew ?_ | refine blk_alloc ?_ _)); exact BK101.out) hb); have n3_ := Aside0.mk (below_step (by repeat (first | (with_reducible first | exact HB.out | apply below_alloc | apply pw_below_drewN | apply below_drew1 | refine below_set ?_ GE101.out) | exact HB.out)) hb); have n4_ := Aside0.mk (hbox); have n5_ := Aside0.mk ((by rw [hg]; exact (below_size (by repeat (first | (with_reducible first | exact HB.out | apply below_alloc | apply pw_below_drewN | apply below_drew1 | refine below_set ?_ GE101.out) | exact HB.out))) : w.heap.size ≤ gb116)); have n6_ := Aside0.mk ((by rw [hg]; exact (below_size (by repeat (first | (with_reducible first | exact HB.out | apply below_alloc | apply pw_below_drewN | apply below_drew1 | refine below_set ?_ GE101.out) | exact HB.out))) : w.heap.size ≤ gb116)); have n7_ := Aside0.mk ((by rw [hg]; exact Nat.ne_of_lt (blk_lt (g := gb101) (o := .cells #[.string a0_0, .int .i64 a0_1, .slice A0_2 l0_2.length c0_2, .int .i64 a0_3] 31 (0, 0)) (by (with_reducible repeat (first | refine blk_drewN ?_ _ | refine blk_drew ?_ | refine blk_alloc ?_ _)); exact BK101.out)) : gb101 ≠ gb116)); have n8_ := Aside0.mk ((by rw [hg]; exact Nat.ne_of_gt (blk_lt (g := gb101) (o := .cells #[.string a0_0, .int .i64 a0_1, .slice A0_2 l0_2.length c0_2, .int .i64 a0_3] 31 (0, 0)) (by (with_reducible repeat (first | refine blk_drewN ?_ _ | refine blk_drew ?_ | refine blk_alloc ?_ _)); exact BK101.out)) : gb116 ≠ gb101)); clear HO107; clear HO114; clear BK101; clear HB; have HO107 := n0_; have HO114 := n1_; have BK101 := n2_; have HB := n3_; have BK116 := n4_; have GW116 := n5_; have GE116 := n6_; have NB101_116 := n7_; have NB116_101 := n8_; clear n0_ n1_ n2_ n3_ n4_ n5_ n6_ n7_ n8_; clear hb hbox hg; have hnb43 := NB116_101.out; have hnc43 := NB101_116.out; have hcz44_0 : w42.cell? ⟨gb116, 0, none⟩ = some (.string (⟨#[]⟩ : ByteArray)) := (blk_cell BK116.out 0).trans rfl; have hcz44_1 : w42.cell? ⟨gb116, 1, none⟩ = some (.int .i64 0) := (blk_cell BK116.out 1).trans rfl; have hcz44_2 : w42.cell? ⟨gb116, 2, none⟩ = some (.slice none 0 0) := (blk_cell BK116.out 2).trans rfl; have hcz44_3 : w42.cell? ⟨gb116, 3, none⟩ = some (.int .i64 0) := (blk_cell BK116.out 3).trans rfl; have hfz44_0 := blk_frozen BK116.out 0; have hfz44_1 := blk_frozen BK116.out 1; have hfz44_2 := blk_frozen BK116.out 2; have hfz44_3 := blk_frozen BK116.out 3; obtain ⟨Ao45, co45, eo45⟩ := Kd.R_slice HO114.out; subst eo45) | ((with_reducible refine gate_callee (f := 17) rfl ?_); refine goesL_ (some 18) rfl rfl Tryd.func17 (by kernel_rfl) rfl #[.agg #[.string t110, .int .i64 t111, .slice Ao45 t112.length co45, .int .i64 t115]] rfl (by (try simp only [List.map_toArray, List.map_cons, List.map_nil]); first | done | rfl | (simp only [List.length_drop, List.length_take]; rfl)) ?_; (with_reducible refine (impl_VerdictLine.calls k t110 t111 _ _ t112 t115 t117 _ ?side3 ?side4 ?side1 ?side2 A10.out).mono ?_); (case side1 => first | exact hEI | exact EnvI.below hEI (by repeat (first | (with_reducible first | exact HB.out | apply below_alloc | apply pw_below_drewN | apply below_drew1 | refine below_set ?_ GE101.out | refine below_set ?_ GE116.out) | exact HB.out))); (case side2 => first | exact hEM | exact EnvM.below hEM (by repeat (first | (with_reducible first | exact HB.out | apply below_alloc | apply pw_below_drewN | apply below_drew1 | refine below_set ?_ GE101.out | refine below_set ?_ GE116.out) | exact HB.out))); (case side3 => refine (Kd.R_reads' (e := 83) (base := w.heap.size) (ok := fun k_ => (True ∧ some k_ ≠ (.slice Ao38 t105.length co38 : Value).ownBlock)) (n := t112.length) (c := co45) ?_).2.2; exact (by (with_reducible repeat (first | apply Kd.R_alloc | apply Kd.R_drewN | apply Kd.R_drew)); exact (Kd.R_mono (Kd.R_far (p := ⟨gb116, 3, none⟩) (Kd.R_far (p := ⟨gb116, 2, none⟩) (Kd.R_far (p := ⟨gb116, 1, none⟩) (Kd.R_far (p := ⟨gb116, 0, none⟩) (Kd.R_types HO114.out BK116.out (by decide)) (fun _ hk => hk.2) (.string t110)) (fun _ hk => hk.2) (.int .i64 t111)) (fun _ hk => hk.2) (.slice Ao45 t112.length co45)) (fun _ hk => hk.2) (.int .i64 t115)) (fun _ h_ => h_.1)))); (case side4 => exact (Kd.R_reads' HO114.out).2.1); rintro e w46 ⟨rfl, hb⟩; refine ⟨_, rfl, ?_⟩; have n0_ := Aside0.mk (Kd.R_below (by (with_reducible repeat (first | apply Kd.R_alloc | apply Kd.R_drewN | apply Kd.R_drew)); exact (Kd.R_mono (Kd.R_far (p := ⟨gb116, 3, none⟩) (Kd.R_far (p := ⟨gb116, 2, none⟩) (Kd.R_far (p := ⟨gb116, 1, none⟩) (Kd.R_far (p := ⟨gb116, 0, none⟩) (Kd.R_types HO107.out BK116.out (by decide)) (fun _ hk => hk.2) (.string t110)) (fun _ hk => hk.2) (.int .i64 t111)) (fun _ hk => hk.2) (.slice Ao45 t112.length co45)) (fun _ hk => hk.2) (.int .i64 t115)) (fun _ h_ => h_.1))) hb); have n1_ := Aside0.mk (Kd.R_below (by (with_reducible repeat (first | apply Kd.R_alloc | apply Kd.R_drewN | apply Kd.R_drew)); exact (Kd.R_mono (Kd.R_far (p := ⟨gb116, 3, none⟩) (Kd.R_far (p := ⟨gb116, 2, none⟩) (Kd.R_far (p := ⟨gb116, 1, none⟩) (Kd.R_far (p := ⟨gb116, 0, none⟩) (Kd.R_types HO114.out BK116.out (by decide)) (fun _ hk => hk.2) (.string t110)) (fun _ hk => hk.2) (.int .i64 t111)) (fun _ hk => hk.2) (.slice Ao45 t112.length co45)) (fun _ hk => hk.2) (.int .i64 t115)) (fun _ h_ => h_.1))) hb); have n2_ := Aside0.mk (blk_below (g := gb101) (o := .cells #[.string a0_0, .int .i64 a0_1, .slice A0_2 l0_2.length c0_2, .int .i64 a0_3] 31 (0, 0)) (by (with_reducible repeat (first | refine blk_drewN ?_ _ | refine blk_drew ?_ | refine blk_alloc ?_ _)); refine blk_far ?_ NB101_116.out _; (with_reducible repeat (first | refine blk_drewN ?_ _ | refine blk_drew ?_ | refine blk_alloc ?_ _)); refine blk_far ?_ NB101_116.out _; (with_reducible repeat (first | refine blk_drewN ?_ _ | refine blk_drew ?_ | refine blk_alloc ?_ _)); refine blk_far ?_ NB101_116.out _; (with_reducible repeat (first | refine blk_drewN ?_ _ | refine blk_drew ?_ | refine blk_alloc ?_ _)); refine blk_far ?_ NB101_116.out _; (with_reducible repeat (first | refine blk_drewN ?_ _ | refine blk_drew ?_ | refine blk_alloc ?_ _)); exact BK101.out) hb); have n3_ := Aside0.mk (blk_below (g := gb116) (o := .cells #[.string t110, .int .i64 t111, .slice Ao45 t112.length co45, .int .i64 t115] 36 (0, 0)) (by (with_reducible repeat (first | refine blk_drewN ?_ _ | refine blk_drew ?_ | refine blk_alloc ?_ _)); refine blk_put (cs := #[.string t110, .int .i64 t111, .slice Ao45 t112.length co45, .int .i64 0]) ?_ 3 _ rfl; (with_reducible repeat (first | refine blk_drewN ?_ _ | refine blk_drew ?_ | refine blk_alloc ?_ _)); refine blk_put (cs := #[.string t110, .int .i64 t111, .slice none 0 0, .int .i64 0]) ?_ 2 _ rfl; (with_reducible repeat (first | refine blk_drewN ?_ _ | refine blk_drew ?_ | refine blk_alloc ?_ _)); refine blk_put (cs := #[.string t110, .int .i64 0, .slice none 0 0, .int .i64 0]) ?_ 1 _ rfl; (with_reducible repeat (first | refine blk_drewN ?_ _ | refine blk_drew ?_ | refine blk_alloc ?_ _)); refine blk_put (cs := #[.string (⟨#[]⟩ : ByteArray), .int .i64 0, .slice none 0 0, .int .i64 0]) ?_ 0 _ rfl; (with_reducible repeat (first | refine blk_drewN ?_ _ | refine blk_drew ?_ | refine blk_alloc ?_ _)); exact BK116.out) hb); have n4_ := Aside0.mk (below_step (by repeat (first | (with_reducible first | exact HB.out | apply below_alloc | apply pw_below_drewN | apply below_drew1 | refine below_set ?_ GE101.out | refine below_set ?_ GE116.out) | exact HB.out)) hb); clear HO107; clear HO114; clear BK101; clear BK116; clear HB; have HO107 := n0_; have HO114 := n1_; have BK101 := n2_; have BK116 := n3_; have HB := n4_; clear n0_ n1_ n2_ n3_ n4_; (try clear hb); (try clear hb2); (try clear hk); (try clear hi)))
        have n0_ := Aside0.mk (Kd.R_drew HO107.out)
        have n1_ := Aside0.mk (Kd.R_drew HO114.out)
        have n2_ := Aside0.mk (blk_drew BK101.out)
        have n3_ := Aside0.mk (blk_drew BK116.out)
        have n4_ := Aside0.mk (below_drew1 HB.out)
        clear HO107
        clear HO114
        clear BK101
        clear BK116
        clear HB
        have HO107 := n0_
        have HO114 := n1_
        have BK101 := n2_
        have BK116 := n3_
        have HB := n4_
        clear n0_ n1_ n2_ n3_ n4_
        refine start_ (n := 5) (S := fun w' => w'.cell? ⟨gb116, 0, none⟩ = some (.string t110) ∧ w'.cell? ⟨gb116, 1, none⟩ = some (.int .i64 t111) ∧ w'.cell? ⟨gb116, 2, none⟩ = some (.slice Ao45 t112.length co45) ∧ w'.cell? ⟨gb116, 3, none⟩ = some (.int .i64 t115) ∧ w'.cell? ⟨gb101, 0, none⟩ = some (.string a0_0) ∧ w'.cell? ⟨gb101, 1, none⟩ = some (.int .i64 a0_1) ∧ w'.cell? ⟨gb101, 2, none⟩ = some (.slice A0_2 l0_2.length c0_2) ∧ w'.cell? ⟨gb101, 3, none⟩ = some (.int .i64 a0_3)) (ds := []) #[false, false, false, false, false] (by kernel_rfl) rfl rfl ⟨(blk_cell BK116.out 0).trans rfl, (blk_cell BK116.out 1).trans rfl, (blk_cell BK116.out 2).trans rfl, (blk_cell BK116.out 3).trans rfl, (blk_cell BK101.out 0).trans rfl, (blk_cell BK101.out 1).trans rfl, (blk_cell BK101.out 2).trans rfl, (blk_cell BK101.out 3).trans rfl⟩ (fun hHeld => ?_)
        generalize w46.drew = w47 at HO107 HO114 BK101 BK116 HB hHeld ⊢
        refine take_ (i := 0) (N := some 22) (v := ?_) (a' := ?_) #[true, false, false, false, false] rfl rfl (by kernel_rfl) (fun _ _ _ h => h) (Or.inl ⟨by rfl, ?_⟩) hHeld ?_ ?_
        rotate_left
        · rintro w' ⟨s0, s1, s2, s3, s4, s5, s6, s7⟩
          go_simp
          with_reducible rfl
        rotate_left
        · simp only [Act.put, List.setIfInBounds_toArray, List.set_cons_zero, List.set_cons_succ, i64_w, i32_w]
          rfl
        refine take_ (i := 1) (N := some 23) (v := ?_) (a' := ?_) #[true, true, false, false, false] rfl rfl (by kernel_rfl) (fun _ _ _ h => h) (Or.inl ⟨by rfl, ?_⟩) hHeld ?_ ?_
        rotate_left
        · rintro w' ⟨s0, s1, s2, s3, s4, s5, s6, s7⟩
          go_simp
          with_reducible rfl
        rotate_left
        · simp only [Act.put, List.setIfInBounds_toArray, List.set_cons_zero, List.set_cons_succ, i64_w, i32_w]
          rfl
        refine one_ (i := 2) (N := some 24) #[true, true, true, false, false] rfl rfl (by kernel_rfl) (by decide) (fun K hK => ?_)
        refine goes_ Tryd.func16 (by kernel_rfl) rfl #[.agg #[.string a0_0, .int .i64 a0_1, .slice A0_2 l0_2.length c0_2, .int .i64 a0_3]] (by rfl) rfl rfl (by (try simp only [List.map_toArray, List.map_cons, List.map_nil]); first | done | rfl | (simp only [List.length_drop, List.length_take]; rfl)) ?_
        with_reducible refine (laws_toVerdict.calls k a0_0 a0_1 _ _ l0_2 a0_3 t118 t119 t120 t123 _ ?side1 ?side2 A12.out).mono ?_
        (case side1 => repeat (first | exact (Kd.C_below HR0_2.out HB.out) | (with_reducible refine Kd.C_alloc ?_ _) | (with_reducible refine Kd.C_drewN ?_ _) | (with_reducible refine Kd.C_drew ?_)))
        (case side2 => exact HC0_2.out)
        rintro e w48 ⟨v121, rfl, ho0, hb⟩
        refine ⟨_, rfl, ?_⟩
        have n0_ := Aside0.mk (Kd.R_elder' (by (with_reducible repeat (first | apply Kd.R_alloc | apply Kd.R_drewN | apply Kd.R_drew)); exact HO107.out) (Kd.R_base ho0) hb)
        have n1_ := Aside0.mk (Kd.R_elder' (by (with_reducible repeat (first | apply Kd.R_alloc | apply Kd.R_drewN | apply Kd.R_drew)); exact HO114.out) (Kd.R_base ho0) hb)
        have n2_ := Aside0.mk (Kd.R_lower (Kd.R_new' (Kd.R_new' ho0 (Kd.R_lt (by (with_reducible repeat (first | apply Kd.R_alloc | apply Kd.R_drewN | apply Kd.R_drew)); exact HO107.out))) (Kd.R_lt (by (with_reducible repeat (first | apply Kd.R_alloc | apply Kd.R_drewN | apply Kd.R_drew)); exact HO114.out))) (below_size (by repeat (first | (with_reducible first | exact HB.out | apply below_alloc | apply pw_below_drewN | apply below_drew1 | refine below_set ?_ GE101.out | refine below_set ?_ GE116.out) | exact HB.out))))
        have n3_ := Aside0.mk (blk_below (g := gb101) (o := .cells #[.string a0_0, .int .i64 a0_1, .slice A0_2 l0_2.length c0_2, .int .i64 a0_3] 31 (0, 0)) (by (with_reducible repeat (first | refine blk_drewN ?_ _ | refine blk_drew ?_ | refine blk_alloc ?_ _)); exact BK101.out) hb)
        have n4_ := Aside0.mk (blk_below (g := gb116) (o := .cells #[.string t110, .int .i64 t111, .slice Ao45 t112.length co45, .int .i64 t115] 36 (0, 0)) (by (with_reducible repeat (first | refine blk_drewN ?_ _ | refine blk_drew ?_ | refine blk_alloc ?_ _)); exact BK116.out) hb)
        have n5_ := Aside0.mk (below_step (by repeat (first | (with_reducible first | exact HB.out | apply below_alloc | apply pw_below_drewN | apply below_drew1 | refine below_set ?_ GE101.out | refine below_set ?_ GE116.out) | exact HB.out)) hb)
        clear HO107
        clear HO114
        clear BK101
        clear BK116
        clear HB
        have HO107 := n0_
        have HO114 := n1_
        have HO122 := n2_
        have BK101 := n3_
        have BK116 := n4_
        have HB := n5_
        clear n0_ n1_ n2_ n3_ n4_ n5_
        (try clear hb)
        (try clear hb2)
        (try clear hk)
        (try clear hi)
        (try clear ho0)
        obtain ⟨Ao49, co49, eo49⟩ := Kd.R_slice HO122.out
        (first | subst eo49 | (injection eo49 with f1_ f2_ f3_; have f4_ := f1_.symm; have f5_ := f3_.symm; clear f1_ f2_ f3_; subst f4_; subst f5_))
        refine hK.out _ _ ⟨(blk_cell BK116.out 0).trans rfl, (blk_cell BK116.out 1).trans rfl, (blk_cell BK116.out 2).trans rfl, (blk_cell BK116.out 3).trans rfl, (blk_cell BK101.out 0).trans rfl, (blk_cell BK101.out 1).trans rfl, (blk_cell BK101.out 2).trans rfl, (blk_cell BK101.out 3).trans rfl⟩ (fun hHeld => ?_)
        clear hK K
        refine norm_ (a' := ?_) ?_ ?_
        rotate_left
        · show Act.put _ (some 24) _ = _
          simp only [Act.put, List.setIfInBounds_toArray, List.set_cons_zero, List.set_cons_succ, i64_w, i32_w]
          rfl
        refine one_ (i := 3) (N := some 25) #[true, true, true, true, false] rfl rfl (by kernel_rfl) (by decide) (fun K hK => ?_)
        refine goes_ Tryd.func18 (by kernel_rfl) rfl #[.agg #[.string t110, .int .i64 t111, .slice Ao45 t112.length co45, .int .i64 t115], .agg #[.string t118, .int .i64 t119, .slice Ao49 t120.length co49, .int .i64 t123]] (by rfl) rfl rfl (by (try simp only [List.map_toArray, List.map_cons, List.map_nil]); first | done | rfl | (simp only [List.length_drop, List.length_take]; rfl)) ?_
        with_reducible refine (laws_eqVerdict.calls k t110 t111 _ _ t112 t115 t118 t119 _ _ t120 t123 false _ ?side1 ?side2 ?side3 ?side4 A13.out).mono ?_
        (case side1 => repeat (first | exact (Kd.R_reads' HO114.out).2.2 | (with_reducible refine Kd.C_alloc ?_ _) | (with_reducible refine Kd.C_drewN ?_ _) | (with_reducible refine Kd.C_drew ?_)))
        (case side2 => exact (Kd.R_reads' HO114.out).2.1)
        (case side3 => repeat (first | exact (Kd.R_reads' HO122.out).2.2 | (with_reducible refine Kd.C_alloc ?_ _) | (with_reducible refine Kd.C_drewN ?_ _) | (with_reducible refine Kd.C_drew ?_)))
        (case side4 => exact (Kd.R_reads' HO122.out).2.1)
        rintro e w50 ⟨rfl, hb⟩
        refine ⟨_, rfl, ?_⟩
        have n0_ := Aside0.mk (Kd.R_below (by (with_reducible repeat (first | apply Kd.R_alloc | apply Kd.R_drewN | apply Kd.R_drew)); exact HO107.out) hb)
        have n1_ := Aside0.mk (Kd.R_below (by (with_reducible repeat (first | apply Kd.R_alloc | apply Kd.R_drewN | apply Kd.R_drew)); exact HO114.out) hb)
        have n2_ := Aside0.mk (Kd.R_below (by (with_reducible repeat (first | apply Kd.R_alloc | apply Kd.R_drewN | apply Kd.R_drew)); exact HO122.out) hb)
        have n3_ := Aside0.mk (blk_below (g := gb101) (o := .cells #[.string a0_0, .int .i64 a0_1, .slice A0_2 l0_2.length c0_2, .int .i64 a0_3] 31 (0, 0)) (by (with_reducible repeat (first | refine blk_drewN ?_ _ | refine blk_drew ?_ | refine blk_alloc ?_ _)); exact BK101.out) hb)
        have n4_ := Aside0.mk (blk_below (g := gb116) (o := .cells #[.string t110, .int .i64 t111, .slice Ao45 t112.length co45, .int .i64 t115] 36 (0, 0)) (by (with_reducible repeat (first | refine blk_drewN ?_ _ | refine blk_drew ?_ | refine blk_alloc ?_ _)); exact BK116.out) hb)
        have n5_ := Aside0.mk (below_step (by repeat (first | (with_reducible first | exact HB.out | apply below_alloc | apply pw_below_drewN | apply below_drew1 | refine below_set ?_ GE101.out | refine below_set ?_ GE116.out) | exact HB.out)) hb)
        clear HO107
        clear HO114
        clear HO122
        clear BK101
        clear BK116
        clear HB
        have HO107 := n0_
        have HO114 := n1_
        have HO122 := n2_
        have BK101 := n3_
        have BK116 := n4_
        have HB := n5_
        clear n0_ n1_ n2_ n3_ n4_ n5_
        (try clear hb)
        (try clear hb2)
        (try clear hk)
        (try clear hi)
        refine hK.out _ _ ⟨(blk_cell BK116.out 0).trans rfl, (blk_cell BK116.out 1).trans rfl, (blk_cell BK116.out 2).trans rfl, (blk_cell BK116.out 3).trans rfl, (blk_cell BK101.out 0).trans rfl, (blk_cell BK101.out 1).trans rfl, (blk_cell BK101.out 2).trans rfl, (blk_cell BK101.out 3).trans rfl⟩ (fun hHeld => ?_)
        clear hK K
        refine norm_ (a' := ?_) ?_ ?_
        rotate_left
        · show Act.put _ (some 25) _ = _
          simp only [Act.put, List.setIfInBounds_toArray, List.set_cons_zero, List.set_cons_succ, i64_w, i32_w]
          rfl
        refine pure_ (i := 4) (N := some 26) (v := ?_) (a' := ?_) #[true, true, true, true, true] rfl rfl (by kernel_rfl) (fun _ _ _ h => h) (Or.inl ⟨by rfl, ?_⟩) ?_ ?_
        rotate_left
        · intro w'
          go_simp
          with_reducible rfl
        rotate_left
        · simp only [Act.put, List.setIfInBounds_toArray, List.set_cons_zero, List.set_cons_succ, i64_w, i32_w]
          rfl
        refine done_ (by kernel_rfl) ?_
        try go_wp2
        go_ret
        exact ⟨by first | rfl | (simp [errW_none, errW_some] <;> rfl) | (simp [*, errW_none, errW_some] <;> rfl), by repeat (first | (with_reducible first | exact HB.out | apply below_alloc | apply pw_below_drewN | apply below_drew1 | refine below_set ?_ GE101.out | refine below_set ?_ GE116.out) | exact HB.out)⟩
    · rw [if_neg c11] at H
      have c11b0 : (t117.toList == t109.toList) = false := beq_eq_false_iff_ne.mpr c11
      have c11b1 : (t117.toList != t109.toList) = true := bne_iff_ne.mpr c11
      obtain rfl := Option.some.inj H
      go_enter Tryd.func6, Tryd.ntmps6
      go_wp2_with (first | ((with_reducible refine gate_dst (N := 1) rfl ?_); refine box_event ?hg (N := 1) ?hd (cs := #[.string a0_0, .int .i64 a0_1, .slice A0_2 l0_2.length c0_2, .int .i64 a0_3]) (t := 31) ?hr ?_; (case hd => rfl); (case hg => rfl); (case hr => first | (go_simp; done) | (go_simp; rfl)); intro gb101 hg w51 hbox hb; have n0_ := Aside0.mk (below_step (by repeat (first | (with_reducible first | exact HB.out | apply below_alloc | apply pw_below_drewN | apply below_drew1) | exact HB.out)) hb); have n1_ := Aside0.mk (hbox); have n2_ := Aside0.mk ((by rw [hg]; exact (below_size (by repeat (first | (with_reducible first | exact HB.out | apply below_alloc | apply pw_below_drewN | apply below_drew1) | exact HB.out))) : w.heap.size ≤ gb101)); have n3_ := Aside0.mk ((by rw [hg]; exact (below_size (by repeat (first | (with_reducible first | exact HB.out | apply below_alloc | apply pw_below_drewN | apply below_drew1) | exact HB.out))) : w.heap.size ≤ gb101)); clear HB; have HB := n0_; have BK101 := n1_; have GW101 := n2_; have GE101 := n3_; clear n0_ n1_ n2_ n3_; clear hb hbox hg; have hcz52_0 : w51.cell? ⟨gb101, 0, none⟩ = some (.string a0_0) := (blk_cell BK101.out 0).trans rfl; have hcz52_1 : w51.cell? ⟨gb101, 1, none⟩ = some (.int .i64 a0_1) := (blk_cell BK101.out 1).trans rfl; have hcz52_2 : w51.cell? ⟨gb101, 2, none⟩ = some (.slice A0_2 l0_2.length c0_2) := (blk_cell BK101.out 2).trans rfl; have hcz52_3 : w51.cell? ⟨gb101, 3, none⟩ = some (.int .i64 a0_3) := (blk_cell BK101.out 3).trans rfl; have hfz52_0 := blk_frozen BK101.out 0; have hfz52_1 := blk_frozen BK101.out 1; have hfz52_2 := blk_frozen BK101.out 2; have hfz52_3 := blk_frozen BK101.out 3) | ((with_reducible refine gate_callee (f := 14) rfl ?_); refine goesL_ (some 9) rfl rfl Tryd.func14 (by kernel_rfl) rfl #[.agg #[.string a0_0, .int .i64 a0_1, .slice A0_2 l0_2.length c0_2, .int .i64 a0_3], .int .i64 1048576] rfl (by (try simp only [List.map_toArray, List.map_cons, List.map_nil]); first | done | rfl | (simp only [List.length_drop, List.length_take]; rfl)) ?_; (with_reducible refine (laws_szVerdict.calls k a0_0 a0_1 _ _ l0_2 a0_3 1048576 t102 _ ?side1 ?side2 A2.out).mono ?_); (case side1 => repeat (first | exact (Kd.C_below HR0_2.out HB.out) | (with_reducible refine Kd.C_alloc ?_ _) | (with_reducible refine Kd.C_drewN ?_ _) | (with_reducible refine Kd.C_drew ?_))); (case side2 => exact HC0_2.out); rintro e w53 ⟨rfl, hb⟩; refine ⟨_, rfl, ?_⟩; have n0_ := Aside0.mk (blk_below (g := gb101) (o := .cells #[.string a0_0, .int .i64 a0_1, .slice A0_2 l0_2.length c0_2, .int .i64 a0_3] 31 (0, 0)) (by (with_reducible repeat (first | refine blk_drewN ?_ _ | refine blk_drew ?_ | refine blk_alloc ?_ _)); exact BK101.out) hb); have n1_ := Aside0.mk (below_step (by repeat (first | (with_reducible first | exact HB.out | apply below_alloc | apply pw_below_drewN | apply below_drew1 | refine below_set ?_ GE101.out) | exact HB.out)) hb); clear BK101; clear HB; have BK101 := n0_; have HB := n1_; clear n0_ n1_; (try clear hb); (try clear hb2); (try clear hk); (try clear hi); have hcz54_0 : w53.cell? ⟨gb101, 0, none⟩ = some (.string a0_0) := (blk_cell BK101.out 0).trans rfl; have hcz54_1 : w53.cell? ⟨gb101, 1, none⟩ = some (.int .i64 a0_1) := (blk_cell BK101.out 1).trans rfl; have hcz54_2 : w53.cell? ⟨gb101, 2, none⟩ = some (.slice A0_2 l0_2.length c0_2) := (blk_cell BK101.out 2).trans rfl; have hcz54_3 : w53.cell? ⟨gb101, 3, none⟩ = some (.int .i64 a0_3) := (blk_cell BK101.out 3).trans rfl; have hfz54_0 := blk_frozen BK101.out 0; have hfz54_1 := blk_frozen BK101.out 1; have hfz54_2 := blk_frozen BK101.out 2; have hfz54_3 := blk_frozen BK101.out 3) | ((with_reducible refine gate_callee (f := 16) rfl ?_); refine goesL_ (some 13) rfl rfl Tryd.func16 (by kernel_rfl) rfl #[.agg #[.string a0_0, .int .i64 a0_1, .slice A0_2 l0_2.length c0_2, .int .i64 a0_3]] rfl (by (try simp only [List.map_toArray, List.map_cons, List.map_nil]); first | done | rfl | (simp only [List.length_drop, List.length_take]; rfl)) ?_; (with_reducible refine (laws_toVerdict.calls k a0_0 a0_1 _ _ l0_2 a0_3 t103 t104 t105 t108 _ ?side1 ?side2 A7.out).mono ?_); (case side1 => repeat (first | exact (Kd.C_below HR0_2.out HB.out) | (with_reducible refine Kd.C_alloc ?_ _) | (with_reducible refine Kd.C_drewN ?_ _) | (with_reducible refine Kd.C_drew ?_))); (case side2 => exact HC0_2.out); rintro e w55 ⟨v106, rfl, ho0, hb⟩; refine ⟨_, rfl, ?_⟩; have n0_ := Aside0.mk (Kd.R_lower ho0 (below_size (by repeat (first | (with_reducible first | exact HB.out | apply below_alloc | apply pw_below_drewN | apply below_drew1 | refine below_set ?_ GE101.out) | exact HB.out)))); have n1_ := Aside0.mk (blk_below (g := gb101) (o := .cells #[.string a0_0, .int .i64 a0_1, .slice A0_2 l0_2.length c0_2, .int .i64 a0_3] 31 (0, 0)) (by (with_reducible repeat (first | refine blk_drewN ?_ _ | refine blk_drew ?_ | refine blk_alloc ?_ _)); exact BK101.out) hb); have n2_ := Aside0.mk (below_step (by repeat (first | (with_reducible first | exact HB.out | apply below_alloc | apply pw_below_drewN | apply below_drew1 | refine below_set ?_ GE101.out) | exact HB.out)) hb); clear BK101; clear HB; have HO107 := n0_; have BK101 := n1_; have HB := n2_; clear n0_ n1_ n2_; (try clear hb); (try clear hb2); (try clear hk); (try clear hi); (try clear ho0); obtain ⟨Ao56, co56, eo56⟩ := Kd.R_slice HO107.out; subst eo56) | ((with_reducible refine gate_callee (f := 15) rfl ?_); refine goesL_ (some 14) rfl rfl Tryd.func15 (by kernel_rfl) rfl #[.agg #[.string t103, .int .i64 t104, .slice Ao56 t105.length co56, .int .i64 t108]] rfl (by (try simp only [List.map_toArray, List.map_cons, List.map_nil]); first | done | rfl | (simp only [List.length_drop, List.length_take]; rfl)) ?_; (with_reducible refine (spec_VerdictLine.calls k t103 t104 _ _ t105 t108 t109 _ ?side1 ?side2 A8.out).mono ?_); (case side1 => repeat (first | exact (Kd.R_reads' HO107.out).2.2 | (with_reducible refine Kd.C_alloc ?_ _) | (with_reducible refine Kd.C_drewN ?_ _) | (with_reducible refine Kd.C_drew ?_))); (case side2 => exact (Kd.R_reads' HO107.out).2.1); rintro e w57 ⟨rfl, hb⟩; refine ⟨_, rfl, ?_⟩; have n0_ := Aside0.mk (Kd.R_below (by (with_reducible repeat (first | apply Kd.R_alloc | apply Kd.R_drewN | apply Kd.R_drew)); exact HO107.out) hb); have n1_ := Aside0.mk (blk_below (g := gb101) (o := .cells #[.string a0_0, .int .i64 a0_1, .slice A0_2 l0_2.length c0_2, .int .i64 a0_3] 31 (0, 0)) (by (with_reducible repeat (first | refine blk_drewN ?_ _ | refine blk_drew ?_ | refine blk_alloc ?_ _)); exact BK101.out) hb); have n2_ := Aside0.mk (below_step (by repeat (first | (with_reducible first | exact HB.out | apply below_alloc | apply pw_below_drewN | apply below_drew1 | refine below_set ?_ GE101.out) | exact HB.out)) hb); clear HO107; clear BK101; clear HB; have HO107 := n0_; have BK101 := n1_; have HB := n2_; clear n0_ n1_ n2_; (try clear hb); (try clear hb2); (try clear hk); (try clear hi); have hcz58_0 : w57.cell? ⟨gb101, 0, none⟩ = some (.string a0_0) := (blk_cell BK101.out 0).trans rfl; have hcz58_1 : w57.cell? ⟨gb101, 1, none⟩ = some (.int .i64 a0_1) := (blk_cell BK101.out 1).trans rfl; have hcz58_2 : w57.cell? ⟨gb101, 2, none⟩ = some (.slice A0_2 l0_2.length c0_2) := (blk_cell BK101.out 2).trans rfl; have hcz58_3 : w57.cell? ⟨gb101, 3, none⟩ = some (.int .i64 a0_3) := (blk_cell BK101.out 3).trans rfl; have hfz58_0 := blk_frozen BK101.out 0; have hfz58_1 := blk_frozen BK101.out 1; have hfz58_2 := blk_frozen BK101.out 2; have hfz58_3 := blk_frozen BK101.out 3) | ((with_reducible refine gate_callee (f := 16) rfl ?_); refine goesL_ (some 16) rfl rfl Tryd.func16 (by kernel_rfl) rfl #[.agg #[.string a0_0, .int .i64 a0_1, .slice A0_2 l0_2.length c0_2, .int .i64 a0_3]] rfl (by (try simp only [List.map_toArray, List.map_cons, List.map_nil]); first | done | rfl | (simp only [List.length_drop, List.length_take]; rfl)) ?_; (with_reducible refine (laws_toVerdict.calls k a0_0 a0_1 _ _ l0_2 a0_3 t110 t111 t112 t115 _ ?side1 ?side2 A9.out).mono ?_); (case side1 => repeat (first | exact (Kd.C_below HR0_2.out HB.out) | (with_reducible refine Kd.C_alloc ?_ _) | (with_reducible refine Kd.C_drewN ?_ _) | (with_reducible refine Kd.C_drew ?_))); (case side2 => exact HC0_2.out); rintro e w59 ⟨v113, rfl, ho0, hb⟩; refine ⟨_, rfl, ?_⟩; have n0_ := Aside0.mk (Kd.R_elder' (by (with_reducible repeat (first | apply Kd.R_alloc | apply Kd.R_drewN | apply Kd.R_drew)); exact HO107.out) (Kd.R_base ho0) hb); have n1_ := Aside0.mk (Kd.R_lower (Kd.R_new' ho0 (Kd.R_lt (by (with_reducible repeat (first | apply Kd.R_alloc | apply Kd.R_drewN | apply Kd.R_drew)); exact HO107.out))) (below_size (by repeat (first | (with_reducible first | exact HB.out | apply below_alloc | apply pw_below_drewN | apply below_drew1 | refine below_set ?_ GE101.out) | exact HB.out)))); have n2_ := Aside0.mk (blk_below (g := gb101) (o := .cells #[.string a0_0, .int .i64 a0_1, .slice A0_2 l0_2.length c0_2, .int .i64 a0_3] 31 (0, 0)) (by (with_reducible repeat (first | refine blk_drewN ?_ _ | refine blk_drew ?_ | refine blk_alloc ?_ _)); exact BK101.out) hb); have n3_ := Aside0.mk (below_step (by repeat (first | (with_reducible first | exact HB.out | apply below_alloc | apply pw_below_drewN | apply below_drew1 | refine below_set ?_ GE101.out) | exact HB.out)) hb); clear HO107; clear BK101; clear HB; have HO107 := n0_; have HO114 := n1_; have BK101 := n2_; have HB := n3_; clear n0_ n1_ n2_ n3_; (try clear hb); (try clear hb2); (try clear hk); (try clear hi); (try clear ho0)) | ((with_reducible refine gate_dst (N := 5) rfl ?_); refine box_event ?hg (N := 5) ?hd (cs := #[.string (⟨#[]⟩ : ByteArray), .int .i64 0, .slice none 0 0, .int .i64 0]) (t := 36) ?hr ?_; (case hd => rfl); (case hg => rfl); (case hr => first | (go_simp; done) | (go_simp; rfl)); intro gb116 hg w60 hbox hb; have n0_ := Aside0.mk (Kd.R_below (by (with_reducible repeat (first | apply Kd.R_alloc | apply Kd.R_drewN | apply Kd.R_drew)); exact HO107.out) hb); have n1_ := Aside0.mk (Kd.R_below (by (with_reducible repeat (first | apply Kd.R_alloc | apply Kd.R_drewN | apply Kd.R_drew)); exact HO114.out) hb); have n2_ := Aside0.mk (blk_below (g := gb101) (o := .cells #[.string a0_0, .int .i64 a0_1, .slice A0_2 l0_2.length c0_2, .int .i64 a0_3] 31 (0, 0)) (by (with_reducible repeat (first | refine blk_drewN ?_ _ | refine blk_drew ?_ | refine blk_alloc ?_ _)); exact BK101.out) hb); have n3_ := Aside0.mk (below_step (by repeat (first | (with_reducible first | exact HB.out | apply below_alloc | apply pw_below_drewN | apply below_drew1 | refine below_set ?_ GE101.out) | exact HB.out)) hb); have n4_ := Aside0.mk (hbox); have n5_ := Aside0.mk ((by rw [hg]; exact (below_size (by repeat (first | (with_reducible first | exact HB.out | apply below_alloc | apply pw_below_drewN | apply below_drew1 | refine below_set ?_ GE101.out) | exact HB.out))) : w.heap.size ≤ gb116)); have n6_ := Aside0.mk ((by rw [hg]; exact (below_size (by repeat (first | (with_reducible first | exact HB.out | apply below_alloc | apply pw_below_drewN | apply below_drew1 | refine below_set ?_ GE101.out) | exact HB.out))) : w.heap.size ≤ gb116)); have n7_ := Aside0.mk ((by rw [hg]; exact Nat.ne_of_lt (blk_lt (g := gb101) (o := .cells #[.string a0_0, .int .i64 a0_1, .slice A0_2 l0_2.length c0_2, .int .i64 a0_3] 31 (0, 0)) (by (with_reducible repeat (first | refine blk_drewN ?_ _ | refine blk_drew ?_ | refine blk_alloc ?_ _)); exact BK101.out)) : gb101 ≠ gb116)); have n8_ := Aside0.mk ((by rw [hg]; exact Nat.ne_of_gt (blk_lt (g := gb101) (o := .cells #[.string a0_0, .int .i64 a0_1, .slice A0_2 l0_2.length c0_2, .int .i64 a0_3] 31 (0, 0)) (by (with_reducible repeat (first | refine blk_drewN ?_ _ | refine blk_drew ?_ | refine blk_alloc ?_ _)); exact BK101.out)) : gb116 ≠ gb101)); clear HO107; clear HO114; clear BK101; clear HB; have HO107 := n0_; have HO114 := n1_; have BK101 := n2_; have HB := n3_; have BK116 := n4_; have GW116 := n5_; have GE116 := n6_; have NB101_116 := n7_; have NB116_101 := n8_; clear n0_ n1_ n2_ n3_ n4_ n5_ n6_ n7_ n8_; clear hb hbox hg; have hnb61 := NB116_101.out; have hnc61 := NB101_116.out; have hcz62_0 : w60.cell? ⟨gb116, 0, none⟩ = some (.string (⟨#[]⟩ : ByteArray)) := (blk_cell BK116.out 0).trans rfl; have hcz62_1 : w60.cell? ⟨gb116, 1, none⟩ = some (.int .i64 0) := (blk_cell BK116.out 1).trans rfl; have hcz62_2 : w60.cell? ⟨gb116, 2, none⟩ = some (.slice none 0 0) := (blk_cell BK116.out 2).trans rfl; have hcz62_3 : w60.cell? ⟨gb116, 3, none⟩ = some (.int .i64 0) := (blk_cell BK116.out 3).trans rfl; have hfz62_0 := blk_frozen BK116.out 0; have hfz62_1 := blk_frozen BK116.out 1; have hfz62_2 := blk_frozen BK116.out 2; have hfz62_3 := blk_frozen BK116.out 3; obtain ⟨Ao63, co63, eo63⟩ := Kd.R_slice HO114.out; subst eo63) | ((with_reducible refine gate_callee (f := 17) rfl ?_); refine goesL_ (some 18) rfl rfl Tryd.func17 (by kernel_rfl) rfl #[.agg #[.string t110, .int .i64 t111, .slice Ao63 t112.length co63, .int .i64 t115]] rfl (by (try simp only [List.map_toArray, List.map_cons, List.map_nil]); first | done | rfl | (simp only [List.length_drop, List.length_take]; rfl)) ?_; (with_reducible refine (impl_VerdictLine.calls k t110 t111 _ _ t112 t115 t117 _ ?side3 ?side4 ?side1 ?side2 A10.out).mono ?_); (case side1 => first | exact hEI | exact EnvI.below hEI (by repeat (first | (with_reducible first | exact HB.out | apply below_alloc | apply pw_below_drewN | apply below_drew1 | refine below_set ?_ GE101.out | refine below_set ?_ GE116.out) | exact HB.out))); (case side2 => first | exact hEM | exact EnvM.below hEM (by repeat (first | (with_reducible first | exact HB.out | apply below_alloc | apply pw_below_drewN | apply below_drew1 | refine below_set ?_ GE101.out | refine below_set ?_ GE116.out) | exact HB.out))); (case side3 => refine (Kd.R_reads' (e := 83) (base := w.heap.size) (ok := fun k_ => (True ∧ some k_ ≠ (.slice Ao56 t105.length co56 : Value).ownBlock)) (n := t112.length) (c := co63) ?_).2.2; exact (by (with_reducible repeat (first | apply Kd.R_alloc | apply Kd.R_drewN | apply Kd.R_drew)); exact (Kd.R_mono (Kd.R_far (p := ⟨gb116, 3, none⟩) (Kd.R_far (p := ⟨gb116, 2, none⟩) (Kd.R_far (p := ⟨gb116, 1, none⟩) (Kd.R_far (p := ⟨gb116, 0, none⟩) (Kd.R_types HO114.out BK116.out (by decide)) (fun _ hk => hk.2) (.string t110)) (fun _ hk => hk.2) (.int .i64 t111)) (fun _ hk => hk.2) (.slice Ao63 t112.length co63)) (fun _ hk => hk.2) (.int .i64 t115)) (fun _ h_ => h_.1)))); (case side4 => exact (Kd.R_reads' HO114.out).2.1); rintro e w64 ⟨rfl, hb⟩; refine ⟨_, rfl, ?_⟩; have n0_ := Aside0.mk (Kd.R_below (by (with_reducible repeat (first | apply Kd.R_alloc | apply Kd.R_drewN | apply Kd.R_drew)); exact (Kd.R_mono (Kd.R_far (p := ⟨gb116, 3, none⟩) (Kd.R_far (p := ⟨gb116, 2, none⟩) (Kd.R_far (p := ⟨gb116, 1, none⟩) (Kd.R_far (p := ⟨gb116, 0, none⟩) (Kd.R_types HO107.out BK116.out (by decide)) (fun _ hk => hk.2) (.string t110)) (fun _ hk => hk.2) (.int .i64 t111)) (fun _ hk => hk.2) (.slice Ao63 t112.length co63)) (fun _ hk => hk.2) (.int .i64 t115)) (fun _ h_ => h_.1))) hb); have n1_ := Aside0.mk (Kd.R_below (by (with_reducible repeat (first | apply Kd.R_alloc | apply Kd.R_drewN | apply Kd.R_drew)); exact (Kd.R_mono (Kd.R_far (p := ⟨gb116, 3, none⟩) (Kd.R_far (p := ⟨gb116, 2, none⟩) (Kd.R_far (p := ⟨gb116, 1, none⟩) (Kd.R_far (p := ⟨gb116, 0, none⟩) (Kd.R_types HO114.out BK116.out (by decide)) (fun _ hk => hk.2) (.string t110)) (fun _ hk => hk.2) (.int .i64 t111)) (fun _ hk => hk.2) (.slice Ao63 t112.length co63)) (fun _ hk => hk.2) (.int .i64 t115)) (fun _ h_ => h_.1))) hb); have n2_ := Aside0.mk (blk_below (g := gb101) (o := .cells #[.string a0_0, .int .i64 a0_1, .slice A0_2 l0_2.length c0_2, .int .i64 a0_3] 31 (0, 0)) (by (with_reducible repeat (first | refine blk_drewN ?_ _ | refine blk_drew ?_ | refine blk_alloc ?_ _)); refine blk_far ?_ NB101_116.out _; (with_reducible repeat (first | refine blk_drewN ?_ _ | refine blk_drew ?_ | refine blk_alloc ?_ _)); refine blk_far ?_ NB101_116.out _; (with_reducible repeat (first | refine blk_drewN ?_ _ | refine blk_drew ?_ | refine blk_alloc ?_ _)); refine blk_far ?_ NB101_116.out _; (with_reducible repeat (first | refine blk_drewN ?_ _ | refine blk_drew ?_ | refine blk_alloc ?_ _)); refine blk_far ?_ NB101_116.out _; (with_reducible repeat (first | refine blk_drewN ?_ _ | refine blk_drew ?_ | refine blk_alloc ?_ _)); exact BK101.out) hb); have n3_ := Aside0.mk (blk_below (g := gb116) (o := .cells #[.string t110, .int .i64 t111, .slice Ao63 t112.length co63, .int .i64 t115] 36 (0, 0)) (by (with_reducible repeat (first | refine blk_drewN ?_ _ | refine blk_drew ?_ | refine blk_alloc ?_ _)); refine blk_put (cs := #[.string t110, .int .i64 t111, .slice Ao63 t112.length co63, .int .i64 0]) ?_ 3 _ rfl; (with_reducible repeat (first | refine blk_drewN ?_ _ | refine blk_drew ?_ | refine blk_alloc ?_ _)); refine blk_put (cs := #[.string t110, .int .i64 t111, .slice none 0 0, .int .i64 0]) ?_ 2 _ rfl; (with_reducible repeat (first | refine blk_drewN ?_ _ | refine blk_drew ?_ | refine blk_alloc ?_ _)); refine blk_put (cs := #[.string t110, .int .i64 0, .slice none 0 0, .int .i64 0]) ?_ 1 _ rfl; (with_reducible repeat (first | refine blk_drewN ?_ _ | refine blk_drew ?_ | refine blk_alloc ?_ _)); refine blk_put (cs := #[.string (⟨#[]⟩ : ByteArray), .int .i64 0, .slice none 0 0, .int .i64 0]) ?_ 0 _ rfl; (with_reducible repeat (first | refine blk_drewN ?_ _ | refine blk_drew ?_ | refine blk_alloc ?_ _)); exact BK116.out) hb); have n4_ := Aside0.mk (below_step (by repeat (first | (with_reducible first | exact HB.out | apply below_alloc | apply pw_below_drewN | apply below_drew1 | refine below_set ?_ GE101.out | refine below_set ?_ GE116.out) | exact HB.out)) hb); clear HO107; clear HO114; clear BK101; clear BK116; clear HB; have HO107 := n0_; have HO114 := n1_; have BK101 := n2_; have BK116 := n3_; have HB := n4_; clear n0_ n1_ n2_ n3_ n4_; (try clear hb); (try clear hb2); (try clear hk); (try clear hi)))
      go_ret
      exact ⟨by first | rfl | (simp [errW_none, errW_some] <;> rfl) | (simp [*, errW_none, errW_some] <;> rfl), by repeat (first | (with_reducible first | exact HB.out | apply below_alloc | apply pw_below_drewN | apply below_drew1 | refine below_set ?_ GE101.out | refine below_set ?_ GE116.out) | exact HB.out)⟩

end Go.Proofs.YthnembgbooaplaaDoor.P

namespace Go.Proofs.YthnembgbooaplaaDoor.Pure
open Go.RowKit Go.Proofs.YthnembgbooaplaaDoor.P Go.Proofs.YthnembgbooaplaaDoorW.PrintWords
def mk (l : List UInt8) : ByteArray := ⟨l.toArray⟩
theorem mk_data (s : ByteArray) : mk s.data.toList = s := by cases s; simp [mk]
theorem data_mk (l : List UInt8) : (mk l).data.toList = l := by simp [mk]
theorem toList_is (s : ByteArray) : s.toList = s.data.toList := by rw [ByteArray.toList_eq]
def cut1 (c : UInt8) : List UInt8 → List (List UInt8)
  | [] => [[]]
  | b :: l => if b = c then [] :: cut1 c l else match cut1 c l with
    | [] => [[b]]
    | h :: t => (b :: h) :: t
theorem cut1_ne (c : UInt8) : ∀ l, cut1 c l ≠ []
  | [] => by simp [cut1]
  | b :: l => by
    unfold cut1
    split
    · simp
    · split <;> simp
theorem cut1_length (c : UInt8) : ∀ l, (cut1 c l).length ≤ l.length + 1
  | [] => by simp [cut1]
  | b :: l => by
    have := cut1_length c l
    unfold cut1
    split
    · simp; omega
    · split
      · simp
      · rename_i h t e; rw [e] at this; simp at this ⊢; omega
theorem split_cut1 (c : UInt8) : ∀ l, Lib.splitK [c] 0 (Lib.count l [c]) l = cut1 c l
  | [] => by rw [Lib.count_miss (by simp [Lib.index])]; rfl
  | b :: l => by
    have ih := split_cut1 c l
    by_cases h : b = c
    · subst h
      have hix : Lib.index (b :: l) [b] = 0 := by rw [Lib.index]; simp [List.isPrefixOf]
      rw [Lib.count_cons_eq, Nat.add_comm, Lib.splitK, hix]
      simp only [cut1, if_true]
      rw [← ih]
      rfl
    · have hp : ([c] : List UInt8).isPrefixOf (b :: l) = false := by simp [List.isPrefixOf, Ne.symm h]
      have hix : Lib.index (b :: l) [c] = if Lib.index l [c] == -1 then -1 else Lib.index l [c] + 1 := by rw [Lib.index, hp]; simp
      rw [Lib.count_cons_ne b c l h]
      unfold cut1
      rw [if_neg h, ← ih]
      cases hk : Lib.count l [c] with
      | zero => rfl
      | succ k =>
        have hge := Lib.index_ge l [c]
        have hm : ¬ Lib.index l [c] = -1 := fun e => by rw [Lib.count_miss e] at hk; cases hk
        obtain ⟨i, hi⟩ : ∃ i : Nat, Lib.index l [c] = i := ⟨(Lib.index l [c]).toNat, by omega⟩
        have hix' : Lib.index (b :: l) [c] = ((i + 1 : Nat) : Int) := by rw [hix, if_neg (fun e => hm (beq_iff_eq.1 e)), hi]; omega
        rw [Lib.splitK, Lib.splitK, hix', hi, if_neg (by simp; omega), if_neg (by simp)]
        simp
/-- The texts between the bytes c of s. -/
def cuts (c : UInt8) (s : ByteArray) : List ByteArray := (cut1 c s.data.toList).map mk
theorem splitB_cuts (c : UInt8) (s : ByteArray) : Lib.splitB ⟨#[c]⟩ 0 (Lib.countB s ⟨#[c]⟩) s = cuts c s := by
  have h := Lib.splitB_data ⟨#[c]⟩ 0 (Lib.countB s ⟨#[c]⟩) s
  rw [show Lib.countB s ⟨#[c]⟩ = Lib.count s.data.toList [c] from rfl, show ((⟨#[c]⟩ : ByteArray).data.toList) = [c] from rfl, split_cut1] at h
  unfold cuts
  rw [← h, List.map_map]
  rw [show (mk ∘ fun x : ByteArray => x.data.toList) = id from funext fun x => mk_data x, List.map_id]
theorem cuts_length (c : UInt8) (s : ByteArray) : (cuts c s).length ≤ s.size + 1 := by
  have := cut1_length c s.data.toList
  unfold cuts
  simpa using this
theorem cuts_ne (c : UInt8) (s : ByteArray) : 0 < (cuts c s).length := by
  unfold cuts
  have := cut1_ne c s.data.toList
  rw [List.length_map]
  exact List.length_pos_iff.2 this
theorem split_is (c : UInt8) (s : ByteArray) (hs : s.size ≤ 4294967280) : strings_Split.f s ⟨#[c]⟩ = some (cuts c s) := by
  unfold strings_Split.f
  rw [if_pos ⟨by show 1 ≤ 1; omega, by omega⟩, splitB_cuts]
theorem btl (s : ByteArray) (i : Nat) (h : i < s.data.toList.length) : bt s (i : Int) = (s.data.toList[i]'h).toNat := by
  have h' : i < s.size := by simpa using h
  unfold bt
  rw [dif_pos (by simpa using h')]
  rfl
theorem ex_data (s : ByteArray) (a b : Nat) : (s.extract a b).data.toList = (s.data.toList.take b).drop a := by
  rw [ByteArray.data_extract, Array.toList_extract]
  simp [List.drop_take]
theorem cut_loop (c : UInt8) (s : ByteArray) (hs : s.size ≤ 1000000000) (d : Nat) : ∀ (a i : Nat) (out : List ByteArray), i + d = s.size → a ≤ i → out.length ≤ a → ∀ k, d + 1 < k →
    spec_l02Cut.l0 k s (c.toNat : Int) out (a : Int) (i : Int) = some (out ++ (match cut1 c (s.data.toList.drop i) with
      | [] => []
      | h :: t => mk ((s.data.toList.take i).drop a ++ h) :: t.map mk)) := by
  induction d with
  | zero =>
    intro a i out hi ha ho k hk
    obtain ⟨k, rfl⟩ : ∃ m, k = m + 2 := ⟨k - 2, by omega⟩
    have e : wrap64 ((i : Int) + 1) = (i : Int) + 1 := by unfold wrap64; omega
    simp only [spec_l02Cut.l0]
    rw [if_pos (by omega), if_pos (by omega), if_pos (by omega), if_pos (by omega), if_pos (by omega), e, if_neg (by omega)]
    rw [List.drop_eq_nil_of_le (by simp; omega)]
    simp only [cut1, List.append_nil, List.map_nil, Int.toNat_natCast]
    rw [← ex_data, mk_data]
  | succ d ih =>
    intro a i out hi ha ho k hk
    obtain ⟨k, rfl⟩ : ∃ m, k = m + 1 := ⟨k - 1, by omega⟩
    have hl : i < s.data.toList.length := by simp; omega
    have e : wrap64 ((i : Int) + 1) = ((i + 1 : Nat) : Int) := by unfold wrap64; omega
    simp only [spec_l02Cut.l0]
    rw [if_pos (by omega), if_neg (by omega), if_pos (by omega), if_pos (by omega), btl s i hl, e]
    have hdrop := List.drop_eq_getElem_cons hl
    by_cases hc : s.data.toList[i] = c
    · rw [if_pos (by rw [hc]), if_pos (by omega), if_pos (by omega), if_pos (by omega), ih (i + 1) (i + 1) _ (by omega) (by omega) (by simp; omega) k (by omega)]
      rw [hdrop, cut1, if_pos hc]
      simp only [Int.toNat_natCast, List.append_nil, List.append_assoc, List.singleton_append]
      rw [show mk (List.drop a (List.take i s.data.toList)) = s.extract a i from by rw [← ex_data, mk_data]]
      have hnil : (s.data.toList.take (i + 1)).drop (i + 1) = [] := List.drop_eq_nil_of_le (by rw [List.length_take]; omega)
      rw [hnil]
      cases hq : cut1 c (s.data.toList.drop (i + 1)) with
      | nil => exact absurd hq (cut1_ne _ _)
      | cons h t => rfl
    · rw [if_neg (by intro he; exact hc (UInt8.toNat_inj.1 (by omega))), ih a (i + 1) out (by omega) (by omega) ho k (by omega)]
      rw [hdrop, cut1, if_neg hc]
      congr 2
      cases hq : cut1 c (s.data.toList.drop (i + 1)) with
      | nil => exact absurd hq (cut1_ne _ _)
      | cons h t =>
        simp only
        have : (s.data.toList.take (i + 1)).drop a ++ h = (s.data.toList.take i).drop a ++ s.data.toList[i] :: h := by
          rw [List.take_succ_eq_append_getElem hl, List.drop_append_of_le_length (by simp; omega)]
          simp
        rw [this]
theorem l02Cut_is (c : UInt8) (s : ByteArray) (hs : s.size ≤ 1000000000) (k : Nat) (hk : s.size + 2 < k) : spec_l02Cut.f k s (c.toNat : Int) = some (cuts c s) := by
  unfold spec_l02Cut.f
  have := cut_loop c s hs s.size 0 0 [] (by omega) (by omega) (by simp) k (by omega)
  rw [show ((0 : Nat) : Int) = 0 from rfl] at this
  rw [this]
  unfold cuts
  simp only [List.drop_zero, List.nil_append, List.take_zero]
  cases hq : cut1 c s.data.toList with
  | nil => exact absurd hq (cut1_ne _ _)
  | cons h t => rfl
end Go.Proofs.YthnembgbooaplaaDoor.Pure

namespace Go.Proofs.YthnembgbooaplaaDoor.Pure
open Go.RowKit Go.Proofs.YthnembgbooaplaaDoor.P Go.Proofs.YthnembgbooaplaaDoorW.PrintWords
theorem spart_loop (s : ByteArray) (hs : s.size ≤ 140737488351232) (d : Nat) : ∀ (i : Nat), i + d = s.size → ∀ k, d < k → spec_l02Part.l0 k s (i : Int) = some ((s.data.toList.drop i).all lowNum) := by
  induction d with
  | zero =>
    intro i hi k hk
    obtain ⟨k, rfl⟩ : ∃ m, k = m + 1 := ⟨k - 1, by omega⟩
    simp only [spec_l02Part.l0]
    rw [if_neg (by omega), List.drop_eq_nil_of_le (by simp; omega)]
    rfl
  | succ d ih =>
    intro i hi k hk
    obtain ⟨k, rfl⟩ : ∃ m, k = m + 1 := ⟨k - 1, by omega⟩
    have hl : i < s.data.toList.length := by simp; omega
    have e : wrap64 ((i : Int) + 1) = ((i + 1 : Nat) : Int) := by unfold wrap64; omega
    simp only [spec_l02Part.l0]
    rw [if_pos (by omega), if_pos (by omega), bt_list s i hl, e, ih (i + 1) (by omega) k (by omega), List.drop_eq_getElem_cons hl, List.all_cons]
    generalize (s.data.toList.drop (i + 1)).all lowNum = R
    generalize s.data.toList[i] = c
    unfold lowNum lowOk
    have := c.toNat_lt
    by_cases h1 : ((c.toNat : Nat) : Int) ≥ 97
    · rw [if_pos h1]
      by_cases h2 : ((c.toNat : Nat) : Int) ≤ 122
      · rw [if_pos h2, decide_eq_true (by omega)]; rfl
      · rw [if_neg h2, if_pos (by omega), if_neg (by omega), decide_eq_false (by omega), decide_eq_false (by omega)]; rfl
    · rw [if_neg h1]
      by_cases h3 : ((c.toNat : Nat) : Int) ≥ 48
      · rw [if_pos h3]
        by_cases h4 : ((c.toNat : Nat) : Int) ≤ 57
        · rw [if_pos h4, decide_eq_false (by omega), decide_eq_true (by omega)]; rfl
        · rw [if_neg h4, decide_eq_false (by omega), decide_eq_false (by omega)]; rfl
      · rw [if_neg h3, decide_eq_false (by omega), decide_eq_false (by omega)]; rfl
theorem spart_is (s : ByteArray) (hs : s.size ≤ 140737488351232) (k : Nat) (hk : s.size + 5 < k) : spec_l02Part.f k s = some (namePart s.data.toList) := by
  obtain ⟨k, rfl⟩ : ∃ m, k = m + 1 := ⟨k - 1, by omega⟩
  unfold spec_l02Part.f
  rcases hl : s.data.toList with _ | ⟨c, l⟩
  · have hz : s.size = 0 := by have : s.data.toList.length = s.size := by simp
                               rw [hl] at this; simpa using this.symm
    rw [if_pos (by omega)]
    simp only [spec_l02Part.j0, if_true]
    rfl
  · have hz : 0 < s.data.toList.length := by rw [hl]; simp
    have hz' : 0 < s.size := by simpa using hz
    rw [if_neg (by omega), if_pos (by omega)]
    have hb := bt_list s 0 hz
    simp only [hl, List.getElem_cons_zero] at hb
    have hb' : bt s 0 = (c.toNat : Int) := hb
    rw [hb']
    have hloop := spart_loop s hs s.size 0 (by omega) k (by omega)
    rw [hl] at hloop
    have hj : ∀ b, spec_l02Part.j0 (k + 1) s b = if b = true then some false else some ((c :: l).all lowNum) := by
      intro b
      simp only [spec_l02Part.j0]
      rw [show (0 : Int) = ((0 : Nat) : Int) from rfl, hloop]
      rfl
    rw [hj, hj]
    unfold namePart lowOk
    have := c.toNat_lt
    by_cases h1 : ((c.toNat : Nat) : Int) < 97
    · rw [if_pos h1, if_pos rfl]; simp only; rw [decide_eq_false (by omega)]; rfl
    · rw [if_neg h1]
      by_cases h4 : ((c.toNat : Nat) : Int) > 122
      · rw [decide_eq_true h4, if_pos rfl]; simp only; rw [decide_eq_false (by omega)]; rfl
      · rw [decide_eq_false h4, if_neg (by simp)]; simp only; rw [decide_eq_true (by omega)]; rfl
theorem sname_loop (ps : List ByteArray) (hp : ∀ s ∈ ps, s.size ≤ 100) (hl : ps.length ≤ 1000) (d : Nat) : ∀ (i : Nat), i + d = ps.length → ∀ k, d + 200 < k → spec_NameOk.l0 k ps (i : Int) = some ((ps.drop i).all fun s => namePart s.data.toList) := by
  induction d with
  | zero =>
    intro i hi k hk
    obtain ⟨k, rfl⟩ : ∃ m, k = m + 1 := ⟨k - 1, by omega⟩
    simp only [spec_NameOk.l0]
    rw [if_neg (by omega), List.drop_eq_nil_of_le (by omega)]
    rfl
  | succ d ih =>
    intro i hi k hk
    obtain ⟨k, rfl⟩ : ∃ m, k = m + 1 := ⟨k - 1, by omega⟩
    have hlt : i < ps.length := by omega
    have e : wrap64 ((i : Int) + 1) = ((i + 1 : Nat) : Int) := by unfold wrap64; omega
    have hr : rdOf ByteArray.empty ps (i : Int) = ps[i] := by unfold rdOf; rw [Int.toNat_natCast, List.getD_eq_getElem?_getD, List.getElem?_eq_getElem hlt]; rfl
    have hsz := hp ps[i] (List.getElem_mem hlt)
    simp only [spec_NameOk.l0]
    rw [if_pos (by omega), if_pos (by omega), hr, spart_is _ (by omega) k (by omega), e, ih (i + 1) (by omega) k (by omega), List.drop_eq_getElem_cons hlt, List.all_cons]
    simp only [Option.bind_some]
    cases namePart ps[i].data.toList with
    | true => rw [if_pos rfl]; rfl
    | false => rw [if_neg (by decide)]; rfl
/-- What both NameOks answer. -/
def nameOkP (s : ByteArray) : Bool := if 40 < s.size then false else decide ((cuts 46 s).length ≤ 5) && (cuts 46 s).all fun x => namePart x.data.toList
theorem cuts_le (c : UInt8) (s : ByteArray) (x : ByteArray) (hx : x ∈ cuts c s) : x.size ≤ s.size := by
  rw [← splitB_cuts] at hx
  exact splitB_le _ _ _ _ hx
theorem implName_is (s : ByteArray) (hs : s.size ≤ 140737488351232) : impl_NameOk.f s = some (nameOkP s) := by
  unfold impl_NameOk.f nameOkP
  rw [if_pos hs]
  by_cases h : 40 < s.size
  · rw [if_pos h, if_pos h]
  · rw [if_neg h, if_neg h, split_is 46 s (by omega)]
    simp only [Option.bind_some]
    congr 2
    rw [List.all_eq_not_any_not]
theorem specName_is (s : ByteArray) (k : Nat) (hk : 300 < k) : spec_NameOk.f k s = some (nameOkP s) := by
  unfold spec_NameOk.f nameOkP
  by_cases h : 40 < s.size
  · rw [if_pos (by omega), if_pos h]
  · have e1 := l02Cut_is 46 s (by omega) k (by omega)
    rw [show (((46 : UInt8).toNat : Nat) : Int) = 46 from rfl] at e1
    rw [if_neg (by omega), if_neg h, e1]
    simp only [Option.bind_some]
    by_cases h5 : (cuts 46 s).length ≤ 5
    · rw [if_neg (by omega), decide_eq_true h5]
      have := sname_loop (cuts 46 s) (fun x hx => by have := cuts_le 46 s x hx; omega) (by omega) (cuts 46 s).length 0 (by omega) k (by omega)
      rw [show (0 : Int) = ((0 : Nat) : Int) from rfl, this]
      simp
    · rw [if_pos (by omega), decide_eq_false h5]; rfl
end Go.Proofs.YthnembgbooaplaaDoor.Pure

namespace Go.Proofs.YthnembgbooaplaaDoor.P
open Go.RowKit Go.Proofs.YthnembgbooaplaaDoorW.PrintWords Go.Proofs.YthnembgbooaplaaDoorW.PrintLast Go.Proofs.YthnembgbooaplaaDoorW.PrintMore
attribute [local go_sem] max2_int min2_int max_two min_two max_three min_three max_four min_four
set_option linter.unusedVariables false
set_option linter.unusedSimpArgs false

/-! ### spec_ReadDecimal: function 29 -/
def spec_ReadDecimal.l0 : Nat → ByteArray → Int → Int → Option (Int × Bool)
  | 0, _, _, _ => none
  | k + 1, x0, x4, x5 => if x5 < (x0.size : Int) then (if 0 ≤ x5 then (if (bt x0 x5) < 48 then (some (0, false)) else (if (bt x0 x5) > 57 then (some (0, false)) else (spec_ReadDecimal.l0 k x0 (wrap64 ((wrap64 ((wrap64 (10 * x4)) + (wrap64 (bt x0 x5)))) - 48)) (wrap64 (x5 + 1))))) else (none)) else (if x4 > 1000000000 then (some (0, false)) else ((spec_Decimal.f k x4).bind fun t101 => (if t101.toList = x0.toList then (some (x4, true)) else (some (0, false)))))
def spec_ReadDecimal.f (k : Nat) (a0 : ByteArray) : Option (Int × Bool) := if (a0.size : Int) > 10 then (some (0, false)) else (spec_ReadDecimal.l0 k a0 0 0)
theorem spec_ReadDecimal.mono_l : ∀ k, (∀ y0 y1 y2, LeO (spec_ReadDecimal.l0 k y0 y1 y2) (spec_ReadDecimal.l0 (k + 1) y0 y1 y2))
  | 0 => fun _ _ _ r h => by simp [spec_ReadDecimal.l0] at h
  | k + 1 => by
    have ih0 := spec_ReadDecimal.mono_l k
    · intro y0 y1 y2
      unfold spec_ReadDecimal.l0
      repeat' first
      | (with_reducible exact ih0 _ _ _)
      | (with_reducible exact spec_Decimal.mono _ _)
      | (with_reducible exact LeO.refl _)
      | (with_reducible exact LeO.none _)
      | (with_reducible refine LeO.ite ?_ ?_)
      | (with_reducible refine LeO.bind ?_ (fun _ => ?_))
      | exact ih0 _ _ _
      | exact spec_Decimal.mono _ _
      | exact LeO.none _
      | refine LeO.ite ?_ ?_
      | refine LeO.bind ?_ (fun _ => ?_)
theorem spec_ReadDecimal.mono : ∀ a0 k, LeO (spec_ReadDecimal.f k a0) (spec_ReadDecimal.f (k + 1) a0) := by
  intro a0 k
  have ih0 := spec_ReadDecimal.mono_l k
  unfold spec_ReadDecimal.f
  repeat' first
      | (with_reducible exact ih0 _ _ _)
      | (with_reducible exact spec_Decimal.mono _ _)
      | (with_reducible exact LeO.refl _)
      | (with_reducible exact LeO.none _)
      | (with_reducible refine LeO.ite ?_ ?_)
      | (with_reducible refine LeO.bind ?_ (fun _ => ?_))
      | exact ih0 _ _ _
      | exact spec_Decimal.mono _ _
      | exact LeO.none _
      | refine LeO.ite ?_ ?_
      | refine LeO.bind ?_ (fun _ => ?_)
set_option maxHeartbeats 8000000 in
set_option maxRecDepth 100000 in
theorem spec_ReadDecimal.calls (k : Nat) (a0 : ByteArray) (r1 : Int) (r2 : Bool) (w : World) (h : spec_ReadDecimal.f k a0 = some (r1, r2)) :
    Calls Tryd.prog 29 #[.string a0] w fun e w' => e = .returned (.tuple #[.int .i64 r1, .bool r2]) ∧ Below w.heap.size w w' := by
  have HB := Aside0.mk (Below.refl w.heap.size w)
  have H : (if (a0.size : Int) > 10 then (some (0, false)) else (spec_ReadDecimal.l0 k a0 0 0)) = some (r1, r2) := h
  clear h
  by_cases c2 : (a0.size : Int) > 10
  · rw [if_pos c2] at H
    have c2b0 : decide (10 < (a0.size : Int)) = true := decide_eq_true c2
    have c2b1 : decide (10 < a0.size) = true := decide_eq_true (by omega)
    clear c2
    simp only [Option.some.injEq, Prod.mk.injEq] at H
    obtain ⟨rfl, rfl⟩ := H
    go_enter Tryd.func29, Tryd.ntmps29
    go_wp2
    go_ret2
    exact ⟨by first | rfl | (simp [errW_none, errW_some] <;> rfl) | (simp [*, errW_none, errW_some] <;> rfl), by repeat (first | (with_reducible first | exact HB.out | apply below_alloc | apply pw_below_drewN | apply below_drew1) | exact HB.out)⟩
  · rw [if_neg c2] at H
    have c2b0 : decide (10 < (a0.size : Int)) = false := decide_eq_false c2
    have c2b1 : decide (10 < a0.size) = false := decide_eq_false (by omega)
    clear c2
    have H' := Aside0.mk H
    clear H
    go_enter Tryd.func29, Tryd.ntmps29
    go_wp2
    go_loopg [4, 5] k (fun kq v4 v5 w' => ∃ (x4_1 : Int) (x5_1 : Int), v4 = .int .i64 x4_1 ∧ v5 = .int .i64 x5_1 ∧ Aside0 (spec_ReadDecimal.l0 kq a0 x4_1 x5_1 = some (r1, r2)) ∧ Aside0 (kq ≤ k) ∧ Aside0 (Below w.heap.size w w'))
    case atStart => exact ⟨(0), (0), (by first | rfl | (simp; done) | (simp [*]; done)), (by first | rfl | (simp; done) | (simp [*]; done)), H', ⟨Nat.le_refl _⟩, ⟨by repeat (first | (with_reducible first | exact HB.out | apply below_alloc | apply pw_below_drewN | apply below_drew1) | exact HB.out)⟩⟩
    case round =>
      clear H'
      try clear c2
      try clear c2b0
      try clear c2b1
      try clear p2
      obtain ⟨x4_1, x5_1, rfl, rfl, HA, HK1, HB⟩ := hrel
      cases gk with
      | zero => exact absurd HA.out (by simp [spec_ReadDecimal.l0])
      | succ k1 =>
        have H := HA.out
        clear HA
        simp only [spec_ReadDecimal.l0] at H
        by_cases c3 : x5_1 < (a0.size : Int)
        · rw [if_pos c3] at H
          have c3b0 : decide (x5_1 < (a0.size : Int)) = true := decide_eq_true c3
          clear c3
          by_cases c4 : 0 ≤ x5_1
          · rw [if_pos c4] at H
            have c4b0 : decide (0 ≤ x5_1) = true := decide_eq_true c4
            clear c4
            by_cases c6 : (bt a0 x5_1) < 48
            · rw [if_pos c6] at H
              have c6b0 : decide ((bt a0 x5_1) < 48) = true := decide_eq_true c6
              clear c6
              simp only [Option.some.injEq, Prod.mk.injEq] at H
              obtain ⟨rfl, rfl⟩ := H
              have p5 : 0 ≤ (x5_1 : Int) := of_decide_eq_true (by first | (with_reducible assumption) | assumption)
              have q5 : x5_1 < (a0.size : Int) := of_decide_eq_true (by first | (with_reducible assumption) | assumption)
              have hx5 := bt_at a0 x5_1
              replace p5 := eq_true p5
              replace q5 := eq_true q5
              go_wp2
              go_ret2
              exact ⟨by first | rfl | (simp [errW_none, errW_some] <;> rfl) | (simp [*, errW_none, errW_some] <;> rfl), by repeat (first | (with_reducible first | exact HB.out | apply below_alloc | apply pw_below_drewN | apply below_drew1) | exact HB.out)⟩
            · rw [if_neg c6] at H
              have c6b0 : decide ((bt a0 x5_1) < 48) = false := decide_eq_false c6
              clear c6
              by_cases c8 : (bt a0 x5_1) > 57
              · rw [if_pos c8] at H
                have c8b0 : decide (57 < (bt a0 x5_1)) = true := decide_eq_true c8
                clear c8
                simp only [Option.some.injEq, Prod.mk.injEq] at H
                obtain ⟨rfl, rfl⟩ := H
                have p5 : 0 ≤ (x5_1 : Int) := of_decide_eq_true (by first | (with_reducible assumption) | assumption)
                have q5 : x5_1 < (a0.size : Int) := of_decide_eq_true (by first | (with_reducible assumption) | assumption)
                have hx5 := bt_at a0 x5_1
                replace p5 := eq_true p5
                replace q5 := eq_true q5
                have p7 : 0 ≤ (x5_1 : Int) := of_decide_eq_true (by first | (with_reducible assumption) | assumption)
                have q7 : x5_1 < (a0.size : Int) := of_decide_eq_true (by first | (with_reducible assumption) | assumption)
                have hx7 := bt_at a0 x5_1
                replace p7 := eq_true p7
                replace q7 := eq_true q7
                go_wp2
                go_ret2
                exact ⟨by first | rfl | (simp [errW_none, errW_some] <;> rfl) | (simp [*, errW_none, errW_some] <;> rfl), by repeat (first | (with_reducible first | exact HB.out | apply below_alloc | apply pw_below_drewN | apply below_drew1) | exact HB.out)⟩
              · rw [if_neg c8] at H
                have c8b0 : decide (57 < (bt a0 x5_1)) = false := decide_eq_false c8
                clear c8
                have H' := Aside0.mk H
                clear H
                have p5 : 0 ≤ (x5_1 : Int) := of_decide_eq_true (by first | (with_reducible assumption) | assumption)
                have q5 : x5_1 < (a0.size : Int) := of_decide_eq_true (by first | (with_reducible assumption) | assumption)
                have hx5 := bt_at a0 x5_1
                replace p5 := eq_true p5
                replace q5 := eq_true q5
                have p7 : 0 ≤ (x5_1 : Int) := of_decide_eq_true (by first | (with_reducible assumption) | assumption)
                have q7 : x5_1 < (a0.size : Int) := of_decide_eq_true (by first | (with_reducible assumption) | assumption)
                have hx7 := bt_at a0 x5_1
                replace p7 := eq_true p7
                replace q7 := eq_true q7
                have p9 : 0 ≤ (x5_1 : Int) := of_decide_eq_true (by first | (with_reducible assumption) | assumption)
                have q9 : x5_1 < (a0.size : Int) := of_decide_eq_true (by first | (with_reducible assumption) | assumption)
                have hx9 := bt_at a0 x5_1
                replace p9 := eq_true p9
                replace q9 := eq_true q9
                go_wp2
                go_roundg k1
                case measure => have := HK1.out; omega
                case rel => exact ⟨(wrap64 ((wrap64 ((wrap64 (10 * x4_1)) + (wrap64 (bt a0 x5_1)))) - 48)), (wrap64 (x5_1 + 1)), (by first | rfl | (simp; done) | (simp [*]; done)), (by first | rfl | (simp; done) | (simp [*]; done)), H', ⟨by have := HK1.out; omega⟩, ⟨by repeat (first | (with_reducible first | exact HB.out | apply below_alloc | apply pw_below_drewN | apply below_drew1) | exact HB.out)⟩⟩
          · rw [if_neg c4] at H
            exact absurd H (by simp)
        · rw [if_neg c3] at H
          have c3b0 : decide (x5_1 < (a0.size : Int)) = false := decide_eq_false c3
          clear c3
          by_cases c10 : x4_1 > 1000000000
          · rw [if_pos c10] at H
            have c10b0 : decide (1000000000 < x4_1) = true := decide_eq_true c10
            clear c10
            simp only [Option.some.injEq, Prod.mk.injEq] at H
            obtain ⟨rfl, rfl⟩ := H
            go_wp2
            go_ret2
            exact ⟨by first | rfl | (simp [errW_none, errW_some] <;> rfl) | (simp [*, errW_none, errW_some] <;> rfl), by repeat (first | (with_reducible first | exact HB.out | apply below_alloc | apply pw_below_drewN | apply below_drew1) | exact HB.out)⟩
          · rw [if_neg c10] at H
            have c10b0 : decide (1000000000 < x4_1) = false := decide_eq_false c10
            clear c10
            replace H := Option.bind_eq_some_iff.mp H
            obtain ⟨t101, A110, H⟩ := H
            replace H : (if t101.toList = a0.toList then (some (x4_1, true)) else (some (0, false))) = some (r1, r2) := H
            have A11 := Aside0.mk A110
            clear A110
            by_cases c12 : t101.toList = a0.toList
            · rw [if_pos c12] at H
              have c12b0 : (t101.toList == a0.toList) = true := beq_iff_eq.mpr c12
              have c12b1 : (t101.toList != a0.toList) = false := bne_eq_false_iff_eq.mpr c12
              clear c12
              simp only [Option.some.injEq, Prod.mk.injEq] at H
              obtain ⟨rfl, rfl⟩ := H
              go_wp2_with (first | (go_at_call 33; (with_reducible refine (spec_Decimal.calls k1 x4_1 t101 _ A11.out).mono ?_); rintro e w13 ⟨rfl, hb⟩; have n0_ := Aside0.mk (below_step (by repeat (first | (with_reducible first | exact HB.out | apply below_alloc | apply pw_below_drewN | apply below_drew1) | exact HB.out)) hb); clear HB; have HB := n0_; clear n0_; (try clear hb); (try clear hb2); (try clear hk); (try clear hi)))
              go_ret2
              exact ⟨by first | rfl | (simp [errW_none, errW_some] <;> rfl) | (simp [*, errW_none, errW_some] <;> rfl), by repeat (first | (with_reducible first | exact HB.out | apply below_alloc | apply pw_below_drewN | apply below_drew1) | exact HB.out)⟩
            · rw [if_neg c12] at H
              have c12b0 : (t101.toList == a0.toList) = false := beq_eq_false_iff_ne.mpr c12
              have c12b1 : (t101.toList != a0.toList) = true := bne_iff_ne.mpr c12
              simp only [Option.some.injEq, Prod.mk.injEq] at H
              obtain ⟨rfl, rfl⟩ := H
              go_wp2_with (first | (go_at_call 33; (with_reducible refine (spec_Decimal.calls k1 x4_1 t101 _ A11.out).mono ?_); rintro e w14 ⟨rfl, hb⟩; have n0_ := Aside0.mk (below_step (by repeat (first | (with_reducible first | exact HB.out | apply below_alloc | apply pw_below_drewN | apply below_drew1) | exact HB.out)) hb); clear HB; have HB := n0_; clear n0_; (try clear hb); (try clear hb2); (try clear hk); (try clear hi)))
              go_ret2
              exact ⟨by first | rfl | (simp [errW_none, errW_some] <;> rfl) | (simp [*, errW_none, errW_some] <;> rfl), by repeat (first | (with_reducible first | exact HB.out | apply below_alloc | apply pw_below_drewN | apply below_drew1) | exact HB.out)⟩

end Go.Proofs.YthnembgbooaplaaDoor.P

namespace Go.Proofs.YthnembgbooaplaaDoor.P
open Go.RowKit Go.Proofs.YthnembgbooaplaaDoorW.PrintWords Go.Proofs.YthnembgbooaplaaDoorW.PrintLast Go.Proofs.YthnembgbooaplaaDoorW.PrintMore
set_option maxRecDepth 100000
set_option maxHeartbeats 8000000
def impl_ReadDecimal.f (a0 : ByteArray) : Option (Int × Bool) :=
  if a0.size ≤ 140737488351232 then
    match Lib.atoiAll a0.data.toList with
    | .ok v => if 0 ≤ v ∧ v ≤ 1000000000 then (if (⟨(Lib.itoa v).toArray⟩ : ByteArray).toList = a0.toList then some (v, true) else some (0, false)) else some (0, false)
    | .«syntax» => some (0, false)
    | .range => some (0, false)
  else none
theorem in_of (v : Int) (b : Bool) (hb : b = decide (0 ≤ v ∧ v ≤ 1000000000)) : impl_in.f v 0 1000000000 = some b := by
  unfold impl_in.f
  subst hb
  by_cases h1 : 0 ≤ v <;> by_cases h2 : v ≤ 1000000000 <;> simp [h1, h2]
theorem below_undrew0 {w w1 : World} {n : Nat} (h : Below (w.drewN n).heap.size (w.drewN n) w1) : Below w.heap.size w w1 := ⟨h.os, h.tape, h.output, h.size, h.block⟩
theorem rd_ok (a0 : ByteArray) (w : World) (hA : EnvA w) (hI : EnvI w) (v : Int) (hB : a0.size ≤ 140737488351232) (h : Lib.atoiAll a0.data.toList = .ok v) (r : ByteArray) (hr : (⟨(Lib.itoa v).toArray⟩ : ByteArray) = r) (b : Bool) (hb : b = decide (0 ≤ v ∧ v ≤ 1000000000 ∧ r.toList = a0.toList)) :
    Calls Tryd.prog 31 #[.string a0] w fun e w' => e = .returned (.tuple #[.int .i64 (if b then v else 0), .bool b]) ∧ Below w.heap.size w w' := by
  have hc := Tryd.strconv_Atoi_ok a0 (by omega) v h w
  have hc' : Calls Tryd.prog 54 #[.string a0] w fun e w' => e = .returned (.tuple #[.int .i64 v, .nilIface]) ∧ Below w.heap.size w w' := hc.mono fun e w' h => ⟨h.1, by
    rcases h.2 with rfl | ⟨t, rfl⟩
    · exact Below.refl _ _
    · exact Lib.bytesWorld_below w _ t⟩
  clear hc h
  by_cases c1 : 0 ≤ v ∧ v ≤ 1000000000
  · obtain ⟨c1, c2⟩ := c1
    have hi : ∀ w : World, EnvI w → Calls Tryd.prog 55 #[.int .i64 v] w fun e w' => e = .returned (.string r) ∧ Below w.heap.size w w' := fun w hE => strconv_Itoa.calls v r w hE (by unfold strconv_Itoa.f; rw [if_pos (by omega), hr])
    clear hr
    have hin : ∀ w : World, Calls Tryd.prog 47 #[.int .i64 v, .int .i64 0, .int .i64 1000000000] w fun e w' => e = .returned (.bool true) ∧ Drawn0 w w' := fun w => impl_in.calls v 0 1000000000 true w (in_of v true (decide_eq_true ⟨c1, c2⟩).symm)
    by_cases c3 : r.toList = a0.toList
    · have hb2 : b = true := by rw [hb]; exact decide_eq_true ⟨c1, c2, c3⟩
      clear hb
      subst hb2
      have c3a : (r.toList == a0.toList) = true := beq_iff_eq.mpr c3
      have c3b : (r.toList != a0.toList) = false := bne_eq_false_iff_eq.mpr c3
      clear c1 c2 c3
      go_enter Tryd.func31, Tryd.ntmps31
      go_wp2_with (first | (go_at_call 54; refine hc'.mono ?_; rintro e w1 ⟨rfl, hb1⟩) | (go_at_call 47; refine (hin _).mono ?_; rintro e w3 ⟨rfl, ⟨nd, rfl⟩⟩) | (go_at_call 55; refine (hi _ ?_).mono ?_; (exact (hI.below hb1).drewN _); rintro e w2 ⟨rfl, hb2⟩))
      go_ret2
      exact ⟨rfl, below_step hb1 (below_undrew0 hb2)⟩
    · have hb2 : b = false := by rw [hb]; exact decide_eq_false fun h => c3 h.2.2
      clear hb
      subst hb2
      have c3a : (r.toList == a0.toList) = false := beq_eq_false_iff_ne.mpr c3
      have c3b : (r.toList != a0.toList) = true := bne_iff_ne.mpr c3
      clear c1 c2 c3
      go_enter Tryd.func31, Tryd.ntmps31
      go_wp2_with (first | (go_at_call 54; refine hc'.mono ?_; rintro e w1 ⟨rfl, hb1⟩) | (go_at_call 47; refine (hin _).mono ?_; rintro e w3 ⟨rfl, ⟨nd, rfl⟩⟩) | (go_at_call 55; refine (hi _ ?_).mono ?_; (exact (hI.below hb1).drewN _); rintro e w2 ⟨rfl, hb2⟩))
      go_ret2
      exact ⟨rfl, below_step hb1 (below_undrew0 hb2)⟩
  · have hb2 : b = false := by rw [hb]; exact decide_eq_false fun h => c1 ⟨h.1, h.2.1⟩
    clear hb
    subst hb2
    have c1' : v < 0 ∨ 1000000000 < v := by omega
    have hin : ∀ w : World, Calls Tryd.prog 47 #[.int .i64 v, .int .i64 0, .int .i64 1000000000] w fun e w' => e = .returned (.bool false) ∧ Drawn0 w w' := fun w => impl_in.calls v 0 1000000000 false w (in_of v false (decide_eq_false c1).symm)
    clear hr c1 c1'
    go_enter Tryd.func31, Tryd.ntmps31
    go_wp2_with (first | (go_at_call 54; refine hc'.mono ?_; rintro e w1 ⟨rfl, hb1⟩) | (go_at_call 47; refine (hin _).mono ?_; rintro e w3 ⟨rfl, ⟨nd, rfl⟩⟩))
    go_ret2
    exact ⟨rfl, pw_below_drewN hb1 _⟩
theorem rd_bad (a0 : ByteArray) (w : World) (v : Int) (T : TypeId) (hc : Calls Tryd.prog 54 #[.string a0] w fun e w' => ∃ N, e = .returned (.tuple #[.int .i64 v, .iface T (.pointer (some ⟨N, 0, none⟩))]) ∧ Below w.heap.size w w') :
    Calls Tryd.prog 31 #[.string a0] w fun e w' => e = .returned (.tuple #[.int .i64 0, .bool false]) ∧ Below w.heap.size w w' := by
  go_enter Tryd.func31, Tryd.ntmps31
  go_wp2_with (go_at_call 54; refine hc.mono ?_; rintro e w1 ⟨N, rfl, hb1⟩)
  go_ret2
  exact ⟨rfl, hb1⟩
theorem impl_ReadDecimal.calls (a0 : ByteArray) (r1 : Int) (r2 : Bool) (w : World) (hA : EnvA w) (hI : EnvI w) (h : impl_ReadDecimal.f a0 = some (r1, r2)) :
    Calls Tryd.prog 31 #[.string a0] w fun e w' => e = .returned (.tuple #[.int .i64 r1, .bool r2]) ∧ Below w.heap.size w w' := by
  unfold impl_ReadDecimal.f at h
  by_cases hB : a0.size ≤ 140737488351232
  · rw [if_pos hB] at h
    cases hq : Lib.atoiAll a0.data.toList with
    | ok v =>
      rw [hq] at h
      refine (rd_ok a0 w hA hI v hB hq _ rfl _ rfl).mono fun e w' he => ⟨he.1.trans ?_, he.2⟩
      simp only at h
      by_cases c1 : 0 ≤ v ∧ v ≤ 1000000000
      · rw [if_pos c1] at h
        by_cases c2 : (⟨(Lib.itoa v).toArray⟩ : ByteArray).toList = a0.toList
        · rw [if_pos c2] at h
          simp only [Option.some.injEq, Prod.mk.injEq] at h
          obtain ⟨rfl, rfl⟩ := h
          rw [decide_eq_true ⟨c1.1, c1.2, c2⟩]; rfl
        · rw [if_neg c2] at h
          simp only [Option.some.injEq, Prod.mk.injEq] at h
          obtain ⟨rfl, rfl⟩ := h
          rw [decide_eq_false fun h => c2 h.2.2]; rfl
      · rw [if_neg c1] at h
        simp only [Option.some.injEq, Prod.mk.injEq] at h
        obtain ⟨rfl, rfl⟩ := h
        rw [decide_eq_false fun h => c1 ⟨h.1, h.2.1⟩]; rfl
    | «syntax» =>
      rw [hq] at h
      simp only [Option.some.injEq, Prod.mk.injEq] at h
      obtain ⟨rfl, rfl⟩ := h
      obtain ⟨tp, p, hv⟩ := hA.syn
      refine rd_bad a0 w 0 122 ((Tryd.strconv_Atoi_syntax_var a0 (by omega) hq tp p w hv).mono ?_)
      rintro e w' ⟨N, rfl, _, _, hb⟩
      exact ⟨N, rfl, hb⟩
    | range =>
      rw [hq] at h
      simp only [Option.some.injEq, Prod.mk.injEq] at h
      obtain ⟨rfl, rfl⟩ := h
      obtain ⟨tp, p, hv⟩ := hA.rng
      refine rd_bad a0 w (Lib.atoiSat a0.data.toList) 122 ((Tryd.strconv_Atoi_range_var a0 (by omega) hq tp p w hv).mono ?_)
      rintro e w' ⟨N, rfl, _, _, hb⟩
      exact ⟨N, rfl, hb⟩
  · rw [if_neg hB] at h
    cases h
end Go.Proofs.YthnembgbooaplaaDoor.P

namespace Go.Proofs.YthnembgbooaplaaDoor.Pure
open Go.RowKit Go.Proofs.YthnembgbooaplaaDoor.P Go.Proofs.YthnembgbooaplaaDoorW.PrintWords
theorem w64 (x : Int) (h0 : -9223372036854775808 ≤ x) (h1 : x ≤ 9223372036854775807) : wrap64 x = x := by unfold wrap64; omega
theorem figure_is (d : Nat) (h : d < 10) : spec_l01Figure.f (d : Int) = some ((48 + d : Nat) : Int) := by
  unfold spec_l01Figure.f
  rw [if_pos (by omega)]
  congr 1
  unfold wrap64
  omega
theorem strOf_one (d : Nat) (h : d < 256) : strOfNums [((d : Nat) : Int)] = mk [UInt8.ofNat d] := by
  unfold strOfNums mk
  simp
theorem mk_append (a b : List UInt8) : mk a ++ mk b = mk (a ++ b) := by
  unfold mk
  apply ByteArray.ext
  simp
theorem mk_size (a : List UInt8) : (mk a).size = a.length := by simp [mk, ByteArray.size]
theorem nDigits_le : ∀ (k n : Nat), n < 10 ^ (k + 1) → Lib.nDigits n ≤ k + 1
  | 0, n, h => by rw [Lib.nDigits_small (by simpa using h)]; omega
  | k + 1, n, h => by
    by_cases h1 : n < 10
    · rw [Lib.nDigits_small h1]; omega
    · rw [Lib.nDigits, dif_neg h1]
      have := nDigits_le k (n / 10) (by rw [Nat.pow_succ] at h; omega)
      omega
theorem tdm (x : Int) (u : Nat) (hx : x.natAbs = u) : (0 ≤ x ∧ Int.tmod x 10 = ((u % 10 : Nat) : Int) ∧ Int.tdiv x 10 = ((u / 10 : Nat) : Int)) ∨ (x < 0 ∧ Int.tmod x 10 = -((u % 10 : Nat) : Int) ∧ Int.tdiv x 10 = -((u / 10 : Nat) : Int)) := by
  rcases Int.lt_or_le x 0 with h | h
  · right
    obtain rfl : x = -(u : Int) := by omega
    exact ⟨h, by rw [Int.neg_tmod]; rfl, by rw [Int.neg_tdiv]; rfl⟩
  · left
    obtain rfl : x = (u : Int) := by omega
    exact ⟨h, rfl, rfl⟩
theorem dec_loop (b : Bool) (k0 : Nat) : ∀ (u : Nat) (x : Int) (acc : List UInt8) (k : Nat), x.natAbs = u → 0 < u → -9223372036854775808 ≤ x → x ≤ 9223372036854775807 → acc.length + Lib.nDigits u ≤ 1000 → Lib.nDigits u + 1 < k →
    spec_Decimal.l0 k x b (mk acc) = some (mk ((if b then [45] else []) ++ (Lib.decDigits u ++ acc))) := by
  intro u
  induction u using Nat.strongRecOn with
  | _ u ih =>
  intro x acc k hx hu h0 h1 ha hk
  obtain ⟨k, rfl⟩ : ∃ m, k = m + 1 := ⟨k - 1, by omega⟩
  have hm : u % 10 < 10 := Nat.mod_lt _ (by omega)
  have hT := tdm x u hx
  have hstep : spec_Decimal.l0 (k + 1) x b (mk acc) = spec_Decimal.l0 k (Int.tdiv x 10) b (mk (UInt8.ofNat (48 + u % 10) :: acc)) := by
    have hw : wrap64 (Int.tdiv x 10) = Int.tdiv x 10 := w64 _ (by omega) (by omega)
    have hs : (mk [UInt8.ofNat (48 + u % 10)]).size + (mk acc).size ≤ 9223372036854775807 := by rw [mk_size, mk_size, List.length_singleton]; omega
    simp only [spec_Decimal.l0]
    rw [if_neg (by omega), hw]
    by_cases hn : Int.tmod x 10 < 0
    · have e : wrap64 (-(Int.tmod x 10)) = ((u % 10 : Nat) : Int) := by rw [w64 _ (by omega) (by omega)]; omega
      rw [if_pos hn, e, figure_is _ hm]
      simp only [Option.bind_some]
      rw [strOf_one _ (by omega), if_pos hs, mk_append]
      rfl
    · have e : Int.tmod x 10 = ((u % 10 : Nat) : Int) := by omega
      rw [if_neg hn, e, figure_is _ hm]
      simp only [Option.bind_some]
      rw [strOf_one _ (by omega), if_pos hs, mk_append]
      rfl
  rw [hstep]
  by_cases h10 : u < 10
  · obtain ⟨k, rfl⟩ : ∃ m, k = m + 1 := ⟨k - 1, by rw [Lib.nDigits_small h10] at hk; omega⟩
    have hz : Int.tdiv x 10 = 0 := by omega
    rw [hz]
    simp only [spec_Decimal.l0]
    rw [Lib.decDigits_one h10, Nat.mod_eq_of_lt h10]
    rw [if_pos trivial]
    cases b with
    | true =>
      rw [if_pos rfl, if_pos (by rw [mk_size, List.length_cons]; omega)]
      rw [show (⟨#[45]⟩ : ByteArray) = mk [45] from rfl, mk_append]
      rfl
    | false => rw [if_neg (by decide)]; rfl
  · have hd : Lib.nDigits u = Lib.nDigits (u / 10) + 1 := by rw [Lib.nDigits, dif_neg h10]
    rw [ih (u / 10) (by omega) (Int.tdiv x 10) _ k (by omega) (by omega) (by omega) (by omega) (by rw [List.length_cons]; omega) (by omega)]
    rw [Lib.decDigits.eq_def u, dif_neg h10, List.append_assoc, List.singleton_append]
theorem Decimal_is (n : Int) (h0 : -9223372036854775808 ≤ n) (h1 : n ≤ 9223372036854775807) (k : Nat) (hk : 30 < k) : spec_Decimal.f k n = some (mk (Lib.itoa n)) := by
  unfold spec_Decimal.f
  by_cases hz : n = 0
  · rw [if_pos hz]; subst hz; rw [show (0 : Int) = ((0 : Nat) : Int) from rfl, Lib.itoa_nonneg, Lib.decDigits_one (by omega)]; rfl
  · rw [if_neg hz]
    have hd := nDigits_le 18 n.natAbs (by have : (10 : Nat) ^ 19 = 10000000000000000000 := by decide
                                          omega)
    have := dec_loop (decide (n < 0)) 0 n.natAbs n [] k rfl (by omega) h0 h1 (by simp; omega) (by omega)
    rw [show (⟨#[]⟩ : ByteArray) = mk [] from rfl, this, List.append_nil]
    unfold Lib.itoa
    by_cases hn : n < 0
    · rw [if_pos hn, decide_eq_true hn]; rfl
    · rw [if_neg hn, decide_eq_false hn, show n.natAbs = n.toNat by omega]; rfl
/-- What both ReadDecimals answer. -/
def readP (l : List UInt8) : Int × Bool :=
  if 10 < l.length then (0, false) else match Lib.decFrom 0 l with
    | none => (0, false)
    | some n => if 1000000000 < n then (0, false) else if Lib.decDigits n = l then ((n : Int), true) else (0, false)
theorem decFrom_append : ∀ (l r : List UInt8) (acc : Nat), Lib.decFrom acc (l ++ r) = (Lib.decFrom acc l).bind fun n => Lib.decFrom n r
  | [], r, acc => rfl
  | b :: l, r, acc => by
    simp only [List.cons_append, Lib.decFrom]
    cases Lib.digitVal b with
    | none => rfl
    | some d => exact decFrom_append l r _
theorem digitVal_of (d : Nat) (h : d < 10) : Lib.digitVal (UInt8.ofNat (48 + d)) = some d := by
  unfold Lib.digitVal
  rw [show (UInt8.ofNat (48 + d)).toNat = 48 + d from by simp; omega, if_pos (by omega)]
  congr 1; omega
theorem decFrom_digits (u : Nat) : Lib.decFrom 0 (Lib.decDigits u) = some u := by
  induction u using Nat.strongRecOn with
  | _ u ih =>
  by_cases h : u < 10
  · rw [Lib.decDigits_one h]; simp only [Lib.decFrom]; rw [digitVal_of u h]; simp
  · rw [Lib.decDigits.eq_def u, dif_neg h, decFrom_append, ih (u / 10) (by omega)]
    simp only [Option.bind_some, Lib.decFrom, digitVal_of (u % 10) (by omega)]
    congr 1; omega
theorem decFrom_lt : ∀ (l : List UInt8) (acc n : Nat), Lib.decFrom acc l = some n → n < (acc + 1) * 10 ^ l.length
  | [], acc, n, h => by simp only [Lib.decFrom, Option.some.injEq] at h; subst h; simp
  | b :: l, acc, n, h => by
    simp only [Lib.decFrom] at h
    cases hd : Lib.digitVal b with
    | none => rw [hd] at h; cases h
    | some d =>
      rw [hd] at h
      have h1 := decFrom_lt l _ n h
      obtain ⟨_, _, hdd⟩ := Lib.digitVal_eq hd
      have hb := b.toNat_lt
      rw [List.length_cons, Nat.pow_succ, Nat.mul_comm (10 ^ l.length) 10, ← Nat.mul_assoc]
      exact Nat.lt_of_lt_of_le h1 (Nat.mul_le_mul_right _ (by omega))
theorem atoi_digits (u : Nat) (h : u ≤ 1000000000) : Lib.atoiAll (Lib.decDigits u) = .ok (u : Int) ∧ (Lib.decDigits u).length ≤ 10 := by
  have hl : (Lib.decDigits u).length ≤ 10 := by
    rw [Lib.decDigits_length]
    exact nDigits_le 9 u (by have : (10 : Nat) ^ (9 + 1) = 10000000000 := by decide
                             omega)
  refine ⟨?_, hl⟩
  have hf := decFrom_digits u
  rcases hd : Lib.decDigits u with _ | ⟨c, r⟩
  · have := Lib.decDigits_length u
    rw [hd] at this
    have h2 : 0 < Lib.nDigits u := by rw [Lib.nDigits]; split <;> omega
    simp at this; omega
  · rw [hd] at hf hl
    have hc : ∃ d, Lib.digitVal c = some d := Lib.digit_of_decFrom (c :: r) 0 u hf 0 c rfl
    obtain ⟨d, hc⟩ := hc
    obtain ⟨c1, c2, _⟩ := Lib.digitVal_eq hc
    unfold Lib.atoiAll
    simp only
    rw [if_neg (by omega)]
    have hp : Lib.parseMag (c :: r) = .ok u := by
      unfold Lib.parseMag
      rw [if_neg (by simp), Lib.parseUint10_short (c :: r) 0 1 (by decide) (by omega), hf]
      rfl
    rw [hp]
    simp only
    rw [if_neg (by omega), if_neg (by omega), if_neg (by omega)]
theorem readP_hit (u : Nat) (h : u ≤ 1000000000) : readP (Lib.decDigits u) = ((u : Int), true) := by
  unfold readP
  rw [if_neg (by have := (atoi_digits u h).2; omega), decFrom_digits]
  simp only
  rw [if_neg (by omega)]
  simp
theorem readP_miss (l : List UInt8) (h : ∀ u, u ≤ 1000000000 → Lib.decDigits u ≠ l) : readP l = (0, false) := by
  unfold readP
  split
  · rfl
  · split
    · rfl
    · split
      · rfl
      · rw [if_neg (h _ (by omega))]
theorem implRead_is (s : ByteArray) (hs : s.size ≤ 140737488351232) : impl_ReadDecimal.f s = some (readP s.data.toList) := by
  unfold impl_ReadDecimal.f
  rw [if_pos hs]
  by_cases H : ∃ u, u ≤ 1000000000 ∧ Lib.decDigits u = s.data.toList
  · obtain ⟨u, hu, he⟩ := H
    rw [← he, readP_hit u hu, (atoi_digits u hu).1]
    simp only
    rw [if_pos (by omega), if_pos (by rw [toList_is, toList_is, ← he]; simp [Lib.itoa_nonneg])]
  · have hm : ∀ u, u ≤ 1000000000 → Lib.decDigits u ≠ s.data.toList := fun u hu he => H ⟨u, hu, he⟩
    rw [readP_miss _ hm]
    cases Lib.atoiAll s.data.toList with
    | ok v =>
      simp only
      by_cases hv : 0 ≤ v ∧ v ≤ 1000000000
      · rw [if_pos hv, if_neg]
        intro he
        rw [toList_is, toList_is] at he
        refine hm v.toNat (by omega) ?_
        rw [← he]
        obtain ⟨n, rfl⟩ : ∃ n : Nat, v = (n : Int) := ⟨v.toNat, by omega⟩
        rw [Lib.itoa_nonneg]
        simp
      · rw [if_neg hv]
    | «syntax» => rfl
    | range => rfl
theorem specRead_loop (s : ByteArray) (hs : s.size ≤ 10) (d : Nat) : ∀ (i acc : Nat), i + d = s.size → acc < 10 ^ i → ∀ k, d + 40 < k →
    spec_ReadDecimal.l0 k s (acc : Int) (i : Int) = some (match Lib.decFrom acc (s.data.toList.drop i) with
      | none => (0, false)
      | some n => if 1000000000 < n then (0, false) else if Lib.decDigits n = s.data.toList then ((n : Int), true) else (0, false)) := by
  induction d with
  | zero =>
    intro i acc hi ha k hk
    obtain ⟨k, rfl⟩ : ∃ m, k = m + 1 := ⟨k - 1, by omega⟩
    have hb : acc < 10 ^ 10 := Nat.lt_of_lt_of_le ha (Nat.pow_le_pow_right (by omega) (by omega))
    have hb' : (10 : Nat) ^ 10 = 10000000000 := by decide
    simp only [spec_ReadDecimal.l0]
    rw [if_neg (by omega), List.drop_eq_nil_of_le (by simp; omega)]
    simp only [Lib.decFrom]
    by_cases h1 : 1000000000 < acc
    · rw [if_pos h1, if_pos (by omega)]
    · rw [if_neg h1, if_neg (by omega), Decimal_is _ (by omega) (by omega) k (by omega)]
      simp only [Option.bind_some]
      rw [toList_is, toList_is, data_mk, Lib.itoa_nonneg]
      split <;> rfl
  | succ d ih =>
    intro i acc hi ha k hk
    obtain ⟨k, rfl⟩ : ∃ m, k = m + 1 := ⟨k - 1, by omega⟩
    have hl : i < s.data.toList.length := by simp; omega
    have hb : acc < 10 ^ 10 := Nat.lt_of_lt_of_le ha (Nat.pow_le_pow_right (by omega) (by omega))
    have hb' : (10 : Nat) ^ 10 = 10000000000 := by decide
    have e : wrap64 ((i : Int) + 1) = ((i + 1 : Nat) : Int) := by rw [w64 _ (by omega) (by omega)]; omega
    simp only [spec_ReadDecimal.l0]
    rw [if_pos (by omega), if_pos (by omega), btl s i hl, e, List.drop_eq_getElem_cons hl]
    generalize s.data.toList[i] = c
    have hc := c.toNat_lt
    simp only [Lib.decFrom]
    by_cases h1 : ((c.toNat : Nat) : Int) < 48
    · have hd : Lib.digitVal c = none := by unfold Lib.digitVal; rw [if_neg (by omega)]
      rw [if_pos h1, hd]
    · rw [if_neg h1]
      by_cases h2 : ((c.toNat : Nat) : Int) > 57
      · have hd : Lib.digitVal c = none := by unfold Lib.digitVal; rw [if_neg (by omega)]
        rw [if_pos h2, hd]
      · have hd : Lib.digitVal c = some (c.toNat - 48) := by unfold Lib.digitVal; rw [if_pos (by omega)]
        rw [if_neg h2, hd]
        have e2 : wrap64 ((wrap64 ((wrap64 (10 * (acc : Int))) + (wrap64 ((c.toNat : Nat) : Int)))) - 48) = ((acc * 10 + (c.toNat - 48) : Nat) : Int) := by
          rw [w64 (10 * (acc : Int)) (by omega) (by omega), w64 ((c.toNat : Nat) : Int) (by omega) (by omega), w64 (10 * (acc : Int) + ((c.toNat : Nat) : Int)) (by omega) (by omega), w64 _ (by omega) (by omega)]
          omega
        rw [e2]
        exact ih (i + 1) _ (by omega) (by rw [Nat.pow_succ]; omega) k (by omega)
theorem specRead_is (s : ByteArray) (k : Nat) (hk : 60 < k) : spec_ReadDecimal.f k s = some (readP s.data.toList) := by
  unfold spec_ReadDecimal.f readP
  by_cases h : s.size > 10
  · rw [if_pos (by omega), if_pos (by simpa using h)]
  · rw [if_neg (by omega), if_neg (by simpa using h)]
    have := specRead_loop s (by omega) s.size 0 0 (by omega) (by decide) k (by omega)
    rw [List.drop_zero] at this
    exact this
end Go.Proofs.YthnembgbooaplaaDoor.Pure

namespace Go.Proofs.YthnembgbooaplaaDoor.Pure
open Go.RowKit Go.Proofs.YthnembgbooaplaaDoor.P Go.Proofs.YthnembgbooaplaaDoorW.PrintWords
theorem labelOk_is (a : Int) (b : ByteArray) (hb : b.size ≤ 140737488351232) : impl_LabelOk.f a b = some (decide (1 ≤ a ∧ a ≤ 5) && nameOkP b) := by
  unfold impl_LabelOk.f impl_isLabelKind.f impl_in.f
  by_cases h1 : 1 ≤ a
  · rw [if_pos h1]
    simp only [Option.bind_some]
    by_cases h2 : a ≤ 5
    · rw [decide_eq_true h2, if_pos rfl, implName_is b hb, decide_eq_true ⟨h1, h2⟩]; rfl
    · rw [decide_eq_false h2, if_neg (by decide), decide_eq_false (fun h => h2 h.2)]; rfl
  · rw [if_neg h1]
    simp only [Option.bind_some]
    rw [if_neg (by decide), decide_eq_false (fun h => h1 h.1)]; rfl
theorem slabelOk_is (a : Int) (b : ByteArray) (k : Nat) (hk : 300 < k) : spec_LabelOk.f k a b = some (decide (1 ≤ a ∧ a ≤ 5) && nameOkP b) := by
  unfold spec_LabelOk.f spec_l01In.f
  by_cases h1 : 1 ≤ a
  · rw [if_pos (show a ≥ 1 from h1)]
    simp only [Option.bind_some]
    by_cases h2 : a ≤ 5
    · rw [decide_eq_true h2, if_pos rfl, specName_is b k hk, decide_eq_true ⟨h1, h2⟩]; rfl
    · rw [decide_eq_false h2, if_neg (by decide), decide_eq_false (fun h => h2 h.2)]; rfl
  · rw [if_neg (show ¬ a ≥ 1 from h1)]
    simp only [Option.bind_some]
    rw [if_neg (by decide), decide_eq_false (fun h => h1 h.1)]; rfl
theorem word_both (a : Int) (h1 : 1 ≤ a) (h2 : a ≤ 5) : ∃ w, spec_l03Word.f a = some w ∧ impl_labelWord.f a = some w ∧ w.size ≤ 10 := by
  have : a = 1 ∨ a = 2 ∨ a = 3 ∨ a = 4 ∨ a = 5 := by omega
  rcases this with rfl | rfl | rfl | rfl | rfl
  all_goals exact ⟨_, rfl, by kernel_rfl, by decide⟩
theorem nameOk_size (b : ByteArray) (h : nameOkP b = true) : b.size ≤ 40 := by
  unfold nameOkP at h
  by_cases h1 : 40 < b.size
  · rw [if_pos h1] at h; cases h
  · omega
theorem labelText_both (a : Int) (b : ByteArray) (hb : b.size ≤ 140737488351232) : ∃ r : ByteArray × Bool, (∀ k, 300 < k → spec_LabelText.f k a b = some r) ∧ impl_LabelText.f a b = some r ∧ ((r.2 = false ∧ r.1 = ⟨#[]⟩) ∨ (r.2 = true ∧ 0 < r.1.size ∧ r.1.size ≤ 60)) := by
  unfold impl_LabelText.f
  rw [labelOk_is a b hb]
  simp only [Option.bind_some]
  by_cases h : 1 ≤ a ∧ a ≤ 5
  · cases hn : nameOkP b with
    | true =>
      have hs := nameOk_size b hn
      obtain ⟨w, w1, w2, w3⟩ := word_both a h.1 h.2
      have e1 : (w ++ (⟨#[58]⟩ : ByteArray)).size = w.size + 1 := by rw [ByteArray.size_append]; rfl
      rw [decide_eq_true h, if_pos (by rfl), w2]
      simp only [Option.bind_some]
      rw [if_pos (by omega), if_pos (by rw [e1]; omega)]
      refine ⟨_, fun k hk => ?_, rfl, .inr ⟨rfl, ?_, ?_⟩⟩
      · unfold spec_LabelText.f
        rw [slabelOk_is a b k hk, decide_eq_true h, hn]
        simp only [Option.bind_some]
        rw [if_pos (by rfl), w1]
        simp only [Option.bind_some]
        rw [if_pos (by omega), if_pos (by rw [e1]; omega)]
      · show 0 < (w ++ (⟨#[58]⟩ : ByteArray) ++ b).size
        rw [ByteArray.size_append, e1]; omega
      · show (w ++ (⟨#[58]⟩ : ByteArray) ++ b).size ≤ 60
        rw [ByteArray.size_append, e1]; omega
    | false =>
      rw [Bool.and_false, if_neg (by decide)]
      refine ⟨_, fun k hk => ?_, rfl, .inl ⟨rfl, rfl⟩⟩
      unfold spec_LabelText.f
      rw [slabelOk_is a b k hk, hn, Bool.and_false]
      simp only [Option.bind_some]
      rw [if_neg (by decide)]
  · rw [decide_eq_false h, Bool.false_and, if_neg (by decide)]
    refine ⟨_, fun k hk => ?_, rfl, .inl ⟨rfl, rfl⟩⟩
    unfold spec_LabelText.f
    rw [slabelOk_is a b k hk, decide_eq_false h, Bool.false_and]
    simp only [Option.bind_some]
    rw [if_neg (by decide)]
def ints (l : List UInt8) : List Int := l.map fun b => ((b.toNat : Nat) : Int)
theorem strOf_ints (l : List UInt8) : strOfNums (ints l) = mk l := by
  unfold strOfNums ints mk
  rw [List.map_map, show ((fun n : Int => UInt8.ofNat n.toNat) ∘ fun b : UInt8 => ((b.toNat : Nat) : Int)) = id from funext fun b => by simp, List.map_id]
theorem bytesOf_ints (t : ByteArray) : bytesOf t = ints t.data.toList := by
  unfold bytesOf ints
  rfl
theorem join_snoc (sep : List UInt8) : ∀ (T : List (List UInt8)) (t : List UInt8), Lib.join (T ++ [t]) sep = if T = [] then t else Lib.join T sep ++ sep ++ t
  | [], t => by simp [Lib.join]
  | [a], t => by simp [Lib.join, List.intercalate, List.intersperse]
  | a :: b :: T, t => by
    have ih := join_snoc sep (b :: T) t
    unfold Lib.join at ih ⊢
    rw [if_neg (by simp)] at ih
    rw [if_neg (by simp)]
    simp only [List.cons_append, List.intercalate, List.intersperse, List.flatten_cons] at ih ⊢
    rw [ih]
    simp [List.append_assoc]
def joinT (T : List ByteArray) : List UInt8 := Lib.join (T.map (·.data.toList)) [44]
theorem joinT_snoc (T : List ByteArray) (t : ByteArray) : joinT (T ++ [t]) = if T = [] then t.data.toList else joinT T ++ 44 :: t.data.toList := by
  unfold joinT
  rw [List.map_append, List.map_cons, List.map_nil, join_snoc]
  by_cases h : T = []
  · rw [if_pos h, if_pos (by rw [h]; rfl)]
  · rw [if_neg h, if_neg (by simpa using h)]; simp
theorem labels_loop (x : List S83) (hx : x.length ≤ 2000000) (hs : ∀ a ∈ x, a.f1.size ≤ 140737488351232) (d : Nat) : ∀ (i : Nat) (T : List ByteArray), i + d = x.length → T.length ≤ i → (joinT T).length ≤ 61 * T.length → (T = [] ↔ joinT T = []) →
    ∀ k, d + 310 < k → ∃ r, spec_LabelsText.l0 k x (ints (joinT T)) (i : Int) = some r ∧ impl_LabelsText.l0 k T x (x.length : Int) (i : Int) = some r ∧ r.size ≤ 200000000 := by
  have hil : ∀ l, (ints l).length = l.length := fun l => by simp [ints]
  induction d with
  | zero =>
    intro i T hi hT hJ hE k hk
    obtain ⟨k, rfl⟩ : ∃ m, k = m + 1 := ⟨k - 1, by omega⟩
    simp only [spec_LabelsText.l0, impl_LabelsText.l0]
    rw [if_neg (show ¬ (i : Int) < (x.length : Int) by omega), if_neg (show ¬ (i : Int) < (x.length : Int) by omega), strOf_ints, hil]
    by_cases h : T = []
    · have h2 := hE.1 h
      rw [h2, h]
      exact ⟨_, rfl, rfl, by decide⟩
    · have h2 : joinT T ≠ [] := fun h3 => h (hE.2 h3)
      have l1 : 0 < T.length := List.length_pos_iff.2 h
      have l2 : 0 < (joinT T).length := List.length_pos_iff.2 h2
      rw [if_neg (by omega), if_neg (by omega)]
      refine ⟨_, rfl, ?_, by rw [mk_size]; omega⟩
      unfold strings_Join.f
      rw [if_pos ⟨by omega, by show (joinT T).length ≤ _; omega⟩]
      rfl
  | succ d ih =>
    intro i T hi hT hJ hE k hk
    obtain ⟨k, rfl⟩ : ∃ m, k = m + 1 := ⟨k - 1, by omega⟩
    have hlt : i < x.length := by omega
    have hr : rd_T83 x (i : Int) = x[i] := by unfold rd_T83; rw [Int.toNat_natCast, List.getD_eq_getElem?_getD, List.getElem?_eq_getElem hlt]; rfl
    have e : wrap64 ((i : Int) + 1) = ((i + 1 : Nat) : Int) := by unfold wrap64; omega
    obtain ⟨r, r1, r2, r3⟩ := labelText_both x[i].f0 x[i].f1 (hs _ (List.getElem_mem hlt))
    simp only [spec_LabelsText.l0, impl_LabelsText.l0]
    simp only [eq_true (show (i : Int) < (x.length : Int) by omega), eq_true (show (0 : Int) ≤ (i : Int) by omega), if_true, hr, r1 k (by omega), r2, e, Option.bind_some]
    obtain ⟨t, ok⟩ := r
    rcases r3 with ⟨rfl, rfl⟩ | ⟨rfl, s1, s2⟩
    · simp only [if_neg (show ¬ (false = true) by decide)]
      rw [if_pos (by rw [hil]; show _ + 0 < _; omega)]
      have hb : ints (joinT T) ++ bytesOf (⟨#[]⟩ : ByteArray) = ints (joinT T) := by rw [bytesOf_ints]; simp [ints]
      simp only [hb]
      exact ih (i + 1) T (by omega) (by omega) hJ hE k (by omega)
    · have s1 : 0 < t.size := s1
      have s2 : t.size ≤ 60 := s2
      have hts : t.data.toList.length = t.size := by simp
      have hJ2 : (joinT (T ++ [t])).length ≤ 61 * (T ++ [t]).length := by
        rw [joinT_snoc]
        split
        · rw [hts, List.length_append, List.length_singleton]; omega
        · rw [List.length_append, List.length_cons, hts, List.length_append, List.length_singleton]; omega
      have hE2 : (T ++ [t] = [] ↔ joinT (T ++ [t]) = []) := by
        refine ⟨fun h => by simp at h, fun h => ?_⟩
        rw [joinT_snoc] at h
        split at h
        · rw [h] at hts; simp at hts; omega
        · simp at h
      obtain ⟨r, i1, i2, i3⟩ := ih (i + 1) (T ++ [t]) (by omega) (by simp; omega) hJ2 hE2 k (by omega)
      simp only [if_true, eq_true (show T.length < 8796093022208 by omega)]
      refine ⟨r, ?_, i2, i3⟩
      by_cases h : T = []
      · subst h
        rw [if_neg (by rw [hil]; show ¬ ((0 : Nat) : Int) > 0; omega), if_pos (by rw [hil]; show 0 + _ < _; omega)]
        have hb : ints (joinT []) ++ bytesOf t = ints (joinT ([] ++ [t])) := by rw [joinT_snoc, if_pos rfl, bytesOf_ints]; rfl
        rw [hb]; exact i1
      · have h2 : joinT T ≠ [] := fun h3 => h (hE.2 h3)
        have l2 : 0 < (joinT T).length := List.length_pos_iff.2 h2
        rw [if_pos (by rw [hil]; omega), if_pos (by rw [hil]; omega), if_pos (by rw [List.length_append, hil, List.length_singleton]; omega)]
        have hb : (ints (joinT T) ++ [44]) ++ bytesOf t = ints (joinT (T ++ [t])) := by rw [joinT_snoc, if_neg h, bytesOf_ints]; simp [ints]
        rw [hb]; exact i1
theorem labels_both (x : List S83) (hx : x.length ≤ 2000000) (hs : ∀ a ∈ x, a.f1.size ≤ 140737488351232) (k : Nat) (hk : x.length + 320 < k) : ∃ r, spec_LabelsText.f k x = some r ∧ impl_LabelsText.f k x = some r ∧ r.size ≤ 200000000 :=
  labels_loop x hx hs x.length 0 [] (by omega) (by simp) (by simp [joinT, Lib.join]) (by simp [joinT, Lib.join]) k (by omega)
end Go.Proofs.YthnembgbooaplaaDoor.Pure

namespace Go.Proofs.YthnembgbooaplaaDoor.Pure
open Go.RowKit Go.Proofs.YthnembgbooaplaaDoor.P Go.Proofs.YthnembgbooaplaaDoorW.PrintWords
theorem w64_ (x : Int) (h0 : -9223372036854775808 ≤ x) (h1 : x ≤ 9223372036854775807) : wrap64 x = x := by unfold wrap64; omega
theorem getD_lt {α : Type} (z : α) (l : List α) (i : Nat) (h : i < l.length) : l.getD i z = l[i] := by
  rw [List.getD_eq_getElem?_getD, List.getElem?_eq_getElem h]; rfl
/-- A loop that takes each element's size off what is left, and gives -1 where nothing is left. -/
theorem sz_loop {α : Type} (z : α) (L : Nat → List α → Int → Int → Option Int) (Z : Nat → α → Int → Option Int) (K0 : Nat)
    (hL : ∀ k x left i, L (k + 1) x left i = if i < (x.length : Int) then (if 0 ≤ i then ((Z k (x.getD i.toNat z) left).bind fun t => (if t < 0 then (some (-1)) else (L k x t (wrap64 (i + 1))))) else none) else some left)
    (Q : α → Int → Prop) (hQ : ∀ a b c, Q a b → b ≤ c → Q a c) (x : List α) (hx : x.length ≤ 1000000000)
    (hZ : ∀ k, K0 ≤ k → ∀ a ∈ x, ∀ left, 0 ≤ left → left ≤ 1048576 → ∃ r, Z k a left = some r ∧ r ≤ left ∧ (0 ≤ r → Q a left)) (d : Nat) :
    ∀ (i : Nat) (left : Int), i + d = x.length → 0 ≤ left → left ≤ 1048576 → ∀ k, K0 + d < k → ∃ r, L k x left (i : Int) = some r ∧ r ≤ left ∧ (0 ≤ r → ∀ j a, i ≤ j → x[j]? = some a → Q a left) := by
  induction d with
  | zero =>
    intro i left hi h0 h1 k hk
    obtain ⟨k, rfl⟩ : ∃ m, k = m + 1 := ⟨k - 1, by omega⟩
    rw [hL, if_neg (by omega)]
    exact ⟨left, rfl, Int.le_refl _, fun _ j a hj ha => by rw [List.getElem?_eq_none (by omega)] at ha; cases ha⟩
  | succ d ih =>
    intro i left hi h0 h1 k hk
    obtain ⟨k, rfl⟩ : ∃ m, k = m + 1 := ⟨k - 1, by omega⟩
    have hlt : i < x.length := by omega
    have e : wrap64 ((i : Int) + 1) = ((i + 1 : Nat) : Int) := by rw [w64_ _ (by omega) (by omega)]; rfl
    rw [hL, if_pos (by omega), if_pos (by omega), Int.toNat_natCast, getD_lt z x i hlt, e]
    obtain ⟨r, hr, hle, hq⟩ := hZ k (by omega) x[i] (List.getElem_mem hlt) left h0 h1
    rw [hr]
    simp only [Option.bind_some]
    by_cases hn : r < 0
    · rw [if_pos hn]; exact ⟨-1, rfl, by omega, fun h => by omega⟩
    · rw [if_neg hn]
      obtain ⟨r2, h2, h3, h4⟩ := ih (i + 1) r (by omega) (by omega) (by omega) k (by omega)
      refine ⟨r2, h2, by omega, fun h5 j a hj ha => ?_⟩
      by_cases hji : j = i
      · subst hji
        rw [List.getElem?_eq_getElem hlt] at ha
        obtain rfl := Option.some.inj ha
        exact hq (by omega)
      · exact hQ _ _ _ (h4 h5 j a (by omega) ha) hle
/-- A loop that copies each element, turned, into a row of as many. -/
theorem to_loop {α β : Type} (z : α) (L : Nat → List α → List β → Int → Option (List β)) (C : Nat → α → Option β) (c : α → β) (K0 : Nat)
    (hL : ∀ k x y i, L (k + 1) x y i = if i < (x.length : Int) then (if 0 ≤ i then ((C k (x.getD i.toNat z)).bind fun b => (if i < (y.length : Int) then (L k x (y.set i.toNat b) (wrap64 (i + 1))) else none)) else none) else some y)
    (x : List α) (hx : x.length ≤ 1000000000) (hC : ∀ k, K0 ≤ k → ∀ a ∈ x, C k a = some (c a)) (d : Nat) :
    ∀ (i : Nat) (y : List β), i + d = x.length → y.length = x.length → ∀ k, K0 + d < k → L k x y (i : Int) = some ((y.take i) ++ (x.drop i).map c) := by
  induction d with
  | zero =>
    intro i y hi hy k hk
    obtain ⟨k, rfl⟩ : ∃ m, k = m + 1 := ⟨k - 1, by omega⟩
    rw [hL, if_neg (by omega), List.drop_eq_nil_of_le (by omega), List.take_of_length_le (by omega)]
    simp
  | succ d ih =>
    intro i y hi hy k hk
    obtain ⟨k, rfl⟩ : ∃ m, k = m + 1 := ⟨k - 1, by omega⟩
    have hlt : i < x.length := by omega
    have e : wrap64 ((i : Int) + 1) = ((i + 1 : Nat) : Int) := by rw [w64_ _ (by omega) (by omega)]; rfl
    rw [hL, if_pos (by omega), if_pos (by omega), Int.toNat_natCast, getD_lt z x i hlt, e, hC k (by omega) x[i] (List.getElem_mem hlt)]
    simp only [Option.bind_some]
    rw [if_pos (by omega), ih (i + 1) _ (by omega) (by simpa using hy) k (by omega), List.drop_eq_getElem_cons hlt, List.map_cons]
    rw [List.take_succ_eq_append_getElem (by simp; omega)]
    simp [List.take_set_of_le]
/-- A loop that compares element by element, at one row with itself. -/
theorem eq_loop {α : Type} (z : α) (L : Nat → List α → List α → Int → Option Bool) (E : Nat → α → α → Option Bool) (K0 : Nat)
    (hL : ∀ k x y i, L (k + 1) x y i = if i < (x.length : Int) then (if 0 ≤ i then (if i < (y.length : Int) then ((E k (x.getD i.toNat z) (y.getD i.toNat z)).bind fun t => (if t = true then (L k x y (wrap64 (i + 1))) else (some false))) else none) else none) else some true)
    (x : List α) (hx : x.length ≤ 1000000000) (hE : ∀ k, K0 ≤ k → ∀ a ∈ x, E k a a = some true) (d : Nat) :
    ∀ (i : Nat), i + d = x.length → ∀ k, K0 + d < k → L k x x (i : Int) = some true := by
  induction d with
  | zero =>
    intro i hi k hk
    obtain ⟨k, rfl⟩ : ∃ m, k = m + 1 := ⟨k - 1, by omega⟩
    rw [hL, if_neg (by omega)]
  | succ d ih =>
    intro i hi k hk
    obtain ⟨k, rfl⟩ : ∃ m, k = m + 1 := ⟨k - 1, by omega⟩
    have hlt : i < x.length := by omega
    have e : wrap64 ((i : Int) + 1) = ((i + 1 : Nat) : Int) := by rw [w64_ _ (by omega) (by omega)]; rfl
    rw [hL, if_pos (by omega), if_pos (by omega), if_pos (by omega), Int.toNat_natCast, getD_lt z x i hlt, e, hE k (by omega) x[i] (List.getElem_mem hlt)]
    simp only [Option.bind_some]
    rw [if_pos trivial]
    exact ih (i + 1) (by omega) k (by omega)
end Go.Proofs.YthnembgbooaplaaDoor.Pure

namespace Go.Proofs.YthnembgbooaplaaDoor.Pure
open Go.RowKit Go.Proofs.YthnembgbooaplaaDoor.P Go.Proofs.YthnembgbooaplaaDoorW.PrintWords
def toL (a : S80) : S83 := ⟨a.f0, a.f1⟩
theorem szLabelS_is (x : List S80) (hx : x.length ≤ 100000000000000) (hs : ∀ a ∈ x, a.f1.size ≤ 140737488351232) (left : Int) (h0 : 0 ≤ left) (h1 : left ≤ 1048576) (k : Nat) (hk : 1048600 < k) :
    ∃ r, laws_szLabelS.f k x left = some r ∧ r ≤ left ∧ (0 ≤ r → (x.length : Int) ≤ left ∧ ∀ a ∈ x, (a.f1.size : Int) ≤ left) := by
  unfold laws_szLabelS.f
  rw [w64_ _ (by omega) (by omega)]
  by_cases h : left - (x.length : Int) < 0
  · rw [if_pos h]; exact ⟨-1, rfl, by omega, fun h => by omega⟩
  · rw [if_neg h]
    obtain ⟨r, r1, r2, r3⟩ := sz_loop (z := z80) laws_szLabelS.l0 (fun _ a left => laws_szLabel.f a.f0 a.f1 left) 0 (fun k x left i => rfl) (fun a l => (a.f1.size : Int) ≤ l) (fun a b c h1 h2 => Int.le_trans h1 h2) x (by omega)
      (fun k _ a ha left h0 h1 => by
        have := hs a ha
        simp only [laws_szLabel.f]
        rw [w64_ _ (by omega) (by omega)]
        by_cases h : left - (a.f1.size : Int) < 0
        · rw [if_pos h]; exact ⟨-1, rfl, by omega, fun h => by omega⟩
        · rw [if_neg h]; exact ⟨_, rfl, by omega, fun _ => by omega⟩) x.length 0 (left - (x.length : Int)) (by omega) (by omega) (by omega) k (by omega)
    refine ⟨r, r1, by omega, fun h4 => ⟨by omega, fun a ha => ?_⟩⟩
    obtain ⟨j, hj, rfl⟩ := List.getElem_of_mem ha
    have := r3 h4 j _ (Nat.zero_le _) (List.getElem?_eq_getElem hj)
    omega
theorem toLabelS_is (x : List S80) (hx : x.length ≤ 1048576) (k : Nat) (hk : x.length + 1 < k) : laws_toLabelS.f k x = some (x.map toL) := by
  unfold laws_toLabelS.f
  rw [if_pos (by omega), if_pos (by omega), Int.toNat_natCast]
  have := to_loop (z := z80) laws_toLabelS.l0 (fun _ a => some (toL a)) toL 0 (fun k x y i => rfl) x (by omega) (fun k _ a _ => rfl) x.length 0 (List.replicate x.length z83) (by omega) (by simp) k (by omega)
  rw [show ((0 : Nat) : Int) = 0 from rfl] at this
  rw [this]
  simp
theorem eqLabelS_is (x : List S83) (hx : x.length ≤ 1048576) (k : Nat) (hk : x.length + 1 < k) : laws_eqLabelS.f k x x = some true := by
  unfold laws_eqLabelS.f
  rw [if_pos rfl]
  exact eq_loop (z := z83) laws_eqLabelS.l0 (fun _ a b => laws_eqLabel.f a.f0 a.f1 b.f0 b.f1) 0 (fun k x y i => rfl) x (by omega) (fun k _ a _ => by simp only [laws_eqLabel.f, if_true]) x.length 0 (by omega) k (by omega)
theorem FnExactVerdictLine (a : ByteArray) (b : Int) (l : List S80) (d : Int) (h : a.size ≤ 140737488351232 ∧ (Lit.int .i64 b).wf = true ∧ (l.length * 24 ≤ 140737488351232 ∧ ∀ x ∈ l, (Lit.int .i64 x.f0).wf = true ∧ x.f1.size ≤ 140737488351232) ∧ (Lit.int .i64 d).wf = true) : ∃ k, laws_FnExactVerdictLine.f k a b l d = some true := by
  obtain ⟨ha, hb, ⟨hl, hs⟩, hd⟩ := h
  have hwf : ∀ n, (Lit.int .i64 n).wf = true → -9223372036854775808 ≤ n ∧ n ≤ 9223372036854775807 := fun n h => by
    have e1 : IntKind.i64.min = -9223372036854775808 := rfl
    have e2 : IntKind.i64.max = 9223372036854775807 := rfl
    simpa [Lit.wf, e1, e2] using h
  have hb := hwf b hb
  have hd := hwf d hd
  refine ⟨1100000, ?_⟩
  unfold laws_FnExactVerdictLine.f laws_szVerdict.f
  rw [w64_ _ (by omega) (by omega)]
  by_cases c0 : 1048576 - (a.size : Int) < 0
  · rw [if_pos c0]; rfl
  · rw [if_neg c0]
    obtain ⟨r, r1, r2, r3⟩ := szLabelS_is l (by omega) (fun x hx => (hs x hx).2) (1048576 - (a.size : Int)) (by omega) (by omega) 1100000 (by omega)
    rw [r1]
    simp only [Option.bind_some]
    by_cases c1 : r < 0
    · rw [if_pos c1]; rfl
    · rw [if_neg c1]
      simp only [Option.bind_some]
      rw [if_neg c1]
      obtain ⟨hlen, hsz⟩ := r3 (by omega)
      have hlen' : l.length ≤ 1048576 := by omega
      simp only [laws_toVerdict.f, toLabelS_is l hlen' 1100000 (by omega), Option.bind_some]
      obtain ⟨t, t1, t2, t3⟩ := labels_both (l.map toL) (by simpa using (by omega : l.length ≤ 2000000)) (fun x hx => by
        obtain ⟨y, hy, rfl⟩ := List.mem_map.1 hx
        exact (hs y hy).2) 1100000 (by rw [List.length_map]; omega)
      have i1 := Lib.itoa_length_le b hb.1 hb.2
      have i2 := Lib.itoa_length_le d hd.1 hd.2
      have hsame : spec_VerdictLine.f 1100000 a b (l.map toL) d = impl_VerdictLine.f 1100000 a b (l.map toL) d := by
        unfold spec_VerdictLine.f impl_VerdictLine.f impl_Decimal.f strconv_Itoa.f
        rw [Decimal_is b hb.1 hb.2 _ (by omega), Decimal_is d hd.1 hd.2 _ (by omega), if_pos hb, if_pos hd, t1, t2]
        rfl
      have hsome : ∃ r, spec_VerdictLine.f 1100000 a b (l.map toL) d = some r := by
        unfold spec_VerdictLine.f
        rw [Decimal_is b hb.1 hb.2 _ (by omega), Decimal_is d hd.1 hd.2 _ (by omega), t1]
        have e32 : (⟨#[32]⟩ : ByteArray).size = 1 := rfl
        simp only [Option.bind_some, ByteArray.size_append, e32, mk_size]
        rw [if_pos (by omega), if_pos (by omega), if_pos (by omega), if_pos (by omega), if_pos (by omega), if_pos (by omega)]
        exact ⟨_, rfl⟩
      obtain ⟨v, hv⟩ := hsome
      rw [← hsame, hv]
      simp only [Option.bind_some, if_true, laws_eqVerdict.f]
      rw [eqLabelS_is (l.map toL) (by rw [List.length_map]; exact hlen') 1100000 (by rw [List.length_map]; omega)]
      simp
end Go.Proofs.YthnembgbooaplaaDoor.Pure

namespace Go.Proofs.YthnembgbooaplaaDoor.P
open Go.RowKit Go.ChangeShapes Go.WideShapes Go.Deep Go.Proofs.YthnembgbooaplaaDoorW.PrintWords
def OpensAs {α : Type} (P : Program) (t : TypeId) (d : Kd α) (Ok : α → Prop) : Prop :=
  ∀ {H : Type} (enc : TypeId × Value → H) (w : World) (base : Nat) (spare : Nat → Bool) (held : Bool) (fuel : Nat) (cs : List Value) (x : DataW H × List MemPlace),
    DataW.trod enc P w base spare held fuel t cs = some x → (∀ n ∈ x.1.weights P t, n ≤ reachBytes) → ∃ a, d.K w a cs ∧ Ok a
theorem opens_int {P : Program} {t : TypeId} {k : IntKind} (ht : P.underlying t = some (.int k)) : OpensAs P t (Kd.int k) (fun n => (Lit.int k n).wf = true) := by
  intro H enc w base spare held fuel cs x h _
  obtain ⟨n, rfl, _, hw⟩ := DataW.trod_int ht h
  exact ⟨n, rfl, hw⟩
theorem opens_bool {P : Program} {t : TypeId} (ht : P.underlying t = some .bool) : OpensAs P t Kd.bool (fun _ => True) := by
  intro H enc w base spare held fuel cs x h _
  obtain ⟨n, rfl, _⟩ := DataW.trod_bool ht h
  exact ⟨n, rfl, trivial⟩
theorem opens_string {P : Program} {t : TypeId} (ht : P.underlying t = some .string) : OpensAs P t Kd.string (fun s => s.size ≤ 140737488351232) := by
  intro H enc w base spare held fuel cs x h hw
  obtain ⟨s, rfl, rfl, _⟩ := DataW.trod_string ht h
  refine ⟨s, rfl, ?_⟩
  have h1 := hw s.data.toList.length (by simp [DataW.weights])
  have h2 : s.data.toList.length = s.size := by simp
  have h3 : reachBytes = 140737488351232 := rfl
  omega
theorem weightsAll_mem {H : Type} {P : Program} {e : TypeId} : ∀ {l : List (DataW H)} {d : DataW H} {n : Nat}, d ∈ l → n ∈ d.weights P e → n ∈ DataW.weightsAll P e l
  | d0 :: l, d, n, hd, hn => by
    simp only [DataW.weightsAll, List.mem_append]
    rcases List.mem_cons.1 hd with rfl | hd
    · exact .inl hn
    · exact .inr (weightsAll_mem hd hn)
theorem opens_slice {α : Type} {P : Program} {t e : TypeId} {d : Kd α} {Ok : α → Prop} (bytes : Nat) (ht : P.underlying t = some (.slice e)) (hc : P.cellsOf e = d.sz) (hb : P.bytesOf e = bytes) (h : OpensAs P e d Ok) :
    OpensAs P t (Kd.slice e d) (fun l => l.length * bytes ≤ 140737488351232 ∧ ∀ x ∈ l, Ok x) := by
  intro H enc w base spare held fuel cs x hx hw
  rcases open_slice ht hx with ⟨rfl, rfl⟩ | ⟨a, len, cap, m, n, D, Pl, rfl, hba, hl, hm, hmm, rfl, hel⟩
  · exact ⟨[], ⟨none, 0, rfl, Nat.le_refl _, rfl, by simp, fun h0 => absurd h0 (Nat.lt_irrefl 0)⟩, by simp, by simp⟩
  · have hlm : len ≤ m := by rw [hmm]; split <;> omega
    have hsz : len * bytes ≤ 140737488351232 := by
      have := hw ((((List.range len).map D).length + ((List.range (m - len)).map fun j => D (len + j)).length) * P.bytesOf e) (by simp [DataW.weights, ht])
      rw [hb] at this
      simp only [List.length_map, List.length_range] at this
      have h2 : reachBytes = 140737488351232 := rfl
      have h3 : len * bytes ≤ (len + (m - len)) * bytes := Nat.mul_le_mul_right _ (by omega)
      omega
    have each : ∀ i, i < len → ∃ q : α × List Value, w.cells? base (a.add (i * P.cellsOf e)) (P.cellsOf e) = some q.2 ∧ d.K w q.1 q.2 ∧ Ok q.1 := by
      intro i hi
      obtain ⟨cs', h1, h2⟩ := hel i (by omega)
      obtain ⟨a', hK, hO⟩ := h enc w base spare held n cs' (D i, Pl i) h2 (fun k hk => hw k (by
        simp only [DataW.weights, ht, List.mem_cons, List.mem_append]
        exact .inr (.inl (weightsAll_mem (List.mem_map.2 ⟨i, List.mem_range.2 hi, rfl⟩) hk))))
      exact ⟨(a', cs'), h1, hK, hO⟩
    rcases Nat.eq_zero_or_pos len with rfl | hpos
    · exact ⟨[], ⟨some a, cap, rfl, Nat.zero_le _, rfl, by simp, fun h0 => absurd h0 (Nat.lt_irrefl 0)⟩, by simp, by simp⟩
    · haveI : Inhabited (α × List Value) := ⟨Classical.choose (each 0 hpos)⟩
      obtain ⟨q, hq⟩ := choose_lt each
      refine ⟨(List.range len).map fun i => (q i).1, ⟨some a, cap, by simp, by simpa using hl, by simp, ?_, fun _ => ⟨a, rfl, ?_⟩⟩, by simpa using hsz, ?_⟩
      · have h2 : maxLen = 9223372036854775807 := rfl
        simp; omega
      · intro j p hp
        rw [List.getElem?_map] at hp
        have hj : j < len := by
          rcases Nat.lt_or_ge j len with h0 | h0
          · exact h0
          · rw [List.getElem?_eq_none (by simpa using h0)] at hp; cases hp
        rw [List.getElem?_range hj] at hp
        simp only [Option.map_some, Option.some.injEq] at hp
        subst hp
        obtain ⟨h1, h2, _⟩ := hq j hj
        obtain ⟨_, hlen, hcell⟩ := World.cells?_some h1
        refine ⟨(q j).2, by rw [hlen, hc], h2, fun i u hu => ?_⟩
        have hi : i < P.cellsOf e := by
          rcases Nat.lt_or_ge i (P.cellsOf e) with h0 | h0
          · exact h0
          · rw [List.getElem?_eq_none (by omega)] at hu; cases hu
        have := hcell i hi
        rw [Deep.add_add] at this
        rw [← hc, this, hu]
      · intro x hx
        obtain ⟨i, hi, rfl⟩ := List.mem_map.1 hx
        exact (hq i (List.mem_range.1 hi)).2.2
def OpensL {α : Type} (P : Program) (fs : List Field) (off : Nat) (d : Kd α) (Ok : α → Prop) : Prop :=
  ∀ {H : Type} (enc : TypeId × Value → H) (w : World) (base : Nat) (spare : Nat → Bool) (held : Bool) (n : Nat) (cs : List Value) (xs : List (DataW H × List MemPlace)),
    cs.length = off + d.sz → xs.length = fs.length →
    (∀ (i : Nat) (f : Field), fs[i]? = some f → DataW.trod enc P w base spare held n f.type ((cs.drop f.offset).take (P.cellsOf f.type)) = xs[i]?) →
    (∀ m ∈ DataW.weightsEach P (fs.map (·.type)) (xs.map (·.1)), m ≤ reachBytes) → ∃ a, d.K w a (cs.drop off) ∧ Ok a
theorem opensL_one {α : Type} {P : Program} {f : Field} {off : Nat} {d : Kd α} {Ok : α → Prop} (ho : f.offset = off) (hc : P.cellsOf f.type = d.sz) (h : OpensAs P f.type d Ok) : OpensL P [f] off d Ok := by
  intro H enc w base spare held n cs xs hl hx hf hw
  match xs, hx with
  | [x], _ =>
    have h0 := hf 0 f rfl
    rw [ho, hc, List.take_of_length_le (by rw [List.length_drop]; omega)] at h0
    exact h enc w base spare held n _ x h0 (fun m hm => hw m (by simp [DataW.weightsEach, hm]))
theorem opensL_cons {α β : Type} {P : Program} {f : Field} {fs : List Field} {off : Nat} {d : Kd α} {d' : Kd β} {Ok : α → Prop} {Ok' : β → Prop} (ho : f.offset = off) (hc : P.cellsOf f.type = d.sz) (h : OpensAs P f.type d Ok)
    (h' : OpensL P fs (off + d.sz) d' Ok') : OpensL P (f :: fs) off (Kd.pair d d') (fun p => Ok p.1 ∧ Ok' p.2) := by
  intro H enc w base spare held n cs xs hl hx hf hw
  match xs, hx with
  | x :: xs, hx =>
    have h0 := hf 0 f rfl
    rw [ho, hc] at h0
    have hl' : cs.length = off + (d.sz + d'.sz) := hl
    obtain ⟨a, hK, hO⟩ := h enc w base spare held n _ x h0 (fun m hm => hw m (by simp [DataW.weightsEach, hm]))
    obtain ⟨b, hK', hO'⟩ := h' enc w base spare held n cs xs (by omega) (by simpa using hx) (fun i g hg => hf (i + 1) g hg) (fun m hm => hw m (by simp only [List.map_cons, DataW.weightsEach, List.mem_append]; exact .inr hm))
    refine ⟨(a, b), ⟨_, _, ?_, hK, hK'⟩, hO, hO'⟩
    rw [← List.drop_drop, List.take_append_drop]
theorem opens_struct {α : Type} {P : Program} {t : TypeId} {fs : Array Field} {d : Kd α} {Ok : α → Prop} (ht : P.underlying t = some (.struct fs)) (hc : P.cellsOf t = d.sz) (h : OpensL P fs.toList 0 d Ok) : OpensAs P t d Ok := by
  intro H enc w base spare held fuel cs x hx hw
  obtain ⟨xs, n, _, rfl, hl, hlen, hf⟩ := DataW.trod_struct ht hx
  have := h enc w base spare held n cs xs (by rw [hl, hc]; omega) (by simpa using hlen) (fun i f hfi => hf i f (by simpa using hfi)) (fun m hm => hw m (by simpa [DataW.weights, ht] using hm))
  simpa using this
theorem opens_iso {α β : Type} {P : Program} {t : TypeId} {d : Kd α} {Ok : α → Prop} (f : β → α) (g : α → β) (hfg : ∀ a, f (g a) = a) (h : OpensAs P t d Ok) : OpensAs P t (Kd.iso d f) (fun b => Ok (f b)) := by
  intro H enc w base spare held fuel cs x hx hw
  obtain ⟨a, hK, hO⟩ := h enc w base spare held fuel cs x hx hw
  exact ⟨g a, by show d.K w (f (g a)) cs; rw [hfg]; exact hK, by show Ok (f (g a)); rw [hfg]; exact hO⟩
end Go.Proofs.YthnembgbooaplaaDoor.P

namespace Go.Proofs.YthnembgbooaplaaDoor.fnExactVerdictLine
open Go.ChangeShapes Go.WideShapes Go.ChangeAt Go.RowKit
open Go.ChangeMaps (open_string shut_string)
set_option linter.unusedVariables false
theorem laid_met (os : Os) (args : Array Value) : laidMet Tryd.prog Rows.fnExactVerdictLineRow.laid ((laidWorld os).forCall (fun _ _ => 0) ⟨#[], args, []⟩).memory :=
  (LaidIn.of_run [6, 7, 5, 4, 3] 8 (by kernel_rfl) (by kernel_rfl) (by kernel_rfl) (by kernel_rfl)).met
theorem witness_row (os : Os) {H : Type} (enc : TypeId × Value → H) :
    (OpenSpec.ofChange Rows.fnExactVerdictLineSpec).preRow enc Tryd.prog Tryd.f6 Rows.fnExactVerdictLineRow.domain false Rows.fnExactVerdictLineRow.laid ((laidWorld os).forCall (fun _ _ => 0) ⟨#[], #[.agg #[.string ⟨#[]⟩, .int .i64 0, .slice none 0 0, .int .i64 0]], []⟩).memory #[.agg #[.string ⟨#[]⟩, .int .i64 0, .slice none 0 0, .int .i64 0]] := by
  have hw : (DataW.whole enc Tryd.prog ((laidWorld os).forCall (fun _ _ => 0) ⟨#[], #[.agg #[.string ⟨#[]⟩, .int .i64 0, .slice none 0 0, .int .i64 0]], []⟩).memory Tryd.f6.params.toList (OpenSpec.ofChange Rows.fnExactVerdictLineSpec).vars false (#[.agg #[.string ⟨#[]⟩, .int .i64 0, .slice none 0 0, .int .i64 0]] : Array Value).toList 8).map (fun x => (x.1, x.2.1)) =
      some ([.agg [.lit (.string []), .lit (.int .i64 0), .nil, .lit (.int .i64 0)]], []) := by kernel_rfl
  obtain ⟨⟨x1, x2, x3⟩, hx, hx1⟩ := Option.map_eq_some_iff.1 hw
  simp only [Prod.mk.injEq] at hx1
  obtain ⟨rfl, rfl⟩ := hx1
  exact OpenSpec.preRow_of_cond 8 hx (by kernel_rfl) (fun k hk => by cases hk) (by kernel_rfl) (laid_met os _)
set_option maxRecDepth 100000 in
theorem lifted (os : Os) (started : os.Started) (H : Type) (enc : TypeId × Value → H) (F : Stop.Interp) :
    ReturnsInHanded {} Tryd.checked os 6 .any ((OpenSpec.ofChange Rows.fnExactVerdictLineSpec).preRow enc Tryd.prog Tryd.f6 Rows.fnExactVerdictLineRow.domain false Rows.fnExactVerdictLineRow.laid) (((OpenSpec.ofChange Rows.fnExactVerdictLineSpec).at F).post enc Tryd.prog Tryd.f6 false true false false) := by
  refine returnsInHanded_of_row (C := Tryd.checked) (s := (OpenSpec.ofChange Rows.fnExactVerdictLineSpec)) own started (by kernel_rfl) Tryd.func6
    (witness_row_atRef (enc := enc) (C := Tryd.checked) false (laidWorld os) #[.agg #[.string ⟨#[]⟩, .int .i64 0, .slice none 0 0, .int .i64 0]] rfl (by kernel_rfl) (by kernel_rfl) (by kernel_rfl) (witness_row os enc)) ?_
  intro W base args ds gs before hval0 hW hcnd0 _ hsz0 hL hsh _
  have hsz : (DataW.weightsEach Tryd.prog (Tryd.f6.params.toList ++ Rows.fnExactVerdictLineSpec.plain.varTypes Tryd.prog) (ds ++ gs)).all (· ≤ reachBytes) = true := hsz0
  have hval : ∀ (j : Nat) t v, Tryd.f6.params[j]? = some t → args[j]? = some v → Value.okWide Tryd.prog W .any base t v := hval0
  have hW' := hW
  obtain ⟨p, q, hA0, hV0, rfl, hfz, hnd⟩ := hW
  have hA : DataW.TrodAll enc Tryd.prog W 0 (fun _ => true) true Tryd.f6.params.toList args.toList ds p := hA0
  rw [Tryd.params6] at hA hval hsz
  obtain ⟨v0, vs0, d0, ds0, p0, q0, hargs, rfl, rfl, h0, r0⟩ := trodAll_cons hA
  obtain ⟨rfl, rfl, rfl⟩ := trodAll_nil r0
  obtain rfl : args = #[v0] := by cases args; simp_all
  obtain ⟨rfl, rfl⟩ := trodVars_none hV0
  have k0 := h0
  have lt0 : ∀ x ∈ p0, x.block < W.heap.size := by obtain ⟨m, hm⟩ := k0; exact DataW.trod_lt m _ _ _ hm
  have wt0 : ∀ n ∈ d0.weights Tryd.prog 31, n ≤ reachBytes := fun n hn => by simpa using List.all_eq_true.1 hsz n (DataW.weights_mem_each (j := 0) (t := 31) rfl rfl n hn)
  obtain ⟨cs0, rfl, hz0⟩ := okWide_struct Tryd.underlying31 (hval 0 31 v0 rfl rfl)
  obtain ⟨fuel0, hf0⟩ := h0
  obtain ⟨⟨a0_0, a0_1, l0_2, a0_3⟩, hK0, hO0⟩ := (P.opens_struct Tryd.underlying31 (by kernel_rfl) (P.opensL_cons (by rfl) (by kernel_rfl) (P.opens_string Tryd.underlying9) (P.opensL_cons (by rfl) (by kernel_rfl) (P.opens_int Tryd.underlying3) (P.opensL_cons (by rfl) (by kernel_rfl) (P.opens_slice 24 Tryd.underlying29 (by kernel_rfl) (by kernel_rfl) (show P.OpensAs Tryd.prog 80 P.k80 _ from P.opens_iso (fun x : P.S80 => (x.f0, x.f1)) (fun p => ⟨p.1, p.2⟩) (fun _ => rfl) (P.opens_struct Tryd.underlying80 (by kernel_rfl) (P.opensL_cons (by rfl) (by kernel_rfl) (P.opens_int Tryd.underlying3) (P.opensL_one (by rfl) (by kernel_rfl) (P.opens_string Tryd.underlying9)))))) (P.opensL_one (by rfl) (by kernel_rfl) (P.opens_int Tryd.underlying3)))))) enc W 0 (fun _ => true) true fuel0 _ _ hf0 wt0
  obtain ⟨_, _, e0, rfl, ⟨_, _, rfl, rfl, ⟨_, _, rfl, ⟨A0_2, c0_2, rfl, hc0_2, hr0_2⟩, rfl⟩⟩⟩ := hK0
  obtain rfl : cs0 = #[.string a0_0, .int .i64 a0_1, .slice A0_2 l0_2.length c0_2, .int .i64 a0_3] := Array.toList_inj.1 e0
  clear hA0 hval0 hsz0 hsz hV0
  have hL' : laidMet Tryd.prog [("math/bits.deBruijn32tab", Rows.laid_math_bits_deBruijn32tab), ("math/bits.deBruijn64tab", Rows.laid_math_bits_deBruijn64tab), ("internal/strconv.uint64pow10", Rows.laid_internal_strconv_uint64pow10), ("unicode/utf8.acceptRanges", Rows.laid_unicode_utf8_acceptRanges), ("unicode/utf8.first", Rows.laid_unicode_utf8_first)] W := hL
  have hEI := envI hL'.tail.tail
  have hEM := envM hsh
  obtain ⟨k, hf⟩ := Pure.FnExactVerdictLine a0_0 a0_1 l0_2 a0_3 hO0
  refine (P.laws_FnExactVerdictLine.calls k a0_0 a0_1 A0_2 c0_2 l0_2 a0_3 true W hr0_2 hc0_2 hEI hEM hf).mono fun e W' ⟨he, bel0⟩ => ?_
  have bel := bel0
  subst he
  exact ⟨_, rfl, _, _, _, [], _, [], hW', trodAll_mk1 (shut_bool Tryd.underlying4 _), (trodAll_cons_mk (Below.trod laidOut (by kernel_rfl) (of_decide_eq_true (by kernel_rfl)) k0 bel lt0) trodAll_mk0), rfl, bel.frame _, fun h => by cases h⟩
theorem over : Rows.fnExactVerdictLineRow.holds Tryd.pinned (OpenSpec.ofChange Rows.fnExactVerdictLineSpec) :=
  OpenClaim.holds_of_cond 6 Tryd.f6 rfl rfl rfl rfl rfl rfl rfl ⟨rfl, rfl, rfl, rfl, rfl⟩ rfl rfl rfl rfl rfl (by kernel_rfl) Tryd.func6 (by kernel_rfl)
    (of_decide_eq_true (by kernel_rfl)) (by unfold Func.isWrapper; first | (rw [if_pos (by decide +kernel)]; kernel_rfl) | (rw [if_neg (by decide +kernel)]; exact ⟨rfl, rfl⟩))
    (fun os started H enc _ F => by rw [OpenClaim.pre_eq_preRow]; exact lifted os started H enc F)
theorem card_holds : Rows.FnExactVerdictLineCardSaid :=
  Claim7.holds_tied_plain_at .later [] [.data, .data, .data, .data, .pinned] true (true, "6ea81c7f6412211a9cde187ddac16eb20a6bc9783d50467b731864b060911ab7") true
    over (fun _ h => by cases h) (by kernel_rfl) (fun _ h => by cases h) fnExactVerdictLine_row_tie rfl ⟨rfl, rfl⟩ (by kernel_rfl) rfl
    (fun f fn hf hfn => by
      obtain rfl : f = 6 := Option.some.inj ((show Tryd.prog.funcNamed "loop.example/g00963/laws.FnExactVerdictLine" = some 6 by kernel_rfl).symm.trans hf) |>.symm
      obtain rfl : fn = Tryd.f6 := (Option.some.inj (Tryd.func6.symm.trans hfn)).symm
      exact ⟨by kernel_rfl, fun j t ht => by
        rw [Tryd.params6] at ht
        have hm : t = 31 := by
          rcases j with _ | j
          · have := ht.symm; simp at this; omega
          · simp at ht
        rcases hm with rfl
        · exact (show Tryd.prog.wantsStandIn 31 = false by kernel_rfl)⟩)
    (by kernel_rfl)
end Go.Proofs.YthnembgbooaplaaDoor.fnExactVerdictLine
namespace Go.Proofs.YthnembgbooaplaaDoor
/-- The tied card, under a short name, for the claim. -/
theorem fnExactVerdictLine_holds : Rows.FnExactVerdictLineCardSaid := fnExactVerdictLine.card_holds
end Go.Proofs.YthnembgbooaplaaDoor
