/- The row of laws.FnExactTermSize and its tied card: for every input the law returns true, and the arguments read afterwards as before. Written by wip/tools/card.py. -/
import Derived.Test.YtefiapcfdabfpaaDoorBTm3
import Derived.Test.YtefiapcfdabfpaaDoorBTm2
import Derived.Test.YtefiapcfdabfpaaDoorBTm1
import Derived.Test.YtefiapcfdabfpaaDoorCards
import Derived.Test.YtefiapcfdabfpaaDoorTie
import Derived.SevenTiedAt
set_option linter.unusedVariables false
set_option linter.unusedSimpArgs false
namespace Go.Proofs.YtefiapcfdabfpaaDoor.P
open Go.RowKit Go.Proofs.YtefiapcfdabfpaaDoorW.PrintWords Go.Proofs.YtefiapcfdabfpaaDoorW.PrintLast Go.Proofs.YtefiapcfdabfpaaDoorW.PrintMore
set_option maxRecDepth 100000
set_option maxHeartbeats 8000000
def szsum : List Te → Nat
  | [] => 0
  | t :: l => t.sz + szsum l
theorem sz_kids (e : Te) : e.sz = 1 + szsum e.kids := by
  cases e <;> simp [Te.sz, Te.kids, szsum] <;> omega
theorem szsum_take (l : List Te) : ∀ (i : Nat) (h : i < l.length), szsum (l.take (i + 1)) = szsum (l.take i) + (l[i]'h).sz := by
  induction l with
  | nil => intro i h; simp at h
  | cons x l ih =>
    intro i h
    cases i with
    | zero => simp [szsum]
    | succ i =>
      have := ih i (by simpa using h)
      simp only [List.take_succ_cons, szsum, List.getElem_cons_succ] at this ⊢
      omega
theorem szsum_le (l : List Te) : ∀ i, szsum (l.take i) ≤ szsum l := by
  induction l with
  | nil => intro i; simp [szsum]
  | cons x l ih =>
    intro i
    cases i with
    | zero => simp [szsum]
    | succ i =>
      have := ih i
      simp only [List.take_succ_cons, szsum]
      omega
theorem kids_le (e : Te) : e.kids.length ≤ 3 := by cases e <;> simp [Te.kids]
/-- What a walk over a node's parts is given. -/
structure Parts (w : World) (ok : Nat → Prop) (g : Nat) (e : Te) (Ak : Option Addr) (ck : Nat) (gs : List Nat) : Prop where
  c0 : w.cell? ⟨g, 0, none⟩ = some (.int .u8 e.kind)
  c4 : w.cell? ⟨g, 4, none⟩ = some (.slice Ak e.kids.length ck)
  hk : e.kids.length ≤ ck
  hgs : gs.length = e.kids.length
  hrk : RowP w ok Ak gs
  hr : ∀ (j : Nat) (g' : Nat) (hj : j < e.kids.length), gs[j]? = some g' → Rep w ok g' (e.kids[j]'hj).tm
theorem Rep.parts {w : World} {ok : Nat → Prop} {g : Nat} {e : Te} (h : Rep w ok g e.tm) : ∃ Ak ck gs, Parts w ok g e Ak ck gs := by
  obtain ⟨Al, cl, Ak, ck, gs, c0, c1, c2, c3, c4, c5, hl, hrl, hk, hgs, hrk, hr⟩ := h.cells
  rw [Te.tm_kids, List.length_map] at c4 hk hgs
  rw [Te.tm_kind] at c0
  exact ⟨Ak, ck, gs, c0, c4, hk, hgs, hrk, fun j g' hj hg => hr j g' _ hg (by rw [Te.tm_kids, List.getElem?_map, List.getElem?_eq_getElem hj]; rfl)⟩
theorem Rep.drewN {w : World} {ok : Nat → Prop} {g : Nat} {t : Tm} (h : Rep w ok g t) (q : Nat) : Rep (w.drewN q) ok g t := h.stay (pw_below_drewN (Below.refl _ _) q)
theorem drewN_drewN (w : World) (p q : Nat) : ∃ r, (w.drewN p).drewN q = w.drewN r := ⟨p + q, by simp⟩
theorem size_node : ∀ (n : Nat) (e : Te), e.sz ≤ n → e.sz ≤ 100000 → ∀ (w : World) (ok : Nat → Prop) (g : Nat), Rep w ok g e.tm →
    Calls Tryd.prog 46 #[.pointer (some ⟨g, 0, none⟩)] w fun ex w' => ex = .returned (.int .i64 (e.sz : Int)) ∧ Drawn0 w w' := by
  intro n
  induction n with
  | zero => intro e h; have := e.sz_pos; omega
  | succ n ih =>
    intro e hn hb w ok g hrep
    obtain ⟨Ak, ck, gs, hp⟩ := hrep.parts
    have c4 := hp.c4
    have hk := hp.hk
    have hgs := hp.hgs
    have hrk := hp.hrk
    have hr' := hp.hr
    have hsz := sz_kids e
    have hlt : ∀ x ∈ e.kids, x.sz < e.sz := fun x hx => Te.kid_lt hx
    have hle := szsum_le e.kids
    have hk3 := kids_le e
    clear hp hrep
    generalize hks : e.kids = ks at *
    clear hks
    go_enter Tryd.func46, Tryd.ntmps46
    go_wp2
    go_loopg [3, 11] ks.length (fun m v3 v11 w' => ∃ i : Nat, i ≤ ks.length ∧ ks.length - i ≤ m ∧ v3 = .int .i64 (1 + (szsum (ks.take i) : Int)) ∧ v11 = .int .i64 (i : Int) ∧ ∃ q, w' = w.drewN q)
    case atStart => exact ⟨0, Nat.zero_le _, by omega, by simp [szsum], rfl, 0, rfl⟩
    case round =>
      obtain ⟨i, hi, hm, rfl, rfl, q, rfl⟩ := hrel
      have hb1 := hle i
      by_cases hl : i < ks.length
      · have hli : (i : Int) < (ks.length : Int) := by omega
        have hlt2 : i < gs.length := by omega
        obtain ⟨b, o, rfl, hbk, hcell⟩ := hrk i _ (List.getElem?_eq_getElem hlt2)
        have hst := szsum_take ks i hl
        have hkl := hlt ks[i] (List.getElem_mem hl)
        have hC := ih ks[i] (by omega) (by omega) (w.drewN q) ok gs[i] ((hr' i _ hl (List.getElem?_eq_getElem hlt2)).drewN q)
        have hcell' : (w.drewN q).cell? ⟨b, o + i, none⟩ = some (.pointer (some ⟨gs[i], 0, none⟩)) := hcell
        have hle2 := hle (i + 1)
        rw [hst] at hle2
        generalize gs[i] = g' at hcell hcell' hC
        generalize ks[i] = x at hst hkl hC hle2
        have hst' := Aside0.mk hst
        clear hst hcell
        go_wp2_with (first | (go_at_call 46; refine (Calls.mono hC ?_); rintro ex w2 ⟨rfl, q2, rfl⟩))
        go_roundg (ks.length - (i + 1))
        case measure => omega
        case rel => exact ⟨i + 1, by omega, by omega, by rw [hst'.out]; congr 1; omega, rfl, q + q2, rfl⟩
      · have hlt' : ¬ (i : Int) < (ks.length : Int) := by omega
        go_wp2
        go_ret
        have hi2 : i = ks.length := by omega
        subst hi2
        rw [List.take_length]
        exact ⟨rfl, q, rfl⟩
def impl_TermSize.f (a0 : ByteArray) : Option Int := if a0.size ≤ 140737488351232 then some (match parseT a0 with | some t => (t.sz : Int) | none => 0) else none
theorem te_sz {s : ByteArray} {t : Te} (h : parseT s = some t) : t.sz ≤ 2000 := by
  unfold parseT at h
  by_cases hs : s.size ≤ 2000
  · rw [if_pos hs] at h
    obtain ⟨r, hr, h⟩ := Option.bind_eq_some_iff.mp h
    by_cases he : r.2 = s.size
    · rw [if_pos he] at h
      obtain rfl := Option.some.inj h
      have := sz_le s _ _ r.1 r.2 hr hs (Nat.zero_le _)
      omega
    · rw [if_neg he] at h; cases h
  · rw [if_neg hs] at h; cases h
theorem impl_TermSize.calls (a0 : ByteArray) (r : Int) (w : World) (hA : EnvA w) (hI : EnvI w) (hM : EnvM w) (h : impl_TermSize.f a0 = some r) :
    Calls Tryd.prog 18 #[.string a0] w fun e w' => e = .returned (.int .i64 r) ∧ Below w.heap.size w w' := by
  unfold impl_TermSize.f at h
  by_cases hB : a0.size ≤ 140737488351232
  · rw [if_pos hB] at h
    obtain rfl := Option.some.inj h
    have hP := parse_all a0 w hA hI hM hB
    clear hA hI hM h
    cases hx : parseT a0 with
    | none =>
      rw [hx] at hP
      clear hx
      unfold Parsed at hP
      simp only at hP ⊢
      go_enter Tryd.func18, Tryd.ntmps18
      go_wp2_with (first | (go_at_call 45; refine (Calls.mono hP ?_); rintro e w2 ⟨hb2, rfl⟩))
      go_ret
      exact ⟨rfl, hb2⟩
    | some t =>
      have hz := te_sz hx
      rw [hx] at hP
      clear hx
      unfold Parsed at hP
      simp only at hP ⊢
      have hS := fun w2 g (h : Rep w2 (fun _ => True) g t.tm) => size_node t.sz t (Nat.le_refl _) (by omega) w2 _ g h
      go_enter Tryd.func18, Tryd.ntmps18
      go_wp2_with (first | (go_at_call 45; refine (Calls.mono hP ?_); rintro e w2 ⟨hb2, g, rfl, hrep⟩) | (go_at_call 46; refine (Calls.mono (hS _ _ hrep) ?_); rintro ex w3 ⟨rfl, q, rfl⟩))
      go_ret
      exact ⟨rfl, pw_below_drewN hb2 _⟩
  · rw [if_neg hB] at h; cases h
end Go.Proofs.YtefiapcfdabfpaaDoor.P

namespace Go.Proofs.YtefiapcfdabfpaaDoor.P
open Go.RowKit Go.Proofs.YtefiapcfdabfpaaDoorW.PrintWords Go.Proofs.YtefiapcfdabfpaaDoorW.PrintLast Go.Proofs.YtefiapcfdabfpaaDoorW.PrintMore
attribute [local go_sem] max2_int min2_int max_two min_two max_three min_three max_four min_four
set_option linter.unusedVariables false
set_option linter.unusedSimpArgs false

/-! ### spec_TermSize: function 17 -/
def spec_TermSize.f (k : Nat) (a0 : ByteArray) : Option (Int) := (spec_l06All.f k a0).bind fun t101 => (some (t101.length : Int))
theorem spec_TermSize.mono : ∀ a0 k, LeO (spec_TermSize.f k a0) (spec_TermSize.f (k + 1) a0) := by
  intro a0 k
  unfold spec_TermSize.f
  repeat' first
      | (with_reducible exact spec_l06All.mono _ _)
      | (with_reducible exact LeO.refl _)
      | (with_reducible exact LeO.none _)
      | (with_reducible refine LeO.ite ?_ ?_)
      | (with_reducible refine LeO.bind ?_ (fun _ => ?_))
      | exact spec_l06All.mono _ _
      | exact LeO.none _
      | refine LeO.ite ?_ ?_
      | refine LeO.bind ?_ (fun _ => ?_)
set_option maxHeartbeats 8000000 in
set_option maxRecDepth 100000 in
theorem spec_TermSize.calls (k : Nat) (a0 : ByteArray) (r : Int) (w : World) (h : spec_TermSize.f k a0 = some r) :
    Calls Tryd.prog 17 #[.string a0] w fun e w' => e = .returned (.int .i64 r) ∧ Below w.heap.size w w' := by
  have HB := Aside0.mk (Below.refl w.heap.size w)
  have H : ((spec_l06All.f k a0).bind fun t101 => (some (t101.length : Int))) = some r := h
  clear h
  replace H := Option.bind_eq_some_iff.mp H
  obtain ⟨t101, A20, H⟩ := H
  replace H : (some (t101.length : Int)) = some r := H
  have A2 := Aside0.mk A20
  clear A20
  obtain rfl := Option.some.inj H
  go_enter Tryd.func17, Tryd.ntmps17
  go_wp2_with (first | ((with_reducible refine gate_callee (f := 44) rfl ?_); refine goesL_ (some 4) rfl rfl Tryd.func44 (by kernel_rfl) rfl #[.string a0] rfl (by (try simp only [List.map_toArray, List.map_cons, List.map_nil]); first | done | rfl | (simp only [List.length_drop, List.length_take]; rfl)) ?_; (with_reducible refine (spec_l06All.calls k a0 t101 _ A2.out).mono ?_); rintro e w3 ⟨v102, rfl, ho0, hb⟩; refine ⟨_, rfl, ?_⟩; have n0_ := Aside0.mk (Kd.S_lower ho0 (below_size (by repeat (first | (with_reducible first | exact HB.out | apply below_alloc | apply pw_below_drewN | apply below_drew1) | exact HB.out)))); have n1_ := Aside0.mk (below_step (by repeat (first | (with_reducible first | exact HB.out | apply below_alloc | apply pw_below_drewN | apply below_drew1) | exact HB.out)) hb); clear HB; have HO103 := n0_; have HB := n1_; clear n0_ n1_; (try clear hb); (try clear hb2); (try clear hk); (try clear hi); (try clear ho0); obtain ⟨Ao4, co4, eo4⟩ := Kd.S_slice HO103.out; subst eo4))
  go_ret
  exact ⟨by first | rfl | (simp [errW_none, errW_some] <;> rfl) | (simp [*, errW_none, errW_some] <;> rfl), by repeat (first | (with_reducible first | exact HB.out | apply below_alloc | apply pw_below_drewN | apply below_drew1) | exact HB.out)⟩

end Go.Proofs.YtefiapcfdabfpaaDoor.P

namespace Go.Proofs.YtefiapcfdabfpaaDoor.P
open Go.RowKit Go.Proofs.YtefiapcfdabfpaaDoorW.PrintWords Go.Proofs.YtefiapcfdabfpaaDoorW.PrintLast Go.Proofs.YtefiapcfdabfpaaDoorW.PrintMore
attribute [local go_sem] max2_int min2_int max_two min_two max_three min_three max_four min_four
set_option linter.unusedVariables false
set_option linter.unusedSimpArgs false

/-! ### laws_FnExactTermSize: function 4 -/
def laws_FnExactTermSize.f (k : Nat) (a0 : ByteArray) : Option (Bool) := if (a0.size : Int) > 1048576 then (some true) else ((spec_TermSize.f k a0).bind fun t101 => ((impl_TermSize.f a0).bind fun t102 => (if t102 = t101 then (some true) else (some false))))
theorem laws_FnExactTermSize.mono : ∀ a0 k, LeO (laws_FnExactTermSize.f k a0) (laws_FnExactTermSize.f (k + 1) a0) := by
  intro a0 k
  unfold laws_FnExactTermSize.f
  repeat' first
      | (with_reducible exact spec_TermSize.mono _ _)
      | (with_reducible exact LeO.refl _)
      | (with_reducible exact LeO.none _)
      | (with_reducible refine LeO.ite ?_ ?_)
      | (with_reducible refine LeO.bind ?_ (fun _ => ?_))
      | exact spec_TermSize.mono _ _
      | exact LeO.none _
      | refine LeO.ite ?_ ?_
      | refine LeO.bind ?_ (fun _ => ?_)
set_option maxHeartbeats 8000000 in
set_option maxRecDepth 100000 in
theorem laws_FnExactTermSize.calls (k : Nat) (a0 : ByteArray) (r : Bool) (w : World) (hEA : EnvA w) (hEI : EnvI w) (hEM : EnvM w) (h : laws_FnExactTermSize.f k a0 = some r) :
    Calls Tryd.prog 4 #[.string a0] w fun e w' => e = .returned (.bool r) ∧ Below w.heap.size w w' := by
  have HB := Aside0.mk (Below.refl w.heap.size w)
  have H : (if (a0.size : Int) > 1048576 then (some true) else ((spec_TermSize.f k a0).bind fun t101 => ((impl_TermSize.f a0).bind fun t102 => (if t102 = t101 then (some true) else (some false))))) = some r := h
  clear h
  by_cases c2 : (a0.size : Int) > 1048576
  · rw [if_pos c2] at H
    have c2b0 : decide (1048576 < (a0.size : Int)) = true := decide_eq_true c2
    have c2b1 : decide (1048576 < a0.size) = true := decide_eq_true (by omega)
    clear c2
    obtain rfl := Option.some.inj H
    go_enter Tryd.func4, Tryd.ntmps4
    go_wp2
    go_ret
    exact ⟨by first | rfl | (simp [errW_none, errW_some] <;> rfl) | (simp [*, errW_none, errW_some] <;> rfl), by repeat (first | (with_reducible first | exact HB.out | apply below_alloc | apply pw_below_drewN | apply below_drew1) | exact HB.out)⟩
  · rw [if_neg c2] at H
    have c2b0 : decide (1048576 < (a0.size : Int)) = false := decide_eq_false c2
    have c2b1 : decide (1048576 < a0.size) = false := decide_eq_false (by omega)
    clear c2
    replace H := Option.bind_eq_some_iff.mp H
    obtain ⟨t101, A30, H⟩ := H
    replace H : ((impl_TermSize.f a0).bind fun t102 => (if t102 = t101 then (some true) else (some false))) = some r := H
    have A3 := Aside0.mk A30
    clear A30
    replace H := Option.bind_eq_some_iff.mp H
    obtain ⟨t102, A40, H⟩ := H
    replace H : (if t102 = t101 then (some true) else (some false)) = some r := H
    have A4 := Aside0.mk A40
    clear A40
    by_cases c5 : t102 = t101
    · rw [if_pos c5] at H
      have c5b0 : (t102 == t101) = true := beq_iff_eq.mpr c5
      have c5b1 : (t102 != t101) = false := bne_eq_false_iff_eq.mpr c5
      clear c5
      obtain rfl := Option.some.inj H
      go_enter Tryd.func4, Tryd.ntmps4
      go_wp2_with (first | ((with_reducible refine gate_callee (f := 17) rfl ?_); refine goesL_ (some 9) rfl rfl Tryd.func17 (by kernel_rfl) rfl #[.string a0] rfl (by (try simp only [List.map_toArray, List.map_cons, List.map_nil]); first | done | rfl | (simp only [List.length_drop, List.length_take]; rfl)) ?_; (with_reducible refine (spec_TermSize.calls k a0 t101 _ A3.out).mono ?_); rintro e w6 ⟨rfl, hb⟩; refine ⟨_, rfl, ?_⟩; have n0_ := Aside0.mk (below_step (by repeat (first | (with_reducible first | exact HB.out | apply below_alloc | apply pw_below_drewN | apply below_drew1) | exact HB.out)) hb); clear HB; have HB := n0_; clear n0_; (try clear hb); (try clear hb2); (try clear hk); (try clear hi)) | ((with_reducible refine gate_callee (f := 18) rfl ?_); refine goesL_ (some 11) rfl rfl Tryd.func18 (by kernel_rfl) rfl #[.string a0] rfl (by (try simp only [List.map_toArray, List.map_cons, List.map_nil]); first | done | rfl | (simp only [List.length_drop, List.length_take]; rfl)) ?_; (with_reducible refine (impl_TermSize.calls a0 t102 _ ?side1 ?side2 ?side3 A4.out).mono ?_); (case side1 => first | exact hEA | exact EnvA.below hEA (by repeat (first | (with_reducible first | exact HB.out | apply below_alloc | apply pw_below_drewN | apply below_drew1) | exact HB.out))); (case side2 => first | exact hEI | exact EnvI.below hEI (by repeat (first | (with_reducible first | exact HB.out | apply below_alloc | apply pw_below_drewN | apply below_drew1) | exact HB.out))); (case side3 => first | exact hEM | exact EnvM.below hEM (by repeat (first | (with_reducible first | exact HB.out | apply below_alloc | apply pw_below_drewN | apply below_drew1) | exact HB.out))); rintro e w7 ⟨rfl, hb⟩; refine ⟨_, rfl, ?_⟩; have n0_ := Aside0.mk (below_step (by repeat (first | (with_reducible first | exact HB.out | apply below_alloc | apply pw_below_drewN | apply below_drew1) | exact HB.out)) hb); clear HB; have HB := n0_; clear n0_; (try clear hb); (try clear hb2); (try clear hk); (try clear hi)))
      go_ret
      exact ⟨by first | rfl | (simp [errW_none, errW_some] <;> rfl) | (simp [*, errW_none, errW_some] <;> rfl), by repeat (first | (with_reducible first | exact HB.out | apply below_alloc | apply pw_below_drewN | apply below_drew1) | exact HB.out)⟩
    · rw [if_neg c5] at H
      have c5b0 : (t102 == t101) = false := beq_eq_false_iff_ne.mpr c5
      have c5b1 : (t102 != t101) = true := bne_iff_ne.mpr c5
      obtain rfl := Option.some.inj H
      go_enter Tryd.func4, Tryd.ntmps4
      go_wp2_with (first | ((with_reducible refine gate_callee (f := 17) rfl ?_); refine goesL_ (some 9) rfl rfl Tryd.func17 (by kernel_rfl) rfl #[.string a0] rfl (by (try simp only [List.map_toArray, List.map_cons, List.map_nil]); first | done | rfl | (simp only [List.length_drop, List.length_take]; rfl)) ?_; (with_reducible refine (spec_TermSize.calls k a0 t101 _ A3.out).mono ?_); rintro e w8 ⟨rfl, hb⟩; refine ⟨_, rfl, ?_⟩; have n0_ := Aside0.mk (below_step (by repeat (first | (with_reducible first | exact HB.out | apply below_alloc | apply pw_below_drewN | apply below_drew1) | exact HB.out)) hb); clear HB; have HB := n0_; clear n0_; (try clear hb); (try clear hb2); (try clear hk); (try clear hi)) | ((with_reducible refine gate_callee (f := 18) rfl ?_); refine goesL_ (some 11) rfl rfl Tryd.func18 (by kernel_rfl) rfl #[.string a0] rfl (by (try simp only [List.map_toArray, List.map_cons, List.map_nil]); first | done | rfl | (simp only [List.length_drop, List.length_take]; rfl)) ?_; (with_reducible refine (impl_TermSize.calls a0 t102 _ ?side1 ?side2 ?side3 A4.out).mono ?_); (case side1 => first | exact hEA | exact EnvA.below hEA (by repeat (first | (with_reducible first | exact HB.out | apply below_alloc | apply pw_below_drewN | apply below_drew1) | exact HB.out))); (case side2 => first | exact hEI | exact EnvI.below hEI (by repeat (first | (with_reducible first | exact HB.out | apply below_alloc | apply pw_below_drewN | apply below_drew1) | exact HB.out))); (case side3 => first | exact hEM | exact EnvM.below hEM (by repeat (first | (with_reducible first | exact HB.out | apply below_alloc | apply pw_below_drewN | apply below_drew1) | exact HB.out))); rintro e w9 ⟨rfl, hb⟩; refine ⟨_, rfl, ?_⟩; have n0_ := Aside0.mk (below_step (by repeat (first | (with_reducible first | exact HB.out | apply below_alloc | apply pw_below_drewN | apply below_drew1) | exact HB.out)) hb); clear HB; have HB := n0_; clear n0_; (try clear hb); (try clear hb2); (try clear hk); (try clear hi)))
      go_ret
      exact ⟨by first | rfl | (simp [errW_none, errW_some] <;> rfl) | (simp [*, errW_none, errW_some] <;> rfl), by repeat (first | (with_reducible first | exact HB.out | apply below_alloc | apply pw_below_drewN | apply below_drew1) | exact HB.out)⟩

/-- THE ONE PURE STATEMENT of laws_FnExactTermSize: yours. -/
def laws_FnExactTermSize.Pure : Prop := ∀ (a0 : ByteArray), a0.size ≤ 140737488351232 → ∃ k, laws_FnExactTermSize.f k a0 = some true
theorem laws_FnExactTermSize.walk (P : laws_FnExactTermSize.Pure) (a0 : ByteArray) (w : World) (w0 : a0.size ≤ 140737488351232) (hEA : EnvA w) (hEI : EnvI w) (hEM : EnvM w) :
    Calls Tryd.prog 4 #[.string a0] w fun e w' => e = .returned (.bool true) ∧ Below w.heap.size w w' := by
  obtain ⟨k, h⟩ := P a0 w0
  refine (laws_FnExactTermSize.calls k a0 true w hEA hEI hEM h).mono ?_
  rintro e w' ⟨rfl, hd⟩
  exact ⟨rfl, hd⟩

end Go.Proofs.YtefiapcfdabfpaaDoor.P

namespace Go.Proofs.YtefiapcfdabfpaaDoor.Pure
open Go.RowKit Go.Proofs.YtefiapcfdabfpaaDoor.P
theorem FnExactTermSize : laws_FnExactTermSize.Pure := fun a0 hB => by
  refine ⟨0, ?_⟩
  unfold laws_FnExactTermSize.f spec_TermSize.f impl_TermSize.f spec_l06All.f
  by_cases h : (a0.size : Int) > 1048576
  · rw [if_pos h]
  · rw [if_neg h, if_pos hB, if_pos hB]
    cases hx : parseT a0 with
    | none => simp [nodes_none hx]
    | some t => simp [nodes_some hx, flat_length]
end Go.Proofs.YtefiapcfdabfpaaDoor.Pure

namespace Go.Proofs.YtefiapcfdabfpaaDoor.fnExactTermSize
open Go.ChangeShapes Go.WideShapes Go.ChangeAt Go.RowKit
open Go.ChangeMaps (open_string shut_string)
set_option linter.unusedVariables false
theorem laid_met (os : Os) (args : Array Value) : laidMet Tryd.prog Rows.fnExactTermSizeRow.laid ((laidWorld os).forCall (fun _ _ => 0) ⟨#[], args, []⟩).memory :=
  (LaidIn.of_run [6, 7, 3, 5, 2, N0 + 1, 1, N0 + 0, 4] 8 (by kernel_rfl) (by kernel_rfl) (by kernel_rfl) (by kernel_rfl)).met
theorem witness_row (os : Os) {H : Type} (enc : TypeId × Value → H) :
    (OpenSpec.ofChange Rows.fnExactTermSizeSpec).preRow enc Tryd.prog Tryd.f4 Rows.fnExactTermSizeRow.domain false Rows.fnExactTermSizeRow.laid ((laidWorld os).forCall (fun _ _ => 0) ⟨#[], #[.string ⟨#[]⟩], []⟩).memory #[.string ⟨#[]⟩] := by
  have hw : (DataW.whole enc Tryd.prog ((laidWorld os).forCall (fun _ _ => 0) ⟨#[], #[.string ⟨#[]⟩], []⟩).memory Tryd.f4.params.toList (OpenSpec.ofChange Rows.fnExactTermSizeSpec).vars false (#[.string ⟨#[]⟩] : Array Value).toList 8).map (fun x => (x.1, x.2.1)) =
      some ([.lit (.string [])], []) := by kernel_rfl
  obtain ⟨⟨x1, x2, x3⟩, hx, hx1⟩ := Option.map_eq_some_iff.1 hw
  simp only [Prod.mk.injEq] at hx1
  obtain ⟨rfl, rfl⟩ := hx1
  exact OpenSpec.preRow_of_cond 8 hx (by kernel_rfl) (fun k hk => by cases hk) (by kernel_rfl) (laid_met os _)
set_option maxRecDepth 100000 in
theorem lifted (os : Os) (started : os.Started) (H : Type) (enc : TypeId × Value → H) (F : Stop.Interp) :
    ReturnsInHanded {} Tryd.checked os 4 .any ((OpenSpec.ofChange Rows.fnExactTermSizeSpec).preRow enc Tryd.prog Tryd.f4 Rows.fnExactTermSizeRow.domain false Rows.fnExactTermSizeRow.laid) (((OpenSpec.ofChange Rows.fnExactTermSizeSpec).at F).post enc Tryd.prog Tryd.f4 false true false false) := by
  refine returnsInHanded_of_row (C := Tryd.checked) (s := (OpenSpec.ofChange Rows.fnExactTermSizeSpec)) own started (by kernel_rfl) Tryd.func4
    (witness_row_atRef (enc := enc) (C := Tryd.checked) false (laidWorld os) #[.string ⟨#[]⟩] rfl (by kernel_rfl) (by kernel_rfl) (by kernel_rfl) (witness_row os enc)) ?_
  intro W base args ds gs before hval0 hW hcnd0 _ hsz0 hL hsh _
  have hsz : (DataW.weightsEach Tryd.prog (Tryd.f4.params.toList ++ Rows.fnExactTermSizeSpec.plain.varTypes Tryd.prog) (ds ++ gs)).all (· ≤ reachBytes) = true := hsz0
  have hval : ∀ (j : Nat) t v, Tryd.f4.params[j]? = some t → args[j]? = some v → Value.okWide Tryd.prog W .any base t v := hval0
  have hW' := hW
  obtain ⟨p, q, hA0, hV0, rfl, hfz, hnd⟩ := hW
  have hA : DataW.TrodAll enc Tryd.prog W 0 (fun _ => true) true Tryd.f4.params.toList args.toList ds p := hA0
  rw [Tryd.params4] at hA hval hsz
  obtain ⟨v0, vs0, d0, ds0, p0, q0, hargs, rfl, rfl, h0, r0⟩ := trodAll_cons hA
  obtain ⟨rfl, rfl, rfl⟩ := trodAll_nil r0
  obtain rfl : args = #[v0] := by cases args; simp_all
  obtain ⟨rfl, rfl⟩ := trodVars_none hV0
  obtain ⟨a0, rfl, rfl, rfl, y0⟩ := open_string Tryd.underlying9 (hval 0 9 v0 rfl rfl) h0
  have w0 : a0.size ≤ 140737488351232 := by
    have z := sized_string hsz (j := 0) (t := 9) rfl rfl
    rw [Array.length_toList] at z
    exact z
  clear hA0 hval0 hsz0 hsz hV0
  have hL' : laidMet Tryd.prog [("math/bits.deBruijn32tab", Rows.laid_math_bits_deBruijn32tab), ("math/bits.deBruijn64tab", Rows.laid_math_bits_deBruijn64tab), ("internal/strconv.uint64pow10", Rows.laid_internal_strconv_uint64pow10), ("unicode/utf8.acceptRanges", Rows.laid_unicode_utf8_acceptRanges), ("strconv.ErrRange", Rows.laid_strconv_ErrRange), ("strconv.ErrSyntax", Rows.laid_strconv_ErrSyntax), ("unicode/utf8.first", Rows.laid_unicode_utf8_first)] W := hL
  have hEA : P.EnvA W := ⟨sent1 hL'.tail.tail.tail.tail.tail, sent2 hL'.tail.tail.tail.tail⟩
  have hEI := envI hL'.tail.tail
  have hEM := envM hsh
  refine (P.laws_FnExactTermSize.walk Pure.FnExactTermSize a0 W w0 hEA hEI hEM).mono fun e W' ⟨he, bel⟩ => ?_
  subst he
  exact ⟨_, rfl, _, _, _, [], _, [], hW', trodAll_mk1 (shut_bool Tryd.underlying4 _), (trodAll_cons_mk (shut_string Tryd.underlying9 y0) trodAll_mk0), rfl, bel.frame _, fun h => by cases h⟩
theorem over : Rows.fnExactTermSizeRow.holds Tryd.pinned (OpenSpec.ofChange Rows.fnExactTermSizeSpec) :=
  OpenClaim.holds_of_cond 4 Tryd.f4 rfl rfl rfl rfl rfl rfl rfl ⟨rfl, rfl, rfl, rfl, rfl⟩ rfl rfl rfl rfl rfl (by kernel_rfl) Tryd.func4 (by kernel_rfl)
    (of_decide_eq_true (by kernel_rfl)) (by unfold Func.isWrapper; first | (rw [if_pos (by decide +kernel)]; kernel_rfl) | (rw [if_neg (by decide +kernel)]; exact ⟨rfl, rfl⟩))
    (fun os started H enc _ F => by rw [OpenClaim.pre_eq_preRow]; exact lifted os started H enc F)
theorem card_holds : Rows.FnExactTermSizeCardSaid :=
  Claim7.holds_tied_plain_at .later [] [.data, .data, .data, .data, .sentinel, .sentinel, .pinned] true (true, "297631d8dead1c04a6edc8b3a8afb5f08cb01dbc377d63fc3ce3fc1c49af5030") true
    over (fun _ h => by cases h) (by kernel_rfl) (fun _ h => by cases h) fnExactTermSize_row_tie rfl ⟨rfl, rfl⟩ (by kernel_rfl) rfl
    (fun f fn hf hfn => by
      obtain rfl : f = 4 := Option.some.inj ((show Tryd.prog.funcNamed "loop.example/g00963/laws.FnExactTermSize" = some 4 by kernel_rfl).symm.trans hf) |>.symm
      obtain rfl : fn = Tryd.f4 := (Option.some.inj (Tryd.func4.symm.trans hfn)).symm
      exact ⟨by kernel_rfl, fun j t ht => by
        rw [Tryd.params4] at ht
        have hm : t = 9 := by
          rcases j with _ | j
          · have := ht.symm; simp at this; omega
          · simp at ht
        rcases hm with rfl
        · exact (show Tryd.prog.wantsStandIn 9 = false by kernel_rfl)⟩)
    (by kernel_rfl)
end Go.Proofs.YtefiapcfdabfpaaDoor.fnExactTermSize
namespace Go.Proofs.YtefiapcfdabfpaaDoor
/-- The tied card, under a short name, for the claim. -/
theorem fnExactTermSize_holds : Rows.FnExactTermSizeCardSaid := fnExactTermSize.card_holds
end Go.Proofs.YtefiapcfdabfpaaDoor
