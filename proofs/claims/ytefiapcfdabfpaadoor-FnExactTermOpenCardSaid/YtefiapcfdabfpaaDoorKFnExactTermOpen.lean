/- The row of laws.FnExactTermOpen and its tied card: for every input the law returns true, and the arguments read afterwards as before. Written by wip/tools/card.py. -/
import Derived.Test.YtefiapcfdabfpaaDoorBTm3
import Derived.Test.YtefiapcfdabfpaaDoorBTm2
import Derived.Test.YtefiapcfdabfpaaDoorBTm1
import Derived.Test.YtefiapcfdabfpaaDoorCards
import Derived.Test.YtefiapcfdabfpaaDoorTie
import Derived.SevenTiedAt
set_option linter.unusedVariables false
set_option linter.unusedSimpArgs false
namespace Go.Proofs.YtefiapcfdabfpaaDoor.P
open Go.RowKit Go.Proofs.YtefiapcfdabfpaaDoorW.PrintWords Go.Proofs.YtefiapcfdabfpaaDoorW.PrintLast Go.Proofs.YtefiapcfdabfpaaDoorW.PrintMore
set_option maxRecDepth 100000
set_option maxHeartbeats 8000000
def szsum : List Te → Nat
  | [] => 0
  | t :: l => t.sz + szsum l
theorem sz_kids (e : Te) : e.sz = 1 + szsum e.kids := by
  cases e <;> simp [Te.sz, Te.kids, szsum] <;> omega
theorem szsum_take (l : List Te) : ∀ (i : Nat) (h : i < l.length), szsum (l.take (i + 1)) = szsum (l.take i) + (l[i]'h).sz := by
  induction l with
  | nil => intro i h; simp at h
  | cons x l ih =>
    intro i h
    cases i with
    | zero => simp [szsum]
    | succ i =>
      have := ih i (by simpa using h)
      simp only [List.take_succ_cons, szsum, List.getElem_cons_succ] at this ⊢
      omega
theorem szsum_le (l : List Te) : ∀ i, szsum (l.take i) ≤ szsum l := by
  induction l with
  | nil => intro i; simp [szsum]
  | cons x l ih =>
    intro i
    cases i with
    | zero => simp [szsum]
    | succ i =>
      have := ih i
      simp only [List.take_succ_cons, szsum]
      omega
theorem kids_le (e : Te) : e.kids.length ≤ 3 := by cases e <;> simp [Te.kids]
/-- What a walk over a node's parts is given. -/
structure Parts (w : World) (ok : Nat → Prop) (g : Nat) (e : Te) (Ak : Option Addr) (ck : Nat) (gs : List Nat) : Prop where
  c0 : w.cell? ⟨g, 0, none⟩ = some (.int .u8 e.kind)
  c4 : w.cell? ⟨g, 4, none⟩ = some (.slice Ak e.kids.length ck)
  hk : e.kids.length ≤ ck
  hgs : gs.length = e.kids.length
  hrk : RowP w ok Ak gs
  hr : ∀ (j : Nat) (g' : Nat) (hj : j < e.kids.length), gs[j]? = some g' → Rep w ok g' (e.kids[j]'hj).tm
theorem Rep.parts {w : World} {ok : Nat → Prop} {g : Nat} {e : Te} (h : Rep w ok g e.tm) : ∃ Ak ck gs, Parts w ok g e Ak ck gs := by
  obtain ⟨Al, cl, Ak, ck, gs, c0, c1, c2, c3, c4, c5, hl, hrl, hk, hgs, hrk, hr⟩ := h.cells
  rw [Te.tm_kids, List.length_map] at c4 hk hgs
  rw [Te.tm_kind] at c0
  exact ⟨Ak, ck, gs, c0, c4, hk, hgs, hrk, fun j g' hj hg => hr j g' _ hg (by rw [Te.tm_kids, List.getElem?_map, List.getElem?_eq_getElem hj]; rfl)⟩
theorem Rep.drewN {w : World} {ok : Nat → Prop} {g : Nat} {t : Tm} (h : Rep w ok g t) (q : Nat) : Rep (w.drewN q) ok g t := h.stay (pw_below_drewN (Below.refl _ _) q)
theorem drewN_drewN (w : World) (p q : Nat) : ∃ r, (w.drewN p).drewN q = w.drewN r := ⟨p + q, by simp⟩
theorem size_node : ∀ (n : Nat) (e : Te), e.sz ≤ n → e.sz ≤ 100000 → ∀ (w : World) (ok : Nat → Prop) (g : Nat), Rep w ok g e.tm →
    Calls Tryd.prog 46 #[.pointer (some ⟨g, 0, none⟩)] w fun ex w' => ex = .returned (.int .i64 (e.sz : Int)) ∧ Drawn0 w w' := by
  intro n
  induction n with
  | zero => intro e h; have := e.sz_pos; omega
  | succ n ih =>
    intro e hn hb w ok g hrep
    obtain ⟨Ak, ck, gs, hp⟩ := hrep.parts
    have c4 := hp.c4
    have hk := hp.hk
    have hgs := hp.hgs
    have hrk := hp.hrk
    have hr' := hp.hr
    have hsz := sz_kids e
    have hlt : ∀ x ∈ e.kids, x.sz < e.sz := fun x hx => Te.kid_lt hx
    have hle := szsum_le e.kids
    have hk3 := kids_le e
    clear hp hrep
    generalize hks : e.kids = ks at *
    clear hks
    go_enter Tryd.func46, Tryd.ntmps46
    go_wp2
    go_loopg [3, 11] ks.length (fun m v3 v11 w' => ∃ i : Nat, i ≤ ks.length ∧ ks.length - i ≤ m ∧ v3 = .int .i64 (1 + (szsum (ks.take i) : Int)) ∧ v11 = .int .i64 (i : Int) ∧ ∃ q, w' = w.drewN q)
    case atStart => exact ⟨0, Nat.zero_le _, by omega, by simp [szsum], rfl, 0, rfl⟩
    case round =>
      obtain ⟨i, hi, hm, rfl, rfl, q, rfl⟩ := hrel
      have hb1 := hle i
      by_cases hl : i < ks.length
      · have hli : (i : Int) < (ks.length : Int) := by omega
        have hlt2 : i < gs.length := by omega
        obtain ⟨b, o, rfl, hbk, hcell⟩ := hrk i _ (List.getElem?_eq_getElem hlt2)
        have hst := szsum_take ks i hl
        have hkl := hlt ks[i] (List.getElem_mem hl)
        have hC := ih ks[i] (by omega) (by omega) (w.drewN q) ok gs[i] ((hr' i _ hl (List.getElem?_eq_getElem hlt2)).drewN q)
        have hcell' : (w.drewN q).cell? ⟨b, o + i, none⟩ = some (.pointer (some ⟨gs[i], 0, none⟩)) := hcell
        have hle2 := hle (i + 1)
        rw [hst] at hle2
        generalize gs[i] = g' at hcell hcell' hC
        generalize ks[i] = x at hst hkl hC hle2
        have hst' := Aside0.mk hst
        clear hst hcell
        go_wp2_with (first | (go_at_call 46; refine (Calls.mono hC ?_); rintro ex w2 ⟨rfl, q2, rfl⟩))
        go_roundg (ks.length - (i + 1))
        case measure => omega
        case rel => exact ⟨i + 1, by omega, by omega, by rw [hst'.out]; congr 1; omega, rfl, q + q2, rfl⟩
      · have hlt' : ¬ (i : Int) < (ks.length : Int) := by omega
        go_wp2
        go_ret
        have hi2 : i = ks.length := by omega
        subst hi2
        rw [List.take_length]
        exact ⟨rfl, q, rfl⟩
def impl_TermSize.f (a0 : ByteArray) : Option Int := if a0.size ≤ 140737488351232 then some (match parseT a0 with | some t => (t.sz : Int) | none => 0) else none
theorem te_sz {s : ByteArray} {t : Te} (h : parseT s = some t) : t.sz ≤ 2000 := by
  unfold parseT at h
  by_cases hs : s.size ≤ 2000
  · rw [if_pos hs] at h
    obtain ⟨r, hr, h⟩ := Option.bind_eq_some_iff.mp h
    by_cases he : r.2 = s.size
    · rw [if_pos he] at h
      obtain rfl := Option.some.inj h
      have := sz_le s _ _ r.1 r.2 hr hs (Nat.zero_le _)
      omega
    · rw [if_neg he] at h; cases h
  · rw [if_neg hs] at h; cases h
theorem impl_TermSize.calls (a0 : ByteArray) (r : Int) (w : World) (hA : EnvA w) (hI : EnvI w) (hM : EnvM w) (h : impl_TermSize.f a0 = some r) :
    Calls Tryd.prog 18 #[.string a0] w fun e w' => e = .returned (.int .i64 r) ∧ Below w.heap.size w w' := by
  unfold impl_TermSize.f at h
  by_cases hB : a0.size ≤ 140737488351232
  · rw [if_pos hB] at h
    obtain rfl := Option.some.inj h
    have hP := parse_all a0 w hA hI hM hB
    clear hA hI hM h
    cases hx : parseT a0 with
    | none =>
      rw [hx] at hP
      clear hx
      unfold Parsed at hP
      simp only at hP ⊢
      go_enter Tryd.func18, Tryd.ntmps18
      go_wp2_with (first | (go_at_call 45; refine (Calls.mono hP ?_); rintro e w2 ⟨hb2, rfl⟩))
      go_ret
      exact ⟨rfl, hb2⟩
    | some t =>
      have hz := te_sz hx
      rw [hx] at hP
      clear hx
      unfold Parsed at hP
      simp only at hP ⊢
      have hS := fun w2 g (h : Rep w2 (fun _ => True) g t.tm) => size_node t.sz t (Nat.le_refl _) (by omega) w2 _ g h
      go_enter Tryd.func18, Tryd.ntmps18
      go_wp2_with (first | (go_at_call 45; refine (Calls.mono hP ?_); rintro e w2 ⟨hb2, g, rfl, hrep⟩) | (go_at_call 46; refine (Calls.mono (hS _ _ hrep) ?_); rintro ex w3 ⟨rfl, q, rfl⟩))
      go_ret
      exact ⟨rfl, pw_below_drewN hb2 _⟩
  · rw [if_neg hB] at h; cases h
end Go.Proofs.YtefiapcfdabfpaaDoor.P

namespace Go.Proofs.YtefiapcfdabfpaaDoor.P
open Go.RowKit Go.Proofs.YtefiapcfdabfpaaDoorW.PrintWords Go.Proofs.YtefiapcfdabfpaaDoorW.PrintLast Go.Proofs.YtefiapcfdabfpaaDoorW.PrintMore
set_option maxRecDepth 100000
set_option maxHeartbeats 8000000
attribute [local go_sem] max2_int min2_int max_two min_two max_three min_three max_four min_four
def bindsB (k : Int) (i : Nat) : Bool := (i == 1 && (k == 108 || k == 112)) || i == 2
theorem binds_is (w : World) (g : Nat) (k : Int) (i : Nat) (hi : i ≤ 3) (c0 : w.cell? ⟨g, 0, none⟩ = some (.int .u8 k)) :
    Calls Tryd.prog 92 #[.pointer (some ⟨g, 0, none⟩), .int .i64 (i : Int)] w fun ex w' => ex = .returned (.bool (bindsB k i)) ∧ w' = w := by
  have hi4 : i = 0 ∨ i = 1 ∨ i = 2 ∨ i = 3 := by omega
  by_cases h1 : k = 108
  · subst h1
    rcases hi4 with rfl | rfl | rfl | rfl
    all_goals
      go_enter Tryd.func92, Tryd.ntmps92
      go_wp2
      go_ret
      exact ⟨rfl, rfl⟩
  · have e1 : (k == 108) = false := beq_eq_false_iff_ne.mpr h1
    by_cases h2 : k = 112
    · subst h2
      rcases hi4 with rfl | rfl | rfl | rfl
      all_goals
        go_enter Tryd.func92, Tryd.ntmps92
        go_wp2
        go_ret
        exact ⟨rfl, rfl⟩
    · have e2 : (k == 112) = false := beq_eq_false_iff_ne.mpr h2
      have hb : ∀ j, bindsB k j = (j == 2) := fun j => by unfold bindsB; rw [e1, e2]; simp
      rw [hb]
      clear h1 h2 hb
      rcases hi4 with rfl | rfl | rfl | rfl
      all_goals
        go_enter Tryd.func92, Tryd.ntmps92
        go_wp2
        go_ret
        exact ⟨rfl, rfl⟩
def bI (k : Int) (i : Nat) : Int := if bindsB k i = true then 1 else 0
theorem bI_le (k : Int) (i : Nat) : 0 ≤ bI k i ∧ bI k i ≤ 1 := by unfold bI; split <;> omega
theorem below_is (w : World) (g : Nat) (k : Int) (i : Nat) (d : Int) (h0 : 0 ≤ d) (h1 : d ≤ 1000000) (hi : i ≤ 3) (c0 : w.cell? ⟨g, 0, none⟩ = some (.int .u8 k)) :
    Calls Tryd.prog 71 #[.pointer (some ⟨g, 0, none⟩), .int .i64 (i : Int), .int .i64 d] w fun ex w' => ex = .returned (.int .i64 (d + bI k i)) ∧ w' = w := by
  have hB := binds_is w g k i hi c0
  clear c0 hi
  unfold bI
  cases hb : bindsB k i
  · rw [hb] at hB
    clear hb
    go_enter Tryd.func71, Tryd.ntmps71
    go_wp2_with (first | (go_at_call 92; refine (Calls.mono hB ?_); rintro ex w2 ⟨rfl, rfl⟩))
    go_ret
    exact ⟨by simp, rfl⟩
  · rw [hb] at hB
    clear hb
    go_enter Tryd.func71, Tryd.ntmps71
    go_wp2_with (first | (go_at_call 92; refine (Calls.mono hB ?_); rintro ex w2 ⟨rfl, rfl⟩))
    go_ret
    exact ⟨by simp, rfl⟩
/-- One above the greatest number of a free variable. -/
def opn : Te → Int
  | .var n => n + 1
  | .sort _ => 0
  | .con _ _ => 0
  | .two k x y => max (opn x) (opn y - bI k 1)
  | .three x y z => max (max (opn x) (opn y)) (opn z - 1)
theorem opn_le {e : Te} (h : e.Ok) : 0 ≤ opn e ∧ opn e ≤ 1000 := by
  induction h with
  | var n h0 h1 => simp only [opn]; omega
  | sort l h => simp only [opn]; omega
  | con n l hn hl hs => simp only [opn]; omega
  | two k x y hk _ _ ihx ihy => simp only [opn]; have := bI_le k 1; omega
  | three x y z _ _ _ ihx ihy ihz => simp only [opn]; omega
/-- What the loop has behind so many parts. -/
def opk (k d : Int) (ks : List Te) : Nat → Int
  | 0 => 0
  | i + 1 => match ks[i]? with
    | some x => max (opk k d ks i) (max 0 (opn x - (d + bI k i)))
    | none => opk k d ks i
theorem opk_all {e : Te} (h : e.Ok) (d : Int) (hd : 0 ≤ d) (hv : e.kind ≠ 118) : opk e.kind d e.kids e.kids.length = max 0 (opn e - d) := by
  cases h with
  | var n h0 h1 => exact absurd rfl hv
  | sort l h => simp [Te.kids, opk, opn]; omega
  | con n l hn hl hs => simp [Te.kids, opk, opn]; omega
  | two k x y hk hx hy =>
    have b0 : bI k 0 = 0 := by unfold bI bindsB; simp
    simp only [Te.kids, Te.kind, List.length_cons, List.length_nil, opk, List.getElem?_cons_zero, List.getElem?_cons_succ, opn, b0]
    have := bI_le k 1
    omega
  | three x y z hx hy hz =>
    simp only [Te.kids, Te.kind, List.length_cons, List.length_nil, opk, List.getElem?_cons_zero, List.getElem?_cons_succ, opn, show bI 116 0 = 0 from rfl, show bI 116 1 = 0 from rfl, show bI 116 2 = 1 from rfl]
    omega
theorem opk_le (k d : Int) (ks : List Te) (hk : ∀ x ∈ ks, x.Ok) (hd : 0 ≤ d) : ∀ i, 0 ≤ opk k d ks i ∧ opk k d ks i ≤ 1000 := by
  intro i
  induction i with
  | zero => simp [opk]
  | succ i ih =>
    simp only [opk]
    cases h : ks[i]? with
    | none => exact ih
    | some x =>
      have := opn_le (hk x (List.mem_of_getElem? h))
      have := bI_le k i
      simp only
      omega
theorem ok_kids {e : Te} (h : e.Ok) : ∀ x ∈ e.kids, x.Ok := by
  cases h with
  | two k x y hk hx hy => intro z hz; simp only [Te.kids, List.mem_cons, List.mem_nil_iff, or_false] at hz; rcases hz with rfl | rfl; exact hx; exact hy
  | three x y z hx hy hz => intro t ht; simp only [Te.kids, List.mem_cons, List.mem_nil_iff, or_false] at ht; rcases ht with rfl | rfl | rfl; exact hx; exact hy; exact hz
  | _ => intro x hx; simp [Te.kids] at hx
theorem open_node : ∀ (n : Nat) (e : Te), e.sz ≤ n → e.Ok → ∀ (d : Int) (w : World) (ok : Nat → Prop) (g : Nat), 0 ≤ d → d + e.sz ≤ 100000 → Rep w ok g e.tm →
    Calls Tryd.prog 53 #[.pointer (some ⟨g, 0, none⟩), .int .i64 d] w fun ex w' => ex = .returned (.int .i64 (max 0 (opn e - d))) ∧ Drawn0 w w' := by
  intro n
  induction n with
  | zero => intro e h; have := e.sz_pos; omega
  | succ n ih =>
    intro e hn hok d w ok g h0 h1 hrep
    by_cases hv : e.kind = 118
    · cases hok with
      | var m m0 m1 =>
        obtain ⟨Al, cl, Ak, ck, gs, c0, c1, _⟩ := hrep.cells
        have c0' : w.cell? ⟨g, 0, none⟩ = some (.int .u8 118) := c0
        have c1' : w.cell? ⟨g, 1, none⟩ = some (.int .i64 m) := c1
        have hz : (Te.var m).sz = 1 := rfl
        rw [hz] at h1
        clear ih hrep c0 c1 hz
        simp only [opn]
        by_cases hmd : 0 < m - d + 1
        · rw [show max 0 (m + 1 - d) = m - d + 1 from by omega]
          go_enter Tryd.func53, Tryd.ntmps53
          go_wp2
          all_goals
            first
              | (exfalso; omega)
              | (go_ret; exact ⟨rfl, 0, rfl⟩)
        · rw [show max 0 (m + 1 - d) = 0 from by omega]
          go_enter Tryd.func53, Tryd.ntmps53
          go_wp2
          all_goals
            first
              | (exfalso; omega)
              | (go_ret; exact ⟨rfl, 0, rfl⟩)
      | sort l h => simp [Te.kind] at hv
      | con n l hn hl hs => simp [Te.kind] at hv
      | two k x y hk hx hy => simp only [Te.kind] at hv; omega
      | three x y z hx hy hz => simp [Te.kind] at hv
    · have hall := opk_all hok d h0 hv
      have hkok := ok_kids hok
      have hlt : ∀ x ∈ e.kids, x.sz < e.sz := fun x hx => Te.kid_lt hx
      have hk3 := kids_le e
      obtain ⟨Ak, ck, gs, hp⟩ := hrep.parts
      have c0 := hp.c0
      have c4 := hp.c4
      have hk := hp.hk
      have hgs := hp.hgs
      have hrk := hp.hrk
      have hr' := hp.hr
      have hkk : (e.kind == 118) = false := beq_eq_false_iff_ne.mpr hv
      have hop := opk_le e.kind d e.kids hkok h0
      clear hp hrep hok hv
      rw [← hall]
      clear hall
      generalize hks : e.kids = ks at *
      generalize e.kind = kd at *
      clear hks
      go_enter Tryd.func53, Tryd.ntmps53
      go_wp2
      go_loopg [5, 26] ks.length (fun m v3 v11 w' => ∃ i : Nat, i ≤ ks.length ∧ ks.length - i ≤ m ∧ v3 = .int .i64 (opk kd d ks i) ∧ v11 = .int .i64 (i : Int) ∧ ∃ q, w' = w.drewN q)
      case atStart => exact ⟨0, Nat.zero_le _, by omega, rfl, rfl, 0, rfl⟩
      case round =>
        obtain ⟨i, hi, hm, rfl, rfl, q, rfl⟩ := hrel
        have hb1 := hop i
        by_cases hl : i < ks.length
        · have hli : (i : Int) < (ks.length : Int) := by omega
          have hlt2 : i < gs.length := by omega
          obtain ⟨b, o, rfl, hbk, hcell⟩ := hrk i _ (List.getElem?_eq_getElem hlt2)
          have hst : opk kd d ks (i + 1) = max (opk kd d ks i) (max 0 (opn ks[i] - (d + bI kd i))) := by simp only [opk]; rw [List.getElem?_eq_getElem hl]
          have hkl := hlt ks[i] (List.getElem_mem hl)
          have hol := opn_le (hkok ks[i] (List.getElem_mem hl))
          have hbl := bI_le kd i
          have hBe := below_is (w.drewN q) g kd i d h0 (by omega) (by omega) c0
          have hC := ih ks[i] (by omega) (hkok _ (List.getElem_mem hl)) (d + bI kd i) (w.drewN q) ok gs[i] (by omega) (by omega) ((hr' i _ hl (List.getElem?_eq_getElem hlt2)).drewN q)
          have hcell' : (w.drewN q).cell? ⟨b, o + i, none⟩ = some (.pointer (some ⟨gs[i], 0, none⟩)) := hcell
          generalize gs[i] = g' at hcell hcell' hC
          generalize ks[i] = x at hst hkl hC hol
          have hst' := Aside0.mk hst
          clear hst hcell
          go_wp2_with (first | (go_at_call 71; refine (Calls.mono hBe ?_); rintro ex w2 ⟨rfl, rfl⟩) | (go_at_call 53; refine (Calls.mono hC ?_); rintro ex w2 ⟨rfl, q2, rfl⟩))
          all_goals
            go_roundg (ks.length - (i + 1))
            case measure => omega
            case rel => exact ⟨i + 1, by omega, by omega, by rw [hst'.out]; congr 1; omega, rfl, q + q2, rfl⟩
        · have hlt' : ¬ (i : Int) < (ks.length : Int) := by omega
          go_wp2
          go_ret
          have hi2 : i = ks.length := by omega
          subst hi2
          exact ⟨rfl, q, rfl⟩
def impl_TermOpen.f (a0 : ByteArray) : Option Int := if a0.size ≤ 140737488351232 then some (match parseT a0 with | some t => max 0 (opn t) | none => 0) else none
theorem te_ok {s : ByteArray} {t : Te} (h : parseT s = some t) : t.Ok := by
  unfold parseT at h
  by_cases hs : s.size ≤ 2000
  · rw [if_pos hs] at h
    obtain ⟨r, hr, h⟩ := Option.bind_eq_some_iff.mp h
    by_cases he : r.2 = s.size
    · rw [if_pos he] at h
      obtain rfl := Option.some.inj h
      exact (rdT_ok s hs _ _ r.1 r.2 hr (Nat.zero_le _)).1
    · rw [if_neg he] at h; cases h
  · rw [if_neg hs] at h; cases h
theorem impl_TermOpen.calls (a0 : ByteArray) (r : Int) (w : World) (hA : EnvA w) (hI : EnvI w) (hM : EnvM w) (h : impl_TermOpen.f a0 = some r) :
    Calls Tryd.prog 29 #[.string a0] w fun e w' => e = .returned (.int .i64 r) ∧ Below w.heap.size w w' := by
  unfold impl_TermOpen.f at h
  by_cases hB : a0.size ≤ 140737488351232
  · rw [if_pos hB] at h
    obtain rfl := Option.some.inj h
    have hP := parse_all a0 w hA hI hM hB
    clear hA hI hM h
    cases hx : parseT a0 with
    | none =>
      rw [hx] at hP
      clear hx
      unfold Parsed at hP
      simp only at hP ⊢
      go_enter Tryd.func29, Tryd.ntmps29
      go_wp2_with (first | (go_at_call 45; refine (Calls.mono hP ?_); rintro e w2 ⟨hb2, rfl⟩))
      go_ret
      exact ⟨rfl, hb2⟩
    | some t =>
      have hz := te_sz hx
      have hok := te_ok hx
      rw [hx] at hP
      clear hx
      unfold Parsed at hP
      simp only at hP ⊢
      have hS := fun w2 g (h : Rep w2 (fun _ => True) g t.tm) => open_node t.sz t (Nat.le_refl _) hok 0 w2 _ g (Int.le_refl _) (by omega) h
      simp only [Int.sub_zero] at hS
      go_enter Tryd.func29, Tryd.ntmps29
      go_wp2_with (first | (go_at_call 45; refine (Calls.mono hP ?_); rintro e w2 ⟨hb2, g, rfl, hrep⟩) | (go_at_call 53; refine (Calls.mono (hS _ _ hrep) ?_); rintro ex w3 ⟨rfl, q, rfl⟩))
      go_ret
      exact ⟨rfl, pw_below_drewN hb2 _⟩
  · rw [if_neg hB] at h; cases h
end Go.Proofs.YtefiapcfdabfpaaDoor.P

namespace Go.Proofs.YtefiapcfdabfpaaDoor.P
open Go.RowKit Go.Proofs.YtefiapcfdabfpaaDoorW.PrintWords Go.Proofs.YtefiapcfdabfpaaDoorW.PrintLast Go.Proofs.YtefiapcfdabfpaaDoorW.PrintMore
attribute [local go_sem] max2_int min2_int max_two min_two max_three min_three max_four min_four
set_option linter.unusedVariables false
set_option linter.unusedSimpArgs false

/-! ### spec_Brought: function 51 -/
def spec_Brought.j0 : Nat → Int → Int → Int → Bool → Option (Int)
  | 0, _, _, _, _ => none
  | k + 1, x0, x1, x2, x14 => if x14 = true then (some x1) else (if x0 > x2 then (some x2) else (some x0))
def spec_Brought.f (k : Nat) (a0 : Int) (a1 : Int) (a2 : Int) : Option (Int) := if a2 < a1 then (spec_Brought.j0 k a0 a1 a2 true) else (spec_Brought.j0 k a0 a1 a2 (decide (a0 < a1)))
theorem spec_Brought.mono_l : ∀ k, (∀ y0 y1 y2 y3, LeO (spec_Brought.j0 k y0 y1 y2 y3) (spec_Brought.j0 (k + 1) y0 y1 y2 y3))
  | 0 => fun _ _ _ _ r h => by simp [spec_Brought.j0] at h
  | k + 1 => by
    have ih0 := spec_Brought.mono_l k
    · intro y0 y1 y2 y3
      unfold spec_Brought.j0
      repeat' first
      | (with_reducible exact ih0 _ _ _ _)
      | (with_reducible exact LeO.refl _)
      | (with_reducible exact LeO.none _)
      | (with_reducible refine LeO.ite ?_ ?_)
      | (with_reducible refine LeO.bind ?_ (fun _ => ?_))
      | exact ih0 _ _ _ _
      | exact LeO.none _
      | refine LeO.ite ?_ ?_
      | refine LeO.bind ?_ (fun _ => ?_)
theorem spec_Brought.mono : ∀ a0 a1 a2 k, LeO (spec_Brought.f k a0 a1 a2) (spec_Brought.f (k + 1) a0 a1 a2) := by
  intro a0 a1 a2 k
  have ih0 := spec_Brought.mono_l k
  unfold spec_Brought.f
  repeat' first
      | (with_reducible exact ih0 _ _ _ _)
      | (with_reducible exact LeO.refl _)
      | (with_reducible exact LeO.none _)
      | (with_reducible refine LeO.ite ?_ ?_)
      | (with_reducible refine LeO.bind ?_ (fun _ => ?_))
      | exact ih0 _ _ _ _
      | exact LeO.none _
      | refine LeO.ite ?_ ?_
      | refine LeO.bind ?_ (fun _ => ?_)
set_option maxHeartbeats 8000000 in
set_option maxRecDepth 100000 in
theorem spec_Brought.calls (k : Nat) (a0 : Int) (a1 : Int) (a2 : Int) (r : Int) (w : World) (h : spec_Brought.f k a0 a1 a2 = some r) :
    Calls Tryd.prog 51 #[.int .i64 a0, .int .i64 a1, .int .i64 a2] w fun e w' => e = .returned (.int .i64 r) ∧ Drawn0 w w' := by
  have H : (if a2 < a1 then (spec_Brought.j0 k a0 a1 a2 true) else (spec_Brought.j0 k a0 a1 a2 (decide (a0 < a1)))) = some r := h
  clear h
  have HC4 := Aside0.mk H
  clear H
  go_enter Tryd.func51, Tryd.ntmps51
  go_upto_region 1 with (fail)
  go_cut [14] (fun v14 wc => ∃ (kq : Nat) (x14_3 : Bool), v14 = .bool x14_3 ∧ Aside0 (spec_Brought.j0 kq a0 a1 a2 x14_3 = some r) ∧ Aside0 (kq ≤ k) ∧ Drawn0 w wc)
  case first =>
    have H := HC4.out
    clear HC4
    by_cases c5 : a2 < a1
    · rw [if_pos c5] at H
      have c5b0 : decide (a2 < a1) = true := decide_eq_true c5
      clear c5
      (first | rw [c5b0] | (simp only [i64_w, i32_w]; rw [c5b0]) | skip)
      have H' := Aside0.mk H
      clear H
      go_wp2
      go_meet
      case rel => exact ⟨_, (true), (by first | rfl | (simp; done) | (simp [*]; done)), H', ⟨by first | omega | exact Nat.le_refl _⟩, by repeat (first | exact Drawn0.refl _ | apply Drawn0.step)⟩
    · rw [if_neg c5] at H
      have c5b0 : decide (a2 < a1) = false := decide_eq_false c5
      clear c5
      (first | rw [c5b0] | (simp only [i64_w, i32_w]; rw [c5b0]) | skip)
      have H' := Aside0.mk H
      clear H
      go_wp2
      go_meet
      case rel => exact ⟨_, (decide (a0 < a1)), (by first | rfl | (simp; done) | (simp [*]; done)), H', ⟨by first | omega | exact Nat.le_refl _⟩, by repeat (first | exact Drawn0.refl _ | apply Drawn0.step)⟩
  case rest =>
    clear HC4
    try clear p2
    try clear c5
    try clear c5b0
    obtain ⟨kq, x14_3, rfl, HA, HJ3, ⟨mc3, rfl⟩⟩ := hcut
    cases kq with
    | zero => exact absurd HA.out (by simp [spec_Brought.j0])
    | succ kj3 =>
      have H := HA.out
      clear HA
      simp only [spec_Brought.j0] at H
      by_cases c6 : x14_3 = true
      · subst c6
        have H1 : (some a1) = some r := by rw [if_pos rfl] at H; exact H
        clear H
        have H := H1
        clear H1
        obtain rfl := Option.some.inj H
        go_wp2
        go_ret
        exact ⟨by first | rfl | (simp; done) | (simp [*]; done), by repeat (first | exact Drawn0.refl _ | apply Drawn0.step)⟩
      · replace c6 := Bool.eq_false_iff.mpr c6
        subst c6
        have H1 : (if a0 > a2 then (some a2) else (some a0)) = some r := by rw [if_neg (show ¬ (false = true) by decide)] at H; exact H
        clear H
        have H := H1
        clear H1
        by_cases c7 : a0 > a2
        · rw [if_pos c7] at H
          have c7b0 : decide (a2 < a0) = true := decide_eq_true c7
          clear c7
          obtain rfl := Option.some.inj H
          go_wp2
          go_ret
          exact ⟨by first | rfl | (simp; done) | (simp [*]; done), by repeat (first | exact Drawn0.refl _ | apply Drawn0.step)⟩
        · rw [if_neg c7] at H
          have c7b0 : decide (a2 < a0) = false := decide_eq_false c7
          clear c7
          obtain rfl := Option.some.inj H
          go_wp2
          go_ret
          exact ⟨by first | rfl | (simp; done) | (simp [*]; done), by repeat (first | exact Drawn0.refl _ | apply Drawn0.step)⟩

end Go.Proofs.YtefiapcfdabfpaaDoor.P

namespace Go.Proofs.YtefiapcfdabfpaaDoor.P
open Go.RowKit Go.Proofs.YtefiapcfdabfpaaDoorW.PrintWords Go.Proofs.YtefiapcfdabfpaaDoorW.PrintLast Go.Proofs.YtefiapcfdabfpaaDoorW.PrintMore
attribute [local go_sem] max2_int min2_int max_two min_two max_three min_three max_four min_four
set_option linter.unusedVariables false
set_option linter.unusedSimpArgs false

/-! ### spec_l06Open: function 52 -/
mutual
def spec_l06Open.j0 : Nat → Int → Int → Int → Int → Int → Int → Int → Int → ByteArray → List ByteArray → Option (Int)
  | 0, _, _, _, _, _, _, _, _, _, _ => none
  | k + 1, x6, x7, x8, x103000, x103001, x103002, x103003, x103004, x103005, x103006 => if x103000 = 108 then (spec_l06Open.j1 k x6 x7 x8 true) else (spec_l06Open.j1 k x6 x7 x8 (x103000 == 112))
def spec_l06Open.j1 : Nat → Int → Int → Int → Bool → Option (Int)
  | 0, _, _, _, _ => none
  | k + 1, x6, x7, x8, x46 => if x46 = true then (spec_l06Open.j2 k x6 (wrap64 (x7 - 1)) x8) else (spec_l06Open.j2 k x6 x7 x8)
def spec_l06Open.j2 : Nat → Int → Int → Int → Option (Int)
  | 0, _, _, _ => none
  | k + 1, x6, x7, x8 => if x7 > x6 then (if x8 > x7 then (some x8) else (some x7)) else (if x8 > x6 then (some x8) else (some x6))
def spec_l06Open.f : Nat → List (S43) → Int → Option (Int)
  | 0, _, _ => none
  | k + 1, l0, a1 => if 0 ≤ a1 then (if a1 < (l0.length : Int) then (if ((rd_T43 l0 a1).f0) = 118 then (some (wrap64 (((rd_T43 l0 a1).f4) + 1))) else (if ((rd_T43 l0 a1).f0) = 115 then (some 0) else (if ((rd_T43 l0 a1).f0) = 99 then (some 0) else ((spec_l06Open.f k l0 ((rd_T43 l0 a1).f1)).bind fun t103 => ((spec_l06Open.f k l0 ((rd_T43 l0 a1).f2)).bind fun t104 => (if ((rd_T43 l0 a1).f0) = 116 then ((spec_l06Open.f k l0 ((rd_T43 l0 a1).f3)).bind fun t105 => (spec_l06Open.j0 k t103 t104 (wrap64 (t105 - 1)) ((rd_T43 l0 a1).f0) ((rd_T43 l0 a1).f1) ((rd_T43 l0 a1).f2) ((rd_T43 l0 a1).f3) ((rd_T43 l0 a1).f4) ((rd_T43 l0 a1).f5) ((rd_T43 l0 a1).f6))) else (spec_l06Open.j0 k t103 t104 0 ((rd_T43 l0 a1).f0) ((rd_T43 l0 a1).f1) ((rd_T43 l0 a1).f2) ((rd_T43 l0 a1).f3) ((rd_T43 l0 a1).f4) ((rd_T43 l0 a1).f5) ((rd_T43 l0 a1).f6)))))))) else (none)) else (none)
end
theorem spec_l06Open.mono_l : ∀ k, (∀ y0 y1, LeO (spec_l06Open.f k y0 y1) (spec_l06Open.f (k + 1) y0 y1)) ∧ (∀ y0 y1 y2 y3 y4 y5 y6 y7 y8 y9, LeO (spec_l06Open.j0 k y0 y1 y2 y3 y4 y5 y6 y7 y8 y9) (spec_l06Open.j0 (k + 1) y0 y1 y2 y3 y4 y5 y6 y7 y8 y9)) ∧ (∀ y0 y1 y2 y3, LeO (spec_l06Open.j1 k y0 y1 y2 y3) (spec_l06Open.j1 (k + 1) y0 y1 y2 y3)) ∧ (∀ y0 y1 y2, LeO (spec_l06Open.j2 k y0 y1 y2) (spec_l06Open.j2 (k + 1) y0 y1 y2))
  | 0 => ⟨fun _ _ r h => by simp [spec_l06Open.f] at h, fun _ _ _ _ _ _ _ _ _ _ r h => by simp [spec_l06Open.j0] at h, fun _ _ _ _ r h => by simp [spec_l06Open.j1] at h, fun _ _ _ r h => by simp [spec_l06Open.j2] at h⟩
  | k + 1 => by
    obtain ⟨ih0, ih1, ih2, ih3⟩ := spec_l06Open.mono_l k
    refine ⟨?_, ?_, ?_, ?_⟩
    · intro y0 y1
      unfold spec_l06Open.f
      repeat' first
      | (with_reducible exact ih0 _ _)
      | (with_reducible exact ih1 _ _ _ _ _ _ _ _ _ _)
      | (with_reducible exact ih2 _ _ _ _)
      | (with_reducible exact ih3 _ _ _)
      | (with_reducible exact LeO.refl _)
      | (with_reducible exact LeO.none _)
      | (with_reducible refine LeO.ite ?_ ?_)
      | (with_reducible refine LeO.bind ?_ (fun _ => ?_))
      | exact ih0 _ _
      | exact ih1 _ _ _ _ _ _ _ _ _ _
      | exact ih2 _ _ _ _
      | exact ih3 _ _ _
      | exact LeO.none _
      | refine LeO.ite ?_ ?_
      | refine LeO.bind ?_ (fun _ => ?_)
    · intro y0 y1 y2 y3 y4 y5 y6 y7 y8 y9
      unfold spec_l06Open.j0
      repeat' first
      | (with_reducible exact ih0 _ _)
      | (with_reducible exact ih1 _ _ _ _ _ _ _ _ _ _)
      | (with_reducible exact ih2 _ _ _ _)
      | (with_reducible exact ih3 _ _ _)
      | (with_reducible exact LeO.refl _)
      | (with_reducible exact LeO.none _)
      | (with_reducible refine LeO.ite ?_ ?_)
      | (with_reducible refine LeO.bind ?_ (fun _ => ?_))
      | exact ih0 _ _
      | exact ih1 _ _ _ _ _ _ _ _ _ _
      | exact ih2 _ _ _ _
      | exact ih3 _ _ _
      | exact LeO.none _
      | refine LeO.ite ?_ ?_
      | refine LeO.bind ?_ (fun _ => ?_)
    · intro y0 y1 y2 y3
      unfold spec_l06Open.j1
      repeat' first
      | (with_reducible exact ih0 _ _)
      | (with_reducible exact ih1 _ _ _ _ _ _ _ _ _ _)
      | (with_reducible exact ih2 _ _ _ _)
      | (with_reducible exact ih3 _ _ _)
      | (with_reducible exact LeO.refl _)
      | (with_reducible exact LeO.none _)
      | (with_reducible refine LeO.ite ?_ ?_)
      | (with_reducible refine LeO.bind ?_ (fun _ => ?_))
      | exact ih0 _ _
      | exact ih1 _ _ _ _ _ _ _ _ _ _
      | exact ih2 _ _ _ _
      | exact ih3 _ _ _
      | exact LeO.none _
      | refine LeO.ite ?_ ?_
      | refine LeO.bind ?_ (fun _ => ?_)
    · intro y0 y1 y2
      unfold spec_l06Open.j2
      repeat' first
      | (with_reducible exact ih0 _ _)
      | (with_reducible exact ih1 _ _ _ _ _ _ _ _ _ _)
      | (with_reducible exact ih2 _ _ _ _)
      | (with_reducible exact ih3 _ _ _)
      | (with_reducible exact LeO.refl _)
      | (with_reducible exact LeO.none _)
      | (with_reducible refine LeO.ite ?_ ?_)
      | (with_reducible refine LeO.bind ?_ (fun _ => ?_))
      | exact ih0 _ _
      | exact ih1 _ _ _ _ _ _ _ _ _ _
      | exact ih2 _ _ _ _
      | exact ih3 _ _ _
      | exact LeO.none _
      | refine LeO.ite ?_ ?_
      | refine LeO.bind ?_ (fun _ => ?_)
theorem spec_l06Open.mono : ∀ a0 a1 k, LeO (spec_l06Open.f k a0 a1) (spec_l06Open.f (k + 1) a0 a1) := by
  intro a0 a1 k
  obtain ⟨ih0, ih1, ih2, ih3⟩ := spec_l06Open.mono_l k
  exact ih0 a0 a1
set_option maxHeartbeats 8000000 in
set_option maxRecDepth 100000 in
theorem spec_l06Open.calls (k : Nat) : ∀ (A0 : Option Addr) (c0 : Nat) (l0 : List (S43)) (a1 : Int) (r : Int) (w : World) (hr0 : Kd.C k43 w A0 l0.length l0) (hc0 : l0.length ≤ c0) (h : spec_l06Open.f k l0 a1 = some r),
    Calls Tryd.prog 52 #[.slice A0 l0.length c0, .int .i64 a1] w fun e w' => e = .returned (.int .i64 r) ∧ Below w.heap.size w w' := by
  induction k using Nat.strongRecOn with
  | _ k ih =>
  intro A0 c0 l0 a1 r w hr0 hc0 h
  cases k with
  | zero => exact absurd h (by simp [spec_l06Open.f])
  | succ k =>
  simp only [spec_l06Open.f] at h
  have hu43 := Tryd.underlying43
  have HR0 := Aside0.mk hr0
  have HC0 := Aside0.mk hc0
  clear hr0 hc0
  have HB := Aside0.mk (Below.refl w.heap.size w)
  have H : (if 0 ≤ a1 then (if a1 < (l0.length : Int) then (if ((rd_T43 l0 a1).f0) = 118 then (some (wrap64 (((rd_T43 l0 a1).f4) + 1))) else (if ((rd_T43 l0 a1).f0) = 115 then (some 0) else (if ((rd_T43 l0 a1).f0) = 99 then (some 0) else ((spec_l06Open.f k l0 ((rd_T43 l0 a1).f1)).bind fun t103 => ((spec_l06Open.f k l0 ((rd_T43 l0 a1).f2)).bind fun t104 => (if ((rd_T43 l0 a1).f0) = 116 then ((spec_l06Open.f k l0 ((rd_T43 l0 a1).f3)).bind fun t105 => (spec_l06Open.j0 k t103 t104 (wrap64 (t105 - 1)) ((rd_T43 l0 a1).f0) ((rd_T43 l0 a1).f1) ((rd_T43 l0 a1).f2) ((rd_T43 l0 a1).f3) ((rd_T43 l0 a1).f4) ((rd_T43 l0 a1).f5) ((rd_T43 l0 a1).f6))) else (spec_l06Open.j0 k t103 t104 0 ((rd_T43 l0 a1).f0) ((rd_T43 l0 a1).f1) ((rd_T43 l0 a1).f2) ((rd_T43 l0 a1).f3) ((rd_T43 l0 a1).f4) ((rd_T43 l0 a1).f5) ((rd_T43 l0 a1).f6)))))))) else (none)) else (none)) = some r := h
  clear h
  by_cases c3 : 0 ≤ a1
  · rw [if_pos c3] at H
    have c3b0 : decide (0 ≤ a1) = true := decide_eq_true c3
    clear c3
    by_cases c4 : a1 < (l0.length : Int)
    · rw [if_pos c4] at H
      have c4b0 : decide (a1 < (l0.length : Int)) = true := decide_eq_true c4
      clear c4
      by_cases c5 : ((rd_T43 l0 a1).f0) = 118
      · rw [if_pos c5] at H
        have c5b0 : (((rd_T43 l0 a1).f0) == 118) = true := beq_iff_eq.mpr c5
        have c5b1 : (((rd_T43 l0 a1).f0) != 118) = false := bne_eq_false_iff_eq.mpr c5
        clear c5
        obtain rfl := Option.some.inj H
        have p101 : 0 ≤ (a1 : Int) := of_decide_eq_true (by first | (with_reducible assumption) | assumption)
        have q101 : a1 < (l0.length : Int) := of_decide_eq_true (by first | (with_reducible assumption) | assumption)
        obtain ⟨ad101, A101_6, c101_6, e101, hx101_0, hx101_1, hx101_2, hx101_3, hx101_4, hx101_5, hx101_6, hl101_6, hi101_6⟩ := at_T43 HR0.out a1 p101 q101
        cases e101
        have HR101_6 := Aside0.mk hi101_6
        have HC101_6 := Aside0.mk hl101_6
        clear hi101_6 hl101_6
        replace p101 := eq_true p101
        replace q101 := eq_true q101
        go_enter Tryd.func52, Tryd.ntmps52
        go_wp2_with (first | ((with_reducible refine gate_dst (N := 5) rfl ?_); refine box_event ?hg (N := 5) ?hd (cs := #[.int .u8 0, .int .i64 0, .int .i64 0, .int .i64 0, .int .i64 0, .string (⟨#[]⟩ : ByteArray), .slice none 0 0]) (t := 43) ?hr ?_; (case hd => rfl); (case hg => rfl); (case hr => first | (go_simp; done) | (go_simp; rfl)); intro gb102 hg w6 hbox hb; have n0_ := Aside0.mk (below_step (by repeat (first | (with_reducible first | exact HB.out | apply below_alloc | apply pw_below_drewN | apply below_drew1) | exact HB.out)) hb); have n1_ := Aside0.mk (hbox); have n2_ := Aside0.mk ((by rw [hg]; exact (below_size (by repeat (first | (with_reducible first | exact HB.out | apply below_alloc | apply pw_below_drewN | apply below_drew1) | exact HB.out))) : w.heap.size ≤ gb102)); have n3_ := Aside0.mk ((by rw [hg]; exact (below_size (by repeat (first | (with_reducible first | exact HB.out | apply below_alloc | apply pw_below_drewN | apply below_drew1) | exact HB.out))) : w.heap.size ≤ gb102)); clear HB; have HB := n0_; have BK102 := n1_; have GW102 := n2_; have GE102 := n3_; clear n0_ n1_ n2_ n3_; clear hb hbox hg; have hcz7_0 : w6.cell? ⟨gb102, 0, none⟩ = some (.int .u8 0) := (blk_cell BK102.out 0).trans rfl; have hcz7_1 : w6.cell? ⟨gb102, 1, none⟩ = some (.int .i64 0) := (blk_cell BK102.out 1).trans rfl; have hcz7_2 : w6.cell? ⟨gb102, 2, none⟩ = some (.int .i64 0) := (blk_cell BK102.out 2).trans rfl; have hcz7_3 : w6.cell? ⟨gb102, 3, none⟩ = some (.int .i64 0) := (blk_cell BK102.out 3).trans rfl; have hcz7_4 : w6.cell? ⟨gb102, 4, none⟩ = some (.int .i64 0) := (blk_cell BK102.out 4).trans rfl; have hcz7_5 : w6.cell? ⟨gb102, 5, none⟩ = some (.string (⟨#[]⟩ : ByteArray)) := (blk_cell BK102.out 5).trans rfl; have hcz7_6 : w6.cell? ⟨gb102, 6, none⟩ = some (.slice none 0 0) := (blk_cell BK102.out 6).trans rfl; have hfz7_0 := blk_frozen BK102.out 0; have hfz7_1 := blk_frozen BK102.out 1; have hfz7_2 := blk_frozen BK102.out 2; have hfz7_3 := blk_frozen BK102.out 3; have hfz7_4 := blk_frozen BK102.out 4; have hfz7_5 := blk_frozen BK102.out 5; have hfz7_6 := blk_frozen BK102.out 6))
        go_ret
        exact ⟨by first | rfl | (simp [errW_none, errW_some] <;> rfl) | (simp [*, errW_none, errW_some] <;> rfl), by repeat (first | (with_reducible first | exact HB.out | apply below_alloc | apply pw_below_drewN | apply below_drew1 | refine below_set ?_ GE102.out) | exact HB.out)⟩
      · rw [if_neg c5] at H
        have c5b0 : (((rd_T43 l0 a1).f0) == 118) = false := beq_eq_false_iff_ne.mpr c5
        have c5b1 : (((rd_T43 l0 a1).f0) != 118) = true := bne_iff_ne.mpr c5
        by_cases c8 : ((rd_T43 l0 a1).f0) = 115
        · rw [if_pos c8] at H
          have c8b0 : (((rd_T43 l0 a1).f0) == 115) = true := beq_iff_eq.mpr c8
          have c8b1 : (((rd_T43 l0 a1).f0) != 115) = false := bne_eq_false_iff_eq.mpr c8
          clear c8
          obtain rfl := Option.some.inj H
          have p101 : 0 ≤ (a1 : Int) := of_decide_eq_true (by first | (with_reducible assumption) | assumption)
          have q101 : a1 < (l0.length : Int) := of_decide_eq_true (by first | (with_reducible assumption) | assumption)
          obtain ⟨ad101, A101_6, c101_6, e101, hx101_0, hx101_1, hx101_2, hx101_3, hx101_4, hx101_5, hx101_6, hl101_6, hi101_6⟩ := at_T43 HR0.out a1 p101 q101
          cases e101
          have HR101_6 := Aside0.mk hi101_6
          have HC101_6 := Aside0.mk hl101_6
          clear hi101_6 hl101_6
          replace p101 := eq_true p101
          replace q101 := eq_true q101
          go_enter Tryd.func52, Tryd.ntmps52
          go_wp2_with (first | ((with_reducible refine gate_dst (N := 5) rfl ?_); refine box_event ?hg (N := 5) ?hd (cs := #[.int .u8 0, .int .i64 0, .int .i64 0, .int .i64 0, .int .i64 0, .string (⟨#[]⟩ : ByteArray), .slice none 0 0]) (t := 43) ?hr ?_; (case hd => rfl); (case hg => rfl); (case hr => first | (go_simp; done) | (go_simp; rfl)); intro gb102 hg w9 hbox hb; have n0_ := Aside0.mk (below_step (by repeat (first | (with_reducible first | exact HB.out | apply below_alloc | apply pw_below_drewN | apply below_drew1) | exact HB.out)) hb); have n1_ := Aside0.mk (hbox); have n2_ := Aside0.mk ((by rw [hg]; exact (below_size (by repeat (first | (with_reducible first | exact HB.out | apply below_alloc | apply pw_below_drewN | apply below_drew1) | exact HB.out))) : w.heap.size ≤ gb102)); have n3_ := Aside0.mk ((by rw [hg]; exact (below_size (by repeat (first | (with_reducible first | exact HB.out | apply below_alloc | apply pw_below_drewN | apply below_drew1) | exact HB.out))) : w.heap.size ≤ gb102)); clear HB; have HB := n0_; have BK102 := n1_; have GW102 := n2_; have GE102 := n3_; clear n0_ n1_ n2_ n3_; clear hb hbox hg; have hcz10_0 : w9.cell? ⟨gb102, 0, none⟩ = some (.int .u8 0) := (blk_cell BK102.out 0).trans rfl; have hcz10_1 : w9.cell? ⟨gb102, 1, none⟩ = some (.int .i64 0) := (blk_cell BK102.out 1).trans rfl; have hcz10_2 : w9.cell? ⟨gb102, 2, none⟩ = some (.int .i64 0) := (blk_cell BK102.out 2).trans rfl; have hcz10_3 : w9.cell? ⟨gb102, 3, none⟩ = some (.int .i64 0) := (blk_cell BK102.out 3).trans rfl; have hcz10_4 : w9.cell? ⟨gb102, 4, none⟩ = some (.int .i64 0) := (blk_cell BK102.out 4).trans rfl; have hcz10_5 : w9.cell? ⟨gb102, 5, none⟩ = some (.string (⟨#[]⟩ : ByteArray)) := (blk_cell BK102.out 5).trans rfl; have hcz10_6 : w9.cell? ⟨gb102, 6, none⟩ = some (.slice none 0 0) := (blk_cell BK102.out 6).trans rfl; have hfz10_0 := blk_frozen BK102.out 0; have hfz10_1 := blk_frozen BK102.out 1; have hfz10_2 := blk_frozen BK102.out 2; have hfz10_3 := blk_frozen BK102.out 3; have hfz10_4 := blk_frozen BK102.out 4; have hfz10_5 := blk_frozen BK102.out 5; have hfz10_6 := blk_frozen BK102.out 6))
          go_ret
          exact ⟨by first | rfl | (simp [errW_none, errW_some] <;> rfl) | (simp [*, errW_none, errW_some] <;> rfl), by repeat (first | (with_reducible first | exact HB.out | apply below_alloc | apply pw_below_drewN | apply below_drew1 | refine below_set ?_ GE102.out) | exact HB.out)⟩
        · rw [if_neg c8] at H
          have c8b0 : (((rd_T43 l0 a1).f0) == 115) = false := beq_eq_false_iff_ne.mpr c8
          have c8b1 : (((rd_T43 l0 a1).f0) != 115) = true := bne_iff_ne.mpr c8
          by_cases c11 : ((rd_T43 l0 a1).f0) = 99
          · rw [if_pos c11] at H
            have c11b0 : (((rd_T43 l0 a1).f0) == 99) = true := beq_iff_eq.mpr c11
            have c11b1 : (((rd_T43 l0 a1).f0) != 99) = false := bne_eq_false_iff_eq.mpr c11
            clear c11
            obtain rfl := Option.some.inj H
            have p101 : 0 ≤ (a1 : Int) := of_decide_eq_true (by first | (with_reducible assumption) | assumption)
            have q101 : a1 < (l0.length : Int) := of_decide_eq_true (by first | (with_reducible assumption) | assumption)
            obtain ⟨ad101, A101_6, c101_6, e101, hx101_0, hx101_1, hx101_2, hx101_3, hx101_4, hx101_5, hx101_6, hl101_6, hi101_6⟩ := at_T43 HR0.out a1 p101 q101
            cases e101
            have HR101_6 := Aside0.mk hi101_6
            have HC101_6 := Aside0.mk hl101_6
            clear hi101_6 hl101_6
            replace p101 := eq_true p101
            replace q101 := eq_true q101
            go_enter Tryd.func52, Tryd.ntmps52
            go_wp2_with (first | ((with_reducible refine gate_dst (N := 5) rfl ?_); refine box_event ?hg (N := 5) ?hd (cs := #[.int .u8 0, .int .i64 0, .int .i64 0, .int .i64 0, .int .i64 0, .string (⟨#[]⟩ : ByteArray), .slice none 0 0]) (t := 43) ?hr ?_; (case hd => rfl); (case hg => rfl); (case hr => first | (go_simp; done) | (go_simp; rfl)); intro gb102 hg w12 hbox hb; have n0_ := Aside0.mk (below_step (by repeat (first | (with_reducible first | exact HB.out | apply below_alloc | apply pw_below_drewN | apply below_drew1) | exact HB.out)) hb); have n1_ := Aside0.mk (hbox); have n2_ := Aside0.mk ((by rw [hg]; exact (below_size (by repeat (first | (with_reducible first | exact HB.out | apply below_alloc | apply pw_below_drewN | apply below_drew1) | exact HB.out))) : w.heap.size ≤ gb102)); have n3_ := Aside0.mk ((by rw [hg]; exact (below_size (by repeat (first | (with_reducible first | exact HB.out | apply below_alloc | apply pw_below_drewN | apply below_drew1) | exact HB.out))) : w.heap.size ≤ gb102)); clear HB; have HB := n0_; have BK102 := n1_; have GW102 := n2_; have GE102 := n3_; clear n0_ n1_ n2_ n3_; clear hb hbox hg; have hcz13_0 : w12.cell? ⟨gb102, 0, none⟩ = some (.int .u8 0) := (blk_cell BK102.out 0).trans rfl; have hcz13_1 : w12.cell? ⟨gb102, 1, none⟩ = some (.int .i64 0) := (blk_cell BK102.out 1).trans rfl; have hcz13_2 : w12.cell? ⟨gb102, 2, none⟩ = some (.int .i64 0) := (blk_cell BK102.out 2).trans rfl; have hcz13_3 : w12.cell? ⟨gb102, 3, none⟩ = some (.int .i64 0) := (blk_cell BK102.out 3).trans rfl; have hcz13_4 : w12.cell? ⟨gb102, 4, none⟩ = some (.int .i64 0) := (blk_cell BK102.out 4).trans rfl; have hcz13_5 : w12.cell? ⟨gb102, 5, none⟩ = some (.string (⟨#[]⟩ : ByteArray)) := (blk_cell BK102.out 5).trans rfl; have hcz13_6 : w12.cell? ⟨gb102, 6, none⟩ = some (.slice none 0 0) := (blk_cell BK102.out 6).trans rfl; have hfz13_0 := blk_frozen BK102.out 0; have hfz13_1 := blk_frozen BK102.out 1; have hfz13_2 := blk_frozen BK102.out 2; have hfz13_3 := blk_frozen BK102.out 3; have hfz13_4 := blk_frozen BK102.out 4; have hfz13_5 := blk_frozen BK102.out 5; have hfz13_6 := blk_frozen BK102.out 6))
            go_ret
            exact ⟨by first | rfl | (simp [errW_none, errW_some] <;> rfl) | (simp [*, errW_none, errW_some] <;> rfl), by repeat (first | (with_reducible first | exact HB.out | apply below_alloc | apply pw_below_drewN | apply below_drew1 | refine below_set ?_ GE102.out) | exact HB.out)⟩
          · rw [if_neg c11] at H
            have c11b0 : (((rd_T43 l0 a1).f0) == 99) = false := beq_eq_false_iff_ne.mpr c11
            have c11b1 : (((rd_T43 l0 a1).f0) != 99) = true := bne_iff_ne.mpr c11
            replace H := Option.bind_eq_some_iff.mp H
            obtain ⟨t103, A140, H⟩ := H
            replace H : ((spec_l06Open.f k l0 ((rd_T43 l0 a1).f2)).bind fun t104 => (if ((rd_T43 l0 a1).f0) = 116 then ((spec_l06Open.f k l0 ((rd_T43 l0 a1).f3)).bind fun t105 => (spec_l06Open.j0 k t103 t104 (wrap64 (t105 - 1)) ((rd_T43 l0 a1).f0) ((rd_T43 l0 a1).f1) ((rd_T43 l0 a1).f2) ((rd_T43 l0 a1).f3) ((rd_T43 l0 a1).f4) ((rd_T43 l0 a1).f5) ((rd_T43 l0 a1).f6))) else (spec_l06Open.j0 k t103 t104 0 ((rd_T43 l0 a1).f0) ((rd_T43 l0 a1).f1) ((rd_T43 l0 a1).f2) ((rd_T43 l0 a1).f3) ((rd_T43 l0 a1).f4) ((rd_T43 l0 a1).f5) ((rd_T43 l0 a1).f6)))) = some r := H
            have A14 := Aside0.mk A140
            clear A140
            replace H := Option.bind_eq_some_iff.mp H
            obtain ⟨t104, A150, H⟩ := H
            replace H : (if ((rd_T43 l0 a1).f0) = 116 then ((spec_l06Open.f k l0 ((rd_T43 l0 a1).f3)).bind fun t105 => (spec_l06Open.j0 k t103 t104 (wrap64 (t105 - 1)) ((rd_T43 l0 a1).f0) ((rd_T43 l0 a1).f1) ((rd_T43 l0 a1).f2) ((rd_T43 l0 a1).f3) ((rd_T43 l0 a1).f4) ((rd_T43 l0 a1).f5) ((rd_T43 l0 a1).f6))) else (spec_l06Open.j0 k t103 t104 0 ((rd_T43 l0 a1).f0) ((rd_T43 l0 a1).f1) ((rd_T43 l0 a1).f2) ((rd_T43 l0 a1).f3) ((rd_T43 l0 a1).f4) ((rd_T43 l0 a1).f5) ((rd_T43 l0 a1).f6))) = some r := H
            have A15 := Aside0.mk A150
            clear A150
            have HC16 := Aside0.mk H
            clear H
            have p101 : 0 ≤ (a1 : Int) := of_decide_eq_true (by first | (with_reducible assumption) | assumption)
            have q101 : a1 < (l0.length : Int) := of_decide_eq_true (by first | (with_reducible assumption) | assumption)
            obtain ⟨ad101, A101_6, c101_6, e101, hx101_0, hx101_1, hx101_2, hx101_3, hx101_4, hx101_5, hx101_6, hl101_6, hi101_6⟩ := at_T43 HR0.out a1 p101 q101
            cases e101
            have HR101_6 := Aside0.mk hi101_6
            have HC101_6 := Aside0.mk hl101_6
            clear hi101_6 hl101_6
            replace p101 := eq_true p101
            replace q101 := eq_true q101
            go_enter Tryd.func52, Tryd.ntmps52
            go_upto_if 33 with (first | ((with_reducible refine gate_dst (N := 5) rfl ?_); refine box_event ?hg (N := 5) ?hd (cs := #[.int .u8 0, .int .i64 0, .int .i64 0, .int .i64 0, .int .i64 0, .string (⟨#[]⟩ : ByteArray), .slice none 0 0]) (t := 43) ?hr ?_; (case hd => rfl); (case hg => rfl); (case hr => first | (go_simp; done) | (go_simp; rfl)); intro gb102 hg w17 hbox hb; have n0_ := Aside0.mk (below_step (by repeat (first | (with_reducible first | exact HB.out | apply below_alloc | apply pw_below_drewN | apply below_drew1) | exact HB.out)) hb); have n1_ := Aside0.mk (hbox); have n2_ := Aside0.mk ((by rw [hg]; exact (below_size (by repeat (first | (with_reducible first | exact HB.out | apply below_alloc | apply pw_below_drewN | apply below_drew1) | exact HB.out))) : w.heap.size ≤ gb102)); have n3_ := Aside0.mk ((by rw [hg]; exact (below_size (by repeat (first | (with_reducible first | exact HB.out | apply below_alloc | apply pw_below_drewN | apply below_drew1) | exact HB.out))) : w.heap.size ≤ gb102)); clear HB; have HB := n0_; have BK102 := n1_; have GW102 := n2_; have GE102 := n3_; clear n0_ n1_ n2_ n3_; clear hb hbox hg; have hcz18_0 : w17.cell? ⟨gb102, 0, none⟩ = some (.int .u8 0) := (blk_cell BK102.out 0).trans rfl; have hcz18_1 : w17.cell? ⟨gb102, 1, none⟩ = some (.int .i64 0) := (blk_cell BK102.out 1).trans rfl; have hcz18_2 : w17.cell? ⟨gb102, 2, none⟩ = some (.int .i64 0) := (blk_cell BK102.out 2).trans rfl; have hcz18_3 : w17.cell? ⟨gb102, 3, none⟩ = some (.int .i64 0) := (blk_cell BK102.out 3).trans rfl; have hcz18_4 : w17.cell? ⟨gb102, 4, none⟩ = some (.int .i64 0) := (blk_cell BK102.out 4).trans rfl; have hcz18_5 : w17.cell? ⟨gb102, 5, none⟩ = some (.string (⟨#[]⟩ : ByteArray)) := (blk_cell BK102.out 5).trans rfl; have hcz18_6 : w17.cell? ⟨gb102, 6, none⟩ = some (.slice none 0 0) := (blk_cell BK102.out 6).trans rfl; have hfz18_0 := blk_frozen BK102.out 0; have hfz18_1 := blk_frozen BK102.out 1; have hfz18_2 := blk_frozen BK102.out 2; have hfz18_3 := blk_frozen BK102.out 3; have hfz18_4 := blk_frozen BK102.out 4; have hfz18_5 := blk_frozen BK102.out 5; have hfz18_6 := blk_frozen BK102.out 6) | ((with_reducible refine gate_callee (f := 52) rfl ?_); refine goesL_ (some 26) rfl rfl Tryd.func52 (by kernel_rfl) rfl #[.slice (some ad101) l0.length c0, .int .i64 ((rd_T43 l0 a1).f1)] rfl (by (try simp only [List.map_toArray, List.map_cons, List.map_nil]); first | done | rfl | (simp only [List.length_drop, List.length_take]; rfl)) ?_; (with_reducible refine (ih k (by omega) _ _ l0 ((rd_T43 l0 a1).f1) t103 _ ?side1 ?side2 A14.out).mono ?_); (case side1 => exact Kd.C_below HR0.out (by repeat (first | (with_reducible first | exact HB.out | apply below_alloc | apply pw_below_drewN | apply below_drew1 | refine below_set ?_ GE102.out) | exact HB.out))); (case side2 => exact HC0.out); rintro e w19 ⟨rfl, hb⟩; refine ⟨_, rfl, ?_⟩; have n0_ := Aside0.mk (blk_below (g := gb102) (o := .cells #[.int .u8 ((rd_T43 l0 a1).f0), .int .i64 ((rd_T43 l0 a1).f1), .int .i64 ((rd_T43 l0 a1).f2), .int .i64 ((rd_T43 l0 a1).f3), .int .i64 ((rd_T43 l0 a1).f4), .string ((rd_T43 l0 a1).f5), .slice A101_6 ((rd_T43 l0 a1).f6).length c101_6] 43 (0, 0)) (by (with_reducible repeat (first | refine blk_drewN ?_ _ | refine blk_drew ?_ | refine blk_alloc ?_ _)); refine blk_put (cs := #[.int .u8 ((rd_T43 l0 a1).f0), .int .i64 ((rd_T43 l0 a1).f1), .int .i64 ((rd_T43 l0 a1).f2), .int .i64 ((rd_T43 l0 a1).f3), .int .i64 ((rd_T43 l0 a1).f4), .string ((rd_T43 l0 a1).f5), .slice none 0 0]) ?_ 6 _ rfl; (with_reducible repeat (first | refine blk_drewN ?_ _ | refine blk_drew ?_ | refine blk_alloc ?_ _)); refine blk_put (cs := #[.int .u8 ((rd_T43 l0 a1).f0), .int .i64 ((rd_T43 l0 a1).f1), .int .i64 ((rd_T43 l0 a1).f2), .int .i64 ((rd_T43 l0 a1).f3), .int .i64 ((rd_T43 l0 a1).f4), .string (⟨#[]⟩ : ByteArray), .slice none 0 0]) ?_ 5 _ rfl; (with_reducible repeat (first | refine blk_drewN ?_ _ | refine blk_drew ?_ | refine blk_alloc ?_ _)); refine blk_put (cs := #[.int .u8 ((rd_T43 l0 a1).f0), .int .i64 ((rd_T43 l0 a1).f1), .int .i64 ((rd_T43 l0 a1).f2), .int .i64 ((rd_T43 l0 a1).f3), .int .i64 0, .string (⟨#[]⟩ : ByteArray), .slice none 0 0]) ?_ 4 _ rfl; (with_reducible repeat (first | refine blk_drewN ?_ _ | refine blk_drew ?_ | refine blk_alloc ?_ _)); refine blk_put (cs := #[.int .u8 ((rd_T43 l0 a1).f0), .int .i64 ((rd_T43 l0 a1).f1), .int .i64 ((rd_T43 l0 a1).f2), .int .i64 0, .int .i64 0, .string (⟨#[]⟩ : ByteArray), .slice none 0 0]) ?_ 3 _ rfl; (with_reducible repeat (first | refine blk_drewN ?_ _ | refine blk_drew ?_ | refine blk_alloc ?_ _)); refine blk_put (cs := #[.int .u8 ((rd_T43 l0 a1).f0), .int .i64 ((rd_T43 l0 a1).f1), .int .i64 0, .int .i64 0, .int .i64 0, .string (⟨#[]⟩ : ByteArray), .slice none 0 0]) ?_ 2 _ rfl; (with_reducible repeat (first | refine blk_drewN ?_ _ | refine blk_drew ?_ | refine blk_alloc ?_ _)); refine blk_put (cs := #[.int .u8 ((rd_T43 l0 a1).f0), .int .i64 0, .int .i64 0, .int .i64 0, .int .i64 0, .string (⟨#[]⟩ : ByteArray), .slice none 0 0]) ?_ 1 _ rfl; (with_reducible repeat (first | refine blk_drewN ?_ _ | refine blk_drew ?_ | refine blk_alloc ?_ _)); refine blk_put (cs := #[.int .u8 0, .int .i64 0, .int .i64 0, .int .i64 0, .int .i64 0, .string (⟨#[]⟩ : ByteArray), .slice none 0 0]) ?_ 0 _ rfl; (with_reducible repeat (first | refine blk_drewN ?_ _ | refine blk_drew ?_ | refine blk_alloc ?_ _)); exact BK102.out) hb); have n1_ := Aside0.mk (below_step (by repeat (first | (with_reducible first | exact HB.out | apply below_alloc | apply pw_below_drewN | apply below_drew1 | refine below_set ?_ GE102.out) | exact HB.out)) hb); clear BK102; clear HB; have BK102 := n0_; have HB := n1_; clear n0_ n1_; (try clear hb); (try clear hb2); (try clear hk); (try clear hi); have hcz20_0 : w19.cell? ⟨gb102, 0, none⟩ = some (.int .u8 ((rd_T43 l0 a1).f0)) := (blk_cell BK102.out 0).trans rfl; have hcz20_1 : w19.cell? ⟨gb102, 1, none⟩ = some (.int .i64 ((rd_T43 l0 a1).f1)) := (blk_cell BK102.out 1).trans rfl; have hcz20_2 : w19.cell? ⟨gb102, 2, none⟩ = some (.int .i64 ((rd_T43 l0 a1).f2)) := (blk_cell BK102.out 2).trans rfl; have hcz20_3 : w19.cell? ⟨gb102, 3, none⟩ = some (.int .i64 ((rd_T43 l0 a1).f3)) := (blk_cell BK102.out 3).trans rfl; have hcz20_4 : w19.cell? ⟨gb102, 4, none⟩ = some (.int .i64 ((rd_T43 l0 a1).f4)) := (blk_cell BK102.out 4).trans rfl; have hcz20_5 : w19.cell? ⟨gb102, 5, none⟩ = some (.string ((rd_T43 l0 a1).f5)) := (blk_cell BK102.out 5).trans rfl; have hcz20_6 : w19.cell? ⟨gb102, 6, none⟩ = some (.slice A101_6 ((rd_T43 l0 a1).f6).length c101_6) := (blk_cell BK102.out 6).trans rfl; have hfz20_0 := blk_frozen BK102.out 0; have hfz20_1 := blk_frozen BK102.out 1; have hfz20_2 := blk_frozen BK102.out 2; have hfz20_3 := blk_frozen BK102.out 3; have hfz20_4 := blk_frozen BK102.out 4; have hfz20_5 := blk_frozen BK102.out 5; have hfz20_6 := blk_frozen BK102.out 6) | ((with_reducible refine gate_callee (f := 52) rfl ?_); refine goesL_ (some 30) rfl rfl Tryd.func52 (by kernel_rfl) rfl #[.slice (some ad101) l0.length c0, .int .i64 ((rd_T43 l0 a1).f2)] rfl (by (try simp only [List.map_toArray, List.map_cons, List.map_nil]); first | done | rfl | (simp only [List.length_drop, List.length_take]; rfl)) ?_; (with_reducible refine (ih k (by omega) _ _ l0 ((rd_T43 l0 a1).f2) t104 _ ?side1 ?side2 A15.out).mono ?_); (case side1 => repeat (first | exact (Kd.C_below HR0.out HB.out) | (with_reducible refine Kd.C_alloc ?_ _) | (with_reducible refine Kd.C_drewN ?_ _) | (with_reducible refine Kd.C_drew ?_))); (case side2 => exact HC0.out); rintro e w21 ⟨rfl, hb⟩; refine ⟨_, rfl, ?_⟩; have n0_ := Aside0.mk (blk_below (g := gb102) (o := .cells #[.int .u8 ((rd_T43 l0 a1).f0), .int .i64 ((rd_T43 l0 a1).f1), .int .i64 ((rd_T43 l0 a1).f2), .int .i64 ((rd_T43 l0 a1).f3), .int .i64 ((rd_T43 l0 a1).f4), .string ((rd_T43 l0 a1).f5), .slice A101_6 ((rd_T43 l0 a1).f6).length c101_6] 43 (0, 0)) (by (with_reducible repeat (first | refine blk_drewN ?_ _ | refine blk_drew ?_ | refine blk_alloc ?_ _)); exact BK102.out) hb); have n1_ := Aside0.mk (below_step (by repeat (first | (with_reducible first | exact HB.out | apply below_alloc | apply pw_below_drewN | apply below_drew1 | refine below_set ?_ GE102.out) | exact HB.out)) hb); clear BK102; clear HB; have BK102 := n0_; have HB := n1_; clear n0_ n1_; (try clear hb); (try clear hb2); (try clear hk); (try clear hi); have hcz22_0 : w21.cell? ⟨gb102, 0, none⟩ = some (.int .u8 ((rd_T43 l0 a1).f0)) := (blk_cell BK102.out 0).trans rfl; have hcz22_1 : w21.cell? ⟨gb102, 1, none⟩ = some (.int .i64 ((rd_T43 l0 a1).f1)) := (blk_cell BK102.out 1).trans rfl; have hcz22_2 : w21.cell? ⟨gb102, 2, none⟩ = some (.int .i64 ((rd_T43 l0 a1).f2)) := (blk_cell BK102.out 2).trans rfl; have hcz22_3 : w21.cell? ⟨gb102, 3, none⟩ = some (.int .i64 ((rd_T43 l0 a1).f3)) := (blk_cell BK102.out 3).trans rfl; have hcz22_4 : w21.cell? ⟨gb102, 4, none⟩ = some (.int .i64 ((rd_T43 l0 a1).f4)) := (blk_cell BK102.out 4).trans rfl; have hcz22_5 : w21.cell? ⟨gb102, 5, none⟩ = some (.string ((rd_T43 l0 a1).f5)) := (blk_cell BK102.out 5).trans rfl; have hcz22_6 : w21.cell? ⟨gb102, 6, none⟩ = some (.slice A101_6 ((rd_T43 l0 a1).f6).length c101_6) := (blk_cell BK102.out 6).trans rfl; have hfz22_0 := blk_frozen BK102.out 0; have hfz22_1 := blk_frozen BK102.out 1; have hfz22_2 := blk_frozen BK102.out 2; have hfz22_3 := blk_frozen BK102.out 3; have hfz22_4 := blk_frozen BK102.out 4; have hfz22_5 := blk_frozen BK102.out 5; have hfz22_6 := blk_frozen BK102.out 6))
            (try simp only [Act.put, List.setIfInBounds_toArray, List.set_cons_zero, List.set_cons_succ])
            go_cut [8] (fun v8 wc => ∃ (kq : Nat) (x8_15 : Int), v8 = .int .i64 x8_15 ∧ Aside0 (spec_l06Open.j0 kq t103 t104 x8_15 ((rd_T43 l0 a1).f0) ((rd_T43 l0 a1).f1) ((rd_T43 l0 a1).f2) ((rd_T43 l0 a1).f3) ((rd_T43 l0 a1).f4) ((rd_T43 l0 a1).f5) ((rd_T43 l0 a1).f6) = some r) ∧ Aside0 (kq ≤ k) ∧ Aside0 (wc.heap[gb102]? = some (.cells #[.int .u8 ((rd_T43 l0 a1).f0), .int .i64 ((rd_T43 l0 a1).f1), .int .i64 ((rd_T43 l0 a1).f2), .int .i64 ((rd_T43 l0 a1).f3), .int .i64 ((rd_T43 l0 a1).f4), .string ((rd_T43 l0 a1).f5), (.slice A101_6 ((rd_T43 l0 a1).f6).length c101_6)] 43 (0, 0))) ∧ Aside0 (Below w.heap.size w wc))
            case first =>
              have H := HC16.out
              clear HC16
              by_cases c23 : ((rd_T43 l0 a1).f0) = 116
              · rw [if_pos c23] at H
                have c23b0 : (((rd_T43 l0 a1).f0) == 116) = true := beq_iff_eq.mpr c23
                have c23b1 : (((rd_T43 l0 a1).f0) != 116) = false := bne_eq_false_iff_eq.mpr c23
                clear c23
                (first | rw [c23b0] | (simp only [i64_w, i32_w]; rw [c23b0]) | skip)
                replace H := Option.bind_eq_some_iff.mp H
                obtain ⟨t105, A240, H⟩ := H
                replace H : (spec_l06Open.j0 k t103 t104 (wrap64 (t105 - 1)) ((rd_T43 l0 a1).f0) ((rd_T43 l0 a1).f1) ((rd_T43 l0 a1).f2) ((rd_T43 l0 a1).f3) ((rd_T43 l0 a1).f4) ((rd_T43 l0 a1).f5) ((rd_T43 l0 a1).f6)) = some r := H
                have A24 := Aside0.mk A240
                clear A240
                have H' := Aside0.mk H
                clear H
                have hcz25_0 : w21.cell? ⟨gb102, 0, none⟩ = some (.int .u8 ((rd_T43 l0 a1).f0)) := (blk_cell BK102.out 0).trans rfl
                have hcz25_1 : w21.cell? ⟨gb102, 1, none⟩ = some (.int .i64 ((rd_T43 l0 a1).f1)) := (blk_cell BK102.out 1).trans rfl
                have hcz25_2 : w21.cell? ⟨gb102, 2, none⟩ = some (.int .i64 ((rd_T43 l0 a1).f2)) := (blk_cell BK102.out 2).trans rfl
                have hcz25_3 : w21.cell? ⟨gb102, 3, none⟩ = some (.int .i64 ((rd_T43 l0 a1).f3)) := (blk_cell BK102.out 3).trans rfl
                have hcz25_4 : w21.cell? ⟨gb102, 4, none⟩ = some (.int .i64 ((rd_T43 l0 a1).f4)) := (blk_cell BK102.out 4).trans rfl
                have hcz25_5 : w21.cell? ⟨gb102, 5, none⟩ = some (.string ((rd_T43 l0 a1).f5)) := (blk_cell BK102.out 5).trans rfl
                have hcz25_6 : w21.cell? ⟨gb102, 6, none⟩ = some (.slice A101_6 ((rd_T43 l0 a1).f6).length c101_6) := (blk_cell BK102.out 6).trans rfl
                have hfz25_0 := blk_frozen BK102.out 0
                have hfz25_1 := blk_frozen BK102.out 1
                have hfz25_2 := blk_frozen BK102.out 2
                have hfz25_3 := blk_frozen BK102.out 3
                have hfz25_4 := blk_frozen BK102.out 4
                have hfz25_5 := blk_frozen BK102.out 5
                have hfz25_6 := blk_frozen BK102.out 6
                go_wp2_with (first | ((with_reducible refine gate_callee (f := 52) rfl ?_); refine goesL_ (some 37) rfl rfl Tryd.func52 (by kernel_rfl) rfl #[.slice (some ad101) l0.length c0, .int .i64 ((rd_T43 l0 a1).f3)] rfl (by (try simp only [List.map_toArray, List.map_cons, List.map_nil]); first | done | rfl | (simp only [List.length_drop, List.length_take]; rfl)) ?_; (with_reducible refine (ih k (by omega) _ _ l0 ((rd_T43 l0 a1).f3) t105 _ ?side1 ?side2 A24.out).mono ?_); (case side1 => repeat (first | exact (Kd.C_below HR0.out HB.out) | (with_reducible refine Kd.C_alloc ?_ _) | (with_reducible refine Kd.C_drewN ?_ _) | (with_reducible refine Kd.C_drew ?_))); (case side2 => exact HC0.out); rintro e w26 ⟨rfl, hb⟩; refine ⟨_, rfl, ?_⟩; have n0_ := Aside0.mk (blk_below (g := gb102) (o := .cells #[.int .u8 ((rd_T43 l0 a1).f0), .int .i64 ((rd_T43 l0 a1).f1), .int .i64 ((rd_T43 l0 a1).f2), .int .i64 ((rd_T43 l0 a1).f3), .int .i64 ((rd_T43 l0 a1).f4), .string ((rd_T43 l0 a1).f5), .slice A101_6 ((rd_T43 l0 a1).f6).length c101_6] 43 (0, 0)) (by (with_reducible repeat (first | refine blk_drewN ?_ _ | refine blk_drew ?_ | refine blk_alloc ?_ _)); exact BK102.out) hb); have n1_ := Aside0.mk (below_step (by repeat (first | (with_reducible first | exact HB.out | apply below_alloc | apply pw_below_drewN | apply below_drew1 | refine below_set ?_ GE102.out) | exact HB.out)) hb); clear BK102; clear HB; have BK102 := n0_; have HB := n1_; clear n0_ n1_; (try clear hb); (try clear hb2); (try clear hk); (try clear hi)))
                go_meet
                case rel => exact ⟨_, (wrap64 (t105 - 1)), (by first | rfl | (simp; done) | (simp [*]; done)), H', ⟨by first | omega | exact Nat.le_refl _⟩, ⟨by (with_reducible repeat (first | refine blk_drewN ?_ _ | refine blk_drew ?_ | refine blk_alloc ?_ _)); exact BK102.out⟩, ⟨by repeat (first | (with_reducible first | exact HB.out | apply below_alloc | apply pw_below_drewN | apply below_drew1 | refine below_set ?_ GE102.out) | exact HB.out)⟩⟩
              · rw [if_neg c23] at H
                have c23b0 : (((rd_T43 l0 a1).f0) == 116) = false := beq_eq_false_iff_ne.mpr c23
                have c23b1 : (((rd_T43 l0 a1).f0) != 116) = true := bne_iff_ne.mpr c23
                (first | rw [c23b0] | (simp only [i64_w, i32_w]; rw [c23b0]) | skip)
                have H' := Aside0.mk H
                clear H
                go_wp2
                go_meet
                case rel => exact ⟨_, (0), (by first | rfl | (simp; done) | (simp [*]; done)), H', ⟨by first | omega | exact Nat.le_refl _⟩, ⟨by (with_reducible repeat (first | refine blk_drewN ?_ _ | refine blk_drew ?_ | refine blk_alloc ?_ _)); exact BK102.out⟩, ⟨by repeat (first | (with_reducible first | exact HB.out | apply below_alloc | apply pw_below_drewN | apply below_drew1 | refine below_set ?_ GE102.out) | exact HB.out)⟩⟩
            case rest =>
              clear HC16
              try clear c1
              try clear p1
              try clear q1
              try clear hx1
              try clear c2
              try clear p2
              try clear c3
              try clear c3b0
              try clear c4
              try clear c4b0
              try clear c5
              try clear c5b0
              try clear c5b1
              try clear p6
              try clear c8
              try clear c8b0
              try clear c8b1
              try clear c10
              try clear p10
              try clear q10
              try clear hx10
              try clear c11
              try clear c11b0
              try clear c11b1
              try clear c23
              try clear c23b0
              try clear c23b1
              try clear hcz10_0
              try clear hcz10_1
              try clear hcz10_2
              try clear hcz10_3
              try clear hcz10_4
              try clear hcz10_5
              try clear hcz10_6
              try clear hcz13_0
              try clear hcz13_1
              try clear hcz13_2
              try clear hcz13_3
              try clear hcz13_4
              try clear hcz13_5
              try clear hcz13_6
              try clear hcz18_0
              try clear hcz18_1
              try clear hcz18_2
              try clear hcz18_3
              try clear hcz18_4
              try clear hcz18_5
              try clear hcz18_6
              try clear hcz20_0
              try clear hcz20_1
              try clear hcz20_2
              try clear hcz20_3
              try clear hcz20_4
              try clear hcz20_5
              try clear hcz20_6
              try clear hcz22_0
              try clear hcz22_1
              try clear hcz22_2
              try clear hcz22_3
              try clear hcz22_4
              try clear hcz22_5
              try clear hcz22_6
              try clear hcz25_0
              try clear hcz25_1
              try clear hcz25_2
              try clear hcz25_3
              try clear hcz25_4
              try clear hcz25_5
              try clear hcz25_6
              try clear hcz7_0
              try clear hcz7_1
              try clear hcz7_2
              try clear hcz7_3
              try clear hcz7_4
              try clear hcz7_5
              try clear hcz7_6
              try clear hfz10_0
              try clear hfz10_1
              try clear hfz10_2
              try clear hfz10_3
              try clear hfz10_4
              try clear hfz10_5
              try clear hfz10_6
              try clear hfz13_0
              try clear hfz13_1
              try clear hfz13_2
              try clear hfz13_3
              try clear hfz13_4
              try clear hfz13_5
              try clear hfz13_6
              try clear hfz18_0
              try clear hfz18_1
              try clear hfz18_2
              try clear hfz18_3
              try clear hfz18_4
              try clear hfz18_5
              try clear hfz18_6
              try clear hfz20_0
              try clear hfz20_1
              try clear hfz20_2
              try clear hfz20_3
              try clear hfz20_4
              try clear hfz20_5
              try clear hfz20_6
              try clear hfz22_0
              try clear hfz22_1
              try clear hfz22_2
              try clear hfz22_3
              try clear hfz22_4
              try clear hfz22_5
              try clear hfz22_6
              try clear hfz25_0
              try clear hfz25_1
              try clear hfz25_2
              try clear hfz25_3
              try clear hfz25_4
              try clear hfz25_5
              try clear hfz25_6
              try clear hfz7_0
              try clear hfz7_1
              try clear hfz7_2
              try clear hfz7_3
              try clear hfz7_4
              try clear hfz7_5
              try clear hfz7_6
              try clear hx101_0
              try clear hx101_1
              try clear hx101_2
              try clear hx101_3
              try clear hx101_4
              try clear hx101_5
              try clear hx101_6
              try clear p101
              try clear q101
              obtain ⟨kq, x8_15, rfl, HA, HJ15, BK102, HB⟩ := hcut
              cases kq with
              | zero => exact absurd HA.out (by simp [spec_l06Open.j0])
              | succ kj15 =>
                have H := HA.out
                clear HA
                simp only [spec_l06Open.j0] at H
                have HC27 := Aside0.mk H
                clear H
                go_upto_region 13 with (fail)
                go_cut [46] (fun v46 wc => ∃ (kq : Nat) (x46_26 : Bool), v46 = .bool x46_26 ∧ Aside0 (spec_l06Open.j1 kq t103 t104 x8_15 x46_26 = some r) ∧ Aside0 (kq ≤ kj15) ∧ Aside0 (wc.heap[gb102]? = some (.cells #[.int .u8 ((rd_T43 l0 a1).f0), .int .i64 ((rd_T43 l0 a1).f1), .int .i64 ((rd_T43 l0 a1).f2), .int .i64 ((rd_T43 l0 a1).f3), .int .i64 ((rd_T43 l0 a1).f4), .string ((rd_T43 l0 a1).f5), (.slice A101_6 ((rd_T43 l0 a1).f6).length c101_6)] 43 (0, 0))) ∧ Aside0 (Below w.heap.size w wc))
                case first =>
                  have H := HC27.out
                  clear HC27
                  by_cases c28 : ((rd_T43 l0 a1).f0) = 108
                  · rw [if_pos c28] at H
                    have c28b0 : (((rd_T43 l0 a1).f0) == 108) = true := beq_iff_eq.mpr c28
                    have c28b1 : (((rd_T43 l0 a1).f0) != 108) = false := bne_eq_false_iff_eq.mpr c28
                    clear c28
                    (first | rw [c28b0] | (simp only [i64_w, i32_w]; rw [c28b0]) | skip)
                    have H' := Aside0.mk H
                    clear H
                    have hcz29_0 : wc.cell? ⟨gb102, 0, none⟩ = some (.int .u8 ((rd_T43 l0 a1).f0)) := (blk_cell BK102.out 0).trans rfl
                    have hcz29_1 : wc.cell? ⟨gb102, 1, none⟩ = some (.int .i64 ((rd_T43 l0 a1).f1)) := (blk_cell BK102.out 1).trans rfl
                    have hcz29_2 : wc.cell? ⟨gb102, 2, none⟩ = some (.int .i64 ((rd_T43 l0 a1).f2)) := (blk_cell BK102.out 2).trans rfl
                    have hcz29_3 : wc.cell? ⟨gb102, 3, none⟩ = some (.int .i64 ((rd_T43 l0 a1).f3)) := (blk_cell BK102.out 3).trans rfl
                    have hcz29_4 : wc.cell? ⟨gb102, 4, none⟩ = some (.int .i64 ((rd_T43 l0 a1).f4)) := (blk_cell BK102.out 4).trans rfl
                    have hcz29_5 : wc.cell? ⟨gb102, 5, none⟩ = some (.string ((rd_T43 l0 a1).f5)) := (blk_cell BK102.out 5).trans rfl
                    have hcz29_6 : wc.cell? ⟨gb102, 6, none⟩ = some (.slice A101_6 ((rd_T43 l0 a1).f6).length c101_6) := (blk_cell BK102.out 6).trans rfl
                    have hfz29_0 := blk_frozen BK102.out 0
                    have hfz29_1 := blk_frozen BK102.out 1
                    have hfz29_2 := blk_frozen BK102.out 2
                    have hfz29_3 := blk_frozen BK102.out 3
                    have hfz29_4 := blk_frozen BK102.out 4
                    have hfz29_5 := blk_frozen BK102.out 5
                    have hfz29_6 := blk_frozen BK102.out 6
                    go_wp2
                    go_meet
                    case rel => exact ⟨_, (true), (by first | rfl | (simp; done) | (simp [*]; done)), H', ⟨by have := HJ15.out; first | omega | exact Nat.le_refl _⟩, ⟨by (with_reducible repeat (first | refine blk_drewN ?_ _ | refine blk_drew ?_ | refine blk_alloc ?_ _)); exact BK102.out⟩, ⟨by repeat (first | (with_reducible first | exact HB.out | apply below_alloc | apply pw_below_drewN | apply below_drew1 | refine below_set ?_ GE102.out) | exact HB.out)⟩⟩
                  · rw [if_neg c28] at H
                    have c28b0 : (((rd_T43 l0 a1).f0) == 108) = false := beq_eq_false_iff_ne.mpr c28
                    have c28b1 : (((rd_T43 l0 a1).f0) != 108) = true := bne_iff_ne.mpr c28
                    (first | rw [c28b0] | (simp only [i64_w, i32_w]; rw [c28b0]) | skip)
                    have H' := Aside0.mk H
                    clear H
                    have hcz30_0 : wc.cell? ⟨gb102, 0, none⟩ = some (.int .u8 ((rd_T43 l0 a1).f0)) := (blk_cell BK102.out 0).trans rfl
                    have hcz30_1 : wc.cell? ⟨gb102, 1, none⟩ = some (.int .i64 ((rd_T43 l0 a1).f1)) := (blk_cell BK102.out 1).trans rfl
                    have hcz30_2 : wc.cell? ⟨gb102, 2, none⟩ = some (.int .i64 ((rd_T43 l0 a1).f2)) := (blk_cell BK102.out 2).trans rfl
                    have hcz30_3 : wc.cell? ⟨gb102, 3, none⟩ = some (.int .i64 ((rd_T43 l0 a1).f3)) := (blk_cell BK102.out 3).trans rfl
                    have hcz30_4 : wc.cell? ⟨gb102, 4, none⟩ = some (.int .i64 ((rd_T43 l0 a1).f4)) := (blk_cell BK102.out 4).trans rfl
                    have hcz30_5 : wc.cell? ⟨gb102, 5, none⟩ = some (.string ((rd_T43 l0 a1).f5)) := (blk_cell BK102.out 5).trans rfl
                    have hcz30_6 : wc.cell? ⟨gb102, 6, none⟩ = some (.slice A101_6 ((rd_T43 l0 a1).f6).length c101_6) := (blk_cell BK102.out 6).trans rfl
                    have hfz30_0 := blk_frozen BK102.out 0
                    have hfz30_1 := blk_frozen BK102.out 1
                    have hfz30_2 := blk_frozen BK102.out 2
                    have hfz30_3 := blk_frozen BK102.out 3
                    have hfz30_4 := blk_frozen BK102.out 4
                    have hfz30_5 := blk_frozen BK102.out 5
                    have hfz30_6 := blk_frozen BK102.out 6
                    go_wp2
                    go_meet
                    case rel => exact ⟨_, ((((rd_T43 l0 a1).f0) == 112)), (by first | rfl | (simp; done) | (simp [*]; done)), H', ⟨by have := HJ15.out; first | omega | exact Nat.le_refl _⟩, ⟨by (with_reducible repeat (first | refine blk_drewN ?_ _ | refine blk_drew ?_ | refine blk_alloc ?_ _)); exact BK102.out⟩, ⟨by repeat (first | (with_reducible first | exact HB.out | apply below_alloc | apply pw_below_drewN | apply below_drew1 | refine below_set ?_ GE102.out) | exact HB.out)⟩⟩
                case rest =>
                  clear HC27
                  try clear c1
                  try clear p1
                  try clear q1
                  try clear hx1
                  try clear c2
                  try clear p2
                  try clear c3
                  try clear c3b0
                  try clear c4
                  try clear c4b0
                  try clear c5
                  try clear c5b0
                  try clear c5b1
                  try clear p6
                  try clear c8
                  try clear c8b0
                  try clear c8b1
                  try clear c10
                  try clear p10
                  try clear q10
                  try clear hx10
                  try clear c11
                  try clear c11b0
                  try clear c11b1
                  try clear c23
                  try clear c23b0
                  try clear c23b1
                  try clear c28
                  try clear c28b0
                  try clear c28b1
                  try clear hcz10_0
                  try clear hcz10_1
                  try clear hcz10_2
                  try clear hcz10_3
                  try clear hcz10_4
                  try clear hcz10_5
                  try clear hcz10_6
                  try clear hcz13_0
                  try clear hcz13_1
                  try clear hcz13_2
                  try clear hcz13_3
                  try clear hcz13_4
                  try clear hcz13_5
                  try clear hcz13_6
                  try clear hcz18_0
                  try clear hcz18_1
                  try clear hcz18_2
                  try clear hcz18_3
                  try clear hcz18_4
                  try clear hcz18_5
                  try clear hcz18_6
                  try clear hcz20_0
                  try clear hcz20_1
                  try clear hcz20_2
                  try clear hcz20_3
                  try clear hcz20_4
                  try clear hcz20_5
                  try clear hcz20_6
                  try clear hcz22_0
                  try clear hcz22_1
                  try clear hcz22_2
                  try clear hcz22_3
                  try clear hcz22_4
                  try clear hcz22_5
                  try clear hcz22_6
                  try clear hcz25_0
                  try clear hcz25_1
                  try clear hcz25_2
                  try clear hcz25_3
                  try clear hcz25_4
                  try clear hcz25_5
                  try clear hcz25_6
                  try clear hcz29_0
                  try clear hcz29_1
                  try clear hcz29_2
                  try clear hcz29_3
                  try clear hcz29_4
                  try clear hcz29_5
                  try clear hcz29_6
                  try clear hcz30_0
                  try clear hcz30_1
                  try clear hcz30_2
                  try clear hcz30_3
                  try clear hcz30_4
                  try clear hcz30_5
                  try clear hcz30_6
                  try clear hcz7_0
                  try clear hcz7_1
                  try clear hcz7_2
                  try clear hcz7_3
                  try clear hcz7_4
                  try clear hcz7_5
                  try clear hcz7_6
                  try clear hfz10_0
                  try clear hfz10_1
                  try clear hfz10_2
                  try clear hfz10_3
                  try clear hfz10_4
                  try clear hfz10_5
                  try clear hfz10_6
                  try clear hfz13_0
                  try clear hfz13_1
                  try clear hfz13_2
                  try clear hfz13_3
                  try clear hfz13_4
                  try clear hfz13_5
                  try clear hfz13_6
                  try clear hfz18_0
                  try clear hfz18_1
                  try clear hfz18_2
                  try clear hfz18_3
                  try clear hfz18_4
                  try clear hfz18_5
                  try clear hfz18_6
                  try clear hfz20_0
                  try clear hfz20_1
                  try clear hfz20_2
                  try clear hfz20_3
                  try clear hfz20_4
                  try clear hfz20_5
                  try clear hfz20_6
                  try clear hfz22_0
                  try clear hfz22_1
                  try clear hfz22_2
                  try clear hfz22_3
                  try clear hfz22_4
                  try clear hfz22_5
                  try clear hfz22_6
                  try clear hfz25_0
                  try clear hfz25_1
                  try clear hfz25_2
                  try clear hfz25_3
                  try clear hfz25_4
                  try clear hfz25_5
                  try clear hfz25_6
                  try clear hfz29_0
                  try clear hfz29_1
                  try clear hfz29_2
                  try clear hfz29_3
                  try clear hfz29_4
                  try clear hfz29_5
                  try clear hfz29_6
                  try clear hfz30_0
                  try clear hfz30_1
                  try clear hfz30_2
                  try clear hfz30_3
                  try clear hfz30_4
                  try clear hfz30_5
                  try clear hfz30_6
                  try clear hfz7_0
                  try clear hfz7_1
                  try clear hfz7_2
                  try clear hfz7_3
                  try clear hfz7_4
                  try clear hfz7_5
                  try clear hfz7_6
                  try clear hx101_0
                  try clear hx101_1
                  try clear hx101_2
                  try clear hx101_3
                  try clear hx101_4
                  try clear hx101_5
                  try clear hx101_6
                  try clear p1
                  try clear p10
                  try clear p101
                  try clear p2
                  try clear p6
                  try clear q1
                  try clear q10
                  try clear q101
                  obtain ⟨kq, x46_26, rfl, HA, HJ26, BK102, HB⟩ := hcut
                  cases kq with
                  | zero => exact absurd HA.out (by simp [spec_l06Open.j1])
                  | succ kj26 =>
                    have H := HA.out
                    clear HA
                    simp only [spec_l06Open.j1] at H
                    have HC31 := Aside0.mk H
                    clear H
                    go_upto_if 46 with (fail)
                    go_cut [7] (fun v7 wc => ∃ (kq : Nat) (x7_30 : Int), v7 = .int .i64 x7_30 ∧ Aside0 (spec_l06Open.j2 kq t103 x7_30 x8_15 = some r) ∧ Aside0 (kq ≤ kj26) ∧ Aside0 (wc.heap[gb102]? = some (.cells #[.int .u8 ((rd_T43 l0 a1).f0), .int .i64 ((rd_T43 l0 a1).f1), .int .i64 ((rd_T43 l0 a1).f2), .int .i64 ((rd_T43 l0 a1).f3), .int .i64 ((rd_T43 l0 a1).f4), .string ((rd_T43 l0 a1).f5), (.slice A101_6 ((rd_T43 l0 a1).f6).length c101_6)] 43 (0, 0))) ∧ Aside0 (Below w.heap.size w wc))
                    case first =>
                      have H := HC31.out
                      clear HC31
                      by_cases c32 : x46_26 = true
                      · subst c32
                        have H1 : (spec_l06Open.j2 kj26 t103 (wrap64 (t104 - 1)) x8_15) = some r := by rw [if_pos rfl] at H; exact H
                        clear H
                        have H := H1
                        clear H1
                        have H' := Aside0.mk H
                        clear H
                        go_wp2
                        go_meet
                        case rel => exact ⟨_, (wrap64 (t104 - 1)), (by first | rfl | (simp; done) | (simp [*]; done)), H', ⟨by have := HJ15.out; have := HJ26.out; first | omega | exact Nat.le_refl _⟩, ⟨by (with_reducible repeat (first | refine blk_drewN ?_ _ | refine blk_drew ?_ | refine blk_alloc ?_ _)); exact BK102.out⟩, ⟨by repeat (first | (with_reducible first | exact HB.out | apply below_alloc | apply pw_below_drewN | apply below_drew1 | refine below_set ?_ GE102.out) | exact HB.out)⟩⟩
                      · replace c32 := Bool.eq_false_iff.mpr c32
                        subst c32
                        have H1 : (spec_l06Open.j2 kj26 t103 t104 x8_15) = some r := by rw [if_neg (show ¬ (false = true) by decide)] at H; exact H
                        clear H
                        have H := H1
                        clear H1
                        have H' := Aside0.mk H
                        clear H
                        go_wp2
                        go_meet
                        case rel => exact ⟨_, (t104), (by first | rfl | (simp; done) | (simp [*]; done)), H', ⟨by have := HJ15.out; have := HJ26.out; first | omega | exact Nat.le_refl _⟩, ⟨by (with_reducible repeat (first | refine blk_drewN ?_ _ | refine blk_drew ?_ | refine blk_alloc ?_ _)); exact BK102.out⟩, ⟨by repeat (first | (with_reducible first | exact HB.out | apply below_alloc | apply pw_below_drewN | apply below_drew1 | refine below_set ?_ GE102.out) | exact HB.out)⟩⟩
                    case rest =>
                      clear HC31
                      try clear c1
                      try clear p1
                      try clear q1
                      try clear hx1
                      try clear c2
                      try clear p2
                      try clear c3
                      try clear c3b0
                      try clear c4
                      try clear c4b0
                      try clear c5
                      try clear c5b0
                      try clear c5b1
                      try clear p6
                      try clear c8
                      try clear c8b0
                      try clear c8b1
                      try clear c10
                      try clear p10
                      try clear q10
                      try clear hx10
                      try clear c11
                      try clear c11b0
                      try clear c11b1
                      try clear c23
                      try clear c23b0
                      try clear c23b1
                      try clear c28
                      try clear c28b0
                      try clear c28b1
                      try clear c32
                      try clear hcz10_0
                      try clear hcz10_1
                      try clear hcz10_2
                      try clear hcz10_3
                      try clear hcz10_4
                      try clear hcz10_5
                      try clear hcz10_6
                      try clear hcz13_0
                      try clear hcz13_1
                      try clear hcz13_2
                      try clear hcz13_3
                      try clear hcz13_4
                      try clear hcz13_5
                      try clear hcz13_6
                      try clear hcz18_0
                      try clear hcz18_1
                      try clear hcz18_2
                      try clear hcz18_3
                      try clear hcz18_4
                      try clear hcz18_5
                      try clear hcz18_6
                      try clear hcz20_0
                      try clear hcz20_1
                      try clear hcz20_2
                      try clear hcz20_3
                      try clear hcz20_4
                      try clear hcz20_5
                      try clear hcz20_6
                      try clear hcz22_0
                      try clear hcz22_1
                      try clear hcz22_2
                      try clear hcz22_3
                      try clear hcz22_4
                      try clear hcz22_5
                      try clear hcz22_6
                      try clear hcz25_0
                      try clear hcz25_1
                      try clear hcz25_2
                      try clear hcz25_3
                      try clear hcz25_4
                      try clear hcz25_5
                      try clear hcz25_6
                      try clear hcz29_0
                      try clear hcz29_1
                      try clear hcz29_2
                      try clear hcz29_3
                      try clear hcz29_4
                      try clear hcz29_5
                      try clear hcz29_6
                      try clear hcz30_0
                      try clear hcz30_1
                      try clear hcz30_2
                      try clear hcz30_3
                      try clear hcz30_4
                      try clear hcz30_5
                      try clear hcz30_6
                      try clear hcz7_0
                      try clear hcz7_1
                      try clear hcz7_2
                      try clear hcz7_3
                      try clear hcz7_4
                      try clear hcz7_5
                      try clear hcz7_6
                      try clear hfz10_0
                      try clear hfz10_1
                      try clear hfz10_2
                      try clear hfz10_3
                      try clear hfz10_4
                      try clear hfz10_5
                      try clear hfz10_6
                      try clear hfz13_0
                      try clear hfz13_1
                      try clear hfz13_2
                      try clear hfz13_3
                      try clear hfz13_4
                      try clear hfz13_5
                      try clear hfz13_6
                      try clear hfz18_0
                      try clear hfz18_1
                      try clear hfz18_2
                      try clear hfz18_3
                      try clear hfz18_4
                      try clear hfz18_5
                      try clear hfz18_6
                      try clear hfz20_0
                      try clear hfz20_1
                      try clear hfz20_2
                      try clear hfz20_3
                      try clear hfz20_4
                      try clear hfz20_5
                      try clear hfz20_6
                      try clear hfz22_0
                      try clear hfz22_1
                      try clear hfz22_2
                      try clear hfz22_3
                      try clear hfz22_4
                      try clear hfz22_5
                      try clear hfz22_6
                      try clear hfz25_0
                      try clear hfz25_1
                      try clear hfz25_2
                      try clear hfz25_3
                      try clear hfz25_4
                      try clear hfz25_5
                      try clear hfz25_6
                      try clear hfz29_0
                      try clear hfz29_1
                      try clear hfz29_2
                      try clear hfz29_3
                      try clear hfz29_4
                      try clear hfz29_5
                      try clear hfz29_6
                      try clear hfz30_0
                      try clear hfz30_1
                      try clear hfz30_2
                      try clear hfz30_3
                      try clear hfz30_4
                      try clear hfz30_5
                      try clear hfz30_6
                      try clear hfz7_0
                      try clear hfz7_1
                      try clear hfz7_2
                      try clear hfz7_3
                      try clear hfz7_4
                      try clear hfz7_5
                      try clear hfz7_6
                      try clear hx101_0
                      try clear hx101_1
                      try clear hx101_2
                      try clear hx101_3
                      try clear hx101_4
                      try clear hx101_5
                      try clear hx101_6
                      try clear p1
                      try clear p10
                      try clear p101
                      try clear p2
                      try clear p6
                      try clear q1
                      try clear q10
                      try clear q101
                      obtain ⟨kq, x7_30, rfl, HA, HJ30, BK102, HB⟩ := hcut
                      cases kq with
                      | zero => exact absurd HA.out (by simp [spec_l06Open.j2])
                      | succ kj30 =>
                        have H := HA.out
                        clear HA
                        simp only [spec_l06Open.j2] at H
                        by_cases c33 : x7_30 > t103
                        · rw [if_pos c33] at H
                          have c33b0 : decide (t103 < x7_30) = true := decide_eq_true c33
                          clear c33
                          by_cases c34 : x8_15 > x7_30
                          · rw [if_pos c34] at H
                            have c34b0 : decide (x7_30 < x8_15) = true := decide_eq_true c34
                            clear c34
                            obtain rfl := Option.some.inj H
                            go_wp2
                            go_ret
                            exact ⟨by first | rfl | (simp [errW_none, errW_some] <;> rfl) | (simp [*, errW_none, errW_some] <;> rfl), by repeat (first | (with_reducible first | exact HB.out | apply below_alloc | apply pw_below_drewN | apply below_drew1 | refine below_set ?_ GE102.out) | exact HB.out)⟩
                          · rw [if_neg c34] at H
                            have c34b0 : decide (x7_30 < x8_15) = false := decide_eq_false c34
                            clear c34
                            obtain rfl := Option.some.inj H
                            go_wp2
                            go_ret
                            exact ⟨by first | rfl | (simp [errW_none, errW_some] <;> rfl) | (simp [*, errW_none, errW_some] <;> rfl), by repeat (first | (with_reducible first | exact HB.out | apply below_alloc | apply pw_below_drewN | apply below_drew1 | refine below_set ?_ GE102.out) | exact HB.out)⟩
                        · rw [if_neg c33] at H
                          have c33b0 : decide (t103 < x7_30) = false := decide_eq_false c33
                          clear c33
                          by_cases c35 : x8_15 > t103
                          · rw [if_pos c35] at H
                            have c35b0 : decide (t103 < x8_15) = true := decide_eq_true c35
                            clear c35
                            obtain rfl := Option.some.inj H
                            go_wp2
                            go_ret
                            exact ⟨by first | rfl | (simp [errW_none, errW_some] <;> rfl) | (simp [*, errW_none, errW_some] <;> rfl), by repeat (first | (with_reducible first | exact HB.out | apply below_alloc | apply pw_below_drewN | apply below_drew1 | refine below_set ?_ GE102.out) | exact HB.out)⟩
                          · rw [if_neg c35] at H
                            have c35b0 : decide (t103 < x8_15) = false := decide_eq_false c35
                            clear c35
                            obtain rfl := Option.some.inj H
                            go_wp2
                            go_ret
                            exact ⟨by first | rfl | (simp [errW_none, errW_some] <;> rfl) | (simp [*, errW_none, errW_some] <;> rfl), by repeat (first | (with_reducible first | exact HB.out | apply below_alloc | apply pw_below_drewN | apply below_drew1 | refine below_set ?_ GE102.out) | exact HB.out)⟩
    · rw [if_neg c4] at H
      exact absurd H (by simp)
  · rw [if_neg c3] at H
    exact absurd H (by simp)

end Go.Proofs.YtefiapcfdabfpaaDoor.P

namespace Go.Proofs.YtefiapcfdabfpaaDoor.P
open Go.RowKit Go.Proofs.YtefiapcfdabfpaaDoorW.PrintWords Go.Proofs.YtefiapcfdabfpaaDoorW.PrintLast Go.Proofs.YtefiapcfdabfpaaDoorW.PrintMore
attribute [local go_sem] max2_int min2_int max_two min_two max_three min_three max_four min_four
set_option linter.unusedVariables false
set_option linter.unusedSimpArgs false

/-! ### spec_TermOpen: function 28 -/
def spec_TermOpen.f (k : Nat) (a0 : ByteArray) : Option (Int) := (spec_l06All.f k a0).bind fun t101 => (if (t101.length : Int) = 0 then (some 0) else ((spec_l06Open.f k t101 (wrap64 ((t101.length : Int) - 1))).bind fun t104 => ((spec_Brought.f k t104 0 1000).bind fun t105 => (some t105))))
theorem spec_TermOpen.mono : ∀ a0 k, LeO (spec_TermOpen.f k a0) (spec_TermOpen.f (k + 1) a0) := by
  intro a0 k
  unfold spec_TermOpen.f
  repeat' first
      | (with_reducible exact spec_Brought.mono _ _ _ _)
      | (with_reducible exact spec_l06All.mono _ _)
      | (with_reducible exact spec_l06Open.mono _ _ _)
      | (with_reducible exact LeO.refl _)
      | (with_reducible exact LeO.none _)
      | (with_reducible refine LeO.ite ?_ ?_)
      | (with_reducible refine LeO.bind ?_ (fun _ => ?_))
      | exact spec_Brought.mono _ _ _ _
      | exact spec_l06All.mono _ _
      | exact spec_l06Open.mono _ _ _
      | exact LeO.none _
      | refine LeO.ite ?_ ?_
      | refine LeO.bind ?_ (fun _ => ?_)
set_option maxHeartbeats 8000000 in
set_option maxRecDepth 100000 in
theorem spec_TermOpen.calls (k : Nat) (a0 : ByteArray) (r : Int) (w : World) (h : spec_TermOpen.f k a0 = some r) :
    Calls Tryd.prog 28 #[.string a0] w fun e w' => e = .returned (.int .i64 r) ∧ Below w.heap.size w w' := by
  have HB := Aside0.mk (Below.refl w.heap.size w)
  have H : ((spec_l06All.f k a0).bind fun t101 => (if (t101.length : Int) = 0 then (some 0) else ((spec_l06Open.f k t101 (wrap64 ((t101.length : Int) - 1))).bind fun t104 => ((spec_Brought.f k t104 0 1000).bind fun t105 => (some t105))))) = some r := h
  clear h
  replace H := Option.bind_eq_some_iff.mp H
  obtain ⟨t101, A20, H⟩ := H
  replace H : (if (t101.length : Int) = 0 then (some 0) else ((spec_l06Open.f k t101 (wrap64 ((t101.length : Int) - 1))).bind fun t104 => ((spec_Brought.f k t104 0 1000).bind fun t105 => (some t105)))) = some r := H
  have A2 := Aside0.mk A20
  clear A20
  by_cases c3 : (t101.length : Int) = 0
  · rw [if_pos c3] at H
    have c3b0 : ((t101.length : Int) == 0) = true := beq_iff_eq.mpr c3
    have c3b1 : ((t101.length : Int) != 0) = false := bne_eq_false_iff_eq.mpr c3
    clear c3
    obtain rfl := Option.some.inj H
    go_enter Tryd.func28, Tryd.ntmps28
    go_wp2_with (first | ((with_reducible refine gate_callee (f := 44) rfl ?_); refine goesL_ (some 5) rfl rfl Tryd.func44 (by kernel_rfl) rfl #[.string a0] rfl (by (try simp only [List.map_toArray, List.map_cons, List.map_nil]); first | done | rfl | (simp only [List.length_drop, List.length_take]; rfl)) ?_; (with_reducible refine (spec_l06All.calls k a0 t101 _ A2.out).mono ?_); rintro e w4 ⟨v102, rfl, ho0, hb⟩; refine ⟨_, rfl, ?_⟩; have n0_ := Aside0.mk (Kd.S_lower ho0 (below_size (by repeat (first | (with_reducible first | exact HB.out | apply below_alloc | apply pw_below_drewN | apply below_drew1) | exact HB.out)))); have n1_ := Aside0.mk (below_step (by repeat (first | (with_reducible first | exact HB.out | apply below_alloc | apply pw_below_drewN | apply below_drew1) | exact HB.out)) hb); clear HB; have HO103 := n0_; have HB := n1_; clear n0_ n1_; (try clear hb); (try clear hb2); (try clear hk); (try clear hi); (try clear ho0); obtain ⟨Ao5, co5, eo5⟩ := Kd.S_slice HO103.out; subst eo5))
    go_ret
    exact ⟨by first | rfl | (simp [errW_none, errW_some] <;> rfl) | (simp [*, errW_none, errW_some] <;> rfl), by repeat (first | (with_reducible first | exact HB.out | apply below_alloc | apply pw_below_drewN | apply below_drew1) | exact HB.out)⟩
  · rw [if_neg c3] at H
    have c3b0 : ((t101.length : Int) == 0) = false := beq_eq_false_iff_ne.mpr c3
    have c3b1 : ((t101.length : Int) != 0) = true := bne_iff_ne.mpr c3
    have c3b2 : ¬ (t101 = []) := fun h_ => c3 (by rw [h_]; rfl)
    replace H := Option.bind_eq_some_iff.mp H
    obtain ⟨t104, A60, H⟩ := H
    replace H : ((spec_Brought.f k t104 0 1000).bind fun t105 => (some t105)) = some r := H
    have A6 := Aside0.mk A60
    clear A60
    replace H := Option.bind_eq_some_iff.mp H
    obtain ⟨t105, A70, H⟩ := H
    replace H : (some t105) = some r := H
    have A7 := Aside0.mk A70
    clear A70
    obtain rfl := Option.some.inj H
    go_enter Tryd.func28, Tryd.ntmps28
    go_wp2_with (first | ((with_reducible refine gate_callee (f := 44) rfl ?_); refine goesL_ (some 5) rfl rfl Tryd.func44 (by kernel_rfl) rfl #[.string a0] rfl (by (try simp only [List.map_toArray, List.map_cons, List.map_nil]); first | done | rfl | (simp only [List.length_drop, List.length_take]; rfl)) ?_; (with_reducible refine (spec_l06All.calls k a0 t101 _ A2.out).mono ?_); rintro e w8 ⟨v102, rfl, ho0, hb⟩; refine ⟨_, rfl, ?_⟩; have n0_ := Aside0.mk (Kd.S_lower ho0 (below_size (by repeat (first | (with_reducible first | exact HB.out | apply below_alloc | apply pw_below_drewN | apply below_drew1) | exact HB.out)))); have n1_ := Aside0.mk (below_step (by repeat (first | (with_reducible first | exact HB.out | apply below_alloc | apply pw_below_drewN | apply below_drew1) | exact HB.out)) hb); clear HB; have HO103 := n0_; have HB := n1_; clear n0_ n1_; (try clear hb); (try clear hb2); (try clear hk); (try clear hi); (try clear ho0); obtain ⟨Ao9, co9, eo9⟩ := Kd.S_slice HO103.out; subst eo9) | ((with_reducible refine gate_callee (f := 52) rfl ?_); refine goesL_ (some 13) rfl rfl Tryd.func52 (by kernel_rfl) rfl #[.slice Ao9 t101.length co9, .int .i64 (wrap64 ((t101.length : Int) - 1))] rfl (by (try simp only [List.map_toArray, List.map_cons, List.map_nil]); first | done | rfl | (simp only [List.length_drop, List.length_take]; rfl)) ?_; (with_reducible refine (spec_l06Open.calls k _ _ t101 (wrap64 ((t101.length : Int) - 1)) t104 _ ?side1 ?side2 A6.out).mono ?_); (case side1 => repeat (first | exact (Kd.S_reads' HO103.out).2.2 | (with_reducible refine Kd.C_alloc ?_ _) | (with_reducible refine Kd.C_drewN ?_ _) | (with_reducible refine Kd.C_drew ?_))); (case side2 => exact (Kd.S_reads' HO103.out).2.1); rintro e w10 ⟨rfl, hb⟩; refine ⟨_, rfl, ?_⟩; have n0_ := Aside0.mk (Kd.S_below (by (with_reducible repeat (first | apply Kd.S_alloc | apply Kd.S_drewN | apply Kd.S_drew)); exact HO103.out) hb); have n1_ := Aside0.mk (below_step (by repeat (first | (with_reducible first | exact HB.out | apply below_alloc | apply pw_below_drewN | apply below_drew1) | exact HB.out)) hb); clear HO103; clear HB; have HO103 := n0_; have HB := n1_; clear n0_ n1_; (try clear hb); (try clear hb2); (try clear hk); (try clear hi)) | ((with_reducible refine gate_callee (f := 51) rfl ?_); refine goesL_ (some 14) rfl rfl Tryd.func51 (by kernel_rfl) rfl #[.int .i64 t104, .int .i64 0, .int .i64 1000] rfl (by (try simp only [List.map_toArray, List.map_cons, List.map_nil]); first | done | rfl | (simp only [List.length_drop, List.length_take]; rfl)) ?_; (with_reducible refine (spec_Brought.calls k t104 0 1000 t105 _ A7.out).mono ?_); rintro e w' ⟨rfl, ⟨nd, rfl⟩⟩; refine ⟨_, rfl, ?_⟩))
    go_ret
    exact ⟨by first | rfl | (simp [errW_none, errW_some] <;> rfl) | (simp [*, errW_none, errW_some] <;> rfl), by repeat (first | (with_reducible first | exact HB.out | apply below_alloc | apply pw_below_drewN | apply below_drew1) | exact HB.out)⟩

end Go.Proofs.YtefiapcfdabfpaaDoor.P

namespace Go.Proofs.YtefiapcfdabfpaaDoor.P
open Go.RowKit Go.Proofs.YtefiapcfdabfpaaDoorW.PrintWords Go.Proofs.YtefiapcfdabfpaaDoorW.PrintLast Go.Proofs.YtefiapcfdabfpaaDoorW.PrintMore
attribute [local go_sem] max2_int min2_int max_two min_two max_three min_three max_four min_four
set_option linter.unusedVariables false
set_option linter.unusedSimpArgs false

/-! ### laws_FnExactTermOpen: function 8 -/
def laws_FnExactTermOpen.f (k : Nat) (a0 : ByteArray) : Option (Bool) := if (a0.size : Int) > 1048576 then (some true) else ((spec_TermOpen.f k a0).bind fun t101 => ((impl_TermOpen.f a0).bind fun t102 => (if t102 = t101 then (some true) else (some false))))
theorem laws_FnExactTermOpen.mono : ∀ a0 k, LeO (laws_FnExactTermOpen.f k a0) (laws_FnExactTermOpen.f (k + 1) a0) := by
  intro a0 k
  unfold laws_FnExactTermOpen.f
  repeat' first
      | (with_reducible exact spec_TermOpen.mono _ _)
      | (with_reducible exact LeO.refl _)
      | (with_reducible exact LeO.none _)
      | (with_reducible refine LeO.ite ?_ ?_)
      | (with_reducible refine LeO.bind ?_ (fun _ => ?_))
      | exact spec_TermOpen.mono _ _
      | exact LeO.none _
      | refine LeO.ite ?_ ?_
      | refine LeO.bind ?_ (fun _ => ?_)
set_option maxHeartbeats 8000000 in
set_option maxRecDepth 100000 in
theorem laws_FnExactTermOpen.calls (k : Nat) (a0 : ByteArray) (r : Bool) (w : World) (hEA : EnvA w) (hEI : EnvI w) (hEM : EnvM w) (h : laws_FnExactTermOpen.f k a0 = some r) :
    Calls Tryd.prog 8 #[.string a0] w fun e w' => e = .returned (.bool r) ∧ Below w.heap.size w w' := by
  have HB := Aside0.mk (Below.refl w.heap.size w)
  have H : (if (a0.size : Int) > 1048576 then (some true) else ((spec_TermOpen.f k a0).bind fun t101 => ((impl_TermOpen.f a0).bind fun t102 => (if t102 = t101 then (some true) else (some false))))) = some r := h
  clear h
  by_cases c2 : (a0.size : Int) > 1048576
  · rw [if_pos c2] at H
    have c2b0 : decide (1048576 < (a0.size : Int)) = true := decide_eq_true c2
    have c2b1 : decide (1048576 < a0.size) = true := decide_eq_true (by omega)
    clear c2
    obtain rfl := Option.some.inj H
    go_enter Tryd.func8, Tryd.ntmps8
    go_wp2
    go_ret
    exact ⟨by first | rfl | (simp [errW_none, errW_some] <;> rfl) | (simp [*, errW_none, errW_some] <;> rfl), by repeat (first | (with_reducible first | exact HB.out | apply below_alloc | apply pw_below_drewN | apply below_drew1) | exact HB.out)⟩
  · rw [if_neg c2] at H
    have c2b0 : decide (1048576 < (a0.size : Int)) = false := decide_eq_false c2
    have c2b1 : decide (1048576 < a0.size) = false := decide_eq_false (by omega)
    clear c2
    replace H := Option.bind_eq_some_iff.mp H
    obtain ⟨t101, A30, H⟩ := H
    replace H : ((impl_TermOpen.f a0).bind fun t102 => (if t102 = t101 then (some true) else (some false))) = some r := H
    have A3 := Aside0.mk A30
    clear A30
    replace H := Option.bind_eq_some_iff.mp H
    obtain ⟨t102, A40, H⟩ := H
    replace H : (if t102 = t101 then (some true) else (some false)) = some r := H
    have A4 := Aside0.mk A40
    clear A40
    by_cases c5 : t102 = t101
    · rw [if_pos c5] at H
      have c5b0 : (t102 == t101) = true := beq_iff_eq.mpr c5
      have c5b1 : (t102 != t101) = false := bne_eq_false_iff_eq.mpr c5
      clear c5
      obtain rfl := Option.some.inj H
      go_enter Tryd.func8, Tryd.ntmps8
      go_wp2_with (first | ((with_reducible refine gate_callee (f := 28) rfl ?_); refine goesL_ (some 9) rfl rfl Tryd.func28 (by kernel_rfl) rfl #[.string a0] rfl (by (try simp only [List.map_toArray, List.map_cons, List.map_nil]); first | done | rfl | (simp only [List.length_drop, List.length_take]; rfl)) ?_; (with_reducible refine (spec_TermOpen.calls k a0 t101 _ A3.out).mono ?_); rintro e w6 ⟨rfl, hb⟩; refine ⟨_, rfl, ?_⟩; have n0_ := Aside0.mk (below_step (by repeat (first | (with_reducible first | exact HB.out | apply below_alloc | apply pw_below_drewN | apply below_drew1) | exact HB.out)) hb); clear HB; have HB := n0_; clear n0_; (try clear hb); (try clear hb2); (try clear hk); (try clear hi)) | ((with_reducible refine gate_callee (f := 29) rfl ?_); refine goesL_ (some 11) rfl rfl Tryd.func29 (by kernel_rfl) rfl #[.string a0] rfl (by (try simp only [List.map_toArray, List.map_cons, List.map_nil]); first | done | rfl | (simp only [List.length_drop, List.length_take]; rfl)) ?_; (with_reducible refine (impl_TermOpen.calls a0 t102 _ ?side1 ?side2 ?side3 A4.out).mono ?_); (case side1 => first | exact hEA | exact EnvA.below hEA (by repeat (first | (with_reducible first | exact HB.out | apply below_alloc | apply pw_below_drewN | apply below_drew1) | exact HB.out))); (case side2 => first | exact hEI | exact EnvI.below hEI (by repeat (first | (with_reducible first | exact HB.out | apply below_alloc | apply pw_below_drewN | apply below_drew1) | exact HB.out))); (case side3 => first | exact hEM | exact EnvM.below hEM (by repeat (first | (with_reducible first | exact HB.out | apply below_alloc | apply pw_below_drewN | apply below_drew1) | exact HB.out))); rintro e w7 ⟨rfl, hb⟩; refine ⟨_, rfl, ?_⟩; have n0_ := Aside0.mk (below_step (by repeat (first | (with_reducible first | exact HB.out | apply below_alloc | apply pw_below_drewN | apply below_drew1) | exact HB.out)) hb); clear HB; have HB := n0_; clear n0_; (try clear hb); (try clear hb2); (try clear hk); (try clear hi)))
      go_ret
      exact ⟨by first | rfl | (simp [errW_none, errW_some] <;> rfl) | (simp [*, errW_none, errW_some] <;> rfl), by repeat (first | (with_reducible first | exact HB.out | apply below_alloc | apply pw_below_drewN | apply below_drew1) | exact HB.out)⟩
    · rw [if_neg c5] at H
      have c5b0 : (t102 == t101) = false := beq_eq_false_iff_ne.mpr c5
      have c5b1 : (t102 != t101) = true := bne_iff_ne.mpr c5
      obtain rfl := Option.some.inj H
      go_enter Tryd.func8, Tryd.ntmps8
      go_wp2_with (first | ((with_reducible refine gate_callee (f := 28) rfl ?_); refine goesL_ (some 9) rfl rfl Tryd.func28 (by kernel_rfl) rfl #[.string a0] rfl (by (try simp only [List.map_toArray, List.map_cons, List.map_nil]); first | done | rfl | (simp only [List.length_drop, List.length_take]; rfl)) ?_; (with_reducible refine (spec_TermOpen.calls k a0 t101 _ A3.out).mono ?_); rintro e w8 ⟨rfl, hb⟩; refine ⟨_, rfl, ?_⟩; have n0_ := Aside0.mk (below_step (by repeat (first | (with_reducible first | exact HB.out | apply below_alloc | apply pw_below_drewN | apply below_drew1) | exact HB.out)) hb); clear HB; have HB := n0_; clear n0_; (try clear hb); (try clear hb2); (try clear hk); (try clear hi)) | ((with_reducible refine gate_callee (f := 29) rfl ?_); refine goesL_ (some 11) rfl rfl Tryd.func29 (by kernel_rfl) rfl #[.string a0] rfl (by (try simp only [List.map_toArray, List.map_cons, List.map_nil]); first | done | rfl | (simp only [List.length_drop, List.length_take]; rfl)) ?_; (with_reducible refine (impl_TermOpen.calls a0 t102 _ ?side1 ?side2 ?side3 A4.out).mono ?_); (case side1 => first | exact hEA | exact EnvA.below hEA (by repeat (first | (with_reducible first | exact HB.out | apply below_alloc | apply pw_below_drewN | apply below_drew1) | exact HB.out))); (case side2 => first | exact hEI | exact EnvI.below hEI (by repeat (first | (with_reducible first | exact HB.out | apply below_alloc | apply pw_below_drewN | apply below_drew1) | exact HB.out))); (case side3 => first | exact hEM | exact EnvM.below hEM (by repeat (first | (with_reducible first | exact HB.out | apply below_alloc | apply pw_below_drewN | apply below_drew1) | exact HB.out))); rintro e w9 ⟨rfl, hb⟩; refine ⟨_, rfl, ?_⟩; have n0_ := Aside0.mk (below_step (by repeat (first | (with_reducible first | exact HB.out | apply below_alloc | apply pw_below_drewN | apply below_drew1) | exact HB.out)) hb); clear HB; have HB := n0_; clear n0_; (try clear hb); (try clear hb2); (try clear hk); (try clear hi)))
      go_ret
      exact ⟨by first | rfl | (simp [errW_none, errW_some] <;> rfl) | (simp [*, errW_none, errW_some] <;> rfl), by repeat (first | (with_reducible first | exact HB.out | apply below_alloc | apply pw_below_drewN | apply below_drew1) | exact HB.out)⟩

/-- THE ONE PURE STATEMENT of laws_FnExactTermOpen: yours. -/
def laws_FnExactTermOpen.Pure : Prop := ∀ (a0 : ByteArray), a0.size ≤ 140737488351232 → ∃ k, laws_FnExactTermOpen.f k a0 = some true
theorem laws_FnExactTermOpen.walk (P : laws_FnExactTermOpen.Pure) (a0 : ByteArray) (w : World) (w0 : a0.size ≤ 140737488351232) (hEA : EnvA w) (hEI : EnvI w) (hEM : EnvM w) :
    Calls Tryd.prog 8 #[.string a0] w fun e w' => e = .returned (.bool true) ∧ Below w.heap.size w w' := by
  obtain ⟨k, h⟩ := P a0 w0
  refine (laws_FnExactTermOpen.calls k a0 true w hEA hEI hEM h).mono ?_
  rintro e w' ⟨rfl, hd⟩
  exact ⟨rfl, hd⟩

end Go.Proofs.YtefiapcfdabfpaaDoor.P

namespace Go.Proofs.YtefiapcfdabfpaaDoor.Pure
open Go.RowKit Go.Proofs.YtefiapcfdabfpaaDoor.P Go.Proofs.YtefiapcfdabfpaaDoorW.PrintWords
/-- The node of a term itself. -/
def rootN : Te → Nat → S43
  | .two k x y, b => ⟨k, ((b + x.sz - 1 : Nat) : Int), ((b + x.sz + y.sz - 1 : Nat) : Int), 0, 0, ⟨#[]⟩, []⟩
  | .three x y z, b => ⟨116, ((b + x.sz - 1 : Nat) : Int), ((b + x.sz + y.sz - 1 : Nat) : Int), ((b + x.sz + y.sz + z.sz - 1 : Nat) : Int), 0, ⟨#[]⟩, []⟩
  | t, _ => leafN t
theorem rootN_kind (t : Te) (b : Nat) : (rootN t b).f0 = t.kind := by cases t <;> rfl
theorem two_kind {k : Int} (hk : k = 64 ∨ k = 108 ∨ k = 112) : k ≠ 118 ∧ k ≠ 115 ∧ k ≠ 99 ∧ k ≠ 116 := by omega
theorem flat_root (t : Te) (b : Nat) : ∃ l, flat t b = l ++ [rootN t b] ∧ l.length + 1 = t.sz := by
  cases t with
  | var n => exact ⟨[], rfl, rfl⟩
  | sort l => exact ⟨[], rfl, rfl⟩
  | con n l => exact ⟨[], rfl, rfl⟩
  | two k x y => exact ⟨flat x b ++ flat y (b + x.sz), by simp [flat, rootN], by simp [flat_length, Te.sz]⟩
  | three x y z => exact ⟨flat x b ++ (flat y (b + x.sz) ++ flat z (b + x.sz + y.sz)), by simp [flat, rootN], by simp [flat_length, Te.sz]; omega⟩
/-- The term's nodes lie from place b on. -/
def At (nodes : List S43) (t : Te) (b : Nat) : Prop := ∃ pre post, nodes = pre ++ (flat t b ++ post) ∧ pre.length = b
theorem At.whole (t : Te) : At (flat t 0) t 0 := ⟨[], [], by simp, rfl⟩
theorem At.le {nodes : List S43} {t : Te} {b : Nat} (h : At nodes t b) : b + t.sz ≤ nodes.length := by
  obtain ⟨pre, post, rfl, rfl⟩ := h
  simp only [List.length_append, flat_length]
  omega
theorem At.root {nodes : List S43} {t : Te} {b : Nat} (h : At nodes t b) : rd_T43 nodes ((b + t.sz - 1 : Nat) : Int) = rootN t b := by
  obtain ⟨pre, post, rfl, rfl⟩ := h
  obtain ⟨l, hl, hz⟩ := flat_root t pre.length
  unfold rd_T43
  rw [hl, Int.toNat_natCast, List.getD_eq_getElem?_getD, List.getElem?_append_right (by omega), show pre.length + t.sz - 1 - pre.length = l.length from by omega, List.append_assoc, List.getElem?_append_right (Nat.le_refl _), Nat.sub_self]
  rfl
theorem At.two_x {nodes : List S43} {k : Int} {x y : Te} {b : Nat} (h : At nodes (.two k x y) b) : At nodes x b := by
  obtain ⟨pre, post, rfl, rfl⟩ := h
  exact ⟨pre, _, by simp only [flat, List.append_assoc]; rfl, rfl⟩
theorem At.two_y {nodes : List S43} {k : Int} {x y : Te} {b : Nat} (h : At nodes (.two k x y) b) : At nodes y (b + x.sz) := by
  obtain ⟨pre, post, rfl, rfl⟩ := h
  exact ⟨pre ++ flat x pre.length, _, by simp only [flat, List.append_assoc]; rfl, by simp [flat_length]⟩
theorem At.three_x {nodes : List S43} {x y z : Te} {b : Nat} (h : At nodes (.three x y z) b) : At nodes x b := by
  obtain ⟨pre, post, rfl, rfl⟩ := h
  exact ⟨pre, _, by simp only [flat, List.append_assoc]; rfl, rfl⟩
theorem At.three_y {nodes : List S43} {x y z : Te} {b : Nat} (h : At nodes (.three x y z) b) : At nodes y (b + x.sz) := by
  obtain ⟨pre, post, rfl, rfl⟩ := h
  exact ⟨pre ++ flat x pre.length, _, by simp only [flat, List.append_assoc]; rfl, by simp [flat_length]⟩
theorem At.three_z {nodes : List S43} {x y z : Te} {b : Nat} (h : At nodes (.three x y z) b) : At nodes z (b + x.sz + y.sz) := by
  obtain ⟨pre, post, rfl, rfl⟩ := h
  exact ⟨pre ++ (flat x pre.length ++ flat y (pre.length + x.sz)), _, by simp only [flat, List.append_assoc]; rfl, by simp [flat_length]; omega⟩
end Go.Proofs.YtefiapcfdabfpaaDoor.Pure

namespace Go.Proofs.YtefiapcfdabfpaaDoor.Pure
open Go.RowKit Go.Proofs.YtefiapcfdabfpaaDoor.P Go.Proofs.YtefiapcfdabfpaaDoorW.PrintWords
theorem open_j2 (k : Nat) (a b c : Int) : spec_l06Open.j2 (k + 1) a b c = some (max (max a b) c) := by
  simp only [spec_l06Open.j2]
  by_cases h1 : b > a
  · rw [if_pos h1]
    by_cases h2 : c > b
    · rw [if_pos h2]; congr 1; omega
    · rw [if_neg h2]; congr 1; omega
  · rw [if_neg h1]
    by_cases h2 : c > a
    · rw [if_pos h2]; congr 1; omega
    · rw [if_neg h2]; congr 1; omega
theorem open_j0 (k : Nat) (a b c kd x1 x2 x3 x4 : Int) (x5 : ByteArray) (x6 : List ByteArray) (hb0 : 0 ≤ b) (hb1 : b ≤ 1000) : spec_l06Open.j0 (k + 3) a b c kd x1 x2 x3 x4 x5 x6 = some (max (max a (b - bI kd 1)) c) := by
  have e : wrap64 (b - 1) = b - 1 := by unfold wrap64; omega
  simp only [spec_l06Open.j0, spec_l06Open.j1]
  by_cases h1 : kd = 108
  · rw [if_pos h1, if_pos trivial, e, open_j2]
    have : bI kd 1 = 1 := by subst h1; rfl
    rw [this]
  · rw [if_neg h1]
    by_cases h2 : kd = 112
    · rw [if_pos (by rw [h2]; rfl), e, open_j2]
      have : bI kd 1 = 1 := by subst h2; rfl
      rw [this]
    · rw [if_neg (by simp [h2]), open_j2]
      have : bI kd 1 = 0 := by unfold bI bindsB; simp [h1, h2]
      rw [this, Int.sub_zero]
theorem spec_open (nodes : List S43) (hn : nodes.length ≤ 100000) : ∀ (t : Te), t.Ok → ∀ (b K : Nat), At nodes t b → t.sz + 5 < K → spec_l06Open.f K nodes ((b + t.sz - 1 : Nat) : Int) = some (opn t) := by
  intro t ht
  induction ht with
  | var n h0 h1 =>
    intro b K hat hK
    obtain ⟨K, rfl⟩ : ∃ m, K = m + 1 := ⟨K - 1, by omega⟩
    have hle := hat.le
    have hp := (Te.var n).sz_pos
    simp only [spec_l06Open.f]
    rw [if_pos (by omega), if_pos (by omega), hat.root]
    rw [if_pos (show (rootN (Te.var n) b).f0 = 118 from rfl)]
    show some (wrap64 (n + 1)) = some (n + 1)
    congr 1
    unfold wrap64; omega
  | sort l h =>
    intro b K hat hK
    obtain ⟨K, rfl⟩ : ∃ m, K = m + 1 := ⟨K - 1, by omega⟩
    have hle := hat.le
    have hp := (Te.sort l).sz_pos
    simp only [spec_l06Open.f]
    rw [if_pos (by omega), if_pos (by omega), hat.root]
    rfl
  | con n l _ _ _ =>
    intro b K hat hK
    obtain ⟨K, rfl⟩ : ∃ m, K = m + 1 := ⟨K - 1, by omega⟩
    have hle := hat.le
    have hp := (Te.con n l).sz_pos
    simp only [spec_l06Open.f]
    rw [if_pos (by omega), if_pos (by omega), hat.root]
    rfl
  | two k x y hk hx hy ihx ihy =>
    intro b K hat hK
    obtain ⟨K, rfl⟩ : ∃ m, K = m + 1 := ⟨K - 1, by omega⟩
    have hle := hat.le
    have hsz : (Te.two k x y).sz = x.sz + y.sz + 1 := rfl
    have px := x.sz_pos
    have py := y.sz_pos
    have ox := opn_le hx
    have oy := opn_le hy
    simp only [spec_l06Open.f]
    rw [if_pos (by omega), if_pos (by omega), hat.root]
    have i1 : spec_l06Open.f K nodes (rootN (Te.two k x y) b).f1 = some (opn x) := ihx b K hat.two_x (by omega)
    have i2 : spec_l06Open.f K nodes (rootN (Te.two k x y) b).f2 = some (opn y) := ihy (b + x.sz) K hat.two_y (by omega)
    have hr : (rootN (Te.two k x y) b).f0 = k := rfl
    obtain ⟨g1, g2, g3, g4⟩ := two_kind hk
    rw [if_neg (by rw [hr]; exact g1), if_neg (by rw [hr]; exact g2), if_neg (by rw [hr]; exact g3), i1, Option.bind_some, i2, Option.bind_some, if_neg (by rw [hr]; exact g4)]
    obtain ⟨K, rfl⟩ : ∃ m, K = m + 3 := ⟨K - 3, by omega⟩
    rw [open_j0 _ _ _ _ _ _ _ _ _ _ _ oy.1 oy.2, hr]
    simp only [opn]
    congr 1
    unfold bI
    split <;> omega
  | three x y z hx hy hz ihx ihy ihz =>
    intro b K hat hK
    obtain ⟨K, rfl⟩ : ∃ m, K = m + 1 := ⟨K - 1, by omega⟩
    have hle := hat.le
    have hsz : (Te.three x y z).sz = x.sz + y.sz + z.sz + 1 := rfl
    have px := x.sz_pos
    have py := y.sz_pos
    have pz := z.sz_pos
    have ox := opn_le hx
    have oy := opn_le hy
    have oz := opn_le hz
    simp only [spec_l06Open.f]
    rw [if_pos (by omega), if_pos (by omega), hat.root]
    have i1 : spec_l06Open.f K nodes (rootN (Te.three x y z) b).f1 = some (opn x) := ihx b K hat.three_x (by omega)
    have i2 : spec_l06Open.f K nodes (rootN (Te.three x y z) b).f2 = some (opn y) := ihy (b + x.sz) K hat.three_y (by omega)
    have i3 : spec_l06Open.f K nodes (rootN (Te.three x y z) b).f3 = some (opn z) := ihz (b + x.sz + y.sz) K hat.three_z (by omega)
    have hr : (rootN (Te.three x y z) b).f0 = 116 := rfl
    have e : wrap64 (opn z - 1) = opn z - 1 := by unfold wrap64; omega
    rw [if_neg (by rw [hr]; decide), if_neg (by rw [hr]; decide), if_neg (by rw [hr]; decide), i1, Option.bind_some, i2, Option.bind_some, if_pos hr, i3, Option.bind_some, e]
    obtain ⟨K, rfl⟩ : ∃ m, K = m + 3 := ⟨K - 3, by omega⟩
    rw [open_j0 _ _ _ _ _ _ _ _ _ _ _ oy.1 oy.2, hr, show bI 116 1 = 0 from rfl, Int.sub_zero]
    rfl
theorem brought_is (k : Nat) (x : Int) (h0 : 0 ≤ x) (h1 : x ≤ 1000) : spec_Brought.f (k + 5) x 0 1000 = some x := by
  unfold spec_Brought.f
  rw [if_neg (by decide), decide_eq_false (by omega)]
  simp only [spec_Brought.j0]
  first
    | (rw [if_neg (by decide), if_neg (by omega)])
    | (simp; omega)
theorem FnExactTermOpen : laws_FnExactTermOpen.Pure := fun a0 hB => by
  refine ⟨3000, ?_⟩
  unfold laws_FnExactTermOpen.f spec_TermOpen.f impl_TermOpen.f spec_l06All.f
  by_cases h : (a0.size : Int) > 1048576
  · rw [if_pos h]
  · rw [if_neg h, if_pos hB, if_pos hB]
    cases hx : parseT a0 with
    | none => simp [nodes_none hx]
    | some t =>
      have hz := te_sz hx
      have hok := te_ok hx
      have hp := t.sz_pos
      have ho := opn_le hok
      have hl : (flat t 0).length = t.sz := flat_length t 0
      have e1 : wrap64 ((t.sz : Int) - 1) = ((0 + t.sz - 1 : Nat) : Int) := by unfold wrap64; omega
      rw [nodes_some hx]
      simp only [Option.bind_some]
      rw [hl, if_neg (by omega), e1, spec_open (flat t 0) (by omega) t hok 0 3000 (At.whole t) (by omega), Option.bind_some, brought_is 2995 _ ho.1 ho.2]
      simp only [Option.bind_some]
      rw [show max 0 (opn t) = opn t from by omega]
      simp
end Go.Proofs.YtefiapcfdabfpaaDoor.Pure

namespace Go.Proofs.YtefiapcfdabfpaaDoor.fnExactTermOpen
open Go.ChangeShapes Go.WideShapes Go.ChangeAt Go.RowKit
open Go.ChangeMaps (open_string shut_string)
set_option linter.unusedVariables false
theorem laid_met (os : Os) (args : Array Value) : laidMet Tryd.prog Rows.fnExactTermOpenRow.laid ((laidWorld os).forCall (fun _ _ => 0) ⟨#[], args, []⟩).memory :=
  (LaidIn.of_run [6, 7, 3, 5, 2, N0 + 1, 1, N0 + 0, 4] 8 (by kernel_rfl) (by kernel_rfl) (by kernel_rfl) (by kernel_rfl)).met
theorem witness_row (os : Os) {H : Type} (enc : TypeId × Value → H) :
    (OpenSpec.ofChange Rows.fnExactTermOpenSpec).preRow enc Tryd.prog Tryd.f8 Rows.fnExactTermOpenRow.domain false Rows.fnExactTermOpenRow.laid ((laidWorld os).forCall (fun _ _ => 0) ⟨#[], #[.string ⟨#[]⟩], []⟩).memory #[.string ⟨#[]⟩] := by
  have hw : (DataW.whole enc Tryd.prog ((laidWorld os).forCall (fun _ _ => 0) ⟨#[], #[.string ⟨#[]⟩], []⟩).memory Tryd.f8.params.toList (OpenSpec.ofChange Rows.fnExactTermOpenSpec).vars false (#[.string ⟨#[]⟩] : Array Value).toList 8).map (fun x => (x.1, x.2.1)) =
      some ([.lit (.string [])], []) := by kernel_rfl
  obtain ⟨⟨x1, x2, x3⟩, hx, hx1⟩ := Option.map_eq_some_iff.1 hw
  simp only [Prod.mk.injEq] at hx1
  obtain ⟨rfl, rfl⟩ := hx1
  exact OpenSpec.preRow_of_cond 8 hx (by kernel_rfl) (fun k hk => by cases hk) (by kernel_rfl) (laid_met os _)
set_option maxRecDepth 100000 in
theorem lifted (os : Os) (started : os.Started) (H : Type) (enc : TypeId × Value → H) (F : Stop.Interp) :
    ReturnsInHanded {} Tryd.checked os 8 .any ((OpenSpec.ofChange Rows.fnExactTermOpenSpec).preRow enc Tryd.prog Tryd.f8 Rows.fnExactTermOpenRow.domain false Rows.fnExactTermOpenRow.laid) (((OpenSpec.ofChange Rows.fnExactTermOpenSpec).at F).post enc Tryd.prog Tryd.f8 false true false false) := by
  refine returnsInHanded_of_row (C := Tryd.checked) (s := (OpenSpec.ofChange Rows.fnExactTermOpenSpec)) own started (by kernel_rfl) Tryd.func8
    (witness_row_atRef (enc := enc) (C := Tryd.checked) false (laidWorld os) #[.string ⟨#[]⟩] rfl (by kernel_rfl) (by kernel_rfl) (by kernel_rfl) (witness_row os enc)) ?_
  intro W base args ds gs before hval0 hW hcnd0 _ hsz0 hL hsh _
  have hsz : (DataW.weightsEach Tryd.prog (Tryd.f8.params.toList ++ Rows.fnExactTermOpenSpec.plain.varTypes Tryd.prog) (ds ++ gs)).all (· ≤ reachBytes) = true := hsz0
  have hval : ∀ (j : Nat) t v, Tryd.f8.params[j]? = some t → args[j]? = some v → Value.okWide Tryd.prog W .any base t v := hval0
  have hW' := hW
  obtain ⟨p, q, hA0, hV0, rfl, hfz, hnd⟩ := hW
  have hA : DataW.TrodAll enc Tryd.prog W 0 (fun _ => true) true Tryd.f8.params.toList args.toList ds p := hA0
  rw [Tryd.params8] at hA hval hsz
  obtain ⟨v0, vs0, d0, ds0, p0, q0, hargs, rfl, rfl, h0, r0⟩ := trodAll_cons hA
  obtain ⟨rfl, rfl, rfl⟩ := trodAll_nil r0
  obtain rfl : args = #[v0] := by cases args; simp_all
  obtain ⟨rfl, rfl⟩ := trodVars_none hV0
  obtain ⟨a0, rfl, rfl, rfl, y0⟩ := open_string Tryd.underlying9 (hval 0 9 v0 rfl rfl) h0
  have w0 : a0.size ≤ 140737488351232 := by
    have z := sized_string hsz (j := 0) (t := 9) rfl rfl
    rw [Array.length_toList] at z
    exact z
  clear hA0 hval0 hsz0 hsz hV0
  have hL' : laidMet Tryd.prog [("math/bits.deBruijn32tab", Rows.laid_math_bits_deBruijn32tab), ("math/bits.deBruijn64tab", Rows.laid_math_bits_deBruijn64tab), ("internal/strconv.uint64pow10", Rows.laid_internal_strconv_uint64pow10), ("unicode/utf8.acceptRanges", Rows.laid_unicode_utf8_acceptRanges), ("strconv.ErrRange", Rows.laid_strconv_ErrRange), ("strconv.ErrSyntax", Rows.laid_strconv_ErrSyntax), ("unicode/utf8.first", Rows.laid_unicode_utf8_first)] W := hL
  have hEA : P.EnvA W := ⟨sent1 hL'.tail.tail.tail.tail.tail, sent2 hL'.tail.tail.tail.tail⟩
  have hEI := envI hL'.tail.tail
  have hEM := envM hsh
  refine (P.laws_FnExactTermOpen.walk Pure.FnExactTermOpen a0 W w0 hEA hEI hEM).mono fun e W' ⟨he, bel⟩ => ?_
  subst he
  exact ⟨_, rfl, _, _, _, [], _, [], hW', trodAll_mk1 (shut_bool Tryd.underlying4 _), (trodAll_cons_mk (shut_string Tryd.underlying9 y0) trodAll_mk0), rfl, bel.frame _, fun h => by cases h⟩
theorem over : Rows.fnExactTermOpenRow.holds Tryd.pinned (OpenSpec.ofChange Rows.fnExactTermOpenSpec) :=
  OpenClaim.holds_of_cond 8 Tryd.f8 rfl rfl rfl rfl rfl rfl rfl ⟨rfl, rfl, rfl, rfl, rfl⟩ rfl rfl rfl rfl rfl (by kernel_rfl) Tryd.func8 (by kernel_rfl)
    (of_decide_eq_true (by kernel_rfl)) (by unfold Func.isWrapper; first | (rw [if_pos (by decide +kernel)]; kernel_rfl) | (rw [if_neg (by decide +kernel)]; exact ⟨rfl, rfl⟩))
    (fun os started H enc _ F => by rw [OpenClaim.pre_eq_preRow]; exact lifted os started H enc F)
theorem card_holds : Rows.FnExactTermOpenCardSaid :=
  Claim7.holds_tied_plain_at .later [] [.data, .data, .data, .data, .sentinel, .sentinel, .pinned] true (true, "297631d8dead1c04a6edc8b3a8afb5f08cb01dbc377d63fc3ce3fc1c49af5030") true
    over (fun _ h => by cases h) (by kernel_rfl) (fun _ h => by cases h) fnExactTermOpen_row_tie rfl ⟨rfl, rfl⟩ (by kernel_rfl) rfl
    (fun f fn hf hfn => by
      obtain rfl : f = 8 := Option.some.inj ((show Tryd.prog.funcNamed "loop.example/g00963/laws.FnExactTermOpen" = some 8 by kernel_rfl).symm.trans hf) |>.symm
      obtain rfl : fn = Tryd.f8 := (Option.some.inj (Tryd.func8.symm.trans hfn)).symm
      exact ⟨by kernel_rfl, fun j t ht => by
        rw [Tryd.params8] at ht
        have hm : t = 9 := by
          rcases j with _ | j
          · have := ht.symm; simp at this; omega
          · simp at ht
        rcases hm with rfl
        · exact (show Tryd.prog.wantsStandIn 9 = false by kernel_rfl)⟩)
    (by kernel_rfl)
end Go.Proofs.YtefiapcfdabfpaaDoor.fnExactTermOpen
namespace Go.Proofs.YtefiapcfdabfpaaDoor
/-- The tied card, under a short name, for the claim. -/
theorem fnExactTermOpen_holds : Rows.FnExactTermOpenCardSaid := fnExactTermOpen.card_holds
end Go.Proofs.YtefiapcfdabfpaaDoor
