/- The row of laws.FnExactTermOk and its tied card: for every input the law returns true, and the arguments read afterwards as before. Written by wip/tools/card.py. -/
import Derived.Test.YtefiapcfdabfpaaDoorKFnExactTermOk2
import Derived.Test.YtefiapcfdabfpaaDoorKFnExactTermOk1
import Derived.Test.YtefiapcfdabfpaaDoorCards
import Derived.Test.YtefiapcfdabfpaaDoorTie
import Derived.SevenTiedAt
namespace Go.Proofs.YtefiapcfdabfpaaDoor.P
open Go.RowKit Go.Proofs.YtefiapcfdabfpaaDoorW.PrintWords Go.Proofs.YtefiapcfdabfpaaDoorW.PrintLast Go.Proofs.YtefiapcfdabfpaaDoorW.PrintMore
set_option maxRecDepth 100000
set_option maxHeartbeats 8000000
/-- The loop over the levels. -/
structure AtL2 (s : ByteArray) (w : World) (name : ByteArray) (p0 m : Nat) (w' : World) (acc : List ByteArray) (v : Value) (p k : Nat) : Prop where
  nd : Nd w' (w.heap.size + 1) 99 0 name v
  r : Nd w' w.heap.size 0 0 ⟨#[]⟩ (.slice none 0 0)
  row : Kd.R Kd.string 9 w' w.heap.size (fun b => b ≠ w.heap.size ∧ b ≠ w.heap.size + 1) v acc
  b : Below w.heap.size w w'
  rest : lvs s (s.size + 1) p0 = (lvs s k p).map fun q => (acc ++ q.1, q.2)
  le : p ≤ s.size
  fuel : s.size - p < k
  len : acc.length ≤ 3
  meas : s.size - p ≤ m
theorem AtL2.below {s : ByteArray} {w : World} {name : ByteArray} {p0 m : Nat} {w' w3 : World} {acc : List ByteArray} {v : Value} {p k : Nat} (h : AtL2 s w name p0 m w' acc v p k) (hb : Below w'.heap.size w' w3) : AtL2 s w name p0 m w3 acc v p k :=
  ⟨h.nd.old (hb.block _ h.nd.lt), h.r.old (hb.block _ h.r.lt), Kd.R_below h.row hb, below_step h.b hb, h.rest, h.le, h.fuel, h.len, h.meas⟩
/-- A level more. -/
theorem AtL2.more {s : ByteArray} {w : World} {name : ByteArray} {p0 m : Nat} {w3 w4 : World} {acc : List ByteArray} {v v1 : Value} {p k e : Nat} (h : AtL2 s w name p0 m w3 acc v p (k + 1)) (hp : p < s.size) (hb : bt s (p : Int) ≠ 46) (he : lvAt s 44 p = some e) (hlen : acc.length < 3)
    (hg : w3.grownBy w4 v.ownBlock) (hat : v1.ownBlock = v.ownBlock ∨ ∃ b, v1.ownBlock = some b ∧ w3.heap.size ≤ b) (hR : Kd.R Kd.string 9 w4 w.heap.size (fun b => b ≠ w.heap.size ∧ b ≠ w.heap.size + 1) v1 (acc ++ [s.extract p e])) :
    AtL2 s w name p0 (s.size - (e + 1)) (w4.setCell ⟨w.heap.size + 1, 6, none⟩ v1) (acc ++ [s.extract p e]) v1 (e + 1) k := by
  have hge := lvAt_ge he h.le
  have hv : ∀ b, v.ownBlock = some b → b ≠ w.heap.size ∧ b ≠ w.heap.size + 1 := fun b hb => h.row.1 b hb
  have n4 := h.nd.old (hg.block _ h.nd.lt (fun e => (hv _ e.symm).2 rfl))
  have r4 := h.r.old (hg.block _ h.r.lt (fun e => (hv _ e.symm).1 rfl))
  have b4 : Below w.heap.size w w4 := h.b.trans ⟨hg.os, hg.tape, hg.output, hg.size, fun b hb => hg.block b (Nat.lt_of_lt_of_le hb h.b.size) (fun e => by have := Kd.R_base h.row _ e.symm; omega)⟩
  refine ⟨n4.set6 v1, r4.old (set_heap _ _ _ _ _ (by omega)), Kd.R_far hR (fun b hb => hb.2) _, b4.setCell (p := ⟨w.heap.size + 1, 6, none⟩) (Nat.le_succ _) _, ?_, by omega, by have := h.fuel; omega, by simp; omega, Nat.le_refl _⟩
  rw [h.rest, show lvs s (k + 1) p = if p < s.size then (if bt s (p : Int) = 46 then some ([], p) else (lvAt s 44 p).bind fun e => (lvs s k (e + 1)).map fun r => (s.extract p e :: r.1, r.2)) else none from rfl, if_pos hp, if_neg hb, he]
  simp only [Option.bind_some, Option.map_map, Function.comp_def, List.append_assoc, List.singleton_append]
theorem leaf_con (s : ByteArray) (a : Nat) (w : World) (hs : s.size ≤ 2000) (hlt : a < s.size) (hk : bt s (a : Int) = 99) :
    Calls Tryd.prog 81 #[.string s, .int .i64 (a : Int)] w (LeafP w (leafX (rdC s (a + 1)))) := by
  have hb : ((s[a]'hlt).toNat : Int) = 99 := by rw [← hk]; exact bt_at s a hlt
  have hNm : ∀ p, p ≤ s.size → ∃ b, spec_NameOk.f 1000 (s.extract (a + 1) p) = some b ∧ impl_NameOk.f (s.extract (a + 1) p) = some b := fun p hp =>
    have hz : (s.extract (a + 1) p).size ≤ 140737488351232 := by rw [ByteArray.size_extract]; omega
    ⟨_, Pure.specName_is _ 1000 (by omega), Pure.implName_is _ hz⟩
  have hX0 : rdC s (a + 1) = rdC s (a + 1) := rfl
  generalize hX : rdC s (a + 1) = X at hX0 ⊢
  clear hX0
  have hX' := Aside0.mk hX
  clear hk hX
  go_enter Tryd.func81, Tryd.ntmps81
  go_wp2
  go_loopg [8] (s.size + 1) (fun m v8 w' => ∃ p : Nat, v8 = .int .i64 (p : Int) ∧ a + 1 ≤ p ∧ p ≤ s.size ∧ p ≤ a + 42 ∧ s.size + 1 - p ≤ m ∧ Aside0 (∀ j, a + 1 ≤ j → j < p → bt s (j : Int) ≠ 59) ∧ w' = L0 w 99)
  case atStart => exact ⟨a + 1, rfl, Nat.le_refl _, by omega, by omega, by omega, ⟨fun j h1 h2 => by omega⟩, rfl⟩
  case round =>
    obtain ⟨p, rfl, hp1, hp2, hp3, hm, hA, rfl⟩ := hrel
    have hL0 := lf_of (Below.refl (L0 w 99).heap.size (L0 w 99))
    by_cases h1 : p < s.size
    · by_cases h2 : bt s (p : Int) = 59
      · have hx : (((s[p]'h1).toNat : Int) != 59) = false := bne_eq_false_iff_eq.mpr ((bt_at s p h1).trans h2)
        obtain ⟨b, hn1, hn2⟩ := hNm p hp2
        have hN := fun w1 (h : Below w.heap.size w w1) => spec_NameOk.calls 1000 (s.extract (a + 1) p) b w1 hn1
        have hidx := idx_is s 59 (a + 1) p (by omega) hp1 h1 h2 hA.out
        have hXe : X = (lvs s (s.size + 1) (p + 1)).bind fun q => if b = true ∧ q.1.length ≤ 3 then some (.con (s.extract (a + 1) p) q.1, q.2 + 1) else none := by
          rw [← hX'.out]
          unfold rdC
          rw [show ((59 : Nat) : Int) = 59 from rfl] at hidx
          rw [hidx, if_pos (by omega), Int.toNat_natCast, show a + 1 + (p - (a + 1)) = p from by omega, hn2]
          rfl
        have hb40 : b = true → p < a + 42 := fun hbt => by
          rcases Nat.lt_or_ge p (a + 42) with h | h
          · exact h
          · have h5 := name_long (s.extract (a + 1) p) (by rw [ByteArray.size_extract]; omega) (by rw [ByteArray.size_extract]; omega)
            rw [hn2, hbt] at h5
            cases h5
        cases b
        · have hXn : X = none := by rw [hXe]; cases lvs s (s.size + 1) (p + 1) <;> simp
          subst hXn
          clear hXe hX' hn1 hn2 hidx hb40
          by_cases h3 : p < a + 42
          · have h3i : (p : Int) < (a : Int) + 40 + 2 := by omega
            have h3j : (p : Int) < (a : Int) + 42 := by omega
            clear h2 hNm hA hm hL0
            go_wp2_with (first | (go_at_call 100; refine (hN _ (L0_below w 99)).mono ?_; rintro e w2 ⟨rfl, hb2⟩; have hL := lf_of (k := 99) hb2; clear hb2; obtain ⟨x0, x1, x2, x3, x4, x5, x6⟩ := hL.n.cells; have hR := hL.r; obtain ⟨y0, y1, y2, y3, y4, y5, y6⟩ := hR.cells; have fR := hR.f))
            have hF := fillN_nd hR 99 0 ⟨#[]⟩ (.slice none 0 0)
            have hFb := fillN_below hL.b w.heap.size (Nat.le_refl _) 99 0 ⟨#[]⟩ (.slice none 0 0)
            obtain ⟨z0, z1, z2, z3, z4, z5, z6⟩ := hF.cells
            refine bodyPost_ret (v := .tuple #[.agg #[.int .u8 99, .int .i64 0, .int .i64 0, .int .i64 0, .int .i64 0, .string ⟨#[]⟩, (.slice none 0 0)], .int .i64 (-1)]) ?_ rfl ?_
            · unfold fillN at z0 z1 z2 z3 z4 z5 z6
              clear hF hFb
              simp [results, Tryd.results81, go_sem, z0, z1, z2, z3, z4, z5, z6]
            · exact ⟨hFb, _, _, _, _, _, _, rfl⟩
          · have h3i : ¬ (p : Int) < (a : Int) + 40 + 2 := by omega
            have h3j : ¬ (p : Int) < (a : Int) + 42 := by omega
            clear h2 hNm hA hm hL0 h3
            go_wp2_with (first | (go_at_call 100; refine (hN _ (L0_below w 99)).mono ?_; rintro e w2 ⟨rfl, hb2⟩; have hL := lf_of (k := 99) hb2; clear hb2; obtain ⟨x0, x1, x2, x3, x4, x5, x6⟩ := hL.n.cells; have hR := hL.r; obtain ⟨y0, y1, y2, y3, y4, y5, y6⟩ := hR.cells; have fR := hR.f))
            have hF := fillN_nd hR 99 0 ⟨#[]⟩ (.slice none 0 0)
            have hFb := fillN_below hL.b w.heap.size (Nat.le_refl _) 99 0 ⟨#[]⟩ (.slice none 0 0)
            obtain ⟨z0, z1, z2, z3, z4, z5, z6⟩ := hF.cells
            refine bodyPost_ret (v := .tuple #[.agg #[.int .u8 99, .int .i64 0, .int .i64 0, .int .i64 0, .int .i64 0, .string ⟨#[]⟩, (.slice none 0 0)], .int .i64 (-1)]) ?_ rfl ?_
            · unfold fillN at z0 z1 z2 z3 z4 z5 z6
              clear hF hFb
              simp [results, Tryd.results81, go_sem, z0, z1, z2, z3, z4, z5, z6]
            · exact ⟨hFb, _, _, _, _, _, _, rfl⟩
        · have h3 := hb40 rfl
          have hXe1 : X = (lvs s (s.size + 1) (p + 1)).bind fun q => if q.1.length ≤ 3 then some (.con (s.extract (a + 1) p) q.1, q.2 + 1) else none := by rw [hXe]; simp
          have hXe' := Aside0.mk hXe1
          clear hXe1
          have h3i : (p : Int) < (a : Int) + 40 + 2 := by omega
          have h3j : (p : Int) < (a : Int) + 42 := by omega
          have h1n : ¬ s.size ≤ p := by omega
          clear h2 hn1 hn2 hNm hidx hXe hX' hA hm hL0 hb40
          go_wp2_with (first | (go_at_call 100; refine (hN _ (L0_below w 99)).mono ?_; rintro e w2 ⟨rfl, hb2⟩; have hL := lf_of (k := 99) hb2; clear hb2; have f5 := hL.n.f 5; have x5 := hL.n.cells.2.2.2.2.2.1))
          have hat : AtL2 s w (s.extract (a + 1) p) (p + 1) (s.size - (p + 1)) (w2.setCell ⟨w.heap.size + 1, 5, none⟩ (.string (s.extract (a + 1) p))) [] (.slice none 0 0) (p + 1) (s.size + 1) :=
            ⟨hL.n.set5 _, hL.r.old (set_heap _ _ _ _ _ (by omega)), Kd.R_nil _ _ _ _ _, hL.b.setCell (p := ⟨w.heap.size + 1, 5, none⟩) (Nat.le_succ _) _, by simp, by omega, by omega, by simp, Nat.le_refl _⟩
          clear hL f5 x5 hN h3i h3j hx h3
          generalize s.extract (a + 1) p = name at hat hXe' ⊢
          go_loopg [7] (s.size - (p + 1)) (fun m v7 w' => ∃ acc v q k, v7 = .int .i64 ((q : Nat) : Int) ∧ AtL2 s w name (p + 1) m w' acc v q k)
          case atStart => exact ⟨[], _, p + 1, _, rfl, hat⟩
          case round =>
            obtain ⟨acc, v, q, k, rfl, hQ⟩ := hrel
            clear hat
            obtain ⟨k, rfl⟩ : ∃ m, k = m + 1 := ⟨k - 1, by have := hQ.fuel; omega⟩
            have hrest := hQ.rest
            rw [show lvs s (k + 1) q = if q < s.size then (if bt s (q : Int) = 46 then some ([], q) else (lvAt s 44 q).bind fun e => (lvs s k (e + 1)).map fun r => (s.extract q e :: r.1, r.2)) else none from rfl] at hrest
            obtain ⟨A, c, rfl⟩ := Kd.R_slice hQ.row
            by_cases g1 : q < s.size
            · rw [if_pos g1] at hrest
              by_cases g2 : bt s (q : Int) = 46
              · have hx : (((s[q]'g1).toNat : Int) != 46) = false := bne_eq_false_iff_eq.mpr ((bt_at s q g1).trans g2)
                rw [if_pos g2] at hrest
                have hXs : X = some (.con name acc, q + 1) := by
                  rw [hXe'.out, hrest]
                  have := hQ.len
                  simp
                  omega
                subst hXs
                obtain ⟨x0, x1, x2, x3, x4, x5, x6⟩ := hQ.nd.cells
                have hR := hQ.r
                have hbq := hQ.b
                have hrow := Aside0.mk hQ.row
                obtain ⟨y0, y1, y2, y3, y4, y5, y6⟩ := hR.cells
                have fR := hR.f
                clear hrest hXe' g2 hQ
                go_wp2
                have hF := fillN_nd hR 99 0 name (.slice A acc.length c)
                have hFb := fillN_below hbq w.heap.size (Nat.le_refl _) 99 0 name (.slice A acc.length c)
                obtain ⟨z0, z1, z2, z3, z4, z5, z6⟩ := hF.cells
                refine bodyPost_ret (v := .tuple #[.agg #[.int .u8 99, .int .i64 0, .int .i64 0, .int .i64 0, .int .i64 0, .string name, (.slice A acc.length c)], .int .i64 (((q + 1 : Nat) : Int))]) ?_ rfl ?_
                · unfold fillN at z0 z1 z2 z3 z4 z5 z6
                  clear hF hFb
                  simp [results, Tryd.results81, go_sem, z0, z1, z2, z3, z4, z5, z6]
                · exact ⟨hFb, _, rfl, Kd.R_mono (Kd.R_step hrow.out (fun b hb1 _ => fillN_heap _ _ _ _ _ _ b hb1.1)) (fun _ _ => trivial)⟩
              · have hx : (((s[q]'g1).toNat : Int) != 46) = true := bne_iff_ne.mpr (fun h => g2 ((bt_at s q g1).symm.trans h))
                rw [if_neg g2] at hrest
                have hLv := fun w1 => (spec_l06Level.calls 10000 s (q : Int) _ w1 (spec_l06Level_is s q 10000 (by omega) hQ.le (by omega))).mono fun e w' h => (⟨h.1, below_drawn0 h.2⟩ : e = .returned (.int .i64 (endI ((lvEnd s q).bind fun e => if e - q ≤ 60 then some e else none))) ∧ Below w1.heap.size w1 w')
                have hFail : lvAt s 44 q = none → X = none := fun h => by rw [hXe'.out, hrest, h]; rfl
                have hFail3 : 3 ≤ acc.length → X = none := fun h => by
                  rw [hXe'.out, hrest]
                  cases lvAt s 44 q with
                  | none => rfl
                  | some e =>
                    cases h9 : lvs s k (e + 1) with
                    | none => simp [h9]
                    | some r => simp [h9]; omega
                cases hl0 : (lvEnd s q).bind fun e => if e - q ≤ 60 then some e else none with
                | none =>
                  have hXn : X = none := hFail (by
                    unfold lvAt
                    cases h5 : lvEnd s q with
                    | none => rfl
                    | some e =>
                      rw [h5, Option.bind_some] at hl0
                      rw [Option.bind_some, if_neg]
                      intro h6
                      rw [if_pos h6.2.2] at hl0
                      cases hl0)
                  subst hXn
                  rw [hl0] at hLv
                  have hQ' := Aside0.mk hQ
                  clear hrest hXe' g2 hFail hFail3 hl0 hQ
                  simp only [endI] at hLv
                  go_wp2_with (first | (go_at_call 99; refine (hLv _).mono ?_; rintro ex w3 ⟨rfl, hb3⟩; have hQ3 := Aside0.mk (hQ'.out.below hb3); clear hb3; obtain ⟨x0, x1, x2, x3, x4, x5, x6⟩ := hQ3.out.nd.cells; have hR := hQ3.out.r; obtain ⟨y0, y1, y2, y3, y4, y5, y6⟩ := hR.cells; have fR := hR.f))
                  have hF := fillN_nd hR 99 0 name (.slice A acc.length c)
                  have hFb := fillN_below hQ3.out.b w.heap.size (Nat.le_refl _) 99 0 name (.slice A acc.length c)
                  obtain ⟨z0, z1, z2, z3, z4, z5, z6⟩ := hF.cells
                  refine bodyPost_ret (v := .tuple #[.agg #[.int .u8 99, .int .i64 0, .int .i64 0, .int .i64 0, .int .i64 0, .string name, (.slice A acc.length c)], .int .i64 (-1)]) ?_ rfl ?_
                  · unfold fillN at z0 z1 z2 z3 z4 z5 z6
                    clear hF hFb
                    simp [results, Tryd.results81, go_sem, z0, z1, z2, z3, z4, z5, z6]
                  · exact ⟨hFb, _, _, _, _, _, _, rfl⟩
                | some e =>
                  rw [hl0] at hLv
                  obtain ⟨e', he1, he2⟩ := Option.bind_eq_some_iff.mp hl0
                  by_cases h60 : e' - q ≤ 60
                  · rw [if_pos h60] at he2
                    obtain rfl := Option.some.inj he2
                    have hge := lvE_ge s _ _ _ _ he1 hQ.le
                    have hlva : lvAt s 44 q = if e' < s.size ∧ bt s (e' : Int) = 44 ∧ e' - q ≤ 60 then some e' else none := by unfold lvAt; rw [he1]; rfl
                    clear hl0 he2 he1
                    by_cases j1 : e' < s.size
                    · by_cases j2 : bt s (e' : Int) = 44
                      · have hxe : (((s[e']'j1).toNat : Int) != 44) = false := bne_eq_false_iff_eq.mpr ((bt_at s e' j1).trans j2)
                        rw [if_pos ⟨j1, j2, h60⟩] at hlva
                        by_cases j3 : acc.length < 3
                        · have j3i : (acc.length : Int) < 3 := by omega
                          have hQ' := Aside0.mk hQ
                          have g2' := Aside0.mk g2
                          have hlva' := Aside0.mk hlva
                          clear hrest g2 hFail hFail3 hQ hlva j2
                          simp only [endI] at hLv
                          go_wp2_with (first | (go_at_call 99; refine (hLv _).mono ?_; rintro ex w3 ⟨rfl, hb3⟩; have hQ3 := Aside0.mk (hQ'.out.below hb3); clear hb3; obtain ⟨x0, x1, x2, x3, x4, x5, x6⟩ := hQ3.out.nd.cells; have hR := hQ3.out.r; obtain ⟨y0, y1, y2, y3, y4, y5, y6⟩ := hR.cells; have fR := hR.f))
                          have hslc : (q : Int) ≤ (e' : Int) := by omega
                          have hQd := Aside0.mk (hQ3.out.below (below_drew (Below.refl _ _)))
                          refine start_ (n := 10) (S := fun w' => w'.cell? ⟨w.heap.size + 1, 6, none⟩ = some (.slice A acc.length c)) (ds := [9]) #[false, false, false, false, false, false, false, false, false, false] (by kernel_rfl) rfl rfl (hQd.out.nd.cells.2.2.2.2.2.2) (fun hHeld => ?_)
                          refine pure_ (i := 0) (N := some 130) (v := ?_) (a' := ?_) #[true, false, false, false, false, false, false, false, false, false] rfl rfl (by kernel_rfl) (fun _ _ _ h => h) (Or.inl ⟨by rfl, ?_⟩) ?_ ?_
                          rotate_left
                          · intro w'
                            go_simp
                            with_reducible rfl
                          rotate_left
                          · simp only [Act.put, List.setIfInBounds_toArray, List.set_cons_zero, List.set_cons_succ, i64_w, i32_w]
                            rfl
                          refine pure_ (i := 2) (N := some 132) (v := ?_) (a' := ?_) #[true, false, true, false, false, false, false, false, false, false] rfl rfl (by kernel_rfl) (fun _ _ _ h => h) (Or.inl ⟨by rfl, ?_⟩) ?_ ?_
                          rotate_left
                          · intro w'
                            go_simp
                            with_reducible rfl
                          rotate_left
                          · simp only [Act.put, List.setIfInBounds_toArray, List.set_cons_zero, List.set_cons_succ, i64_w, i32_w]
                            rfl
                          refine pure_ (i := 3) (N := some 133) (v := ?_) (a' := ?_) #[true, false, true, true, false, false, false, false, false, false] rfl rfl (by kernel_rfl) (fun _ _ _ h => h) (Or.inl ⟨by rfl, ?_⟩) ?_ ?_
                          rotate_left
                          · intro w'
                            go_simp
                            with_reducible rfl
                          rotate_left
                          · simp only [Act.put, List.setIfInBounds_toArray, List.set_cons_zero, List.set_cons_succ, i64_w, i32_w]
                            rfl
                          refine pure_ (i := 4) (N := some 134) (v := ?_) (a' := ?_) #[true, false, true, true, true, false, false, false, false, false] rfl rfl (by kernel_rfl) (fun _ _ _ h => h) (Or.inl ⟨by rfl, ?_⟩) ?_ ?_
                          rotate_left
                          · intro w'
                            go_simp
                            with_reducible rfl
                          rotate_left
                          · simp only [Act.put, List.setIfInBounds_toArray, List.set_cons_zero, List.set_cons_succ, i64_w, i32_w]
                            rfl
                          refine pure_ (i := 5) (N := some 135) (v := ?_) (a' := ?_) #[true, false, true, true, true, true, false, false, false, false] rfl rfl (by kernel_rfl) (fun _ _ _ h => h) (Or.inl ⟨by rfl, ?_⟩) ?_ ?_
                          rotate_left
                          · intro w'
                            go_simp
                            with_reducible rfl
                          rotate_left
                          · simp only [Act.put, List.setIfInBounds_toArray, List.set_cons_zero, List.set_cons_succ, i64_w, i32_w]
                            rfl
                          refine take_ (i := 1) (N := some 131) (v := ?_) (a' := ?_) #[true, true, true, true, true, true, false, false, false, false] rfl rfl (by kernel_rfl) (fun _ _ _ h => h) (Or.inl ⟨by rfl, ?_⟩) hHeld ?_ ?_
                          rotate_left
                          · intro w' s0
                            go_simp
                            with_reducible rfl
                          rotate_left
                          · simp only [Act.put, List.setIfInBounds_toArray, List.set_cons_zero, List.set_cons_succ, i64_w, i32_w]
                            rfl
                          refine one_ (i := 6) (N := some 136) #[true, true, true, true, true, true, true, false, false, false] rfl rfl (by kernel_rfl) (by decide) (fun K hK => ?_)
                          refine value_ (w1 := ?_) (v := ?_) (by rfl) rfl ?_ ?_
                          rotate_left 2
                          · go_simp
                            constructor
                            · rfl
                            · rfl
                          refine hK.out _ _ ((cell_heap (alloc_old _ _ _ hQd.out.nd.lt) 6).trans hQd.out.nd.cells.2.2.2.2.2.2) (fun hHeld => ?_)
                          clear hK K
                          refine norm_ (a' := ?_) ?_ ?_
                          rotate_left
                          · show Act.put _ (some 136) _ = _
                            simp only [Act.put, List.setIfInBounds_toArray, List.set_cons_zero, List.set_cons_succ, i64_w, i32_w]
                            rfl
                          refine one_ (i := 7) (N := some 137) #[true, true, true, true, true, true, true, true, false, false] rfl rfl (by kernel_rfl) (by decide) (fun K hK => ?_)
                          refine Kd.R_append_step Kd.string (w0 := w3.drew) w.heap.size (by rfl) (.tmp 131) (.tmp 136) 25 9 (.string ⟨#[]⟩) 16 rfl Tryd.underlying25 info9 rfl (by decide) (by omega) (.slice A acc.length c) acc (s.extract q e') [.string (s.extract q e')] (fun b => b ≠ w.heap.size ∧ b ≠ w.heap.size + 1) (fun _ => False) rfl rfl ?aP (fun _ hk => hk.elim) ?aF hQd.out.row (Below.refl _ _) ?aS ?aL ?_
                          case aP => exact rfl
                          case aF => exact fun k2 hk2 => by have := hQd.out.nd.lt; omega
                          case aS => exact hQd.out.b.size
                          case aL => omega
                          intro v1 w4 hR4 hb4 hg4 hat4
                          obtain ⟨A1, c1, rfl⟩ := Kd.R_slice hR4
                          have hM4 := Aside0.mk (hQd.out.more g1 g2'.out hlva'.out j3 hg4 hat4 hR4)
                          have hN4 := hQd.out.nd.old (hg4.block _ hQd.out.nd.lt (fun e => (hQd.out.row.1 _ e.symm).2 rfl))
                          have n6 := hN4.cells.2.2.2.2.2.2
                          have nf := hN4.f 6
                          clear hb4 hg4 hat4 hN4 hR4
                          refine hK.out _ _ (n6) (fun hHeld => ?_)
                          clear hK K
                          refine norm_ (a' := ?_) ?_ ?_
                          rotate_left
                          · show Act.put _ (some 137) _ = _
                            simp only [Act.put, List.setIfInBounds_toArray, List.set_cons_zero, List.set_cons_succ, i64_w, i32_w]
                            rfl
                          refine pure_ (i := 8) (N := some 138) (v := ?_) (a' := ?_) #[true, true, true, true, true, true, true, true, true, false] rfl rfl (by kernel_rfl) (fun _ _ _ h => h) (Or.inl ⟨by rfl, ?_⟩) ?_ ?_
                          rotate_left
                          · intro w'
                            go_simp
                            with_reducible rfl
                          rotate_left
                          · simp only [Act.put, List.setIfInBounds_toArray, List.set_cons_zero, List.set_cons_succ, i64_w, i32_w]
                            rfl
                          refine last_ (i := 9) (N := none) #[true, true, true, true, true, true, true, true, true, true] rfl rfl (by kernel_rfl) (by decide) (fun K hK => ?_)
                          refine skip_ (w1 := ?_) (by rfl) rfl ?_ ?_
                          rotate_left
                          · go_simp
                            rfl
                          refine hK.out _ _ ?_
                          clear hK K
                          refine done_ (by kernel_rfl) ?_
                          go_wp2
                          go_roundg (s.size - (e' + 1))
                          case measure => have := hQ'.out.meas; omega
                          case rel =>
                            have hL1 : (acc ++ [s.extract q e']).length = acc.length + 1 := by simp
                            rw [hL1] at hM4
                            exact ⟨_, _, e' + 1, _, rfl, hM4.out⟩
                        · have j3i : ¬ (acc.length : Int) < 3 := by omega
                          have hXn : X = none := hFail3 (by omega)
                          subst hXn
                          have hQ' := Aside0.mk hQ
                          clear hrest hXe' g2 hFail hFail3 hQ hlva j2 j3
                          simp only [endI] at hLv
                          go_wp2_with (first | (go_at_call 99; refine (hLv _).mono ?_; rintro ex w3 ⟨rfl, hb3⟩; have hQ3 := Aside0.mk (hQ'.out.below hb3); clear hb3; obtain ⟨x0, x1, x2, x3, x4, x5, x6⟩ := hQ3.out.nd.cells; have hR := hQ3.out.r; obtain ⟨y0, y1, y2, y3, y4, y5, y6⟩ := hR.cells; have fR := hR.f))
                          have hF := fillN_nd hR 99 0 name (.slice A acc.length c)
                          have hFb := fillN_below hQ3.out.b w.heap.size (Nat.le_refl _) 99 0 name (.slice A acc.length c)
                          obtain ⟨z0, z1, z2, z3, z4, z5, z6⟩ := hF.cells
                          refine bodyPost_ret (v := .tuple #[.agg #[.int .u8 99, .int .i64 0, .int .i64 0, .int .i64 0, .int .i64 0, .string name, (.slice A acc.length c)], .int .i64 (-1)]) ?_ rfl ?_
                          · unfold fillN at z0 z1 z2 z3 z4 z5 z6
                            clear hF hFb
                            simp [results, Tryd.results81, go_sem, z0, z1, z2, z3, z4, z5, z6]
                          · exact ⟨hFb, _, _, _, _, _, _, rfl⟩
                      · have hxe : (((s[e']'j1).toNat : Int) != 44) = true := bne_iff_ne.mpr (fun h => j2 ((bt_at s e' j1).symm.trans h))
                        rw [if_neg (fun h => j2 h.2.1)] at hlva
                        have hXn : X = none := hFail hlva
                        subst hXn
                        have hQ' := Aside0.mk hQ
                        clear hrest hXe' g2 hFail hFail3 hQ hlva j2
                        simp only [endI] at hLv
                        go_wp2_with (first | (go_at_call 99; refine (hLv _).mono ?_; rintro ex w3 ⟨rfl, hb3⟩; have hQ3 := Aside0.mk (hQ'.out.below hb3); clear hb3; obtain ⟨x0, x1, x2, x3, x4, x5, x6⟩ := hQ3.out.nd.cells; have hR := hQ3.out.r; obtain ⟨y0, y1, y2, y3, y4, y5, y6⟩ := hR.cells; have fR := hR.f))
                        have hF := fillN_nd hR 99 0 name (.slice A acc.length c)
                        have hFb := fillN_below hQ3.out.b w.heap.size (Nat.le_refl _) 99 0 name (.slice A acc.length c)
                        obtain ⟨z0, z1, z2, z3, z4, z5, z6⟩ := hF.cells
                        refine bodyPost_ret (v := .tuple #[.agg #[.int .u8 99, .int .i64 0, .int .i64 0, .int .i64 0, .int .i64 0, .string name, (.slice A acc.length c)], .int .i64 (-1)]) ?_ rfl ?_
                        · unfold fillN at z0 z1 z2 z3 z4 z5 z6
                          clear hF hFb
                          simp [results, Tryd.results81, go_sem, z0, z1, z2, z3, z4, z5, z6]
                        · exact ⟨hFb, _, _, _, _, _, _, rfl⟩
                    · obtain rfl : e' = s.size := by omega
                      rw [if_neg (fun h => j1 h.1)] at hlva
                      have hXn : X = none := hFail hlva
                      subst hXn
                      have hQ' := Aside0.mk hQ
                      clear hrest hXe' g2 hFail hFail3 hQ hlva j1 hge
                      simp only [endI] at hLv
                      go_wp2_with (first | (go_at_call 99; refine (hLv _).mono ?_; rintro ex w3 ⟨rfl, hb3⟩; have hQ3 := Aside0.mk (hQ'.out.below hb3); clear hb3; obtain ⟨x0, x1, x2, x3, x4, x5, x6⟩ := hQ3.out.nd.cells; have hR := hQ3.out.r; obtain ⟨y0, y1, y2, y3, y4, y5, y6⟩ := hR.cells; have fR := hR.f))
                      have hF := fillN_nd hR 99 0 name (.slice A acc.length c)
                      have hFb := fillN_below hQ3.out.b w.heap.size (Nat.le_refl _) 99 0 name (.slice A acc.length c)
                      obtain ⟨z0, z1, z2, z3, z4, z5, z6⟩ := hF.cells
                      refine bodyPost_ret (v := .tuple #[.agg #[.int .u8 99, .int .i64 0, .int .i64 0, .int .i64 0, .int .i64 0, .string name, (.slice A acc.length c)], .int .i64 (-1)]) ?_ rfl ?_
                      · unfold fillN at z0 z1 z2 z3 z4 z5 z6
                        clear hF hFb
                        simp [results, Tryd.results81, go_sem, z0, z1, z2, z3, z4, z5, z6]
                      · exact ⟨hFb, _, _, _, _, _, _, rfl⟩
                  · rw [if_neg h60] at he2; cases he2
            · obtain rfl : q = s.size := by have := hQ.le; omega
              rw [if_neg g1] at hrest
              have hXn : X = none := by rw [hXe'.out, hrest]; rfl
              subst hXn
              obtain ⟨x0, x1, x2, x3, x4, x5, x6⟩ := hQ.nd.cells
              have hR := hQ.r
              have hbq := hQ.b
              obtain ⟨y0, y1, y2, y3, y4, y5, y6⟩ := hR.cells
              have fR := hR.f
              clear hrest hXe' hQ g1
              go_wp2
              have hF := fillN_nd hR 99 0 name (.slice A acc.length c)
              have hFb := fillN_below hbq w.heap.size (Nat.le_refl _) 99 0 name (.slice A acc.length c)
              obtain ⟨z0, z1, z2, z3, z4, z5, z6⟩ := hF.cells
              refine bodyPost_ret (v := .tuple #[.agg #[.int .u8 99, .int .i64 0, .int .i64 0, .int .i64 0, .int .i64 0, .string name, (.slice A acc.length c)], .int .i64 (-1)]) ?_ rfl ?_
              · unfold fillN at z0 z1 z2 z3 z4 z5 z6
                clear hF hFb
                simp [results, Tryd.results81, go_sem, z0, z1, z2, z3, z4, z5, z6]
              · exact ⟨hFb, _, _, _, _, _, _, rfl⟩
      · have hx : (((s[p]'h1).toNat : Int) != 59) = true := bne_iff_ne.mpr (fun h => h2 ((bt_at s p h1).symm.trans h))
        by_cases h3 : p < a + 42
        · have h3i : (p : Int) < (a : Int) + 40 + 2 := by omega
          have h3j : (p : Int) < (a : Int) + 42 := by omega
          have hA2 : Aside0 (∀ j, a + 1 ≤ j → j < p + 1 → bt s (j : Int) ≠ 59) := ⟨fun j hj1 hj2 => by
            rcases Nat.lt_or_ge j p with h | h
            · exact hA.out j hj1 h
            · obtain rfl : j = p := by omega
              exact h2⟩
          clear h2 hA hL0
          go_wp2
          go_roundg (s.size + 1 - (p + 1))
          case measure => omega
          case rel => exact ⟨p + 1, rfl, by omega, by omega, by omega, Nat.le_refl _, hA2, rfl⟩
        · have hXn : X = none := by
            rw [← hX'.out]
            refine rdC_none s hs (a + 1) (fun n hn => ?_)
            have hl := idx_lt s 59 (a + 1) (by omega)
            rw [hn] at hl
            simp only [Int.toNat_natCast] at hl
            rcases idx_far s 59 (a + 1) p (by omega) hp1 hA.out with h | ⟨n', h, hle⟩
            · rw [show ((59 : Nat) : Int) = 59 from rfl, hn] at h; omega
            · rw [show ((59 : Nat) : Int) = 59 from rfl, hn] at h
              exact name_long _ (by rw [ByteArray.size_extract]; omega) (by rw [ByteArray.size_extract]; omega)
          subst hXn
          have h3i : ¬ (p : Int) < (a : Int) + 40 + 2 := by omega
          have h3j : ¬ (p : Int) < (a : Int) + 42 := by omega
          obtain ⟨x0, x1, x2, x3, x4, x5, x6⟩ := hL0.n.cells
          have hR := hL0.r
          have hbq := hL0.b
          obtain ⟨y0, y1, y2, y3, y4, y5, y6⟩ := hR.cells
          have fR := hR.f
          clear h2 hA hL0 hX' hNm h3 hm
          go_wp2
          have hF := fillN_nd hR 99 0 ⟨#[]⟩ (.slice none 0 0)
          have hFb := fillN_below hbq w.heap.size (Nat.le_refl _) 99 0 ⟨#[]⟩ (.slice none 0 0)
          obtain ⟨z0, z1, z2, z3, z4, z5, z6⟩ := hF.cells
          refine bodyPost_ret (v := .tuple #[.agg #[.int .u8 99, .int .i64 0, .int .i64 0, .int .i64 0, .int .i64 0, .string ⟨#[]⟩, (.slice none 0 0)], .int .i64 (-1)]) ?_ rfl ?_
          · unfold fillN at z0 z1 z2 z3 z4 z5 z6
            clear hF hFb
            simp [results, Tryd.results81, go_sem, z0, z1, z2, z3, z4, z5, z6]
          · exact ⟨hFb, _, _, _, _, _, _, rfl⟩
    · have hXn : X = none := by
        rw [← hX'.out]
        refine rdC_none s hs (a + 1) (fun n hn => ?_)
        have hl := idx_lt s 59 (a + 1) (by omega)
        rw [hn] at hl
        simp only [Int.toNat_natCast] at hl
        rcases idx_far s 59 (a + 1) p (by omega) hp1 hA.out with h | ⟨n', h, hle⟩
        · rw [show ((59 : Nat) : Int) = 59 from rfl, hn] at h; omega
        · rw [show ((59 : Nat) : Int) = 59 from rfl, hn] at h
          omega
      subst hXn
      obtain rfl : p = s.size := by omega
      obtain ⟨x0, x1, x2, x3, x4, x5, x6⟩ := hL0.n.cells
      have hR := hL0.r
      have hbq := hL0.b
      obtain ⟨y0, y1, y2, y3, y4, y5, y6⟩ := hR.cells
      have fR := hR.f
      clear h1 hA hL0 hX' hNm hm
      go_wp2
      have hF := fillN_nd hR 99 0 ⟨#[]⟩ (.slice none 0 0)
      have hFb := fillN_below hbq w.heap.size (Nat.le_refl _) 99 0 ⟨#[]⟩ (.slice none 0 0)
      obtain ⟨z0, z1, z2, z3, z4, z5, z6⟩ := hF.cells
      refine bodyPost_ret (v := .tuple #[.agg #[.int .u8 99, .int .i64 0, .int .i64 0, .int .i64 0, .int .i64 0, .string ⟨#[]⟩, (.slice none 0 0)], .int .i64 (-1)]) ?_ rfl ?_
      · unfold fillN at z0 z1 z2 z3 z4 z5 z6
        clear hF hFb
        simp [results, Tryd.results81, go_sem, z0, z1, z2, z3, z4, z5, z6]
      · exact ⟨hFb, _, _, _, _, _, _, rfl⟩
end Go.Proofs.YtefiapcfdabfpaaDoor.P

namespace Go.Proofs.YtefiapcfdabfpaaDoor.P
open Go.RowKit Go.Proofs.YtefiapcfdabfpaaDoorW.PrintWords Go.Proofs.YtefiapcfdabfpaaDoorW.PrintLast Go.Proofs.YtefiapcfdabfpaaDoorW.PrintMore
set_option maxRecDepth 100000
set_option maxHeartbeats 8000000
theorem flat_leaf_of (s : ByteArray) (k a : Nat) (t : Te) (e b : Nat) (h : rdV s a = some (t, e) ∨ (lvAt s 46 a).map (fun e => (Te.sort (s.extract a e), e + 1)) = some (t, e) ∨ rdC s a = some (t, e)) : flat t b = [leafN t] ∧ t.sz = 1 := by
  rcases h with h | h | h
  · unfold rdV at h
    by_cases hi : 0 ≤ idx s 46 a
    · rw [if_pos hi] at h
      obtain ⟨r, _, h⟩ := Option.bind_eq_some_iff.mp h
      by_cases hc : r.2 = true ∧ r.1 ≤ 999
      · rw [if_pos hc] at h
        simp only [Option.some.injEq, Prod.mk.injEq] at h
        obtain ⟨rfl, rfl⟩ := h
        exact ⟨rfl, rfl⟩
      · rw [if_neg hc] at h; cases h
    · rw [if_neg hi] at h; cases h
  · obtain ⟨e1, he, h⟩ := Option.map_eq_some_iff.mp h
    simp only [Prod.mk.injEq] at h
    obtain ⟨rfl, rfl⟩ := h
    exact ⟨rfl, rfl⟩
  · unfold rdC at h
    by_cases hi : 0 ≤ idx s 59 a
    · rw [if_pos hi] at h
      obtain ⟨r, _, h⟩ := Option.bind_eq_some_iff.mp h
      obtain ⟨b, _, h⟩ := Option.bind_eq_some_iff.mp h
      by_cases hc : b = true ∧ r.1.length ≤ 3
      · rw [if_pos hc] at h
        simp only [Option.some.injEq, Prod.mk.injEq] at h
        obtain ⟨rfl, rfl⟩ := h
        exact ⟨rfl, rfl⟩
      · rw [if_neg hc] at h; cases h
    · rw [if_neg hi] at h; cases h
theorem read_of_leaf (s : ByteArray) (a nb B : Nat) (w : World) (v : Value) (acc : List S43) (X : Option (Te × Nat)) (hG : Gath w nb B v acc) (hB : B ≤ w.heap.size) (hnB : B ≤ nb) (hs : s.size ≤ 2000) (hlt : a < s.size) (hac : acc.length ≤ 2000)
    (h1 : bt s (a : Int) ≠ 64) (h2 : bt s (a : Int) ≠ 108) (h3 : bt s (a : Int) ≠ 112) (h4 : bt s (a : Int) ≠ 116) (hf : ∀ t e, X = some (t, e) → flat t acc.length = [leafN t] ∧ t.sz = 1)
    (hl : Calls Tryd.prog 81 #[.string s, .int .i64 (a : Int)] w (LeafP w (leafX X))) :
    Calls Tryd.prog 66 #[.string s, .int .i64 (a : Int), .pointer (some ⟨nb, 0, none⟩)] w (ReadP nb B w v acc X) := by
  cases X with
  | none => exact read_no s a nb B w v acc hlt h1 h2 h3 h4 hl
  | some r =>
    obtain ⟨t, e⟩ := r
    obtain ⟨g1, g2⟩ := hf t e rfl
    refine (read_leaf s a nb B w v acc (leafN t) e hG hB hnB hs hlt hac h1 h2 h3 h4 hl).mono fun ex w' h => ?_
    obtain ⟨hk, he, v', ho, hg⟩ := h
    refine ⟨hk, ?_, v', ho, ?_⟩
    · rw [he, g2]; rfl
    · rw [g1]; exact hg
theorem comp_two (s : ByteArray) (n a nb B : Nat) (w : World) (v : Value) (acc : List S43) (k : Int) (e : Ending) (w' : World)
    (h : Kp nb v w w' ∧ match rdN s n 2 (a + 1) with
      | some (ts, en) => e = .returned (.tuple #[.int .i64 ((acc.length + szs ts : Nat) : Int), .int .i64 (en : Int)]) ∧ ∃ v', Own3 v v' w ∧ Gath w' nb B v' (acc ++ (flats ts acc.length ++ [⟨k, fld acc.length ts 0, fld acc.length ts 1, fld acc.length ts 2, 0, ⟨#[]⟩, []⟩]))
      | none => e = .returned (.tuple #[.int .i64 (-1), .int .i64 (-1)])) :
    ReadP nb B w v acc ((rd s n (a + 1)).bind fun r1 => (rd s n r1.2).map fun r2 => (Te.two k r1.1 r2.1, r2.2)) e w' := by
  obtain ⟨hk, h⟩ := h
  refine ⟨hk, ?_⟩
  simp only [rdN] at h
  cases h1 : rd s n (a + 1) with
  | none => rw [h1] at h; simpa using h
  | some r1 =>
    obtain ⟨t1, e1⟩ := r1
    rw [h1] at h
    simp only [Option.bind_some] at h ⊢
    cases h2 : rd s n e1 with
    | none => rw [h2] at h; simpa using h
    | some r2 =>
      obtain ⟨t2, e2⟩ := r2
      rw [h2] at h
      simp only [Option.bind_some, Option.map_some] at h ⊢
      obtain ⟨he, v', ho, hg⟩ := h
      refine ⟨?_, v', ho, ?_⟩
      · rw [he, show acc.length + szs [t1, t2] = acc.length + (Te.two k t1 t2).sz - 1 from by simp only [szs, Te.sz]; omega]
      · have e3 : acc ++ flat (t1.two k t2) acc.length = acc ++ (flats [t1, t2] acc.length ++ [⟨k, fld acc.length [t1, t2] 0, fld acc.length [t1, t2] 1, fld acc.length [t1, t2] 2, 0, ⟨#[]⟩, []⟩]) := by
          simp [flat, flats, fld, szs]
          omega
        rw [e3]; exact hg
theorem comp_three (s : ByteArray) (n a nb B : Nat) (w : World) (v : Value) (acc : List S43) (e : Ending) (w' : World)
    (h : Kp nb v w w' ∧ match rdN s n 3 (a + 1) with
      | some (ts, en) => e = .returned (.tuple #[.int .i64 ((acc.length + szs ts : Nat) : Int), .int .i64 (en : Int)]) ∧ ∃ v', Own3 v v' w ∧ Gath w' nb B v' (acc ++ (flats ts acc.length ++ [⟨116, fld acc.length ts 0, fld acc.length ts 1, fld acc.length ts 2, 0, ⟨#[]⟩, []⟩]))
      | none => e = .returned (.tuple #[.int .i64 (-1), .int .i64 (-1)])) :
    ReadP nb B w v acc ((rd s n (a + 1)).bind fun r1 => (rd s n r1.2).bind fun r2 => (rd s n r2.2).map fun r3 => (Te.three r1.1 r2.1 r3.1, r3.2)) e w' := by
  obtain ⟨hk, h⟩ := h
  refine ⟨hk, ?_⟩
  simp only [rdN] at h
  cases h1 : rd s n (a + 1) with
  | none => rw [h1] at h; simpa using h
  | some r1 =>
    obtain ⟨t1, e1⟩ := r1
    rw [h1] at h
    simp only [Option.bind_some] at h ⊢
    cases h2 : rd s n e1 with
    | none => rw [h2] at h; simpa using h
    | some r2 =>
      obtain ⟨t2, e2⟩ := r2
      rw [h2] at h
      simp only [Option.bind_some] at h ⊢
      cases h3 : rd s n e2 with
      | none => rw [h3] at h; simpa using h
      | some r3 =>
        obtain ⟨t3, e3⟩ := r3
        rw [h3] at h
        simp only [Option.bind_some, Option.map_some] at h ⊢
        obtain ⟨he, v', ho, hg⟩ := h
        refine ⟨?_, v', ho, ?_⟩
        · rw [he, show acc.length + szs [t1, t2, t3] = acc.length + (Te.three t1 t2 t3).sz - 1 from by simp only [szs, Te.sz]; omega]
        · have e4 : acc ++ flat (t1.three t2 t3) acc.length = acc ++ (flats [t1, t2, t3] acc.length ++ [⟨116, fld acc.length [t1, t2, t3] 0, fld acc.length [t1, t2, t3] 1, fld acc.length [t1, t2, t3] 2, 0, ⟨#[]⟩, []⟩]) := by
            simp [flat, flats, fld, szs]
            omega
          rw [e4]; exact hg
theorem read_all (s : ByteArray) (nb B : Nat) (hs : s.size ≤ 2000) (hnB : B ≤ nb) : ∀ (n a : Nat) (w : World) (v : Value) (acc : List S43), Gath w nb B v acc → B ≤ w.heap.size → a ≤ s.size → acc.length ≤ a → s.size - a < n →
    Calls Tryd.prog 66 #[.string s, .int .i64 (a : Int), .pointer (some ⟨nb, 0, none⟩)] w (ReadP nb B w v acc (rd s n a)) := by
  intro n
  induction n with
  | zero => intro a w v acc hG hB ha hac hn; omega
  | succ n ih =>
    intro a w v acc hG hB ha hac hn
    simp only [rd]
    rcases Nat.lt_or_ge a s.size with hlt | hge
    · rw [if_pos hlt]
      have ih' : ∀ (a' : Nat) (w' : World) (v' : Value) (acc' : List S43), Gath w' nb B v' acc' → B ≤ w'.heap.size → a' ≤ s.size → acc'.length ≤ a' → s.size - a' < n → Calls Tryd.prog 66 #[.string s, .int .i64 (a' : Int), .pointer (some ⟨nb, 0, none⟩)] w' (ReadP nb B w' v' acc' (rd s n a')) := fun a' w' v' acc' => ih a' w' v' acc'
      by_cases h1 : bt s (a : Int) = 118
      · rw [if_pos h1]
        obtain ⟨v0, en, hd, hen, hx⟩ := dig_is s hs (a + 1) hlt
        refine read_of_leaf s a nb B w v acc _ hG hB hnB hs hlt (by omega) (by rw [h1]; decide) (by rw [h1]; decide) (by rw [h1]; decide) (by rw [h1]; decide) (fun t e h => flat_leaf_of s n _ t e _ (.inl h)) ?_
        rw [← hx]
        exact leaf_var s a v0 en w hs hlt h1 hd hen
      rw [if_neg h1]
      by_cases h2 : bt s (a : Int) = 115
      · rw [if_pos h2]
        obtain ⟨en, hd, hen, hx⟩ := sort_is s hs (a + 1) hlt
        refine read_of_leaf s a nb B w v acc _ hG hB hnB hs hlt (by omega) (by rw [h2]; decide) (by rw [h2]; decide) (by rw [h2]; decide) (by rw [h2]; decide) (fun t e h => flat_leaf_of s n _ t e _ (.inr (.inl h))) ?_
        rw [← hx]
        exact leaf_sort s a en w hs hlt h2 hd hen
      rw [if_neg h2]
      by_cases h3 : bt s (a : Int) = 99
      · rw [if_pos h3]
        exact read_of_leaf s a nb B w v acc _ hG hB hnB hs hlt (by omega) (by rw [h3]; decide) (by rw [h3]; decide) (by rw [h3]; decide) (by rw [h3]; decide) (fun t e h => flat_leaf_of s n _ t e _ (.inr (.inr h))) (leaf_con s a w hs hlt h3)
      rw [if_neg h3]
      by_cases h4 : bt s (a : Int) = 64
      · rw [if_pos (Or.inl h4), h4]
        exact (read_comp64 s a nb B n w v acc hG hB hnB hs hlt hac h4 hn ih').mono fun e w' h => comp_two s n a nb B w v acc 64 e w' h
      by_cases h5 : bt s (a : Int) = 108
      · rw [if_pos (Or.inr (Or.inl h5)), h5]
        exact (read_comp108 s a nb B n w v acc hG hB hnB hs hlt hac h5 hn ih').mono fun e w' h => comp_two s n a nb B w v acc 108 e w' h
      by_cases h6 : bt s (a : Int) = 112
      · rw [if_pos (Or.inr (Or.inr h6)), h6]
        exact (read_comp112 s a nb B n w v acc hG hB hnB hs hlt hac h6 hn ih').mono fun e w' h => comp_two s n a nb B w v acc 112 e w' h
      rw [if_neg (fun h => h.elim h4 (fun h => h.elim h5 h6))]
      by_cases h7 : bt s (a : Int) = 116
      · rw [if_pos h7]
        exact (read_comp116 s a nb B n w v acc hG hB hnB hs hlt hac h7 hn ih').mono fun e w' h => comp_three s n a nb B w v acc e w' h
      · rw [if_neg h7]
        exact read_of_leaf s a nb B w v acc none hG hB hnB hs hlt (by omega) h4 h5 h6 h7 (fun t e h => by cases h) (leaf_other s a w hs hlt h1 h2 h3)
    · rw [if_neg (by omega)]
      exact read_end s a nb B w v acc hge (by omega)
/-- The reference's nodes of a text. -/
def nodesOf (s : ByteArray) : List S43 := match parseT s with
  | some t => flat t 0
  | none => []
def spec_l06All.f (_k : Nat) (a0 : ByteArray) : Option (List S43) := if a0.size ≤ 140737488351232 then some (nodesOf a0) else none
theorem spec_l06All.mono : ∀ a0 k, LeO (spec_l06All.f k a0) (spec_l06All.f (k + 1) a0) := fun _ _ => LeO.refl _
theorem S_empty (w : World) (B : Nat) (ok : Nat → Prop) (hB : B ≤ w.heap.size) (hok : ok w.heap.size) : Kd.S k43 43 (w.alloc (.cells #[] 43)) B ok (.slice (some ⟨w.heap.size, 0, none⟩) 0 0) [] := by
  refine ⟨fun _ => 0, fun k hk => ?_, [], ?_, Reps.none _ _⟩
  · have : w.heap.size = k := by simpa [Value.ownBlock] using hk
    subst this
    exact hok
  · exact World.ownsRow_lit (base := B) (e := 43) (size := 7) w #[] 0 hB (by decide) (by simp)
/-- The world in which the reader begins. -/
def Wb (w : World) : World := (w.alloc (.cells #[] 43)).alloc (.cells #[.slice (some ⟨w.heap.size, 0, none⟩) 0 0] 36)
theorem allBase (w : World) : Gath (Wb w) (w.heap.size + 1) w.heap.size (.slice (some ⟨w.heap.size, 0, none⟩) 0 0) [] := by
  refine ⟨?_, Kd.S_below (S_empty w _ _ (Nat.le_refl _) (by omega)) (below_alloc (Below.refl _ _) _)⟩
  have h := alloc_here (w.alloc (.cells #[] 43)) (.cells #[.slice (some ⟨w.heap.size, 0, none⟩) 0 0] 36)
  rw [alloc_size] at h
  exact h
theorem spec_l06All.calls (k : Nat) (a0 : ByteArray) (r : List S43) (w : World) (h : spec_l06All.f k a0 = some r) :
    Calls Tryd.prog 44 #[.string a0] w fun e w' => ∃ v1_ : Value, e = .returned v1_ ∧ Kd.S k43 43 w' w.heap.size (fun _ => True) v1_ r ∧ Below w.heap.size w w' := by
  unfold spec_l06All.f at h
  by_cases hB : a0.size ≤ 140737488351232
  · rw [if_pos hB] at h
    obtain rfl := Option.some.inj h
    by_cases hs : a0.size ≤ 2000
    · have hsi : ¬ (2000 : Int) < (a0.size : Int) := by omega
      have hG := allBase w
      have hR := read_all a0 (w.heap.size + 1) w.heap.size hs (Nat.le_succ _) (a0.size + 1) 0 (Wb w) _ [] hG (by unfold Wb; rw [alloc_size, alloc_size]; omega) (Nat.zero_le _) (Nat.le_refl _) (by omega)
      have hWb : Below w.heap.size w (Wb w) := below_alloc (below_alloc (Below.refl _ _) _) _
      have hfin : ∀ w2, Kp (w.heap.size + 1) (.slice (some ⟨w.heap.size, 0, none⟩) 0 0) (Wb w) w2 → Below w.heap.size w w2 := fun w2 h => hWb.trans (h.below (by unfold Wb; rw [alloc_size, alloc_size]; omega) (Nat.le_succ _) (fun k hk => by simp [Value.ownBlock] at hk; omega))
      have hR' : Calls Tryd.prog 66 #[.string a0, .int .i64 0, .pointer (some ⟨w.heap.size + 1, 0, none⟩)] ((w.alloc (.cells #[] 43)).alloc (.cells #[.slice (some ⟨w.heap.size, 0, none⟩) 0 0] 36)) (ReadP (w.heap.size + 1) w.heap.size (Wb w) (.slice (some ⟨w.heap.size, 0, none⟩) 0 0) [] (rd a0 (a0.size + 1) 0)) := hR
      clear hR hG hWb
      cases hx : rd a0 (a0.size + 1) 0 with
      | none =>
        have hn : nodesOf a0 = [] := by unfold nodesOf parseT; rw [if_pos hs, hx]; rfl
        rw [hn]
        rw [hx] at hR'
        clear hx hn
        go_enter Tryd.func44, Tryd.ntmps44
        go_wp2_with (first | (go_at_call 66; refine (Calls.mono hR' ?_); rintro e w2 ⟨hk2, rfl⟩))
        go_ret
        exact ⟨_, rfl, S_empty w2 w.heap.size _ ((hfin _ hk2).size) trivial, below_alloc (hfin _ hk2) _⟩
      | some r =>
        obtain ⟨t, en⟩ := r
        rw [hx] at hR'
        by_cases he : en = a0.size
        · have hn : nodesOf a0 = flat t 0 := by unfold nodesOf parseT; rw [if_pos hs, hx, Option.bind_some, if_pos he]
          rw [hn]
          subst he
          clear hx hn
          go_enter Tryd.func44, Tryd.ntmps44
          go_wp2_with (first | (go_at_call 66; refine (Calls.mono hR' ?_); rintro e w2 ⟨hk2, rfl, v', ho, hg⟩; obtain ⟨A, c, rfl⟩ := Kd.S_slice hg.s; have hc2 := cell_of (T := 36) hg.c; have hS := Aside0.mk hg.s; clear hg ho))
          go_ret
          exact ⟨_, rfl, Kd.S_mono hS.out (fun _ _ => trivial), hfin _ hk2⟩
        · have hn : nodesOf a0 = [] := by unfold nodesOf parseT; rw [if_pos hs, hx, Option.bind_some, if_neg he]
          rw [hn]
          have hne : ((en : Int) != (a0.size : Int)) = true := bne_iff_ne.mpr (by omega)
          clear hx hn he
          go_enter Tryd.func44, Tryd.ntmps44
          go_wp2_with (first | (go_at_call 66; refine (Calls.mono hR' ?_); rintro e w2 ⟨hk2, rfl, v', ho, hg⟩; clear hg ho))
          go_ret
          exact ⟨_, rfl, S_empty w2 w.heap.size _ ((hfin _ hk2).size) trivial, below_alloc (hfin _ hk2) _⟩
    · have hsi : (2000 : Int) < (a0.size : Int) := by omega
      have hn : nodesOf a0 = [] := by unfold nodesOf parseT; rw [if_neg hs]
      rw [hn]
      go_enter Tryd.func44, Tryd.ntmps44
      go_wp2
      go_ret
      exact ⟨_, rfl, Kd.S_below (S_empty w w.heap.size _ (Nat.le_refl _) trivial) (below_alloc (Below.refl _ _) _), below_alloc (below_alloc (Below.refl _ _) _) _⟩
  · rw [if_neg hB] at h; cases h
end Go.Proofs.YtefiapcfdabfpaaDoor.P

namespace Go.Proofs.YtefiapcfdabfpaaDoor.P
open Go.RowKit Go.Proofs.YtefiapcfdabfpaaDoorW.PrintWords Go.Proofs.YtefiapcfdabfpaaDoorW.PrintLast Go.Proofs.YtefiapcfdabfpaaDoorW.PrintMore
attribute [local go_sem] max2_int min2_int max_two min_two max_three min_three max_four min_four
set_option linter.unusedVariables false
set_option linter.unusedSimpArgs false

/-! ### spec_TermOk: function 15 -/
def spec_TermOk.f (k : Nat) (a0 : ByteArray) : Option (Bool) := (spec_l06All.f k a0).bind fun t101 => (some (decide ((t101.length : Int) > 0)))
theorem spec_TermOk.mono : ∀ a0 k, LeO (spec_TermOk.f k a0) (spec_TermOk.f (k + 1) a0) := by
  intro a0 k
  unfold spec_TermOk.f
  repeat' first
      | (with_reducible exact spec_l06All.mono _ _)
      | (with_reducible exact LeO.refl _)
      | (with_reducible exact LeO.none _)
      | (with_reducible refine LeO.ite ?_ ?_)
      | (with_reducible refine LeO.bind ?_ (fun _ => ?_))
      | exact spec_l06All.mono _ _
      | exact LeO.none _
      | refine LeO.ite ?_ ?_
      | refine LeO.bind ?_ (fun _ => ?_)
set_option maxHeartbeats 8000000 in
set_option maxRecDepth 100000 in
theorem spec_TermOk.calls (k : Nat) (a0 : ByteArray) (r : Bool) (w : World) (h : spec_TermOk.f k a0 = some r) :
    Calls Tryd.prog 15 #[.string a0] w fun e w' => e = .returned (.bool r) ∧ Below w.heap.size w w' := by
  have HB := Aside0.mk (Below.refl w.heap.size w)
  have H : ((spec_l06All.f k a0).bind fun t101 => (some (decide ((t101.length : Int) > 0)))) = some r := h
  clear h
  replace H := Option.bind_eq_some_iff.mp H
  obtain ⟨t101, A20, H⟩ := H
  replace H : (some (decide ((t101.length : Int) > 0))) = some r := H
  have A2 := Aside0.mk A20
  clear A20
  obtain rfl := Option.some.inj H
  go_enter Tryd.func15, Tryd.ntmps15
  go_wp2_with (first | ((with_reducible refine gate_callee (f := 44) rfl ?_); refine goesL_ (some 4) rfl rfl Tryd.func44 (by kernel_rfl) rfl #[.string a0] rfl (by (try simp only [List.map_toArray, List.map_cons, List.map_nil]); first | done | rfl | (simp only [List.length_drop, List.length_take]; rfl)) ?_; (with_reducible refine (spec_l06All.calls k a0 t101 _ A2.out).mono ?_); rintro e w3 ⟨v102, rfl, ho0, hb⟩; refine ⟨_, rfl, ?_⟩; have n0_ := Aside0.mk (Kd.S_lower ho0 (below_size (by repeat (first | (with_reducible first | exact HB.out | apply below_alloc | apply pw_below_drewN | apply below_drew1) | exact HB.out)))); have n1_ := Aside0.mk (below_step (by repeat (first | (with_reducible first | exact HB.out | apply below_alloc | apply pw_below_drewN | apply below_drew1) | exact HB.out)) hb); clear HB; have HO103 := n0_; have HB := n1_; clear n0_ n1_; (try clear hb); (try clear hb2); (try clear hk); (try clear hi); (try clear ho0); obtain ⟨Ao4, co4, eo4⟩ := Kd.S_slice HO103.out; subst eo4))
  go_ret
  exact ⟨by first | rfl | (simp [errW_none, errW_some] <;> rfl) | (simp [*, errW_none, errW_some] <;> rfl), by repeat (first | (with_reducible first | exact HB.out | apply below_alloc | apply pw_below_drewN | apply below_drew1) | exact HB.out)⟩

end Go.Proofs.YtefiapcfdabfpaaDoor.P

namespace Go.Proofs.YtefiapcfdabfpaaDoor.P
open Go.RowKit Go.Proofs.YtefiapcfdabfpaaDoorW.PrintWords Go.Proofs.YtefiapcfdabfpaaDoorW.PrintLast Go.Proofs.YtefiapcfdabfpaaDoorW.PrintMore
attribute [local go_sem] max2_int min2_int max_two min_two max_three min_three max_four min_four
set_option linter.unusedVariables false
set_option linter.unusedSimpArgs false

/-! ### laws_FnExactTermOk: function 3 -/
def laws_FnExactTermOk.f (k : Nat) (a0 : ByteArray) : Option (Bool) := if (a0.size : Int) > 1048576 then (some true) else ((spec_TermOk.f k a0).bind fun t101 => ((impl_TermOk.f a0).bind fun t102 => (if (t102 != t101) = true then (some false) else (some true))))
theorem laws_FnExactTermOk.mono : ∀ a0 k, LeO (laws_FnExactTermOk.f k a0) (laws_FnExactTermOk.f (k + 1) a0) := by
  intro a0 k
  unfold laws_FnExactTermOk.f
  repeat' first
      | (with_reducible exact spec_TermOk.mono _ _)
      | (with_reducible exact LeO.refl _)
      | (with_reducible exact LeO.none _)
      | (with_reducible refine LeO.ite ?_ ?_)
      | (with_reducible refine LeO.bind ?_ (fun _ => ?_))
      | exact spec_TermOk.mono _ _
      | exact LeO.none _
      | refine LeO.ite ?_ ?_
      | refine LeO.bind ?_ (fun _ => ?_)
set_option maxHeartbeats 8000000 in
set_option maxRecDepth 100000 in
theorem laws_FnExactTermOk.calls (k : Nat) (a0 : ByteArray) (r : Bool) (w : World) (hEA : EnvA w) (hEI : EnvI w) (hEM : EnvM w) (h : laws_FnExactTermOk.f k a0 = some r) :
    Calls Tryd.prog 3 #[.string a0] w fun e w' => e = .returned (.bool r) ∧ Below w.heap.size w w' := by
  have HB := Aside0.mk (Below.refl w.heap.size w)
  have H : (if (a0.size : Int) > 1048576 then (some true) else ((spec_TermOk.f k a0).bind fun t101 => ((impl_TermOk.f a0).bind fun t102 => (if (t102 != t101) = true then (some false) else (some true))))) = some r := h
  clear h
  by_cases c2 : (a0.size : Int) > 1048576
  · rw [if_pos c2] at H
    have c2b0 : decide (1048576 < (a0.size : Int)) = true := decide_eq_true c2
    have c2b1 : decide (1048576 < a0.size) = true := decide_eq_true (by omega)
    clear c2
    obtain rfl := Option.some.inj H
    go_enter Tryd.func3, Tryd.ntmps3
    go_wp2
    go_ret
    exact ⟨by first | rfl | (simp [errW_none, errW_some] <;> rfl) | (simp [*, errW_none, errW_some] <;> rfl), by repeat (first | (with_reducible first | exact HB.out | apply below_alloc | apply pw_below_drewN | apply below_drew1) | exact HB.out)⟩
  · rw [if_neg c2] at H
    have c2b0 : decide (1048576 < (a0.size : Int)) = false := decide_eq_false c2
    have c2b1 : decide (1048576 < a0.size) = false := decide_eq_false (by omega)
    clear c2
    replace H := Option.bind_eq_some_iff.mp H
    obtain ⟨t101, A30, H⟩ := H
    replace H : ((impl_TermOk.f a0).bind fun t102 => (if (t102 != t101) = true then (some false) else (some true))) = some r := H
    have A3 := Aside0.mk A30
    clear A30
    replace H := Option.bind_eq_some_iff.mp H
    obtain ⟨t102, A40, H⟩ := H
    replace H : (if (t102 != t101) = true then (some false) else (some true)) = some r := H
    have A4 := Aside0.mk A40
    clear A40
    by_cases c5 : (t102 != t101) = true
    · rw [if_pos c5] at H
      have c5b0 : (t102 != t101) = true := c5
      (try (have c5b1 : decide (t102 = t101) = false := by simpa using c5))
      (try (have c5b2 : (t102 == t101) = false := by simpa using c5))
      (try (have c5b3 : ¬ (t102 = t101) := by simpa using c5))
      clear c5
      obtain rfl := Option.some.inj H
      go_enter Tryd.func3, Tryd.ntmps3
      go_wp2_with (first | ((with_reducible refine gate_callee (f := 15) rfl ?_); refine goesL_ (some 9) rfl rfl Tryd.func15 (by kernel_rfl) rfl #[.string a0] rfl (by (try simp only [List.map_toArray, List.map_cons, List.map_nil]); first | done | rfl | (simp only [List.length_drop, List.length_take]; rfl)) ?_; (with_reducible refine (spec_TermOk.calls k a0 t101 _ A3.out).mono ?_); rintro e w6 ⟨rfl, hb⟩; refine ⟨_, rfl, ?_⟩; have n0_ := Aside0.mk (below_step (by repeat (first | (with_reducible first | exact HB.out | apply below_alloc | apply pw_below_drewN | apply below_drew1) | exact HB.out)) hb); clear HB; have HB := n0_; clear n0_; (try clear hb); (try clear hb2); (try clear hk); (try clear hi)) | ((with_reducible refine gate_callee (f := 16) rfl ?_); refine goesL_ (some 11) rfl rfl Tryd.func16 (by kernel_rfl) rfl #[.string a0] rfl (by (try simp only [List.map_toArray, List.map_cons, List.map_nil]); first | done | rfl | (simp only [List.length_drop, List.length_take]; rfl)) ?_; (with_reducible refine (impl_TermOk.calls a0 t102 _ ?side1 ?side2 ?side3 A4.out).mono ?_); (case side1 => first | exact hEA | exact EnvA.below hEA (by repeat (first | (with_reducible first | exact HB.out | apply below_alloc | apply pw_below_drewN | apply below_drew1) | exact HB.out))); (case side2 => first | exact hEI | exact EnvI.below hEI (by repeat (first | (with_reducible first | exact HB.out | apply below_alloc | apply pw_below_drewN | apply below_drew1) | exact HB.out))); (case side3 => first | exact hEM | exact EnvM.below hEM (by repeat (first | (with_reducible first | exact HB.out | apply below_alloc | apply pw_below_drewN | apply below_drew1) | exact HB.out))); rintro e w7 ⟨rfl, hb⟩; refine ⟨_, rfl, ?_⟩; have n0_ := Aside0.mk (below_step (by repeat (first | (with_reducible first | exact HB.out | apply below_alloc | apply pw_below_drewN | apply below_drew1) | exact HB.out)) hb); clear HB; have HB := n0_; clear n0_; (try clear hb); (try clear hb2); (try clear hk); (try clear hi)))
      go_ret
      exact ⟨by first | rfl | (simp [errW_none, errW_some] <;> rfl) | (simp [*, errW_none, errW_some] <;> rfl), by repeat (first | (with_reducible first | exact HB.out | apply below_alloc | apply pw_below_drewN | apply below_drew1) | exact HB.out)⟩
    · rw [if_neg c5] at H
      have c5b0 : (t102 != t101) = false := by simpa using c5
      (try (have c5b1 : decide (t102 = t101) = true := by simpa using c5))
      (try (have c5b2 : (t102 == t101) = true := by simpa using c5))
      clear c5
      obtain rfl := Option.some.inj H
      go_enter Tryd.func3, Tryd.ntmps3
      go_wp2_with (first | ((with_reducible refine gate_callee (f := 15) rfl ?_); refine goesL_ (some 9) rfl rfl Tryd.func15 (by kernel_rfl) rfl #[.string a0] rfl (by (try simp only [List.map_toArray, List.map_cons, List.map_nil]); first | done | rfl | (simp only [List.length_drop, List.length_take]; rfl)) ?_; (with_reducible refine (spec_TermOk.calls k a0 t101 _ A3.out).mono ?_); rintro e w8 ⟨rfl, hb⟩; refine ⟨_, rfl, ?_⟩; have n0_ := Aside0.mk (below_step (by repeat (first | (with_reducible first | exact HB.out | apply below_alloc | apply pw_below_drewN | apply below_drew1) | exact HB.out)) hb); clear HB; have HB := n0_; clear n0_; (try clear hb); (try clear hb2); (try clear hk); (try clear hi)) | ((with_reducible refine gate_callee (f := 16) rfl ?_); refine goesL_ (some 11) rfl rfl Tryd.func16 (by kernel_rfl) rfl #[.string a0] rfl (by (try simp only [List.map_toArray, List.map_cons, List.map_nil]); first | done | rfl | (simp only [List.length_drop, List.length_take]; rfl)) ?_; (with_reducible refine (impl_TermOk.calls a0 t102 _ ?side1 ?side2 ?side3 A4.out).mono ?_); (case side1 => first | exact hEA | exact EnvA.below hEA (by repeat (first | (with_reducible first | exact HB.out | apply below_alloc | apply pw_below_drewN | apply below_drew1) | exact HB.out))); (case side2 => first | exact hEI | exact EnvI.below hEI (by repeat (first | (with_reducible first | exact HB.out | apply below_alloc | apply pw_below_drewN | apply below_drew1) | exact HB.out))); (case side3 => first | exact hEM | exact EnvM.below hEM (by repeat (first | (with_reducible first | exact HB.out | apply below_alloc | apply pw_below_drewN | apply below_drew1) | exact HB.out))); rintro e w9 ⟨rfl, hb⟩; refine ⟨_, rfl, ?_⟩; have n0_ := Aside0.mk (below_step (by repeat (first | (with_reducible first | exact HB.out | apply below_alloc | apply pw_below_drewN | apply below_drew1) | exact HB.out)) hb); clear HB; have HB := n0_; clear n0_; (try clear hb); (try clear hb2); (try clear hk); (try clear hi)))
      go_ret
      exact ⟨by first | rfl | (simp [errW_none, errW_some] <;> rfl) | (simp [*, errW_none, errW_some] <;> rfl), by repeat (first | (with_reducible first | exact HB.out | apply below_alloc | apply pw_below_drewN | apply below_drew1) | exact HB.out)⟩

/-- THE ONE PURE STATEMENT of laws_FnExactTermOk: yours. -/
def laws_FnExactTermOk.Pure : Prop := ∀ (a0 : ByteArray), a0.size ≤ 140737488351232 → ∃ k, laws_FnExactTermOk.f k a0 = some true
theorem laws_FnExactTermOk.walk (P : laws_FnExactTermOk.Pure) (a0 : ByteArray) (w : World) (w0 : a0.size ≤ 140737488351232) (hEA : EnvA w) (hEI : EnvI w) (hEM : EnvM w) :
    Calls Tryd.prog 3 #[.string a0] w fun e w' => e = .returned (.bool true) ∧ Below w.heap.size w w' := by
  obtain ⟨k, h⟩ := P a0 w0
  refine (laws_FnExactTermOk.calls k a0 true w hEA hEI hEM h).mono ?_
  rintro e w' ⟨rfl, hd⟩
  exact ⟨rfl, hd⟩

end Go.Proofs.YtefiapcfdabfpaaDoor.P

namespace Go.Proofs.YtefiapcfdabfpaaDoor.P
open Go.RowKit Go.Proofs.YtefiapcfdabfpaaDoorW.PrintWords Go.Proofs.YtefiapcfdabfpaaDoorW.PrintLast Go.Proofs.YtefiapcfdabfpaaDoorW.PrintMore
set_option maxRecDepth 100000
set_option maxHeartbeats 8000000
theorem parse_pos {s : ByteArray} {t : Te} (h : parseT s = some t) : 0 < s.size ∧ s.size ≤ 2000 := by
  unfold parseT at h
  by_cases hs : s.size ≤ 2000
  · rw [if_pos hs] at h
    obtain ⟨r, hr, h⟩ := Option.bind_eq_some_iff.mp h
    have := rdT_ok s hs _ _ r.1 r.2 hr (Nat.zero_le _)
    exact ⟨by omega, hs⟩
  · rw [if_neg hs] at h; cases h
def impl_TermKind.f (a0 : ByteArray) : Option ByteArray := if a0.size ≤ 140737488351232 then some (if (parseT a0).isSome then a0.extract 0 1 else ⟨#[]⟩) else none
theorem impl_TermKind.calls (a0 : ByteArray) (r : ByteArray) (w : World) (hA : EnvA w) (hI : EnvI w) (hM : EnvM w) (h : impl_TermKind.f a0 = some r) :
    Calls Tryd.prog 20 #[.string a0] w fun e w' => e = .returned (.string r) ∧ Below w.heap.size w w' := by
  unfold impl_TermKind.f at h
  by_cases hB : a0.size ≤ 140737488351232
  · rw [if_pos hB] at h
    obtain rfl := Option.some.inj h
    have hP := impl_TermOk.calls a0 _ w hA hI hM (by unfold impl_TermOk.f; rw [if_pos hB])
    clear hA hI hM h
    cases hx : parseT a0 with
    | none =>
      rw [hx] at hP
      clear hx
      simp only [Option.isSome_none] at hP ⊢
      go_enter Tryd.func20, Tryd.ntmps20
      go_wp2_with (first | (go_at_call 16; refine (Calls.mono hP ?_); rintro e w2 ⟨rfl, hb2⟩))
      go_ret
      exact ⟨rfl, hb2⟩
    | some t =>
      have hp := parse_pos hx
      rw [hx] at hP
      clear hx
      simp only [Option.isSome_some, if_true] at hP ⊢
      have h1 : 1 ≤ a0.size := hp.1
      go_enter Tryd.func20, Tryd.ntmps20
      go_wp2_with (first | (go_at_call 16; refine (Calls.mono hP ?_); rintro e w2 ⟨rfl, hb2⟩))
      go_ret
      exact ⟨rfl, hb2⟩
  · rw [if_neg hB] at h; cases h
end Go.Proofs.YtefiapcfdabfpaaDoor.P

namespace Go.Proofs.YtefiapcfdabfpaaDoor.Pure
open Go.RowKit Go.Proofs.YtefiapcfdabfpaaDoor.P Go.Proofs.YtefiapcfdabfpaaDoorW.PrintWords
theorem nodes_some {s : ByteArray} {t : Te} (h : parseT s = some t) : nodesOf s = flat t 0 := by unfold nodesOf; rw [h]
theorem nodes_none {s : ByteArray} (h : parseT s = none) : nodesOf s = [] := by unfold nodesOf; rw [h]
theorem nodes_pos (s : ByteArray) : decide (((nodesOf s).length : Int) > 0) = (parseT s).isSome := by
  cases h : parseT s with
  | none => rw [nodes_none h]; rfl
  | some t =>
    rw [nodes_some h, flat_length]
    have := t.sz_pos
    rw [decide_eq_true (by omega)]
    rfl
theorem spec_TermOk_is (s : ByteArray) (k : Nat) (hB : s.size ≤ 140737488351232) : spec_TermOk.f k s = some (parseT s).isSome := by
  unfold spec_TermOk.f spec_l06All.f
  rw [if_pos hB, Option.bind_some, nodes_pos]
theorem impl_TermOk_is (s : ByteArray) (hB : s.size ≤ 140737488351232) : impl_TermOk.f s = some (parseT s).isSome := by
  unfold impl_TermOk.f
  rw [if_pos hB]
end Go.Proofs.YtefiapcfdabfpaaDoor.Pure

namespace Go.Proofs.YtefiapcfdabfpaaDoor.Pure
open Go.RowKit Go.Proofs.YtefiapcfdabfpaaDoor.P
theorem FnExactTermOk : laws_FnExactTermOk.Pure := fun a0 hB => by
  refine ⟨0, ?_⟩
  unfold laws_FnExactTermOk.f
  by_cases h : (a0.size : Int) > 1048576
  · rw [if_pos h]
  · rw [if_neg h, spec_TermOk_is a0 0 hB, impl_TermOk_is a0 hB]
    simp
end Go.Proofs.YtefiapcfdabfpaaDoor.Pure

namespace Go.Proofs.YtefiapcfdabfpaaDoor.fnExactTermOk
open Go.ChangeShapes Go.WideShapes Go.ChangeAt Go.RowKit
open Go.ChangeMaps (open_string shut_string)
set_option linter.unusedVariables false
theorem laid_met (os : Os) (args : Array Value) : laidMet Tryd.prog Rows.fnExactTermOkRow.laid ((laidWorld os).forCall (fun _ _ => 0) ⟨#[], args, []⟩).memory :=
  (LaidIn.of_run [6, 7, 3, 5, 2, N0 + 1, 1, N0 + 0, 4] 8 (by kernel_rfl) (by kernel_rfl) (by kernel_rfl) (by kernel_rfl)).met
theorem witness_row (os : Os) {H : Type} (enc : TypeId × Value → H) :
    (OpenSpec.ofChange Rows.fnExactTermOkSpec).preRow enc Tryd.prog Tryd.f3 Rows.fnExactTermOkRow.domain false Rows.fnExactTermOkRow.laid ((laidWorld os).forCall (fun _ _ => 0) ⟨#[], #[.string ⟨#[]⟩], []⟩).memory #[.string ⟨#[]⟩] := by
  have hw : (DataW.whole enc Tryd.prog ((laidWorld os).forCall (fun _ _ => 0) ⟨#[], #[.string ⟨#[]⟩], []⟩).memory Tryd.f3.params.toList (OpenSpec.ofChange Rows.fnExactTermOkSpec).vars false (#[.string ⟨#[]⟩] : Array Value).toList 8).map (fun x => (x.1, x.2.1)) =
      some ([.lit (.string [])], []) := by kernel_rfl
  obtain ⟨⟨x1, x2, x3⟩, hx, hx1⟩ := Option.map_eq_some_iff.1 hw
  simp only [Prod.mk.injEq] at hx1
  obtain ⟨rfl, rfl⟩ := hx1
  exact OpenSpec.preRow_of_cond 8 hx (by kernel_rfl) (fun k hk => by cases hk) (by kernel_rfl) (laid_met os _)
set_option maxRecDepth 100000 in
theorem lifted (os : Os) (started : os.Started) (H : Type) (enc : TypeId × Value → H) (F : Stop.Interp) :
    ReturnsInHanded {} Tryd.checked os 3 .any ((OpenSpec.ofChange Rows.fnExactTermOkSpec).preRow enc Tryd.prog Tryd.f3 Rows.fnExactTermOkRow.domain false Rows.fnExactTermOkRow.laid) (((OpenSpec.ofChange Rows.fnExactTermOkSpec).at F).post enc Tryd.prog Tryd.f3 false true false false) := by
  refine returnsInHanded_of_row (C := Tryd.checked) (s := (OpenSpec.ofChange Rows.fnExactTermOkSpec)) own started (by kernel_rfl) Tryd.func3
    (witness_row_atRef (enc := enc) (C := Tryd.checked) false (laidWorld os) #[.string ⟨#[]⟩] rfl (by kernel_rfl) (by kernel_rfl) (by kernel_rfl) (witness_row os enc)) ?_
  intro W base args ds gs before hval0 hW hcnd0 _ hsz0 hL hsh _
  have hsz : (DataW.weightsEach Tryd.prog (Tryd.f3.params.toList ++ Rows.fnExactTermOkSpec.plain.varTypes Tryd.prog) (ds ++ gs)).all (· ≤ reachBytes) = true := hsz0
  have hval : ∀ (j : Nat) t v, Tryd.f3.params[j]? = some t → args[j]? = some v → Value.okWide Tryd.prog W .any base t v := hval0
  have hW' := hW
  obtain ⟨p, q, hA0, hV0, rfl, hfz, hnd⟩ := hW
  have hA : DataW.TrodAll enc Tryd.prog W 0 (fun _ => true) true Tryd.f3.params.toList args.toList ds p := hA0
  rw [Tryd.params3] at hA hval hsz
  obtain ⟨v0, vs0, d0, ds0, p0, q0, hargs, rfl, rfl, h0, r0⟩ := trodAll_cons hA
  obtain ⟨rfl, rfl, rfl⟩ := trodAll_nil r0
  obtain rfl : args = #[v0] := by cases args; simp_all
  obtain ⟨rfl, rfl⟩ := trodVars_none hV0
  obtain ⟨a0, rfl, rfl, rfl, y0⟩ := open_string Tryd.underlying9 (hval 0 9 v0 rfl rfl) h0
  have w0 : a0.size ≤ 140737488351232 := by
    have z := sized_string hsz (j := 0) (t := 9) rfl rfl
    rw [Array.length_toList] at z
    exact z
  clear hA0 hval0 hsz0 hsz hV0
  have hL' : laidMet Tryd.prog [("math/bits.deBruijn32tab", Rows.laid_math_bits_deBruijn32tab), ("math/bits.deBruijn64tab", Rows.laid_math_bits_deBruijn64tab), ("internal/strconv.uint64pow10", Rows.laid_internal_strconv_uint64pow10), ("unicode/utf8.acceptRanges", Rows.laid_unicode_utf8_acceptRanges), ("strconv.ErrRange", Rows.laid_strconv_ErrRange), ("strconv.ErrSyntax", Rows.laid_strconv_ErrSyntax), ("unicode/utf8.first", Rows.laid_unicode_utf8_first)] W := hL
  have hEA : P.EnvA W := ⟨sent1 hL'.tail.tail.tail.tail.tail, sent2 hL'.tail.tail.tail.tail⟩
  have hEI := envI hL'.tail.tail
  have hEM := envM hsh
  refine (P.laws_FnExactTermOk.walk Pure.FnExactTermOk a0 W w0 hEA hEI hEM).mono fun e W' ⟨he, bel⟩ => ?_
  subst he
  exact ⟨_, rfl, _, _, _, [], _, [], hW', trodAll_mk1 (shut_bool Tryd.underlying4 _), (trodAll_cons_mk (shut_string Tryd.underlying9 y0) trodAll_mk0), rfl, bel.frame _, fun h => by cases h⟩
theorem over : Rows.fnExactTermOkRow.holds Tryd.pinned (OpenSpec.ofChange Rows.fnExactTermOkSpec) :=
  OpenClaim.holds_of_cond 3 Tryd.f3 rfl rfl rfl rfl rfl rfl rfl ⟨rfl, rfl, rfl, rfl, rfl⟩ rfl rfl rfl rfl rfl (by kernel_rfl) Tryd.func3 (by kernel_rfl)
    (of_decide_eq_true (by kernel_rfl)) (by unfold Func.isWrapper; first | (rw [if_pos (by decide +kernel)]; kernel_rfl) | (rw [if_neg (by decide +kernel)]; exact ⟨rfl, rfl⟩))
    (fun os started H enc _ F => by rw [OpenClaim.pre_eq_preRow]; exact lifted os started H enc F)
theorem card_holds : Rows.FnExactTermOkCardSaid :=
  Claim7.holds_tied_plain_at .later [] [.data, .data, .data, .data, .sentinel, .sentinel, .pinned] true (true, "297631d8dead1c04a6edc8b3a8afb5f08cb01dbc377d63fc3ce3fc1c49af5030") true
    over (fun _ h => by cases h) (by kernel_rfl) (fun _ h => by cases h) fnExactTermOk_row_tie rfl ⟨rfl, rfl⟩ (by kernel_rfl) rfl
    (fun f fn hf hfn => by
      obtain rfl : f = 3 := Option.some.inj ((show Tryd.prog.funcNamed "loop.example/g00963/laws.FnExactTermOk" = some 3 by kernel_rfl).symm.trans hf) |>.symm
      obtain rfl : fn = Tryd.f3 := (Option.some.inj (Tryd.func3.symm.trans hfn)).symm
      exact ⟨by kernel_rfl, fun j t ht => by
        rw [Tryd.params3] at ht
        have hm : t = 9 := by
          rcases j with _ | j
          · have := ht.symm; simp at this; omega
          · simp at ht
        rcases hm with rfl
        · exact (show Tryd.prog.wantsStandIn 9 = false by kernel_rfl)⟩)
    (by kernel_rfl)
end Go.Proofs.YtefiapcfdabfpaaDoor.fnExactTermOk
namespace Go.Proofs.YtefiapcfdabfpaaDoor
/-- The tied card, under a short name, for the claim. -/
theorem fnExactTermOk_holds : Rows.FnExactTermOkCardSaid := fnExactTermOk.card_holds
end Go.Proofs.YtefiapcfdabfpaaDoor
