/- The contracts of Go functions of this seat: each call comes to what the Lean function of the same name says. -/
import Derived.Test.YtekmapilhomdgaaPx0
import Derived.Test.YtekmapilhomdgaaPx5
import Derived.Test.YtekmapilhomdgaaPx21
import Derived.Test.YtekmapilhomdgaaPx22
import Derived.Test.YtekmapilhomdgaaPx25
import Derived.Test.YtekmapilhomdgaaPx32
import Derived.Test.YtekmapilhomdgaaPx33
namespace Go.Proofs.Ytekmapilhomdgaa.P
open Go.RowKit Go.Proofs.YtekmapilhomdgaaW.PrintWords Go.Proofs.YtekmapilhomdgaaW.PrintLast Go.Proofs.YtekmapilhomdgaaW.PrintMore
attribute [local go_sem] max2_int min2_int max_two min_two max_three min_three max_four min_four   -- for this text's walks alone
set_option linter.unusedVariables false
set_option linter.unusedSimpArgs false

/-! ### impl_SpanDo: function 22 -/
mutual
def impl_SpanDo.l0 : Nat → Int → List Int → List Int → Int → Int → Bool → Int → Int → Option (Bool × Int × Int)
  | 0, _, _, _, _, _, _, _, _ => none
  | k + 1, x0, x7, x20, x21, x22, x438000, x438001, x438002 => if x22 < x21 then (if 0 ≤ x22 then (if x22 < (x20.length : Int) then ((impl_Span_words.f k x438000 x438001 x438002).bind fun t444 => (impl_SpanDo.l1 k x0 x7 (rd x20 x22) x20 x21 x22 t444 (t444.length : Int) 0 x438000 x438001 x438002)) else (none)) else (none)) else ((slices_ContainsFunc_int_int__impl_SpanDo_1.f k x7).bind fun t453 => (if t453 = true then ((impl_allWords.f).bind fun bt454 => (some (bt454.1, bt454.2.1, bt454.2.2))) else ((impl_spanned.f k x7).bind fun bt457 => (some (bt457.1, bt457.2.1, bt457.2.2)))))
def impl_SpanDo.l1 : Nat → Int → List Int → Int → List Int → Int → Int → List Int → Int → Int → Bool → Int → Int → Option (Bool × Int × Int)
  | 0, _, _, _, _, _, _, _, _, _, _, _, _ => none
  | k + 1, x0, x7, x9, x20, x21, x22, x27, x28, x29, x438000, x438001, x438002 => if x29 < x28 then (if 0 ≤ x29 then (if x29 < (x27.length : Int) then ((impl_raw.f x0 x9 (rd x27 x29)).bind fun bt448 => (if bt448.2 = true then (if x7.length < 17592186044416 then (impl_SpanDo.l1 k x0 (x7 ++ [bt448.1]) x9 x20 x21 x22 x27 x28 (wrap64 (x29 + 1)) x438000 x438001 x438002) else (none)) else (impl_SpanDo.l1 k x0 x7 x9 x20 x21 x22 x27 x28 (wrap64 (x29 + 1)) x438000 x438001 x438002))) else (none)) else (none)) else (impl_SpanDo.l0 k x0 x7 x20 x21 (wrap64 (x22 + 1)) x438000 x438001 x438002)
end
def impl_SpanDo.f (k : Nat) (a0 : Int) (a1_0 : Bool) (a1_1 : Int) (a1_2 : Int) (a2_0 : Bool) (a2_1 : Int) (a2_2 : Int) : Option (Bool × Int × Int) := (impl_bothOk.f a1_0 a1_1 a1_2 a2_0 a2_1 a2_2).bind fun t439 => (if t439 = true then ((impl_Span_words.f k a1_0 a1_1 a1_2).bind fun t440 => (impl_SpanDo.l0 k a0 ([] : List Int) t440 (t440.length : Int) 0 a2_0 a2_1 a2_2)) else (some (false, 0, 0)))
theorem impl_SpanDo.mono_l : ∀ k, (∀ y0 y1 y2 y3 y4 y5 y6 y7, LeO (impl_SpanDo.l0 k y0 y1 y2 y3 y4 y5 y6 y7) (impl_SpanDo.l0 (k + 1) y0 y1 y2 y3 y4 y5 y6 y7)) ∧ (∀ y0 y1 y2 y3 y4 y5 y6 y7 y8 y9 y10 y11, LeO (impl_SpanDo.l1 k y0 y1 y2 y3 y4 y5 y6 y7 y8 y9 y10 y11) (impl_SpanDo.l1 (k + 1) y0 y1 y2 y3 y4 y5 y6 y7 y8 y9 y10 y11))
  | 0 => ⟨fun _ _ _ _ _ _ _ _ r h => by simp [impl_SpanDo.l0] at h, fun _ _ _ _ _ _ _ _ _ _ _ _ r h => by simp [impl_SpanDo.l1] at h⟩
  | k + 1 => by
    obtain ⟨ih0, ih1⟩ := impl_SpanDo.mono_l k
    refine ⟨?_, ?_⟩
    · intro y0 y1 y2 y3 y4 y5 y6 y7
      unfold impl_SpanDo.l0
      repeat' first
      | (with_reducible exact ih0 _ _ _ _ _ _ _ _)
      | (with_reducible exact ih1 _ _ _ _ _ _ _ _ _ _ _ _)
      | (with_reducible exact impl_Span_words.mono _ _ _ _)
      | (with_reducible exact impl_spanned.mono _ _)
      | (with_reducible exact slices_ContainsFunc_int_int__impl_SpanDo_1.mono _ _)
      | (with_reducible exact LeO.refl _)
      | (with_reducible exact LeO.none _)
      | (with_reducible refine LeO.ite ?_ ?_)
      | (with_reducible refine LeO.bind ?_ (fun _ => ?_))
      | exact ih0 _ _ _ _ _ _ _ _
      | exact ih1 _ _ _ _ _ _ _ _ _ _ _ _
      | exact impl_Span_words.mono _ _ _ _
      | exact impl_spanned.mono _ _
      | exact slices_ContainsFunc_int_int__impl_SpanDo_1.mono _ _
      | exact LeO.none _
      | refine LeO.ite ?_ ?_
      | refine LeO.bind ?_ (fun _ => ?_)
    · intro y0 y1 y2 y3 y4 y5 y6 y7 y8 y9 y10 y11
      unfold impl_SpanDo.l1
      repeat' first
      | (with_reducible exact ih0 _ _ _ _ _ _ _ _)
      | (with_reducible exact ih1 _ _ _ _ _ _ _ _ _ _ _ _)
      | (with_reducible exact impl_Span_words.mono _ _ _ _)
      | (with_reducible exact impl_spanned.mono _ _)
      | (with_reducible exact slices_ContainsFunc_int_int__impl_SpanDo_1.mono _ _)
      | (with_reducible exact LeO.refl _)
      | (with_reducible exact LeO.none _)
      | (with_reducible refine LeO.ite ?_ ?_)
      | (with_reducible refine LeO.bind ?_ (fun _ => ?_))
      | exact ih0 _ _ _ _ _ _ _ _
      | exact ih1 _ _ _ _ _ _ _ _ _ _ _ _
      | exact impl_Span_words.mono _ _ _ _
      | exact impl_spanned.mono _ _
      | exact slices_ContainsFunc_int_int__impl_SpanDo_1.mono _ _
      | exact LeO.none _
      | refine LeO.ite ?_ ?_
      | refine LeO.bind ?_ (fun _ => ?_)
theorem impl_SpanDo.mono : ∀ a0 a1 a2 a3 a4 a5 a6 k, LeO (impl_SpanDo.f k a0 a1 a2 a3 a4 a5 a6) (impl_SpanDo.f (k + 1) a0 a1 a2 a3 a4 a5 a6) := by
  intro a0 a1 a2 a3 a4 a5 a6 k
  obtain ⟨ih0, ih1⟩ := impl_SpanDo.mono_l k
  unfold impl_SpanDo.f
  repeat' first
      | (with_reducible exact ih0 _ _ _ _ _ _ _ _)
      | (with_reducible exact ih1 _ _ _ _ _ _ _ _ _ _ _ _)
      | (with_reducible exact impl_Span_words.mono _ _ _ _)
      | (with_reducible exact impl_spanned.mono _ _)
      | (with_reducible exact slices_ContainsFunc_int_int__impl_SpanDo_1.mono _ _)
      | (with_reducible exact LeO.refl _)
      | (with_reducible exact LeO.none _)
      | (with_reducible refine LeO.ite ?_ ?_)
      | (with_reducible refine LeO.bind ?_ (fun _ => ?_))
      | exact ih0 _ _ _ _ _ _ _ _
      | exact ih1 _ _ _ _ _ _ _ _ _ _ _ _
      | exact impl_Span_words.mono _ _ _ _
      | exact impl_spanned.mono _ _
      | exact slices_ContainsFunc_int_int__impl_SpanDo_1.mono _ _
      | exact LeO.none _
      | refine LeO.ite ?_ ?_
      | refine LeO.bind ?_ (fun _ => ?_)
set_option maxHeartbeats 8000000 in
set_option maxRecDepth 100000 in
theorem impl_SpanDo.calls (k : Nat) (a0 : Int) (a1_0 : Bool) (a1_1 : Int) (a1_2 : Int) (a2_0 : Bool) (a2_1 : Int) (a2_2 : Int) (r1 : Bool) (r2 : Int) (r3 : Int) (w : World) (h : impl_SpanDo.f k a0 a1_0 a1_1 a1_2 a2_0 a2_1 a2_2 = some (r1, r2, r3)) :
    Calls Try.prog 22 #[.int .i64 a0, .agg #[.bool a1_0, .int .i64 a1_1, .int .i64 a1_2], .agg #[.bool a2_0, .int .i64 a2_1, .int .i64 a2_2]] w fun e w' => e = .returned (.agg #[.bool r1, .int .i64 r2, .int .i64 r3]) ∧ Below w.heap.size w w' := by
  have hu30 := Try.underlying30
  have HB := Bl.mk (Below.refl w.heap.size w)
  unfold impl_SpanDo.f at h
  have H := h
  clear h
  replace H := Option.bind_eq_some_iff.mp H
  obtain ⟨t439, A40, H⟩ := H
  try dsimp only at H
  have A4 := Aside0.mk A40
  clear A40
  by_cases c5 : t439 = true
  · subst c5
    rw [if_pos rfl] at H
    replace H := Option.bind_eq_some_iff.mp H
    obtain ⟨t440, A60, H⟩ := H
    try dsimp only at H
    have A6 := Aside0.mk A60
    clear A60
    have H' := Aside0.mk H
    clear H
    go_enter Try.func22, Try.ntmps22
    go_wp2_with (first | ((with_reducible refine gate_dst (N := 4) rfl ?_); refine box_event ?hg (N := 4) ?hd (cs := #[.bool a1_0, .int .i64 a1_1, .int .i64 a1_2]) (t := 30) ?hr ?_; (case hd => rfl); (case hg => rfl); (case hr => first | (go_simp; done) | (go_simp; rfl)); intro gb436 hg w7 hbox hb; have n0_ := Bl.mk (below_step bl hb); have n1_ := Bk.mk (hbox); have n2_ := Aside0.mk ((by rw [hg]; exact (below_size bl) : w.heap.size ≤ gb436)); have n3_ := Gl.mk ((by rw [hg]; exact (below_size bl) : w.heap.size ≤ gb436)); clear HB; have HB := n0_; have BK436 := n1_; have GW436 := n2_; have GE436 := n3_; clear n0_ n1_ n2_ n3_; clear hb hbox hg) | ((with_reducible refine gate_dst (N := 5) rfl ?_); refine box_event ?hg (N := 5) ?hd (cs := #[.bool a2_0, .int .i64 a2_1, .int .i64 a2_2]) (t := 30) ?hr ?_; (case hd => rfl); (case hg => rfl); (case hr => first | (go_simp; done) | (go_simp; rfl)); intro gb437 hg w8 hbox hb; have n0_ := Bk.mk (blk_below (g := gb436) bk hb); have n1_ := Bl.mk (below_step bl hb); have n2_ := Bk.mk (hbox); have n3_ := Aside0.mk ((by rw [hg]; exact (below_size bl) : w.heap.size ≤ gb437)); have n4_ := Gl.mk ((by rw [hg]; exact (below_size bl) : w.heap.size ≤ gb437)); have n5_ := Nb.mk ((by rw [hg]; exact Nat.ne_of_lt (blk_lt (g := gb436) bk) : gb436 ≠ gb437)); have n6_ := Nb.mk ((by rw [hg]; exact Nat.ne_of_gt (blk_lt (g := gb436) bk) : gb437 ≠ gb436)); clear BK436; clear HB; have BK436 := n0_; have HB := n1_; have BK437 := n2_; have GW437 := n3_; have GE437 := n4_; have NB436_437 := n5_; have NB437_436 := n6_; clear n0_ n1_ n2_ n3_ n4_ n5_ n6_; clear hb hbox hg) | ((with_reducible refine gate_dst (N := 6) rfl ?_); refine box_event ?hg (N := 6) ?hd (cs := #[.bool false, .int .i64 0, .int .i64 0]) (t := 30) ?hr ?_; (case hd => rfl); (case hg => rfl); (case hr => first | (go_simp; done) | (go_simp; rfl)); intro gb438 hg w9 hbox hb; have n0_ := Bk.mk (blk_below (g := gb436) bk hb); have n1_ := Bk.mk (blk_below (g := gb437) bk hb); have n2_ := Bl.mk (below_step bl hb); have n3_ := Bk.mk (hbox); have n4_ := Aside0.mk ((by rw [hg]; exact (below_size bl) : w.heap.size ≤ gb438)); have n5_ := Gl.mk ((by rw [hg]; exact (below_size bl) : w.heap.size ≤ gb438)); have n6_ := Nb.mk ((by rw [hg]; exact Nat.ne_of_lt (blk_lt (g := gb436) bk) : gb436 ≠ gb438)); have n7_ := Nb.mk ((by rw [hg]; exact Nat.ne_of_gt (blk_lt (g := gb436) bk) : gb438 ≠ gb436)); have n8_ := Nb.mk ((by rw [hg]; exact Nat.ne_of_lt (blk_lt (g := gb437) bk) : gb437 ≠ gb438)); have n9_ := Nb.mk ((by rw [hg]; exact Nat.ne_of_gt (blk_lt (g := gb437) bk) : gb438 ≠ gb437)); clear BK436; clear BK437; clear HB; have BK436 := n0_; have BK437 := n1_; have HB := n2_; have BK438 := n3_; have GW438 := n4_; have GE438 := n5_; have NB436_438 := n6_; have NB438_436 := n7_; have NB437_438 := n8_; have NB438_437 := n9_; clear n0_ n1_ n2_ n3_ n4_ n5_ n6_ n7_ n8_ n9_; clear hb hbox hg; have hnb10 := NB436_437.out; have hnc10 := NB437_436.out; have hnb11 := NB436_438.out; have hnc11 := NB438_436.out; have hcz12_0 := bc0 BK436.out; have hcz12_1 := bc1 BK436.out; have hcz12_2 := bc2 BK436.out; have hfz12_0 := blk_frozen BK436.out 0; have hfz12_1 := blk_frozen BK436.out 1; have hfz12_2 := blk_frozen BK436.out 2; have hnb13 := NB437_438.out; have hnc13 := NB438_437.out; have hcz14_0 := bc0 BK437.out; have hcz14_1 := bc1 BK437.out; have hcz14_2 := bc2 BK437.out; have hfz14_0 := blk_frozen BK437.out 0; have hfz14_1 := blk_frozen BK437.out 1; have hfz14_2 := blk_frozen BK437.out 2) | ((with_reducible refine gate_callee (f := 45) rfl ?_); refine goesL_ (some 16) rfl rfl Try.func45 (by kernel_rfl) rfl #[.agg #[.bool a1_0, .int .i64 a1_1, .int .i64 a1_2], .agg #[.bool a2_0, .int .i64 a2_1, .int .i64 a2_2]] rfl (by (try simp only [List.map_toArray, List.map_cons, List.map_nil]); first | done | rfl | (simp only [List.length_drop, List.length_take]; rfl)) ?_; (with_reducible refine (impl_bothOk.calls a1_0 a1_1 a1_2 a2_0 a2_1 a2_2 true _ A4.out).mono ?_); rintro e w15 ⟨rfl, hb⟩; refine ⟨_, rfl, ?_⟩; have n0_ := Bk.mk (blk_below (g := gb436) bk hb); have n1_ := Bk.mk (blk_below (g := gb437) bk hb); have n2_ := Bk.mk (blk_below (g := gb438) bk hb); have n3_ := Bl.mk (below_step bl hb); clear BK436; clear BK437; clear BK438; clear HB; have BK436 := n0_; have BK437 := n1_; have BK438 := n2_; have HB := n3_; clear n0_ n1_ n2_ n3_; (try clear hb); (try clear hb2); (try clear hk); (try clear hi); have hcz16_0 := bc0 BK436.out; have hcz16_1 := bc1 BK436.out; have hcz16_2 := bc2 BK436.out; have hfz16_0 := blk_frozen BK436.out 0; have hfz16_1 := blk_frozen BK436.out 1; have hfz16_2 := blk_frozen BK436.out 2) | ((with_reducible refine gate_callee (f := 46) rfl ?_); refine goesL_ (some 20) rfl rfl Try.func46 (by kernel_rfl) rfl #[.agg #[.bool a1_0, .int .i64 a1_1, .int .i64 a1_2]] rfl (by (try simp only [List.map_toArray, List.map_cons, List.map_nil]); first | done | rfl | (simp only [List.length_drop, List.length_take]; rfl)) ?_; (with_reducible refine (impl_Span_words.calls k a1_0 a1_1 a1_2 t440 _ A6.out).mono ?_); rintro e w17 ⟨v441, rfl, ho0, hb⟩; refine ⟨_, rfl, ?_⟩; have n0_ := Aside0.mk (Kd.R_lower ho0 (below_size bl)); have n1_ := Bk.mk (blk_below (g := gb436) bk hb); have n2_ := Bk.mk (blk_below (g := gb437) bk hb); have n3_ := Bk.mk (blk_below (g := gb438) bk hb); have n4_ := Bl.mk (below_step bl hb); clear BK436; clear BK437; clear BK438; clear HB; have HO442 := n0_; have BK436 := n1_; have BK437 := n2_; have BK438 := n3_; have HB := n4_; clear n0_ n1_ n2_ n3_ n4_; (try clear hb); (try clear hb2); (try clear hk); (try clear hi); (try clear ho0); obtain ⟨Ao18, co18, eo18⟩ := Kd.R_slice HO442.out; subst eo18))
    go_loopg [7, 22] k (fun kq v7 v22 w' => ∃ (x7_1 : List Int) (x22_1 : Int), v22 = .int .i64 x22_1 ∧ Aside0 (impl_SpanDo.l0 kq a0 x7_1 t440 (t440.length : Int) x22_1 a2_0 a2_1 a2_2 = some (r1, r2, r3)) ∧ Aside0 (kq ≤ k) ∧ Aside0 (Kd.R (Kd.int .i64) 3 w' w.heap.size (fun k_ => some k_ ≠ ((.slice Ao18 t440.length co18) : Value).ownBlock) v7 x7_1) ∧ Aside0 (Kd.R (Kd.int .i64) 3 w' w.heap.size (fun k_ => some k_ ≠ (v7 : Value).ownBlock) (.slice Ao18 t440.length co18) t440) ∧ Bk w' gb436 (.cells #[.bool a1_0, .int .i64 a1_1, .int .i64 a1_2] 30 (0, 0)) ∧ Bk w' gb437 (.cells #[.bool a2_0, .int .i64 a2_1, .int .i64 a2_2] 30 (0, 0)) ∧ Bk w' gb438 (.cells #[.bool false, .int .i64 0, .int .i64 0] 30 (0, 0)) ∧ Bl w.heap.size w w')
    case atStart => exact ⟨(([] : List Int)), (0), (by first | rfl | (simp; done) | (simp [*]; done)), H', ⟨Nat.le_refl _⟩, ⟨by first | exact Kd.R_nil _ _ _ _ _ | exact Kd.N_nil _ _ _ _ _ | exact Kd.V_nil _ _ _ _ _ | exact Kd.Q_nil _ _ _ _ _ | exact Kd.S_nil _ _ _ _ _⟩, ⟨by (with_reducible repeat (first | apply Kd.R_alloc | apply Kd.R_drewN | apply Kd.R_drew)); exact Kd.R_mono HO442.out (fun _ hk => (by simp [Value.ownBlock]))⟩, ⟨bk⟩, ⟨bk⟩, ⟨bk⟩, ⟨bl⟩⟩
    case round =>
      clear H'
      try clear c1
      try clear c2
      try clear p2
      try clear c4
      try clear c5
      try clear c10
      try clear c11
      try clear c13
      try clear hcz12_0
      try clear hcz12_1
      try clear hcz12_2
      try clear hcz14_0
      try clear hcz14_1
      try clear hcz14_2
      try clear hcz16_0
      try clear hcz16_1
      try clear hcz16_2
      try clear hfz12_0
      try clear hfz12_1
      try clear hfz12_2
      try clear hfz14_0
      try clear hfz14_1
      try clear hfz14_2
      try clear hfz16_0
      try clear hfz16_1
      try clear hfz16_2
      obtain ⟨x7_1, x22_1, rfl, HA, HK1, HO_7, HO_20, BK436, BK437, BK438, HB⟩ := hrel
      cases gk with
      | zero => exact absurd HA.out (by simp [impl_SpanDo.l0])
      | succ k1 =>
        have H := HA.out
        clear HA
        simp only [impl_SpanDo.l0] at H
        by_cases c19 : x22_1 < (t440.length : Int)
        · rw [if_pos c19] at H
          have c19b0 : decide (x22_1 < (t440.length : Int)) = true := decide_eq_true c19
          clear c19
          by_cases c20 : 0 ≤ x22_1
          · rw [if_pos c20] at H
            have c20b0 : decide (0 ≤ x22_1) = true := decide_eq_true c20
            clear c20
            by_cases c21 : x22_1 < (t440.length : Int)
            · rw [if_pos c21] at H
              have c21b0 : decide (x22_1 < (t440.length : Int)) = true := decide_eq_true c21
              clear c21
              replace H := Option.bind_eq_some_iff.mp H
              obtain ⟨t444, A220, H⟩ := H
              try dsimp only at H
              have A22 := Aside0.mk A220
              clear A220
              have H' := Aside0.mk H
              clear H
              have p443 : 0 ≤ (x22_1 : Int) := of_decide_eq_true (by first | (with_reducible assumption) | assumption)
              have q443 : x22_1 < (t440.length : Int) := of_decide_eq_true (by first | (with_reducible assumption) | assumption)
              obtain ⟨ad443, e443, hx443_0⟩ := Kd.at_int (Kd.R_reads' HO_20.out).2.2 x22_1 p443 q443
              cases e443
              replace p443 := eq_true p443
              replace q443 := eq_true q443
              have hnb23 := NB437_436.out
              have hnc23 := NB436_437.out
              have hnb24 := NB437_438.out
              have hnc24 := NB438_437.out
              have hcz25_0 := bc0 BK437.out
              have hcz25_1 := bc1 BK437.out
              have hcz25_2 := bc2 BK437.out
              have hfz25_0 := blk_frozen BK437.out 0
              have hfz25_1 := blk_frozen BK437.out 1
              have hfz25_2 := blk_frozen BK437.out 2
              go_wp2_with (first | ((with_reducible refine gate_callee (f := 46) rfl ?_); refine goesL_ (some 27) rfl rfl Try.func46 (by kernel_rfl) rfl #[.agg #[.bool a2_0, .int .i64 a2_1, .int .i64 a2_2]] rfl (by (try simp only [List.map_toArray, List.map_cons, List.map_nil]); first | done | rfl | (simp only [List.length_drop, List.length_take]; rfl)) ?_; (with_reducible refine (impl_Span_words.calls k1 a2_0 a2_1 a2_2 t444 _ A22.out).mono ?_); rintro e w26 ⟨v445, rfl, ho0, hb⟩; refine ⟨_, rfl, ?_⟩; have n0_ := Aside0.mk (Kd.R_elder' (by (with_reducible repeat (first | apply Kd.R_alloc | apply Kd.R_drewN | apply Kd.R_drew)); exact HO_7.out) (Kd.R_base ho0) hb); have n1_ := Aside0.mk (Kd.R_elder' (by (with_reducible repeat (first | apply Kd.R_alloc | apply Kd.R_drewN | apply Kd.R_drew)); exact HO_20.out) (Kd.R_base ho0) hb); have n2_ := Aside0.mk (Kd.R_lower (Kd.R_new' (Kd.R_new' ho0 (Kd.R_lt (by (with_reducible repeat (first | apply Kd.R_alloc | apply Kd.R_drewN | apply Kd.R_drew)); exact HO_7.out))) (Kd.R_lt (by (with_reducible repeat (first | apply Kd.R_alloc | apply Kd.R_drewN | apply Kd.R_drew)); exact HO_20.out))) (below_size bl)); have n3_ := Bk.mk (blk_below (g := gb436) bk hb); have n4_ := Bk.mk (blk_below (g := gb437) bk hb); have n5_ := Bk.mk (blk_below (g := gb438) bk hb); have n6_ := Bl.mk (below_step bl hb); clear HO_7; clear HO_20; clear BK436; clear BK437; clear BK438; clear HB; have HO_7 := n0_; have HO_20 := n1_; have HO446 := n2_; have BK436 := n3_; have BK437 := n4_; have BK438 := n5_; have HB := n6_; clear n0_ n1_ n2_ n3_ n4_ n5_ n6_; (try clear hb); (try clear hb2); (try clear hk); (try clear hi); (try clear ho0); obtain ⟨Ao27, co27, eo27⟩ := Kd.R_slice HO446.out; subst eo27))
              go_loopg [7, 29] k1 (fun kq v7 v29 w' => ∃ (x7_2 : List Int) (x29_2 : Int), v29 = .int .i64 x29_2 ∧ Aside0 (impl_SpanDo.l1 kq a0 x7_2 (rd t440 x22_1) t440 (t440.length : Int) x22_1 t444 (t444.length : Int) x29_2 a2_0 a2_1 a2_2 = some (r1, r2, r3)) ∧ Aside0 (kq ≤ k1) ∧ Aside0 (Kd.R (Kd.int .i64) 3 w' w.heap.size (fun k_ => some k_ ≠ ((.slice (some ad443) t440.length co18) : Value).ownBlock ∧ some k_ ≠ ((.slice Ao27 t444.length co27) : Value).ownBlock) v7 x7_2) ∧ Aside0 (Kd.R (Kd.int .i64) 3 w' w.heap.size (fun k_ => some k_ ≠ (v7 : Value).ownBlock ∧ some k_ ≠ ((.slice Ao27 t444.length co27) : Value).ownBlock) (.slice (some ad443) t440.length co18) t440) ∧ Aside0 (Kd.R (Kd.int .i64) 3 w' w.heap.size (fun k_ => some k_ ≠ (v7 : Value).ownBlock ∧ some k_ ≠ ((.slice (some ad443) t440.length co18) : Value).ownBlock) (.slice Ao27 t444.length co27) t444) ∧ Bk w' gb436 (.cells #[.bool a1_0, .int .i64 a1_1, .int .i64 a1_2] 30 (0, 0)) ∧ Bk w' gb437 (.cells #[.bool a2_0, .int .i64 a2_1, .int .i64 a2_2] 30 (0, 0)) ∧ Bk w' gb438 (.cells #[.bool false, .int .i64 0, .int .i64 0] 30 (0, 0)) ∧ Bl w.heap.size w w')
              case atStart => exact ⟨(x7_1), (0), (by first | rfl | (simp; done) | (simp [*]; done)), H', ⟨Nat.le_refl _⟩, ⟨by (with_reducible repeat (first | apply Kd.R_alloc | apply Kd.R_drewN | apply Kd.R_drew)); exact HO_7.out⟩, ⟨by (with_reducible repeat (first | apply Kd.R_alloc | apply Kd.R_drewN | apply Kd.R_drew)); exact HO_20.out⟩, ⟨by (with_reducible repeat (first | apply Kd.R_alloc | apply Kd.R_drewN | apply Kd.R_drew)); exact Kd.R_mono HO446.out (fun _ hk => ⟨hk.1.2, hk.2⟩)⟩, ⟨bk⟩, ⟨bk⟩, ⟨bk⟩, ⟨bl⟩⟩
              case round =>
                clear H'
                try clear c1
                try clear c2
                try clear p2
                try clear c4
                try clear p4
                try clear q4
                try clear hx4
                try clear c5
                try clear c10
                try clear c11
                try clear c13
                try clear c19
                try clear c19b0
                try clear c20
                try clear c20b0
                try clear c21
                try clear c21b0
                try clear c22
                try clear c23
                try clear c24
                try clear hcz12_0
                try clear hcz12_1
                try clear hcz12_2
                try clear hcz14_0
                try clear hcz14_1
                try clear hcz14_2
                try clear hcz16_0
                try clear hcz16_1
                try clear hcz16_2
                try clear hcz25_0
                try clear hcz25_1
                try clear hcz25_2
                try clear hfz12_0
                try clear hfz12_1
                try clear hfz12_2
                try clear hfz14_0
                try clear hfz14_1
                try clear hfz14_2
                try clear hfz16_0
                try clear hfz16_1
                try clear hfz16_2
                try clear hfz25_0
                try clear hfz25_1
                try clear hfz25_2
                try clear hx443_0
                try clear p2
                try clear p443
                try clear q443
                obtain ⟨x7_2, x29_2, rfl, HA, HK2, HO_7, HO_20, HO_27, BK436, BK437, BK438, HB⟩ := hrel
                cases gk with
                | zero => exact absurd HA.out (by simp [impl_SpanDo.l1])
                | succ k2 =>
                  have H := HA.out
                  clear HA
                  simp only [impl_SpanDo.l1] at H
                  by_cases c28 : x29_2 < (t444.length : Int)
                  · rw [if_pos c28] at H
                    have c28b0 : decide (x29_2 < (t444.length : Int)) = true := decide_eq_true c28
                    clear c28
                    by_cases c29 : 0 ≤ x29_2
                    · rw [if_pos c29] at H
                      have c29b0 : decide (0 ≤ x29_2) = true := decide_eq_true c29
                      clear c29
                      by_cases c30 : x29_2 < (t444.length : Int)
                      · rw [if_pos c30] at H
                        have c30b0 : decide (x29_2 < (t444.length : Int)) = true := decide_eq_true c30
                        clear c30
                        replace H := Option.bind_eq_some_iff.mp H
                        obtain ⟨⟨t448, t449⟩, A310, H⟩ := H
                        try dsimp only at H
                        have A31 := Aside0.mk A310
                        clear A310
                        by_cases c32 : t449 = true
                        · subst c32
                          rw [if_pos rfl] at H
                          by_cases c33 : x7_2.length < 17592186044416
                          · rw [if_pos c33] at H
                            have LMc33 := Aside0.mk c33
                            clear c33
                            obtain ⟨y450, hy450⟩ : ∃ y_ : List Int, y_ = (x7_2 ++ [t448]) := ⟨_, rfl⟩
                            replace H : (impl_SpanDo.l1 k2 a0 y450 (rd t440 x22_1) t440 (t440.length : Int) x22_1 t444 (t444.length : Int) (wrap64 (x29_2 + 1)) a2_0 a2_1 a2_2) = some (r1, r2, r3) := by first | (rw [hy450]; with_reducible exact H) | (have H2_ := (Option.bind_some _ _).symm.trans H; rw [hy450]; with_reducible exact H2_) | (have H2_ := (Option.bind_some _ _).symm.trans H; with_reducible exact H2_) | with_reducible exact H | (rw [hy450]; exact H) | exact H
                            have Ny450 := Aside0.mk hy450
                            clear hy450
                            have H' := Aside0.mk H
                            clear H
                            have p447 : 0 ≤ (x29_2 : Int) := of_decide_eq_true (by first | (with_reducible assumption) | assumption)
                            have q447 : x29_2 < (t444.length : Int) := of_decide_eq_true (by first | (with_reducible assumption) | assumption)
                            obtain ⟨ad447, e447, hx447_0⟩ := Kd.at_int (Kd.R_reads' HO_27.out).2.2 x29_2 p447 q447
                            cases e447
                            replace p447 := eq_true p447
                            replace q447 := eq_true q447
                            go_wp2_with (first | ((with_reducible refine gate_callee (f := 35) rfl ?_); refine goesL_ (some 37) rfl rfl Try.func35 (by kernel_rfl) rfl #[.int .i64 a0, .int .i64 (rd t440 x22_1), .int .i64 (rd t444 x29_2)] rfl (by (try simp only [List.map_toArray, List.map_cons, List.map_nil]); first | done | rfl | (simp only [List.length_drop, List.length_take]; rfl)) ?_; (with_reducible refine (impl_raw.calls a0 (rd t440 x22_1) (rd t444 x29_2) t448 true _ A31.out).mono ?_); rintro e w34 ⟨rfl, hb⟩; refine ⟨_, rfl, ?_⟩; have n0_ := Aside0.mk (Kd.R_below (by (with_reducible repeat (first | apply Kd.R_alloc | apply Kd.R_drewN | apply Kd.R_drew)); exact HO_7.out) hb); have n1_ := Aside0.mk (Kd.R_below (by (with_reducible repeat (first | apply Kd.R_alloc | apply Kd.R_drewN | apply Kd.R_drew)); exact HO_20.out) hb); have n2_ := Aside0.mk (Kd.R_below (by (with_reducible repeat (first | apply Kd.R_alloc | apply Kd.R_drewN | apply Kd.R_drew)); exact HO_27.out) hb); have n3_ := Bk.mk (blk_below (g := gb436) bk hb); have n4_ := Bk.mk (blk_below (g := gb437) bk hb); have n5_ := Bk.mk (blk_below (g := gb438) bk hb); have n6_ := Bl.mk (below_step bl hb); clear HO_7; clear HO_20; clear HO_27; clear BK436; clear BK437; clear BK438; clear HB; have HO_7 := n0_; have HO_20 := n1_; have HO_27 := n2_; have BK436 := n3_; have BK437 := n4_; have BK438 := n5_; have HB := n6_; clear n0_ n1_ n2_ n3_ n4_ n5_ n6_; (try clear hb); (try clear hb2); (try clear hk); (try clear hi)) | ((with_reducible refine gate_builtin (b := .append) (xs := #[.tmp 41, .tmp 43]) rfl ?_); at_builtin; refine Kd.R_append (Kd.int .i64) (w0 := w) w.heap.size rfl (.tmp 41) (.tmp 43) 56 3 (.int .i64 0) 8 rfl Try.underlying56 info3 rfl (by decide) (by omega) u7 x7_2 t448 [.int .i64 t448] (fun k_ => some k_ ≠ (.slice (some ad443) t440.length co18 : Value).ownBlock ∧ some k_ ≠ (.slice (some ad447) t444.length co27 : Value).ownBlock) (fun _ => False) rfl rfl ?aP (fun _ hk => hk.elim) ?aF ?aO ?aB ?aS ?aL ?_; (case aP => exact rfl); (case aB => exact bl); (case aF => exact (fun k_ hk => ⟨Kd.fresh' (Kd.R_lt (by (with_reducible repeat (first | apply Kd.R_alloc | apply Kd.R_drewN | apply Kd.R_drew)); exact HO_20.out)) k_ hk, Kd.fresh' (Kd.R_lt (by (with_reducible repeat (first | apply Kd.R_alloc | apply Kd.R_drewN | apply Kd.R_drew)); exact HO_27.out)) k_ hk⟩)); (case aO => exact (by (with_reducible repeat (first | apply Kd.R_alloc | apply Kd.R_drewN | apply Kd.R_drew)); exact HO_7.out)); (case aS => exact (below_size bl)); (case aL => have := LMc33.out; omega); intro v451 w35 ho hb hg hat; rw [← Ny450.out] at ho; have n0_ := Aside0.mk (Kd.R_after (ok := (fun k_ => some k_ ≠ (.slice (some ad447) t444.length co27 : Value).ownBlock)) (by (with_reducible repeat (first | apply Kd.R_alloc | apply Kd.R_drewN | apply Kd.R_drew)); exact Kd.R_mono HO_20.out (fun _ hk => ⟨hk.2, hk.1⟩)) hg hat); have n1_ := Aside0.mk (Kd.R_after (ok := (fun k_ => some k_ ≠ (.slice (some ad443) t440.length co18 : Value).ownBlock)) (by (with_reducible repeat (first | apply Kd.R_alloc | apply Kd.R_drewN | apply Kd.R_drew)); exact Kd.R_mono HO_27.out (fun _ hk => ⟨hk.2, hk.1⟩)) hg hat); have n2_ := Bk.mk (blk_grown (g := gb436) (o := .cells #[.bool a1_0, .int .i64 a1_1, .int .i64 a1_2] 30 (0, 0)) bk hg (Kd.R_ne HO_7.out BK436.out (by decide))); have n3_ := Bk.mk (blk_grown (g := gb437) (o := .cells #[.bool a2_0, .int .i64 a2_1, .int .i64 a2_2] 30 (0, 0)) bk hg (Kd.R_ne HO_7.out BK437.out (by decide))); have n4_ := Bk.mk (blk_grown (g := gb438) (o := .cells #[.bool false, .int .i64 0, .int .i64 0] 30 (0, 0)) bk hg (Kd.R_ne HO_7.out BK438.out (by decide))); have n5_ := Bl.mk (hb); have n6_ := Aside0.mk (ho); clear HO_20; clear HO_27; clear BK436; clear BK437; clear BK438; clear HB; clear HO_7; have HO_20 := n0_; have HO_27 := n1_; have BK436 := n2_; have BK437 := n3_; have BK438 := n4_; have HB := n5_; have HO452 := n6_; clear n0_ n1_ n2_ n3_ n4_ n5_ n6_; clear ho hb hg hat))
                            go_roundg k2
                            case measure => have := HK1.out; have := HK2.out; omega
                            case rel => exact ⟨(y450), (wrap64 (x29_2 + 1)), (by first | rfl | (simp; done) | (simp [*]; done)), H', ⟨by have := HK1.out; have := HK2.out; omega⟩, ⟨by (with_reducible repeat (first | apply Kd.R_alloc | apply Kd.R_drewN | apply Kd.R_drew)); exact HO452.out⟩, ⟨by (with_reducible repeat (first | apply Kd.R_alloc | apply Kd.R_drewN | apply Kd.R_drew)); exact Kd.R_mono HO_20.out (fun _ hk => ⟨hk.2, hk.1⟩)⟩, ⟨by (with_reducible repeat (first | apply Kd.R_alloc | apply Kd.R_drewN | apply Kd.R_drew)); exact Kd.R_mono HO_27.out (fun _ hk => ⟨hk.2, hk.1⟩)⟩, ⟨bk⟩, ⟨bk⟩, ⟨bk⟩, ⟨bl⟩⟩
                          · rw [if_neg c33] at H
                            exact absurd H (by simp)
                        · replace c32 := Bool.eq_false_iff.mpr c32
                          subst c32
                          rw [if_neg (show ¬ (false = true) by decide)] at H
                          have H' := Aside0.mk H
                          clear H
                          have p447 : 0 ≤ (x29_2 : Int) := of_decide_eq_true (by first | (with_reducible assumption) | assumption)
                          have q447 : x29_2 < (t444.length : Int) := of_decide_eq_true (by first | (with_reducible assumption) | assumption)
                          obtain ⟨ad447, e447, hx447_0⟩ := Kd.at_int (Kd.R_reads' HO_27.out).2.2 x29_2 p447 q447
                          cases e447
                          replace p447 := eq_true p447
                          replace q447 := eq_true q447
                          go_wp2_with (first | ((with_reducible refine gate_callee (f := 35) rfl ?_); refine goesL_ (some 37) rfl rfl Try.func35 (by kernel_rfl) rfl #[.int .i64 a0, .int .i64 (rd t440 x22_1), .int .i64 (rd t444 x29_2)] rfl (by (try simp only [List.map_toArray, List.map_cons, List.map_nil]); first | done | rfl | (simp only [List.length_drop, List.length_take]; rfl)) ?_; (with_reducible refine (impl_raw.calls a0 (rd t440 x22_1) (rd t444 x29_2) t448 false _ A31.out).mono ?_); rintro e w36 ⟨rfl, hb⟩; refine ⟨_, rfl, ?_⟩; have n0_ := Aside0.mk (Kd.R_below (by (with_reducible repeat (first | apply Kd.R_alloc | apply Kd.R_drewN | apply Kd.R_drew)); exact HO_7.out) hb); have n1_ := Aside0.mk (Kd.R_below (by (with_reducible repeat (first | apply Kd.R_alloc | apply Kd.R_drewN | apply Kd.R_drew)); exact HO_20.out) hb); have n2_ := Aside0.mk (Kd.R_below (by (with_reducible repeat (first | apply Kd.R_alloc | apply Kd.R_drewN | apply Kd.R_drew)); exact HO_27.out) hb); have n3_ := Bk.mk (blk_below (g := gb436) bk hb); have n4_ := Bk.mk (blk_below (g := gb437) bk hb); have n5_ := Bk.mk (blk_below (g := gb438) bk hb); have n6_ := Bl.mk (below_step bl hb); clear HO_7; clear HO_20; clear HO_27; clear BK436; clear BK437; clear BK438; clear HB; have HO_7 := n0_; have HO_20 := n1_; have HO_27 := n2_; have BK436 := n3_; have BK437 := n4_; have BK438 := n5_; have HB := n6_; clear n0_ n1_ n2_ n3_ n4_ n5_ n6_; (try clear hb); (try clear hb2); (try clear hk); (try clear hi)))
                          go_roundg k2
                          case measure => have := HK1.out; have := HK2.out; omega
                          case rel => exact ⟨(x7_2), (wrap64 (x29_2 + 1)), (by first | rfl | (simp; done) | (simp [*]; done)), H', ⟨by have := HK1.out; have := HK2.out; omega⟩, ⟨by (with_reducible repeat (first | apply Kd.R_alloc | apply Kd.R_drewN | apply Kd.R_drew)); exact HO_7.out⟩, ⟨by (with_reducible repeat (first | apply Kd.R_alloc | apply Kd.R_drewN | apply Kd.R_drew)); exact HO_20.out⟩, ⟨by (with_reducible repeat (first | apply Kd.R_alloc | apply Kd.R_drewN | apply Kd.R_drew)); exact HO_27.out⟩, ⟨bk⟩, ⟨bk⟩, ⟨bk⟩, ⟨bl⟩⟩
                      · rw [if_neg c30] at H
                        exact absurd H (by simp)
                    · rw [if_neg c29] at H
                      exact absurd H (by simp)
                  · rw [if_neg c28] at H
                    have c28b0 : decide (x29_2 < (t444.length : Int)) = false := decide_eq_false c28
                    clear c28
                    have H' := Aside0.mk H
                    clear H
                    go_wp2
                    go_roundg k2
                    case measure => have := HK1.out; have := HK2.out; omega
                    case rel => exact ⟨(x7_2), (wrap64 (x22_1 + 1)), (by first | rfl | (simp; done) | (simp [*]; done)), H', ⟨by have := HK1.out; have := HK2.out; omega⟩, ⟨by (with_reducible repeat (first | apply Kd.R_alloc | apply Kd.R_drewN | apply Kd.R_drew)); exact Kd.R_mono HO_7.out (fun _ hk => hk.1)⟩, ⟨by (with_reducible repeat (first | apply Kd.R_alloc | apply Kd.R_drewN | apply Kd.R_drew)); exact Kd.R_mono HO_20.out (fun _ hk => hk.1)⟩, ⟨bk⟩, ⟨bk⟩, ⟨bk⟩, ⟨bl⟩⟩
            · rw [if_neg c21] at H
              exact absurd H (by simp)
          · rw [if_neg c20] at H
            exact absurd H (by simp)
        · rw [if_neg c19] at H
          have c19b0 : decide (x22_1 < (t440.length : Int)) = false := decide_eq_false c19
          clear c19
          replace H := Option.bind_eq_some_iff.mp H
          obtain ⟨t453, A370, H⟩ := H
          try dsimp only at H
          have A37 := Aside0.mk A370
          clear A370
          by_cases c38 : t453 = true
          · subst c38
            rw [if_pos rfl] at H
            replace H := Option.bind_eq_some_iff.mp H
            obtain ⟨⟨t454, t455, t456⟩, A390, H⟩ := H
            try dsimp only at H
            have A39 := Aside0.mk A390
            clear A390
            simp only [Option.some.injEq, Prod.mk.injEq] at H
            obtain ⟨rfl, rfl, rfl⟩ := H
            obtain ⟨Ao40, co40, eo40⟩ := Kd.R_slice HO_7.out
            subst eo40
            go_wp2_with (first | ((with_reducible refine gate_callee (f := 50) rfl ?_); refine goesL_ (some 48) rfl rfl Try.func50 (by kernel_rfl) rfl #[.slice Ao40 x7_1.length co40, .func (.func 51) #[] #[]] rfl (by (try simp only [List.map_toArray, List.map_cons, List.map_nil]); first | done | rfl | (simp only [List.length_drop, List.length_take]; rfl)) ?_; (with_reducible refine (slices_ContainsFunc_int_int__impl_SpanDo_1.calls k1 _ _ x7_1  true _ ?side1 ?side2 A37.out).mono ?_); (case side1 => repeat (first | exact (Kd.R_reads' HO_7.out).2.2 | (with_reducible refine Kd.C_alloc ?_ _) | (with_reducible refine Kd.C_drewN ?_ _) | (with_reducible refine Kd.C_drew ?_))); (case side2 => exact (Kd.R_reads' HO_7.out).2.1); rintro e w' ⟨rfl, ⟨nd, rfl⟩⟩; refine ⟨_, rfl, ?_⟩; (try (rw [drewN_self wr]; generalize hq_ : World.drewN wr _ = wr; have n0_ : Aside0 (Kd.R (Kd.int .i64) 3 wr w.heap.size (fun k_ => some k_ ≠ (.slice Ao40 x7_1.length co40 : Value).ownBlock) (.slice Ao18 t440.length co18) t440) := ⟨by rw [← hq_]; exact (by (with_reducible repeat (first | apply Kd.R_alloc | apply Kd.R_drewN | apply Kd.R_drew)); exact HO_20.out)⟩; have n1_ : Aside0 (Kd.R (Kd.int .i64) 3 wr w.heap.size (fun k_ => some k_ ≠ (.slice Ao18 t440.length co18 : Value).ownBlock) (.slice Ao40 x7_1.length co40) x7_1) := ⟨by rw [← hq_]; exact (by (with_reducible repeat (first | apply Kd.R_alloc | apply Kd.R_drewN | apply Kd.R_drew)); exact HO_7.out)⟩; have n2_ : Bk wr gb436 (.cells #[.bool a1_0, .int .i64 a1_1, .int .i64 a1_2] 30 (0, 0)) := ⟨by rw [← hq_]; exact bk⟩; have n3_ : Bk wr gb437 (.cells #[.bool a2_0, .int .i64 a2_1, .int .i64 a2_2] 30 (0, 0)) := ⟨by rw [← hq_]; exact bk⟩; have n4_ : Bk wr gb438 (.cells #[.bool false, .int .i64 0, .int .i64 0] 30 (0, 0)) := ⟨by rw [← hq_]; exact bk⟩; have n5_ : Bl w.heap.size w wr := ⟨by rw [← hq_]; exact bl⟩; clear HO_20 HO_7 BK436 BK437 BK438 HB hq_; have HO_20 := n0_; have HO_7 := n1_; have BK436 := n2_; have BK437 := n3_; have BK438 := n4_; have HB := n5_; clear n0_ n1_ n2_ n3_ n4_ n5_))) | ((with_reducible refine gate_callee (f := 52) rfl ?_); refine goesL_ (some 49) rfl rfl Try.func52 (by kernel_rfl) rfl #[] rfl (by (try simp only [List.map_toArray, List.map_cons, List.map_nil]); first | done | rfl | (simp only [List.length_drop, List.length_take]; rfl)) ?_; (with_reducible refine (impl_allWords.calls  t454 t455 t456 _ A39.out).mono ?_); rintro e w41 ⟨rfl, hb⟩; refine ⟨_, rfl, ?_⟩; have n0_ := Aside0.mk (Kd.R_below (by (with_reducible repeat (first | apply Kd.R_alloc | apply Kd.R_drewN | apply Kd.R_drew)); exact HO_7.out) hb); have n1_ := Aside0.mk (Kd.R_below (by (with_reducible repeat (first | apply Kd.R_alloc | apply Kd.R_drewN | apply Kd.R_drew)); exact HO_20.out) hb); have n2_ := Bk.mk (blk_below (g := gb436) bk hb); have n3_ := Bk.mk (blk_below (g := gb437) bk hb); have n4_ := Bk.mk (blk_below (g := gb438) bk hb); have n5_ := Bl.mk (below_step bl hb); clear HO_7; clear HO_20; clear BK436; clear BK437; clear BK438; clear HB; have HO_7 := n0_; have HO_20 := n1_; have BK436 := n2_; have BK437 := n3_; have BK438 := n4_; have HB := n5_; clear n0_ n1_ n2_ n3_ n4_ n5_; (try clear hb); (try clear hb2); (try clear hk); (try clear hi); have hnb42 := NB438_436.out; have hnc42 := NB436_438.out; have hnb43 := NB438_437.out; have hnc43 := NB437_438.out; have hcz44_0 := bc0 BK438.out; have hcz44_1 := bc1 BK438.out; have hcz44_2 := bc2 BK438.out; have hfz44_0 := blk_frozen BK438.out 0; have hfz44_1 := blk_frozen BK438.out 1; have hfz44_2 := blk_frozen BK438.out 2))
            refine bodyPost_ret (results_cell_row rfl _ _ gb438 30 #[.bool t454, .int .i64 t455, .int .i64 t456] (0, 0) _ rfl bk Try.underlying30 rfl (by kernel_rfl)) rfl ?_
            exact ⟨by first | rfl | (simp [errW_none, errW_some] <;> rfl) | (simp [*, errW_none, errW_some] <;> rfl), bl⟩
          · replace c38 := Bool.eq_false_iff.mpr c38
            subst c38
            rw [if_neg (show ¬ (false = true) by decide)] at H
            replace H := Option.bind_eq_some_iff.mp H
            obtain ⟨⟨t457, t458, t459⟩, A450, H⟩ := H
            try dsimp only at H
            have A45 := Aside0.mk A450
            clear A450
            simp only [Option.some.injEq, Prod.mk.injEq] at H
            obtain ⟨rfl, rfl, rfl⟩ := H
            obtain ⟨Ao46, co46, eo46⟩ := Kd.R_slice HO_7.out
            subst eo46
            go_wp2_with (first | ((with_reducible refine gate_callee (f := 50) rfl ?_); refine goesL_ (some 48) rfl rfl Try.func50 (by kernel_rfl) rfl #[.slice Ao46 x7_1.length co46, .func (.func 51) #[] #[]] rfl (by (try simp only [List.map_toArray, List.map_cons, List.map_nil]); first | done | rfl | (simp only [List.length_drop, List.length_take]; rfl)) ?_; (with_reducible refine (slices_ContainsFunc_int_int__impl_SpanDo_1.calls k1 _ _ x7_1  false _ ?side1 ?side2 A37.out).mono ?_); (case side1 => repeat (first | exact (Kd.R_reads' HO_7.out).2.2 | (with_reducible refine Kd.C_alloc ?_ _) | (with_reducible refine Kd.C_drewN ?_ _) | (with_reducible refine Kd.C_drew ?_))); (case side2 => exact (Kd.R_reads' HO_7.out).2.1); rintro e w' ⟨rfl, ⟨nd, rfl⟩⟩; refine ⟨_, rfl, ?_⟩; (try (rw [drewN_self wr]; generalize hq_ : World.drewN wr _ = wr; have n0_ : Aside0 (Kd.R (Kd.int .i64) 3 wr w.heap.size (fun k_ => some k_ ≠ (.slice Ao46 x7_1.length co46 : Value).ownBlock) (.slice Ao18 t440.length co18) t440) := ⟨by rw [← hq_]; exact (by (with_reducible repeat (first | apply Kd.R_alloc | apply Kd.R_drewN | apply Kd.R_drew)); exact HO_20.out)⟩; have n1_ : Aside0 (Kd.R (Kd.int .i64) 3 wr w.heap.size (fun k_ => some k_ ≠ (.slice Ao18 t440.length co18 : Value).ownBlock) (.slice Ao46 x7_1.length co46) x7_1) := ⟨by rw [← hq_]; exact (by (with_reducible repeat (first | apply Kd.R_alloc | apply Kd.R_drewN | apply Kd.R_drew)); exact HO_7.out)⟩; have n2_ : Bk wr gb436 (.cells #[.bool a1_0, .int .i64 a1_1, .int .i64 a1_2] 30 (0, 0)) := ⟨by rw [← hq_]; exact bk⟩; have n3_ : Bk wr gb437 (.cells #[.bool a2_0, .int .i64 a2_1, .int .i64 a2_2] 30 (0, 0)) := ⟨by rw [← hq_]; exact bk⟩; have n4_ : Bk wr gb438 (.cells #[.bool false, .int .i64 0, .int .i64 0] 30 (0, 0)) := ⟨by rw [← hq_]; exact bk⟩; have n5_ : Bl w.heap.size w wr := ⟨by rw [← hq_]; exact bl⟩; clear HO_20 HO_7 BK436 BK437 BK438 HB hq_; have HO_20 := n0_; have HO_7 := n1_; have BK436 := n2_; have BK437 := n3_; have BK438 := n4_; have HB := n5_; clear n0_ n1_ n2_ n3_ n4_ n5_))) | ((with_reducible refine gate_callee (f := 47) rfl ?_); refine goesL_ (some 51) rfl rfl Try.func47 (by kernel_rfl) rfl #[.slice Ao46 x7_1.length co46] rfl (by (try simp only [List.map_toArray, List.map_cons, List.map_nil]); first | done | rfl | (simp only [List.length_drop, List.length_take]; rfl)) ?_; (with_reducible refine (impl_spanned.calls k1 _ _ x7_1 t457 t458 t459 _ ?side1 ?side2 A45.out).mono ?_); (case side1 => repeat (first | exact (Kd.R_reads' HO_7.out).2.2 | (with_reducible refine Kd.C_alloc ?_ _) | (with_reducible refine Kd.C_drewN ?_ _) | (with_reducible refine Kd.C_drew ?_))); (case side2 => exact (Kd.R_reads' HO_7.out).2.1); rintro e w47 ⟨rfl, hb⟩; refine ⟨_, rfl, ?_⟩; have n0_ := Aside0.mk (Kd.R_below (by (with_reducible repeat (first | apply Kd.R_alloc | apply Kd.R_drewN | apply Kd.R_drew)); exact HO_7.out) hb); have n1_ := Aside0.mk (Kd.R_below (by (with_reducible repeat (first | apply Kd.R_alloc | apply Kd.R_drewN | apply Kd.R_drew)); exact HO_20.out) hb); have n2_ := Bk.mk (blk_below (g := gb436) bk hb); have n3_ := Bk.mk (blk_below (g := gb437) bk hb); have n4_ := Bk.mk (blk_below (g := gb438) bk hb); have n5_ := Bl.mk (below_step bl hb); clear HO_7; clear HO_20; clear BK436; clear BK437; clear BK438; clear HB; have HO_7 := n0_; have HO_20 := n1_; have BK436 := n2_; have BK437 := n3_; have BK438 := n4_; have HB := n5_; clear n0_ n1_ n2_ n3_ n4_ n5_; (try clear hb); (try clear hb2); (try clear hk); (try clear hi); have hnb48 := NB438_436.out; have hnc48 := NB436_438.out; have hnb49 := NB438_437.out; have hnc49 := NB437_438.out; have hcz50_0 := bc0 BK438.out; have hcz50_1 := bc1 BK438.out; have hcz50_2 := bc2 BK438.out; have hfz50_0 := blk_frozen BK438.out 0; have hfz50_1 := blk_frozen BK438.out 1; have hfz50_2 := blk_frozen BK438.out 2))
            refine bodyPost_ret (results_cell_row rfl _ _ gb438 30 #[.bool t457, .int .i64 t458, .int .i64 t459] (0, 0) _ rfl bk Try.underlying30 rfl (by kernel_rfl)) rfl ?_
            exact ⟨by first | rfl | (simp [errW_none, errW_some] <;> rfl) | (simp [*, errW_none, errW_some] <;> rfl), bl⟩
  · replace c5 := Bool.eq_false_iff.mpr c5
    subst c5
    rw [if_neg (show ¬ (false = true) by decide)] at H
    simp only [Option.some.injEq, Prod.mk.injEq] at H
    obtain ⟨rfl, rfl, rfl⟩ := H
    go_enter Try.func22, Try.ntmps22
    go_wp2_with (first | ((with_reducible refine gate_dst (N := 4) rfl ?_); refine box_event ?hg (N := 4) ?hd (cs := #[.bool a1_0, .int .i64 a1_1, .int .i64 a1_2]) (t := 30) ?hr ?_; (case hd => rfl); (case hg => rfl); (case hr => first | (go_simp; done) | (go_simp; rfl)); intro gb436 hg w51 hbox hb; have n0_ := Bl.mk (below_step bl hb); have n1_ := Bk.mk (hbox); have n2_ := Aside0.mk ((by rw [hg]; exact (below_size bl) : w.heap.size ≤ gb436)); have n3_ := Gl.mk ((by rw [hg]; exact (below_size bl) : w.heap.size ≤ gb436)); clear HB; have HB := n0_; have BK436 := n1_; have GW436 := n2_; have GE436 := n3_; clear n0_ n1_ n2_ n3_; clear hb hbox hg) | ((with_reducible refine gate_dst (N := 5) rfl ?_); refine box_event ?hg (N := 5) ?hd (cs := #[.bool a2_0, .int .i64 a2_1, .int .i64 a2_2]) (t := 30) ?hr ?_; (case hd => rfl); (case hg => rfl); (case hr => first | (go_simp; done) | (go_simp; rfl)); intro gb437 hg w52 hbox hb; have n0_ := Bk.mk (blk_below (g := gb436) bk hb); have n1_ := Bl.mk (below_step bl hb); have n2_ := Bk.mk (hbox); have n3_ := Aside0.mk ((by rw [hg]; exact (below_size bl) : w.heap.size ≤ gb437)); have n4_ := Gl.mk ((by rw [hg]; exact (below_size bl) : w.heap.size ≤ gb437)); have n5_ := Nb.mk ((by rw [hg]; exact Nat.ne_of_lt (blk_lt (g := gb436) bk) : gb436 ≠ gb437)); have n6_ := Nb.mk ((by rw [hg]; exact Nat.ne_of_gt (blk_lt (g := gb436) bk) : gb437 ≠ gb436)); clear BK436; clear HB; have BK436 := n0_; have HB := n1_; have BK437 := n2_; have GW437 := n3_; have GE437 := n4_; have NB436_437 := n5_; have NB437_436 := n6_; clear n0_ n1_ n2_ n3_ n4_ n5_ n6_; clear hb hbox hg) | ((with_reducible refine gate_dst (N := 6) rfl ?_); refine box_event ?hg (N := 6) ?hd (cs := #[.bool false, .int .i64 0, .int .i64 0]) (t := 30) ?hr ?_; (case hd => rfl); (case hg => rfl); (case hr => first | (go_simp; done) | (go_simp; rfl)); intro gb438 hg w53 hbox hb; have n0_ := Bk.mk (blk_below (g := gb436) bk hb); have n1_ := Bk.mk (blk_below (g := gb437) bk hb); have n2_ := Bl.mk (below_step bl hb); have n3_ := Bk.mk (hbox); have n4_ := Aside0.mk ((by rw [hg]; exact (below_size bl) : w.heap.size ≤ gb438)); have n5_ := Gl.mk ((by rw [hg]; exact (below_size bl) : w.heap.size ≤ gb438)); have n6_ := Nb.mk ((by rw [hg]; exact Nat.ne_of_lt (blk_lt (g := gb436) bk) : gb436 ≠ gb438)); have n7_ := Nb.mk ((by rw [hg]; exact Nat.ne_of_gt (blk_lt (g := gb436) bk) : gb438 ≠ gb436)); have n8_ := Nb.mk ((by rw [hg]; exact Nat.ne_of_lt (blk_lt (g := gb437) bk) : gb437 ≠ gb438)); have n9_ := Nb.mk ((by rw [hg]; exact Nat.ne_of_gt (blk_lt (g := gb437) bk) : gb438 ≠ gb437)); clear BK436; clear BK437; clear HB; have BK436 := n0_; have BK437 := n1_; have HB := n2_; have BK438 := n3_; have GW438 := n4_; have GE438 := n5_; have NB436_438 := n6_; have NB438_436 := n7_; have NB437_438 := n8_; have NB438_437 := n9_; clear n0_ n1_ n2_ n3_ n4_ n5_ n6_ n7_ n8_ n9_; clear hb hbox hg; have hnb54 := NB436_437.out; have hnc54 := NB437_436.out; have hnb55 := NB436_438.out; have hnc55 := NB438_436.out; have hcz56_0 := bc0 BK436.out; have hcz56_1 := bc1 BK436.out; have hcz56_2 := bc2 BK436.out; have hfz56_0 := blk_frozen BK436.out 0; have hfz56_1 := blk_frozen BK436.out 1; have hfz56_2 := blk_frozen BK436.out 2; have hnb57 := NB437_438.out; have hnc57 := NB438_437.out; have hcz58_0 := bc0 BK437.out; have hcz58_1 := bc1 BK437.out; have hcz58_2 := bc2 BK437.out; have hfz58_0 := blk_frozen BK437.out 0; have hfz58_1 := blk_frozen BK437.out 1; have hfz58_2 := blk_frozen BK437.out 2) | ((with_reducible refine gate_callee (f := 45) rfl ?_); refine goesL_ (some 16) rfl rfl Try.func45 (by kernel_rfl) rfl #[.agg #[.bool a1_0, .int .i64 a1_1, .int .i64 a1_2], .agg #[.bool a2_0, .int .i64 a2_1, .int .i64 a2_2]] rfl (by (try simp only [List.map_toArray, List.map_cons, List.map_nil]); first | done | rfl | (simp only [List.length_drop, List.length_take]; rfl)) ?_; (with_reducible refine (impl_bothOk.calls a1_0 a1_1 a1_2 a2_0 a2_1 a2_2 false _ A4.out).mono ?_); rintro e w59 ⟨rfl, hb⟩; refine ⟨_, rfl, ?_⟩; have n0_ := Bk.mk (blk_below (g := gb436) bk hb); have n1_ := Bk.mk (blk_below (g := gb437) bk hb); have n2_ := Bk.mk (blk_below (g := gb438) bk hb); have n3_ := Bl.mk (below_step bl hb); clear BK436; clear BK437; clear BK438; clear HB; have BK436 := n0_; have BK437 := n1_; have BK438 := n2_; have HB := n3_; clear n0_ n1_ n2_ n3_; (try clear hb); (try clear hb2); (try clear hk); (try clear hi); have hcz60_0 := bc0 BK438.out; have hcz60_1 := bc1 BK438.out; have hcz60_2 := bc2 BK438.out; have hfz60_0 := blk_frozen BK438.out 0; have hfz60_1 := blk_frozen BK438.out 1; have hfz60_2 := blk_frozen BK438.out 2))
    refine bodyPost_ret (results_cell_row rfl _ _ gb438 30 #[.bool false, .int .i64 0, .int .i64 0] (0, 0) _ rfl bk Try.underlying30 rfl (by kernel_rfl)) rfl ?_
    exact ⟨by first | rfl | (simp [errW_none, errW_some] <;> rfl) | (simp [*, errW_none, errW_some] <;> rfl), bl⟩

end Go.Proofs.Ytekmapilhomdgaa.P
