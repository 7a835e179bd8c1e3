/- The contracts of Go functions of this seat: each call comes to what the Lean function of the same name says. -/
import Derived.Test.YtekmapilhomdgaaPx0
import Derived.Test.YtekmapilhomdgaaPx5
import Derived.Test.YtekmapilhomdgaaPx21
import Derived.Test.YtekmapilhomdgaaPx22
import Derived.Test.YtekmapilhomdgaaPx25
namespace Go.Proofs.Ytekmapilhomdgaa.P
open Go.RowKit Go.Proofs.YtekmapilhomdgaaW.PrintWords Go.Proofs.YtekmapilhomdgaaW.PrintLast Go.Proofs.YtekmapilhomdgaaW.PrintMore
attribute [local go_sem] max2_int min2_int max_two min_two max_three min_three max_four min_four   -- for this text's walks alone
set_option linter.unusedVariables false
set_option linter.unusedSimpArgs false

/-! ### impl_SpanWhen: function 19 -/
mutual
def impl_SpanWhen.j0 : Nat → Int → Bool → Bool → Bool → Int → Int → Bool → Int → Int → Option (Bool × Int × Int × Bool × Int × Int)
  | 0, _, _, _, _, _, _, _, _, _ => none
  | k + 1, x0, x3, x29, x303000, x303001, x303002, x304000, x304001, x304002 => if x29 = true then (some (false, 0, 0, false, 0, 0)) else ((impl_Span_words.f k x303000 x303001 x303002).bind fun t307 => (impl_SpanWhen.l0 k x0 x3 ([] : List Int) ([] : List Int) t307 (t307.length : Int) 0 x304000 x304001 x304002))
def impl_SpanWhen.l0 : Nat → Int → Bool → List Int → List Int → List Int → Int → Int → Bool → Int → Int → Option (Bool × Int × Int × Bool × Int × Int)
  | 0, _, _, _, _, _, _, _, _, _, _ => none
  | k + 1, x0, x3, x10, x11, x33, x34, x35, x304000, x304001, x304002 => if x35 < x34 then (if 0 ≤ x35 then (if x35 < (x33.length : Int) then ((impl_Span_words.f k x304000 x304001 x304002).bind fun t317 => (impl_SpanWhen.l1 k x0 x3 x10 x11 (rd x33 x35) x33 x34 x35 t317 (t317.length : Int) 0 x304000 x304001 x304002)) else (none)) else (none)) else ((impl_spanned.f k x10).bind fun bt310 => ((impl_spanned.f k x11).bind fun bt313 => (some (bt310.1, bt310.2.1, bt310.2.2, bt313.1, bt313.2.1, bt313.2.2))))
def impl_SpanWhen.l1 : Nat → Int → Bool → List Int → List Int → Int → List Int → Int → Int → List Int → Int → Int → Bool → Int → Int → Option (Bool × Int × Int × Bool × Int × Int)
  | 0, _, _, _, _, _, _, _, _, _, _, _, _, _, _ => none
  | k + 1, x0, x3, x10, x11, x13, x33, x34, x35, x40, x41, x42, x304000, x304001, x304002 => if x42 < x41 then (if 0 ≤ x42 then (if x42 < (x40.length : Int) then ((impl_raw.f x0 x13 (rd x40 x42)).bind fun bt321 => (if ((bt321.1 == 1) == x3) = true then (if x10.length < 17592186044416 then (if x11.length < 17592186044416 then (impl_SpanWhen.l1 k x0 x3 (x10 ++ [x13]) (x11 ++ [rd x40 x42]) x13 x33 x34 x35 x40 x41 (wrap64 (x42 + 1)) x304000 x304001 x304002) else (none)) else (none)) else (impl_SpanWhen.l1 k x0 x3 x10 x11 x13 x33 x34 x35 x40 x41 (wrap64 (x42 + 1)) x304000 x304001 x304002))) else (none)) else (none)) else (impl_SpanWhen.l0 k x0 x3 x10 x11 x33 x34 (wrap64 (x35 + 1)) x304000 x304001 x304002)
end
def impl_SpanWhen.f (k : Nat) (a0 : Int) (a1_0 : Bool) (a1_1 : Int) (a1_2 : Int) (a2_0 : Bool) (a2_1 : Int) (a2_2 : Int) (a3 : Bool) : Option (Bool × Int × Int × Bool × Int × Int) := (impl_bothOk.f a1_0 a1_1 a1_2 a2_0 a2_1 a2_2).bind fun t306 => (if t306 = true then (if a0 = 5 then (impl_SpanWhen.j0 k a0 a3 false a1_0 a1_1 a1_2 a2_0 a2_1 a2_2) else (impl_SpanWhen.j0 k a0 a3 (a0 != 6) a1_0 a1_1 a1_2 a2_0 a2_1 a2_2)) else (impl_SpanWhen.j0 k a0 a3 true a1_0 a1_1 a1_2 a2_0 a2_1 a2_2))
theorem impl_SpanWhen.mono_l : ∀ k, (∀ y0 y1 y2 y3 y4 y5 y6 y7 y8, LeO (impl_SpanWhen.j0 k y0 y1 y2 y3 y4 y5 y6 y7 y8) (impl_SpanWhen.j0 (k + 1) y0 y1 y2 y3 y4 y5 y6 y7 y8)) ∧ (∀ y0 y1 y2 y3 y4 y5 y6 y7 y8 y9, LeO (impl_SpanWhen.l0 k y0 y1 y2 y3 y4 y5 y6 y7 y8 y9) (impl_SpanWhen.l0 (k + 1) y0 y1 y2 y3 y4 y5 y6 y7 y8 y9)) ∧ (∀ y0 y1 y2 y3 y4 y5 y6 y7 y8 y9 y10 y11 y12 y13, LeO (impl_SpanWhen.l1 k y0 y1 y2 y3 y4 y5 y6 y7 y8 y9 y10 y11 y12 y13) (impl_SpanWhen.l1 (k + 1) y0 y1 y2 y3 y4 y5 y6 y7 y8 y9 y10 y11 y12 y13))
  | 0 => ⟨fun _ _ _ _ _ _ _ _ _ r h => by simp [impl_SpanWhen.j0] at h, fun _ _ _ _ _ _ _ _ _ _ r h => by simp [impl_SpanWhen.l0] at h, fun _ _ _ _ _ _ _ _ _ _ _ _ _ _ r h => by simp [impl_SpanWhen.l1] at h⟩
  | k + 1 => by
    obtain ⟨ih0, ih1, ih2⟩ := impl_SpanWhen.mono_l k
    refine ⟨?_, ?_, ?_⟩
    · intro y0 y1 y2 y3 y4 y5 y6 y7 y8
      unfold impl_SpanWhen.j0
      repeat' first
      | (with_reducible exact ih0 _ _ _ _ _ _ _ _ _)
      | (with_reducible exact ih1 _ _ _ _ _ _ _ _ _ _)
      | (with_reducible exact ih2 _ _ _ _ _ _ _ _ _ _ _ _ _ _)
      | (with_reducible exact impl_Span_words.mono _ _ _ _)
      | (with_reducible exact impl_spanned.mono _ _)
      | (with_reducible exact LeO.refl _)
      | (with_reducible exact LeO.none _)
      | (with_reducible refine LeO.ite ?_ ?_)
      | (with_reducible refine LeO.bind ?_ (fun _ => ?_))
      | exact ih0 _ _ _ _ _ _ _ _ _
      | exact ih1 _ _ _ _ _ _ _ _ _ _
      | exact ih2 _ _ _ _ _ _ _ _ _ _ _ _ _ _
      | exact impl_Span_words.mono _ _ _ _
      | exact impl_spanned.mono _ _
      | exact LeO.none _
      | refine LeO.ite ?_ ?_
      | refine LeO.bind ?_ (fun _ => ?_)
    · intro y0 y1 y2 y3 y4 y5 y6 y7 y8 y9
      unfold impl_SpanWhen.l0
      repeat' first
      | (with_reducible exact ih0 _ _ _ _ _ _ _ _ _)
      | (with_reducible exact ih1 _ _ _ _ _ _ _ _ _ _)
      | (with_reducible exact ih2 _ _ _ _ _ _ _ _ _ _ _ _ _ _)
      | (with_reducible exact impl_Span_words.mono _ _ _ _)
      | (with_reducible exact impl_spanned.mono _ _)
      | (with_reducible exact LeO.refl _)
      | (with_reducible exact LeO.none _)
      | (with_reducible refine LeO.ite ?_ ?_)
      | (with_reducible refine LeO.bind ?_ (fun _ => ?_))
      | exact ih0 _ _ _ _ _ _ _ _ _
      | exact ih1 _ _ _ _ _ _ _ _ _ _
      | exact ih2 _ _ _ _ _ _ _ _ _ _ _ _ _ _
      | exact impl_Span_words.mono _ _ _ _
      | exact impl_spanned.mono _ _
      | exact LeO.none _
      | refine LeO.ite ?_ ?_
      | refine LeO.bind ?_ (fun _ => ?_)
    · intro y0 y1 y2 y3 y4 y5 y6 y7 y8 y9 y10 y11 y12 y13
      unfold impl_SpanWhen.l1
      repeat' first
      | (with_reducible exact ih0 _ _ _ _ _ _ _ _ _)
      | (with_reducible exact ih1 _ _ _ _ _ _ _ _ _ _)
      | (with_reducible exact ih2 _ _ _ _ _ _ _ _ _ _ _ _ _ _)
      | (with_reducible exact impl_Span_words.mono _ _ _ _)
      | (with_reducible exact impl_spanned.mono _ _)
      | (with_reducible exact LeO.refl _)
      | (with_reducible exact LeO.none _)
      | (with_reducible refine LeO.ite ?_ ?_)
      | (with_reducible refine LeO.bind ?_ (fun _ => ?_))
      | exact ih0 _ _ _ _ _ _ _ _ _
      | exact ih1 _ _ _ _ _ _ _ _ _ _
      | exact ih2 _ _ _ _ _ _ _ _ _ _ _ _ _ _
      | exact impl_Span_words.mono _ _ _ _
      | exact impl_spanned.mono _ _
      | exact LeO.none _
      | refine LeO.ite ?_ ?_
      | refine LeO.bind ?_ (fun _ => ?_)
theorem impl_SpanWhen.mono : ∀ a0 a1 a2 a3 a4 a5 a6 a7 k, LeO (impl_SpanWhen.f k a0 a1 a2 a3 a4 a5 a6 a7) (impl_SpanWhen.f (k + 1) a0 a1 a2 a3 a4 a5 a6 a7) := by
  intro a0 a1 a2 a3 a4 a5 a6 a7 k
  obtain ⟨ih0, ih1, ih2⟩ := impl_SpanWhen.mono_l k
  unfold impl_SpanWhen.f
  repeat' first
      | (with_reducible exact ih0 _ _ _ _ _ _ _ _ _)
      | (with_reducible exact ih1 _ _ _ _ _ _ _ _ _ _)
      | (with_reducible exact ih2 _ _ _ _ _ _ _ _ _ _ _ _ _ _)
      | (with_reducible exact impl_Span_words.mono _ _ _ _)
      | (with_reducible exact impl_spanned.mono _ _)
      | (with_reducible exact LeO.refl _)
      | (with_reducible exact LeO.none _)
      | (with_reducible refine LeO.ite ?_ ?_)
      | (with_reducible refine LeO.bind ?_ (fun _ => ?_))
      | exact ih0 _ _ _ _ _ _ _ _ _
      | exact ih1 _ _ _ _ _ _ _ _ _ _
      | exact ih2 _ _ _ _ _ _ _ _ _ _ _ _ _ _
      | exact impl_Span_words.mono _ _ _ _
      | exact impl_spanned.mono _ _
      | exact LeO.none _
      | refine LeO.ite ?_ ?_
      | refine LeO.bind ?_ (fun _ => ?_)
set_option maxHeartbeats 8000000 in
set_option maxRecDepth 100000 in
theorem impl_SpanWhen.calls (k : Nat) (a0 : Int) (a1_0 : Bool) (a1_1 : Int) (a1_2 : Int) (a2_0 : Bool) (a2_1 : Int) (a2_2 : Int) (a3 : Bool) (r1 : Bool) (r2 : Int) (r3 : Int) (r4 : Bool) (r5 : Int) (r6 : Int) (w : World) (h : impl_SpanWhen.f k a0 a1_0 a1_1 a1_2 a2_0 a2_1 a2_2 a3 = some (r1, r2, r3, r4, r5, r6)) :
    Calls Try.prog 19 #[.int .i64 a0, .agg #[.bool a1_0, .int .i64 a1_1, .int .i64 a1_2], .agg #[.bool a2_0, .int .i64 a2_1, .int .i64 a2_2], .bool a3] w fun e w' => e = .returned (.tuple #[.agg #[.bool r1, .int .i64 r2, .int .i64 r3], .agg #[.bool r4, .int .i64 r5, .int .i64 r6]]) ∧ Below w.heap.size w w' := by
  have hu30 := Try.underlying30
  have HB := Bl.mk (Below.refl w.heap.size w)
  unfold impl_SpanWhen.f at h
  have H := h
  clear h
  have HC5 := Aside0.mk H
  clear H
  go_enter Try.func19, Try.ntmps19
  go_upto_region 1 with (first | ((with_reducible refine gate_dst (N := 5) rfl ?_); refine box_event ?hg (N := 5) ?hd (cs := #[.bool a1_0, .int .i64 a1_1, .int .i64 a1_2]) (t := 30) ?hr ?_; (case hd => rfl); (case hg => rfl); (case hr => first | (go_simp; done) | (go_simp; rfl)); intro gb302 hg w6 hbox hb; have n0_ := Bl.mk (below_step bl hb); have n1_ := Bk.mk (hbox); have n2_ := Aside0.mk ((by rw [hg]; exact (below_size bl) : w.heap.size ≤ gb302)); have n3_ := Gl.mk ((by rw [hg]; exact (below_size bl) : w.heap.size ≤ gb302)); clear HB; have HB := n0_; have BK302 := n1_; have GW302 := n2_; have GE302 := n3_; clear n0_ n1_ n2_ n3_; clear hb hbox hg) | ((with_reducible refine gate_dst (N := 6) rfl ?_); refine box_event ?hg (N := 6) ?hd (cs := #[.bool a2_0, .int .i64 a2_1, .int .i64 a2_2]) (t := 30) ?hr ?_; (case hd => rfl); (case hg => rfl); (case hr => first | (go_simp; done) | (go_simp; rfl)); intro gb303 hg w7 hbox hb; have n0_ := Bk.mk (blk_below (g := gb302) bk hb); have n1_ := Bl.mk (below_step bl hb); have n2_ := Bk.mk (hbox); have n3_ := Aside0.mk ((by rw [hg]; exact (below_size bl) : w.heap.size ≤ gb303)); have n4_ := Gl.mk ((by rw [hg]; exact (below_size bl) : w.heap.size ≤ gb303)); have n5_ := Nb.mk ((by rw [hg]; exact Nat.ne_of_lt (blk_lt (g := gb302) bk) : gb302 ≠ gb303)); have n6_ := Nb.mk ((by rw [hg]; exact Nat.ne_of_gt (blk_lt (g := gb302) bk) : gb303 ≠ gb302)); clear BK302; clear HB; have BK302 := n0_; have HB := n1_; have BK303 := n2_; have GW303 := n3_; have GE303 := n4_; have NB302_303 := n5_; have NB303_302 := n6_; clear n0_ n1_ n2_ n3_ n4_ n5_ n6_; clear hb hbox hg) | ((with_reducible refine gate_dst (N := 8) rfl ?_); refine box_event ?hg (N := 8) ?hd (cs := #[.bool false, .int .i64 0, .int .i64 0]) (t := 30) ?hr ?_; (case hd => rfl); (case hg => rfl); (case hr => first | (go_simp; done) | (go_simp; rfl)); intro gb304 hg w8 hbox hb; have n0_ := Bk.mk (blk_below (g := gb302) bk hb); have n1_ := Bk.mk (blk_below (g := gb303) bk hb); have n2_ := Bl.mk (below_step bl hb); have n3_ := Bk.mk (hbox); have n4_ := Aside0.mk ((by rw [hg]; exact (below_size bl) : w.heap.size ≤ gb304)); have n5_ := Gl.mk ((by rw [hg]; exact (below_size bl) : w.heap.size ≤ gb304)); have n6_ := Nb.mk ((by rw [hg]; exact Nat.ne_of_lt (blk_lt (g := gb302) bk) : gb302 ≠ gb304)); have n7_ := Nb.mk ((by rw [hg]; exact Nat.ne_of_gt (blk_lt (g := gb302) bk) : gb304 ≠ gb302)); have n8_ := Nb.mk ((by rw [hg]; exact Nat.ne_of_lt (blk_lt (g := gb303) bk) : gb303 ≠ gb304)); have n9_ := Nb.mk ((by rw [hg]; exact Nat.ne_of_gt (blk_lt (g := gb303) bk) : gb304 ≠ gb303)); clear BK302; clear BK303; clear HB; have BK302 := n0_; have BK303 := n1_; have HB := n2_; have BK304 := n3_; have GW304 := n4_; have GE304 := n5_; have NB302_304 := n6_; have NB304_302 := n7_; have NB303_304 := n8_; have NB304_303 := n9_; clear n0_ n1_ n2_ n3_ n4_ n5_ n6_ n7_ n8_ n9_; clear hb hbox hg) | ((with_reducible refine gate_dst (N := 9) rfl ?_); refine box_event ?hg (N := 9) ?hd (cs := #[.bool false, .int .i64 0, .int .i64 0]) (t := 30) ?hr ?_; (case hd => rfl); (case hg => rfl); (case hr => first | (go_simp; done) | (go_simp; rfl)); intro gb305 hg w9 hbox hb; have n0_ := Bk.mk (blk_below (g := gb302) bk hb); have n1_ := Bk.mk (blk_below (g := gb303) bk hb); have n2_ := Bk.mk (blk_below (g := gb304) bk hb); have n3_ := Bl.mk (below_step bl hb); have n4_ := Bk.mk (hbox); have n5_ := Aside0.mk ((by rw [hg]; exact (below_size bl) : w.heap.size ≤ gb305)); have n6_ := Gl.mk ((by rw [hg]; exact (below_size bl) : w.heap.size ≤ gb305)); have n7_ := Nb.mk ((by rw [hg]; exact Nat.ne_of_lt (blk_lt (g := gb302) bk) : gb302 ≠ gb305)); have n8_ := Nb.mk ((by rw [hg]; exact Nat.ne_of_gt (blk_lt (g := gb302) bk) : gb305 ≠ gb302)); have n9_ := Nb.mk ((by rw [hg]; exact Nat.ne_of_lt (blk_lt (g := gb303) bk) : gb303 ≠ gb305)); have n10_ := Nb.mk ((by rw [hg]; exact Nat.ne_of_gt (blk_lt (g := gb303) bk) : gb305 ≠ gb303)); have n11_ := Nb.mk ((by rw [hg]; exact Nat.ne_of_lt (blk_lt (g := gb304) bk) : gb304 ≠ gb305)); have n12_ := Nb.mk ((by rw [hg]; exact Nat.ne_of_gt (blk_lt (g := gb304) bk) : gb305 ≠ gb304)); clear BK302; clear BK303; clear BK304; clear HB; have BK302 := n0_; have BK303 := n1_; have BK304 := n2_; have HB := n3_; have BK305 := n4_; have GW305 := n5_; have GE305 := n6_; have NB302_305 := n7_; have NB305_302 := n8_; have NB303_305 := n9_; have NB305_303 := n10_; have NB304_305 := n11_; have NB305_304 := n12_; clear n0_ n1_ n2_ n3_ n4_ n5_ n6_ n7_ n8_ n9_ n10_ n11_ n12_; clear hb hbox hg))
  (try simp only [Act.put, List.setIfInBounds_toArray, List.set_cons_zero, List.set_cons_succ])
  go_cut [29] (fun v29 wc => ∃ (kq : Nat) (x29_4 : Bool), v29 = .bool x29_4 ∧ Aside0 (impl_SpanWhen.j0 kq a0 a3 x29_4 a1_0 a1_1 a1_2 a2_0 a2_1 a2_2 = some (r1, r2, r3, r4, r5, r6)) ∧ Aside0 (kq ≤ k) ∧ Bk wc gb302 (.cells #[.bool a1_0, .int .i64 a1_1, .int .i64 a1_2] 30 (0, 0)) ∧ Bk wc gb303 (.cells #[.bool a2_0, .int .i64 a2_1, .int .i64 a2_2] 30 (0, 0)) ∧ Bk wc gb304 (.cells #[.bool false, .int .i64 0, .int .i64 0] 30 (0, 0)) ∧ Bk wc gb305 (.cells #[.bool false, .int .i64 0, .int .i64 0] 30 (0, 0)) ∧ Bl w.heap.size w wc)
  case first =>
    have H := HC5.out
    clear HC5
    replace H := Option.bind_eq_some_iff.mp H
    obtain ⟨t306, A100, H⟩ := H
    try dsimp only at H
    have A10 := Aside0.mk A100
    clear A100
    by_cases c11 : t306 = true
    · subst c11
      rw [if_pos rfl] at H
      by_cases c12 : a0 = 5
      · rw [if_pos c12] at H
        have c12b0 : (a0 == 5) = true := beq_iff_eq.mpr c12
        have c12b1 : (a0 != 5) = false := bne_eq_false_iff_eq.mpr c12
        clear c12
        (first | rw [c12b0] | (simp only [i64_w, i32_w]; rw [c12b0]) | skip)
        have H' := Aside0.mk H
        clear H
        have hnb13 := NB302_303.out
        have hnc13 := NB303_302.out
        have hnb14 := NB302_304.out
        have hnc14 := NB304_302.out
        have hnb15 := NB302_305.out
        have hnc15 := NB305_302.out
        have hcz16_0 := bc0 BK302.out
        have hcz16_1 := bc1 BK302.out
        have hcz16_2 := bc2 BK302.out
        have hfz16_0 := blk_frozen BK302.out 0
        have hfz16_1 := blk_frozen BK302.out 1
        have hfz16_2 := blk_frozen BK302.out 2
        have hnb17 := NB303_304.out
        have hnc17 := NB304_303.out
        have hnb18 := NB303_305.out
        have hnc18 := NB305_303.out
        have hcz19_0 := bc0 BK303.out
        have hcz19_1 := bc1 BK303.out
        have hcz19_2 := bc2 BK303.out
        have hfz19_0 := blk_frozen BK303.out 0
        have hfz19_1 := blk_frozen BK303.out 1
        have hfz19_2 := blk_frozen BK303.out 2
        go_wp2_with (first | ((with_reducible refine gate_callee (f := 45) rfl ?_); refine goesL_ (some 20) rfl rfl Try.func45 (by kernel_rfl) rfl #[.agg #[.bool a1_0, .int .i64 a1_1, .int .i64 a1_2], .agg #[.bool a2_0, .int .i64 a2_1, .int .i64 a2_2]] rfl (by (try simp only [List.map_toArray, List.map_cons, List.map_nil]); first | done | rfl | (simp only [List.length_drop, List.length_take]; rfl)) ?_; (with_reducible refine (impl_bothOk.calls a1_0 a1_1 a1_2 a2_0 a2_1 a2_2 true _ A10.out).mono ?_); rintro e w20 ⟨rfl, hb⟩; refine ⟨_, rfl, ?_⟩; have n0_ := Bk.mk (blk_below (g := gb302) bk hb); have n1_ := Bk.mk (blk_below (g := gb303) bk hb); have n2_ := Bk.mk (blk_below (g := gb304) bk hb); have n3_ := Bk.mk (blk_below (g := gb305) bk hb); have n4_ := Bl.mk (below_step bl hb); clear BK302; clear BK303; clear BK304; clear BK305; clear HB; have BK302 := n0_; have BK303 := n1_; have BK304 := n2_; have BK305 := n3_; have HB := n4_; clear n0_ n1_ n2_ n3_ n4_; (try clear hb); (try clear hb2); (try clear hk); (try clear hi)))
        go_meet
        case rel => exact ⟨_, (false), (by first | rfl | (simp; done) | (simp [*]; done)), H', ⟨by first | omega | exact Nat.le_refl _⟩, ⟨bk⟩, ⟨bk⟩, ⟨bk⟩, ⟨bk⟩, ⟨bl⟩⟩
      · rw [if_neg c12] at H
        have c12b0 : (a0 == 5) = false := beq_eq_false_iff_ne.mpr c12
        have c12b1 : (a0 != 5) = true := bne_iff_ne.mpr c12
        (first | rw [c12b0] | (simp only [i64_w, i32_w]; rw [c12b0]) | skip)
        have H' := Aside0.mk H
        clear H
        have hnb21 := NB302_303.out
        have hnc21 := NB303_302.out
        have hnb22 := NB302_304.out
        have hnc22 := NB304_302.out
        have hnb23 := NB302_305.out
        have hnc23 := NB305_302.out
        have hcz24_0 := bc0 BK302.out
        have hcz24_1 := bc1 BK302.out
        have hcz24_2 := bc2 BK302.out
        have hfz24_0 := blk_frozen BK302.out 0
        have hfz24_1 := blk_frozen BK302.out 1
        have hfz24_2 := blk_frozen BK302.out 2
        have hnb25 := NB303_304.out
        have hnc25 := NB304_303.out
        have hnb26 := NB303_305.out
        have hnc26 := NB305_303.out
        have hcz27_0 := bc0 BK303.out
        have hcz27_1 := bc1 BK303.out
        have hcz27_2 := bc2 BK303.out
        have hfz27_0 := blk_frozen BK303.out 0
        have hfz27_1 := blk_frozen BK303.out 1
        have hfz27_2 := blk_frozen BK303.out 2
        go_wp2_with (first | ((with_reducible refine gate_callee (f := 45) rfl ?_); refine goesL_ (some 20) rfl rfl Try.func45 (by kernel_rfl) rfl #[.agg #[.bool a1_0, .int .i64 a1_1, .int .i64 a1_2], .agg #[.bool a2_0, .int .i64 a2_1, .int .i64 a2_2]] rfl (by (try simp only [List.map_toArray, List.map_cons, List.map_nil]); first | done | rfl | (simp only [List.length_drop, List.length_take]; rfl)) ?_; (with_reducible refine (impl_bothOk.calls a1_0 a1_1 a1_2 a2_0 a2_1 a2_2 true _ A10.out).mono ?_); rintro e w28 ⟨rfl, hb⟩; refine ⟨_, rfl, ?_⟩; have n0_ := Bk.mk (blk_below (g := gb302) bk hb); have n1_ := Bk.mk (blk_below (g := gb303) bk hb); have n2_ := Bk.mk (blk_below (g := gb304) bk hb); have n3_ := Bk.mk (blk_below (g := gb305) bk hb); have n4_ := Bl.mk (below_step bl hb); clear BK302; clear BK303; clear BK304; clear BK305; clear HB; have BK302 := n0_; have BK303 := n1_; have BK304 := n2_; have BK305 := n3_; have HB := n4_; clear n0_ n1_ n2_ n3_ n4_; (try clear hb); (try clear hb2); (try clear hk); (try clear hi)))
        go_meet
        case rel => exact ⟨_, ((a0 != 6)), (by first | rfl | (simp; done) | (simp [*]; done)), H', ⟨by first | omega | exact Nat.le_refl _⟩, ⟨bk⟩, ⟨bk⟩, ⟨bk⟩, ⟨bk⟩, ⟨bl⟩⟩
    · replace c11 := Bool.eq_false_iff.mpr c11
      subst c11
      rw [if_neg (show ¬ (false = true) by decide)] at H
      have H' := Aside0.mk H
      clear H
      have hnb29 := NB302_303.out
      have hnc29 := NB303_302.out
      have hnb30 := NB302_304.out
      have hnc30 := NB304_302.out
      have hnb31 := NB302_305.out
      have hnc31 := NB305_302.out
      have hcz32_0 := bc0 BK302.out
      have hcz32_1 := bc1 BK302.out
      have hcz32_2 := bc2 BK302.out
      have hfz32_0 := blk_frozen BK302.out 0
      have hfz32_1 := blk_frozen BK302.out 1
      have hfz32_2 := blk_frozen BK302.out 2
      have hnb33 := NB303_304.out
      have hnc33 := NB304_303.out
      have hnb34 := NB303_305.out
      have hnc34 := NB305_303.out
      have hcz35_0 := bc0 BK303.out
      have hcz35_1 := bc1 BK303.out
      have hcz35_2 := bc2 BK303.out
      have hfz35_0 := blk_frozen BK303.out 0
      have hfz35_1 := blk_frozen BK303.out 1
      have hfz35_2 := blk_frozen BK303.out 2
      go_wp2_with (first | ((with_reducible refine gate_callee (f := 45) rfl ?_); refine goesL_ (some 20) rfl rfl Try.func45 (by kernel_rfl) rfl #[.agg #[.bool a1_0, .int .i64 a1_1, .int .i64 a1_2], .agg #[.bool a2_0, .int .i64 a2_1, .int .i64 a2_2]] rfl (by (try simp only [List.map_toArray, List.map_cons, List.map_nil]); first | done | rfl | (simp only [List.length_drop, List.length_take]; rfl)) ?_; (with_reducible refine (impl_bothOk.calls a1_0 a1_1 a1_2 a2_0 a2_1 a2_2 false _ A10.out).mono ?_); rintro e w36 ⟨rfl, hb⟩; refine ⟨_, rfl, ?_⟩; have n0_ := Bk.mk (blk_below (g := gb302) bk hb); have n1_ := Bk.mk (blk_below (g := gb303) bk hb); have n2_ := Bk.mk (blk_below (g := gb304) bk hb); have n3_ := Bk.mk (blk_below (g := gb305) bk hb); have n4_ := Bl.mk (below_step bl hb); clear BK302; clear BK303; clear BK304; clear BK305; clear HB; have BK302 := n0_; have BK303 := n1_; have BK304 := n2_; have BK305 := n3_; have HB := n4_; clear n0_ n1_ n2_ n3_ n4_; (try clear hb); (try clear hb2); (try clear hk); (try clear hi)))
      go_meet
      case rel => exact ⟨_, (true), (by first | rfl | (simp; done) | (simp [*]; done)), H', ⟨by first | omega | exact Nat.le_refl _⟩, ⟨bk⟩, ⟨bk⟩, ⟨bk⟩, ⟨bk⟩, ⟨bl⟩⟩
  case rest =>
    clear HC5
    try clear c1
    try clear c2
    try clear p2
    try clear c3
    try clear c4
    try clear c11
    try clear c12
    try clear c12b0
    try clear c12b1
    try clear c13
    try clear c14
    try clear c15
    try clear c17
    try clear c18
    try clear c19
    try clear c21
    try clear c22
    try clear c23
    try clear c25
    try clear c26
    try clear c29
    try clear c30
    try clear c31
    try clear c33
    try clear c34
    try clear hcz16_0
    try clear hcz16_1
    try clear hcz16_2
    try clear hcz19_0
    try clear hcz19_1
    try clear hcz19_2
    try clear hcz24_0
    try clear hcz24_1
    try clear hcz24_2
    try clear hcz27_0
    try clear hcz27_1
    try clear hcz27_2
    try clear hcz32_0
    try clear hcz32_1
    try clear hcz32_2
    try clear hcz35_0
    try clear hcz35_1
    try clear hcz35_2
    try clear hfz16_0
    try clear hfz16_1
    try clear hfz16_2
    try clear hfz19_0
    try clear hfz19_1
    try clear hfz19_2
    try clear hfz24_0
    try clear hfz24_1
    try clear hfz24_2
    try clear hfz27_0
    try clear hfz27_1
    try clear hfz27_2
    try clear hfz32_0
    try clear hfz32_1
    try clear hfz32_2
    try clear hfz35_0
    try clear hfz35_1
    try clear hfz35_2
    obtain ⟨kq, x29_4, rfl, HA, HJ4, BK302, BK303, BK304, BK305, HB⟩ := hcut
    cases kq with
    | zero => exact absurd HA.out (by simp [impl_SpanWhen.j0])
    | succ kj4 =>
      have H := HA.out
      clear HA
      simp only [impl_SpanWhen.j0] at H
      by_cases c37 : x29_4 = true
      · subst c37
        rw [if_pos rfl] at H
        simp only [Option.some.injEq, Prod.mk.injEq] at H
        obtain ⟨rfl, rfl, rfl, rfl, rfl, rfl⟩ := H
        have hnb38 := NB304_302.out
        have hnc38 := NB302_304.out
        have hnb39 := NB304_303.out
        have hnc39 := NB303_304.out
        have hnb40 := NB304_305.out
        have hnc40 := NB305_304.out
        have hcz41_0 := bc0 BK304.out
        have hcz41_1 := bc1 BK304.out
        have hcz41_2 := bc2 BK304.out
        have hfz41_0 := blk_frozen BK304.out 0
        have hfz41_1 := blk_frozen BK304.out 1
        have hfz41_2 := blk_frozen BK304.out 2
        have hnb42 := NB305_302.out
        have hnc42 := NB302_305.out
        have hnb43 := NB305_303.out
        have hnc43 := NB303_305.out
        have hcz44_0 := bc0 BK305.out
        have hcz44_1 := bc1 BK305.out
        have hcz44_2 := bc2 BK305.out
        have hfz44_0 := blk_frozen BK305.out 0
        have hfz44_1 := blk_frozen BK305.out 1
        have hfz44_2 := blk_frozen BK305.out 2
        go_wp2
        refine bodyPost_ret (results_cc rfl _ _ gb304 gb305 30 30 #[.bool false, .int .i64 0, .int .i64 0] #[.bool false, .int .i64 0, .int .i64 0] (0, 0) (0, 0) _ _ rfl bk Try.underlying30 rfl (by kernel_rfl) rfl bk Try.underlying30 rfl (by kernel_rfl)) rfl ?_
        exact ⟨by first | rfl | (simp [errW_none, errW_some] <;> rfl) | (simp [*, errW_none, errW_some] <;> rfl), bl⟩
      · replace c37 := Bool.eq_false_iff.mpr c37
        subst c37
        rw [if_neg (show ¬ (false = true) by decide)] at H
        replace H := Option.bind_eq_some_iff.mp H
        obtain ⟨t307, A450, H⟩ := H
        try dsimp only at H
        have A45 := Aside0.mk A450
        clear A450
        have H' := Aside0.mk H
        clear H
        have hnb46 := NB302_303.out
        have hnc46 := NB303_302.out
        have hnb47 := NB302_304.out
        have hnc47 := NB304_302.out
        have hnb48 := NB302_305.out
        have hnc48 := NB305_302.out
        have hcz49_0 := bc0 BK302.out
        have hcz49_1 := bc1 BK302.out
        have hcz49_2 := bc2 BK302.out
        have hfz49_0 := blk_frozen BK302.out 0
        have hfz49_1 := blk_frozen BK302.out 1
        have hfz49_2 := blk_frozen BK302.out 2
        go_wp2_with (first | ((with_reducible refine gate_callee (f := 46) rfl ?_); refine goesL_ (some 33) rfl rfl Try.func46 (by kernel_rfl) rfl #[.agg #[.bool a1_0, .int .i64 a1_1, .int .i64 a1_2]] rfl (by (try simp only [List.map_toArray, List.map_cons, List.map_nil]); first | done | rfl | (simp only [List.length_drop, List.length_take]; rfl)) ?_; (with_reducible refine (impl_Span_words.calls kj4 a1_0 a1_1 a1_2 t307 _ A45.out).mono ?_); rintro e w50 ⟨v308, rfl, ho0, hb⟩; refine ⟨_, rfl, ?_⟩; have n0_ := Aside0.mk (Kd.R_lower ho0 (below_size bl)); have n1_ := Bk.mk (blk_below (g := gb302) bk hb); have n2_ := Bk.mk (blk_below (g := gb303) bk hb); have n3_ := Bk.mk (blk_below (g := gb304) bk hb); have n4_ := Bk.mk (blk_below (g := gb305) bk hb); have n5_ := Bl.mk (below_step bl hb); clear BK302; clear BK303; clear BK304; clear BK305; clear HB; have HO309 := n0_; have BK302 := n1_; have BK303 := n2_; have BK304 := n3_; have BK305 := n4_; have HB := n5_; clear n0_ n1_ n2_ n3_ n4_ n5_; (try clear hb); (try clear hb2); (try clear hk); (try clear hi); (try clear ho0); obtain ⟨Ao51, co51, eo51⟩ := Kd.R_slice HO309.out; subst eo51))
        go_loopg [10, 11, 35] kj4 (fun kq v10 v11 v35 w' => ∃ (x10_2 : List Int) (x11_2 : List Int) (x35_2 : Int), v35 = .int .i64 x35_2 ∧ Aside0 (impl_SpanWhen.l0 kq a0 a3 x10_2 x11_2 t307 (t307.length : Int) x35_2 a2_0 a2_1 a2_2 = some (r1, r2, r3, r4, r5, r6)) ∧ Aside0 (kq ≤ kj4) ∧ Aside0 (Kd.R (Kd.int .i64) 3 w' w.heap.size (fun k_ => some k_ ≠ (v11 : Value).ownBlock ∧ some k_ ≠ ((.slice Ao51 t307.length co51) : Value).ownBlock) v10 x10_2) ∧ Aside0 (Kd.R (Kd.int .i64) 3 w' w.heap.size (fun k_ => some k_ ≠ (v10 : Value).ownBlock ∧ some k_ ≠ ((.slice Ao51 t307.length co51) : Value).ownBlock) v11 x11_2) ∧ Aside0 (Kd.R (Kd.int .i64) 3 w' w.heap.size (fun k_ => some k_ ≠ (v10 : Value).ownBlock ∧ some k_ ≠ (v11 : Value).ownBlock) (.slice Ao51 t307.length co51) t307) ∧ Bk w' gb302 (.cells #[.bool a1_0, .int .i64 a1_1, .int .i64 a1_2] 30 (0, 0)) ∧ Bk w' gb303 (.cells #[.bool a2_0, .int .i64 a2_1, .int .i64 a2_2] 30 (0, 0)) ∧ Bk w' gb304 (.cells #[.bool false, .int .i64 0, .int .i64 0] 30 (0, 0)) ∧ Bk w' gb305 (.cells #[.bool false, .int .i64 0, .int .i64 0] 30 (0, 0)) ∧ Bl w.heap.size w w')
        case atStart => exact ⟨(([] : List Int)), (([] : List Int)), (0), (by first | rfl | (simp; done) | (simp [*]; done)), H', ⟨Nat.le_refl _⟩, ⟨by first | exact Kd.R_nil _ _ _ _ _ | exact Kd.N_nil _ _ _ _ _ | exact Kd.V_nil _ _ _ _ _ | exact Kd.Q_nil _ _ _ _ _ | exact Kd.S_nil _ _ _ _ _⟩, ⟨by first | exact Kd.R_nil _ _ _ _ _ | exact Kd.N_nil _ _ _ _ _ | exact Kd.V_nil _ _ _ _ _ | exact Kd.Q_nil _ _ _ _ _ | exact Kd.S_nil _ _ _ _ _⟩, ⟨by (with_reducible repeat (first | apply Kd.R_alloc | apply Kd.R_drewN | apply Kd.R_drew)); exact Kd.R_mono HO309.out (fun _ hk => ⟨(by simp [Value.ownBlock]), (by simp [Value.ownBlock])⟩)⟩, ⟨bk⟩, ⟨bk⟩, ⟨bk⟩, ⟨bk⟩, ⟨bl⟩⟩
        case round =>
          clear H'
          try clear c1
          try clear c2
          try clear p2
          try clear c3
          try clear c4
          try clear c11
          try clear c12
          try clear c12b0
          try clear c12b1
          try clear c13
          try clear c14
          try clear c15
          try clear c17
          try clear c18
          try clear c19
          try clear c21
          try clear c22
          try clear c23
          try clear c25
          try clear c26
          try clear c29
          try clear c30
          try clear c31
          try clear c33
          try clear c34
          try clear c37
          try clear c38
          try clear c39
          try clear c40
          try clear c42
          try clear c43
          try clear c45
          try clear c46
          try clear c47
          try clear c48
          try clear hcz16_0
          try clear hcz16_1
          try clear hcz16_2
          try clear hcz19_0
          try clear hcz19_1
          try clear hcz19_2
          try clear hcz24_0
          try clear hcz24_1
          try clear hcz24_2
          try clear hcz27_0
          try clear hcz27_1
          try clear hcz27_2
          try clear hcz32_0
          try clear hcz32_1
          try clear hcz32_2
          try clear hcz35_0
          try clear hcz35_1
          try clear hcz35_2
          try clear hcz41_0
          try clear hcz41_1
          try clear hcz41_2
          try clear hcz44_0
          try clear hcz44_1
          try clear hcz44_2
          try clear hcz49_0
          try clear hcz49_1
          try clear hcz49_2
          try clear hfz16_0
          try clear hfz16_1
          try clear hfz16_2
          try clear hfz19_0
          try clear hfz19_1
          try clear hfz19_2
          try clear hfz24_0
          try clear hfz24_1
          try clear hfz24_2
          try clear hfz27_0
          try clear hfz27_1
          try clear hfz27_2
          try clear hfz32_0
          try clear hfz32_1
          try clear hfz32_2
          try clear hfz35_0
          try clear hfz35_1
          try clear hfz35_2
          try clear hfz41_0
          try clear hfz41_1
          try clear hfz41_2
          try clear hfz44_0
          try clear hfz44_1
          try clear hfz44_2
          try clear hfz49_0
          try clear hfz49_1
          try clear hfz49_2
          try clear p2
          obtain ⟨x10_2, x11_2, x35_2, rfl, HA, HK2, HO_10, HO_11, HO_33, BK302, BK303, BK304, BK305, HB⟩ := hrel
          cases gk with
          | zero => exact absurd HA.out (by simp [impl_SpanWhen.l0])
          | succ k2 =>
            have H := HA.out
            clear HA
            simp only [impl_SpanWhen.l0] at H
            by_cases c52 : x35_2 < (t307.length : Int)
            · rw [if_pos c52] at H
              have c52b0 : decide (x35_2 < (t307.length : Int)) = true := decide_eq_true c52
              clear c52
              by_cases c53 : 0 ≤ x35_2
              · rw [if_pos c53] at H
                have c53b0 : decide (0 ≤ x35_2) = true := decide_eq_true c53
                clear c53
                by_cases c54 : x35_2 < (t307.length : Int)
                · rw [if_pos c54] at H
                  have c54b0 : decide (x35_2 < (t307.length : Int)) = true := decide_eq_true c54
                  clear c54
                  replace H := Option.bind_eq_some_iff.mp H
                  obtain ⟨t317, A550, H⟩ := H
                  try dsimp only at H
                  have A55 := Aside0.mk A550
                  clear A550
                  have H' := Aside0.mk H
                  clear H
                  have p316 : 0 ≤ (x35_2 : Int) := of_decide_eq_true (by first | (with_reducible assumption) | assumption)
                  have q316 : x35_2 < (t307.length : Int) := of_decide_eq_true (by first | (with_reducible assumption) | assumption)
                  obtain ⟨ad316, e316, hx316_0⟩ := Kd.at_int (Kd.R_reads' HO_33.out).2.2 x35_2 p316 q316
                  cases e316
                  replace p316 := eq_true p316
                  replace q316 := eq_true q316
                  have hnb56 := NB303_302.out
                  have hnc56 := NB302_303.out
                  have hnb57 := NB303_304.out
                  have hnc57 := NB304_303.out
                  have hnb58 := NB303_305.out
                  have hnc58 := NB305_303.out
                  have hcz59_0 := bc0 BK303.out
                  have hcz59_1 := bc1 BK303.out
                  have hcz59_2 := bc2 BK303.out
                  have hfz59_0 := blk_frozen BK303.out 0
                  have hfz59_1 := blk_frozen BK303.out 1
                  have hfz59_2 := blk_frozen BK303.out 2
                  go_wp2_with (first | ((with_reducible refine gate_callee (f := 46) rfl ?_); refine goesL_ (some 40) rfl rfl Try.func46 (by kernel_rfl) rfl #[.agg #[.bool a2_0, .int .i64 a2_1, .int .i64 a2_2]] rfl (by (try simp only [List.map_toArray, List.map_cons, List.map_nil]); first | done | rfl | (simp only [List.length_drop, List.length_take]; rfl)) ?_; (with_reducible refine (impl_Span_words.calls k2 a2_0 a2_1 a2_2 t317 _ A55.out).mono ?_); rintro e w60 ⟨v318, rfl, ho0, hb⟩; refine ⟨_, rfl, ?_⟩; have n0_ := Aside0.mk (Kd.R_elder' (by (with_reducible repeat (first | apply Kd.R_alloc | apply Kd.R_drewN | apply Kd.R_drew)); exact HO_10.out) (Kd.R_base ho0) hb); have n1_ := Aside0.mk (Kd.R_elder' (by (with_reducible repeat (first | apply Kd.R_alloc | apply Kd.R_drewN | apply Kd.R_drew)); exact HO_11.out) (Kd.R_base ho0) hb); have n2_ := Aside0.mk (Kd.R_elder' (by (with_reducible repeat (first | apply Kd.R_alloc | apply Kd.R_drewN | apply Kd.R_drew)); exact HO_33.out) (Kd.R_base ho0) hb); have n3_ := Aside0.mk (Kd.R_lower (Kd.R_new' (Kd.R_new' (Kd.R_new' ho0 (Kd.R_lt (by (with_reducible repeat (first | apply Kd.R_alloc | apply Kd.R_drewN | apply Kd.R_drew)); exact HO_10.out))) (Kd.R_lt (by (with_reducible repeat (first | apply Kd.R_alloc | apply Kd.R_drewN | apply Kd.R_drew)); exact HO_11.out))) (Kd.R_lt (by (with_reducible repeat (first | apply Kd.R_alloc | apply Kd.R_drewN | apply Kd.R_drew)); exact HO_33.out))) (below_size bl)); have n4_ := Bk.mk (blk_below (g := gb302) bk hb); have n5_ := Bk.mk (blk_below (g := gb303) bk hb); have n6_ := Bk.mk (blk_below (g := gb304) bk hb); have n7_ := Bk.mk (blk_below (g := gb305) bk hb); have n8_ := Bl.mk (below_step bl hb); clear HO_10; clear HO_11; clear HO_33; clear BK302; clear BK303; clear BK304; clear BK305; clear HB; have HO_10 := n0_; have HO_11 := n1_; have HO_33 := n2_; have HO319 := n3_; have BK302 := n4_; have BK303 := n5_; have BK304 := n6_; have BK305 := n7_; have HB := n8_; clear n0_ n1_ n2_ n3_ n4_ n5_ n6_ n7_ n8_; (try clear hb); (try clear hb2); (try clear hk); (try clear hi); (try clear ho0); obtain ⟨Ao61, co61, eo61⟩ := Kd.R_slice HO319.out; subst eo61))
                  go_loopg [10, 11, 42] k2 (fun kq v10 v11 v42 w' => ∃ (x10_3 : List Int) (x11_3 : List Int) (x42_3 : Int), v42 = .int .i64 x42_3 ∧ Aside0 (impl_SpanWhen.l1 kq a0 a3 x10_3 x11_3 (rd t307 x35_2) t307 (t307.length : Int) x35_2 t317 (t317.length : Int) x42_3 a2_0 a2_1 a2_2 = some (r1, r2, r3, r4, r5, r6)) ∧ Aside0 (kq ≤ k2) ∧ Aside0 (Kd.R (Kd.int .i64) 3 w' w.heap.size (fun k_ => some k_ ≠ (v11 : Value).ownBlock ∧ some k_ ≠ ((.slice (some ad316) t307.length co51) : Value).ownBlock ∧ some k_ ≠ ((.slice Ao61 t317.length co61) : Value).ownBlock) v10 x10_3) ∧ Aside0 (Kd.R (Kd.int .i64) 3 w' w.heap.size (fun k_ => some k_ ≠ (v10 : Value).ownBlock ∧ some k_ ≠ ((.slice (some ad316) t307.length co51) : Value).ownBlock ∧ some k_ ≠ ((.slice Ao61 t317.length co61) : Value).ownBlock) v11 x11_3) ∧ Aside0 (Kd.R (Kd.int .i64) 3 w' w.heap.size (fun k_ => some k_ ≠ (v10 : Value).ownBlock ∧ some k_ ≠ (v11 : Value).ownBlock ∧ some k_ ≠ ((.slice Ao61 t317.length co61) : Value).ownBlock) (.slice (some ad316) t307.length co51) t307) ∧ Aside0 (Kd.R (Kd.int .i64) 3 w' w.heap.size (fun k_ => some k_ ≠ (v10 : Value).ownBlock ∧ some k_ ≠ (v11 : Value).ownBlock ∧ some k_ ≠ ((.slice (some ad316) t307.length co51) : Value).ownBlock) (.slice Ao61 t317.length co61) t317) ∧ Bk w' gb302 (.cells #[.bool a1_0, .int .i64 a1_1, .int .i64 a1_2] 30 (0, 0)) ∧ Bk w' gb303 (.cells #[.bool a2_0, .int .i64 a2_1, .int .i64 a2_2] 30 (0, 0)) ∧ Bk w' gb304 (.cells #[.bool false, .int .i64 0, .int .i64 0] 30 (0, 0)) ∧ Bk w' gb305 (.cells #[.bool false, .int .i64 0, .int .i64 0] 30 (0, 0)) ∧ Bl w.heap.size w w')
                  case atStart => exact ⟨(x10_2), (x11_2), (0), (by first | rfl | (simp; done) | (simp [*]; done)), H', ⟨Nat.le_refl _⟩, ⟨by (with_reducible repeat (first | apply Kd.R_alloc | apply Kd.R_drewN | apply Kd.R_drew)); exact Kd.R_mono HO_10.out (fun _ hk => ⟨hk.1.1, ⟨hk.1.2, hk.2⟩⟩)⟩, ⟨by (with_reducible repeat (first | apply Kd.R_alloc | apply Kd.R_drewN | apply Kd.R_drew)); exact Kd.R_mono HO_11.out (fun _ hk => ⟨hk.1.1, ⟨hk.1.2, hk.2⟩⟩)⟩, ⟨by (with_reducible repeat (first | apply Kd.R_alloc | apply Kd.R_drewN | apply Kd.R_drew)); exact Kd.R_mono HO_33.out (fun _ hk => ⟨hk.1.1, ⟨hk.1.2, hk.2⟩⟩)⟩, ⟨by (with_reducible repeat (first | apply Kd.R_alloc | apply Kd.R_drewN | apply Kd.R_drew)); exact Kd.R_mono HO319.out (fun _ hk => ⟨hk.1.1.2, ⟨hk.1.2, hk.2⟩⟩)⟩, ⟨bk⟩, ⟨bk⟩, ⟨bk⟩, ⟨bk⟩, ⟨bl⟩⟩
                  case round =>
                    clear H'
                    try clear c1
                    try clear c2
                    try clear p2
                    try clear c3
                    try clear p3
                    try clear q3
                    try clear hx3
                    try clear c4
                    try clear c5
                    try clear c11
                    try clear c12
                    try clear c12b0
                    try clear c12b1
                    try clear c13
                    try clear c14
                    try clear c15
                    try clear c17
                    try clear c18
                    try clear c19
                    try clear c21
                    try clear c22
                    try clear c23
                    try clear c25
                    try clear c26
                    try clear c29
                    try clear c30
                    try clear c31
                    try clear p31
                    try clear q31
                    try clear hx31
                    try clear c33
                    try clear c34
                    try clear c37
                    try clear c38
                    try clear c39
                    try clear c40
                    try clear c42
                    try clear c43
                    try clear c45
                    try clear c46
                    try clear c47
                    try clear c48
                    try clear c52
                    try clear c52b0
                    try clear c53
                    try clear c53b0
                    try clear c54
                    try clear c54b0
                    try clear c56
                    try clear c57
                    try clear c58
                    try clear hcz16_0
                    try clear hcz16_1
                    try clear hcz16_2
                    try clear hcz19_0
                    try clear hcz19_1
                    try clear hcz19_2
                    try clear hcz24_0
                    try clear hcz24_1
                    try clear hcz24_2
                    try clear hcz27_0
                    try clear hcz27_1
                    try clear hcz27_2
                    try clear hcz32_0
                    try clear hcz32_1
                    try clear hcz32_2
                    try clear hcz35_0
                    try clear hcz35_1
                    try clear hcz35_2
                    try clear hcz41_0
                    try clear hcz41_1
                    try clear hcz41_2
                    try clear hcz44_0
                    try clear hcz44_1
                    try clear hcz44_2
                    try clear hcz49_0
                    try clear hcz49_1
                    try clear hcz49_2
                    try clear hcz59_0
                    try clear hcz59_1
                    try clear hcz59_2
                    try clear hfz16_0
                    try clear hfz16_1
                    try clear hfz16_2
                    try clear hfz19_0
                    try clear hfz19_1
                    try clear hfz19_2
                    try clear hfz24_0
                    try clear hfz24_1
                    try clear hfz24_2
                    try clear hfz27_0
                    try clear hfz27_1
                    try clear hfz27_2
                    try clear hfz32_0
                    try clear hfz32_1
                    try clear hfz32_2
                    try clear hfz35_0
                    try clear hfz35_1
                    try clear hfz35_2
                    try clear hfz41_0
                    try clear hfz41_1
                    try clear hfz41_2
                    try clear hfz44_0
                    try clear hfz44_1
                    try clear hfz44_2
                    try clear hfz49_0
                    try clear hfz49_1
                    try clear hfz49_2
                    try clear hfz59_0
                    try clear hfz59_1
                    try clear hfz59_2
                    try clear hx316_0
                    try clear p2
                    try clear p316
                    try clear q316
                    obtain ⟨x10_3, x11_3, x42_3, rfl, HA, HK3, HO_10, HO_11, HO_33, HO_40, BK302, BK303, BK304, BK305, HB⟩ := hrel
                    cases gk with
                    | zero => exact absurd HA.out (by simp [impl_SpanWhen.l1])
                    | succ k3 =>
                      have H := HA.out
                      clear HA
                      simp only [impl_SpanWhen.l1] at H
                      by_cases c62 : x42_3 < (t317.length : Int)
                      · rw [if_pos c62] at H
                        have c62b0 : decide (x42_3 < (t317.length : Int)) = true := decide_eq_true c62
                        clear c62
                        by_cases c63 : 0 ≤ x42_3
                        · rw [if_pos c63] at H
                          have c63b0 : decide (0 ≤ x42_3) = true := decide_eq_true c63
                          clear c63
                          by_cases c64 : x42_3 < (t317.length : Int)
                          · rw [if_pos c64] at H
                            have c64b0 : decide (x42_3 < (t317.length : Int)) = true := decide_eq_true c64
                            clear c64
                            replace H := Option.bind_eq_some_iff.mp H
                            obtain ⟨⟨t321, t322⟩, A650, H⟩ := H
                            try dsimp only at H
                            have A65 := Aside0.mk A650
                            clear A650
                            by_cases c66 : ((t321 == 1) == a3) = true
                            · rw [if_pos c66] at H
                              have c66b0 : ((t321 == 1) == a3) = true := c66
                              (try (have c66b1 : decide ((t321 == 1) = a3) = true := by simpa using c66))
                              (try (have c66b2 : ((t321 == 1) == a3) = true := by simpa using c66))
                              clear c66
                              by_cases c67 : x10_3.length < 17592186044416
                              · rw [if_pos c67] at H
                                have LMc67 := Aside0.mk c67
                                clear c67
                                obtain ⟨y323, hy323⟩ : ∃ y_ : List Int, y_ = (x10_3 ++ [(rd t307 x35_2)]) := ⟨_, rfl⟩
                                replace H : (if x11_3.length < 17592186044416 then (impl_SpanWhen.l1 k3 a0 a3 y323 (x11_3 ++ [rd t317 x42_3]) (rd t307 x35_2) t307 (t307.length : Int) x35_2 t317 (t317.length : Int) (wrap64 (x42_3 + 1)) a2_0 a2_1 a2_2) else (none)) = some (r1, r2, r3, r4, r5, r6) := by first | (rw [hy323]; with_reducible exact H) | (have H2_ := (Option.bind_some _ _).symm.trans H; rw [hy323]; with_reducible exact H2_) | (have H2_ := (Option.bind_some _ _).symm.trans H; with_reducible exact H2_) | with_reducible exact H | (rw [hy323]; exact H) | exact H
                                have Ny323 := Aside0.mk hy323
                                clear hy323
                                by_cases c68 : x11_3.length < 17592186044416
                                · rw [if_pos c68] at H
                                  have LMc68 := Aside0.mk c68
                                  clear c68
                                  obtain ⟨y326, hy326⟩ : ∃ y_ : List Int, y_ = (x11_3 ++ [rd t317 x42_3]) := ⟨_, rfl⟩
                                  replace H : (impl_SpanWhen.l1 k3 a0 a3 y323 y326 (rd t307 x35_2) t307 (t307.length : Int) x35_2 t317 (t317.length : Int) (wrap64 (x42_3 + 1)) a2_0 a2_1 a2_2) = some (r1, r2, r3, r4, r5, r6) := by first | (rw [hy326]; with_reducible exact H) | (have H2_ := (Option.bind_some _ _).symm.trans H; rw [hy326]; with_reducible exact H2_) | (have H2_ := (Option.bind_some _ _).symm.trans H; with_reducible exact H2_) | with_reducible exact H | (rw [hy326]; exact H) | exact H
                                  have Ny326 := Aside0.mk hy326
                                  clear hy326
                                  have H' := Aside0.mk H
                                  clear H
                                  have p320 : 0 ≤ (x42_3 : Int) := of_decide_eq_true (by first | (with_reducible assumption) | assumption)
                                  have q320 : x42_3 < (t317.length : Int) := of_decide_eq_true (by first | (with_reducible assumption) | assumption)
                                  obtain ⟨ad320, e320, hx320_0⟩ := Kd.at_int (Kd.R_reads' HO_40.out).2.2 x42_3 p320 q320
                                  cases e320
                                  replace p320 := eq_true p320
                                  replace q320 := eq_true q320
                                  go_wp2_with (first | ((with_reducible refine gate_callee (f := 35) rfl ?_); refine goesL_ (some 50) rfl rfl Try.func35 (by kernel_rfl) rfl #[.int .i64 a0, .int .i64 (rd t307 x35_2), .int .i64 (rd t317 x42_3)] rfl (by (try simp only [List.map_toArray, List.map_cons, List.map_nil]); first | done | rfl | (simp only [List.length_drop, List.length_take]; rfl)) ?_; (with_reducible refine (impl_raw.calls a0 (rd t307 x35_2) (rd t317 x42_3) t321 t322 _ A65.out).mono ?_); rintro e w69 ⟨rfl, hb⟩; refine ⟨_, rfl, ?_⟩; have n0_ := Aside0.mk (Kd.R_below (by (with_reducible repeat (first | apply Kd.R_alloc | apply Kd.R_drewN | apply Kd.R_drew)); exact HO_10.out) hb); have n1_ := Aside0.mk (Kd.R_below (by (with_reducible repeat (first | apply Kd.R_alloc | apply Kd.R_drewN | apply Kd.R_drew)); exact HO_11.out) hb); have n2_ := Aside0.mk (Kd.R_below (by (with_reducible repeat (first | apply Kd.R_alloc | apply Kd.R_drewN | apply Kd.R_drew)); exact HO_33.out) hb); have n3_ := Aside0.mk (Kd.R_below (by (with_reducible repeat (first | apply Kd.R_alloc | apply Kd.R_drewN | apply Kd.R_drew)); exact HO_40.out) hb); have n4_ := Bk.mk (blk_below (g := gb302) bk hb); have n5_ := Bk.mk (blk_below (g := gb303) bk hb); have n6_ := Bk.mk (blk_below (g := gb304) bk hb); have n7_ := Bk.mk (blk_below (g := gb305) bk hb); have n8_ := Bl.mk (below_step bl hb); clear HO_10; clear HO_11; clear HO_33; clear HO_40; clear BK302; clear BK303; clear BK304; clear BK305; clear HB; have HO_10 := n0_; have HO_11 := n1_; have HO_33 := n2_; have HO_40 := n3_; have BK302 := n4_; have BK303 := n5_; have BK304 := n6_; have BK305 := n7_; have HB := n8_; clear n0_ n1_ n2_ n3_ n4_ n5_ n6_ n7_ n8_; (try clear hb); (try clear hb2); (try clear hk); (try clear hi)) | ((with_reducible refine gate_builtin (b := .append) (xs := #[.tmp 57, .tmp 59]) rfl ?_); at_builtin; refine Kd.R_append (Kd.int .i64) (w0 := w) w.heap.size rfl (.tmp 57) (.tmp 59) 56 3 (.int .i64 0) 8 rfl Try.underlying56 info3 rfl (by decide) (by omega) u10 x10_3 (rd t307 x35_2) [.int .i64 (rd t307 x35_2)] (fun k_ => some k_ ≠ (u11 : Value).ownBlock ∧ some k_ ≠ (.slice (some ad316) t307.length co51 : Value).ownBlock ∧ some k_ ≠ (.slice (some ad320) t317.length co61 : Value).ownBlock) (fun _ => False) rfl rfl ?aP (fun _ hk => hk.elim) ?aF ?aO ?aB ?aS ?aL ?_; (case aP => exact rfl); (case aB => exact bl); (case aF => exact (fun k_ hk => ⟨Kd.fresh' (Kd.R_lt (by (with_reducible repeat (first | apply Kd.R_alloc | apply Kd.R_drewN | apply Kd.R_drew)); exact HO_11.out)) k_ hk, Kd.fresh' (Kd.R_lt (by (with_reducible repeat (first | apply Kd.R_alloc | apply Kd.R_drewN | apply Kd.R_drew)); exact HO_33.out)) k_ hk, Kd.fresh' (Kd.R_lt (by (with_reducible repeat (first | apply Kd.R_alloc | apply Kd.R_drewN | apply Kd.R_drew)); exact HO_40.out)) k_ hk⟩)); (case aO => exact (by (with_reducible repeat (first | apply Kd.R_alloc | apply Kd.R_drewN | apply Kd.R_drew)); exact HO_10.out)); (case aS => exact (below_size bl)); (case aL => have := LMc67.out; omega); intro v324 w70 ho hb hg hat; rw [← Ny323.out] at ho; have n0_ := Aside0.mk (Kd.R_after (ok := (fun k_ => some k_ ≠ (.slice (some ad316) t307.length co51 : Value).ownBlock ∧ some k_ ≠ (.slice (some ad320) t317.length co61 : Value).ownBlock)) (by (with_reducible repeat (first | apply Kd.R_alloc | apply Kd.R_drewN | apply Kd.R_drew)); exact Kd.R_mono HO_11.out (fun _ hk => ⟨⟨hk.2.1, hk.2.2⟩, hk.1⟩)) hg hat); have n1_ := Aside0.mk (Kd.R_after (ok := (fun k_ => some k_ ≠ (u11 : Value).ownBlock ∧ some k_ ≠ (.slice (some ad320) t317.length co61 : Value).ownBlock)) (by (with_reducible repeat (first | apply Kd.R_alloc | apply Kd.R_drewN | apply Kd.R_drew)); exact Kd.R_mono HO_33.out (fun _ hk => ⟨⟨hk.2.1, hk.2.2⟩, hk.1⟩)) hg hat); have n2_ := Aside0.mk (Kd.R_after (ok := (fun k_ => some k_ ≠ (u11 : Value).ownBlock ∧ some k_ ≠ (.slice (some ad316) t307.length co51 : Value).ownBlock)) (by (with_reducible repeat (first | apply Kd.R_alloc | apply Kd.R_drewN | apply Kd.R_drew)); exact Kd.R_mono HO_40.out (fun _ hk => ⟨⟨hk.2.1, hk.2.2⟩, hk.1⟩)) hg hat); have n3_ := Bk.mk (blk_grown (g := gb302) (o := .cells #[.bool a1_0, .int .i64 a1_1, .int .i64 a1_2] 30 (0, 0)) bk hg (Kd.R_ne HO_10.out BK302.out (by decide))); have n4_ := Bk.mk (blk_grown (g := gb303) (o := .cells #[.bool a2_0, .int .i64 a2_1, .int .i64 a2_2] 30 (0, 0)) bk hg (Kd.R_ne HO_10.out BK303.out (by decide))); have n5_ := Bk.mk (blk_grown (g := gb304) (o := .cells #[.bool false, .int .i64 0, .int .i64 0] 30 (0, 0)) bk hg (Kd.R_ne HO_10.out BK304.out (by decide))); have n6_ := Bk.mk (blk_grown (g := gb305) (o := .cells #[.bool false, .int .i64 0, .int .i64 0] 30 (0, 0)) bk hg (Kd.R_ne HO_10.out BK305.out (by decide))); have n7_ := Bl.mk (hb); have n8_ := Aside0.mk (ho); clear HO_11; clear HO_33; clear HO_40; clear BK302; clear BK303; clear BK304; clear BK305; clear HB; clear HO_10; have HO_11 := n0_; have HO_33 := n1_; have HO_40 := n2_; have BK302 := n3_; have BK303 := n4_; have BK304 := n5_; have BK305 := n6_; have HB := n7_; have HO325 := n8_; clear n0_ n1_ n2_ n3_ n4_ n5_ n6_ n7_ n8_; clear ho hb hg hat) | ((with_reducible refine gate_builtin (b := .append) (xs := #[.tmp 61, .tmp 63]) rfl ?_); at_builtin; refine Kd.R_append (Kd.int .i64) (w0 := w) w.heap.size rfl (.tmp 61) (.tmp 63) 56 3 (.int .i64 0) 8 rfl Try.underlying56 info3 rfl (by decide) (by omega) u11 x11_3 (rd t317 x42_3) [.int .i64 (rd t317 x42_3)] (fun k_ => some k_ ≠ (.slice (some ad316) t307.length co51 : Value).ownBlock ∧ some k_ ≠ (.slice (some ad320) t317.length co61 : Value).ownBlock ∧ some k_ ≠ (v324 : Value).ownBlock) (fun _ => False) rfl rfl ?aP (fun _ hk => hk.elim) ?aF ?aO ?aB ?aS ?aL ?_; (case aP => exact rfl); (case aB => exact bl); (case aF => exact (fun k_ hk => ⟨Kd.fresh' (Kd.R_lt (by (with_reducible repeat (first | apply Kd.R_alloc | apply Kd.R_drewN | apply Kd.R_drew)); exact HO_33.out)) k_ hk, Kd.fresh' (Kd.R_lt (by (with_reducible repeat (first | apply Kd.R_alloc | apply Kd.R_drewN | apply Kd.R_drew)); exact HO_40.out)) k_ hk, Kd.fresh' (Kd.R_lt (by (with_reducible repeat (first | apply Kd.R_alloc | apply Kd.R_drewN | apply Kd.R_drew)); exact HO325.out)) k_ hk⟩)); (case aO => exact (by (with_reducible repeat (first | apply Kd.R_alloc | apply Kd.R_drewN | apply Kd.R_drew)); exact Kd.R_mono HO_11.out (fun _ hk => ⟨hk.1.1, ⟨hk.1.2, hk.2⟩⟩))); (case aS => exact (below_size bl)); (case aL => have := LMc68.out; omega); intro v327 w71 ho hb hg hat; rw [← Ny326.out] at ho; have n0_ := Aside0.mk (Kd.R_after (ok := (fun k_ => some k_ ≠ (.slice (some ad320) t317.length co61 : Value).ownBlock ∧ some k_ ≠ (v324 : Value).ownBlock)) (by (with_reducible repeat (first | apply Kd.R_alloc | apply Kd.R_drewN | apply Kd.R_drew)); exact Kd.R_mono HO_33.out (fun _ hk => ⟨⟨hk.1.2, hk.2⟩, hk.1.1⟩)) hg hat); have n1_ := Aside0.mk (Kd.R_after (ok := (fun k_ => some k_ ≠ (.slice (some ad316) t307.length co51 : Value).ownBlock ∧ some k_ ≠ (v324 : Value).ownBlock)) (by (with_reducible repeat (first | apply Kd.R_alloc | apply Kd.R_drewN | apply Kd.R_drew)); exact Kd.R_mono HO_40.out (fun _ hk => ⟨⟨hk.1.2, hk.2⟩, hk.1.1⟩)) hg hat); have n2_ := Bk.mk (blk_grown (g := gb302) (o := .cells #[.bool a1_0, .int .i64 a1_1, .int .i64 a1_2] 30 (0, 0)) bk hg (Kd.R_ne HO_11.out BK302.out (by decide))); have n3_ := Bk.mk (blk_grown (g := gb303) (o := .cells #[.bool a2_0, .int .i64 a2_1, .int .i64 a2_2] 30 (0, 0)) bk hg (Kd.R_ne HO_11.out BK303.out (by decide))); have n4_ := Bk.mk (blk_grown (g := gb304) (o := .cells #[.bool false, .int .i64 0, .int .i64 0] 30 (0, 0)) bk hg (Kd.R_ne HO_11.out BK304.out (by decide))); have n5_ := Bk.mk (blk_grown (g := gb305) (o := .cells #[.bool false, .int .i64 0, .int .i64 0] 30 (0, 0)) bk hg (Kd.R_ne HO_11.out BK305.out (by decide))); have n6_ := Aside0.mk (Kd.R_after (ok := (fun k_ => some k_ ≠ (.slice (some ad316) t307.length co51 : Value).ownBlock ∧ some k_ ≠ (.slice (some ad320) t317.length co61 : Value).ownBlock)) (by (with_reducible repeat (first | apply Kd.R_alloc | apply Kd.R_drewN | apply Kd.R_drew)); exact Kd.R_mono HO325.out (fun _ hk => ⟨⟨hk.2.1, hk.2.2⟩, hk.1⟩)) hg hat); have n7_ := Bl.mk (hb); have n8_ := Aside0.mk (ho); clear HO_33; clear HO_40; clear BK302; clear BK303; clear BK304; clear BK305; clear HO325; clear HB; clear HO_11; have HO_33 := n0_; have HO_40 := n1_; have BK302 := n2_; have BK303 := n3_; have BK304 := n4_; have BK305 := n5_; have HO325 := n6_; have HB := n7_; have HO328 := n8_; clear n0_ n1_ n2_ n3_ n4_ n5_ n6_ n7_ n8_; clear ho hb hg hat))
                                  go_roundg k3
                                  case measure => have := HJ4.out; have := HK2.out; have := HK3.out; omega
                                  case rel => exact ⟨(y323), (y326), (wrap64 (x42_3 + 1)), (by first | rfl | (simp; done) | (simp [*]; done)), H', ⟨by have := HJ4.out; have := HK2.out; have := HK3.out; omega⟩, ⟨by (with_reducible repeat (first | apply Kd.R_alloc | apply Kd.R_drewN | apply Kd.R_drew)); exact Kd.R_mono HO325.out (fun _ hk => ⟨hk.2, ⟨hk.1.1, hk.1.2⟩⟩)⟩, ⟨by (with_reducible repeat (first | apply Kd.R_alloc | apply Kd.R_drewN | apply Kd.R_drew)); exact Kd.R_mono HO328.out (fun _ hk => ⟨hk.2.2, ⟨hk.1, hk.2.1⟩⟩)⟩, ⟨by (with_reducible repeat (first | apply Kd.R_alloc | apply Kd.R_drewN | apply Kd.R_drew)); exact Kd.R_mono HO_33.out (fun _ hk => ⟨hk.1.2, ⟨hk.2, hk.1.1⟩⟩)⟩, ⟨by (with_reducible repeat (first | apply Kd.R_alloc | apply Kd.R_drewN | apply Kd.R_drew)); exact Kd.R_mono HO_40.out (fun _ hk => ⟨hk.1.2, ⟨hk.2, hk.1.1⟩⟩)⟩, ⟨bk⟩, ⟨bk⟩, ⟨bk⟩, ⟨bk⟩, ⟨bl⟩⟩
                                · rw [if_neg c68] at H
                                  exact absurd H (by simp)
                              · rw [if_neg c67] at H
                                exact absurd H (by simp)
                            · rw [if_neg c66] at H
                              have c66b0 : ((t321 == 1) == a3) = false := by simpa using c66
                              (try (have c66b1 : decide ((t321 == 1) = a3) = false := by simpa using c66))
                              (try (have c66b2 : ((t321 == 1) == a3) = false := by simpa using c66))
                              (try (have c66b3 : ¬ ((t321 == 1) = a3) := by simpa using c66))
                              clear c66
                              have H' := Aside0.mk H
                              clear H
                              have p320 : 0 ≤ (x42_3 : Int) := of_decide_eq_true (by first | (with_reducible assumption) | assumption)
                              have q320 : x42_3 < (t317.length : Int) := of_decide_eq_true (by first | (with_reducible assumption) | assumption)
                              obtain ⟨ad320, e320, hx320_0⟩ := Kd.at_int (Kd.R_reads' HO_40.out).2.2 x42_3 p320 q320
                              cases e320
                              replace p320 := eq_true p320
                              replace q320 := eq_true q320
                              go_wp2_with (first | ((with_reducible refine gate_callee (f := 35) rfl ?_); refine goesL_ (some 50) rfl rfl Try.func35 (by kernel_rfl) rfl #[.int .i64 a0, .int .i64 (rd t307 x35_2), .int .i64 (rd t317 x42_3)] rfl (by (try simp only [List.map_toArray, List.map_cons, List.map_nil]); first | done | rfl | (simp only [List.length_drop, List.length_take]; rfl)) ?_; (with_reducible refine (impl_raw.calls a0 (rd t307 x35_2) (rd t317 x42_3) t321 t322 _ A65.out).mono ?_); rintro e w72 ⟨rfl, hb⟩; refine ⟨_, rfl, ?_⟩; have n0_ := Aside0.mk (Kd.R_below (by (with_reducible repeat (first | apply Kd.R_alloc | apply Kd.R_drewN | apply Kd.R_drew)); exact HO_10.out) hb); have n1_ := Aside0.mk (Kd.R_below (by (with_reducible repeat (first | apply Kd.R_alloc | apply Kd.R_drewN | apply Kd.R_drew)); exact HO_11.out) hb); have n2_ := Aside0.mk (Kd.R_below (by (with_reducible repeat (first | apply Kd.R_alloc | apply Kd.R_drewN | apply Kd.R_drew)); exact HO_33.out) hb); have n3_ := Aside0.mk (Kd.R_below (by (with_reducible repeat (first | apply Kd.R_alloc | apply Kd.R_drewN | apply Kd.R_drew)); exact HO_40.out) hb); have n4_ := Bk.mk (blk_below (g := gb302) bk hb); have n5_ := Bk.mk (blk_below (g := gb303) bk hb); have n6_ := Bk.mk (blk_below (g := gb304) bk hb); have n7_ := Bk.mk (blk_below (g := gb305) bk hb); have n8_ := Bl.mk (below_step bl hb); clear HO_10; clear HO_11; clear HO_33; clear HO_40; clear BK302; clear BK303; clear BK304; clear BK305; clear HB; have HO_10 := n0_; have HO_11 := n1_; have HO_33 := n2_; have HO_40 := n3_; have BK302 := n4_; have BK303 := n5_; have BK304 := n6_; have BK305 := n7_; have HB := n8_; clear n0_ n1_ n2_ n3_ n4_ n5_ n6_ n7_ n8_; (try clear hb); (try clear hb2); (try clear hk); (try clear hi)))
                              go_roundg k3
                              case measure => have := HJ4.out; have := HK2.out; have := HK3.out; omega
                              case rel => exact ⟨(x10_3), (x11_3), (wrap64 (x42_3 + 1)), (by first | rfl | (simp; done) | (simp [*]; done)), H', ⟨by have := HJ4.out; have := HK2.out; have := HK3.out; omega⟩, ⟨by (with_reducible repeat (first | apply Kd.R_alloc | apply Kd.R_drewN | apply Kd.R_drew)); exact HO_10.out⟩, ⟨by (with_reducible repeat (first | apply Kd.R_alloc | apply Kd.R_drewN | apply Kd.R_drew)); exact HO_11.out⟩, ⟨by (with_reducible repeat (first | apply Kd.R_alloc | apply Kd.R_drewN | apply Kd.R_drew)); exact HO_33.out⟩, ⟨by (with_reducible repeat (first | apply Kd.R_alloc | apply Kd.R_drewN | apply Kd.R_drew)); exact HO_40.out⟩, ⟨bk⟩, ⟨bk⟩, ⟨bk⟩, ⟨bk⟩, ⟨bl⟩⟩
                          · rw [if_neg c64] at H
                            exact absurd H (by simp)
                        · rw [if_neg c63] at H
                          exact absurd H (by simp)
                      · rw [if_neg c62] at H
                        have c62b0 : decide (x42_3 < (t317.length : Int)) = false := decide_eq_false c62
                        clear c62
                        have H' := Aside0.mk H
                        clear H
                        go_wp2
                        go_roundg k3
                        case measure => have := HJ4.out; have := HK2.out; have := HK3.out; omega
                        case rel => exact ⟨(x10_3), (x11_3), (wrap64 (x35_2 + 1)), (by first | rfl | (simp; done) | (simp [*]; done)), H', ⟨by have := HJ4.out; have := HK2.out; have := HK3.out; omega⟩, ⟨by (with_reducible repeat (first | apply Kd.R_alloc | apply Kd.R_drewN | apply Kd.R_drew)); exact Kd.R_mono HO_10.out (fun _ hk => ⟨hk.1, hk.2.1⟩)⟩, ⟨by (with_reducible repeat (first | apply Kd.R_alloc | apply Kd.R_drewN | apply Kd.R_drew)); exact Kd.R_mono HO_11.out (fun _ hk => ⟨hk.1, hk.2.1⟩)⟩, ⟨by (with_reducible repeat (first | apply Kd.R_alloc | apply Kd.R_drewN | apply Kd.R_drew)); exact Kd.R_mono HO_33.out (fun _ hk => ⟨hk.1, hk.2.1⟩)⟩, ⟨bk⟩, ⟨bk⟩, ⟨bk⟩, ⟨bk⟩, ⟨bl⟩⟩
                · rw [if_neg c54] at H
                  exact absurd H (by simp)
              · rw [if_neg c53] at H
                exact absurd H (by simp)
            · rw [if_neg c52] at H
              have c52b0 : decide (x35_2 < (t307.length : Int)) = false := decide_eq_false c52
              clear c52
              replace H := Option.bind_eq_some_iff.mp H
              obtain ⟨⟨t310, t311, t312⟩, A730, H⟩ := H
              try dsimp only at H
              have A73 := Aside0.mk A730
              clear A730
              replace H := Option.bind_eq_some_iff.mp H
              obtain ⟨⟨t313, t314, t315⟩, A740, H⟩ := H
              try dsimp only at H
              have A74 := Aside0.mk A740
              clear A740
              simp only [Option.some.injEq, Prod.mk.injEq] at H
              obtain ⟨rfl, rfl, rfl, rfl, rfl, rfl⟩ := H
              obtain ⟨Ao75, co75, eo75⟩ := Kd.R_slice HO_10.out
              subst eo75
              go_wp2_with (first | ((with_reducible refine gate_callee (f := 47) rfl ?_); refine goesL_ (some 68) rfl rfl Try.func47 (by kernel_rfl) rfl #[.slice Ao75 x10_2.length co75] rfl (by (try simp only [List.map_toArray, List.map_cons, List.map_nil]); first | done | rfl | (simp only [List.length_drop, List.length_take]; rfl)) ?_; (with_reducible refine (impl_spanned.calls k2 _ _ x10_2 t310 t311 t312 _ ?side1 ?side2 A73.out).mono ?_); (case side1 => repeat (first | exact (Kd.R_reads' HO_10.out).2.2 | (with_reducible refine Kd.C_alloc ?_ _) | (with_reducible refine Kd.C_drewN ?_ _) | (with_reducible refine Kd.C_drew ?_))); (case side2 => exact (Kd.R_reads' HO_10.out).2.1); rintro e w76 ⟨rfl, hb⟩; refine ⟨_, rfl, ?_⟩; have n0_ := Aside0.mk (Kd.R_below (by (with_reducible repeat (first | apply Kd.R_alloc | apply Kd.R_drewN | apply Kd.R_drew)); exact HO_10.out) hb); have n1_ := Aside0.mk (Kd.R_below (by (with_reducible repeat (first | apply Kd.R_alloc | apply Kd.R_drewN | apply Kd.R_drew)); exact HO_11.out) hb); have n2_ := Aside0.mk (Kd.R_below (by (with_reducible repeat (first | apply Kd.R_alloc | apply Kd.R_drewN | apply Kd.R_drew)); exact HO_33.out) hb); have n3_ := Bk.mk (blk_below (g := gb302) bk hb); have n4_ := Bk.mk (blk_below (g := gb303) bk hb); have n5_ := Bk.mk (blk_below (g := gb304) bk hb); have n6_ := Bk.mk (blk_below (g := gb305) bk hb); have n7_ := Bl.mk (below_step bl hb); clear HO_10; clear HO_11; clear HO_33; clear BK302; clear BK303; clear BK304; clear BK305; clear HB; have HO_10 := n0_; have HO_11 := n1_; have HO_33 := n2_; have BK302 := n3_; have BK303 := n4_; have BK304 := n5_; have BK305 := n6_; have HB := n7_; clear n0_ n1_ n2_ n3_ n4_ n5_ n6_ n7_; (try clear hb); (try clear hb2); (try clear hk); (try clear hi); obtain ⟨Ao77, co77, eo77⟩ := Kd.R_slice HO_11.out; subst eo77) | ((with_reducible refine gate_callee (f := 47) rfl ?_); refine goesL_ (some 70) rfl rfl Try.func47 (by kernel_rfl) rfl #[.slice Ao77 x11_2.length co77] rfl (by (try simp only [List.map_toArray, List.map_cons, List.map_nil]); first | done | rfl | (simp only [List.length_drop, List.length_take]; rfl)) ?_; (with_reducible refine (impl_spanned.calls k2 _ _ x11_2 t313 t314 t315 _ ?side1 ?side2 A74.out).mono ?_); (case side1 => repeat (first | exact (Kd.R_reads' HO_11.out).2.2 | (with_reducible refine Kd.C_alloc ?_ _) | (with_reducible refine Kd.C_drewN ?_ _) | (with_reducible refine Kd.C_drew ?_))); (case side2 => exact (Kd.R_reads' HO_11.out).2.1); rintro e w78 ⟨rfl, hb⟩; refine ⟨_, rfl, ?_⟩; have n0_ := Aside0.mk (Kd.R_below (by (with_reducible repeat (first | apply Kd.R_alloc | apply Kd.R_drewN | apply Kd.R_drew)); exact HO_10.out) hb); have n1_ := Aside0.mk (Kd.R_below (by (with_reducible repeat (first | apply Kd.R_alloc | apply Kd.R_drewN | apply Kd.R_drew)); exact HO_11.out) hb); have n2_ := Aside0.mk (Kd.R_below (by (with_reducible repeat (first | apply Kd.R_alloc | apply Kd.R_drewN | apply Kd.R_drew)); exact HO_33.out) hb); have n3_ := Bk.mk (blk_below (g := gb302) bk hb); have n4_ := Bk.mk (blk_below (g := gb303) bk hb); have n5_ := Bk.mk (blk_below (g := gb304) bk hb); have n6_ := Bk.mk (blk_below (g := gb305) bk hb); have n7_ := Bl.mk (below_step bl hb); clear HO_10; clear HO_11; clear HO_33; clear BK302; clear BK303; clear BK304; clear BK305; clear HB; have HO_10 := n0_; have HO_11 := n1_; have HO_33 := n2_; have BK302 := n3_; have BK303 := n4_; have BK304 := n5_; have BK305 := n6_; have HB := n7_; clear n0_ n1_ n2_ n3_ n4_ n5_ n6_ n7_; (try clear hb); (try clear hb2); (try clear hk); (try clear hi); have hnb79 := NB304_302.out; have hnc79 := NB302_304.out; have hnb80 := NB304_303.out; have hnc80 := NB303_304.out; have hnb81 := NB304_305.out; have hnc81 := NB305_304.out; have hcz82_0 := bc0 BK304.out; have hcz82_1 := bc1 BK304.out; have hcz82_2 := bc2 BK304.out; have hfz82_0 := blk_frozen BK304.out 0; have hfz82_1 := blk_frozen BK304.out 1; have hfz82_2 := blk_frozen BK304.out 2; have hnb83 := NB305_302.out; have hnc83 := NB302_305.out; have hnb84 := NB305_303.out; have hnc84 := NB303_305.out; have hcz85_0 := bc0 BK305.out; have hcz85_1 := bc1 BK305.out; have hcz85_2 := bc2 BK305.out; have hfz85_0 := blk_frozen BK305.out 0; have hfz85_1 := blk_frozen BK305.out 1; have hfz85_2 := blk_frozen BK305.out 2))
              refine bodyPost_ret (results_cc rfl _ _ gb304 gb305 30 30 #[.bool t310, .int .i64 t311, .int .i64 t312] #[.bool t313, .int .i64 t314, .int .i64 t315] (0, 0) (0, 0) _ _ rfl bk Try.underlying30 rfl (by kernel_rfl) rfl bk Try.underlying30 rfl (by kernel_rfl)) rfl ?_
              exact ⟨by first | rfl | (simp [errW_none, errW_some] <;> rfl) | (simp [*, errW_none, errW_some] <;> rfl), bl⟩

end Go.Proofs.Ytekmapilhomdgaa.P
