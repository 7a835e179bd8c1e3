/- The contracts of Go functions of this seat: each call comes to what the Lean function of the same name says. -/
import Derived.Test.YtekmapilhomdgaaPx0
import Derived.Test.YtekmapilhomdgaaPx2
import Derived.Test.YtekmapilhomdgaaPx3
import Derived.Test.YtekmapilhomdgaaPx15
import Derived.Test.YtekmapilhomdgaaPx17
import Derived.Test.YtekmapilhomdgaaPx29
import Derived.Test.YtekmapilhomdgaaPx30
namespace Go.Proofs.Ytekmapilhomdgaa.P
open Go.RowKit Go.Proofs.YtekmapilhomdgaaW.PrintWords Go.Proofs.YtekmapilhomdgaaW.PrintLast Go.Proofs.YtekmapilhomdgaaW.PrintMore
attribute [local go_sem] max2_int min2_int max_two min_two max_three min_three max_four min_four   -- for this text's walks alone
set_option linter.unusedVariables false
set_option linter.unusedSimpArgs false

/-! ### spec_SpanDo: function 21 -/
mutual
def spec_SpanDo.j0 : Nat → Int → Bool → Bool → Int → Int → Bool → Int → Int → Option (Bool × Int × Int)
  | 0, _, _, _, _, _, _, _, _ => none
  | k + 1, x0, x24, x398000, x398001, x398002, x399000, x399001, x399002 => if x24 = true then (some (false, 0, 0)) else (if x0 = 6 then ((spec_l1Same.f k x398000 x398001 x398002 x399000 x399001 x399002).bind fun bt403 => (some (bt403.1, bt403.2.1, bt403.2.2))) else ((spec_l1Ends.f k x0 x399000 x399001 x399002).bind fun t406 => (spec_SpanDo.l0 k x0 t406 0 x398000 x398001 x398002 false 0 0)))
def spec_SpanDo.l0 : Nat → Int → List Int → Int → Bool → Int → Int → Bool → Int → Int → Option (Bool × Int × Int)
  | 0, _, _, _, _, _, _, _, _, _ => none
  | k + 1, x0, x7, x9, x398000, x398001, x398002, x410000, x410001, x410002 => if x9 < (x7.length : Int) then (if 0 ≤ x9 then ((spec_l1Raw.f x0 x398001 (rd x7 x9)).bind fun t411 => ((spec_l1Raw.f x0 x398002 (rd x7 x9)).bind fun t413 => (if x410000 = true then ((spec_l1Of.f (mn (mn x410001 t411) t413) (mx (mx x410002 t411) t413)).bind fun bt414 => (spec_SpanDo.l0 k x0 x7 (wrap64 (x9 + 1)) x398000 x398001 x398002 bt414.1 bt414.2.1 bt414.2.2)) else ((spec_l1Of.f (mn t411 t413) (mx t411 t413)).bind fun bt417 => ((spec_l1Of.f (mn (mn bt417.2.1 t411) t413) (mx (mx bt417.2.2 t411) t413)).bind fun bt420 => (spec_SpanDo.l0 k x0 x7 (wrap64 (x9 + 1)) x398000 x398001 x398002 bt420.1 bt420.2.1 bt420.2.2)))))) else (none)) else (if x410000 = true then ((spec_l1Word.f x410001).bind fun t423 => (if t423 = true then ((spec_l1Word.f x410002).bind fun t424 => (if t424 = true then (some (x410000, x410001, x410002)) else ((spec_l1Of.f (-16) 15).bind fun bt425 => (some (bt425.1, bt425.2.1, bt425.2.2))))) else ((spec_l1Of.f (-16) 15).bind fun bt428 => (some (bt428.1, bt428.2.1, bt428.2.2))))) else (some (x410000, x410001, x410002)))
end
def spec_SpanDo.f (k : Nat) (a0 : Int) (a1_0 : Bool) (a1_1 : Int) (a1_2 : Int) (a2_0 : Bool) (a2_1 : Int) (a2_2 : Int) : Option (Bool × Int × Int) := (spec_l6In.f a0 1 6).bind fun t400 => (if t400 = true then ((spec_l1Some.f a1_0 a1_1 a1_2).bind fun t401 => (if t401 = true then ((spec_l1Some.f a2_0 a2_1 a2_2).bind fun t402 => (spec_SpanDo.j0 k a0 (!t402) a1_0 a1_1 a1_2 a2_0 a2_1 a2_2)) else (spec_SpanDo.j0 k a0 true a1_0 a1_1 a1_2 a2_0 a2_1 a2_2))) else (spec_SpanDo.j0 k a0 true a1_0 a1_1 a1_2 a2_0 a2_1 a2_2))
theorem spec_SpanDo.mono_l : ∀ k, (∀ y0 y1 y2 y3 y4 y5 y6 y7, LeO (spec_SpanDo.j0 k y0 y1 y2 y3 y4 y5 y6 y7) (spec_SpanDo.j0 (k + 1) y0 y1 y2 y3 y4 y5 y6 y7)) ∧ (∀ y0 y1 y2 y3 y4 y5 y6 y7 y8, LeO (spec_SpanDo.l0 k y0 y1 y2 y3 y4 y5 y6 y7 y8) (spec_SpanDo.l0 (k + 1) y0 y1 y2 y3 y4 y5 y6 y7 y8))
  | 0 => ⟨fun _ _ _ _ _ _ _ _ r h => by simp [spec_SpanDo.j0] at h, fun _ _ _ _ _ _ _ _ _ r h => by simp [spec_SpanDo.l0] at h⟩
  | k + 1 => by
    obtain ⟨ih0, ih1⟩ := spec_SpanDo.mono_l k
    refine ⟨?_, ?_⟩
    · intro y0 y1 y2 y3 y4 y5 y6 y7
      unfold spec_SpanDo.j0
      repeat' first
      | (with_reducible exact ih0 _ _ _ _ _ _ _ _)
      | (with_reducible exact ih1 _ _ _ _ _ _ _ _ _)
      | (with_reducible exact spec_l1Ends.mono _ _ _ _ _)
      | (with_reducible exact spec_l1Same.mono _ _ _ _ _ _ _)
      | (with_reducible exact LeO.refl _)
      | (with_reducible exact LeO.none _)
      | (with_reducible refine LeO.ite ?_ ?_)
      | (with_reducible refine LeO.bind ?_ (fun _ => ?_))
      | exact ih0 _ _ _ _ _ _ _ _
      | exact ih1 _ _ _ _ _ _ _ _ _
      | exact spec_l1Ends.mono _ _ _ _ _
      | exact spec_l1Same.mono _ _ _ _ _ _ _
      | exact LeO.none _
      | refine LeO.ite ?_ ?_
      | refine LeO.bind ?_ (fun _ => ?_)
    · intro y0 y1 y2 y3 y4 y5 y6 y7 y8
      unfold spec_SpanDo.l0
      repeat' first
      | (with_reducible exact ih0 _ _ _ _ _ _ _ _)
      | (with_reducible exact ih1 _ _ _ _ _ _ _ _ _)
      | (with_reducible exact spec_l1Ends.mono _ _ _ _ _)
      | (with_reducible exact spec_l1Same.mono _ _ _ _ _ _ _)
      | (with_reducible exact LeO.refl _)
      | (with_reducible exact LeO.none _)
      | (with_reducible refine LeO.ite ?_ ?_)
      | (with_reducible refine LeO.bind ?_ (fun _ => ?_))
      | exact ih0 _ _ _ _ _ _ _ _
      | exact ih1 _ _ _ _ _ _ _ _ _
      | exact spec_l1Ends.mono _ _ _ _ _
      | exact spec_l1Same.mono _ _ _ _ _ _ _
      | exact LeO.none _
      | refine LeO.ite ?_ ?_
      | refine LeO.bind ?_ (fun _ => ?_)
theorem spec_SpanDo.mono : ∀ a0 a1 a2 a3 a4 a5 a6 k, LeO (spec_SpanDo.f k a0 a1 a2 a3 a4 a5 a6) (spec_SpanDo.f (k + 1) a0 a1 a2 a3 a4 a5 a6) := by
  intro a0 a1 a2 a3 a4 a5 a6 k
  obtain ⟨ih0, ih1⟩ := spec_SpanDo.mono_l k
  unfold spec_SpanDo.f
  repeat' first
      | (with_reducible exact ih0 _ _ _ _ _ _ _ _)
      | (with_reducible exact ih1 _ _ _ _ _ _ _ _ _)
      | (with_reducible exact spec_l1Ends.mono _ _ _ _ _)
      | (with_reducible exact spec_l1Same.mono _ _ _ _ _ _ _)
      | (with_reducible exact LeO.refl _)
      | (with_reducible exact LeO.none _)
      | (with_reducible refine LeO.ite ?_ ?_)
      | (with_reducible refine LeO.bind ?_ (fun _ => ?_))
      | exact ih0 _ _ _ _ _ _ _ _
      | exact ih1 _ _ _ _ _ _ _ _ _
      | exact spec_l1Ends.mono _ _ _ _ _
      | exact spec_l1Same.mono _ _ _ _ _ _ _
      | exact LeO.none _
      | refine LeO.ite ?_ ?_
      | refine LeO.bind ?_ (fun _ => ?_)
set_option maxHeartbeats 8000000 in
set_option maxRecDepth 100000 in
theorem spec_SpanDo.calls (k : Nat) (a0 : Int) (a1_0 : Bool) (a1_1 : Int) (a1_2 : Int) (a2_0 : Bool) (a2_1 : Int) (a2_2 : Int) (r1 : Bool) (r2 : Int) (r3 : Int) (w : World) (h : spec_SpanDo.f k a0 a1_0 a1_1 a1_2 a2_0 a2_1 a2_2 = some (r1, r2, r3)) :
    Calls Try.prog 21 #[.int .i64 a0, .agg #[.bool a1_0, .int .i64 a1_1, .int .i64 a1_2], .agg #[.bool a2_0, .int .i64 a2_1, .int .i64 a2_2]] w fun e w' => e = .returned (.agg #[.bool r1, .int .i64 r2, .int .i64 r3]) ∧ Below w.heap.size w w' := by
  have hu30 := Try.underlying30
  have HB := Bl.mk (Below.refl w.heap.size w)
  unfold spec_SpanDo.f at h
  have H := h
  clear h
  have HC4 := Aside0.mk H
  clear H
  go_enter Try.func21, Try.ntmps21
  go_upto_region 1 with (first | ((with_reducible refine gate_dst (N := 4) rfl ?_); refine box_event ?hg (N := 4) ?hd (cs := #[.bool a1_0, .int .i64 a1_1, .int .i64 a1_2]) (t := 30) ?hr ?_; (case hd => rfl); (case hg => rfl); (case hr => first | (go_simp; done) | (go_simp; rfl)); intro gb397 hg w5 hbox hb; have n0_ := Bl.mk (below_step bl hb); have n1_ := Bk.mk (hbox); have n2_ := Aside0.mk ((by rw [hg]; exact (below_size bl) : w.heap.size ≤ gb397)); have n3_ := Gl.mk ((by rw [hg]; exact (below_size bl) : w.heap.size ≤ gb397)); clear HB; have HB := n0_; have BK397 := n1_; have GW397 := n2_; have GE397 := n3_; clear n0_ n1_ n2_ n3_; clear hb hbox hg) | ((with_reducible refine gate_dst (N := 5) rfl ?_); refine box_event ?hg (N := 5) ?hd (cs := #[.bool a2_0, .int .i64 a2_1, .int .i64 a2_2]) (t := 30) ?hr ?_; (case hd => rfl); (case hg => rfl); (case hr => first | (go_simp; done) | (go_simp; rfl)); intro gb398 hg w6 hbox hb; have n0_ := Bk.mk (blk_below (g := gb397) bk hb); have n1_ := Bl.mk (below_step bl hb); have n2_ := Bk.mk (hbox); have n3_ := Aside0.mk ((by rw [hg]; exact (below_size bl) : w.heap.size ≤ gb398)); have n4_ := Gl.mk ((by rw [hg]; exact (below_size bl) : w.heap.size ≤ gb398)); have n5_ := Nb.mk ((by rw [hg]; exact Nat.ne_of_lt (blk_lt (g := gb397) bk) : gb397 ≠ gb398)); have n6_ := Nb.mk ((by rw [hg]; exact Nat.ne_of_gt (blk_lt (g := gb397) bk) : gb398 ≠ gb397)); clear BK397; clear HB; have BK397 := n0_; have HB := n1_; have BK398 := n2_; have GW398 := n3_; have GE398 := n4_; have NB397_398 := n5_; have NB398_397 := n6_; clear n0_ n1_ n2_ n3_ n4_ n5_ n6_; clear hb hbox hg) | ((with_reducible refine gate_dst (N := 6) rfl ?_); refine box_event ?hg (N := 6) ?hd (cs := #[.bool false, .int .i64 0, .int .i64 0]) (t := 30) ?hr ?_; (case hd => rfl); (case hg => rfl); (case hr => first | (go_simp; done) | (go_simp; rfl)); intro gb399 hg w7 hbox hb; have n0_ := Bk.mk (blk_below (g := gb397) bk hb); have n1_ := Bk.mk (blk_below (g := gb398) bk hb); have n2_ := Bl.mk (below_step bl hb); have n3_ := Bk.mk (hbox); have n4_ := Aside0.mk ((by rw [hg]; exact (below_size bl) : w.heap.size ≤ gb399)); have n5_ := Gl.mk ((by rw [hg]; exact (below_size bl) : w.heap.size ≤ gb399)); have n6_ := Nb.mk ((by rw [hg]; exact Nat.ne_of_lt (blk_lt (g := gb397) bk) : gb397 ≠ gb399)); have n7_ := Nb.mk ((by rw [hg]; exact Nat.ne_of_gt (blk_lt (g := gb397) bk) : gb399 ≠ gb397)); have n8_ := Nb.mk ((by rw [hg]; exact Nat.ne_of_lt (blk_lt (g := gb398) bk) : gb398 ≠ gb399)); have n9_ := Nb.mk ((by rw [hg]; exact Nat.ne_of_gt (blk_lt (g := gb398) bk) : gb399 ≠ gb398)); clear BK397; clear BK398; clear HB; have BK397 := n0_; have BK398 := n1_; have HB := n2_; have BK399 := n3_; have GW399 := n4_; have GE399 := n5_; have NB397_399 := n6_; have NB399_397 := n7_; have NB398_399 := n8_; have NB399_398 := n9_; clear n0_ n1_ n2_ n3_ n4_ n5_ n6_ n7_ n8_ n9_; clear hb hbox hg))
  repeat (go_quiet (first | ((with_reducible refine gate_dst (N := 4) rfl ?_); refine box_event ?hg (N := 4) ?hd (cs := #[.bool a1_0, .int .i64 a1_1, .int .i64 a1_2]) (t := 30) ?hr ?_; (case hd => rfl); (case hg => rfl); (case hr => first | (go_simp; done) | (go_simp; rfl)); intro gb397 hg w5 hbox hb; have n0_ := Bl.mk (below_step bl hb); have n1_ := Bk.mk (hbox); have n2_ := Aside0.mk ((by rw [hg]; exact (below_size bl) : w.heap.size ≤ gb397)); have n3_ := Gl.mk ((by rw [hg]; exact (below_size bl) : w.heap.size ≤ gb397)); clear HB; have HB := n0_; have BK397 := n1_; have GW397 := n2_; have GE397 := n3_; clear n0_ n1_ n2_ n3_; clear hb hbox hg) | ((with_reducible refine gate_dst (N := 5) rfl ?_); refine box_event ?hg (N := 5) ?hd (cs := #[.bool a2_0, .int .i64 a2_1, .int .i64 a2_2]) (t := 30) ?hr ?_; (case hd => rfl); (case hg => rfl); (case hr => first | (go_simp; done) | (go_simp; rfl)); intro gb398 hg w6 hbox hb; have n0_ := Bk.mk (blk_below (g := gb397) bk hb); have n1_ := Bl.mk (below_step bl hb); have n2_ := Bk.mk (hbox); have n3_ := Aside0.mk ((by rw [hg]; exact (below_size bl) : w.heap.size ≤ gb398)); have n4_ := Gl.mk ((by rw [hg]; exact (below_size bl) : w.heap.size ≤ gb398)); have n5_ := Nb.mk ((by rw [hg]; exact Nat.ne_of_lt (blk_lt (g := gb397) bk) : gb397 ≠ gb398)); have n6_ := Nb.mk ((by rw [hg]; exact Nat.ne_of_gt (blk_lt (g := gb397) bk) : gb398 ≠ gb397)); clear BK397; clear HB; have BK397 := n0_; have HB := n1_; have BK398 := n2_; have GW398 := n3_; have GE398 := n4_; have NB397_398 := n5_; have NB398_397 := n6_; clear n0_ n1_ n2_ n3_ n4_ n5_ n6_; clear hb hbox hg) | ((with_reducible refine gate_dst (N := 6) rfl ?_); refine box_event ?hg (N := 6) ?hd (cs := #[.bool false, .int .i64 0, .int .i64 0]) (t := 30) ?hr ?_; (case hd => rfl); (case hg => rfl); (case hr => first | (go_simp; done) | (go_simp; rfl)); intro gb399 hg w7 hbox hb; have n0_ := Bk.mk (blk_below (g := gb397) bk hb); have n1_ := Bk.mk (blk_below (g := gb398) bk hb); have n2_ := Bl.mk (below_step bl hb); have n3_ := Bk.mk (hbox); have n4_ := Aside0.mk ((by rw [hg]; exact (below_size bl) : w.heap.size ≤ gb399)); have n5_ := Gl.mk ((by rw [hg]; exact (below_size bl) : w.heap.size ≤ gb399)); have n6_ := Nb.mk ((by rw [hg]; exact Nat.ne_of_lt (blk_lt (g := gb397) bk) : gb397 ≠ gb399)); have n7_ := Nb.mk ((by rw [hg]; exact Nat.ne_of_gt (blk_lt (g := gb397) bk) : gb399 ≠ gb397)); have n8_ := Nb.mk ((by rw [hg]; exact Nat.ne_of_lt (blk_lt (g := gb398) bk) : gb398 ≠ gb399)); have n9_ := Nb.mk ((by rw [hg]; exact Nat.ne_of_gt (blk_lt (g := gb398) bk) : gb399 ≠ gb398)); clear BK397; clear BK398; clear HB; have BK397 := n0_; have BK398 := n1_; have HB := n2_; have BK399 := n3_; have GW399 := n4_; have GE399 := n5_; have NB397_399 := n6_; have NB399_397 := n7_; have NB398_399 := n8_; have NB399_398 := n9_; clear n0_ n1_ n2_ n3_ n4_ n5_ n6_ n7_ n8_ n9_; clear hb hbox hg)); go_upto_region 1 with (first | ((with_reducible refine gate_dst (N := 4) rfl ?_); refine box_event ?hg (N := 4) ?hd (cs := #[.bool a1_0, .int .i64 a1_1, .int .i64 a1_2]) (t := 30) ?hr ?_; (case hd => rfl); (case hg => rfl); (case hr => first | (go_simp; done) | (go_simp; rfl)); intro gb397 hg w5 hbox hb; have n0_ := Bl.mk (below_step bl hb); have n1_ := Bk.mk (hbox); have n2_ := Aside0.mk ((by rw [hg]; exact (below_size bl) : w.heap.size ≤ gb397)); have n3_ := Gl.mk ((by rw [hg]; exact (below_size bl) : w.heap.size ≤ gb397)); clear HB; have HB := n0_; have BK397 := n1_; have GW397 := n2_; have GE397 := n3_; clear n0_ n1_ n2_ n3_; clear hb hbox hg) | ((with_reducible refine gate_dst (N := 5) rfl ?_); refine box_event ?hg (N := 5) ?hd (cs := #[.bool a2_0, .int .i64 a2_1, .int .i64 a2_2]) (t := 30) ?hr ?_; (case hd => rfl); (case hg => rfl); (case hr => first | (go_simp; done) | (go_simp; rfl)); intro gb398 hg w6 hbox hb; have n0_ := Bk.mk (blk_below (g := gb397) bk hb); have n1_ := Bl.mk (below_step bl hb); have n2_ := Bk.mk (hbox); have n3_ := Aside0.mk ((by rw [hg]; exact (below_size bl) : w.heap.size ≤ gb398)); have n4_ := Gl.mk ((by rw [hg]; exact (below_size bl) : w.heap.size ≤ gb398)); have n5_ := Nb.mk ((by rw [hg]; exact Nat.ne_of_lt (blk_lt (g := gb397) bk) : gb397 ≠ gb398)); have n6_ := Nb.mk ((by rw [hg]; exact Nat.ne_of_gt (blk_lt (g := gb397) bk) : gb398 ≠ gb397)); clear BK397; clear HB; have BK397 := n0_; have HB := n1_; have BK398 := n2_; have GW398 := n3_; have GE398 := n4_; have NB397_398 := n5_; have NB398_397 := n6_; clear n0_ n1_ n2_ n3_ n4_ n5_ n6_; clear hb hbox hg) | ((with_reducible refine gate_dst (N := 6) rfl ?_); refine box_event ?hg (N := 6) ?hd (cs := #[.bool false, .int .i64 0, .int .i64 0]) (t := 30) ?hr ?_; (case hd => rfl); (case hg => rfl); (case hr => first | (go_simp; done) | (go_simp; rfl)); intro gb399 hg w7 hbox hb; have n0_ := Bk.mk (blk_below (g := gb397) bk hb); have n1_ := Bk.mk (blk_below (g := gb398) bk hb); have n2_ := Bl.mk (below_step bl hb); have n3_ := Bk.mk (hbox); have n4_ := Aside0.mk ((by rw [hg]; exact (below_size bl) : w.heap.size ≤ gb399)); have n5_ := Gl.mk ((by rw [hg]; exact (below_size bl) : w.heap.size ≤ gb399)); have n6_ := Nb.mk ((by rw [hg]; exact Nat.ne_of_lt (blk_lt (g := gb397) bk) : gb397 ≠ gb399)); have n7_ := Nb.mk ((by rw [hg]; exact Nat.ne_of_gt (blk_lt (g := gb397) bk) : gb399 ≠ gb397)); have n8_ := Nb.mk ((by rw [hg]; exact Nat.ne_of_lt (blk_lt (g := gb398) bk) : gb398 ≠ gb399)); have n9_ := Nb.mk ((by rw [hg]; exact Nat.ne_of_gt (blk_lt (g := gb398) bk) : gb399 ≠ gb398)); clear BK397; clear BK398; clear HB; have BK397 := n0_; have BK398 := n1_; have HB := n2_; have BK399 := n3_; have GW399 := n4_; have GE399 := n5_; have NB397_399 := n6_; have NB399_397 := n7_; have NB398_399 := n8_; have NB399_398 := n9_; clear n0_ n1_ n2_ n3_ n4_ n5_ n6_ n7_ n8_ n9_; clear hb hbox hg)))
  (try simp only [Act.put, List.setIfInBounds_toArray, List.set_cons_zero, List.set_cons_succ])
  go_cut [24] (fun v24 wc => ∃ (kq : Nat) (x24_3 : Bool), v24 = .bool x24_3 ∧ Aside0 (spec_SpanDo.j0 kq a0 x24_3 a1_0 a1_1 a1_2 a2_0 a2_1 a2_2 = some (r1, r2, r3)) ∧ Aside0 (kq ≤ k) ∧ Bk wc gb397 (.cells #[.bool a1_0, .int .i64 a1_1, .int .i64 a1_2] 30 (0, 0)) ∧ Bk wc gb398 (.cells #[.bool a2_0, .int .i64 a2_1, .int .i64 a2_2] 30 (0, 0)) ∧ Bk wc gb399 (.cells #[.bool false, .int .i64 0, .int .i64 0] 30 (0, 0)) ∧ Bl w.heap.size w wc)
  case first =>
    have H := HC4.out
    clear HC4
    replace H := Option.bind_eq_some_iff.mp H
    obtain ⟨t400, A80, H⟩ := H
    try dsimp only at H
    have A8 := Aside0.mk A80
    clear A80
    by_cases c9 : t400 = true
    · subst c9
      rw [if_pos rfl] at H
      replace H := Option.bind_eq_some_iff.mp H
      obtain ⟨t401, A100, H⟩ := H
      try dsimp only at H
      have A10 := Aside0.mk A100
      clear A100
      by_cases c11 : t401 = true
      · subst c11
        rw [if_pos rfl] at H
        replace H := Option.bind_eq_some_iff.mp H
        obtain ⟨t402, A120, H⟩ := H
        try dsimp only at H
        have A12 := Aside0.mk A120
        clear A120
        have H' := Aside0.mk H
        clear H
        go_wp2_with (first | (go_at_call 30; (with_reducible refine (spec_l6In.calls a0 1 6 true _ A8.out).mono ?_); rintro e w' ⟨rfl, ⟨nd, rfl⟩⟩; (try first | exact ⟨rfl, _, World.drewN_drewN _ _ _⟩ | exact ⟨rfl, _, Eq.trans (World.drewN_drewN _ _ _) (congrArg (World.drewN _) (Nat.add_assoc _ _ _))⟩); have hnb13 := NB397_398.out; have hnc13 := NB398_397.out; have hnb14 := NB397_399.out; have hnc14 := NB399_397.out; have hcz15_0 := bc0 BK397.out; have hcz15_1 := bc1 BK397.out; have hcz15_2 := bc2 BK397.out; have hfz15_0 := blk_frozen BK397.out 0; have hfz15_1 := blk_frozen BK397.out 1; have hfz15_2 := blk_frozen BK397.out 2) | (go_at_call 42; (with_reducible refine (spec_l1Some.calls a1_0 a1_1 a1_2 true _ A10.out).mono ?_); rintro e w16 ⟨rfl, hb⟩; have n0_ := Bk.mk (blk_below (g := gb397) bk hb); have n1_ := Bk.mk (blk_below (g := gb398) bk hb); have n2_ := Bk.mk (blk_below (g := gb399) bk hb); have n3_ := Bl.mk (below_step bl hb); clear BK397; clear BK398; clear BK399; clear HB; have BK397 := n0_; have BK398 := n1_; have BK399 := n2_; have HB := n3_; clear n0_ n1_ n2_ n3_; (try clear hb); (try clear hb2); (try clear hk); (try clear hi); have hnb17 := NB398_399.out; have hnc17 := NB399_398.out; have hcz18_0 := bc0 BK398.out; have hcz18_1 := bc1 BK398.out; have hcz18_2 := bc2 BK398.out; have hfz18_0 := blk_frozen BK398.out 0; have hfz18_1 := blk_frozen BK398.out 1; have hfz18_2 := blk_frozen BK398.out 2) | (go_at_call 42; (with_reducible refine (spec_l1Some.calls a2_0 a2_1 a2_2 t402 _ A12.out).mono ?_); rintro e w19 ⟨rfl, hb⟩; have n0_ := Bk.mk (blk_below (g := gb397) bk hb); have n1_ := Bk.mk (blk_below (g := gb398) bk hb); have n2_ := Bk.mk (blk_below (g := gb399) bk hb); have n3_ := Bl.mk (below_step bl hb); clear BK397; clear BK398; clear BK399; clear HB; have BK397 := n0_; have BK398 := n1_; have BK399 := n2_; have HB := n3_; clear n0_ n1_ n2_ n3_; (try clear hb); (try clear hb2); (try clear hk); (try clear hi)))
        repeat (go_quiet (first | (go_at_call 30; (with_reducible refine (spec_l6In.calls a0 1 6 true _ A8.out).mono ?_); rintro e w' ⟨rfl, ⟨nd, rfl⟩⟩; (try first | exact ⟨rfl, _, World.drewN_drewN _ _ _⟩ | exact ⟨rfl, _, Eq.trans (World.drewN_drewN _ _ _) (congrArg (World.drewN _) (Nat.add_assoc _ _ _))⟩); have hnb13 := NB397_398.out; have hnc13 := NB398_397.out; have hnb14 := NB397_399.out; have hnc14 := NB399_397.out; have hcz15_0 := bc0 BK397.out; have hcz15_1 := bc1 BK397.out; have hcz15_2 := bc2 BK397.out; have hfz15_0 := blk_frozen BK397.out 0; have hfz15_1 := blk_frozen BK397.out 1; have hfz15_2 := blk_frozen BK397.out 2) | (go_at_call 42; (with_reducible refine (spec_l1Some.calls a1_0 a1_1 a1_2 true _ A10.out).mono ?_); rintro e w16 ⟨rfl, hb⟩; have n0_ := Bk.mk (blk_below (g := gb397) bk hb); have n1_ := Bk.mk (blk_below (g := gb398) bk hb); have n2_ := Bk.mk (blk_below (g := gb399) bk hb); have n3_ := Bl.mk (below_step bl hb); clear BK397; clear BK398; clear BK399; clear HB; have BK397 := n0_; have BK398 := n1_; have BK399 := n2_; have HB := n3_; clear n0_ n1_ n2_ n3_; (try clear hb); (try clear hb2); (try clear hk); (try clear hi); have hnb17 := NB398_399.out; have hnc17 := NB399_398.out; have hcz18_0 := bc0 BK398.out; have hcz18_1 := bc1 BK398.out; have hcz18_2 := bc2 BK398.out; have hfz18_0 := blk_frozen BK398.out 0; have hfz18_1 := blk_frozen BK398.out 1; have hfz18_2 := blk_frozen BK398.out 2) | (go_at_call 42; (with_reducible refine (spec_l1Some.calls a2_0 a2_1 a2_2 t402 _ A12.out).mono ?_); rintro e w19 ⟨rfl, hb⟩; have n0_ := Bk.mk (blk_below (g := gb397) bk hb); have n1_ := Bk.mk (blk_below (g := gb398) bk hb); have n2_ := Bk.mk (blk_below (g := gb399) bk hb); have n3_ := Bl.mk (below_step bl hb); clear BK397; clear BK398; clear BK399; clear HB; have BK397 := n0_; have BK398 := n1_; have BK399 := n2_; have HB := n3_; clear n0_ n1_ n2_ n3_; (try clear hb); (try clear hb2); (try clear hk); (try clear hi))); try go_wp2_with (first | (go_at_call 30; (with_reducible refine (spec_l6In.calls a0 1 6 true _ A8.out).mono ?_); rintro e w' ⟨rfl, ⟨nd, rfl⟩⟩; (try first | exact ⟨rfl, _, World.drewN_drewN _ _ _⟩ | exact ⟨rfl, _, Eq.trans (World.drewN_drewN _ _ _) (congrArg (World.drewN _) (Nat.add_assoc _ _ _))⟩); have hnb13 := NB397_398.out; have hnc13 := NB398_397.out; have hnb14 := NB397_399.out; have hnc14 := NB399_397.out; have hcz15_0 := bc0 BK397.out; have hcz15_1 := bc1 BK397.out; have hcz15_2 := bc2 BK397.out; have hfz15_0 := blk_frozen BK397.out 0; have hfz15_1 := blk_frozen BK397.out 1; have hfz15_2 := blk_frozen BK397.out 2) | (go_at_call 42; (with_reducible refine (spec_l1Some.calls a1_0 a1_1 a1_2 true _ A10.out).mono ?_); rintro e w16 ⟨rfl, hb⟩; have n0_ := Bk.mk (blk_below (g := gb397) bk hb); have n1_ := Bk.mk (blk_below (g := gb398) bk hb); have n2_ := Bk.mk (blk_below (g := gb399) bk hb); have n3_ := Bl.mk (below_step bl hb); clear BK397; clear BK398; clear BK399; clear HB; have BK397 := n0_; have BK398 := n1_; have BK399 := n2_; have HB := n3_; clear n0_ n1_ n2_ n3_; (try clear hb); (try clear hb2); (try clear hk); (try clear hi); have hnb17 := NB398_399.out; have hnc17 := NB399_398.out; have hcz18_0 := bc0 BK398.out; have hcz18_1 := bc1 BK398.out; have hcz18_2 := bc2 BK398.out; have hfz18_0 := blk_frozen BK398.out 0; have hfz18_1 := blk_frozen BK398.out 1; have hfz18_2 := blk_frozen BK398.out 2) | (go_at_call 42; (with_reducible refine (spec_l1Some.calls a2_0 a2_1 a2_2 t402 _ A12.out).mono ?_); rintro e w19 ⟨rfl, hb⟩; have n0_ := Bk.mk (blk_below (g := gb397) bk hb); have n1_ := Bk.mk (blk_below (g := gb398) bk hb); have n2_ := Bk.mk (blk_below (g := gb399) bk hb); have n3_ := Bl.mk (below_step bl hb); clear BK397; clear BK398; clear BK399; clear HB; have BK397 := n0_; have BK398 := n1_; have BK399 := n2_; have HB := n3_; clear n0_ n1_ n2_ n3_; (try clear hb); (try clear hb2); (try clear hk); (try clear hi))))
        go_meet
        case rel => exact ⟨_, (!t402), (by first | rfl | (simp; done) | (simp [*]; done)), H', ⟨by first | omega | exact Nat.le_refl _⟩, ⟨bk⟩, ⟨bk⟩, ⟨bk⟩, ⟨bl⟩⟩
      · replace c11 := Bool.eq_false_iff.mpr c11
        subst c11
        rw [if_neg (show ¬ (false = true) by decide)] at H
        have H' := Aside0.mk H
        clear H
        go_wp2_with (first | (go_at_call 30; (with_reducible refine (spec_l6In.calls a0 1 6 true _ A8.out).mono ?_); rintro e w' ⟨rfl, ⟨nd, rfl⟩⟩; (try first | exact ⟨rfl, _, World.drewN_drewN _ _ _⟩ | exact ⟨rfl, _, Eq.trans (World.drewN_drewN _ _ _) (congrArg (World.drewN _) (Nat.add_assoc _ _ _))⟩); have hnb20 := NB397_398.out; have hnc20 := NB398_397.out; have hnb21 := NB397_399.out; have hnc21 := NB399_397.out; have hcz22_0 := bc0 BK397.out; have hcz22_1 := bc1 BK397.out; have hcz22_2 := bc2 BK397.out; have hfz22_0 := blk_frozen BK397.out 0; have hfz22_1 := blk_frozen BK397.out 1; have hfz22_2 := blk_frozen BK397.out 2) | (go_at_call 42; (with_reducible refine (spec_l1Some.calls a1_0 a1_1 a1_2 false _ A10.out).mono ?_); rintro e w23 ⟨rfl, hb⟩; have n0_ := Bk.mk (blk_below (g := gb397) bk hb); have n1_ := Bk.mk (blk_below (g := gb398) bk hb); have n2_ := Bk.mk (blk_below (g := gb399) bk hb); have n3_ := Bl.mk (below_step bl hb); clear BK397; clear BK398; clear BK399; clear HB; have BK397 := n0_; have BK398 := n1_; have BK399 := n2_; have HB := n3_; clear n0_ n1_ n2_ n3_; (try clear hb); (try clear hb2); (try clear hk); (try clear hi)))
        repeat (go_quiet (first | (go_at_call 30; (with_reducible refine (spec_l6In.calls a0 1 6 true _ A8.out).mono ?_); rintro e w' ⟨rfl, ⟨nd, rfl⟩⟩; (try first | exact ⟨rfl, _, World.drewN_drewN _ _ _⟩ | exact ⟨rfl, _, Eq.trans (World.drewN_drewN _ _ _) (congrArg (World.drewN _) (Nat.add_assoc _ _ _))⟩); have hnb20 := NB397_398.out; have hnc20 := NB398_397.out; have hnb21 := NB397_399.out; have hnc21 := NB399_397.out; have hcz22_0 := bc0 BK397.out; have hcz22_1 := bc1 BK397.out; have hcz22_2 := bc2 BK397.out; have hfz22_0 := blk_frozen BK397.out 0; have hfz22_1 := blk_frozen BK397.out 1; have hfz22_2 := blk_frozen BK397.out 2) | (go_at_call 42; (with_reducible refine (spec_l1Some.calls a1_0 a1_1 a1_2 false _ A10.out).mono ?_); rintro e w23 ⟨rfl, hb⟩; have n0_ := Bk.mk (blk_below (g := gb397) bk hb); have n1_ := Bk.mk (blk_below (g := gb398) bk hb); have n2_ := Bk.mk (blk_below (g := gb399) bk hb); have n3_ := Bl.mk (below_step bl hb); clear BK397; clear BK398; clear BK399; clear HB; have BK397 := n0_; have BK398 := n1_; have BK399 := n2_; have HB := n3_; clear n0_ n1_ n2_ n3_; (try clear hb); (try clear hb2); (try clear hk); (try clear hi))); try go_wp2_with (first | (go_at_call 30; (with_reducible refine (spec_l6In.calls a0 1 6 true _ A8.out).mono ?_); rintro e w' ⟨rfl, ⟨nd, rfl⟩⟩; (try first | exact ⟨rfl, _, World.drewN_drewN _ _ _⟩ | exact ⟨rfl, _, Eq.trans (World.drewN_drewN _ _ _) (congrArg (World.drewN _) (Nat.add_assoc _ _ _))⟩); have hnb20 := NB397_398.out; have hnc20 := NB398_397.out; have hnb21 := NB397_399.out; have hnc21 := NB399_397.out; have hcz22_0 := bc0 BK397.out; have hcz22_1 := bc1 BK397.out; have hcz22_2 := bc2 BK397.out; have hfz22_0 := blk_frozen BK397.out 0; have hfz22_1 := blk_frozen BK397.out 1; have hfz22_2 := blk_frozen BK397.out 2) | (go_at_call 42; (with_reducible refine (spec_l1Some.calls a1_0 a1_1 a1_2 false _ A10.out).mono ?_); rintro e w23 ⟨rfl, hb⟩; have n0_ := Bk.mk (blk_below (g := gb397) bk hb); have n1_ := Bk.mk (blk_below (g := gb398) bk hb); have n2_ := Bk.mk (blk_below (g := gb399) bk hb); have n3_ := Bl.mk (below_step bl hb); clear BK397; clear BK398; clear BK399; clear HB; have BK397 := n0_; have BK398 := n1_; have BK399 := n2_; have HB := n3_; clear n0_ n1_ n2_ n3_; (try clear hb); (try clear hb2); (try clear hk); (try clear hi))))
        go_meet
        case rel => exact ⟨_, (true), (by first | rfl | (simp; done) | (simp [*]; done)), H', ⟨by first | omega | exact Nat.le_refl _⟩, ⟨bk⟩, ⟨bk⟩, ⟨bk⟩, ⟨bl⟩⟩
    · replace c9 := Bool.eq_false_iff.mpr c9
      subst c9
      rw [if_neg (show ¬ (false = true) by decide)] at H
      have H' := Aside0.mk H
      clear H
      go_wp2_with (first | (go_at_call 30; (with_reducible refine (spec_l6In.calls a0 1 6 false _ A8.out).mono ?_); rintro e w' ⟨rfl, ⟨nd, rfl⟩⟩; (try first | exact ⟨rfl, _, World.drewN_drewN _ _ _⟩ | exact ⟨rfl, _, Eq.trans (World.drewN_drewN _ _ _) (congrArg (World.drewN _) (Nat.add_assoc _ _ _))⟩)))
      repeat (go_quiet (first | (go_at_call 30; (with_reducible refine (spec_l6In.calls a0 1 6 false _ A8.out).mono ?_); rintro e w' ⟨rfl, ⟨nd, rfl⟩⟩; (try first | exact ⟨rfl, _, World.drewN_drewN _ _ _⟩ | exact ⟨rfl, _, Eq.trans (World.drewN_drewN _ _ _) (congrArg (World.drewN _) (Nat.add_assoc _ _ _))⟩))); try go_wp2_with (first | (go_at_call 30; (with_reducible refine (spec_l6In.calls a0 1 6 false _ A8.out).mono ?_); rintro e w' ⟨rfl, ⟨nd, rfl⟩⟩; (try first | exact ⟨rfl, _, World.drewN_drewN _ _ _⟩ | exact ⟨rfl, _, Eq.trans (World.drewN_drewN _ _ _) (congrArg (World.drewN _) (Nat.add_assoc _ _ _))⟩))))
      go_meet
      case rel => exact ⟨_, (true), (by first | rfl | (simp; done) | (simp [*]; done)), H', ⟨by first | omega | exact Nat.le_refl _⟩, ⟨bk⟩, ⟨bk⟩, ⟨bk⟩, ⟨bl⟩⟩
  case rest =>
    clear HC4
    try clear c1
    try clear c2
    try clear p2
    try clear c9
    try clear c11
    try clear c13
    try clear c14
    try clear c17
    try clear c20
    try clear c21
    try clear hcz15_0
    try clear hcz15_1
    try clear hcz15_2
    try clear hcz18_0
    try clear hcz18_1
    try clear hcz18_2
    try clear hcz22_0
    try clear hcz22_1
    try clear hcz22_2
    try clear hfz15_0
    try clear hfz15_1
    try clear hfz15_2
    try clear hfz18_0
    try clear hfz18_1
    try clear hfz18_2
    try clear hfz22_0
    try clear hfz22_1
    try clear hfz22_2
    obtain ⟨kq, x24_3, rfl, HA, HJ3, BK397, BK398, BK399, HB⟩ := hcut
    cases kq with
    | zero => exact absurd HA.out (by simp [spec_SpanDo.j0])
    | succ kj3 =>
      have H := HA.out
      clear HA
      simp only [spec_SpanDo.j0] at H
      by_cases c24 : x24_3 = true
      · subst c24
        rw [if_pos rfl] at H
        simp only [Option.some.injEq, Prod.mk.injEq] at H
        obtain ⟨rfl, rfl, rfl⟩ := H
        have hnb25 := NB399_397.out
        have hnc25 := NB397_399.out
        have hnb26 := NB399_398.out
        have hnc26 := NB398_399.out
        have hcz27_0 := bc0 BK399.out
        have hcz27_1 := bc1 BK399.out
        have hcz27_2 := bc2 BK399.out
        have hfz27_0 := blk_frozen BK399.out 0
        have hfz27_1 := blk_frozen BK399.out 1
        have hfz27_2 := blk_frozen BK399.out 2
        go_wp2
        repeat (go_quiet (fail); try go_wp2)
        refine bodyPost_ret (results_cell_row rfl _ _ gb399 30 #[.bool false, .int .i64 0, .int .i64 0] (0, 0) _ rfl bk Try.underlying30 rfl (by kernel_rfl)) rfl ?_
        exact ⟨by first | rfl | (simp [errW_none, errW_some] <;> rfl) | (simp [*, errW_none, errW_some] <;> rfl), bl⟩
      · replace c24 := Bool.eq_false_iff.mpr c24
        subst c24
        rw [if_neg (show ¬ (false = true) by decide)] at H
        by_cases c28 : a0 = 6
        · rw [if_pos c28] at H
          have c28b0 : (a0 == 6) = true := beq_iff_eq.mpr c28
          have c28b1 : (a0 != 6) = false := bne_eq_false_iff_eq.mpr c28
          clear c28
          replace H := Option.bind_eq_some_iff.mp H
          obtain ⟨⟨t403, t404, t405⟩, A290, H⟩ := H
          try dsimp only at H
          have A29 := Aside0.mk A290
          clear A290
          simp only [Option.some.injEq, Prod.mk.injEq] at H
          obtain ⟨rfl, rfl, rfl⟩ := H
          have hnb30 := NB397_398.out
          have hnc30 := NB398_397.out
          have hnb31 := NB397_399.out
          have hnc31 := NB399_397.out
          have hcz32_0 := bc0 BK397.out
          have hcz32_1 := bc1 BK397.out
          have hcz32_2 := bc2 BK397.out
          have hfz32_0 := blk_frozen BK397.out 0
          have hfz32_1 := blk_frozen BK397.out 1
          have hfz32_2 := blk_frozen BK397.out 2
          have hnb33 := NB398_399.out
          have hnc33 := NB399_398.out
          have hcz34_0 := bc0 BK398.out
          have hcz34_1 := bc1 BK398.out
          have hcz34_2 := bc2 BK398.out
          have hfz34_0 := blk_frozen BK398.out 0
          have hfz34_1 := blk_frozen BK398.out 1
          have hfz34_2 := blk_frozen BK398.out 2
          go_wp2_with (first | (go_at_call 48; (with_reducible refine (spec_l1Same.calls kj3 a1_0 a1_1 a1_2 a2_0 a2_1 a2_2 t403 t404 t405 _ A29.out).mono ?_); rintro e w35 ⟨rfl, hb⟩; have n0_ := Bk.mk (blk_below (g := gb397) bk hb); have n1_ := Bk.mk (blk_below (g := gb398) bk hb); have n2_ := Bk.mk (blk_below (g := gb399) bk hb); have n3_ := Bl.mk (below_step bl hb); clear BK397; clear BK398; clear BK399; clear HB; have BK397 := n0_; have BK398 := n1_; have BK399 := n2_; have HB := n3_; clear n0_ n1_ n2_ n3_; (try clear hb); (try clear hb2); (try clear hk); (try clear hi); have hcz36_0 := bc0 BK399.out; have hcz36_1 := bc1 BK399.out; have hcz36_2 := bc2 BK399.out; have hfz36_0 := blk_frozen BK399.out 0; have hfz36_1 := blk_frozen BK399.out 1; have hfz36_2 := blk_frozen BK399.out 2))
          repeat (go_quiet (first | (go_at_call 48; (with_reducible refine (spec_l1Same.calls kj3 a1_0 a1_1 a1_2 a2_0 a2_1 a2_2 t403 t404 t405 _ A29.out).mono ?_); rintro e w35 ⟨rfl, hb⟩; have n0_ := Bk.mk (blk_below (g := gb397) bk hb); have n1_ := Bk.mk (blk_below (g := gb398) bk hb); have n2_ := Bk.mk (blk_below (g := gb399) bk hb); have n3_ := Bl.mk (below_step bl hb); clear BK397; clear BK398; clear BK399; clear HB; have BK397 := n0_; have BK398 := n1_; have BK399 := n2_; have HB := n3_; clear n0_ n1_ n2_ n3_; (try clear hb); (try clear hb2); (try clear hk); (try clear hi); have hcz36_0 := bc0 BK399.out; have hcz36_1 := bc1 BK399.out; have hcz36_2 := bc2 BK399.out; have hfz36_0 := blk_frozen BK399.out 0; have hfz36_1 := blk_frozen BK399.out 1; have hfz36_2 := blk_frozen BK399.out 2)); try go_wp2_with (first | (go_at_call 48; (with_reducible refine (spec_l1Same.calls kj3 a1_0 a1_1 a1_2 a2_0 a2_1 a2_2 t403 t404 t405 _ A29.out).mono ?_); rintro e w35 ⟨rfl, hb⟩; have n0_ := Bk.mk (blk_below (g := gb397) bk hb); have n1_ := Bk.mk (blk_below (g := gb398) bk hb); have n2_ := Bk.mk (blk_below (g := gb399) bk hb); have n3_ := Bl.mk (below_step bl hb); clear BK397; clear BK398; clear BK399; clear HB; have BK397 := n0_; have BK398 := n1_; have BK399 := n2_; have HB := n3_; clear n0_ n1_ n2_ n3_; (try clear hb); (try clear hb2); (try clear hk); (try clear hi); have hcz36_0 := bc0 BK399.out; have hcz36_1 := bc1 BK399.out; have hcz36_2 := bc2 BK399.out; have hfz36_0 := blk_frozen BK399.out 0; have hfz36_1 := blk_frozen BK399.out 1; have hfz36_2 := blk_frozen BK399.out 2)))
          refine bodyPost_ret (results_cell_row rfl _ _ gb399 30 #[.bool t403, .int .i64 t404, .int .i64 t405] (0, 0) _ rfl bk Try.underlying30 rfl (by kernel_rfl)) rfl ?_
          exact ⟨by first | rfl | (simp [errW_none, errW_some] <;> rfl) | (simp [*, errW_none, errW_some] <;> rfl), bl⟩
        · rw [if_neg c28] at H
          have c28b0 : (a0 == 6) = false := beq_eq_false_iff_ne.mpr c28
          have c28b1 : (a0 != 6) = true := bne_iff_ne.mpr c28
          replace H := Option.bind_eq_some_iff.mp H
          obtain ⟨t406, A370, H⟩ := H
          try dsimp only at H
          have A37 := Aside0.mk A370
          clear A370
          have H' := Aside0.mk H
          clear H
          have hnb38 := NB398_397.out
          have hnc38 := NB397_398.out
          have hnb39 := NB398_399.out
          have hnc39 := NB399_398.out
          have hcz40_0 := bc0 BK398.out
          have hcz40_1 := bc1 BK398.out
          have hcz40_2 := bc2 BK398.out
          have hfz40_0 := blk_frozen BK398.out 0
          have hfz40_1 := blk_frozen BK398.out 1
          have hfz40_2 := blk_frozen BK398.out 2
          go_wp2_with (first | (go_at_call 49; (with_reducible refine (spec_l1Ends.calls kj3 a0 a2_0 a2_1 a2_2 t406 _ A37.out).mono ?_); rintro e w41 ⟨v407, rfl, ho0, hb⟩; have n0_ := Aside0.mk (Kd.R_lower ho0 (below_size bl)); have n1_ := Bk.mk (blk_below (g := gb397) bk hb); have n2_ := Bk.mk (blk_below (g := gb398) bk hb); have n3_ := Bk.mk (blk_below (g := gb399) bk hb); have n4_ := Bl.mk (below_step bl hb); clear BK397; clear BK398; clear BK399; clear HB; have HO408 := n0_; have BK397 := n1_; have BK398 := n2_; have BK399 := n3_; have HB := n4_; clear n0_ n1_ n2_ n3_ n4_; (try clear hb); (try clear hb2); (try clear hk); (try clear hi); (try clear ho0)) | ((with_reducible refine gate_dst (N := 8) rfl ?_); refine box_event ?hg (N := 8) ?hd (cs := #[.bool false, .int .i64 0, .int .i64 0]) (t := 30) ?hr ?_; (case hd => rfl); (case hg => rfl); (case hr => first | (go_simp; done) | (go_simp; rfl)); intro gb409 hg w42 hbox hb; have n0_ := Aside0.mk (Kd.R_below (by (with_reducible repeat (first | apply Kd.R_alloc | apply Kd.R_drewN | apply Kd.R_drew)); exact HO408.out) hb); have n1_ := Bk.mk (blk_below (g := gb397) bk hb); have n2_ := Bk.mk (blk_below (g := gb398) bk hb); have n3_ := Bk.mk (blk_below (g := gb399) bk hb); have n4_ := Bl.mk (below_step bl hb); have n5_ := Bk.mk (hbox); have n6_ := Aside0.mk ((by rw [hg]; exact (below_size bl) : w.heap.size ≤ gb409)); have n7_ := Gl.mk ((by rw [hg]; exact (below_size bl) : w.heap.size ≤ gb409)); have n8_ := Nb.mk ((by rw [hg]; exact Nat.ne_of_lt (blk_lt (g := gb397) bk) : gb397 ≠ gb409)); have n9_ := Nb.mk ((by rw [hg]; exact Nat.ne_of_gt (blk_lt (g := gb397) bk) : gb409 ≠ gb397)); have n10_ := Nb.mk ((by rw [hg]; exact Nat.ne_of_lt (blk_lt (g := gb398) bk) : gb398 ≠ gb409)); have n11_ := Nb.mk ((by rw [hg]; exact Nat.ne_of_gt (blk_lt (g := gb398) bk) : gb409 ≠ gb398)); have n12_ := Nb.mk ((by rw [hg]; exact Nat.ne_of_lt (blk_lt (g := gb399) bk) : gb399 ≠ gb409)); have n13_ := Nb.mk ((by rw [hg]; exact Nat.ne_of_gt (blk_lt (g := gb399) bk) : gb409 ≠ gb399)); clear HO408; clear BK397; clear BK398; clear BK399; clear HB; have HO408 := n0_; have BK397 := n1_; have BK398 := n2_; have BK399 := n3_; have HB := n4_; have BK409 := n5_; have GW409 := n6_; have GE409 := n7_; have NB397_409 := n8_; have NB409_397 := n9_; have NB398_409 := n10_; have NB409_398 := n11_; have NB399_409 := n12_; have NB409_399 := n13_; clear n0_ n1_ n2_ n3_ n4_ n5_ n6_ n7_ n8_ n9_ n10_ n11_ n12_ n13_; clear hb hbox hg; have hnb43 := NB409_397.out; have hnc43 := NB397_409.out; have hnb44 := NB409_398.out; have hnc44 := NB398_409.out; have hnb45 := NB409_399.out; have hnc45 := NB399_409.out; have hcz46_0 := bc0 BK409.out; have hcz46_1 := bc1 BK409.out; have hcz46_2 := bc2 BK409.out; have hfz46_0 := blk_frozen BK409.out 0; have hfz46_1 := blk_frozen BK409.out 1; have hfz46_2 := blk_frozen BK409.out 2))
          repeat (go_quiet (first | (go_at_call 49; (with_reducible refine (spec_l1Ends.calls kj3 a0 a2_0 a2_1 a2_2 t406 _ A37.out).mono ?_); rintro e w41 ⟨v407, rfl, ho0, hb⟩; have n0_ := Aside0.mk (Kd.R_lower ho0 (below_size bl)); have n1_ := Bk.mk (blk_below (g := gb397) bk hb); have n2_ := Bk.mk (blk_below (g := gb398) bk hb); have n3_ := Bk.mk (blk_below (g := gb399) bk hb); have n4_ := Bl.mk (below_step bl hb); clear BK397; clear BK398; clear BK399; clear HB; have HO408 := n0_; have BK397 := n1_; have BK398 := n2_; have BK399 := n3_; have HB := n4_; clear n0_ n1_ n2_ n3_ n4_; (try clear hb); (try clear hb2); (try clear hk); (try clear hi); (try clear ho0)) | ((with_reducible refine gate_dst (N := 8) rfl ?_); refine box_event ?hg (N := 8) ?hd (cs := #[.bool false, .int .i64 0, .int .i64 0]) (t := 30) ?hr ?_; (case hd => rfl); (case hg => rfl); (case hr => first | (go_simp; done) | (go_simp; rfl)); intro gb409 hg w42 hbox hb; have n0_ := Aside0.mk (Kd.R_below (by (with_reducible repeat (first | apply Kd.R_alloc | apply Kd.R_drewN | apply Kd.R_drew)); exact HO408.out) hb); have n1_ := Bk.mk (blk_below (g := gb397) bk hb); have n2_ := Bk.mk (blk_below (g := gb398) bk hb); have n3_ := Bk.mk (blk_below (g := gb399) bk hb); have n4_ := Bl.mk (below_step bl hb); have n5_ := Bk.mk (hbox); have n6_ := Aside0.mk ((by rw [hg]; exact (below_size bl) : w.heap.size ≤ gb409)); have n7_ := Gl.mk ((by rw [hg]; exact (below_size bl) : w.heap.size ≤ gb409)); have n8_ := Nb.mk ((by rw [hg]; exact Nat.ne_of_lt (blk_lt (g := gb397) bk) : gb397 ≠ gb409)); have n9_ := Nb.mk ((by rw [hg]; exact Nat.ne_of_gt (blk_lt (g := gb397) bk) : gb409 ≠ gb397)); have n10_ := Nb.mk ((by rw [hg]; exact Nat.ne_of_lt (blk_lt (g := gb398) bk) : gb398 ≠ gb409)); have n11_ := Nb.mk ((by rw [hg]; exact Nat.ne_of_gt (blk_lt (g := gb398) bk) : gb409 ≠ gb398)); have n12_ := Nb.mk ((by rw [hg]; exact Nat.ne_of_lt (blk_lt (g := gb399) bk) : gb399 ≠ gb409)); have n13_ := Nb.mk ((by rw [hg]; exact Nat.ne_of_gt (blk_lt (g := gb399) bk) : gb409 ≠ gb399)); clear HO408; clear BK397; clear BK398; clear BK399; clear HB; have HO408 := n0_; have BK397 := n1_; have BK398 := n2_; have BK399 := n3_; have HB := n4_; have BK409 := n5_; have GW409 := n6_; have GE409 := n7_; have NB397_409 := n8_; have NB409_397 := n9_; have NB398_409 := n10_; have NB409_398 := n11_; have NB399_409 := n12_; have NB409_399 := n13_; clear n0_ n1_ n2_ n3_ n4_ n5_ n6_ n7_ n8_ n9_ n10_ n11_ n12_ n13_; clear hb hbox hg; have hnb43 := NB409_397.out; have hnc43 := NB397_409.out; have hnb44 := NB409_398.out; have hnc44 := NB398_409.out; have hnb45 := NB409_399.out; have hnc45 := NB399_409.out; have hcz46_0 := bc0 BK409.out; have hcz46_1 := bc1 BK409.out; have hcz46_2 := bc2 BK409.out; have hfz46_0 := blk_frozen BK409.out 0; have hfz46_1 := blk_frozen BK409.out 1; have hfz46_2 := blk_frozen BK409.out 2)); try go_wp2_with (first | (go_at_call 49; (with_reducible refine (spec_l1Ends.calls kj3 a0 a2_0 a2_1 a2_2 t406 _ A37.out).mono ?_); rintro e w41 ⟨v407, rfl, ho0, hb⟩; have n0_ := Aside0.mk (Kd.R_lower ho0 (below_size bl)); have n1_ := Bk.mk (blk_below (g := gb397) bk hb); have n2_ := Bk.mk (blk_below (g := gb398) bk hb); have n3_ := Bk.mk (blk_below (g := gb399) bk hb); have n4_ := Bl.mk (below_step bl hb); clear BK397; clear BK398; clear BK399; clear HB; have HO408 := n0_; have BK397 := n1_; have BK398 := n2_; have BK399 := n3_; have HB := n4_; clear n0_ n1_ n2_ n3_ n4_; (try clear hb); (try clear hb2); (try clear hk); (try clear hi); (try clear ho0)) | ((with_reducible refine gate_dst (N := 8) rfl ?_); refine box_event ?hg (N := 8) ?hd (cs := #[.bool false, .int .i64 0, .int .i64 0]) (t := 30) ?hr ?_; (case hd => rfl); (case hg => rfl); (case hr => first | (go_simp; done) | (go_simp; rfl)); intro gb409 hg w42 hbox hb; have n0_ := Aside0.mk (Kd.R_below (by (with_reducible repeat (first | apply Kd.R_alloc | apply Kd.R_drewN | apply Kd.R_drew)); exact HO408.out) hb); have n1_ := Bk.mk (blk_below (g := gb397) bk hb); have n2_ := Bk.mk (blk_below (g := gb398) bk hb); have n3_ := Bk.mk (blk_below (g := gb399) bk hb); have n4_ := Bl.mk (below_step bl hb); have n5_ := Bk.mk (hbox); have n6_ := Aside0.mk ((by rw [hg]; exact (below_size bl) : w.heap.size ≤ gb409)); have n7_ := Gl.mk ((by rw [hg]; exact (below_size bl) : w.heap.size ≤ gb409)); have n8_ := Nb.mk ((by rw [hg]; exact Nat.ne_of_lt (blk_lt (g := gb397) bk) : gb397 ≠ gb409)); have n9_ := Nb.mk ((by rw [hg]; exact Nat.ne_of_gt (blk_lt (g := gb397) bk) : gb409 ≠ gb397)); have n10_ := Nb.mk ((by rw [hg]; exact Nat.ne_of_lt (blk_lt (g := gb398) bk) : gb398 ≠ gb409)); have n11_ := Nb.mk ((by rw [hg]; exact Nat.ne_of_gt (blk_lt (g := gb398) bk) : gb409 ≠ gb398)); have n12_ := Nb.mk ((by rw [hg]; exact Nat.ne_of_lt (blk_lt (g := gb399) bk) : gb399 ≠ gb409)); have n13_ := Nb.mk ((by rw [hg]; exact Nat.ne_of_gt (blk_lt (g := gb399) bk) : gb409 ≠ gb399)); clear HO408; clear BK397; clear BK398; clear BK399; clear HB; have HO408 := n0_; have BK397 := n1_; have BK398 := n2_; have BK399 := n3_; have HB := n4_; have BK409 := n5_; have GW409 := n6_; have GE409 := n7_; have NB397_409 := n8_; have NB409_397 := n9_; have NB398_409 := n10_; have NB409_398 := n11_; have NB399_409 := n12_; have NB409_399 := n13_; clear n0_ n1_ n2_ n3_ n4_ n5_ n6_ n7_ n8_ n9_ n10_ n11_ n12_ n13_; clear hb hbox hg; have hnb43 := NB409_397.out; have hnc43 := NB397_409.out; have hnb44 := NB409_398.out; have hnc44 := NB398_409.out; have hnb45 := NB409_399.out; have hnc45 := NB399_409.out; have hcz46_0 := bc0 BK409.out; have hcz46_1 := bc1 BK409.out; have hcz46_2 := bc2 BK409.out; have hfz46_0 := blk_frozen BK409.out 0; have hfz46_1 := blk_frozen BK409.out 1; have hfz46_2 := blk_frozen BK409.out 2)))
          go_loopg [9] kj3 (fun kq v9 w' => ∃ (x9_2 : Int) (x410000_2 : Bool) (x410001_2 : Int) (x410002_2 : Int), v9 = .int .i64 x9_2 ∧ Aside0 (spec_SpanDo.l0 kq a0 t406 x9_2 a1_0 a1_1 a1_2 x410000_2 x410001_2 x410002_2 = some (r1, r2, r3)) ∧ Aside0 (kq ≤ kj3) ∧ Aside0 (Kd.R (Kd.int .i64) 3 w' w.heap.size (fun _ => True) v407 t406) ∧ Bk w' gb397 (.cells #[.bool a1_0, .int .i64 a1_1, .int .i64 a1_2] 30 (0, 0)) ∧ Bk w' gb398 (.cells #[.bool a2_0, .int .i64 a2_1, .int .i64 a2_2] 30 (0, 0)) ∧ Bk w' gb399 (.cells #[.bool false, .int .i64 0, .int .i64 0] 30 (0, 0)) ∧ Bk w' gb409 (.cells #[.bool x410000_2, .int .i64 x410001_2, .int .i64 x410002_2] 30 (0, 0)) ∧ Bl w.heap.size w w')
          case atStart => exact ⟨(0), (false), (0), (0), (by first | rfl | (simp; done) | (simp [*]; done)), H', ⟨Nat.le_refl _⟩, ⟨by (with_reducible repeat (first | apply Kd.R_alloc | apply Kd.R_drewN | apply Kd.R_drew)); exact Kd.R_mono (Kd.R_far (p := ⟨gb409, 2, none⟩) (Kd.R_far (p := ⟨gb409, 1, none⟩) (Kd.R_far (p := ⟨gb409, 0, none⟩) (Kd.R_types HO408.out BK409.out (by decide)) (fun _ hk => hk.2) (.bool false)) (fun _ hk => hk.2) (.int .i64 0)) (fun _ hk => hk.2) (.int .i64 0)) (fun _ hk => trivial)⟩, ⟨bk⟩, ⟨bk⟩, ⟨bk⟩, ⟨bk⟩, ⟨bl⟩⟩
          case round =>
            clear H'
            try clear c1
            try clear c2
            try clear p2
            try clear c3
            try clear c4
            try clear c9
            try clear c11
            try clear c13
            try clear c14
            try clear c17
            try clear c20
            try clear c21
            try clear c24
            try clear c25
            try clear c26
            try clear c28
            try clear c28b0
            try clear c28b1
            try clear c30
            try clear c31
            try clear c33
            try clear c38
            try clear c39
            try clear c43
            try clear c44
            try clear c45
            try clear hcz15_0
            try clear hcz15_1
            try clear hcz15_2
            try clear hcz18_0
            try clear hcz18_1
            try clear hcz18_2
            try clear hcz22_0
            try clear hcz22_1
            try clear hcz22_2
            try clear hcz27_0
            try clear hcz27_1
            try clear hcz27_2
            try clear hcz32_0
            try clear hcz32_1
            try clear hcz32_2
            try clear hcz34_0
            try clear hcz34_1
            try clear hcz34_2
            try clear hcz36_0
            try clear hcz36_1
            try clear hcz36_2
            try clear hcz40_0
            try clear hcz40_1
            try clear hcz40_2
            try clear hcz46_0
            try clear hcz46_1
            try clear hcz46_2
            try clear hfz15_0
            try clear hfz15_1
            try clear hfz15_2
            try clear hfz18_0
            try clear hfz18_1
            try clear hfz18_2
            try clear hfz22_0
            try clear hfz22_1
            try clear hfz22_2
            try clear hfz27_0
            try clear hfz27_1
            try clear hfz27_2
            try clear hfz32_0
            try clear hfz32_1
            try clear hfz32_2
            try clear hfz34_0
            try clear hfz34_1
            try clear hfz34_2
            try clear hfz36_0
            try clear hfz36_1
            try clear hfz36_2
            try clear hfz40_0
            try clear hfz40_1
            try clear hfz40_2
            try clear hfz46_0
            try clear hfz46_1
            try clear hfz46_2
            try clear p2
            obtain ⟨x9_2, x410000_2, x410001_2, x410002_2, rfl, HA, HK2, HO_7, BK397, BK398, BK399, BK409, HB⟩ := hrel
            cases gk with
            | zero => exact absurd HA.out (by simp [spec_SpanDo.l0])
            | succ k2 =>
              have H := HA.out
              clear HA
              simp only [spec_SpanDo.l0] at H
              by_cases c47 : x9_2 < (t406.length : Int)
              · rw [if_pos c47] at H
                have c47b0 : decide (x9_2 < (t406.length : Int)) = true := decide_eq_true c47
                clear c47
                by_cases c48 : 0 ≤ x9_2
                · rw [if_pos c48] at H
                  have c48b0 : decide (0 ≤ x9_2) = true := decide_eq_true c48
                  clear c48
                  replace H := Option.bind_eq_some_iff.mp H
                  obtain ⟨t411, A490, H⟩ := H
                  try dsimp only at H
                  have A49 := Aside0.mk A490
                  clear A490
                  replace H := Option.bind_eq_some_iff.mp H
                  obtain ⟨t413, A500, H⟩ := H
                  try dsimp only at H
                  have A50 := Aside0.mk A500
                  clear A500
                  by_cases c51 : x410000_2 = true
                  · subst c51
                    rw [if_pos rfl] at H
                    obtain ⟨ji52, hji52⟩ : ∃ j_ : Int, (mn x410001_2 t411) = j_ := ⟨_, rfl⟩
                    replace H : ((spec_l1Of.f (mn (ji52) t413) (mx (mx x410002_2 t411) t413)).bind fun bt414 => (spec_SpanDo.l0 k2 a0 t406 (wrap64 (x9_2 + 1)) a1_0 a1_1 a1_2 bt414.1 bt414.2.1 bt414.2.2)) = some (r1, r2, r3) := by first | (rw [hji52] at H; exact H) | (simp only [hji52] at H ⊢; exact H)
                    (try rw [hji52] at A49)
                    (try rw [hji52] at A50)
                    have hji52_ : (if t411 < x410001_2 then t411 else x410001_2) = ji52 := hji52
                    obtain ⟨ji53, hji53⟩ : ∃ j_ : Int, (mn (ji52) t413) = j_ := ⟨_, rfl⟩
                    replace H : ((spec_l1Of.f (ji53) (mx (mx x410002_2 t411) t413)).bind fun bt414 => (spec_SpanDo.l0 k2 a0 t406 (wrap64 (x9_2 + 1)) a1_0 a1_1 a1_2 bt414.1 bt414.2.1 bt414.2.2)) = some (r1, r2, r3) := by first | (rw [hji53] at H; exact H) | (simp only [hji53] at H ⊢; exact H)
                    (try rw [hji53] at A49)
                    (try rw [hji53] at A50)
                    have hji53_ : (if t413 < (ji52) then t413 else (ji52)) = ji53 := hji53
                    obtain ⟨ji54, hji54⟩ : ∃ j_ : Int, (mx x410002_2 t411) = j_ := ⟨_, rfl⟩
                    replace H : ((spec_l1Of.f (ji53) (mx (ji54) t413)).bind fun bt414 => (spec_SpanDo.l0 k2 a0 t406 (wrap64 (x9_2 + 1)) a1_0 a1_1 a1_2 bt414.1 bt414.2.1 bt414.2.2)) = some (r1, r2, r3) := by first | (rw [hji54] at H; exact H) | (simp only [hji54] at H ⊢; exact H)
                    (try rw [hji54] at A49)
                    (try rw [hji54] at A50)
                    have hji54_ : (if x410002_2 < t411 then t411 else x410002_2) = ji54 := hji54
                    obtain ⟨ji55, hji55⟩ : ∃ j_ : Int, (mx (ji54) t413) = j_ := ⟨_, rfl⟩
                    replace H : ((spec_l1Of.f (ji53) (ji55)).bind fun bt414 => (spec_SpanDo.l0 k2 a0 t406 (wrap64 (x9_2 + 1)) a1_0 a1_1 a1_2 bt414.1 bt414.2.1 bt414.2.2)) = some (r1, r2, r3) := by first | (rw [hji55] at H; exact H) | (simp only [hji55] at H ⊢; exact H)
                    (try rw [hji55] at A49)
                    (try rw [hji55] at A50)
                    have hji55_ : (if (ji54) < t413 then t413 else (ji54)) = ji55 := hji55
                    replace H := Option.bind_eq_some_iff.mp H
                    obtain ⟨⟨t414, t415, t416⟩, A560, H⟩ := H
                    try dsimp only at H
                    have A56 := Aside0.mk A560
                    clear A560
                    have H' := Aside0.mk H
                    clear H
                    obtain ⟨Ao57, co57, eo57⟩ := Kd.R_slice HO_7.out
                    subst eo57
                    have hnb58 := NB397_398.out
                    have hnc58 := NB398_397.out
                    have hnb59 := NB397_399.out
                    have hnc59 := NB399_397.out
                    have hnb60 := NB397_409.out
                    have hnc60 := NB409_397.out
                    have hcz61_0 := bc0 BK397.out
                    have hcz61_1 := bc1 BK397.out
                    have hcz61_2 := bc2 BK397.out
                    have hfz61_0 := blk_frozen BK397.out 0
                    have hfz61_1 := blk_frozen BK397.out 1
                    have hfz61_2 := blk_frozen BK397.out 2
                    have p410 : 0 ≤ (x9_2 : Int) := of_decide_eq_true (by first | (with_reducible assumption) | assumption)
                    have q410 : x9_2 < (t406.length : Int) := of_decide_eq_true (by first | (with_reducible assumption) | assumption)
                    obtain ⟨ad410, e410, hx410_0⟩ := Kd.at_int (Kd.R_reads' HO_7.out).2.2 x9_2 p410 q410
                    cases e410
                    replace p410 := eq_true p410
                    replace q410 := eq_true q410
                    go_wp2_with (first | (go_at_call 33; (with_reducible refine (spec_l1Raw.calls a0 a1_1 (rd t406 x9_2) t411 _ A49.out).mono ?_); rintro e w' ⟨rfl, ⟨nd, rfl⟩⟩; (try first | exact ⟨rfl, _, World.drewN_drewN _ _ _⟩ | exact ⟨rfl, _, Eq.trans (World.drewN_drewN _ _ _) (congrArg (World.drewN _) (Nat.add_assoc _ _ _))⟩); have p412 : 0 ≤ (x9_2 : Int) := of_decide_eq_true (by first | (with_reducible assumption) | assumption); have q412 : x9_2 < (t406.length : Int) := of_decide_eq_true (by first | (with_reducible assumption) | assumption); obtain ⟨ad412, e412, hx412_0⟩ := Kd.at_int (Kd.R_reads' HO_7.out).2.2 x9_2 p412 q412; obtain rfl : ad410 = ad412 := (by injection e412); replace p412 := eq_true p412; replace q412 := eq_true q412) | (go_at_call 33; (with_reducible refine (spec_l1Raw.calls a0 a1_2 (rd t406 x9_2) t413 _ A50.out).mono ?_); rintro e w' ⟨rfl, ⟨nd, rfl⟩⟩; (try first | exact ⟨rfl, _, World.drewN_drewN _ _ _⟩ | exact ⟨rfl, _, Eq.trans (World.drewN_drewN _ _ _) (congrArg (World.drewN _) (Nat.add_assoc _ _ _))⟩); have hnb62 := NB409_398.out; have hnc62 := NB398_409.out; have hnb63 := NB409_399.out; have hnc63 := NB399_409.out; have hcz64_0 := bc0 BK409.out; have hcz64_1 := bc1 BK409.out; have hcz64_2 := bc2 BK409.out; have hfz64_0 := blk_frozen BK409.out 0; have hfz64_1 := blk_frozen BK409.out 1; have hfz64_2 := blk_frozen BK409.out 2) | (go_at_call 41; (with_reducible refine (spec_l1Of.calls ji53 ji55 t414 t415 t416 _ A56.out).mono ?_); rintro e w65 ⟨rfl, hb⟩; have n0_ := Aside0.mk (Kd.R_below (by (with_reducible repeat (first | apply Kd.R_alloc | apply Kd.R_drewN | apply Kd.R_drew)); exact HO_7.out) hb); have n1_ := Bk.mk (blk_below (g := gb397) bk hb); have n2_ := Bk.mk (blk_below (g := gb398) bk hb); have n3_ := Bk.mk (blk_below (g := gb399) bk hb); have n4_ := Bk.mk (blk_below (g := gb409) bk hb); have n5_ := Bl.mk (below_step bl hb); clear HO_7; clear BK397; clear BK398; clear BK399; clear BK409; clear HB; have HO_7 := n0_; have BK397 := n1_; have BK398 := n2_; have BK399 := n3_; have BK409 := n4_; have HB := n5_; clear n0_ n1_ n2_ n3_ n4_ n5_; (try clear hb); (try clear hb2); (try clear hk); (try clear hi); have hcz66_0 := bc0 BK409.out; have hcz66_1 := bc1 BK409.out; have hcz66_2 := bc2 BK409.out; have hfz66_0 := blk_frozen BK409.out 0; have hfz66_1 := blk_frozen BK409.out 1; have hfz66_2 := blk_frozen BK409.out 2))
                    repeat (go_quiet (first | (go_at_call 33; (with_reducible refine (spec_l1Raw.calls a0 a1_1 (rd t406 x9_2) t411 _ A49.out).mono ?_); rintro e w' ⟨rfl, ⟨nd, rfl⟩⟩; (try first | exact ⟨rfl, _, World.drewN_drewN _ _ _⟩ | exact ⟨rfl, _, Eq.trans (World.drewN_drewN _ _ _) (congrArg (World.drewN _) (Nat.add_assoc _ _ _))⟩); have p412 : 0 ≤ (x9_2 : Int) := of_decide_eq_true (by first | (with_reducible assumption) | assumption); have q412 : x9_2 < (t406.length : Int) := of_decide_eq_true (by first | (with_reducible assumption) | assumption); obtain ⟨ad412, e412, hx412_0⟩ := Kd.at_int (Kd.R_reads' HO_7.out).2.2 x9_2 p412 q412; obtain rfl : ad410 = ad412 := (by injection e412); replace p412 := eq_true p412; replace q412 := eq_true q412) | (go_at_call 33; (with_reducible refine (spec_l1Raw.calls a0 a1_2 (rd t406 x9_2) t413 _ A50.out).mono ?_); rintro e w' ⟨rfl, ⟨nd, rfl⟩⟩; (try first | exact ⟨rfl, _, World.drewN_drewN _ _ _⟩ | exact ⟨rfl, _, Eq.trans (World.drewN_drewN _ _ _) (congrArg (World.drewN _) (Nat.add_assoc _ _ _))⟩); have hnb62 := NB409_398.out; have hnc62 := NB398_409.out; have hnb63 := NB409_399.out; have hnc63 := NB399_409.out; have hcz64_0 := bc0 BK409.out; have hcz64_1 := bc1 BK409.out; have hcz64_2 := bc2 BK409.out; have hfz64_0 := blk_frozen BK409.out 0; have hfz64_1 := blk_frozen BK409.out 1; have hfz64_2 := blk_frozen BK409.out 2) | (go_at_call 41; (with_reducible refine (spec_l1Of.calls ji53 ji55 t414 t415 t416 _ A56.out).mono ?_); rintro e w65 ⟨rfl, hb⟩; have n0_ := Aside0.mk (Kd.R_below (by (with_reducible repeat (first | apply Kd.R_alloc | apply Kd.R_drewN | apply Kd.R_drew)); exact HO_7.out) hb); have n1_ := Bk.mk (blk_below (g := gb397) bk hb); have n2_ := Bk.mk (blk_below (g := gb398) bk hb); have n3_ := Bk.mk (blk_below (g := gb399) bk hb); have n4_ := Bk.mk (blk_below (g := gb409) bk hb); have n5_ := Bl.mk (below_step bl hb); clear HO_7; clear BK397; clear BK398; clear BK399; clear BK409; clear HB; have HO_7 := n0_; have BK397 := n1_; have BK398 := n2_; have BK399 := n3_; have BK409 := n4_; have HB := n5_; clear n0_ n1_ n2_ n3_ n4_ n5_; (try clear hb); (try clear hb2); (try clear hk); (try clear hi); have hcz66_0 := bc0 BK409.out; have hcz66_1 := bc1 BK409.out; have hcz66_2 := bc2 BK409.out; have hfz66_0 := blk_frozen BK409.out 0; have hfz66_1 := blk_frozen BK409.out 1; have hfz66_2 := blk_frozen BK409.out 2)); try go_wp2_with (first | (go_at_call 33; (with_reducible refine (spec_l1Raw.calls a0 a1_1 (rd t406 x9_2) t411 _ A49.out).mono ?_); rintro e w' ⟨rfl, ⟨nd, rfl⟩⟩; (try first | exact ⟨rfl, _, World.drewN_drewN _ _ _⟩ | exact ⟨rfl, _, Eq.trans (World.drewN_drewN _ _ _) (congrArg (World.drewN _) (Nat.add_assoc _ _ _))⟩); have p412 : 0 ≤ (x9_2 : Int) := of_decide_eq_true (by first | (with_reducible assumption) | assumption); have q412 : x9_2 < (t406.length : Int) := of_decide_eq_true (by first | (with_reducible assumption) | assumption); obtain ⟨ad412, e412, hx412_0⟩ := Kd.at_int (Kd.R_reads' HO_7.out).2.2 x9_2 p412 q412; obtain rfl : ad410 = ad412 := (by injection e412); replace p412 := eq_true p412; replace q412 := eq_true q412) | (go_at_call 33; (with_reducible refine (spec_l1Raw.calls a0 a1_2 (rd t406 x9_2) t413 _ A50.out).mono ?_); rintro e w' ⟨rfl, ⟨nd, rfl⟩⟩; (try first | exact ⟨rfl, _, World.drewN_drewN _ _ _⟩ | exact ⟨rfl, _, Eq.trans (World.drewN_drewN _ _ _) (congrArg (World.drewN _) (Nat.add_assoc _ _ _))⟩); have hnb62 := NB409_398.out; have hnc62 := NB398_409.out; have hnb63 := NB409_399.out; have hnc63 := NB399_409.out; have hcz64_0 := bc0 BK409.out; have hcz64_1 := bc1 BK409.out; have hcz64_2 := bc2 BK409.out; have hfz64_0 := blk_frozen BK409.out 0; have hfz64_1 := blk_frozen BK409.out 1; have hfz64_2 := blk_frozen BK409.out 2) | (go_at_call 41; (with_reducible refine (spec_l1Of.calls ji53 ji55 t414 t415 t416 _ A56.out).mono ?_); rintro e w65 ⟨rfl, hb⟩; have n0_ := Aside0.mk (Kd.R_below (by (with_reducible repeat (first | apply Kd.R_alloc | apply Kd.R_drewN | apply Kd.R_drew)); exact HO_7.out) hb); have n1_ := Bk.mk (blk_below (g := gb397) bk hb); have n2_ := Bk.mk (blk_below (g := gb398) bk hb); have n3_ := Bk.mk (blk_below (g := gb399) bk hb); have n4_ := Bk.mk (blk_below (g := gb409) bk hb); have n5_ := Bl.mk (below_step bl hb); clear HO_7; clear BK397; clear BK398; clear BK399; clear BK409; clear HB; have HO_7 := n0_; have BK397 := n1_; have BK398 := n2_; have BK399 := n3_; have BK409 := n4_; have HB := n5_; clear n0_ n1_ n2_ n3_ n4_ n5_; (try clear hb); (try clear hb2); (try clear hk); (try clear hi); have hcz66_0 := bc0 BK409.out; have hcz66_1 := bc1 BK409.out; have hcz66_2 := bc2 BK409.out; have hfz66_0 := blk_frozen BK409.out 0; have hfz66_1 := blk_frozen BK409.out 1; have hfz66_2 := blk_frozen BK409.out 2)))
                    go_roundg k2
                    case measure => have := HJ3.out; have := HK2.out; omega
                    case rel => exact ⟨(wrap64 (x9_2 + 1)), (t414), (t415), (t416), (by first | rfl | (simp; done) | (simp [*]; done)), H', ⟨by have := HJ3.out; have := HK2.out; omega⟩, ⟨by (with_reducible repeat (first | apply Kd.R_alloc | apply Kd.R_drewN | apply Kd.R_drew)); exact Kd.R_mono (Kd.R_far (p := ⟨gb409, 2, none⟩) (Kd.R_far (p := ⟨gb409, 1, none⟩) (Kd.R_far (p := ⟨gb409, 0, none⟩) (Kd.R_types HO_7.out BK409.out (by decide)) (fun _ hk => hk.2) (.bool t414)) (fun _ hk => hk.2) (.int .i64 t415)) (fun _ hk => hk.2) (.int .i64 t416)) (fun _ hk => trivial)⟩, ⟨bk⟩, ⟨bk⟩, ⟨bk⟩, ⟨bk⟩, ⟨bl⟩⟩
                  · replace c51 := Bool.eq_false_iff.mpr c51
                    subst c51
                    rw [if_neg (show ¬ (false = true) by decide)] at H
                    obtain ⟨ji67, hji67⟩ : ∃ j_ : Int, (mn t411 t413) = j_ := ⟨_, rfl⟩
                    replace H : ((spec_l1Of.f (ji67) (mx t411 t413)).bind fun bt417 => ((spec_l1Of.f (mn (mn bt417.2.1 t411) t413) (mx (mx bt417.2.2 t411) t413)).bind fun bt420 => (spec_SpanDo.l0 k2 a0 t406 (wrap64 (x9_2 + 1)) a1_0 a1_1 a1_2 bt420.1 bt420.2.1 bt420.2.2))) = some (r1, r2, r3) := by first | (rw [hji67] at H; exact H) | (simp only [hji67] at H ⊢; exact H)
                    (try rw [hji67] at A49)
                    (try rw [hji67] at A50)
                    have hji67_ : (if t413 < t411 then t413 else t411) = ji67 := hji67
                    obtain ⟨ji68, hji68⟩ : ∃ j_ : Int, (mx t411 t413) = j_ := ⟨_, rfl⟩
                    replace H : ((spec_l1Of.f (ji67) (ji68)).bind fun bt417 => ((spec_l1Of.f (mn (mn bt417.2.1 t411) t413) (mx (mx bt417.2.2 t411) t413)).bind fun bt420 => (spec_SpanDo.l0 k2 a0 t406 (wrap64 (x9_2 + 1)) a1_0 a1_1 a1_2 bt420.1 bt420.2.1 bt420.2.2))) = some (r1, r2, r3) := by first | (rw [hji68] at H; exact H) | (simp only [hji68] at H ⊢; exact H)
                    (try rw [hji68] at A49)
                    (try rw [hji68] at A50)
                    have hji68_ : (if t411 < t413 then t413 else t411) = ji68 := hji68
                    replace H := Option.bind_eq_some_iff.mp H
                    obtain ⟨⟨t417, t418, t419⟩, A690, H⟩ := H
                    try dsimp only at H
                    have A69 := Aside0.mk A690
                    clear A690
                    obtain ⟨ji70, hji70⟩ : ∃ j_ : Int, (mn t418 t411) = j_ := ⟨_, rfl⟩
                    replace H : ((spec_l1Of.f (mn (ji70) t413) (mx (mx t419 t411) t413)).bind fun bt420 => (spec_SpanDo.l0 k2 a0 t406 (wrap64 (x9_2 + 1)) a1_0 a1_1 a1_2 bt420.1 bt420.2.1 bt420.2.2)) = some (r1, r2, r3) := by first | (rw [hji70] at H; exact H) | (simp only [hji70] at H ⊢; exact H)
                    (try rw [hji70] at A49)
                    (try rw [hji70] at A50)
                    (try rw [hji70] at A69)
                    have hji70_ : (if t411 < t418 then t411 else t418) = ji70 := hji70
                    obtain ⟨ji71, hji71⟩ : ∃ j_ : Int, (mn (ji70) t413) = j_ := ⟨_, rfl⟩
                    replace H : ((spec_l1Of.f (ji71) (mx (mx t419 t411) t413)).bind fun bt420 => (spec_SpanDo.l0 k2 a0 t406 (wrap64 (x9_2 + 1)) a1_0 a1_1 a1_2 bt420.1 bt420.2.1 bt420.2.2)) = some (r1, r2, r3) := by first | (rw [hji71] at H; exact H) | (simp only [hji71] at H ⊢; exact H)
                    (try rw [hji71] at A49)
                    (try rw [hji71] at A50)
                    (try rw [hji71] at A69)
                    have hji71_ : (if t413 < (ji70) then t413 else (ji70)) = ji71 := hji71
                    obtain ⟨ji72, hji72⟩ : ∃ j_ : Int, (mx t419 t411) = j_ := ⟨_, rfl⟩
                    replace H : ((spec_l1Of.f (ji71) (mx (ji72) t413)).bind fun bt420 => (spec_SpanDo.l0 k2 a0 t406 (wrap64 (x9_2 + 1)) a1_0 a1_1 a1_2 bt420.1 bt420.2.1 bt420.2.2)) = some (r1, r2, r3) := by first | (rw [hji72] at H; exact H) | (simp only [hji72] at H ⊢; exact H)
                    (try rw [hji72] at A49)
                    (try rw [hji72] at A50)
                    (try rw [hji72] at A69)
                    have hji72_ : (if t419 < t411 then t411 else t419) = ji72 := hji72
                    obtain ⟨ji73, hji73⟩ : ∃ j_ : Int, (mx (ji72) t413) = j_ := ⟨_, rfl⟩
                    replace H : ((spec_l1Of.f (ji71) (ji73)).bind fun bt420 => (spec_SpanDo.l0 k2 a0 t406 (wrap64 (x9_2 + 1)) a1_0 a1_1 a1_2 bt420.1 bt420.2.1 bt420.2.2)) = some (r1, r2, r3) := by first | (rw [hji73] at H; exact H) | (simp only [hji73] at H ⊢; exact H)
                    (try rw [hji73] at A49)
                    (try rw [hji73] at A50)
                    (try rw [hji73] at A69)
                    have hji73_ : (if (ji72) < t413 then t413 else (ji72)) = ji73 := hji73
                    replace H := Option.bind_eq_some_iff.mp H
                    obtain ⟨⟨t420, t421, t422⟩, A740, H⟩ := H
                    try dsimp only at H
                    have A74 := Aside0.mk A740
                    clear A740
                    have H' := Aside0.mk H
                    clear H
                    obtain ⟨Ao75, co75, eo75⟩ := Kd.R_slice HO_7.out
                    subst eo75
                    have hnb76 := NB397_398.out
                    have hnc76 := NB398_397.out
                    have hnb77 := NB397_399.out
                    have hnc77 := NB399_397.out
                    have hnb78 := NB397_409.out
                    have hnc78 := NB409_397.out
                    have hcz79_0 := bc0 BK397.out
                    have hcz79_1 := bc1 BK397.out
                    have hcz79_2 := bc2 BK397.out
                    have hfz79_0 := blk_frozen BK397.out 0
                    have hfz79_1 := blk_frozen BK397.out 1
                    have hfz79_2 := blk_frozen BK397.out 2
                    have p410 : 0 ≤ (x9_2 : Int) := of_decide_eq_true (by first | (with_reducible assumption) | assumption)
                    have q410 : x9_2 < (t406.length : Int) := of_decide_eq_true (by first | (with_reducible assumption) | assumption)
                    obtain ⟨ad410, e410, hx410_0⟩ := Kd.at_int (Kd.R_reads' HO_7.out).2.2 x9_2 p410 q410
                    cases e410
                    replace p410 := eq_true p410
                    replace q410 := eq_true q410
                    go_wp2_with (first | (go_at_call 33; (with_reducible refine (spec_l1Raw.calls a0 a1_1 (rd t406 x9_2) t411 _ A49.out).mono ?_); rintro e w' ⟨rfl, ⟨nd, rfl⟩⟩; (try first | exact ⟨rfl, _, World.drewN_drewN _ _ _⟩ | exact ⟨rfl, _, Eq.trans (World.drewN_drewN _ _ _) (congrArg (World.drewN _) (Nat.add_assoc _ _ _))⟩); have p412 : 0 ≤ (x9_2 : Int) := of_decide_eq_true (by first | (with_reducible assumption) | assumption); have q412 : x9_2 < (t406.length : Int) := of_decide_eq_true (by first | (with_reducible assumption) | assumption); obtain ⟨ad412, e412, hx412_0⟩ := Kd.at_int (Kd.R_reads' HO_7.out).2.2 x9_2 p412 q412; obtain rfl : ad410 = ad412 := (by injection e412); replace p412 := eq_true p412; replace q412 := eq_true q412) | (go_at_call 33; (with_reducible refine (spec_l1Raw.calls a0 a1_2 (rd t406 x9_2) t413 _ A50.out).mono ?_); rintro e w' ⟨rfl, ⟨nd, rfl⟩⟩; (try first | exact ⟨rfl, _, World.drewN_drewN _ _ _⟩ | exact ⟨rfl, _, Eq.trans (World.drewN_drewN _ _ _) (congrArg (World.drewN _) (Nat.add_assoc _ _ _))⟩); have hnb80 := NB409_398.out; have hnc80 := NB398_409.out; have hnb81 := NB409_399.out; have hnc81 := NB399_409.out; have hcz82_0 := bc0 BK409.out; have hcz82_1 := bc1 BK409.out; have hcz82_2 := bc2 BK409.out; have hfz82_0 := blk_frozen BK409.out 0; have hfz82_1 := blk_frozen BK409.out 1; have hfz82_2 := blk_frozen BK409.out 2) | (go_at_call 41; (with_reducible refine (spec_l1Of.calls ji67 ji68 t417 t418 t419 _ A69.out).mono ?_); rintro e w83 ⟨rfl, hb⟩; have n0_ := Aside0.mk (Kd.R_below (by (with_reducible repeat (first | apply Kd.R_alloc | apply Kd.R_drewN | apply Kd.R_drew)); exact HO_7.out) hb); have n1_ := Bk.mk (blk_below (g := gb397) bk hb); have n2_ := Bk.mk (blk_below (g := gb398) bk hb); have n3_ := Bk.mk (blk_below (g := gb399) bk hb); have n4_ := Bk.mk (blk_below (g := gb409) bk hb); have n5_ := Bl.mk (below_step bl hb); clear HO_7; clear BK397; clear BK398; clear BK399; clear BK409; clear HB; have HO_7 := n0_; have BK397 := n1_; have BK398 := n2_; have BK399 := n3_; have BK409 := n4_; have HB := n5_; clear n0_ n1_ n2_ n3_ n4_ n5_; (try clear hb); (try clear hb2); (try clear hk); (try clear hi); have hcz84_0 := bc0 BK409.out; have hcz84_1 := bc1 BK409.out; have hcz84_2 := bc2 BK409.out; have hfz84_0 := blk_frozen BK409.out 0; have hfz84_1 := blk_frozen BK409.out 1; have hfz84_2 := blk_frozen BK409.out 2) | (go_at_call 41; (with_reducible refine (spec_l1Of.calls ji71 ji73 t420 t421 t422 _ A74.out).mono ?_); rintro e w85 ⟨rfl, hb⟩; have n0_ := Aside0.mk (Kd.R_below (by (with_reducible repeat (first | apply Kd.R_alloc | apply Kd.R_drewN | apply Kd.R_drew)); exact (Kd.R_mono (Kd.R_far (p := ⟨gb409, 2, none⟩) (Kd.R_far (p := ⟨gb409, 1, none⟩) (Kd.R_far (p := ⟨gb409, 0, none⟩) (Kd.R_types HO_7.out BK409.out (by decide)) (fun _ hk => hk.2) (.bool t417)) (fun _ hk => hk.2) (.int .i64 t418)) (fun _ hk => hk.2) (.int .i64 t419)) (fun _ h_ => h_.1))) hb); have n1_ := Bk.mk (blk_below (g := gb397) (o := .cells #[.bool a1_0, .int .i64 a1_1, .int .i64 a1_2] 30 (0, 0)) bk hb); have n2_ := Bk.mk (blk_below (g := gb398) (o := .cells #[.bool a2_0, .int .i64 a2_1, .int .i64 a2_2] 30 (0, 0)) bk hb); have n3_ := Bk.mk (blk_below (g := gb399) (o := .cells #[.bool false, .int .i64 0, .int .i64 0] 30 (0, 0)) bk hb); have n4_ := Bk.mk (blk_below (g := gb409) (o := .cells #[.bool t417, .int .i64 t418, .int .i64 t419] 30 (0, 0)) bk hb); have n5_ := Bl.mk (below_step bl hb); clear HO_7; clear BK397; clear BK398; clear BK399; clear BK409; clear HB; have HO_7 := n0_; have BK397 := n1_; have BK398 := n2_; have BK399 := n3_; have BK409 := n4_; have HB := n5_; clear n0_ n1_ n2_ n3_ n4_ n5_; (try clear hb); (try clear hb2); (try clear hk); (try clear hi); have hcz86_0 := bc0 BK409.out; have hcz86_1 := bc1 BK409.out; have hcz86_2 := bc2 BK409.out; have hfz86_0 := blk_frozen BK409.out 0; have hfz86_1 := blk_frozen BK409.out 1; have hfz86_2 := blk_frozen BK409.out 2))
                    repeat (go_quiet (first | (go_at_call 33; (with_reducible refine (spec_l1Raw.calls a0 a1_1 (rd t406 x9_2) t411 _ A49.out).mono ?_); rintro e w' ⟨rfl, ⟨nd, rfl⟩⟩; (try first | exact ⟨rfl, _, World.drewN_drewN _ _ _⟩ | exact ⟨rfl, _, Eq.trans (World.drewN_drewN _ _ _) (congrArg (World.drewN _) (Nat.add_assoc _ _ _))⟩); have p412 : 0 ≤ (x9_2 : Int) := of_decide_eq_true (by first | (with_reducible assumption) | assumption); have q412 : x9_2 < (t406.length : Int) := of_decide_eq_true (by first | (with_reducible assumption) | assumption); obtain ⟨ad412, e412, hx412_0⟩ := Kd.at_int (Kd.R_reads' HO_7.out).2.2 x9_2 p412 q412; obtain rfl : ad410 = ad412 := (by injection e412); replace p412 := eq_true p412; replace q412 := eq_true q412) | (go_at_call 33; (with_reducible refine (spec_l1Raw.calls a0 a1_2 (rd t406 x9_2) t413 _ A50.out).mono ?_); rintro e w' ⟨rfl, ⟨nd, rfl⟩⟩; (try first | exact ⟨rfl, _, World.drewN_drewN _ _ _⟩ | exact ⟨rfl, _, Eq.trans (World.drewN_drewN _ _ _) (congrArg (World.drewN _) (Nat.add_assoc _ _ _))⟩); have hnb80 := NB409_398.out; have hnc80 := NB398_409.out; have hnb81 := NB409_399.out; have hnc81 := NB399_409.out; have hcz82_0 := bc0 BK409.out; have hcz82_1 := bc1 BK409.out; have hcz82_2 := bc2 BK409.out; have hfz82_0 := blk_frozen BK409.out 0; have hfz82_1 := blk_frozen BK409.out 1; have hfz82_2 := blk_frozen BK409.out 2) | (go_at_call 41; (with_reducible refine (spec_l1Of.calls ji67 ji68 t417 t418 t419 _ A69.out).mono ?_); rintro e w83 ⟨rfl, hb⟩; have n0_ := Aside0.mk (Kd.R_below (by (with_reducible repeat (first | apply Kd.R_alloc | apply Kd.R_drewN | apply Kd.R_drew)); exact HO_7.out) hb); have n1_ := Bk.mk (blk_below (g := gb397) bk hb); have n2_ := Bk.mk (blk_below (g := gb398) bk hb); have n3_ := Bk.mk (blk_below (g := gb399) bk hb); have n4_ := Bk.mk (blk_below (g := gb409) bk hb); have n5_ := Bl.mk (below_step bl hb); clear HO_7; clear BK397; clear BK398; clear BK399; clear BK409; clear HB; have HO_7 := n0_; have BK397 := n1_; have BK398 := n2_; have BK399 := n3_; have BK409 := n4_; have HB := n5_; clear n0_ n1_ n2_ n3_ n4_ n5_; (try clear hb); (try clear hb2); (try clear hk); (try clear hi); have hcz84_0 := bc0 BK409.out; have hcz84_1 := bc1 BK409.out; have hcz84_2 := bc2 BK409.out; have hfz84_0 := blk_frozen BK409.out 0; have hfz84_1 := blk_frozen BK409.out 1; have hfz84_2 := blk_frozen BK409.out 2) | (go_at_call 41; (with_reducible refine (spec_l1Of.calls ji71 ji73 t420 t421 t422 _ A74.out).mono ?_); rintro e w85 ⟨rfl, hb⟩; have n0_ := Aside0.mk (Kd.R_below (by (with_reducible repeat (first | apply Kd.R_alloc | apply Kd.R_drewN | apply Kd.R_drew)); exact (Kd.R_mono (Kd.R_far (p := ⟨gb409, 2, none⟩) (Kd.R_far (p := ⟨gb409, 1, none⟩) (Kd.R_far (p := ⟨gb409, 0, none⟩) (Kd.R_types HO_7.out BK409.out (by decide)) (fun _ hk => hk.2) (.bool t417)) (fun _ hk => hk.2) (.int .i64 t418)) (fun _ hk => hk.2) (.int .i64 t419)) (fun _ h_ => h_.1))) hb); have n1_ := Bk.mk (blk_below (g := gb397) (o := .cells #[.bool a1_0, .int .i64 a1_1, .int .i64 a1_2] 30 (0, 0)) bk hb); have n2_ := Bk.mk (blk_below (g := gb398) (o := .cells #[.bool a2_0, .int .i64 a2_1, .int .i64 a2_2] 30 (0, 0)) bk hb); have n3_ := Bk.mk (blk_below (g := gb399) (o := .cells #[.bool false, .int .i64 0, .int .i64 0] 30 (0, 0)) bk hb); have n4_ := Bk.mk (blk_below (g := gb409) (o := .cells #[.bool t417, .int .i64 t418, .int .i64 t419] 30 (0, 0)) bk hb); have n5_ := Bl.mk (below_step bl hb); clear HO_7; clear BK397; clear BK398; clear BK399; clear BK409; clear HB; have HO_7 := n0_; have BK397 := n1_; have BK398 := n2_; have BK399 := n3_; have BK409 := n4_; have HB := n5_; clear n0_ n1_ n2_ n3_ n4_ n5_; (try clear hb); (try clear hb2); (try clear hk); (try clear hi); have hcz86_0 := bc0 BK409.out; have hcz86_1 := bc1 BK409.out; have hcz86_2 := bc2 BK409.out; have hfz86_0 := blk_frozen BK409.out 0; have hfz86_1 := blk_frozen BK409.out 1; have hfz86_2 := blk_frozen BK409.out 2)); try go_wp2_with (first | (go_at_call 33; (with_reducible refine (spec_l1Raw.calls a0 a1_1 (rd t406 x9_2) t411 _ A49.out).mono ?_); rintro e w' ⟨rfl, ⟨nd, rfl⟩⟩; (try first | exact ⟨rfl, _, World.drewN_drewN _ _ _⟩ | exact ⟨rfl, _, Eq.trans (World.drewN_drewN _ _ _) (congrArg (World.drewN _) (Nat.add_assoc _ _ _))⟩); have p412 : 0 ≤ (x9_2 : Int) := of_decide_eq_true (by first | (with_reducible assumption) | assumption); have q412 : x9_2 < (t406.length : Int) := of_decide_eq_true (by first | (with_reducible assumption) | assumption); obtain ⟨ad412, e412, hx412_0⟩ := Kd.at_int (Kd.R_reads' HO_7.out).2.2 x9_2 p412 q412; obtain rfl : ad410 = ad412 := (by injection e412); replace p412 := eq_true p412; replace q412 := eq_true q412) | (go_at_call 33; (with_reducible refine (spec_l1Raw.calls a0 a1_2 (rd t406 x9_2) t413 _ A50.out).mono ?_); rintro e w' ⟨rfl, ⟨nd, rfl⟩⟩; (try first | exact ⟨rfl, _, World.drewN_drewN _ _ _⟩ | exact ⟨rfl, _, Eq.trans (World.drewN_drewN _ _ _) (congrArg (World.drewN _) (Nat.add_assoc _ _ _))⟩); have hnb80 := NB409_398.out; have hnc80 := NB398_409.out; have hnb81 := NB409_399.out; have hnc81 := NB399_409.out; have hcz82_0 := bc0 BK409.out; have hcz82_1 := bc1 BK409.out; have hcz82_2 := bc2 BK409.out; have hfz82_0 := blk_frozen BK409.out 0; have hfz82_1 := blk_frozen BK409.out 1; have hfz82_2 := blk_frozen BK409.out 2) | (go_at_call 41; (with_reducible refine (spec_l1Of.calls ji67 ji68 t417 t418 t419 _ A69.out).mono ?_); rintro e w83 ⟨rfl, hb⟩; have n0_ := Aside0.mk (Kd.R_below (by (with_reducible repeat (first | apply Kd.R_alloc | apply Kd.R_drewN | apply Kd.R_drew)); exact HO_7.out) hb); have n1_ := Bk.mk (blk_below (g := gb397) bk hb); have n2_ := Bk.mk (blk_below (g := gb398) bk hb); have n3_ := Bk.mk (blk_below (g := gb399) bk hb); have n4_ := Bk.mk (blk_below (g := gb409) bk hb); have n5_ := Bl.mk (below_step bl hb); clear HO_7; clear BK397; clear BK398; clear BK399; clear BK409; clear HB; have HO_7 := n0_; have BK397 := n1_; have BK398 := n2_; have BK399 := n3_; have BK409 := n4_; have HB := n5_; clear n0_ n1_ n2_ n3_ n4_ n5_; (try clear hb); (try clear hb2); (try clear hk); (try clear hi); have hcz84_0 := bc0 BK409.out; have hcz84_1 := bc1 BK409.out; have hcz84_2 := bc2 BK409.out; have hfz84_0 := blk_frozen BK409.out 0; have hfz84_1 := blk_frozen BK409.out 1; have hfz84_2 := blk_frozen BK409.out 2) | (go_at_call 41; (with_reducible refine (spec_l1Of.calls ji71 ji73 t420 t421 t422 _ A74.out).mono ?_); rintro e w85 ⟨rfl, hb⟩; have n0_ := Aside0.mk (Kd.R_below (by (with_reducible repeat (first | apply Kd.R_alloc | apply Kd.R_drewN | apply Kd.R_drew)); exact (Kd.R_mono (Kd.R_far (p := ⟨gb409, 2, none⟩) (Kd.R_far (p := ⟨gb409, 1, none⟩) (Kd.R_far (p := ⟨gb409, 0, none⟩) (Kd.R_types HO_7.out BK409.out (by decide)) (fun _ hk => hk.2) (.bool t417)) (fun _ hk => hk.2) (.int .i64 t418)) (fun _ hk => hk.2) (.int .i64 t419)) (fun _ h_ => h_.1))) hb); have n1_ := Bk.mk (blk_below (g := gb397) (o := .cells #[.bool a1_0, .int .i64 a1_1, .int .i64 a1_2] 30 (0, 0)) bk hb); have n2_ := Bk.mk (blk_below (g := gb398) (o := .cells #[.bool a2_0, .int .i64 a2_1, .int .i64 a2_2] 30 (0, 0)) bk hb); have n3_ := Bk.mk (blk_below (g := gb399) (o := .cells #[.bool false, .int .i64 0, .int .i64 0] 30 (0, 0)) bk hb); have n4_ := Bk.mk (blk_below (g := gb409) (o := .cells #[.bool t417, .int .i64 t418, .int .i64 t419] 30 (0, 0)) bk hb); have n5_ := Bl.mk (below_step bl hb); clear HO_7; clear BK397; clear BK398; clear BK399; clear BK409; clear HB; have HO_7 := n0_; have BK397 := n1_; have BK398 := n2_; have BK399 := n3_; have BK409 := n4_; have HB := n5_; clear n0_ n1_ n2_ n3_ n4_ n5_; (try clear hb); (try clear hb2); (try clear hk); (try clear hi); have hcz86_0 := bc0 BK409.out; have hcz86_1 := bc1 BK409.out; have hcz86_2 := bc2 BK409.out; have hfz86_0 := blk_frozen BK409.out 0; have hfz86_1 := blk_frozen BK409.out 1; have hfz86_2 := blk_frozen BK409.out 2)))
                    go_roundg k2
                    case measure => have := HJ3.out; have := HK2.out; omega
                    case rel => exact ⟨(wrap64 (x9_2 + 1)), (t420), (t421), (t422), (by first | rfl | (simp; done) | (simp [*]; done)), H', ⟨by have := HJ3.out; have := HK2.out; omega⟩, ⟨by (with_reducible repeat (first | apply Kd.R_alloc | apply Kd.R_drewN | apply Kd.R_drew)); exact Kd.R_mono (Kd.R_far (p := ⟨gb409, 2, none⟩) (Kd.R_far (p := ⟨gb409, 1, none⟩) (Kd.R_far (p := ⟨gb409, 0, none⟩) (Kd.R_types HO_7.out BK409.out (by decide)) (fun _ hk => hk.2) (.bool t420)) (fun _ hk => hk.2) (.int .i64 t421)) (fun _ hk => hk.2) (.int .i64 t422)) (fun _ hk => trivial)⟩, ⟨bk⟩, ⟨bk⟩, ⟨bk⟩, ⟨bk⟩, ⟨bl⟩⟩
                · rw [if_neg c48] at H
                  exact absurd H (by simp)
              · rw [if_neg c47] at H
                have c47b0 : decide (x9_2 < (t406.length : Int)) = false := decide_eq_false c47
                clear c47
                by_cases c87 : x410000_2 = true
                · subst c87
                  rw [if_pos rfl] at H
                  replace H := Option.bind_eq_some_iff.mp H
                  obtain ⟨t423, A880, H⟩ := H
                  try dsimp only at H
                  have A88 := Aside0.mk A880
                  clear A880
                  by_cases c89 : t423 = true
                  · subst c89
                    rw [if_pos rfl] at H
                    replace H := Option.bind_eq_some_iff.mp H
                    obtain ⟨t424, A900, H⟩ := H
                    try dsimp only at H
                    have A90 := Aside0.mk A900
                    clear A900
                    by_cases c91 : t424 = true
                    · subst c91
                      rw [if_pos rfl] at H
                      simp only [Option.some.injEq, Prod.mk.injEq] at H
                      obtain ⟨rfl, rfl, rfl⟩ := H
                      obtain ⟨Ao92, co92, eo92⟩ := Kd.R_slice HO_7.out
                      subst eo92
                      have hnb93 := NB409_397.out
                      have hnc93 := NB397_409.out
                      have hnb94 := NB409_398.out
                      have hnc94 := NB398_409.out
                      have hnb95 := NB409_399.out
                      have hnc95 := NB399_409.out
                      have hcz96_0 := bc0 BK409.out
                      have hcz96_1 := bc1 BK409.out
                      have hcz96_2 := bc2 BK409.out
                      have hfz96_0 := blk_frozen BK409.out 0
                      have hfz96_1 := blk_frozen BK409.out 1
                      have hfz96_2 := blk_frozen BK409.out 2
                      go_wp2_with (first | (go_at_call 31; (with_reducible refine (spec_l1Word.calls x410001_2 true _ A88.out).mono ?_); rintro e w' ⟨rfl, ⟨nd, rfl⟩⟩; (try first | exact ⟨rfl, _, World.drewN_drewN _ _ _⟩ | exact ⟨rfl, _, Eq.trans (World.drewN_drewN _ _ _) (congrArg (World.drewN _) (Nat.add_assoc _ _ _))⟩)) | (go_at_call 31; (with_reducible refine (spec_l1Word.calls x410002_2 true _ A90.out).mono ?_); rintro e w' ⟨rfl, ⟨nd, rfl⟩⟩; (try first | exact ⟨rfl, _, World.drewN_drewN _ _ _⟩ | exact ⟨rfl, _, Eq.trans (World.drewN_drewN _ _ _) (congrArg (World.drewN _) (Nat.add_assoc _ _ _))⟩); have hnb97 := NB399_397.out; have hnc97 := NB397_399.out; have hnb98 := NB399_398.out; have hnc98 := NB398_399.out; have hcz99_0 := bc0 BK399.out; have hcz99_1 := bc1 BK399.out; have hcz99_2 := bc2 BK399.out; have hfz99_0 := blk_frozen BK399.out 0; have hfz99_1 := blk_frozen BK399.out 1; have hfz99_2 := blk_frozen BK399.out 2))
                      repeat (go_quiet (first | (go_at_call 31; (with_reducible refine (spec_l1Word.calls x410001_2 true _ A88.out).mono ?_); rintro e w' ⟨rfl, ⟨nd, rfl⟩⟩; (try first | exact ⟨rfl, _, World.drewN_drewN _ _ _⟩ | exact ⟨rfl, _, Eq.trans (World.drewN_drewN _ _ _) (congrArg (World.drewN _) (Nat.add_assoc _ _ _))⟩)) | (go_at_call 31; (with_reducible refine (spec_l1Word.calls x410002_2 true _ A90.out).mono ?_); rintro e w' ⟨rfl, ⟨nd, rfl⟩⟩; (try first | exact ⟨rfl, _, World.drewN_drewN _ _ _⟩ | exact ⟨rfl, _, Eq.trans (World.drewN_drewN _ _ _) (congrArg (World.drewN _) (Nat.add_assoc _ _ _))⟩); have hnb97 := NB399_397.out; have hnc97 := NB397_399.out; have hnb98 := NB399_398.out; have hnc98 := NB398_399.out; have hcz99_0 := bc0 BK399.out; have hcz99_1 := bc1 BK399.out; have hcz99_2 := bc2 BK399.out; have hfz99_0 := blk_frozen BK399.out 0; have hfz99_1 := blk_frozen BK399.out 1; have hfz99_2 := blk_frozen BK399.out 2)); try go_wp2_with (first | (go_at_call 31; (with_reducible refine (spec_l1Word.calls x410001_2 true _ A88.out).mono ?_); rintro e w' ⟨rfl, ⟨nd, rfl⟩⟩; (try first | exact ⟨rfl, _, World.drewN_drewN _ _ _⟩ | exact ⟨rfl, _, Eq.trans (World.drewN_drewN _ _ _) (congrArg (World.drewN _) (Nat.add_assoc _ _ _))⟩)) | (go_at_call 31; (with_reducible refine (spec_l1Word.calls x410002_2 true _ A90.out).mono ?_); rintro e w' ⟨rfl, ⟨nd, rfl⟩⟩; (try first | exact ⟨rfl, _, World.drewN_drewN _ _ _⟩ | exact ⟨rfl, _, Eq.trans (World.drewN_drewN _ _ _) (congrArg (World.drewN _) (Nat.add_assoc _ _ _))⟩); have hnb97 := NB399_397.out; have hnc97 := NB397_399.out; have hnb98 := NB399_398.out; have hnc98 := NB398_399.out; have hcz99_0 := bc0 BK399.out; have hcz99_1 := bc1 BK399.out; have hcz99_2 := bc2 BK399.out; have hfz99_0 := blk_frozen BK399.out 0; have hfz99_1 := blk_frozen BK399.out 1; have hfz99_2 := blk_frozen BK399.out 2)))
                      refine bodyPost_ret (results_cell_row rfl _ _ gb399 30 #[.bool true, .int .i64 x410001_2, .int .i64 x410002_2] (0, 0) _ rfl bk Try.underlying30 rfl (by kernel_rfl)) rfl ?_
                      exact ⟨by first | rfl | (simp [errW_none, errW_some] <;> rfl) | (simp [*, errW_none, errW_some] <;> rfl), bl⟩
                    · replace c91 := Bool.eq_false_iff.mpr c91
                      subst c91
                      rw [if_neg (show ¬ (false = true) by decide)] at H
                      replace H := Option.bind_eq_some_iff.mp H
                      obtain ⟨⟨t425, t426, t427⟩, A1000, H⟩ := H
                      try dsimp only at H
                      have A100 := Aside0.mk A1000
                      clear A1000
                      simp only [Option.some.injEq, Prod.mk.injEq] at H
                      obtain ⟨rfl, rfl, rfl⟩ := H
                      obtain ⟨Ao101, co101, eo101⟩ := Kd.R_slice HO_7.out
                      subst eo101
                      have hnb102 := NB409_397.out
                      have hnc102 := NB397_409.out
                      have hnb103 := NB409_398.out
                      have hnc103 := NB398_409.out
                      have hnb104 := NB409_399.out
                      have hnc104 := NB399_409.out
                      have hcz105_0 := bc0 BK409.out
                      have hcz105_1 := bc1 BK409.out
                      have hcz105_2 := bc2 BK409.out
                      have hfz105_0 := blk_frozen BK409.out 0
                      have hfz105_1 := blk_frozen BK409.out 1
                      have hfz105_2 := blk_frozen BK409.out 2
                      go_wp2_with (first | (go_at_call 31; (with_reducible refine (spec_l1Word.calls x410001_2 true _ A88.out).mono ?_); rintro e w' ⟨rfl, ⟨nd, rfl⟩⟩; (try first | exact ⟨rfl, _, World.drewN_drewN _ _ _⟩ | exact ⟨rfl, _, Eq.trans (World.drewN_drewN _ _ _) (congrArg (World.drewN _) (Nat.add_assoc _ _ _))⟩)) | (go_at_call 31; (with_reducible refine (spec_l1Word.calls x410002_2 false _ A90.out).mono ?_); rintro e w' ⟨rfl, ⟨nd, rfl⟩⟩; (try first | exact ⟨rfl, _, World.drewN_drewN _ _ _⟩ | exact ⟨rfl, _, Eq.trans (World.drewN_drewN _ _ _) (congrArg (World.drewN _) (Nat.add_assoc _ _ _))⟩)) | (go_at_call 41; (with_reducible refine (spec_l1Of.calls (-16) 15 t425 t426 t427 _ A100.out).mono ?_); rintro e w106 ⟨rfl, hb⟩; have n0_ := Aside0.mk (Kd.R_below (by (with_reducible repeat (first | apply Kd.R_alloc | apply Kd.R_drewN | apply Kd.R_drew)); exact HO_7.out) hb); have n1_ := Bk.mk (blk_below (g := gb397) bk hb); have n2_ := Bk.mk (blk_below (g := gb398) bk hb); have n3_ := Bk.mk (blk_below (g := gb399) bk hb); have n4_ := Bk.mk (blk_below (g := gb409) bk hb); have n5_ := Bl.mk (below_step bl hb); clear HO_7; clear BK397; clear BK398; clear BK399; clear BK409; clear HB; have HO_7 := n0_; have BK397 := n1_; have BK398 := n2_; have BK399 := n3_; have BK409 := n4_; have HB := n5_; clear n0_ n1_ n2_ n3_ n4_ n5_; (try clear hb); (try clear hb2); (try clear hk); (try clear hi); have hnb107 := NB399_397.out; have hnc107 := NB397_399.out; have hnb108 := NB399_398.out; have hnc108 := NB398_399.out; have hcz109_0 := bc0 BK399.out; have hcz109_1 := bc1 BK399.out; have hcz109_2 := bc2 BK399.out; have hfz109_0 := blk_frozen BK399.out 0; have hfz109_1 := blk_frozen BK399.out 1; have hfz109_2 := blk_frozen BK399.out 2))
                      repeat (go_quiet (first | (go_at_call 31; (with_reducible refine (spec_l1Word.calls x410001_2 true _ A88.out).mono ?_); rintro e w' ⟨rfl, ⟨nd, rfl⟩⟩; (try first | exact ⟨rfl, _, World.drewN_drewN _ _ _⟩ | exact ⟨rfl, _, Eq.trans (World.drewN_drewN _ _ _) (congrArg (World.drewN _) (Nat.add_assoc _ _ _))⟩)) | (go_at_call 31; (with_reducible refine (spec_l1Word.calls x410002_2 false _ A90.out).mono ?_); rintro e w' ⟨rfl, ⟨nd, rfl⟩⟩; (try first | exact ⟨rfl, _, World.drewN_drewN _ _ _⟩ | exact ⟨rfl, _, Eq.trans (World.drewN_drewN _ _ _) (congrArg (World.drewN _) (Nat.add_assoc _ _ _))⟩)) | (go_at_call 41; (with_reducible refine (spec_l1Of.calls (-16) 15 t425 t426 t427 _ A100.out).mono ?_); rintro e w106 ⟨rfl, hb⟩; have n0_ := Aside0.mk (Kd.R_below (by (with_reducible repeat (first | apply Kd.R_alloc | apply Kd.R_drewN | apply Kd.R_drew)); exact HO_7.out) hb); have n1_ := Bk.mk (blk_below (g := gb397) bk hb); have n2_ := Bk.mk (blk_below (g := gb398) bk hb); have n3_ := Bk.mk (blk_below (g := gb399) bk hb); have n4_ := Bk.mk (blk_below (g := gb409) bk hb); have n5_ := Bl.mk (below_step bl hb); clear HO_7; clear BK397; clear BK398; clear BK399; clear BK409; clear HB; have HO_7 := n0_; have BK397 := n1_; have BK398 := n2_; have BK399 := n3_; have BK409 := n4_; have HB := n5_; clear n0_ n1_ n2_ n3_ n4_ n5_; (try clear hb); (try clear hb2); (try clear hk); (try clear hi); have hnb107 := NB399_397.out; have hnc107 := NB397_399.out; have hnb108 := NB399_398.out; have hnc108 := NB398_399.out; have hcz109_0 := bc0 BK399.out; have hcz109_1 := bc1 BK399.out; have hcz109_2 := bc2 BK399.out; have hfz109_0 := blk_frozen BK399.out 0; have hfz109_1 := blk_frozen BK399.out 1; have hfz109_2 := blk_frozen BK399.out 2)); try go_wp2_with (first | (go_at_call 31; (with_reducible refine (spec_l1Word.calls x410001_2 true _ A88.out).mono ?_); rintro e w' ⟨rfl, ⟨nd, rfl⟩⟩; (try first | exact ⟨rfl, _, World.drewN_drewN _ _ _⟩ | exact ⟨rfl, _, Eq.trans (World.drewN_drewN _ _ _) (congrArg (World.drewN _) (Nat.add_assoc _ _ _))⟩)) | (go_at_call 31; (with_reducible refine (spec_l1Word.calls x410002_2 false _ A90.out).mono ?_); rintro e w' ⟨rfl, ⟨nd, rfl⟩⟩; (try first | exact ⟨rfl, _, World.drewN_drewN _ _ _⟩ | exact ⟨rfl, _, Eq.trans (World.drewN_drewN _ _ _) (congrArg (World.drewN _) (Nat.add_assoc _ _ _))⟩)) | (go_at_call 41; (with_reducible refine (spec_l1Of.calls (-16) 15 t425 t426 t427 _ A100.out).mono ?_); rintro e w106 ⟨rfl, hb⟩; have n0_ := Aside0.mk (Kd.R_below (by (with_reducible repeat (first | apply Kd.R_alloc | apply Kd.R_drewN | apply Kd.R_drew)); exact HO_7.out) hb); have n1_ := Bk.mk (blk_below (g := gb397) bk hb); have n2_ := Bk.mk (blk_below (g := gb398) bk hb); have n3_ := Bk.mk (blk_below (g := gb399) bk hb); have n4_ := Bk.mk (blk_below (g := gb409) bk hb); have n5_ := Bl.mk (below_step bl hb); clear HO_7; clear BK397; clear BK398; clear BK399; clear BK409; clear HB; have HO_7 := n0_; have BK397 := n1_; have BK398 := n2_; have BK399 := n3_; have BK409 := n4_; have HB := n5_; clear n0_ n1_ n2_ n3_ n4_ n5_; (try clear hb); (try clear hb2); (try clear hk); (try clear hi); have hnb107 := NB399_397.out; have hnc107 := NB397_399.out; have hnb108 := NB399_398.out; have hnc108 := NB398_399.out; have hcz109_0 := bc0 BK399.out; have hcz109_1 := bc1 BK399.out; have hcz109_2 := bc2 BK399.out; have hfz109_0 := blk_frozen BK399.out 0; have hfz109_1 := blk_frozen BK399.out 1; have hfz109_2 := blk_frozen BK399.out 2)))
                      refine bodyPost_ret (results_cell_row rfl _ _ gb399 30 #[.bool t425, .int .i64 t426, .int .i64 t427] (0, 0) _ rfl bk Try.underlying30 rfl (by kernel_rfl)) rfl ?_
                      exact ⟨by first | rfl | (simp [errW_none, errW_some] <;> rfl) | (simp [*, errW_none, errW_some] <;> rfl), bl⟩
                  · replace c89 := Bool.eq_false_iff.mpr c89
                    subst c89
                    rw [if_neg (show ¬ (false = true) by decide)] at H
                    replace H := Option.bind_eq_some_iff.mp H
                    obtain ⟨⟨t428, t429, t430⟩, A1100, H⟩ := H
                    try dsimp only at H
                    have A110 := Aside0.mk A1100
                    clear A1100
                    simp only [Option.some.injEq, Prod.mk.injEq] at H
                    obtain ⟨rfl, rfl, rfl⟩ := H
                    obtain ⟨Ao111, co111, eo111⟩ := Kd.R_slice HO_7.out
                    subst eo111
                    have hnb112 := NB409_397.out
                    have hnc112 := NB397_409.out
                    have hnb113 := NB409_398.out
                    have hnc113 := NB398_409.out
                    have hnb114 := NB409_399.out
                    have hnc114 := NB399_409.out
                    have hcz115_0 := bc0 BK409.out
                    have hcz115_1 := bc1 BK409.out
                    have hcz115_2 := bc2 BK409.out
                    have hfz115_0 := blk_frozen BK409.out 0
                    have hfz115_1 := blk_frozen BK409.out 1
                    have hfz115_2 := blk_frozen BK409.out 2
                    go_wp2_with (first | (go_at_call 31; (with_reducible refine (spec_l1Word.calls x410001_2 false _ A88.out).mono ?_); rintro e w' ⟨rfl, ⟨nd, rfl⟩⟩; (try first | exact ⟨rfl, _, World.drewN_drewN _ _ _⟩ | exact ⟨rfl, _, Eq.trans (World.drewN_drewN _ _ _) (congrArg (World.drewN _) (Nat.add_assoc _ _ _))⟩)) | (go_at_call 41; (with_reducible refine (spec_l1Of.calls (-16) 15 t428 t429 t430 _ A110.out).mono ?_); rintro e w116 ⟨rfl, hb⟩; have n0_ := Aside0.mk (Kd.R_below (by (with_reducible repeat (first | apply Kd.R_alloc | apply Kd.R_drewN | apply Kd.R_drew)); exact HO_7.out) hb); have n1_ := Bk.mk (blk_below (g := gb397) bk hb); have n2_ := Bk.mk (blk_below (g := gb398) bk hb); have n3_ := Bk.mk (blk_below (g := gb399) bk hb); have n4_ := Bk.mk (blk_below (g := gb409) bk hb); have n5_ := Bl.mk (below_step bl hb); clear HO_7; clear BK397; clear BK398; clear BK399; clear BK409; clear HB; have HO_7 := n0_; have BK397 := n1_; have BK398 := n2_; have BK399 := n3_; have BK409 := n4_; have HB := n5_; clear n0_ n1_ n2_ n3_ n4_ n5_; (try clear hb); (try clear hb2); (try clear hk); (try clear hi); have hnb117 := NB399_397.out; have hnc117 := NB397_399.out; have hnb118 := NB399_398.out; have hnc118 := NB398_399.out; have hcz119_0 := bc0 BK399.out; have hcz119_1 := bc1 BK399.out; have hcz119_2 := bc2 BK399.out; have hfz119_0 := blk_frozen BK399.out 0; have hfz119_1 := blk_frozen BK399.out 1; have hfz119_2 := blk_frozen BK399.out 2))
                    repeat (go_quiet (first | (go_at_call 31; (with_reducible refine (spec_l1Word.calls x410001_2 false _ A88.out).mono ?_); rintro e w' ⟨rfl, ⟨nd, rfl⟩⟩; (try first | exact ⟨rfl, _, World.drewN_drewN _ _ _⟩ | exact ⟨rfl, _, Eq.trans (World.drewN_drewN _ _ _) (congrArg (World.drewN _) (Nat.add_assoc _ _ _))⟩)) | (go_at_call 41; (with_reducible refine (spec_l1Of.calls (-16) 15 t428 t429 t430 _ A110.out).mono ?_); rintro e w116 ⟨rfl, hb⟩; have n0_ := Aside0.mk (Kd.R_below (by (with_reducible repeat (first | apply Kd.R_alloc | apply Kd.R_drewN | apply Kd.R_drew)); exact HO_7.out) hb); have n1_ := Bk.mk (blk_below (g := gb397) bk hb); have n2_ := Bk.mk (blk_below (g := gb398) bk hb); have n3_ := Bk.mk (blk_below (g := gb399) bk hb); have n4_ := Bk.mk (blk_below (g := gb409) bk hb); have n5_ := Bl.mk (below_step bl hb); clear HO_7; clear BK397; clear BK398; clear BK399; clear BK409; clear HB; have HO_7 := n0_; have BK397 := n1_; have BK398 := n2_; have BK399 := n3_; have BK409 := n4_; have HB := n5_; clear n0_ n1_ n2_ n3_ n4_ n5_; (try clear hb); (try clear hb2); (try clear hk); (try clear hi); have hnb117 := NB399_397.out; have hnc117 := NB397_399.out; have hnb118 := NB399_398.out; have hnc118 := NB398_399.out; have hcz119_0 := bc0 BK399.out; have hcz119_1 := bc1 BK399.out; have hcz119_2 := bc2 BK399.out; have hfz119_0 := blk_frozen BK399.out 0; have hfz119_1 := blk_frozen BK399.out 1; have hfz119_2 := blk_frozen BK399.out 2)); try go_wp2_with (first | (go_at_call 31; (with_reducible refine (spec_l1Word.calls x410001_2 false _ A88.out).mono ?_); rintro e w' ⟨rfl, ⟨nd, rfl⟩⟩; (try first | exact ⟨rfl, _, World.drewN_drewN _ _ _⟩ | exact ⟨rfl, _, Eq.trans (World.drewN_drewN _ _ _) (congrArg (World.drewN _) (Nat.add_assoc _ _ _))⟩)) | (go_at_call 41; (with_reducible refine (spec_l1Of.calls (-16) 15 t428 t429 t430 _ A110.out).mono ?_); rintro e w116 ⟨rfl, hb⟩; have n0_ := Aside0.mk (Kd.R_below (by (with_reducible repeat (first | apply Kd.R_alloc | apply Kd.R_drewN | apply Kd.R_drew)); exact HO_7.out) hb); have n1_ := Bk.mk (blk_below (g := gb397) bk hb); have n2_ := Bk.mk (blk_below (g := gb398) bk hb); have n3_ := Bk.mk (blk_below (g := gb399) bk hb); have n4_ := Bk.mk (blk_below (g := gb409) bk hb); have n5_ := Bl.mk (below_step bl hb); clear HO_7; clear BK397; clear BK398; clear BK399; clear BK409; clear HB; have HO_7 := n0_; have BK397 := n1_; have BK398 := n2_; have BK399 := n3_; have BK409 := n4_; have HB := n5_; clear n0_ n1_ n2_ n3_ n4_ n5_; (try clear hb); (try clear hb2); (try clear hk); (try clear hi); have hnb117 := NB399_397.out; have hnc117 := NB397_399.out; have hnb118 := NB399_398.out; have hnc118 := NB398_399.out; have hcz119_0 := bc0 BK399.out; have hcz119_1 := bc1 BK399.out; have hcz119_2 := bc2 BK399.out; have hfz119_0 := blk_frozen BK399.out 0; have hfz119_1 := blk_frozen BK399.out 1; have hfz119_2 := blk_frozen BK399.out 2)))
                    refine bodyPost_ret (results_cell_row rfl _ _ gb399 30 #[.bool t428, .int .i64 t429, .int .i64 t430] (0, 0) _ rfl bk Try.underlying30 rfl (by kernel_rfl)) rfl ?_
                    exact ⟨by first | rfl | (simp [errW_none, errW_some] <;> rfl) | (simp [*, errW_none, errW_some] <;> rfl), bl⟩
                · replace c87 := Bool.eq_false_iff.mpr c87
                  subst c87
                  rw [if_neg (show ¬ (false = true) by decide)] at H
                  simp only [Option.some.injEq, Prod.mk.injEq] at H
                  obtain ⟨rfl, rfl, rfl⟩ := H
                  obtain ⟨Ao120, co120, eo120⟩ := Kd.R_slice HO_7.out
                  subst eo120
                  have hnb121 := NB409_397.out
                  have hnc121 := NB397_409.out
                  have hnb122 := NB409_398.out
                  have hnc122 := NB398_409.out
                  have hnb123 := NB409_399.out
                  have hnc123 := NB399_409.out
                  have hcz124_0 := bc0 BK409.out
                  have hcz124_1 := bc1 BK409.out
                  have hcz124_2 := bc2 BK409.out
                  have hfz124_0 := blk_frozen BK409.out 0
                  have hfz124_1 := blk_frozen BK409.out 1
                  have hfz124_2 := blk_frozen BK409.out 2
                  have hnb125 := NB399_397.out
                  have hnc125 := NB397_399.out
                  have hnb126 := NB399_398.out
                  have hnc126 := NB398_399.out
                  have hcz127_0 := bc0 BK399.out
                  have hcz127_1 := bc1 BK399.out
                  have hcz127_2 := bc2 BK399.out
                  have hfz127_0 := blk_frozen BK399.out 0
                  have hfz127_1 := blk_frozen BK399.out 1
                  have hfz127_2 := blk_frozen BK399.out 2
                  go_wp2
                  repeat (go_quiet (fail); try go_wp2)
                  refine bodyPost_ret (results_cell_row rfl _ _ gb399 30 #[.bool false, .int .i64 x410001_2, .int .i64 x410002_2] (0, 0) _ rfl bk Try.underlying30 rfl (by kernel_rfl)) rfl ?_
                  exact ⟨by first | rfl | (simp [errW_none, errW_some] <;> rfl) | (simp [*, errW_none, errW_some] <;> rfl), bl⟩

end Go.Proofs.Ytekmapilhomdgaa.P
