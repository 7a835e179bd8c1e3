/- The contracts of Go functions of this seat: each call comes to what the Lean function of the same name says. -/
import Derived.Test.YtekmapilhomdgaaPx0
import Derived.Test.YtekmapilhomdgaaPx8
import Derived.Test.YtekmapilhomdgaaPx10
import Derived.Test.YtekmapilhomdgaaPx37
namespace Go.Proofs.Ytekmapilhomdgaa.P
open Go.RowKit Go.Proofs.YtekmapilhomdgaaW.PrintWords Go.Proofs.YtekmapilhomdgaaW.PrintLast Go.Proofs.YtekmapilhomdgaaW.PrintMore
attribute [local go_sem] max2_int min2_int max_two min_two max_three min_three max_four min_four   -- for this text's walks alone
set_option linter.unusedVariables false
set_option linter.unusedSimpArgs false

/-! ### spec_DrawSpanDo: function 29 -/
def spec_DrawSpanDo.f (k : Nat) (l0 : List Int) : Option (Int × Bool × Int × Int × Bool × Int × Int) := (spec_l6Open.f l0).bind fun bt685 => ((spec_l71Op.f k bt685.1 bt685.2).bind fun bt688 => ((spec_l71Span.f k bt685.1 bt688.2).bind fun bt690 => ((spec_l71Span.f k bt685.1 bt690.2.2.2).bind fun bt694 => (some (bt688.1, bt690.1, bt690.2.1, bt690.2.2.1, bt694.1, bt694.2.1, bt694.2.2.1)))))
theorem spec_DrawSpanDo.mono : ∀ a0 k, LeO (spec_DrawSpanDo.f k a0) (spec_DrawSpanDo.f (k + 1) a0) := by
  intro a0 k
  unfold spec_DrawSpanDo.f
  repeat' first
      | (with_reducible exact spec_l71Op.mono _ _ _)
      | (with_reducible exact spec_l71Span.mono _ _ _)
      | (with_reducible exact LeO.refl _)
      | (with_reducible exact LeO.none _)
      | (with_reducible refine LeO.ite ?_ ?_)
      | (with_reducible refine LeO.bind ?_ (fun _ => ?_))
      | exact spec_l71Op.mono _ _ _
      | exact spec_l71Span.mono _ _ _
      | exact LeO.none _
      | refine LeO.ite ?_ ?_
      | refine LeO.bind ?_ (fun _ => ?_)
set_option maxHeartbeats 8000000 in
set_option maxRecDepth 100000 in
theorem spec_DrawSpanDo.calls (k : Nat) (A0 : Option Addr) (c0 : Nat) (l0 : List Int) (r1 : Int) (r2 : Bool) (r3 : Int) (r4 : Int) (r5 : Bool) (r6 : Int) (r7 : Int) (w : World) (hr0 : Kd.C (Kd.int .u8) w A0 l0.length l0) (hc0 : l0.length ≤ c0) (h : spec_DrawSpanDo.f k l0 = some (r1, r2, r3, r4, r5, r6, r7)) :
    Calls Try.prog 29 #[.slice A0 l0.length c0] w fun e w' => e = .returned (.tuple #[.int .i64 r1, .agg #[.bool r2, .int .i64 r3, .int .i64 r4], .agg #[.bool r5, .int .i64 r6, .int .i64 r7]]) ∧ Below w.heap.size w w' := by
  have hu30 := Try.underlying30
  have HR0 := Aside0.mk hr0
  have HC0 := Aside0.mk hc0
  clear hr0 hc0
  have HB := Bl.mk (Below.refl w.heap.size w)
  unfold spec_DrawSpanDo.f at h
  have H := h
  clear h
  replace H := Option.bind_eq_some_iff.mp H
  obtain ⟨⟨t685, t686⟩, A20, H⟩ := H
  try dsimp only at H
  have A2 := Aside0.mk A20
  clear A20
  replace H := Option.bind_eq_some_iff.mp H
  obtain ⟨⟨t688, t689⟩, A30, H⟩ := H
  try dsimp only at H
  have A3 := Aside0.mk A30
  clear A30
  replace H := Option.bind_eq_some_iff.mp H
  obtain ⟨⟨t690, t691, t692, t693⟩, A40, H⟩ := H
  try dsimp only at H
  have A4 := Aside0.mk A40
  clear A40
  replace H := Option.bind_eq_some_iff.mp H
  obtain ⟨⟨t694, t695, t696, t697⟩, A50, H⟩ := H
  try dsimp only at H
  have A5 := Aside0.mk A50
  clear A50
  simp only [Option.some.injEq, Prod.mk.injEq] at H
  obtain ⟨rfl, rfl, rfl, rfl, rfl, rfl, rfl⟩ := H
  go_enter Try.func29, Try.ntmps29
  go_wp2_with (first | ((with_reducible refine gate_dst (N := 3) rfl ?_); refine box_event ?hg (N := 3) ?hd (cs := #[.bool false, .int .i64 0, .int .i64 0]) (t := 30) ?hr ?_; (case hd => rfl); (case hg => rfl); (case hr => first | (go_simp; done) | (go_simp; rfl)); intro gb683 hg w6 hbox hb; have n0_ := Bl.mk (below_step bl hb); have n1_ := Bk.mk (hbox); have n2_ := Aside0.mk ((by rw [hg]; exact (below_size bl) : w.heap.size ≤ gb683)); have n3_ := Gl.mk ((by rw [hg]; exact (below_size bl) : w.heap.size ≤ gb683)); clear HB; have HB := n0_; have BK683 := n1_; have GW683 := n2_; have GE683 := n3_; clear n0_ n1_ n2_ n3_; clear hb hbox hg) | ((with_reducible refine gate_dst (N := 4) rfl ?_); refine box_event ?hg (N := 4) ?hd (cs := #[.bool false, .int .i64 0, .int .i64 0]) (t := 30) ?hr ?_; (case hd => rfl); (case hg => rfl); (case hr => first | (go_simp; done) | (go_simp; rfl)); intro gb684 hg w7 hbox hb; have n0_ := Bk.mk (blk_below (g := gb683) bk hb); have n1_ := Bl.mk (below_step bl hb); have n2_ := Bk.mk (hbox); have n3_ := Aside0.mk ((by rw [hg]; exact (below_size bl) : w.heap.size ≤ gb684)); have n4_ := Gl.mk ((by rw [hg]; exact (below_size bl) : w.heap.size ≤ gb684)); have n5_ := Nb.mk ((by rw [hg]; exact Nat.ne_of_lt (blk_lt (g := gb683) bk) : gb683 ≠ gb684)); have n6_ := Nb.mk ((by rw [hg]; exact Nat.ne_of_gt (blk_lt (g := gb683) bk) : gb684 ≠ gb683)); clear BK683; clear HB; have BK683 := n0_; have HB := n1_; have BK684 := n2_; have GW684 := n3_; have GE684 := n4_; have NB683_684 := n5_; have NB684_683 := n6_; clear n0_ n1_ n2_ n3_ n4_ n5_ n6_; clear hb hbox hg) | ((with_reducible refine gate_callee (f := 37) rfl ?_); refine goesL_ (some 7) rfl rfl Try.func37 (by kernel_rfl) rfl #[.slice A0 l0.length c0] rfl (by (try simp only [List.map_toArray, List.map_cons, List.map_nil]); first | done | rfl | (simp only [List.length_drop, List.length_take]; rfl)) ?_; (with_reducible refine (spec_l6Open.calls _ _ l0 t685 t686 w _ ?side1 ?side2 ?side3 A2.out).mono ?_); (case side1 => repeat (first | (with_reducible first | exact HB.out | apply below_alloc | apply pw_below_drewN | apply below_drew1 | refine below_set ?_ GE683.out | refine below_set ?_ GE684.out) | exact HB.out)); (case side2 => exact HR0.out); (case side3 => exact HC0.out); rintro e w8 ⟨g687, rfl, hi, hb, hb2⟩; refine ⟨_, rfl, ?_⟩; have n0_ := Bk.mk (blk_below (g := gb683) bk hb2); have n1_ := Bk.mk (blk_below (g := gb684) bk hb2); have n2_ := Bl.mk (hb); have n3_ := Aside0.mk (hi); have n4_ := Nb.mk (IsS70.ne_blk hi (blk_below (g := gb683) bk hb2) (by decide)); have n5_ := Nb.mk (Ne.symm (IsS70.ne_blk hi (blk_below (g := gb683) bk hb2) (by decide))); have n6_ := Nb.mk (IsS70.ne_blk hi (blk_below (g := gb684) bk hb2) (by decide)); have n7_ := Nb.mk (Ne.symm (IsS70.ne_blk hi (blk_below (g := gb684) bk hb2) (by decide))); clear BK683; clear BK684; clear HB; have BK683 := n0_; have BK684 := n1_; have HB := n2_; have HI687 := n3_; have NB687_683 := n4_; have NB683_687 := n5_; have NB687_684 := n6_; have NB684_687 := n7_; clear n0_ n1_ n2_ n3_ n4_ n5_ n6_ n7_; (try clear hb); (try clear hb2); (try clear hk); (try clear hi)) | ((with_reducible refine gate_callee (f := 38) rfl ?_); refine goesL_ (some 9) rfl rfl Try.func38 (by kernel_rfl) rfl #[.pointer (some ⟨g687, 0, none⟩)] rfl (by (try simp only [List.map_toArray, List.map_cons, List.map_nil]); first | done | rfl | (simp only [List.length_drop, List.length_take]; rfl)) ?_; (with_reducible refine (spec_l71Op.calls k g687 t685 t686 t688 t689 w _ ?side1 ?side2 A3.out).mono ?_); (case side1 => repeat (first | (with_reducible first | exact HI687.out | apply IsS70.alloc | apply IsS70.drewN | apply IsS70.drew | apply IsS70.set_1 | refine IsS70.far ?_ NB687_683.out _ | refine IsS70.far ?_ NB687_684.out _) | exact HI687.out)); (case side2 => repeat (first | (with_reducible first | exact HB.out | apply below_alloc | apply pw_below_drewN | apply below_drew1 | refine below_set ?_ (IsS70.ge HI687.out) | refine below_set ?_ GE683.out | refine below_set ?_ GE684.out) | exact HB.out)); rintro e w9 ⟨rfl, hi, hb, hk⟩; refine ⟨_, rfl, ?_⟩; have n0_ := Bk.mk (KeepBut.blk hk (g' := gb683) (o := .cells #[.bool false, .int .i64 0, .int .i64 0] 30 (0, 0)) bk NB683_687.out (by simp)); have n1_ := Bk.mk (KeepBut.blk hk (g' := gb684) (o := .cells #[.bool false, .int .i64 0, .int .i64 0] 30 (0, 0)) bk NB684_687.out (by simp)); have n2_ := Bl.mk (hb); have n3_ := Aside0.mk (hi); clear BK683; clear BK684; clear HB; clear HI687; have BK683 := n0_; have BK684 := n1_; have HB := n2_; have HI687 := n3_; clear n0_ n1_ n2_ n3_; (try clear hb); (try clear hb2); (try clear hk); (try clear hi)) | ((with_reducible refine gate_callee (f := 53) rfl ?_); refine goesL_ (some 11) rfl rfl Try.func53 (by kernel_rfl) rfl #[.pointer (some ⟨g687, 0, none⟩)] rfl (by (try simp only [List.map_toArray, List.map_cons, List.map_nil]); first | done | rfl | (simp only [List.length_drop, List.length_take]; rfl)) ?_; (with_reducible refine (spec_l71Span.calls k g687 t685 t689 t690 t691 t692 t693 w _ ?side1 ?side2 A4.out).mono ?_); (case side1 => repeat (first | (with_reducible first | exact HI687.out | apply IsS70.alloc | apply IsS70.drewN | apply IsS70.drew | apply IsS70.set_1 | refine IsS70.far ?_ NB687_683.out _ | refine IsS70.far ?_ NB687_684.out _) | exact HI687.out)); (case side2 => repeat (first | (with_reducible first | exact HB.out | apply below_alloc | apply pw_below_drewN | apply below_drew1 | refine below_set ?_ (IsS70.ge HI687.out) | refine below_set ?_ GE683.out | refine below_set ?_ GE684.out) | exact HB.out)); rintro e w10 ⟨rfl, hi, hb, hk⟩; refine ⟨_, rfl, ?_⟩; have n0_ := Bk.mk (KeepBut.blk hk (g' := gb683) (o := .cells #[.bool false, .int .i64 0, .int .i64 0] 30 (0, 0)) bk NB683_687.out (by simp)); have n1_ := Bk.mk (KeepBut.blk hk (g' := gb684) (o := .cells #[.bool false, .int .i64 0, .int .i64 0] 30 (0, 0)) bk NB684_687.out (by simp)); have n2_ := Bl.mk (hb); have n3_ := Aside0.mk (hi); clear BK683; clear BK684; clear HB; clear HI687; have BK683 := n0_; have BK684 := n1_; have HB := n2_; have HI687 := n3_; clear n0_ n1_ n2_ n3_; (try clear hb); (try clear hb2); (try clear hk); (try clear hi)) | ((with_reducible refine gate_callee (f := 53) rfl ?_); refine goesL_ (some 13) rfl rfl Try.func53 (by kernel_rfl) rfl #[.pointer (some ⟨g687, 0, none⟩)] rfl (by (try simp only [List.map_toArray, List.map_cons, List.map_nil]); first | done | rfl | (simp only [List.length_drop, List.length_take]; rfl)) ?_; (with_reducible refine (spec_l71Span.calls k g687 t685 t693 t694 t695 t696 t697 w _ ?side1 ?side2 A5.out).mono ?_); (case side1 => repeat (first | (with_reducible first | exact HI687.out | apply IsS70.alloc | apply IsS70.drewN | apply IsS70.drew | apply IsS70.set_1 | refine IsS70.far ?_ NB687_683.out _ | refine IsS70.far ?_ NB687_684.out _) | exact HI687.out)); (case side2 => repeat (first | (with_reducible first | exact HB.out | apply below_alloc | apply pw_below_drewN | apply below_drew1 | refine below_set ?_ (IsS70.ge HI687.out) | refine below_set ?_ GE683.out | refine below_set ?_ GE684.out) | exact HB.out)); rintro e w11 ⟨rfl, hi, hb, hk⟩; refine ⟨_, rfl, ?_⟩; have n0_ := Bk.mk (KeepBut.blk hk (g' := gb683) (o := .cells #[.bool false, .int .i64 0, .int .i64 0] 30 (0, 0)) bk NB683_687.out (by simp)); have n1_ := Bk.mk (KeepBut.blk hk (g' := gb684) (o := .cells #[.bool false, .int .i64 0, .int .i64 0] 30 (0, 0)) bk NB684_687.out (by simp)); have n2_ := Bl.mk (hb); have n3_ := Aside0.mk (hi); clear BK683; clear BK684; clear HB; clear HI687; have BK683 := n0_; have BK684 := n1_; have HB := n2_; have HI687 := n3_; clear n0_ n1_ n2_ n3_; (try clear hb); (try clear hb2); (try clear hk); (try clear hi); have hnb12 := NB683_684.out; have hnc12 := NB684_683.out; have hnb13 := NB683_687.out; have hnc13 := NB687_683.out; have hcz14_0 := bc0 BK683.out; have hcz14_1 := bc1 BK683.out; have hcz14_2 := bc2 BK683.out; have hfz14_0 := blk_frozen BK683.out 0; have hfz14_1 := blk_frozen BK683.out 1; have hfz14_2 := blk_frozen BK683.out 2; have hnb15 := NB684_687.out; have hnc15 := NB687_684.out; have hcz16_0 := bc0 BK684.out; have hcz16_1 := bc1 BK684.out; have hcz16_2 := bc2 BK684.out; have hfz16_0 := blk_frozen BK684.out 0; have hfz16_1 := blk_frozen BK684.out 1; have hfz16_2 := blk_frozen BK684.out 2))
  refine bodyPost_ret (results_list (rs := [.tmp 2, .cell 3 30, .cell 4 30]) rfl (by simp) (.tmp (.cell gb683 30 #[.bool t690, .int .i64 t691, .int .i64 t692] (0, 0) _ rfl bk Try.underlying30 rfl (by kernel_rfl) (.cell gb684 30 #[.bool t694, .int .i64 t695, .int .i64 t696] (0, 0) _ rfl bk Try.underlying30 rfl (by kernel_rfl) .nil)))) rfl ?_
  exact ⟨by first | rfl | (simp [errW_none, errW_some] <;> rfl) | (simp [*, errW_none, errW_some] <;> rfl), by repeat (first | (with_reducible first | exact HB.out | apply below_alloc | apply pw_below_drewN | apply below_drew1 | refine below_set ?_ (IsS70.ge HI687.out) | refine below_set ?_ GE683.out | refine below_set ?_ GE684.out) | exact HB.out)⟩

end Go.Proofs.Ytekmapilhomdgaa.P
