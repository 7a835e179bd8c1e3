/- The contracts of Go functions of this seat: each call comes to what the Lean function of the same name says. -/
import Derived.Test.YtekmapilhomdgaaPx0
import Derived.Test.YtekmapilhomdgaaPx1
import Derived.Test.YtekmapilhomdgaaPx13
import Derived.Test.YtekmapilhomdgaaPx31
import Derived.Test.YtekmapilhomdgaaPx34
import Derived.Test.YtekmapilhomdgaaPx38
import Derived.Test.YtekmapilhomdgaaPx39
import Derived.Test.YtekmapilhomdgaaPx40
import Derived.Test.YtekmapilhomdgaaPx44
namespace Go.Proofs.Ytekmapilhomdgaa.P
open Go.RowKit Go.Proofs.YtekmapilhomdgaaW.PrintWords Go.Proofs.YtekmapilhomdgaaW.PrintLast Go.Proofs.YtekmapilhomdgaaW.PrintMore
attribute [local go_sem] max2_int min2_int max_two min_two max_three min_three max_four min_four   -- for this text's walks alone
set_option linter.unusedVariables false
set_option linter.unusedSimpArgs false

attribute [local go_sem high] eqA30
/-! ### laws_FnDoMore: function 10 -/
mutual
def laws_FnDoMore.j0 : Nat → List Int → List Int → Bool → Option (Bool)
  | 0, _, _, _ => none
  | k + 1, x0, x1, x18 => if x18 = true then (some true) else ((spec_DrawSpanDo.f k x0).bind fun bt698 => ((spec_DrawSpanJoin.f k x1).bind fun bt707 => ((impl_SpanDo.f k bt698.1 bt698.2.1 bt698.2.2.1 bt698.2.2.2.1 bt698.2.2.2.2.1 bt698.2.2.2.2.2.1 bt698.2.2.2.2.2.2).bind fun bt715 => ((spec_SpanDo.f k bt698.1 bt698.2.1 bt698.2.2.1 bt698.2.2.2.1 bt698.2.2.2.2.1 bt698.2.2.2.2.2.1 bt698.2.2.2.2.2.2).bind fun bt719 => (if (!(bt715.1 == bt719.1) || (!(bt715.2.1 == bt719.2.1) || (!(bt715.2.2 == bt719.2.2)))) = true then (laws_FnDoMore.j1 k bt698.1 true bt698.2.1 bt698.2.2.1 bt698.2.2.2.1 bt698.2.2.2.2.1 bt698.2.2.2.2.2.1 bt698.2.2.2.2.2.2 bt707.1 bt707.2.1 bt707.2.2.1 bt707.2.2.2.1 bt707.2.2.2.2.1 bt707.2.2.2.2.2 bt715.1 bt715.2.1 bt715.2.2) else ((spec_SpanOk.f bt698.2.1 bt698.2.2.1 bt698.2.2.2.1).bind fun t722 => (if t722 = true then ((spec_SpanOk.f bt698.2.2.2.2.1 bt698.2.2.2.2.2.1 bt698.2.2.2.2.2.2).bind fun t723 => (if t723 = true then ((spec_SpanOk.f bt707.1 bt707.2.1 bt707.2.2.1).bind fun t724 => (if t724 = true then ((spec_SpanOk.f bt707.2.2.2.1 bt707.2.2.2.2.1 bt707.2.2.2.2.2).bind fun t725 => (laws_FnDoMore.j1 k bt698.1 (!t725) bt698.2.1 bt698.2.2.1 bt698.2.2.2.1 bt698.2.2.2.2.1 bt698.2.2.2.2.2.1 bt698.2.2.2.2.2.2 bt707.1 bt707.2.1 bt707.2.2.1 bt707.2.2.2.1 bt707.2.2.2.2.1 bt707.2.2.2.2.2 bt715.1 bt715.2.1 bt715.2.2)) else (laws_FnDoMore.j1 k bt698.1 true bt698.2.1 bt698.2.2.1 bt698.2.2.2.1 bt698.2.2.2.2.1 bt698.2.2.2.2.2.1 bt698.2.2.2.2.2.2 bt707.1 bt707.2.1 bt707.2.2.1 bt707.2.2.2.1 bt707.2.2.2.2.1 bt707.2.2.2.2.2 bt715.1 bt715.2.1 bt715.2.2))) else (laws_FnDoMore.j1 k bt698.1 true bt698.2.1 bt698.2.2.1 bt698.2.2.2.1 bt698.2.2.2.2.1 bt698.2.2.2.2.2.1 bt698.2.2.2.2.2.2 bt707.1 bt707.2.1 bt707.2.2.1 bt707.2.2.2.1 bt707.2.2.2.2.1 bt707.2.2.2.2.2 bt715.1 bt715.2.1 bt715.2.2))) else (laws_FnDoMore.j1 k bt698.1 true bt698.2.1 bt698.2.2.1 bt698.2.2.2.1 bt698.2.2.2.2.1 bt698.2.2.2.2.2.1 bt698.2.2.2.2.2.2 bt707.1 bt707.2.1 bt707.2.2.1 bt707.2.2.2.1 bt707.2.2.2.2.1 bt707.2.2.2.2.2 bt715.1 bt715.2.1 bt715.2.2))))))))
def laws_FnDoMore.j1 : Nat → Int → Bool → Bool → Int → Int → Bool → Int → Int → Bool → Int → Int → Bool → Int → Int → Bool → Int → Int → Option (Bool)
  | 0, _, _, _, _, _, _, _, _, _, _, _, _, _, _, _, _, _ => none
  | k + 1, x5, x59, x706000, x706001, x706002, x707000, x707001, x707002, x714000, x714001, x714002, x715000, x715001, x715002, x719000, x719001, x719002 => if x59 = true then ((spec_SpanDo.f k x5 x706000 x706001 x706002 x707000 x707001 x707002).bind fun bt726 => (some (x719000 == bt726.1 && (x719001 == bt726.2.1 && (x719002 == bt726.2.2))))) else ((impl_SpanJoin.f k x706000 x706001 x706002 x714000 x714001 x714002).bind fun bt729 => ((impl_SpanJoin.f k x707000 x707001 x707002 x715000 x715001 x715002).bind fun bt732 => ((impl_SpanDo.f k x5 bt729.1 bt729.2.1 bt729.2.2 bt732.1 bt732.2.1 bt732.2.2).bind fun bt735 => ((impl_SpanIn.f x719000 x719001 x719002 bt735.1 bt735.2.1 bt735.2.2).bind fun t738 => (some t738)))))
end
def laws_FnDoMore.f (k : Nat) (l0 : List Int) (l1 : List Int) : Option (Bool) := if (l0.length : Int) > 1048576 then (laws_FnDoMore.j0 k l0 l1 true) else (laws_FnDoMore.j0 k l0 l1 (decide ((l1.length : Int) > 1048576)))
theorem laws_FnDoMore.mono_l : ∀ k, (∀ y0 y1 y2, LeO (laws_FnDoMore.j0 k y0 y1 y2) (laws_FnDoMore.j0 (k + 1) y0 y1 y2)) ∧ (∀ y0 y1 y2 y3 y4 y5 y6 y7 y8 y9 y10 y11 y12 y13 y14 y15 y16, LeO (laws_FnDoMore.j1 k y0 y1 y2 y3 y4 y5 y6 y7 y8 y9 y10 y11 y12 y13 y14 y15 y16) (laws_FnDoMore.j1 (k + 1) y0 y1 y2 y3 y4 y5 y6 y7 y8 y9 y10 y11 y12 y13 y14 y15 y16))
  | 0 => ⟨fun _ _ _ r h => by simp [laws_FnDoMore.j0] at h, fun _ _ _ _ _ _ _ _ _ _ _ _ _ _ _ _ _ r h => by simp [laws_FnDoMore.j1] at h⟩
  | k + 1 => by
    obtain ⟨ih0, ih1⟩ := laws_FnDoMore.mono_l k
    refine ⟨?_, ?_⟩
    · intro y0 y1 y2
      unfold laws_FnDoMore.j0
      repeat' first
      | (with_reducible exact ih0 _ _ _)
      | (with_reducible exact ih1 _ _ _ _ _ _ _ _ _ _ _ _ _ _ _ _ _)
      | (with_reducible exact impl_SpanDo.mono _ _ _ _ _ _ _ _)
      | (with_reducible exact impl_SpanJoin.mono _ _ _ _ _ _ _)
      | (with_reducible exact spec_DrawSpanDo.mono _ _)
      | (with_reducible exact spec_DrawSpanJoin.mono _ _)
      | (with_reducible exact spec_SpanDo.mono _ _ _ _ _ _ _ _)
      | (with_reducible exact LeO.refl _)
      | (with_reducible exact LeO.none _)
      | (with_reducible refine LeO.ite ?_ ?_)
      | (with_reducible refine LeO.bind ?_ (fun _ => ?_))
      | exact ih0 _ _ _
      | exact ih1 _ _ _ _ _ _ _ _ _ _ _ _ _ _ _ _ _
      | exact impl_SpanDo.mono _ _ _ _ _ _ _ _
      | exact impl_SpanJoin.mono _ _ _ _ _ _ _
      | exact spec_DrawSpanDo.mono _ _
      | exact spec_DrawSpanJoin.mono _ _
      | exact spec_SpanDo.mono _ _ _ _ _ _ _ _
      | exact LeO.none _
      | refine LeO.ite ?_ ?_
      | refine LeO.bind ?_ (fun _ => ?_)
    · intro y0 y1 y2 y3 y4 y5 y6 y7 y8 y9 y10 y11 y12 y13 y14 y15 y16
      unfold laws_FnDoMore.j1
      repeat' first
      | (with_reducible exact ih0 _ _ _)
      | (with_reducible exact ih1 _ _ _ _ _ _ _ _ _ _ _ _ _ _ _ _ _)
      | (with_reducible exact impl_SpanDo.mono _ _ _ _ _ _ _ _)
      | (with_reducible exact impl_SpanJoin.mono _ _ _ _ _ _ _)
      | (with_reducible exact spec_DrawSpanDo.mono _ _)
      | (with_reducible exact spec_DrawSpanJoin.mono _ _)
      | (with_reducible exact spec_SpanDo.mono _ _ _ _ _ _ _ _)
      | (with_reducible exact LeO.refl _)
      | (with_reducible exact LeO.none _)
      | (with_reducible refine LeO.ite ?_ ?_)
      | (with_reducible refine LeO.bind ?_ (fun _ => ?_))
      | exact ih0 _ _ _
      | exact ih1 _ _ _ _ _ _ _ _ _ _ _ _ _ _ _ _ _
      | exact impl_SpanDo.mono _ _ _ _ _ _ _ _
      | exact impl_SpanJoin.mono _ _ _ _ _ _ _
      | exact spec_DrawSpanDo.mono _ _
      | exact spec_DrawSpanJoin.mono _ _
      | exact spec_SpanDo.mono _ _ _ _ _ _ _ _
      | exact LeO.none _
      | refine LeO.ite ?_ ?_
      | refine LeO.bind ?_ (fun _ => ?_)
theorem laws_FnDoMore.mono : ∀ a0 a1 k, LeO (laws_FnDoMore.f k a0 a1) (laws_FnDoMore.f (k + 1) a0 a1) := by
  intro a0 a1 k
  obtain ⟨ih0, ih1⟩ := laws_FnDoMore.mono_l k
  unfold laws_FnDoMore.f
  repeat' first
      | (with_reducible exact ih0 _ _ _)
      | (with_reducible exact ih1 _ _ _ _ _ _ _ _ _ _ _ _ _ _ _ _ _)
      | (with_reducible exact impl_SpanDo.mono _ _ _ _ _ _ _ _)
      | (with_reducible exact impl_SpanJoin.mono _ _ _ _ _ _ _)
      | (with_reducible exact spec_DrawSpanDo.mono _ _)
      | (with_reducible exact spec_DrawSpanJoin.mono _ _)
      | (with_reducible exact spec_SpanDo.mono _ _ _ _ _ _ _ _)
      | (with_reducible exact LeO.refl _)
      | (with_reducible exact LeO.none _)
      | (with_reducible refine LeO.ite ?_ ?_)
      | (with_reducible refine LeO.bind ?_ (fun _ => ?_))
      | exact ih0 _ _ _
      | exact ih1 _ _ _ _ _ _ _ _ _ _ _ _ _ _ _ _ _
      | exact impl_SpanDo.mono _ _ _ _ _ _ _ _
      | exact impl_SpanJoin.mono _ _ _ _ _ _ _
      | exact spec_DrawSpanDo.mono _ _
      | exact spec_DrawSpanJoin.mono _ _
      | exact spec_SpanDo.mono _ _ _ _ _ _ _ _
      | exact LeO.none _
      | refine LeO.ite ?_ ?_
      | refine LeO.bind ?_ (fun _ => ?_)
def laws_FnDoMore.T6 : Bool × List (List Nat × List Nat) := (true, [([], []), ([], []), ([], []), ([], []), ([1, 2, 3], [1, 2, 3]), ([0, 4], [0, 4]), ([5, 4], [5]), ([6], [6]), ([7, 6, 6], [6, 7]), ([8, 6], [6, 8]), ([6, 9], [6, 9]), ([10, 8], [10]), ([11], [11]), ([12, 11, 11], [11, 12]), ([13, 11], [11, 13]), ([11, 14], [11, 14]), ([15, 13], [15]), ([16], [16]), ([17, 16, 16], [16, 17]), ([18, 16], [16, 18]), ([16, 19], [16, 19]), ([20, 18], [20]), ([21], [21]), ([22, 21, 21], [21, 22]), ([23, 21], [21, 23]), ([21, 24], [21, 24])])
def laws_FnDoMore.B6 : List Nat := [0, 0, 0, 0, 14, 31, 63, 127, 255, 511, 1023, 2047, 4095, 8191, 16383, 32767, 65535, 131071, 262143, 524287, 1048575, 2097151, 4194303, 8388607, 16777215, 33554431]
theorem laws_FnDoMore.tab6 : rtab .any (opsOf Try.f10 6) = laws_FnDoMore.T6 := by kernel_rfl
theorem laws_FnDoMore.bits6 : waitsOk laws_FnDoMore.T6.2 laws_FnDoMore.B6 = true := by kernel_rfl
def laws_FnDoMore.T8 : Bool × List (List Nat × List Nat) := (true, [([], []), ([], []), ([], []), ([], []), ([2, 3], [2, 3]), ([], []), ([], []), ([5, 6, 4], [5, 6]), ([1, 4, 7, 7], [1, 4, 7]), ([0, 8, 8], [0, 8]), ([9, 9, 0, 1, 2, 3, 4, 5, 6, 7, 8, 9], [9])])
def laws_FnDoMore.B8 : List Nat := [0, 0, 0, 0, 12, 0, 0, 124, 254, 511, 1023]
theorem laws_FnDoMore.tab8 : rtab .any (opsOf Try.f10 8) = laws_FnDoMore.T8 := by kernel_rfl
theorem laws_FnDoMore.bits8 : waitsOk laws_FnDoMore.T8.2 laws_FnDoMore.B8 = true := by kernel_rfl
set_option maxHeartbeats 8000000 in
set_option maxRecDepth 100000 in
theorem laws_FnDoMore.calls (k : Nat) (A0 : Option Addr) (c0 : Nat) (l0 : List Int) (A1 : Option Addr) (c1 : Nat) (l1 : List Int) (r : Bool) (w : World) (hr0 : Kd.C (Kd.int .u8) w A0 l0.length l0) (hc0 : l0.length ≤ c0) (hr1 : Kd.C (Kd.int .u8) w A1 l1.length l1) (hc1 : l1.length ≤ c1) (h : laws_FnDoMore.f k l0 l1 = some r) :
    Calls Try.prog 10 #[.slice A0 l0.length c0, .slice A1 l1.length c1] w fun e w' => e = .returned (.bool r) ∧ Below w.heap.size w w' := by
  have hu30 := Try.underlying30
  have HR0 := Aside0.mk hr0
  have HC0 := Aside0.mk hc0
  clear hr0 hc0
  have HR1 := Aside0.mk hr1
  have HC1 := Aside0.mk hc1
  clear hr1 hc1
  have HB := Bl.mk (Below.refl w.heap.size w)
  unfold laws_FnDoMore.f at h
  have H := h
  clear h
  have HC3 := Aside0.mk H
  clear H
  go_enter Try.func10, Try.ntmps10
  go_upto_region 1 with (fail)
  go_cut [18] (fun v18 wc => ∃ (kq : Nat) (x18_2 : Bool), v18 = .bool x18_2 ∧ Aside0 (laws_FnDoMore.j0 kq l0 l1 x18_2 = some r) ∧ Aside0 (kq ≤ k) ∧ Bl w.heap.size w wc)
  case first =>
    have H := HC3.out
    clear HC3
    by_cases c4 : (l0.length : Int) > 1048576
    · rw [if_pos c4] at H
      have c4b0 : decide (1048576 < (l0.length : Int)) = true := decide_eq_true c4
      have c4b1 : decide (1048576 < l0.length) = true := decide_eq_true (by omega)
      clear c4
      (first | rw [c4b0] | (simp only [i64_w, i32_w]; rw [c4b0]) | skip)
      have H' := Aside0.mk H
      clear H
      go_wp2
      go_meet
      case rel => exact ⟨_, (true), (by first | rfl | (simp; done) | (simp [*]; done)), H', ⟨by first | omega | exact Nat.le_refl _⟩, ⟨bl⟩⟩
    · rw [if_neg c4] at H
      have c4b0 : decide (1048576 < (l0.length : Int)) = false := decide_eq_false c4
      have c4b1 : decide (1048576 < l0.length) = false := decide_eq_false (by omega)
      clear c4
      (first | rw [c4b0] | (simp only [i64_w, i32_w]; rw [c4b0]) | skip)
      have H' := Aside0.mk H
      clear H
      go_wp2
      go_meet
      case rel => exact ⟨_, (decide ((l1.length : Int) > 1048576)), (by first | rfl | (simp; done) | (simp [*]; done)), H', ⟨by first | omega | exact Nat.le_refl _⟩, ⟨bl⟩⟩
  case rest =>
    clear HC3
    try clear c1
    try clear p2
    try clear c4
    try clear c4b0
    try clear c4b1
    obtain ⟨kq, x18_2, rfl, HA, HJ2, HB⟩ := hcut
    cases kq with
    | zero => exact absurd HA.out (by simp [laws_FnDoMore.j0])
    | succ kj2 =>
      have H := HA.out
      clear HA
      simp only [laws_FnDoMore.j0] at H
      by_cases c5 : x18_2 = true
      · subst c5
        rw [if_pos rfl] at H
        obtain rfl := Option.some.inj H
        go_wp2
        go_ret
        exact ⟨by first | rfl | (simp [errW_none, errW_some] <;> rfl) | (simp [*, errW_none, errW_some] <;> rfl), bl⟩
      · replace c5 := Bool.eq_false_iff.mpr c5
        subst c5
        rw [if_neg (show ¬ (false = true) by decide)] at H
        replace H := Option.bind_eq_some_iff.mp H
        obtain ⟨⟨t698, t699, t700, t701, t702, t703, t704⟩, A60, H⟩ := H
        try dsimp only at H
        have A6 := Aside0.mk A60
        clear A60
        replace H := Option.bind_eq_some_iff.mp H
        obtain ⟨⟨t707, t708, t709, t710, t711, t712⟩, A70, H⟩ := H
        try dsimp only at H
        have A7 := Aside0.mk A70
        clear A70
        replace H := Option.bind_eq_some_iff.mp H
        obtain ⟨⟨t715, t716, t717⟩, A80, H⟩ := H
        try dsimp only at H
        have A8 := Aside0.mk A80
        clear A80
        have HC9 := Aside0.mk H
        clear H
        go_upto_region 6 with (first | ((with_reducible refine gate_callee (f := 29) rfl ?_); refine goesL_ (some 21) rfl rfl Try.func29 (by kernel_rfl) rfl #[.slice A0 l0.length c0] rfl (by (try simp only [List.map_toArray, List.map_cons, List.map_nil]); first | done | rfl | (simp only [List.length_drop, List.length_take]; rfl)) ?_; (with_reducible refine (spec_DrawSpanDo.calls kj2 _ _ l0 t698 t699 t700 t701 t702 t703 t704 _ ?side1 ?side2 A6.out).mono ?_); (case side1 => repeat (first | exact (Kd.C_below HR0.out HB.out) | (with_reducible refine Kd.C_alloc ?_ _) | (with_reducible refine Kd.C_drewN ?_ _) | (with_reducible refine Kd.C_drew ?_))); (case side2 => exact HC0.out); rintro e w10 ⟨rfl, hb⟩; refine ⟨_, rfl, ?_⟩; have n0_ := Bl.mk (below_step bl hb); clear HB; have HB := n0_; clear n0_; (try clear hb); (try clear hb2); (try clear hk); (try clear hi)) | ((with_reducible refine gate_dst (N := 6) rfl ?_); (try (refine gate_guard (by rfl) ?_; dsimp only)); refine box_event ?hg (N := 6) ?hd (cs := #[.bool false, .int .i64 0, .int .i64 0]) (t := 30) ?hr ?_; (case hd => rfl); (case hg => rfl); (case hr => first | (go_simp; done) | (go_simp; rfl)); intro gb705 hg w11 hbox hb; have n0_ := Bl.mk (below_step bl hb); have n1_ := Bk.mk (hbox); have n2_ := Aside0.mk ((by rw [hg]; exact (below_size bl) : w.heap.size ≤ gb705)); have n3_ := Gl.mk ((by rw [hg]; exact (below_size bl) : w.heap.size ≤ gb705)); clear HB; have HB := n0_; have BK705 := n1_; have GW705 := n2_; have GE705 := n3_; clear n0_ n1_ n2_ n3_; clear hb hbox hg) | ((with_reducible refine gate_dst (N := 7) rfl ?_); (try (refine gate_guard (by rfl) ?_; dsimp only)); refine box_event ?hg (N := 7) ?hd (cs := #[.bool false, .int .i64 0, .int .i64 0]) (t := 30) ?hr ?_; (case hd => rfl); (case hg => rfl); (case hr => first | (go_simp; done) | (go_simp; rfl)); intro gb706 hg w12 hbox hb; have n0_ := Bk.mk (blk_below (g := gb705) bk hb); have n1_ := Bl.mk (below_step bl hb); have n2_ := Bk.mk (hbox); have n3_ := Aside0.mk ((by rw [hg]; exact (below_size bl) : w.heap.size ≤ gb706)); have n4_ := Gl.mk ((by rw [hg]; exact (below_size bl) : w.heap.size ≤ gb706)); have n5_ := Nb.mk ((by rw [hg]; exact Nat.ne_of_lt (blk_lt (g := gb705) bk) : gb705 ≠ gb706)); have n6_ := Nb.mk ((by rw [hg]; exact Nat.ne_of_gt (blk_lt (g := gb705) bk) : gb706 ≠ gb705)); clear BK705; clear HB; have BK705 := n0_; have HB := n1_; have BK706 := n2_; have GW706 := n3_; have GE706 := n4_; have NB705_706 := n5_; have NB706_705 := n6_; clear n0_ n1_ n2_ n3_ n4_ n5_ n6_; clear hb hbox hg; have hnb13 := NB705_706.out; have hnc13 := NB706_705.out; have hcz14_0 := bc0 BK705.out; have hcz14_1 := bc1 BK705.out; have hcz14_2 := bc2 BK705.out; have hfz14_0 := blk_frozen BK705.out 0; have hfz14_1 := blk_frozen BK705.out 1; have hfz14_2 := blk_frozen BK705.out 2; have hcz15_0 := bc0 BK706.out; have hcz15_1 := bc1 BK706.out; have hcz15_2 := bc2 BK706.out; have hfz15_0 := blk_frozen BK706.out 0; have hfz15_1 := blk_frozen BK706.out 1; have hfz15_2 := blk_frozen BK706.out 2) | ((with_reducible refine gate_callee (f := 24) rfl ?_); refine goesL_ (some 27) rfl rfl Try.func24 (by kernel_rfl) rfl #[.slice A1 l1.length c1] rfl (by (try simp only [List.map_toArray, List.map_cons, List.map_nil]); first | done | rfl | (simp only [List.length_drop, List.length_take]; rfl)) ?_; (with_reducible refine (spec_DrawSpanJoin.calls kj2 _ _ l1 t707 t708 t709 t710 t711 t712 _ ?side1 ?side2 A7.out).mono ?_); (case side1 => exact Kd.C_below HR1.out bl); (case side2 => exact HC1.out); rintro e w16 ⟨rfl, hb⟩; refine ⟨_, rfl, ?_⟩; have n0_ := Bk.mk (blk_below (g := gb705) (o := .cells #[.bool t699, .int .i64 t700, .int .i64 t701] 30 (0, 0)) bk hb); have n1_ := Bk.mk (blk_below (g := gb706) (o := .cells #[.bool t702, .int .i64 t703, .int .i64 t704] 30 (0, 0)) bk hb); have n2_ := Bl.mk (below_step bl hb); clear BK705; clear BK706; clear HB; have BK705 := n0_; have BK706 := n1_; have HB := n2_; clear n0_ n1_ n2_; (try clear hb); (try clear hb2); (try clear hk); (try clear hi)) | ((with_reducible refine gate_dst (N := 8) rfl ?_); (try (refine gate_guard (by rfl) ?_; dsimp only)); refine box_event ?hg (N := 8) ?hd (cs := #[.bool false, .int .i64 0, .int .i64 0]) (t := 30) ?hr ?_; (case hd => rfl); (case hg => rfl); (case hr => first | (go_simp; done) | (go_simp; rfl)); intro gb713 hg w17 hbox hb; have n0_ := Bk.mk (blk_below (g := gb705) bk hb); have n1_ := Bk.mk (blk_below (g := gb706) bk hb); have n2_ := Bl.mk (below_step bl hb); have n3_ := Bk.mk (hbox); have n4_ := Aside0.mk ((by rw [hg]; exact (below_size bl) : w.heap.size ≤ gb713)); have n5_ := Gl.mk ((by rw [hg]; exact (below_size bl) : w.heap.size ≤ gb713)); have n6_ := Nb.mk ((by rw [hg]; exact Nat.ne_of_lt (blk_lt (g := gb705) bk) : gb705 ≠ gb713)); have n7_ := Nb.mk ((by rw [hg]; exact Nat.ne_of_gt (blk_lt (g := gb705) bk) : gb713 ≠ gb705)); have n8_ := Nb.mk ((by rw [hg]; exact Nat.ne_of_lt (blk_lt (g := gb706) bk) : gb706 ≠ gb713)); have n9_ := Nb.mk ((by rw [hg]; exact Nat.ne_of_gt (blk_lt (g := gb706) bk) : gb713 ≠ gb706)); clear BK705; clear BK706; clear HB; have BK705 := n0_; have BK706 := n1_; have HB := n2_; have BK713 := n3_; have GW713 := n4_; have GE713 := n5_; have NB705_713 := n6_; have NB713_705 := n7_; have NB706_713 := n8_; have NB713_706 := n9_; clear n0_ n1_ n2_ n3_ n4_ n5_ n6_ n7_ n8_ n9_; clear hb hbox hg) | ((with_reducible refine gate_dst (N := 9) rfl ?_); (try (refine gate_guard (by rfl) ?_; dsimp only)); refine box_event ?hg (N := 9) ?hd (cs := #[.bool false, .int .i64 0, .int .i64 0]) (t := 30) ?hr ?_; (case hd => rfl); (case hg => rfl); (case hr => first | (go_simp; done) | (go_simp; rfl)); intro gb714 hg w18 hbox hb; have n0_ := Bk.mk (blk_below (g := gb705) bk hb); have n1_ := Bk.mk (blk_below (g := gb706) bk hb); have n2_ := Bk.mk (blk_below (g := gb713) bk hb); have n3_ := Bl.mk (below_step bl hb); have n4_ := Bk.mk (hbox); have n5_ := Aside0.mk ((by rw [hg]; exact (below_size bl) : w.heap.size ≤ gb714)); have n6_ := Gl.mk ((by rw [hg]; exact (below_size bl) : w.heap.size ≤ gb714)); have n7_ := Nb.mk ((by rw [hg]; exact Nat.ne_of_lt (blk_lt (g := gb705) bk) : gb705 ≠ gb714)); have n8_ := Nb.mk ((by rw [hg]; exact Nat.ne_of_gt (blk_lt (g := gb705) bk) : gb714 ≠ gb705)); have n9_ := Nb.mk ((by rw [hg]; exact Nat.ne_of_lt (blk_lt (g := gb706) bk) : gb706 ≠ gb714)); have n10_ := Nb.mk ((by rw [hg]; exact Nat.ne_of_gt (blk_lt (g := gb706) bk) : gb714 ≠ gb706)); have n11_ := Nb.mk ((by rw [hg]; exact Nat.ne_of_lt (blk_lt (g := gb713) bk) : gb713 ≠ gb714)); have n12_ := Nb.mk ((by rw [hg]; exact Nat.ne_of_gt (blk_lt (g := gb713) bk) : gb714 ≠ gb713)); clear BK705; clear BK706; clear BK713; clear HB; have BK705 := n0_; have BK706 := n1_; have BK713 := n2_; have HB := n3_; have BK714 := n4_; have GW714 := n5_; have GE714 := n6_; have NB705_714 := n7_; have NB714_705 := n8_; have NB706_714 := n9_; have NB714_706 := n10_; have NB713_714 := n11_; have NB714_713 := n12_; clear n0_ n1_ n2_ n3_ n4_ n5_ n6_ n7_ n8_ n9_ n10_ n11_ n12_; clear hb hbox hg; have hnb19 := NB713_705.out; have hnc19 := NB705_713.out; have hnb20 := NB713_706.out; have hnc20 := NB706_713.out; have hnb21 := NB713_714.out; have hnc21 := NB714_713.out; have hcz22_0 := bc0 BK713.out; have hcz22_1 := bc1 BK713.out; have hcz22_2 := bc2 BK713.out; have hfz22_0 := blk_frozen BK713.out 0; have hfz22_1 := blk_frozen BK713.out 1; have hfz22_2 := blk_frozen BK713.out 2; have hnb23 := NB714_705.out; have hnc23 := NB705_714.out; have hnb24 := NB714_706.out; have hnc24 := NB706_714.out; have hcz25_0 := bc0 BK714.out; have hcz25_1 := bc1 BK714.out; have hcz25_2 := bc2 BK714.out; have hfz25_0 := blk_frozen BK714.out 0; have hfz25_1 := blk_frozen BK714.out 1; have hfz25_2 := blk_frozen BK714.out 2; have hcz26_0 := bc0 BK705.out; have hcz26_1 := bc1 BK705.out; have hcz26_2 := bc2 BK705.out; have hfz26_0 := blk_frozen BK705.out 0; have hfz26_1 := blk_frozen BK705.out 1; have hfz26_2 := blk_frozen BK705.out 2; have hcz27_0 := bc0 BK706.out; have hcz27_1 := bc1 BK706.out; have hcz27_2 := bc2 BK706.out; have hfz27_0 := blk_frozen BK706.out 0; have hfz27_1 := blk_frozen BK706.out 1; have hfz27_2 := blk_frozen BK706.out 2) | ((with_reducible refine gate_callee (f := 22) rfl ?_); refine goesL_ (some 33) rfl rfl Try.func22 (by kernel_rfl) rfl #[.int .i64 t698, .agg #[.bool t699, .int .i64 t700, .int .i64 t701], .agg #[.bool t702, .int .i64 t703, .int .i64 t704]] rfl (by (try simp only [List.map_toArray, List.map_cons, List.map_nil]); first | done | rfl | (simp only [List.length_drop, List.length_take]; rfl)) ?_; (with_reducible refine (impl_SpanDo.calls kj2 t698 t699 t700 t701 t702 t703 t704 t715 t716 t717 _ A8.out).mono ?_); rintro e w28 ⟨rfl, hb⟩; refine ⟨_, rfl, ?_⟩; have n0_ := Bk.mk (blk_below (g := gb705) (o := .cells #[.bool t699, .int .i64 t700, .int .i64 t701] 30 (0, 0)) bk hb); have n1_ := Bk.mk (blk_below (g := gb706) (o := .cells #[.bool t702, .int .i64 t703, .int .i64 t704] 30 (0, 0)) bk hb); have n2_ := Bk.mk (blk_below (g := gb713) (o := .cells #[.bool t707, .int .i64 t708, .int .i64 t709] 30 (0, 0)) bk hb); have n3_ := Bk.mk (blk_below (g := gb714) (o := .cells #[.bool t710, .int .i64 t711, .int .i64 t712] 30 (0, 0)) bk hb); have n4_ := Bl.mk (below_step bl hb); clear BK705; clear BK706; clear BK713; clear BK714; clear HB; have BK705 := n0_; have BK706 := n1_; have BK713 := n2_; have BK714 := n3_; have HB := n4_; clear n0_ n1_ n2_ n3_ n4_; (try clear hb); (try clear hb2); (try clear hk); (try clear hi)) | ((with_reducible refine gate_dst (N := 10) rfl ?_); (try (refine gate_guard (by rfl) ?_; dsimp only)); refine box_event ?hg (N := 10) ?hd (cs := #[.bool false, .int .i64 0, .int .i64 0]) (t := 30) ?hr ?_; (case hd => rfl); (case hg => rfl); (case hr => first | (go_simp; done) | (go_simp; rfl)); intro gb718 hg w29 hbox hb; have n0_ := Bk.mk (blk_below (g := gb705) bk hb); have n1_ := Bk.mk (blk_below (g := gb706) bk hb); have n2_ := Bk.mk (blk_below (g := gb713) bk hb); have n3_ := Bk.mk (blk_below (g := gb714) bk hb); have n4_ := Bl.mk (below_step bl hb); have n5_ := Bk.mk (hbox); have n6_ := Aside0.mk ((by rw [hg]; exact (below_size bl) : w.heap.size ≤ gb718)); have n7_ := Gl.mk ((by rw [hg]; exact (below_size bl) : w.heap.size ≤ gb718)); have n8_ := Nb.mk ((by rw [hg]; exact Nat.ne_of_lt (blk_lt (g := gb705) bk) : gb705 ≠ gb718)); have n9_ := Nb.mk ((by rw [hg]; exact Nat.ne_of_gt (blk_lt (g := gb705) bk) : gb718 ≠ gb705)); have n10_ := Nb.mk ((by rw [hg]; exact Nat.ne_of_lt (blk_lt (g := gb706) bk) : gb706 ≠ gb718)); have n11_ := Nb.mk ((by rw [hg]; exact Nat.ne_of_gt (blk_lt (g := gb706) bk) : gb718 ≠ gb706)); have n12_ := Nb.mk ((by rw [hg]; exact Nat.ne_of_lt (blk_lt (g := gb713) bk) : gb713 ≠ gb718)); have n13_ := Nb.mk ((by rw [hg]; exact Nat.ne_of_gt (blk_lt (g := gb713) bk) : gb718 ≠ gb713)); have n14_ := Nb.mk ((by rw [hg]; exact Nat.ne_of_lt (blk_lt (g := gb714) bk) : gb714 ≠ gb718)); have n15_ := Nb.mk ((by rw [hg]; exact Nat.ne_of_gt (blk_lt (g := gb714) bk) : gb718 ≠ gb714)); clear BK705; clear BK706; clear BK713; clear BK714; clear HB; have BK705 := n0_; have BK706 := n1_; have BK713 := n2_; have BK714 := n3_; have HB := n4_; have BK718 := n5_; have GW718 := n6_; have GE718 := n7_; have NB705_718 := n8_; have NB718_705 := n9_; have NB706_718 := n10_; have NB718_706 := n11_; have NB713_718 := n12_; have NB718_713 := n13_; have NB714_718 := n14_; have NB718_714 := n15_; clear n0_ n1_ n2_ n3_ n4_ n5_ n6_ n7_ n8_ n9_ n10_ n11_ n12_ n13_ n14_ n15_; clear hb hbox hg; have hnb30 := NB718_705.out; have hnc30 := NB705_718.out; have hnb31 := NB718_706.out; have hnc31 := NB706_718.out; have hnb32 := NB718_713.out; have hnc32 := NB713_718.out; have hnb33 := NB718_714.out; have hnc33 := NB714_718.out; have hcz34_0 := bc0 BK718.out; have hcz34_1 := bc1 BK718.out; have hcz34_2 := bc2 BK718.out; have hfz34_0 := blk_frozen BK718.out 0; have hfz34_1 := blk_frozen BK718.out 1; have hfz34_2 := blk_frozen BK718.out 2))
        (try simp only [Act.put, List.setIfInBounds_toArray, List.set_cons_zero, List.set_cons_succ])
        go_cut [59] (fun v59 wc => ∃ (kq : Nat) (x59_8 : Bool), v59 = .bool x59_8 ∧ Aside0 (laws_FnDoMore.j1 kq t698 x59_8 t699 t700 t701 t702 t703 t704 t707 t708 t709 t710 t711 t712 t715 t716 t717 = some r) ∧ Aside0 (kq ≤ kj2) ∧ Bk wc gb705 (.cells #[.bool t699, .int .i64 t700, .int .i64 t701] 30 (0, 0)) ∧ Bk wc gb706 (.cells #[.bool t702, .int .i64 t703, .int .i64 t704] 30 (0, 0)) ∧ Bk wc gb713 (.cells #[.bool t707, .int .i64 t708, .int .i64 t709] 30 (0, 0)) ∧ Bk wc gb714 (.cells #[.bool t710, .int .i64 t711, .int .i64 t712] 30 (0, 0)) ∧ Bk wc gb718 (.cells #[.bool t715, .int .i64 t716, .int .i64 t717] 30 (0, 0)) ∧ Bl w.heap.size w wc)
        case first =>
          have H := HC9.out
          clear HC9
          replace H := Option.bind_eq_some_iff.mp H
          obtain ⟨⟨t719, t720, t721⟩, A350, H⟩ := H
          try dsimp only at H
          have A35 := Aside0.mk A350
          clear A350
          by_cases c36 : (!(t715 == t719) || (!(t716 == t720) || (!(t717 == t721)))) = true
          · rw [if_pos c36] at H
            have c36b0 : (!(t715 == t719) || (!(t716 == t720) || (!(t717 == t721)))) = true := c36
            clear c36
            (first | rw [c36b0] | (simp only [i64_w, i32_w]; rw [c36b0]) | skip)
            have H' := Aside0.mk H
            clear H
            try go_wp2
            have n0_ : Bk (((w29.setCell ⟨gb718, 0, none⟩ (.bool t715)).setCell ⟨gb718, 1, none⟩ (.int .i64 t716)).setCell ⟨gb718, 2, none⟩ (.int .i64 t717)) gb705 (.cells #[.bool t699, .int .i64 t700, .int .i64 t701] 30 (0, 0)) := ⟨bk⟩
            have n1_ : Bk (((w29.setCell ⟨gb718, 0, none⟩ (.bool t715)).setCell ⟨gb718, 1, none⟩ (.int .i64 t716)).setCell ⟨gb718, 2, none⟩ (.int .i64 t717)) gb706 (.cells #[.bool t702, .int .i64 t703, .int .i64 t704] 30 (0, 0)) := ⟨bk⟩
            have n2_ : Bk (((w29.setCell ⟨gb718, 0, none⟩ (.bool t715)).setCell ⟨gb718, 1, none⟩ (.int .i64 t716)).setCell ⟨gb718, 2, none⟩ (.int .i64 t717)) gb713 (.cells #[.bool t707, .int .i64 t708, .int .i64 t709] 30 (0, 0)) := ⟨bk⟩
            have n3_ : Bk (((w29.setCell ⟨gb718, 0, none⟩ (.bool t715)).setCell ⟨gb718, 1, none⟩ (.int .i64 t716)).setCell ⟨gb718, 2, none⟩ (.int .i64 t717)) gb714 (.cells #[.bool t710, .int .i64 t711, .int .i64 t712] 30 (0, 0)) := ⟨bk⟩
            have n4_ : Bk (((w29.setCell ⟨gb718, 0, none⟩ (.bool t715)).setCell ⟨gb718, 1, none⟩ (.int .i64 t716)).setCell ⟨gb718, 2, none⟩ (.int .i64 t717)) gb718 (.cells #[.bool t715, .int .i64 t716, .int .i64 t717] 30 (0, 0)) := ⟨bk⟩
            have n5_ : Bl w.heap.size w (((w29.setCell ⟨gb718, 0, none⟩ (.bool t715)).setCell ⟨gb718, 1, none⟩ (.int .i64 t716)).setCell ⟨gb718, 2, none⟩ (.int .i64 t717)) := ⟨bl⟩
            (try clear BK705)
            (try clear BK706)
            (try clear BK713)
            (try clear BK714)
            (try clear BK718)
            (try clear HB)
            generalize (((w29.setCell ⟨gb718, 0, none⟩ (.bool t715)).setCell ⟨gb718, 1, none⟩ (.int .i64 t716)).setCell ⟨gb718, 2, none⟩ (.int .i64 t717)) = w37 at n0_ n1_ n2_ n3_ n4_ n5_ ⊢
            have BK705 := n0_
            have BK706 := n1_
            have BK713 := n2_
            have BK714 := n3_
            have BK718 := n4_
            have HB := n5_
            clear n0_ n1_ n2_ n3_ n4_ n5_
            have n0_ := Bk.mk (blk_drew BK705.out)
            have n1_ := Bk.mk (blk_drew BK706.out)
            have n2_ := Bk.mk (blk_drew BK713.out)
            have n3_ := Bk.mk (blk_drew BK714.out)
            have n4_ := Bk.mk (blk_drew BK718.out)
            have n5_ := Bl.mk (below_drew1 HB.out)
            clear BK705
            clear BK706
            clear BK713
            clear BK714
            clear BK718
            clear HB
            have BK705 := n0_
            have BK706 := n1_
            have BK713 := n2_
            have BK714 := n3_
            have BK718 := n4_
            have HB := n5_
            clear n0_ n1_ n2_ n3_ n4_ n5_
            refine start_ (n := 26) (S := fun w' => w'.cell? ⟨gb718, 0, none⟩ = some (.bool t715) ∧ w'.cell? ⟨gb718, 1, none⟩ = some (.int .i64 t716) ∧ w'.cell? ⟨gb718, 2, none⟩ = some (.int .i64 t717) ∧ w'.cell? ⟨gb705, 0, none⟩ = some (.bool t699) ∧ w'.cell? ⟨gb705, 1, none⟩ = some (.int .i64 t700) ∧ w'.cell? ⟨gb705, 2, none⟩ = some (.int .i64 t701) ∧ w'.cell? ⟨gb706, 0, none⟩ = some (.bool t702) ∧ w'.cell? ⟨gb706, 1, none⟩ = some (.int .i64 t703) ∧ w'.cell? ⟨gb706, 2, none⟩ = some (.int .i64 t704)) (ds := []) #[false, false, false, false, false, false, false, false, false, false, false, false, false, false, false, false, false, false, false, false, false, false, false, false, false, false] (by kernel_rfl) rfl rfl ⟨(blk_cell BK718.out 0).trans rfl, (blk_cell BK718.out 1).trans rfl, (blk_cell BK718.out 2).trans rfl, (blk_cell BK705.out 0).trans rfl, (blk_cell BK705.out 1).trans rfl, (blk_cell BK705.out 2).trans rfl, (blk_cell BK706.out 0).trans rfl, (blk_cell BK706.out 1).trans rfl, (blk_cell BK706.out 2).trans rfl⟩ (fun hHeld => ?_); refine with_tabW laws_FnDoMore.tab6 laws_FnDoMore.bits6 (fun HT_ HW_ => ?_)
            generalize w37.drew = w38 at BK705 BK706 BK713 BK714 BK718 HB hHeld ⊢
            refine pure_ (i := 1) (N := some 35) (v := ?_) (a' := ?_) #[false, true, false, false, false, false, false, false, false, false, false, false, false, false, false, false, false, false, false, false, false, false, false, false, false, false] rfl rfl (any_of HT_.out (by kernel_rfl)) (fun _ _ _ h => h) (Or.inl ⟨by rfl, ?_⟩) ?_ ?_
            rotate_left
            · intro w'
              go_simp
              with_reducible rfl
            rotate_left
            · simp only [Act.put, List.setIfInBounds_toArray, List.set_cons_zero, List.set_cons_succ, i64_w, i32_w]
              rfl
            refine take_ (i := 0) (N := some 34) (v := ?_) (a' := ?_) #[true, true, false, false, false, false, false, false, false, false, false, false, false, false, false, false, false, false, false, false, false, false, false, false, false, false] rfl rfl (take_ofW HT_.out HW_.out (by kernel_rfl)) (fun _ _ _ h => h) (Or.inl ⟨by rfl, ?_⟩) hHeld ?_ ?_
            rotate_left
            · rintro w' ⟨s0, s1, s2, s3, s4, s5, s6, s7, s8⟩
              go_simp
              with_reducible rfl
            rotate_left
            · simp only [Act.put, List.setIfInBounds_toArray, List.set_cons_zero, List.set_cons_succ, i64_w, i32_w]
              rfl
            refine take_ (i := 2) (N := some 36) (v := ?_) (a' := ?_) #[true, true, true, false, false, false, false, false, false, false, false, false, false, false, false, false, false, false, false, false, false, false, false, false, false, false] rfl rfl (take_ofW HT_.out HW_.out (by kernel_rfl)) (fun _ _ _ h => h) (Or.inl ⟨by rfl, ?_⟩) hHeld ?_ ?_
            rotate_left
            · rintro w' ⟨s0, s1, s2, s3, s4, s5, s6, s7, s8⟩
              go_simp
              with_reducible rfl
            rotate_left
            · simp only [Act.put, List.setIfInBounds_toArray, List.set_cons_zero, List.set_cons_succ, i64_w, i32_w]
              rfl
            refine take_ (i := 3) (N := some 37) (v := ?_) (a' := ?_) #[true, true, true, true, false, false, false, false, false, false, false, false, false, false, false, false, false, false, false, false, false, false, false, false, false, false] rfl rfl (take_ofW HT_.out HW_.out (by kernel_rfl)) (fun _ _ _ h => h) (Or.inl ⟨by rfl, ?_⟩) hHeld ?_ ?_
            rotate_left
            · rintro w' ⟨s0, s1, s2, s3, s4, s5, s6, s7, s8⟩
              go_simp
              with_reducible rfl
            rotate_left
            · simp only [Act.put, List.setIfInBounds_toArray, List.set_cons_zero, List.set_cons_succ, i64_w, i32_w]
              rfl
            refine one_ (i := 4) (N := some 38) #[true, true, true, true, true, false, false, false, false, false, false, false, false, false, false, false, false, false, false, false, false, false, false, false, false, false] rfl rfl (one_of HT_.out (by kernel_rfl)) (by decide) (fun K hK => ?_)
            refine goes_ Try.func21 (by kernel_rfl) rfl #[.int .i64 t698, .agg #[.bool t699, .int .i64 t700, .int .i64 t701], .agg #[.bool t702, .int .i64 t703, .int .i64 t704]] (by rfl) rfl rfl (by (try simp only [List.map_toArray, List.map_cons, List.map_nil]); first | done | rfl | (simp only [List.length_drop, List.length_take]; rfl)) ?_
            with_reducible refine (spec_SpanDo.calls kj2 t698 t699 t700 t701 t702 t703 t704 t719 t720 t721 _ A35.out).mono ?_
            rintro e w39 ⟨rfl, hb⟩
            refine ⟨_, rfl, ?_⟩
            have n0_ := Bk.mk (blk_below (g := gb705) bk hb)
            have n1_ := Bk.mk (blk_below (g := gb706) bk hb)
            have n2_ := Bk.mk (blk_below (g := gb713) bk hb)
            have n3_ := Bk.mk (blk_below (g := gb714) bk hb)
            have n4_ := Bk.mk (blk_below (g := gb718) bk hb)
            have n5_ := Bl.mk (below_step bl hb)
            clear BK705
            clear BK706
            clear BK713
            clear BK714
            clear BK718
            clear HB
            have BK705 := n0_
            have BK706 := n1_
            have BK713 := n2_
            have BK714 := n3_
            have BK718 := n4_
            have HB := n5_
            clear n0_ n1_ n2_ n3_ n4_ n5_
            (try clear hb)
            (try clear hb2)
            (try clear hk)
            (try clear hi)
            refine hK.out _ _ ⟨(blk_cell BK718.out 0).trans rfl, (blk_cell BK718.out 1).trans rfl, (blk_cell BK718.out 2).trans rfl, (blk_cell BK705.out 0).trans rfl, (blk_cell BK705.out 1).trans rfl, (blk_cell BK705.out 2).trans rfl, (blk_cell BK706.out 0).trans rfl, (blk_cell BK706.out 1).trans rfl, (blk_cell BK706.out 2).trans rfl⟩ (fun hHeld => ?_)
            clear hK K
            refine norm_ (a' := ?_) ?_ ?_
            rotate_left
            · show Act.put _ (some 38) _ = _
              simp only [Act.put, List.setIfInBounds_toArray, List.set_cons_zero, List.set_cons_succ, i64_w, i32_w]
              rfl
            refine pure_ (i := 5) (N := some 39) (v := ?_) (a' := ?_) #[true, true, true, true, true, true, false, false, false, false, false, false, false, false, false, false, false, false, false, false, false, false, false, false, false, false] rfl rfl (any_of HT_.out (by kernel_rfl)) (fun _ _ _ h => h) (Or.inl ⟨by rfl, ?_⟩) ?_ ?_
            rotate_left
            · intro w'
              go_simp
              with_reducible rfl
            rotate_left
            · simp only [Act.put, List.setIfInBounds_toArray, List.set_cons_zero, List.set_cons_succ, i64_w, i32_w]
              rfl
            refine pure_ (i := 6) (N := some 40) (v := ?_) (a' := ?_) #[true, true, true, true, true, true, true, false, false, false, false, false, false, false, false, false, false, false, false, false, false, false, false, false, false, false] rfl rfl (any_of HT_.out (by kernel_rfl)) (fun _ _ _ h => h) (Or.inl ⟨by rfl, ?_⟩) ?_ ?_
            rotate_left
            · intro w'
              go_simp
              with_reducible rfl
            rotate_left
            · simp only [Act.put, List.setIfInBounds_toArray, List.set_cons_zero, List.set_cons_succ, i64_w, i32_w]
              rfl
            refine pure_ (i := 7) (N := some 41) (v := undef) (a' := ?_) #[true, true, true, true, true, true, true, true, false, false, false, false, false, false, false, false, false, false, false, false, false, false, false, false, false, false] rfl rfl (any_of HT_.out (by kernel_rfl)) (fun _ _ _ h => h) (Or.inr ⟨by rfl, rfl⟩) ?_ ?_
            rotate_left
            · simp only [Act.put, List.setIfInBounds_toArray, List.set_cons_zero, List.set_cons_succ, i64_w, i32_w]
              rfl
            refine pure_ (i := 8) (N := some 42) (v := undef) (a' := ?_) #[true, true, true, true, true, true, true, true, true, false, false, false, false, false, false, false, false, false, false, false, false, false, false, false, false, false] rfl rfl (any_of HT_.out (by kernel_rfl)) (fun _ _ _ h => h) (Or.inr ⟨by rfl, rfl⟩) ?_ ?_
            rotate_left
            · simp only [Act.put, List.setIfInBounds_toArray, List.set_cons_zero, List.set_cons_succ, i64_w, i32_w]
              rfl
            refine pure_ (i := 9) (N := some 43) (v := undef) (a' := ?_) #[true, true, true, true, true, true, true, true, true, true, false, false, false, false, false, false, false, false, false, false, false, false, false, false, false, false] rfl rfl (any_of HT_.out (by kernel_rfl)) (fun _ _ _ h => h) (Or.inr ⟨by rfl, rfl⟩) ?_ ?_
            rotate_left
            · simp only [Act.put, List.setIfInBounds_toArray, List.set_cons_zero, List.set_cons_succ, i64_w, i32_w]
              rfl
            refine pure_ (i := 10) (N := some 44) (v := ?_) (a' := ?_) #[true, true, true, true, true, true, true, true, true, true, true, false, false, false, false, false, false, false, false, false, false, false, false, false, false, false] rfl rfl (any_of HT_.out (by kernel_rfl)) (fun _ _ _ h => h) (Or.inl ⟨by rfl, ?_⟩) ?_ ?_
            rotate_left
            · intro w'
              go_simp
              with_reducible rfl
            rotate_left
            · simp only [Act.put, List.setIfInBounds_toArray, List.set_cons_zero, List.set_cons_succ, i64_w, i32_w]
              rfl
            refine pure_ (i := 11) (N := some 45) (v := ?_) (a' := ?_) #[true, true, true, true, true, true, true, true, true, true, true, true, false, false, false, false, false, false, false, false, false, false, false, false, false, false] rfl rfl (any_of HT_.out (by kernel_rfl)) (fun _ _ _ h => h) (Or.inl ⟨by rfl, ?_⟩) ?_ ?_
            rotate_left
            · intro w'
              go_simp
              with_reducible rfl
            rotate_left
            · simp only [Act.put, List.setIfInBounds_toArray, List.set_cons_zero, List.set_cons_succ, i64_w, i32_w]
              rfl
            refine pure_ (i := 12) (N := some 46) (v := undef) (a' := ?_) #[true, true, true, true, true, true, true, true, true, true, true, true, true, false, false, false, false, false, false, false, false, false, false, false, false, false] rfl rfl (any_of HT_.out (by kernel_rfl)) (fun _ _ _ h => h) (Or.inr ⟨by rfl, rfl⟩) ?_ ?_
            rotate_left
            · simp only [Act.put, List.setIfInBounds_toArray, List.set_cons_zero, List.set_cons_succ, i64_w, i32_w]
              rfl
            refine pure_ (i := 13) (N := some 47) (v := undef) (a' := ?_) #[true, true, true, true, true, true, true, true, true, true, true, true, true, true, false, false, false, false, false, false, false, false, false, false, false, false] rfl rfl (any_of HT_.out (by kernel_rfl)) (fun _ _ _ h => h) (Or.inr ⟨by rfl, rfl⟩) ?_ ?_
            rotate_left
            · simp only [Act.put, List.setIfInBounds_toArray, List.set_cons_zero, List.set_cons_succ, i64_w, i32_w]
              rfl
            refine pure_ (i := 14) (N := some 48) (v := undef) (a' := ?_) #[true, true, true, true, true, true, true, true, true, true, true, true, true, true, true, false, false, false, false, false, false, false, false, false, false, false] rfl rfl (any_of HT_.out (by kernel_rfl)) (fun _ _ _ h => h) (Or.inr ⟨by rfl, rfl⟩) ?_ ?_
            rotate_left
            · simp only [Act.put, List.setIfInBounds_toArray, List.set_cons_zero, List.set_cons_succ, i64_w, i32_w]
              rfl
            refine pure_ (i := 15) (N := some 49) (v := ?_) (a' := ?_) #[true, true, true, true, true, true, true, true, true, true, true, true, true, true, true, true, false, false, false, false, false, false, false, false, false, false] rfl rfl (any_of HT_.out (by kernel_rfl)) (fun _ _ _ h => h) (Or.inl ⟨by rfl, ?_⟩) ?_ ?_
            rotate_left
            · intro w'
              go_simp
              with_reducible rfl
            rotate_left
            · simp only [Act.put, List.setIfInBounds_toArray, List.set_cons_zero, List.set_cons_succ, i64_w, i32_w]
              rfl
            refine pure_ (i := 16) (N := some 50) (v := ?_) (a' := ?_) #[true, true, true, true, true, true, true, true, true, true, true, true, true, true, true, true, true, false, false, false, false, false, false, false, false, false] rfl rfl (any_of HT_.out (by kernel_rfl)) (fun _ _ _ h => h) (Or.inl ⟨by rfl, ?_⟩) ?_ ?_
            rotate_left
            · intro w'
              go_simp
              with_reducible rfl
            rotate_left
            · simp only [Act.put, List.setIfInBounds_toArray, List.set_cons_zero, List.set_cons_succ, i64_w, i32_w]
              rfl
            refine pure_ (i := 17) (N := some 51) (v := undef) (a' := ?_) #[true, true, true, true, true, true, true, true, true, true, true, true, true, true, true, true, true, true, false, false, false, false, false, false, false, false] rfl rfl (any_of HT_.out (by kernel_rfl)) (fun _ _ _ h => h) (Or.inr ⟨by rfl, rfl⟩) ?_ ?_
            rotate_left
            · simp only [Act.put, List.setIfInBounds_toArray, List.set_cons_zero, List.set_cons_succ, i64_w, i32_w]
              rfl
            refine pure_ (i := 18) (N := some 52) (v := undef) (a' := ?_) #[true, true, true, true, true, true, true, true, true, true, true, true, true, true, true, true, true, true, true, false, false, false, false, false, false, false] rfl rfl (any_of HT_.out (by kernel_rfl)) (fun _ _ _ h => h) (Or.inr ⟨by rfl, rfl⟩) ?_ ?_
            rotate_left
            · simp only [Act.put, List.setIfInBounds_toArray, List.set_cons_zero, List.set_cons_succ, i64_w, i32_w]
              rfl
            refine pure_ (i := 19) (N := some 53) (v := undef) (a' := ?_) #[true, true, true, true, true, true, true, true, true, true, true, true, true, true, true, true, true, true, true, true, false, false, false, false, false, false] rfl rfl (any_of HT_.out (by kernel_rfl)) (fun _ _ _ h => h) (Or.inr ⟨by rfl, rfl⟩) ?_ ?_
            rotate_left
            · simp only [Act.put, List.setIfInBounds_toArray, List.set_cons_zero, List.set_cons_succ, i64_w, i32_w]
              rfl
            refine pure_ (i := 20) (N := some 54) (v := ?_) (a' := ?_) #[true, true, true, true, true, true, true, true, true, true, true, true, true, true, true, true, true, true, true, true, true, false, false, false, false, false] rfl rfl (any_of HT_.out (by kernel_rfl)) (fun _ _ _ h => h) (Or.inl ⟨by rfl, ?_⟩) ?_ ?_
            rotate_left
            · intro w'
              go_simp
              with_reducible rfl
            rotate_left
            · simp only [Act.put, List.setIfInBounds_toArray, List.set_cons_zero, List.set_cons_succ, i64_w, i32_w]
              rfl
            refine pure_ (i := 21) (N := some 55) (v := ?_) (a' := ?_) #[true, true, true, true, true, true, true, true, true, true, true, true, true, true, true, true, true, true, true, true, true, true, false, false, false, false] rfl rfl (any_of HT_.out (by kernel_rfl)) (fun _ _ _ h => h) (Or.inl ⟨by rfl, ?_⟩) ?_ ?_
            rotate_left
            · intro w'
              go_simp
              with_reducible rfl
            rotate_left
            · simp only [Act.put, List.setIfInBounds_toArray, List.set_cons_zero, List.set_cons_succ, i64_w, i32_w]
              rfl
            refine pure_ (i := 22) (N := some 56) (v := undef) (a' := ?_) #[true, true, true, true, true, true, true, true, true, true, true, true, true, true, true, true, true, true, true, true, true, true, true, false, false, false] rfl rfl (any_of HT_.out (by kernel_rfl)) (fun _ _ _ h => h) (Or.inr ⟨by rfl, rfl⟩) ?_ ?_
            rotate_left
            · simp only [Act.put, List.setIfInBounds_toArray, List.set_cons_zero, List.set_cons_succ, i64_w, i32_w]
              rfl
            refine pure_ (i := 23) (N := some 57) (v := undef) (a' := ?_) #[true, true, true, true, true, true, true, true, true, true, true, true, true, true, true, true, true, true, true, true, true, true, true, true, false, false] rfl rfl (any_of HT_.out (by kernel_rfl)) (fun _ _ _ h => h) (Or.inr ⟨by rfl, rfl⟩) ?_ ?_
            rotate_left
            · simp only [Act.put, List.setIfInBounds_toArray, List.set_cons_zero, List.set_cons_succ, i64_w, i32_w]
              rfl
            refine pure_ (i := 24) (N := some 58) (v := undef) (a' := ?_) #[true, true, true, true, true, true, true, true, true, true, true, true, true, true, true, true, true, true, true, true, true, true, true, true, true, false] rfl rfl (any_of HT_.out (by kernel_rfl)) (fun _ _ _ h => h) (Or.inr ⟨by rfl, rfl⟩) ?_ ?_
            rotate_left
            · simp only [Act.put, List.setIfInBounds_toArray, List.set_cons_zero, List.set_cons_succ, i64_w, i32_w]
              rfl
            refine pure_ (i := 25) (N := some 59) (v := ?_) (a' := ?_) #[true, true, true, true, true, true, true, true, true, true, true, true, true, true, true, true, true, true, true, true, true, true, true, true, true, true] rfl rfl (any_of HT_.out (by kernel_rfl)) (fun _ _ _ h => h) (Or.inl ⟨by rfl, ?_⟩) ?_ ?_
            rotate_left
            · intro w'
              go_simp
              with_reducible rfl
            rotate_left
            · simp only [Act.put, List.setIfInBounds_toArray, List.set_cons_zero, List.set_cons_succ, i64_w, i32_w]
              rfl
            refine done_ (done_of HT_.out (by kernel_rfl)) ?_
            try go_wp2
            go_meet
            case rel => exact ⟨_, (true), (by first | rfl | (simp; done) | (simp [*]; done)), H', ⟨by have := HJ2.out; first | omega | exact Nat.le_refl _⟩, ⟨bk⟩, ⟨bk⟩, ⟨bk⟩, ⟨bk⟩, ⟨bk⟩, ⟨bl⟩⟩
          · rw [if_neg c36] at H
            have c36b0 : (!(t715 == t719) || (!(t716 == t720) || (!(t717 == t721)))) = false := by simpa using c36
            clear c36
            (first | rw [c36b0] | (simp only [i64_w, i32_w]; rw [c36b0]) | skip)
            replace H := Option.bind_eq_some_iff.mp H
            obtain ⟨t722, A400, H⟩ := H
            try dsimp only at H
            have A40 := Aside0.mk A400
            clear A400
            by_cases c41 : t722 = true
            · subst c41
              rw [if_pos rfl] at H
              replace H := Option.bind_eq_some_iff.mp H
              obtain ⟨t723, A420, H⟩ := H
              try dsimp only at H
              have A42 := Aside0.mk A420
              clear A420
              by_cases c43 : t723 = true
              · subst c43
                rw [if_pos rfl] at H
                replace H := Option.bind_eq_some_iff.mp H
                obtain ⟨t724, A440, H⟩ := H
                try dsimp only at H
                have A44 := Aside0.mk A440
                clear A440
                by_cases c45 : t724 = true
                · subst c45
                  rw [if_pos rfl] at H
                  replace H := Option.bind_eq_some_iff.mp H
                  obtain ⟨t725, A460, H⟩ := H
                  try dsimp only at H
                  have A46 := Aside0.mk A460
                  clear A460
                  have H' := Aside0.mk H
                  clear H
                  try go_wp2
                  have n0_ : Bk (((w29.setCell ⟨gb718, 0, none⟩ (.bool t715)).setCell ⟨gb718, 1, none⟩ (.int .i64 t716)).setCell ⟨gb718, 2, none⟩ (.int .i64 t717)) gb705 (.cells #[.bool t699, .int .i64 t700, .int .i64 t701] 30 (0, 0)) := ⟨bk⟩
                  have n1_ : Bk (((w29.setCell ⟨gb718, 0, none⟩ (.bool t715)).setCell ⟨gb718, 1, none⟩ (.int .i64 t716)).setCell ⟨gb718, 2, none⟩ (.int .i64 t717)) gb706 (.cells #[.bool t702, .int .i64 t703, .int .i64 t704] 30 (0, 0)) := ⟨bk⟩
                  have n2_ : Bk (((w29.setCell ⟨gb718, 0, none⟩ (.bool t715)).setCell ⟨gb718, 1, none⟩ (.int .i64 t716)).setCell ⟨gb718, 2, none⟩ (.int .i64 t717)) gb713 (.cells #[.bool t707, .int .i64 t708, .int .i64 t709] 30 (0, 0)) := ⟨bk⟩
                  have n3_ : Bk (((w29.setCell ⟨gb718, 0, none⟩ (.bool t715)).setCell ⟨gb718, 1, none⟩ (.int .i64 t716)).setCell ⟨gb718, 2, none⟩ (.int .i64 t717)) gb714 (.cells #[.bool t710, .int .i64 t711, .int .i64 t712] 30 (0, 0)) := ⟨bk⟩
                  have n4_ : Bk (((w29.setCell ⟨gb718, 0, none⟩ (.bool t715)).setCell ⟨gb718, 1, none⟩ (.int .i64 t716)).setCell ⟨gb718, 2, none⟩ (.int .i64 t717)) gb718 (.cells #[.bool t715, .int .i64 t716, .int .i64 t717] 30 (0, 0)) := ⟨bk⟩
                  have n5_ : Bl w.heap.size w (((w29.setCell ⟨gb718, 0, none⟩ (.bool t715)).setCell ⟨gb718, 1, none⟩ (.int .i64 t716)).setCell ⟨gb718, 2, none⟩ (.int .i64 t717)) := ⟨bl⟩
                  (try clear BK705)
                  (try clear BK706)
                  (try clear BK713)
                  (try clear BK714)
                  (try clear BK718)
                  (try clear HB)
                  generalize (((w29.setCell ⟨gb718, 0, none⟩ (.bool t715)).setCell ⟨gb718, 1, none⟩ (.int .i64 t716)).setCell ⟨gb718, 2, none⟩ (.int .i64 t717)) = w47 at n0_ n1_ n2_ n3_ n4_ n5_ ⊢
                  have BK705 := n0_
                  have BK706 := n1_
                  have BK713 := n2_
                  have BK714 := n3_
                  have BK718 := n4_
                  have HB := n5_
                  clear n0_ n1_ n2_ n3_ n4_ n5_
                  have n0_ := Bk.mk (blk_drew BK705.out)
                  have n1_ := Bk.mk (blk_drew BK706.out)
                  have n2_ := Bk.mk (blk_drew BK713.out)
                  have n3_ := Bk.mk (blk_drew BK714.out)
                  have n4_ := Bk.mk (blk_drew BK718.out)
                  have n5_ := Bl.mk (below_drew1 HB.out)
                  clear BK705
                  clear BK706
                  clear BK713
                  clear BK714
                  clear BK718
                  clear HB
                  have BK705 := n0_
                  have BK706 := n1_
                  have BK713 := n2_
                  have BK714 := n3_
                  have BK718 := n4_
                  have HB := n5_
                  clear n0_ n1_ n2_ n3_ n4_ n5_
                  refine start_ (n := 26) (S := fun w' => w'.cell? ⟨gb718, 0, none⟩ = some (.bool t715) ∧ w'.cell? ⟨gb718, 1, none⟩ = some (.int .i64 t716) ∧ w'.cell? ⟨gb718, 2, none⟩ = some (.int .i64 t717) ∧ w'.cell? ⟨gb705, 0, none⟩ = some (.bool t699) ∧ w'.cell? ⟨gb705, 1, none⟩ = some (.int .i64 t700) ∧ w'.cell? ⟨gb705, 2, none⟩ = some (.int .i64 t701) ∧ w'.cell? ⟨gb706, 0, none⟩ = some (.bool t702) ∧ w'.cell? ⟨gb706, 1, none⟩ = some (.int .i64 t703) ∧ w'.cell? ⟨gb706, 2, none⟩ = some (.int .i64 t704) ∧ w'.cell? ⟨gb713, 0, none⟩ = some (.bool t707) ∧ w'.cell? ⟨gb713, 1, none⟩ = some (.int .i64 t708) ∧ w'.cell? ⟨gb713, 2, none⟩ = some (.int .i64 t709) ∧ w'.cell? ⟨gb714, 0, none⟩ = some (.bool t710) ∧ w'.cell? ⟨gb714, 1, none⟩ = some (.int .i64 t711) ∧ w'.cell? ⟨gb714, 2, none⟩ = some (.int .i64 t712)) (ds := []) #[false, false, false, false, false, false, false, false, false, false, false, false, false, false, false, false, false, false, false, false, false, false, false, false, false, false] (by kernel_rfl) rfl rfl ⟨(blk_cell BK718.out 0).trans rfl, (blk_cell BK718.out 1).trans rfl, (blk_cell BK718.out 2).trans rfl, (blk_cell BK705.out 0).trans rfl, (blk_cell BK705.out 1).trans rfl, (blk_cell BK705.out 2).trans rfl, (blk_cell BK706.out 0).trans rfl, (blk_cell BK706.out 1).trans rfl, (blk_cell BK706.out 2).trans rfl, (blk_cell BK713.out 0).trans rfl, (blk_cell BK713.out 1).trans rfl, (blk_cell BK713.out 2).trans rfl, (blk_cell BK714.out 0).trans rfl, (blk_cell BK714.out 1).trans rfl, (blk_cell BK714.out 2).trans rfl⟩ (fun hHeld => ?_); refine with_tabW laws_FnDoMore.tab6 laws_FnDoMore.bits6 (fun HT_ HW_ => ?_)
                  generalize w47.drew = w48 at BK705 BK706 BK713 BK714 BK718 HB hHeld ⊢
                  refine pure_ (i := 1) (N := some 35) (v := ?_) (a' := ?_) #[false, true, false, false, false, false, false, false, false, false, false, false, false, false, false, false, false, false, false, false, false, false, false, false, false, false] rfl rfl (any_of HT_.out (by kernel_rfl)) (fun _ _ _ h => h) (Or.inl ⟨by rfl, ?_⟩) ?_ ?_
                  rotate_left
                  · intro w'
                    go_simp
                    with_reducible rfl
                  rotate_left
                  · simp only [Act.put, List.setIfInBounds_toArray, List.set_cons_zero, List.set_cons_succ, i64_w, i32_w]
                    rfl
                  refine take_ (i := 0) (N := some 34) (v := ?_) (a' := ?_) #[true, true, false, false, false, false, false, false, false, false, false, false, false, false, false, false, false, false, false, false, false, false, false, false, false, false] rfl rfl (take_ofW HT_.out HW_.out (by kernel_rfl)) (fun _ _ _ h => h) (Or.inl ⟨by rfl, ?_⟩) hHeld ?_ ?_
                  rotate_left
                  · rintro w' ⟨s0, s1, s2, s3, s4, s5, s6, s7, s8, s9, s10, s11, s12, s13, s14⟩
                    go_simp
                    with_reducible rfl
                  rotate_left
                  · simp only [Act.put, List.setIfInBounds_toArray, List.set_cons_zero, List.set_cons_succ, i64_w, i32_w]
                    rfl
                  refine take_ (i := 2) (N := some 36) (v := ?_) (a' := ?_) #[true, true, true, false, false, false, false, false, false, false, false, false, false, false, false, false, false, false, false, false, false, false, false, false, false, false] rfl rfl (take_ofW HT_.out HW_.out (by kernel_rfl)) (fun _ _ _ h => h) (Or.inl ⟨by rfl, ?_⟩) hHeld ?_ ?_
                  rotate_left
                  · rintro w' ⟨s0, s1, s2, s3, s4, s5, s6, s7, s8, s9, s10, s11, s12, s13, s14⟩
                    go_simp
                    with_reducible rfl
                  rotate_left
                  · simp only [Act.put, List.setIfInBounds_toArray, List.set_cons_zero, List.set_cons_succ, i64_w, i32_w]
                    rfl
                  refine take_ (i := 3) (N := some 37) (v := ?_) (a' := ?_) #[true, true, true, true, false, false, false, false, false, false, false, false, false, false, false, false, false, false, false, false, false, false, false, false, false, false] rfl rfl (take_ofW HT_.out HW_.out (by kernel_rfl)) (fun _ _ _ h => h) (Or.inl ⟨by rfl, ?_⟩) hHeld ?_ ?_
                  rotate_left
                  · rintro w' ⟨s0, s1, s2, s3, s4, s5, s6, s7, s8, s9, s10, s11, s12, s13, s14⟩
                    go_simp
                    with_reducible rfl
                  rotate_left
                  · simp only [Act.put, List.setIfInBounds_toArray, List.set_cons_zero, List.set_cons_succ, i64_w, i32_w]
                    rfl
                  refine one_ (i := 4) (N := some 38) #[true, true, true, true, true, false, false, false, false, false, false, false, false, false, false, false, false, false, false, false, false, false, false, false, false, false] rfl rfl (one_of HT_.out (by kernel_rfl)) (by decide) (fun K hK => ?_)
                  refine goes_ Try.func21 (by kernel_rfl) rfl #[.int .i64 t698, .agg #[.bool t699, .int .i64 t700, .int .i64 t701], .agg #[.bool t702, .int .i64 t703, .int .i64 t704]] (by rfl) rfl rfl (by (try simp only [List.map_toArray, List.map_cons, List.map_nil]); first | done | rfl | (simp only [List.length_drop, List.length_take]; rfl)) ?_
                  with_reducible refine (spec_SpanDo.calls kj2 t698 t699 t700 t701 t702 t703 t704 t719 t720 t721 _ A35.out).mono ?_
                  rintro e w49 ⟨rfl, hb⟩
                  refine ⟨_, rfl, ?_⟩
                  have n0_ := Bk.mk (blk_below (g := gb705) bk hb)
                  have n1_ := Bk.mk (blk_below (g := gb706) bk hb)
                  have n2_ := Bk.mk (blk_below (g := gb713) bk hb)
                  have n3_ := Bk.mk (blk_below (g := gb714) bk hb)
                  have n4_ := Bk.mk (blk_below (g := gb718) bk hb)
                  have n5_ := Bl.mk (below_step bl hb)
                  clear BK705
                  clear BK706
                  clear BK713
                  clear BK714
                  clear BK718
                  clear HB
                  have BK705 := n0_
                  have BK706 := n1_
                  have BK713 := n2_
                  have BK714 := n3_
                  have BK718 := n4_
                  have HB := n5_
                  clear n0_ n1_ n2_ n3_ n4_ n5_
                  (try clear hb)
                  (try clear hb2)
                  (try clear hk)
                  (try clear hi)
                  refine hK.out _ _ ⟨(blk_cell BK718.out 0).trans rfl, (blk_cell BK718.out 1).trans rfl, (blk_cell BK718.out 2).trans rfl, (blk_cell BK705.out 0).trans rfl, (blk_cell BK705.out 1).trans rfl, (blk_cell BK705.out 2).trans rfl, (blk_cell BK706.out 0).trans rfl, (blk_cell BK706.out 1).trans rfl, (blk_cell BK706.out 2).trans rfl, (blk_cell BK713.out 0).trans rfl, (blk_cell BK713.out 1).trans rfl, (blk_cell BK713.out 2).trans rfl, (blk_cell BK714.out 0).trans rfl, (blk_cell BK714.out 1).trans rfl, (blk_cell BK714.out 2).trans rfl⟩ (fun hHeld => ?_)
                  clear hK K
                  refine norm_ (a' := ?_) ?_ ?_
                  rotate_left
                  · show Act.put _ (some 38) _ = _
                    simp only [Act.put, List.setIfInBounds_toArray, List.set_cons_zero, List.set_cons_succ, i64_w, i32_w]
                    rfl
                  refine pure_ (i := 5) (N := some 39) (v := ?_) (a' := ?_) #[true, true, true, true, true, true, false, false, false, false, false, false, false, false, false, false, false, false, false, false, false, false, false, false, false, false] rfl rfl (any_of HT_.out (by kernel_rfl)) (fun _ _ _ h => h) (Or.inl ⟨by rfl, ?_⟩) ?_ ?_
                  rotate_left
                  · intro w'
                    go_simp
                    with_reducible rfl
                  rotate_left
                  · simp only [Act.put, List.setIfInBounds_toArray, List.set_cons_zero, List.set_cons_succ, i64_w, i32_w]
                    rfl
                  refine pure_ (i := 6) (N := some 40) (v := ?_) (a' := ?_) #[true, true, true, true, true, true, true, false, false, false, false, false, false, false, false, false, false, false, false, false, false, false, false, false, false, false] rfl rfl (any_of HT_.out (by kernel_rfl)) (fun _ _ _ h => h) (Or.inl ⟨by rfl, ?_⟩) ?_ ?_
                  rotate_left
                  · intro w'
                    go_simp
                    with_reducible rfl
                  rotate_left
                  · simp only [Act.put, List.setIfInBounds_toArray, List.set_cons_zero, List.set_cons_succ, i64_w, i32_w]
                    rfl
                  refine take_ (i := 7) (N := some 41) (v := ?_) (a' := ?_) #[true, true, true, true, true, true, true, true, false, false, false, false, false, false, false, false, false, false, false, false, false, false, false, false, false, false] rfl rfl (take_ofW HT_.out HW_.out (by kernel_rfl)) (fun _ _ _ h => h) (Or.inl ⟨by rfl, ?_⟩) hHeld ?_ ?_
                  rotate_left
                  · rintro w' ⟨s0, s1, s2, s3, s4, s5, s6, s7, s8, s9, s10, s11, s12, s13, s14⟩
                    go_simp
                    with_reducible rfl
                  rotate_left
                  · simp only [Act.put, List.setIfInBounds_toArray, List.set_cons_zero, List.set_cons_succ, i64_w, i32_w]
                    rfl
                  refine one_ (i := 8) (N := some 42) #[true, true, true, true, true, true, true, true, true, false, false, false, false, false, false, false, false, false, false, false, false, false, false, false, false, false] rfl rfl (one_of HT_.out (by kernel_rfl)) (by decide) (fun K hK => ?_)
                  refine goes_ Try.func15 (by kernel_rfl) rfl #[.agg #[.bool t699, .int .i64 t700, .int .i64 t701]] (by rfl) rfl rfl (by (try simp only [List.map_toArray, List.map_cons, List.map_nil]); first | done | rfl | (simp only [List.length_drop, List.length_take]; rfl)) ?_
                  with_reducible refine (spec_SpanOk.calls t699 t700 t701 true _ A40.out).mono ?_
                  rintro e w50 ⟨rfl, hb⟩
                  refine ⟨_, rfl, ?_⟩
                  have n0_ := Bk.mk (blk_below (g := gb705) bk hb)
                  have n1_ := Bk.mk (blk_below (g := gb706) bk hb)
                  have n2_ := Bk.mk (blk_below (g := gb713) bk hb)
                  have n3_ := Bk.mk (blk_below (g := gb714) bk hb)
                  have n4_ := Bk.mk (blk_below (g := gb718) bk hb)
                  have n5_ := Bl.mk (below_step bl hb)
                  clear BK705
                  clear BK706
                  clear BK713
                  clear BK714
                  clear BK718
                  clear HB
                  have BK705 := n0_
                  have BK706 := n1_
                  have BK713 := n2_
                  have BK714 := n3_
                  have BK718 := n4_
                  have HB := n5_
                  clear n0_ n1_ n2_ n3_ n4_ n5_
                  (try clear hb)
                  (try clear hb2)
                  (try clear hk)
                  (try clear hi)
                  refine hK.out _ _ ⟨(blk_cell BK718.out 0).trans rfl, (blk_cell BK718.out 1).trans rfl, (blk_cell BK718.out 2).trans rfl, (blk_cell BK705.out 0).trans rfl, (blk_cell BK705.out 1).trans rfl, (blk_cell BK705.out 2).trans rfl, (blk_cell BK706.out 0).trans rfl, (blk_cell BK706.out 1).trans rfl, (blk_cell BK706.out 2).trans rfl, (blk_cell BK713.out 0).trans rfl, (blk_cell BK713.out 1).trans rfl, (blk_cell BK713.out 2).trans rfl, (blk_cell BK714.out 0).trans rfl, (blk_cell BK714.out 1).trans rfl, (blk_cell BK714.out 2).trans rfl⟩ (fun hHeld => ?_)
                  clear hK K
                  refine norm_ (a' := ?_) ?_ ?_
                  rotate_left
                  · show Act.put _ (some 42) _ = _
                    simp only [Act.put, List.setIfInBounds_toArray, List.set_cons_zero, List.set_cons_succ, i64_w, i32_w]
                    rfl
                  refine pure_ (i := 9) (N := some 43) (v := ?_) (a' := ?_) #[true, true, true, true, true, true, true, true, true, true, false, false, false, false, false, false, false, false, false, false, false, false, false, false, false, false] rfl rfl (any_of HT_.out (by kernel_rfl)) (fun _ _ _ h => h) (Or.inl ⟨by rfl, ?_⟩) ?_ ?_
                  rotate_left
                  · intro w'
                    go_simp
                    with_reducible rfl
                  rotate_left
                  · simp only [Act.put, List.setIfInBounds_toArray, List.set_cons_zero, List.set_cons_succ, i64_w, i32_w]
                    rfl
                  refine pure_ (i := 10) (N := some 44) (v := ?_) (a' := ?_) #[true, true, true, true, true, true, true, true, true, true, true, false, false, false, false, false, false, false, false, false, false, false, false, false, false, false] rfl rfl (any_of HT_.out (by kernel_rfl)) (fun _ _ _ h => h) (Or.inl ⟨by rfl, ?_⟩) ?_ ?_
                  rotate_left
                  · intro w'
                    go_simp
                    with_reducible rfl
                  rotate_left
                  · simp only [Act.put, List.setIfInBounds_toArray, List.set_cons_zero, List.set_cons_succ, i64_w, i32_w]
                    rfl
                  refine pure_ (i := 11) (N := some 45) (v := ?_) (a' := ?_) #[true, true, true, true, true, true, true, true, true, true, true, true, false, false, false, false, false, false, false, false, false, false, false, false, false, false] rfl rfl (any_of HT_.out (by kernel_rfl)) (fun _ _ _ h => h) (Or.inl ⟨by rfl, ?_⟩) ?_ ?_
                  rotate_left
                  · intro w'
                    go_simp
                    with_reducible rfl
                  rotate_left
                  · simp only [Act.put, List.setIfInBounds_toArray, List.set_cons_zero, List.set_cons_succ, i64_w, i32_w]
                    rfl
                  refine take_ (i := 12) (N := some 46) (v := ?_) (a' := ?_) #[true, true, true, true, true, true, true, true, true, true, true, true, true, false, false, false, false, false, false, false, false, false, false, false, false, false] rfl rfl (take_ofW HT_.out HW_.out (by kernel_rfl)) (fun _ _ _ h => h) (Or.inl ⟨by rfl, ?_⟩) hHeld ?_ ?_
                  rotate_left
                  · rintro w' ⟨s0, s1, s2, s3, s4, s5, s6, s7, s8, s9, s10, s11, s12, s13, s14⟩
                    go_simp
                    with_reducible rfl
                  rotate_left
                  · simp only [Act.put, List.setIfInBounds_toArray, List.set_cons_zero, List.set_cons_succ, i64_w, i32_w]
                    rfl
                  refine one_ (i := 13) (N := some 47) #[true, true, true, true, true, true, true, true, true, true, true, true, true, true, false, false, false, false, false, false, false, false, false, false, false, false] rfl rfl (one_of HT_.out (by kernel_rfl)) (by decide) (fun K hK => ?_)
                  refine goes_ Try.func15 (by kernel_rfl) rfl #[.agg #[.bool t702, .int .i64 t703, .int .i64 t704]] (by rfl) rfl rfl (by (try simp only [List.map_toArray, List.map_cons, List.map_nil]); first | done | rfl | (simp only [List.length_drop, List.length_take]; rfl)) ?_
                  with_reducible refine (spec_SpanOk.calls t702 t703 t704 true _ A42.out).mono ?_
                  rintro e w51 ⟨rfl, hb⟩
                  refine ⟨_, rfl, ?_⟩
                  have n0_ := Bk.mk (blk_below (g := gb705) bk hb)
                  have n1_ := Bk.mk (blk_below (g := gb706) bk hb)
                  have n2_ := Bk.mk (blk_below (g := gb713) bk hb)
                  have n3_ := Bk.mk (blk_below (g := gb714) bk hb)
                  have n4_ := Bk.mk (blk_below (g := gb718) bk hb)
                  have n5_ := Bl.mk (below_step bl hb)
                  clear BK705
                  clear BK706
                  clear BK713
                  clear BK714
                  clear BK718
                  clear HB
                  have BK705 := n0_
                  have BK706 := n1_
                  have BK713 := n2_
                  have BK714 := n3_
                  have BK718 := n4_
                  have HB := n5_
                  clear n0_ n1_ n2_ n3_ n4_ n5_
                  (try clear hb)
                  (try clear hb2)
                  (try clear hk)
                  (try clear hi)
                  refine hK.out _ _ ⟨(blk_cell BK718.out 0).trans rfl, (blk_cell BK718.out 1).trans rfl, (blk_cell BK718.out 2).trans rfl, (blk_cell BK705.out 0).trans rfl, (blk_cell BK705.out 1).trans rfl, (blk_cell BK705.out 2).trans rfl, (blk_cell BK706.out 0).trans rfl, (blk_cell BK706.out 1).trans rfl, (blk_cell BK706.out 2).trans rfl, (blk_cell BK713.out 0).trans rfl, (blk_cell BK713.out 1).trans rfl, (blk_cell BK713.out 2).trans rfl, (blk_cell BK714.out 0).trans rfl, (blk_cell BK714.out 1).trans rfl, (blk_cell BK714.out 2).trans rfl⟩ (fun hHeld => ?_)
                  clear hK K
                  refine norm_ (a' := ?_) ?_ ?_
                  rotate_left
                  · show Act.put _ (some 47) _ = _
                    simp only [Act.put, List.setIfInBounds_toArray, List.set_cons_zero, List.set_cons_succ, i64_w, i32_w]
                    rfl
                  refine pure_ (i := 14) (N := some 48) (v := ?_) (a' := ?_) #[true, true, true, true, true, true, true, true, true, true, true, true, true, true, true, false, false, false, false, false, false, false, false, false, false, false] rfl rfl (any_of HT_.out (by kernel_rfl)) (fun _ _ _ h => h) (Or.inl ⟨by rfl, ?_⟩) ?_ ?_
                  rotate_left
                  · intro w'
                    go_simp
                    with_reducible rfl
                  rotate_left
                  · simp only [Act.put, List.setIfInBounds_toArray, List.set_cons_zero, List.set_cons_succ, i64_w, i32_w]
                    rfl
                  refine pure_ (i := 15) (N := some 49) (v := ?_) (a' := ?_) #[true, true, true, true, true, true, true, true, true, true, true, true, true, true, true, true, false, false, false, false, false, false, false, false, false, false] rfl rfl (any_of HT_.out (by kernel_rfl)) (fun _ _ _ h => h) (Or.inl ⟨by rfl, ?_⟩) ?_ ?_
                  rotate_left
                  · intro w'
                    go_simp
                    with_reducible rfl
                  rotate_left
                  · simp only [Act.put, List.setIfInBounds_toArray, List.set_cons_zero, List.set_cons_succ, i64_w, i32_w]
                    rfl
                  refine pure_ (i := 16) (N := some 50) (v := ?_) (a' := ?_) #[true, true, true, true, true, true, true, true, true, true, true, true, true, true, true, true, true, false, false, false, false, false, false, false, false, false] rfl rfl (any_of HT_.out (by kernel_rfl)) (fun _ _ _ h => h) (Or.inl ⟨by rfl, ?_⟩) ?_ ?_
                  rotate_left
                  · intro w'
                    go_simp
                    with_reducible rfl
                  rotate_left
                  · simp only [Act.put, List.setIfInBounds_toArray, List.set_cons_zero, List.set_cons_succ, i64_w, i32_w]
                    rfl
                  refine take_ (i := 17) (N := some 51) (v := ?_) (a' := ?_) #[true, true, true, true, true, true, true, true, true, true, true, true, true, true, true, true, true, true, false, false, false, false, false, false, false, false] rfl rfl (take_ofW HT_.out HW_.out (by kernel_rfl)) (fun _ _ _ h => h) (Or.inl ⟨by rfl, ?_⟩) hHeld ?_ ?_
                  rotate_left
                  · rintro w' ⟨s0, s1, s2, s3, s4, s5, s6, s7, s8, s9, s10, s11, s12, s13, s14⟩
                    go_simp
                    with_reducible rfl
                  rotate_left
                  · simp only [Act.put, List.setIfInBounds_toArray, List.set_cons_zero, List.set_cons_succ, i64_w, i32_w]
                    rfl
                  refine one_ (i := 18) (N := some 52) #[true, true, true, true, true, true, true, true, true, true, true, true, true, true, true, true, true, true, true, false, false, false, false, false, false, false] rfl rfl (one_of HT_.out (by kernel_rfl)) (by decide) (fun K hK => ?_)
                  refine goes_ Try.func15 (by kernel_rfl) rfl #[.agg #[.bool t707, .int .i64 t708, .int .i64 t709]] (by rfl) rfl rfl (by (try simp only [List.map_toArray, List.map_cons, List.map_nil]); first | done | rfl | (simp only [List.length_drop, List.length_take]; rfl)) ?_
                  with_reducible refine (spec_SpanOk.calls t707 t708 t709 true _ A44.out).mono ?_
                  rintro e w52 ⟨rfl, hb⟩
                  refine ⟨_, rfl, ?_⟩
                  have n0_ := Bk.mk (blk_below (g := gb705) bk hb)
                  have n1_ := Bk.mk (blk_below (g := gb706) bk hb)
                  have n2_ := Bk.mk (blk_below (g := gb713) bk hb)
                  have n3_ := Bk.mk (blk_below (g := gb714) bk hb)
                  have n4_ := Bk.mk (blk_below (g := gb718) bk hb)
                  have n5_ := Bl.mk (below_step bl hb)
                  clear BK705
                  clear BK706
                  clear BK713
                  clear BK714
                  clear BK718
                  clear HB
                  have BK705 := n0_
                  have BK706 := n1_
                  have BK713 := n2_
                  have BK714 := n3_
                  have BK718 := n4_
                  have HB := n5_
                  clear n0_ n1_ n2_ n3_ n4_ n5_
                  (try clear hb)
                  (try clear hb2)
                  (try clear hk)
                  (try clear hi)
                  refine hK.out _ _ ⟨(blk_cell BK718.out 0).trans rfl, (blk_cell BK718.out 1).trans rfl, (blk_cell BK718.out 2).trans rfl, (blk_cell BK705.out 0).trans rfl, (blk_cell BK705.out 1).trans rfl, (blk_cell BK705.out 2).trans rfl, (blk_cell BK706.out 0).trans rfl, (blk_cell BK706.out 1).trans rfl, (blk_cell BK706.out 2).trans rfl, (blk_cell BK713.out 0).trans rfl, (blk_cell BK713.out 1).trans rfl, (blk_cell BK713.out 2).trans rfl, (blk_cell BK714.out 0).trans rfl, (blk_cell BK714.out 1).trans rfl, (blk_cell BK714.out 2).trans rfl⟩ (fun hHeld => ?_)
                  clear hK K
                  refine norm_ (a' := ?_) ?_ ?_
                  rotate_left
                  · show Act.put _ (some 52) _ = _
                    simp only [Act.put, List.setIfInBounds_toArray, List.set_cons_zero, List.set_cons_succ, i64_w, i32_w]
                    rfl
                  refine pure_ (i := 19) (N := some 53) (v := ?_) (a' := ?_) #[true, true, true, true, true, true, true, true, true, true, true, true, true, true, true, true, true, true, true, true, false, false, false, false, false, false] rfl rfl (any_of HT_.out (by kernel_rfl)) (fun _ _ _ h => h) (Or.inl ⟨by rfl, ?_⟩) ?_ ?_
                  rotate_left
                  · intro w'
                    go_simp
                    with_reducible rfl
                  rotate_left
                  · simp only [Act.put, List.setIfInBounds_toArray, List.set_cons_zero, List.set_cons_succ, i64_w, i32_w]
                    rfl
                  refine pure_ (i := 20) (N := some 54) (v := ?_) (a' := ?_) #[true, true, true, true, true, true, true, true, true, true, true, true, true, true, true, true, true, true, true, true, true, false, false, false, false, false] rfl rfl (any_of HT_.out (by kernel_rfl)) (fun _ _ _ h => h) (Or.inl ⟨by rfl, ?_⟩) ?_ ?_
                  rotate_left
                  · intro w'
                    go_simp
                    with_reducible rfl
                  rotate_left
                  · simp only [Act.put, List.setIfInBounds_toArray, List.set_cons_zero, List.set_cons_succ, i64_w, i32_w]
                    rfl
                  refine pure_ (i := 21) (N := some 55) (v := ?_) (a' := ?_) #[true, true, true, true, true, true, true, true, true, true, true, true, true, true, true, true, true, true, true, true, true, true, false, false, false, false] rfl rfl (any_of HT_.out (by kernel_rfl)) (fun _ _ _ h => h) (Or.inl ⟨by rfl, ?_⟩) ?_ ?_
                  rotate_left
                  · intro w'
                    go_simp
                    with_reducible rfl
                  rotate_left
                  · simp only [Act.put, List.setIfInBounds_toArray, List.set_cons_zero, List.set_cons_succ, i64_w, i32_w]
                    rfl
                  refine take_ (i := 22) (N := some 56) (v := ?_) (a' := ?_) #[true, true, true, true, true, true, true, true, true, true, true, true, true, true, true, true, true, true, true, true, true, true, true, false, false, false] rfl rfl (take_ofW HT_.out HW_.out (by kernel_rfl)) (fun _ _ _ h => h) (Or.inl ⟨by rfl, ?_⟩) hHeld ?_ ?_
                  rotate_left
                  · rintro w' ⟨s0, s1, s2, s3, s4, s5, s6, s7, s8, s9, s10, s11, s12, s13, s14⟩
                    go_simp
                    with_reducible rfl
                  rotate_left
                  · simp only [Act.put, List.setIfInBounds_toArray, List.set_cons_zero, List.set_cons_succ, i64_w, i32_w]
                    rfl
                  refine one_ (i := 23) (N := some 57) #[true, true, true, true, true, true, true, true, true, true, true, true, true, true, true, true, true, true, true, true, true, true, true, true, false, false] rfl rfl (one_of HT_.out (by kernel_rfl)) (by decide) (fun K hK => ?_)
                  refine goes_ Try.func15 (by kernel_rfl) rfl #[.agg #[.bool t710, .int .i64 t711, .int .i64 t712]] (by rfl) rfl rfl (by (try simp only [List.map_toArray, List.map_cons, List.map_nil]); first | done | rfl | (simp only [List.length_drop, List.length_take]; rfl)) ?_
                  with_reducible refine (spec_SpanOk.calls t710 t711 t712 t725 _ A46.out).mono ?_
                  rintro e w53 ⟨rfl, hb⟩
                  refine ⟨_, rfl, ?_⟩
                  have n0_ := Bk.mk (blk_below (g := gb705) bk hb)
                  have n1_ := Bk.mk (blk_below (g := gb706) bk hb)
                  have n2_ := Bk.mk (blk_below (g := gb713) bk hb)
                  have n3_ := Bk.mk (blk_below (g := gb714) bk hb)
                  have n4_ := Bk.mk (blk_below (g := gb718) bk hb)
                  have n5_ := Bl.mk (below_step bl hb)
                  clear BK705
                  clear BK706
                  clear BK713
                  clear BK714
                  clear BK718
                  clear HB
                  have BK705 := n0_
                  have BK706 := n1_
                  have BK713 := n2_
                  have BK714 := n3_
                  have BK718 := n4_
                  have HB := n5_
                  clear n0_ n1_ n2_ n3_ n4_ n5_
                  (try clear hb)
                  (try clear hb2)
                  (try clear hk)
                  (try clear hi)
                  refine hK.out _ _ ⟨(blk_cell BK718.out 0).trans rfl, (blk_cell BK718.out 1).trans rfl, (blk_cell BK718.out 2).trans rfl, (blk_cell BK705.out 0).trans rfl, (blk_cell BK705.out 1).trans rfl, (blk_cell BK705.out 2).trans rfl, (blk_cell BK706.out 0).trans rfl, (blk_cell BK706.out 1).trans rfl, (blk_cell BK706.out 2).trans rfl, (blk_cell BK713.out 0).trans rfl, (blk_cell BK713.out 1).trans rfl, (blk_cell BK713.out 2).trans rfl, (blk_cell BK714.out 0).trans rfl, (blk_cell BK714.out 1).trans rfl, (blk_cell BK714.out 2).trans rfl⟩ (fun hHeld => ?_)
                  clear hK K
                  refine norm_ (a' := ?_) ?_ ?_
                  rotate_left
                  · show Act.put _ (some 57) _ = _
                    simp only [Act.put, List.setIfInBounds_toArray, List.set_cons_zero, List.set_cons_succ, i64_w, i32_w]
                    rfl
                  refine pure_ (i := 24) (N := some 58) (v := ?_) (a' := ?_) #[true, true, true, true, true, true, true, true, true, true, true, true, true, true, true, true, true, true, true, true, true, true, true, true, true, false] rfl rfl (any_of HT_.out (by kernel_rfl)) (fun _ _ _ h => h) (Or.inl ⟨by rfl, ?_⟩) ?_ ?_
                  rotate_left
                  · intro w'
                    go_simp
                    with_reducible rfl
                  rotate_left
                  · simp only [Act.put, List.setIfInBounds_toArray, List.set_cons_zero, List.set_cons_succ, i64_w, i32_w]
                    rfl
                  refine pure_ (i := 25) (N := some 59) (v := ?_) (a' := ?_) #[true, true, true, true, true, true, true, true, true, true, true, true, true, true, true, true, true, true, true, true, true, true, true, true, true, true] rfl rfl (any_of HT_.out (by kernel_rfl)) (fun _ _ _ h => h) (Or.inl ⟨by rfl, ?_⟩) ?_ ?_
                  rotate_left
                  · intro w'
                    go_simp
                    with_reducible rfl
                  rotate_left
                  · simp only [Act.put, List.setIfInBounds_toArray, List.set_cons_zero, List.set_cons_succ, i64_w, i32_w]
                    rfl
                  refine done_ (done_of HT_.out (by kernel_rfl)) ?_
                  try go_wp2
                  go_meet
                  case rel => exact ⟨_, (!t725), (by first | rfl | (simp; done) | (simp [*]; done)), H', ⟨by have := HJ2.out; first | omega | exact Nat.le_refl _⟩, ⟨bk⟩, ⟨bk⟩, ⟨bk⟩, ⟨bk⟩, ⟨bk⟩, ⟨bl⟩⟩
                · replace c45 := Bool.eq_false_iff.mpr c45
                  subst c45
                  rw [if_neg (show ¬ (false = true) by decide)] at H
                  have H' := Aside0.mk H
                  clear H
                  try go_wp2
                  have n0_ : Bk (((w29.setCell ⟨gb718, 0, none⟩ (.bool t715)).setCell ⟨gb718, 1, none⟩ (.int .i64 t716)).setCell ⟨gb718, 2, none⟩ (.int .i64 t717)) gb705 (.cells #[.bool t699, .int .i64 t700, .int .i64 t701] 30 (0, 0)) := ⟨bk⟩
                  have n1_ : Bk (((w29.setCell ⟨gb718, 0, none⟩ (.bool t715)).setCell ⟨gb718, 1, none⟩ (.int .i64 t716)).setCell ⟨gb718, 2, none⟩ (.int .i64 t717)) gb706 (.cells #[.bool t702, .int .i64 t703, .int .i64 t704] 30 (0, 0)) := ⟨bk⟩
                  have n2_ : Bk (((w29.setCell ⟨gb718, 0, none⟩ (.bool t715)).setCell ⟨gb718, 1, none⟩ (.int .i64 t716)).setCell ⟨gb718, 2, none⟩ (.int .i64 t717)) gb713 (.cells #[.bool t707, .int .i64 t708, .int .i64 t709] 30 (0, 0)) := ⟨bk⟩
                  have n3_ : Bk (((w29.setCell ⟨gb718, 0, none⟩ (.bool t715)).setCell ⟨gb718, 1, none⟩ (.int .i64 t716)).setCell ⟨gb718, 2, none⟩ (.int .i64 t717)) gb714 (.cells #[.bool t710, .int .i64 t711, .int .i64 t712] 30 (0, 0)) := ⟨bk⟩
                  have n4_ : Bk (((w29.setCell ⟨gb718, 0, none⟩ (.bool t715)).setCell ⟨gb718, 1, none⟩ (.int .i64 t716)).setCell ⟨gb718, 2, none⟩ (.int .i64 t717)) gb718 (.cells #[.bool t715, .int .i64 t716, .int .i64 t717] 30 (0, 0)) := ⟨bk⟩
                  have n5_ : Bl w.heap.size w (((w29.setCell ⟨gb718, 0, none⟩ (.bool t715)).setCell ⟨gb718, 1, none⟩ (.int .i64 t716)).setCell ⟨gb718, 2, none⟩ (.int .i64 t717)) := ⟨bl⟩
                  (try clear BK705)
                  (try clear BK706)
                  (try clear BK713)
                  (try clear BK714)
                  (try clear BK718)
                  (try clear HB)
                  generalize (((w29.setCell ⟨gb718, 0, none⟩ (.bool t715)).setCell ⟨gb718, 1, none⟩ (.int .i64 t716)).setCell ⟨gb718, 2, none⟩ (.int .i64 t717)) = w54 at n0_ n1_ n2_ n3_ n4_ n5_ ⊢
                  have BK705 := n0_
                  have BK706 := n1_
                  have BK713 := n2_
                  have BK714 := n3_
                  have BK718 := n4_
                  have HB := n5_
                  clear n0_ n1_ n2_ n3_ n4_ n5_
                  have n0_ := Bk.mk (blk_drew BK705.out)
                  have n1_ := Bk.mk (blk_drew BK706.out)
                  have n2_ := Bk.mk (blk_drew BK713.out)
                  have n3_ := Bk.mk (blk_drew BK714.out)
                  have n4_ := Bk.mk (blk_drew BK718.out)
                  have n5_ := Bl.mk (below_drew1 HB.out)
                  clear BK705
                  clear BK706
                  clear BK713
                  clear BK714
                  clear BK718
                  clear HB
                  have BK705 := n0_
                  have BK706 := n1_
                  have BK713 := n2_
                  have BK714 := n3_
                  have BK718 := n4_
                  have HB := n5_
                  clear n0_ n1_ n2_ n3_ n4_ n5_
                  refine start_ (n := 26) (S := fun w' => w'.cell? ⟨gb718, 0, none⟩ = some (.bool t715) ∧ w'.cell? ⟨gb718, 1, none⟩ = some (.int .i64 t716) ∧ w'.cell? ⟨gb718, 2, none⟩ = some (.int .i64 t717) ∧ w'.cell? ⟨gb705, 0, none⟩ = some (.bool t699) ∧ w'.cell? ⟨gb705, 1, none⟩ = some (.int .i64 t700) ∧ w'.cell? ⟨gb705, 2, none⟩ = some (.int .i64 t701) ∧ w'.cell? ⟨gb706, 0, none⟩ = some (.bool t702) ∧ w'.cell? ⟨gb706, 1, none⟩ = some (.int .i64 t703) ∧ w'.cell? ⟨gb706, 2, none⟩ = some (.int .i64 t704) ∧ w'.cell? ⟨gb713, 0, none⟩ = some (.bool t707) ∧ w'.cell? ⟨gb713, 1, none⟩ = some (.int .i64 t708) ∧ w'.cell? ⟨gb713, 2, none⟩ = some (.int .i64 t709)) (ds := []) #[false, false, false, false, false, false, false, false, false, false, false, false, false, false, false, false, false, false, false, false, false, false, false, false, false, false] (by kernel_rfl) rfl rfl ⟨(blk_cell BK718.out 0).trans rfl, (blk_cell BK718.out 1).trans rfl, (blk_cell BK718.out 2).trans rfl, (blk_cell BK705.out 0).trans rfl, (blk_cell BK705.out 1).trans rfl, (blk_cell BK705.out 2).trans rfl, (blk_cell BK706.out 0).trans rfl, (blk_cell BK706.out 1).trans rfl, (blk_cell BK706.out 2).trans rfl, (blk_cell BK713.out 0).trans rfl, (blk_cell BK713.out 1).trans rfl, (blk_cell BK713.out 2).trans rfl⟩ (fun hHeld => ?_); refine with_tabW laws_FnDoMore.tab6 laws_FnDoMore.bits6 (fun HT_ HW_ => ?_)
                  generalize w54.drew = w55 at BK705 BK706 BK713 BK714 BK718 HB hHeld ⊢
                  refine pure_ (i := 1) (N := some 35) (v := ?_) (a' := ?_) #[false, true, false, false, false, false, false, false, false, false, false, false, false, false, false, false, false, false, false, false, false, false, false, false, false, false] rfl rfl (any_of HT_.out (by kernel_rfl)) (fun _ _ _ h => h) (Or.inl ⟨by rfl, ?_⟩) ?_ ?_
                  rotate_left
                  · intro w'
                    go_simp
                    with_reducible rfl
                  rotate_left
                  · simp only [Act.put, List.setIfInBounds_toArray, List.set_cons_zero, List.set_cons_succ, i64_w, i32_w]
                    rfl
                  refine take_ (i := 0) (N := some 34) (v := ?_) (a' := ?_) #[true, true, false, false, false, false, false, false, false, false, false, false, false, false, false, false, false, false, false, false, false, false, false, false, false, false] rfl rfl (take_ofW HT_.out HW_.out (by kernel_rfl)) (fun _ _ _ h => h) (Or.inl ⟨by rfl, ?_⟩) hHeld ?_ ?_
                  rotate_left
                  · rintro w' ⟨s0, s1, s2, s3, s4, s5, s6, s7, s8, s9, s10, s11⟩
                    go_simp
                    with_reducible rfl
                  rotate_left
                  · simp only [Act.put, List.setIfInBounds_toArray, List.set_cons_zero, List.set_cons_succ, i64_w, i32_w]
                    rfl
                  refine take_ (i := 2) (N := some 36) (v := ?_) (a' := ?_) #[true, true, true, false, false, false, false, false, false, false, false, false, false, false, false, false, false, false, false, false, false, false, false, false, false, false] rfl rfl (take_ofW HT_.out HW_.out (by kernel_rfl)) (fun _ _ _ h => h) (Or.inl ⟨by rfl, ?_⟩) hHeld ?_ ?_
                  rotate_left
                  · rintro w' ⟨s0, s1, s2, s3, s4, s5, s6, s7, s8, s9, s10, s11⟩
                    go_simp
                    with_reducible rfl
                  rotate_left
                  · simp only [Act.put, List.setIfInBounds_toArray, List.set_cons_zero, List.set_cons_succ, i64_w, i32_w]
                    rfl
                  refine take_ (i := 3) (N := some 37) (v := ?_) (a' := ?_) #[true, true, true, true, false, false, false, false, false, false, false, false, false, false, false, false, false, false, false, false, false, false, false, false, false, false] rfl rfl (take_ofW HT_.out HW_.out (by kernel_rfl)) (fun _ _ _ h => h) (Or.inl ⟨by rfl, ?_⟩) hHeld ?_ ?_
                  rotate_left
                  · rintro w' ⟨s0, s1, s2, s3, s4, s5, s6, s7, s8, s9, s10, s11⟩
                    go_simp
                    with_reducible rfl
                  rotate_left
                  · simp only [Act.put, List.setIfInBounds_toArray, List.set_cons_zero, List.set_cons_succ, i64_w, i32_w]
                    rfl
                  refine one_ (i := 4) (N := some 38) #[true, true, true, true, true, false, false, false, false, false, false, false, false, false, false, false, false, false, false, false, false, false, false, false, false, false] rfl rfl (one_of HT_.out (by kernel_rfl)) (by decide) (fun K hK => ?_)
                  refine goes_ Try.func21 (by kernel_rfl) rfl #[.int .i64 t698, .agg #[.bool t699, .int .i64 t700, .int .i64 t701], .agg #[.bool t702, .int .i64 t703, .int .i64 t704]] (by rfl) rfl rfl (by (try simp only [List.map_toArray, List.map_cons, List.map_nil]); first | done | rfl | (simp only [List.length_drop, List.length_take]; rfl)) ?_
                  with_reducible refine (spec_SpanDo.calls kj2 t698 t699 t700 t701 t702 t703 t704 t719 t720 t721 _ A35.out).mono ?_
                  rintro e w56 ⟨rfl, hb⟩
                  refine ⟨_, rfl, ?_⟩
                  have n0_ := Bk.mk (blk_below (g := gb705) bk hb)
                  have n1_ := Bk.mk (blk_below (g := gb706) bk hb)
                  have n2_ := Bk.mk (blk_below (g := gb713) bk hb)
                  have n3_ := Bk.mk (blk_below (g := gb714) bk hb)
                  have n4_ := Bk.mk (blk_below (g := gb718) bk hb)
                  have n5_ := Bl.mk (below_step bl hb)
                  clear BK705
                  clear BK706
                  clear BK713
                  clear BK714
                  clear BK718
                  clear HB
                  have BK705 := n0_
                  have BK706 := n1_
                  have BK713 := n2_
                  have BK714 := n3_
                  have BK718 := n4_
                  have HB := n5_
                  clear n0_ n1_ n2_ n3_ n4_ n5_
                  (try clear hb)
                  (try clear hb2)
                  (try clear hk)
                  (try clear hi)
                  refine hK.out _ _ ⟨(blk_cell BK718.out 0).trans rfl, (blk_cell BK718.out 1).trans rfl, (blk_cell BK718.out 2).trans rfl, (blk_cell BK705.out 0).trans rfl, (blk_cell BK705.out 1).trans rfl, (blk_cell BK705.out 2).trans rfl, (blk_cell BK706.out 0).trans rfl, (blk_cell BK706.out 1).trans rfl, (blk_cell BK706.out 2).trans rfl, (blk_cell BK713.out 0).trans rfl, (blk_cell BK713.out 1).trans rfl, (blk_cell BK713.out 2).trans rfl⟩ (fun hHeld => ?_)
                  clear hK K
                  refine norm_ (a' := ?_) ?_ ?_
                  rotate_left
                  · show Act.put _ (some 38) _ = _
                    simp only [Act.put, List.setIfInBounds_toArray, List.set_cons_zero, List.set_cons_succ, i64_w, i32_w]
                    rfl
                  refine pure_ (i := 5) (N := some 39) (v := ?_) (a' := ?_) #[true, true, true, true, true, true, false, false, false, false, false, false, false, false, false, false, false, false, false, false, false, false, false, false, false, false] rfl rfl (any_of HT_.out (by kernel_rfl)) (fun _ _ _ h => h) (Or.inl ⟨by rfl, ?_⟩) ?_ ?_
                  rotate_left
                  · intro w'
                    go_simp
                    with_reducible rfl
                  rotate_left
                  · simp only [Act.put, List.setIfInBounds_toArray, List.set_cons_zero, List.set_cons_succ, i64_w, i32_w]
                    rfl
                  refine pure_ (i := 6) (N := some 40) (v := ?_) (a' := ?_) #[true, true, true, true, true, true, true, false, false, false, false, false, false, false, false, false, false, false, false, false, false, false, false, false, false, false] rfl rfl (any_of HT_.out (by kernel_rfl)) (fun _ _ _ h => h) (Or.inl ⟨by rfl, ?_⟩) ?_ ?_
                  rotate_left
                  · intro w'
                    go_simp
                    with_reducible rfl
                  rotate_left
                  · simp only [Act.put, List.setIfInBounds_toArray, List.set_cons_zero, List.set_cons_succ, i64_w, i32_w]
                    rfl
                  refine take_ (i := 7) (N := some 41) (v := ?_) (a' := ?_) #[true, true, true, true, true, true, true, true, false, false, false, false, false, false, false, false, false, false, false, false, false, false, false, false, false, false] rfl rfl (take_ofW HT_.out HW_.out (by kernel_rfl)) (fun _ _ _ h => h) (Or.inl ⟨by rfl, ?_⟩) hHeld ?_ ?_
                  rotate_left
                  · rintro w' ⟨s0, s1, s2, s3, s4, s5, s6, s7, s8, s9, s10, s11⟩
                    go_simp
                    with_reducible rfl
                  rotate_left
                  · simp only [Act.put, List.setIfInBounds_toArray, List.set_cons_zero, List.set_cons_succ, i64_w, i32_w]
                    rfl
                  refine one_ (i := 8) (N := some 42) #[true, true, true, true, true, true, true, true, true, false, false, false, false, false, false, false, false, false, false, false, false, false, false, false, false, false] rfl rfl (one_of HT_.out (by kernel_rfl)) (by decide) (fun K hK => ?_)
                  refine goes_ Try.func15 (by kernel_rfl) rfl #[.agg #[.bool t699, .int .i64 t700, .int .i64 t701]] (by rfl) rfl rfl (by (try simp only [List.map_toArray, List.map_cons, List.map_nil]); first | done | rfl | (simp only [List.length_drop, List.length_take]; rfl)) ?_
                  with_reducible refine (spec_SpanOk.calls t699 t700 t701 true _ A40.out).mono ?_
                  rintro e w57 ⟨rfl, hb⟩
                  refine ⟨_, rfl, ?_⟩
                  have n0_ := Bk.mk (blk_below (g := gb705) bk hb)
                  have n1_ := Bk.mk (blk_below (g := gb706) bk hb)
                  have n2_ := Bk.mk (blk_below (g := gb713) bk hb)
                  have n3_ := Bk.mk (blk_below (g := gb714) bk hb)
                  have n4_ := Bk.mk (blk_below (g := gb718) bk hb)
                  have n5_ := Bl.mk (below_step bl hb)
                  clear BK705
                  clear BK706
                  clear BK713
                  clear BK714
                  clear BK718
                  clear HB
                  have BK705 := n0_
                  have BK706 := n1_
                  have BK713 := n2_
                  have BK714 := n3_
                  have BK718 := n4_
                  have HB := n5_
                  clear n0_ n1_ n2_ n3_ n4_ n5_
                  (try clear hb)
                  (try clear hb2)
                  (try clear hk)
                  (try clear hi)
                  refine hK.out _ _ ⟨(blk_cell BK718.out 0).trans rfl, (blk_cell BK718.out 1).trans rfl, (blk_cell BK718.out 2).trans rfl, (blk_cell BK705.out 0).trans rfl, (blk_cell BK705.out 1).trans rfl, (blk_cell BK705.out 2).trans rfl, (blk_cell BK706.out 0).trans rfl, (blk_cell BK706.out 1).trans rfl, (blk_cell BK706.out 2).trans rfl, (blk_cell BK713.out 0).trans rfl, (blk_cell BK713.out 1).trans rfl, (blk_cell BK713.out 2).trans rfl⟩ (fun hHeld => ?_)
                  clear hK K
                  refine norm_ (a' := ?_) ?_ ?_
                  rotate_left
                  · show Act.put _ (some 42) _ = _
                    simp only [Act.put, List.setIfInBounds_toArray, List.set_cons_zero, List.set_cons_succ, i64_w, i32_w]
                    rfl
                  refine pure_ (i := 9) (N := some 43) (v := ?_) (a' := ?_) #[true, true, true, true, true, true, true, true, true, true, false, false, false, false, false, false, false, false, false, false, false, false, false, false, false, false] rfl rfl (any_of HT_.out (by kernel_rfl)) (fun _ _ _ h => h) (Or.inl ⟨by rfl, ?_⟩) ?_ ?_
                  rotate_left
                  · intro w'
                    go_simp
                    with_reducible rfl
                  rotate_left
                  · simp only [Act.put, List.setIfInBounds_toArray, List.set_cons_zero, List.set_cons_succ, i64_w, i32_w]
                    rfl
                  refine pure_ (i := 10) (N := some 44) (v := ?_) (a' := ?_) #[true, true, true, true, true, true, true, true, true, true, true, false, false, false, false, false, false, false, false, false, false, false, false, false, false, false] rfl rfl (any_of HT_.out (by kernel_rfl)) (fun _ _ _ h => h) (Or.inl ⟨by rfl, ?_⟩) ?_ ?_
                  rotate_left
                  · intro w'
                    go_simp
                    with_reducible rfl
                  rotate_left
                  · simp only [Act.put, List.setIfInBounds_toArray, List.set_cons_zero, List.set_cons_succ, i64_w, i32_w]
                    rfl
                  refine pure_ (i := 11) (N := some 45) (v := ?_) (a' := ?_) #[true, true, true, true, true, true, true, true, true, true, true, true, false, false, false, false, false, false, false, false, false, false, false, false, false, false] rfl rfl (any_of HT_.out (by kernel_rfl)) (fun _ _ _ h => h) (Or.inl ⟨by rfl, ?_⟩) ?_ ?_
                  rotate_left
                  · intro w'
                    go_simp
                    with_reducible rfl
                  rotate_left
                  · simp only [Act.put, List.setIfInBounds_toArray, List.set_cons_zero, List.set_cons_succ, i64_w, i32_w]
                    rfl
                  refine take_ (i := 12) (N := some 46) (v := ?_) (a' := ?_) #[true, true, true, true, true, true, true, true, true, true, true, true, true, false, false, false, false, false, false, false, false, false, false, false, false, false] rfl rfl (take_ofW HT_.out HW_.out (by kernel_rfl)) (fun _ _ _ h => h) (Or.inl ⟨by rfl, ?_⟩) hHeld ?_ ?_
                  rotate_left
                  · rintro w' ⟨s0, s1, s2, s3, s4, s5, s6, s7, s8, s9, s10, s11⟩
                    go_simp
                    with_reducible rfl
                  rotate_left
                  · simp only [Act.put, List.setIfInBounds_toArray, List.set_cons_zero, List.set_cons_succ, i64_w, i32_w]
                    rfl
                  refine one_ (i := 13) (N := some 47) #[true, true, true, true, true, true, true, true, true, true, true, true, true, true, false, false, false, false, false, false, false, false, false, false, false, false] rfl rfl (one_of HT_.out (by kernel_rfl)) (by decide) (fun K hK => ?_)
                  refine goes_ Try.func15 (by kernel_rfl) rfl #[.agg #[.bool t702, .int .i64 t703, .int .i64 t704]] (by rfl) rfl rfl (by (try simp only [List.map_toArray, List.map_cons, List.map_nil]); first | done | rfl | (simp only [List.length_drop, List.length_take]; rfl)) ?_
                  with_reducible refine (spec_SpanOk.calls t702 t703 t704 true _ A42.out).mono ?_
                  rintro e w58 ⟨rfl, hb⟩
                  refine ⟨_, rfl, ?_⟩
                  have n0_ := Bk.mk (blk_below (g := gb705) bk hb)
                  have n1_ := Bk.mk (blk_below (g := gb706) bk hb)
                  have n2_ := Bk.mk (blk_below (g := gb713) bk hb)
                  have n3_ := Bk.mk (blk_below (g := gb714) bk hb)
                  have n4_ := Bk.mk (blk_below (g := gb718) bk hb)
                  have n5_ := Bl.mk (below_step bl hb)
                  clear BK705
                  clear BK706
                  clear BK713
                  clear BK714
                  clear BK718
                  clear HB
                  have BK705 := n0_
                  have BK706 := n1_
                  have BK713 := n2_
                  have BK714 := n3_
                  have BK718 := n4_
                  have HB := n5_
                  clear n0_ n1_ n2_ n3_ n4_ n5_
                  (try clear hb)
                  (try clear hb2)
                  (try clear hk)
                  (try clear hi)
                  refine hK.out _ _ ⟨(blk_cell BK718.out 0).trans rfl, (blk_cell BK718.out 1).trans rfl, (blk_cell BK718.out 2).trans rfl, (blk_cell BK705.out 0).trans rfl, (blk_cell BK705.out 1).trans rfl, (blk_cell BK705.out 2).trans rfl, (blk_cell BK706.out 0).trans rfl, (blk_cell BK706.out 1).trans rfl, (blk_cell BK706.out 2).trans rfl, (blk_cell BK713.out 0).trans rfl, (blk_cell BK713.out 1).trans rfl, (blk_cell BK713.out 2).trans rfl⟩ (fun hHeld => ?_)
                  clear hK K
                  refine norm_ (a' := ?_) ?_ ?_
                  rotate_left
                  · show Act.put _ (some 47) _ = _
                    simp only [Act.put, List.setIfInBounds_toArray, List.set_cons_zero, List.set_cons_succ, i64_w, i32_w]
                    rfl
                  refine pure_ (i := 14) (N := some 48) (v := ?_) (a' := ?_) #[true, true, true, true, true, true, true, true, true, true, true, true, true, true, true, false, false, false, false, false, false, false, false, false, false, false] rfl rfl (any_of HT_.out (by kernel_rfl)) (fun _ _ _ h => h) (Or.inl ⟨by rfl, ?_⟩) ?_ ?_
                  rotate_left
                  · intro w'
                    go_simp
                    with_reducible rfl
                  rotate_left
                  · simp only [Act.put, List.setIfInBounds_toArray, List.set_cons_zero, List.set_cons_succ, i64_w, i32_w]
                    rfl
                  refine pure_ (i := 15) (N := some 49) (v := ?_) (a' := ?_) #[true, true, true, true, true, true, true, true, true, true, true, true, true, true, true, true, false, false, false, false, false, false, false, false, false, false] rfl rfl (any_of HT_.out (by kernel_rfl)) (fun _ _ _ h => h) (Or.inl ⟨by rfl, ?_⟩) ?_ ?_
                  rotate_left
                  · intro w'
                    go_simp
                    with_reducible rfl
                  rotate_left
                  · simp only [Act.put, List.setIfInBounds_toArray, List.set_cons_zero, List.set_cons_succ, i64_w, i32_w]
                    rfl
                  refine pure_ (i := 16) (N := some 50) (v := ?_) (a' := ?_) #[true, true, true, true, true, true, true, true, true, true, true, true, true, true, true, true, true, false, false, false, false, false, false, false, false, false] rfl rfl (any_of HT_.out (by kernel_rfl)) (fun _ _ _ h => h) (Or.inl ⟨by rfl, ?_⟩) ?_ ?_
                  rotate_left
                  · intro w'
                    go_simp
                    with_reducible rfl
                  rotate_left
                  · simp only [Act.put, List.setIfInBounds_toArray, List.set_cons_zero, List.set_cons_succ, i64_w, i32_w]
                    rfl
                  refine take_ (i := 17) (N := some 51) (v := ?_) (a' := ?_) #[true, true, true, true, true, true, true, true, true, true, true, true, true, true, true, true, true, true, false, false, false, false, false, false, false, false] rfl rfl (take_ofW HT_.out HW_.out (by kernel_rfl)) (fun _ _ _ h => h) (Or.inl ⟨by rfl, ?_⟩) hHeld ?_ ?_
                  rotate_left
                  · rintro w' ⟨s0, s1, s2, s3, s4, s5, s6, s7, s8, s9, s10, s11⟩
                    go_simp
                    with_reducible rfl
                  rotate_left
                  · simp only [Act.put, List.setIfInBounds_toArray, List.set_cons_zero, List.set_cons_succ, i64_w, i32_w]
                    rfl
                  refine one_ (i := 18) (N := some 52) #[true, true, true, true, true, true, true, true, true, true, true, true, true, true, true, true, true, true, true, false, false, false, false, false, false, false] rfl rfl (one_of HT_.out (by kernel_rfl)) (by decide) (fun K hK => ?_)
                  refine goes_ Try.func15 (by kernel_rfl) rfl #[.agg #[.bool t707, .int .i64 t708, .int .i64 t709]] (by rfl) rfl rfl (by (try simp only [List.map_toArray, List.map_cons, List.map_nil]); first | done | rfl | (simp only [List.length_drop, List.length_take]; rfl)) ?_
                  with_reducible refine (spec_SpanOk.calls t707 t708 t709 false _ A44.out).mono ?_
                  rintro e w59 ⟨rfl, hb⟩
                  refine ⟨_, rfl, ?_⟩
                  have n0_ := Bk.mk (blk_below (g := gb705) bk hb)
                  have n1_ := Bk.mk (blk_below (g := gb706) bk hb)
                  have n2_ := Bk.mk (blk_below (g := gb713) bk hb)
                  have n3_ := Bk.mk (blk_below (g := gb714) bk hb)
                  have n4_ := Bk.mk (blk_below (g := gb718) bk hb)
                  have n5_ := Bl.mk (below_step bl hb)
                  clear BK705
                  clear BK706
                  clear BK713
                  clear BK714
                  clear BK718
                  clear HB
                  have BK705 := n0_
                  have BK706 := n1_
                  have BK713 := n2_
                  have BK714 := n3_
                  have BK718 := n4_
                  have HB := n5_
                  clear n0_ n1_ n2_ n3_ n4_ n5_
                  (try clear hb)
                  (try clear hb2)
                  (try clear hk)
                  (try clear hi)
                  refine hK.out _ _ ⟨(blk_cell BK718.out 0).trans rfl, (blk_cell BK718.out 1).trans rfl, (blk_cell BK718.out 2).trans rfl, (blk_cell BK705.out 0).trans rfl, (blk_cell BK705.out 1).trans rfl, (blk_cell BK705.out 2).trans rfl, (blk_cell BK706.out 0).trans rfl, (blk_cell BK706.out 1).trans rfl, (blk_cell BK706.out 2).trans rfl, (blk_cell BK713.out 0).trans rfl, (blk_cell BK713.out 1).trans rfl, (blk_cell BK713.out 2).trans rfl⟩ (fun hHeld => ?_)
                  clear hK K
                  refine norm_ (a' := ?_) ?_ ?_
                  rotate_left
                  · show Act.put _ (some 52) _ = _
                    simp only [Act.put, List.setIfInBounds_toArray, List.set_cons_zero, List.set_cons_succ, i64_w, i32_w]
                    rfl
                  refine pure_ (i := 19) (N := some 53) (v := ?_) (a' := ?_) #[true, true, true, true, true, true, true, true, true, true, true, true, true, true, true, true, true, true, true, true, false, false, false, false, false, false] rfl rfl (any_of HT_.out (by kernel_rfl)) (fun _ _ _ h => h) (Or.inl ⟨by rfl, ?_⟩) ?_ ?_
                  rotate_left
                  · intro w'
                    go_simp
                    with_reducible rfl
                  rotate_left
                  · simp only [Act.put, List.setIfInBounds_toArray, List.set_cons_zero, List.set_cons_succ, i64_w, i32_w]
                    rfl
                  refine pure_ (i := 20) (N := some 54) (v := ?_) (a' := ?_) #[true, true, true, true, true, true, true, true, true, true, true, true, true, true, true, true, true, true, true, true, true, false, false, false, false, false] rfl rfl (any_of HT_.out (by kernel_rfl)) (fun _ _ _ h => h) (Or.inl ⟨by rfl, ?_⟩) ?_ ?_
                  rotate_left
                  · intro w'
                    go_simp
                    with_reducible rfl
                  rotate_left
                  · simp only [Act.put, List.setIfInBounds_toArray, List.set_cons_zero, List.set_cons_succ, i64_w, i32_w]
                    rfl
                  refine pure_ (i := 21) (N := some 55) (v := ?_) (a' := ?_) #[true, true, true, true, true, true, true, true, true, true, true, true, true, true, true, true, true, true, true, true, true, true, false, false, false, false] rfl rfl (any_of HT_.out (by kernel_rfl)) (fun _ _ _ h => h) (Or.inl ⟨by rfl, ?_⟩) ?_ ?_
                  rotate_left
                  · intro w'
                    go_simp
                    with_reducible rfl
                  rotate_left
                  · simp only [Act.put, List.setIfInBounds_toArray, List.set_cons_zero, List.set_cons_succ, i64_w, i32_w]
                    rfl
                  refine pure_ (i := 22) (N := some 56) (v := undef) (a' := ?_) #[true, true, true, true, true, true, true, true, true, true, true, true, true, true, true, true, true, true, true, true, true, true, true, false, false, false] rfl rfl (any_of HT_.out (by kernel_rfl)) (fun _ _ _ h => h) (Or.inr ⟨by rfl, rfl⟩) ?_ ?_
                  rotate_left
                  · simp only [Act.put, List.setIfInBounds_toArray, List.set_cons_zero, List.set_cons_succ, i64_w, i32_w]
                    rfl
                  refine pure_ (i := 23) (N := some 57) (v := undef) (a' := ?_) #[true, true, true, true, true, true, true, true, true, true, true, true, true, true, true, true, true, true, true, true, true, true, true, true, false, false] rfl rfl (any_of HT_.out (by kernel_rfl)) (fun _ _ _ h => h) (Or.inr ⟨by rfl, rfl⟩) ?_ ?_
                  rotate_left
                  · simp only [Act.put, List.setIfInBounds_toArray, List.set_cons_zero, List.set_cons_succ, i64_w, i32_w]
                    rfl
                  refine pure_ (i := 24) (N := some 58) (v := undef) (a' := ?_) #[true, true, true, true, true, true, true, true, true, true, true, true, true, true, true, true, true, true, true, true, true, true, true, true, true, false] rfl rfl (any_of HT_.out (by kernel_rfl)) (fun _ _ _ h => h) (Or.inr ⟨by rfl, rfl⟩) ?_ ?_
                  rotate_left
                  · simp only [Act.put, List.setIfInBounds_toArray, List.set_cons_zero, List.set_cons_succ, i64_w, i32_w]
                    rfl
                  refine pure_ (i := 25) (N := some 59) (v := ?_) (a' := ?_) #[true, true, true, true, true, true, true, true, true, true, true, true, true, true, true, true, true, true, true, true, true, true, true, true, true, true] rfl rfl (any_of HT_.out (by kernel_rfl)) (fun _ _ _ h => h) (Or.inl ⟨by rfl, ?_⟩) ?_ ?_
                  rotate_left
                  · intro w'
                    go_simp
                    with_reducible rfl
                  rotate_left
                  · simp only [Act.put, List.setIfInBounds_toArray, List.set_cons_zero, List.set_cons_succ, i64_w, i32_w]
                    rfl
                  refine done_ (done_of HT_.out (by kernel_rfl)) ?_
                  try go_wp2
                  go_meet
                  case rel => exact ⟨_, (true), (by first | rfl | (simp; done) | (simp [*]; done)), H', ⟨by have := HJ2.out; first | omega | exact Nat.le_refl _⟩, ⟨bk⟩, ⟨bk⟩, ⟨bk⟩, ⟨bk⟩, ⟨bk⟩, ⟨bl⟩⟩
              · replace c43 := Bool.eq_false_iff.mpr c43
                subst c43
                rw [if_neg (show ¬ (false = true) by decide)] at H
                have H' := Aside0.mk H
                clear H
                try go_wp2
                have n0_ : Bk (((w29.setCell ⟨gb718, 0, none⟩ (.bool t715)).setCell ⟨gb718, 1, none⟩ (.int .i64 t716)).setCell ⟨gb718, 2, none⟩ (.int .i64 t717)) gb705 (.cells #[.bool t699, .int .i64 t700, .int .i64 t701] 30 (0, 0)) := ⟨bk⟩
                have n1_ : Bk (((w29.setCell ⟨gb718, 0, none⟩ (.bool t715)).setCell ⟨gb718, 1, none⟩ (.int .i64 t716)).setCell ⟨gb718, 2, none⟩ (.int .i64 t717)) gb706 (.cells #[.bool t702, .int .i64 t703, .int .i64 t704] 30 (0, 0)) := ⟨bk⟩
                have n2_ : Bk (((w29.setCell ⟨gb718, 0, none⟩ (.bool t715)).setCell ⟨gb718, 1, none⟩ (.int .i64 t716)).setCell ⟨gb718, 2, none⟩ (.int .i64 t717)) gb713 (.cells #[.bool t707, .int .i64 t708, .int .i64 t709] 30 (0, 0)) := ⟨bk⟩
                have n3_ : Bk (((w29.setCell ⟨gb718, 0, none⟩ (.bool t715)).setCell ⟨gb718, 1, none⟩ (.int .i64 t716)).setCell ⟨gb718, 2, none⟩ (.int .i64 t717)) gb714 (.cells #[.bool t710, .int .i64 t711, .int .i64 t712] 30 (0, 0)) := ⟨bk⟩
                have n4_ : Bk (((w29.setCell ⟨gb718, 0, none⟩ (.bool t715)).setCell ⟨gb718, 1, none⟩ (.int .i64 t716)).setCell ⟨gb718, 2, none⟩ (.int .i64 t717)) gb718 (.cells #[.bool t715, .int .i64 t716, .int .i64 t717] 30 (0, 0)) := ⟨bk⟩
                have n5_ : Bl w.heap.size w (((w29.setCell ⟨gb718, 0, none⟩ (.bool t715)).setCell ⟨gb718, 1, none⟩ (.int .i64 t716)).setCell ⟨gb718, 2, none⟩ (.int .i64 t717)) := ⟨bl⟩
                (try clear BK705)
                (try clear BK706)
                (try clear BK713)
                (try clear BK714)
                (try clear BK718)
                (try clear HB)
                generalize (((w29.setCell ⟨gb718, 0, none⟩ (.bool t715)).setCell ⟨gb718, 1, none⟩ (.int .i64 t716)).setCell ⟨gb718, 2, none⟩ (.int .i64 t717)) = w60 at n0_ n1_ n2_ n3_ n4_ n5_ ⊢
                have BK705 := n0_
                have BK706 := n1_
                have BK713 := n2_
                have BK714 := n3_
                have BK718 := n4_
                have HB := n5_
                clear n0_ n1_ n2_ n3_ n4_ n5_
                have n0_ := Bk.mk (blk_drew BK705.out)
                have n1_ := Bk.mk (blk_drew BK706.out)
                have n2_ := Bk.mk (blk_drew BK713.out)
                have n3_ := Bk.mk (blk_drew BK714.out)
                have n4_ := Bk.mk (blk_drew BK718.out)
                have n5_ := Bl.mk (below_drew1 HB.out)
                clear BK705
                clear BK706
                clear BK713
                clear BK714
                clear BK718
                clear HB
                have BK705 := n0_
                have BK706 := n1_
                have BK713 := n2_
                have BK714 := n3_
                have BK718 := n4_
                have HB := n5_
                clear n0_ n1_ n2_ n3_ n4_ n5_
                refine start_ (n := 26) (S := fun w' => w'.cell? ⟨gb718, 0, none⟩ = some (.bool t715) ∧ w'.cell? ⟨gb718, 1, none⟩ = some (.int .i64 t716) ∧ w'.cell? ⟨gb718, 2, none⟩ = some (.int .i64 t717) ∧ w'.cell? ⟨gb705, 0, none⟩ = some (.bool t699) ∧ w'.cell? ⟨gb705, 1, none⟩ = some (.int .i64 t700) ∧ w'.cell? ⟨gb705, 2, none⟩ = some (.int .i64 t701) ∧ w'.cell? ⟨gb706, 0, none⟩ = some (.bool t702) ∧ w'.cell? ⟨gb706, 1, none⟩ = some (.int .i64 t703) ∧ w'.cell? ⟨gb706, 2, none⟩ = some (.int .i64 t704)) (ds := []) #[false, false, false, false, false, false, false, false, false, false, false, false, false, false, false, false, false, false, false, false, false, false, false, false, false, false] (by kernel_rfl) rfl rfl ⟨(blk_cell BK718.out 0).trans rfl, (blk_cell BK718.out 1).trans rfl, (blk_cell BK718.out 2).trans rfl, (blk_cell BK705.out 0).trans rfl, (blk_cell BK705.out 1).trans rfl, (blk_cell BK705.out 2).trans rfl, (blk_cell BK706.out 0).trans rfl, (blk_cell BK706.out 1).trans rfl, (blk_cell BK706.out 2).trans rfl⟩ (fun hHeld => ?_); refine with_tabW laws_FnDoMore.tab6 laws_FnDoMore.bits6 (fun HT_ HW_ => ?_)
                generalize w60.drew = w61 at BK705 BK706 BK713 BK714 BK718 HB hHeld ⊢
                refine pure_ (i := 1) (N := some 35) (v := ?_) (a' := ?_) #[false, true, false, false, false, false, false, false, false, false, false, false, false, false, false, false, false, false, false, false, false, false, false, false, false, false] rfl rfl (any_of HT_.out (by kernel_rfl)) (fun _ _ _ h => h) (Or.inl ⟨by rfl, ?_⟩) ?_ ?_
                rotate_left
                · intro w'
                  go_simp
                  with_reducible rfl
                rotate_left
                · simp only [Act.put, List.setIfInBounds_toArray, List.set_cons_zero, List.set_cons_succ, i64_w, i32_w]
                  rfl
                refine take_ (i := 0) (N := some 34) (v := ?_) (a' := ?_) #[true, true, false, false, false, false, false, false, false, false, false, false, false, false, false, false, false, false, false, false, false, false, false, false, false, false] rfl rfl (take_ofW HT_.out HW_.out (by kernel_rfl)) (fun _ _ _ h => h) (Or.inl ⟨by rfl, ?_⟩) hHeld ?_ ?_
                rotate_left
                · rintro w' ⟨s0, s1, s2, s3, s4, s5, s6, s7, s8⟩
                  go_simp
                  with_reducible rfl
                rotate_left
                · simp only [Act.put, List.setIfInBounds_toArray, List.set_cons_zero, List.set_cons_succ, i64_w, i32_w]
                  rfl
                refine take_ (i := 2) (N := some 36) (v := ?_) (a' := ?_) #[true, true, true, false, false, false, false, false, false, false, false, false, false, false, false, false, false, false, false, false, false, false, false, false, false, false] rfl rfl (take_ofW HT_.out HW_.out (by kernel_rfl)) (fun _ _ _ h => h) (Or.inl ⟨by rfl, ?_⟩) hHeld ?_ ?_
                rotate_left
                · rintro w' ⟨s0, s1, s2, s3, s4, s5, s6, s7, s8⟩
                  go_simp
                  with_reducible rfl
                rotate_left
                · simp only [Act.put, List.setIfInBounds_toArray, List.set_cons_zero, List.set_cons_succ, i64_w, i32_w]
                  rfl
                refine take_ (i := 3) (N := some 37) (v := ?_) (a' := ?_) #[true, true, true, true, false, false, false, false, false, false, false, false, false, false, false, false, false, false, false, false, false, false, false, false, false, false] rfl rfl (take_ofW HT_.out HW_.out (by kernel_rfl)) (fun _ _ _ h => h) (Or.inl ⟨by rfl, ?_⟩) hHeld ?_ ?_
                rotate_left
                · rintro w' ⟨s0, s1, s2, s3, s4, s5, s6, s7, s8⟩
                  go_simp
                  with_reducible rfl
                rotate_left
                · simp only [Act.put, List.setIfInBounds_toArray, List.set_cons_zero, List.set_cons_succ, i64_w, i32_w]
                  rfl
                refine one_ (i := 4) (N := some 38) #[true, true, true, true, true, false, false, false, false, false, false, false, false, false, false, false, false, false, false, false, false, false, false, false, false, false] rfl rfl (one_of HT_.out (by kernel_rfl)) (by decide) (fun K hK => ?_)
                refine goes_ Try.func21 (by kernel_rfl) rfl #[.int .i64 t698, .agg #[.bool t699, .int .i64 t700, .int .i64 t701], .agg #[.bool t702, .int .i64 t703, .int .i64 t704]] (by rfl) rfl rfl (by (try simp only [List.map_toArray, List.map_cons, List.map_nil]); first | done | rfl | (simp only [List.length_drop, List.length_take]; rfl)) ?_
                with_reducible refine (spec_SpanDo.calls kj2 t698 t699 t700 t701 t702 t703 t704 t719 t720 t721 _ A35.out).mono ?_
                rintro e w62 ⟨rfl, hb⟩
                refine ⟨_, rfl, ?_⟩
                have n0_ := Bk.mk (blk_below (g := gb705) bk hb)
                have n1_ := Bk.mk (blk_below (g := gb706) bk hb)
                have n2_ := Bk.mk (blk_below (g := gb713) bk hb)
                have n3_ := Bk.mk (blk_below (g := gb714) bk hb)
                have n4_ := Bk.mk (blk_below (g := gb718) bk hb)
                have n5_ := Bl.mk (below_step bl hb)
                clear BK705
                clear BK706
                clear BK713
                clear BK714
                clear BK718
                clear HB
                have BK705 := n0_
                have BK706 := n1_
                have BK713 := n2_
                have BK714 := n3_
                have BK718 := n4_
                have HB := n5_
                clear n0_ n1_ n2_ n3_ n4_ n5_
                (try clear hb)
                (try clear hb2)
                (try clear hk)
                (try clear hi)
                refine hK.out _ _ ⟨(blk_cell BK718.out 0).trans rfl, (blk_cell BK718.out 1).trans rfl, (blk_cell BK718.out 2).trans rfl, (blk_cell BK705.out 0).trans rfl, (blk_cell BK705.out 1).trans rfl, (blk_cell BK705.out 2).trans rfl, (blk_cell BK706.out 0).trans rfl, (blk_cell BK706.out 1).trans rfl, (blk_cell BK706.out 2).trans rfl⟩ (fun hHeld => ?_)
                clear hK K
                refine norm_ (a' := ?_) ?_ ?_
                rotate_left
                · show Act.put _ (some 38) _ = _
                  simp only [Act.put, List.setIfInBounds_toArray, List.set_cons_zero, List.set_cons_succ, i64_w, i32_w]
                  rfl
                refine pure_ (i := 5) (N := some 39) (v := ?_) (a' := ?_) #[true, true, true, true, true, true, false, false, false, false, false, false, false, false, false, false, false, false, false, false, false, false, false, false, false, false] rfl rfl (any_of HT_.out (by kernel_rfl)) (fun _ _ _ h => h) (Or.inl ⟨by rfl, ?_⟩) ?_ ?_
                rotate_left
                · intro w'
                  go_simp
                  with_reducible rfl
                rotate_left
                · simp only [Act.put, List.setIfInBounds_toArray, List.set_cons_zero, List.set_cons_succ, i64_w, i32_w]
                  rfl
                refine pure_ (i := 6) (N := some 40) (v := ?_) (a' := ?_) #[true, true, true, true, true, true, true, false, false, false, false, false, false, false, false, false, false, false, false, false, false, false, false, false, false, false] rfl rfl (any_of HT_.out (by kernel_rfl)) (fun _ _ _ h => h) (Or.inl ⟨by rfl, ?_⟩) ?_ ?_
                rotate_left
                · intro w'
                  go_simp
                  with_reducible rfl
                rotate_left
                · simp only [Act.put, List.setIfInBounds_toArray, List.set_cons_zero, List.set_cons_succ, i64_w, i32_w]
                  rfl
                refine take_ (i := 7) (N := some 41) (v := ?_) (a' := ?_) #[true, true, true, true, true, true, true, true, false, false, false, false, false, false, false, false, false, false, false, false, false, false, false, false, false, false] rfl rfl (take_ofW HT_.out HW_.out (by kernel_rfl)) (fun _ _ _ h => h) (Or.inl ⟨by rfl, ?_⟩) hHeld ?_ ?_
                rotate_left
                · rintro w' ⟨s0, s1, s2, s3, s4, s5, s6, s7, s8⟩
                  go_simp
                  with_reducible rfl
                rotate_left
                · simp only [Act.put, List.setIfInBounds_toArray, List.set_cons_zero, List.set_cons_succ, i64_w, i32_w]
                  rfl
                refine one_ (i := 8) (N := some 42) #[true, true, true, true, true, true, true, true, true, false, false, false, false, false, false, false, false, false, false, false, false, false, false, false, false, false] rfl rfl (one_of HT_.out (by kernel_rfl)) (by decide) (fun K hK => ?_)
                refine goes_ Try.func15 (by kernel_rfl) rfl #[.agg #[.bool t699, .int .i64 t700, .int .i64 t701]] (by rfl) rfl rfl (by (try simp only [List.map_toArray, List.map_cons, List.map_nil]); first | done | rfl | (simp only [List.length_drop, List.length_take]; rfl)) ?_
                with_reducible refine (spec_SpanOk.calls t699 t700 t701 true _ A40.out).mono ?_
                rintro e w63 ⟨rfl, hb⟩
                refine ⟨_, rfl, ?_⟩
                have n0_ := Bk.mk (blk_below (g := gb705) bk hb)
                have n1_ := Bk.mk (blk_below (g := gb706) bk hb)
                have n2_ := Bk.mk (blk_below (g := gb713) bk hb)
                have n3_ := Bk.mk (blk_below (g := gb714) bk hb)
                have n4_ := Bk.mk (blk_below (g := gb718) bk hb)
                have n5_ := Bl.mk (below_step bl hb)
                clear BK705
                clear BK706
                clear BK713
                clear BK714
                clear BK718
                clear HB
                have BK705 := n0_
                have BK706 := n1_
                have BK713 := n2_
                have BK714 := n3_
                have BK718 := n4_
                have HB := n5_
                clear n0_ n1_ n2_ n3_ n4_ n5_
                (try clear hb)
                (try clear hb2)
                (try clear hk)
                (try clear hi)
                refine hK.out _ _ ⟨(blk_cell BK718.out 0).trans rfl, (blk_cell BK718.out 1).trans rfl, (blk_cell BK718.out 2).trans rfl, (blk_cell BK705.out 0).trans rfl, (blk_cell BK705.out 1).trans rfl, (blk_cell BK705.out 2).trans rfl, (blk_cell BK706.out 0).trans rfl, (blk_cell BK706.out 1).trans rfl, (blk_cell BK706.out 2).trans rfl⟩ (fun hHeld => ?_)
                clear hK K
                refine norm_ (a' := ?_) ?_ ?_
                rotate_left
                · show Act.put _ (some 42) _ = _
                  simp only [Act.put, List.setIfInBounds_toArray, List.set_cons_zero, List.set_cons_succ, i64_w, i32_w]
                  rfl
                refine pure_ (i := 9) (N := some 43) (v := ?_) (a' := ?_) #[true, true, true, true, true, true, true, true, true, true, false, false, false, false, false, false, false, false, false, false, false, false, false, false, false, false] rfl rfl (any_of HT_.out (by kernel_rfl)) (fun _ _ _ h => h) (Or.inl ⟨by rfl, ?_⟩) ?_ ?_
                rotate_left
                · intro w'
                  go_simp
                  with_reducible rfl
                rotate_left
                · simp only [Act.put, List.setIfInBounds_toArray, List.set_cons_zero, List.set_cons_succ, i64_w, i32_w]
                  rfl
                refine pure_ (i := 10) (N := some 44) (v := ?_) (a' := ?_) #[true, true, true, true, true, true, true, true, true, true, true, false, false, false, false, false, false, false, false, false, false, false, false, false, false, false] rfl rfl (any_of HT_.out (by kernel_rfl)) (fun _ _ _ h => h) (Or.inl ⟨by rfl, ?_⟩) ?_ ?_
                rotate_left
                · intro w'
                  go_simp
                  with_reducible rfl
                rotate_left
                · simp only [Act.put, List.setIfInBounds_toArray, List.set_cons_zero, List.set_cons_succ, i64_w, i32_w]
                  rfl
                refine pure_ (i := 11) (N := some 45) (v := ?_) (a' := ?_) #[true, true, true, true, true, true, true, true, true, true, true, true, false, false, false, false, false, false, false, false, false, false, false, false, false, false] rfl rfl (any_of HT_.out (by kernel_rfl)) (fun _ _ _ h => h) (Or.inl ⟨by rfl, ?_⟩) ?_ ?_
                rotate_left
                · intro w'
                  go_simp
                  with_reducible rfl
                rotate_left
                · simp only [Act.put, List.setIfInBounds_toArray, List.set_cons_zero, List.set_cons_succ, i64_w, i32_w]
                  rfl
                refine take_ (i := 12) (N := some 46) (v := ?_) (a' := ?_) #[true, true, true, true, true, true, true, true, true, true, true, true, true, false, false, false, false, false, false, false, false, false, false, false, false, false] rfl rfl (take_ofW HT_.out HW_.out (by kernel_rfl)) (fun _ _ _ h => h) (Or.inl ⟨by rfl, ?_⟩) hHeld ?_ ?_
                rotate_left
                · rintro w' ⟨s0, s1, s2, s3, s4, s5, s6, s7, s8⟩
                  go_simp
                  with_reducible rfl
                rotate_left
                · simp only [Act.put, List.setIfInBounds_toArray, List.set_cons_zero, List.set_cons_succ, i64_w, i32_w]
                  rfl
                refine one_ (i := 13) (N := some 47) #[true, true, true, true, true, true, true, true, true, true, true, true, true, true, false, false, false, false, false, false, false, false, false, false, false, false] rfl rfl (one_of HT_.out (by kernel_rfl)) (by decide) (fun K hK => ?_)
                refine goes_ Try.func15 (by kernel_rfl) rfl #[.agg #[.bool t702, .int .i64 t703, .int .i64 t704]] (by rfl) rfl rfl (by (try simp only [List.map_toArray, List.map_cons, List.map_nil]); first | done | rfl | (simp only [List.length_drop, List.length_take]; rfl)) ?_
                with_reducible refine (spec_SpanOk.calls t702 t703 t704 false _ A42.out).mono ?_
                rintro e w64 ⟨rfl, hb⟩
                refine ⟨_, rfl, ?_⟩
                have n0_ := Bk.mk (blk_below (g := gb705) bk hb)
                have n1_ := Bk.mk (blk_below (g := gb706) bk hb)
                have n2_ := Bk.mk (blk_below (g := gb713) bk hb)
                have n3_ := Bk.mk (blk_below (g := gb714) bk hb)
                have n4_ := Bk.mk (blk_below (g := gb718) bk hb)
                have n5_ := Bl.mk (below_step bl hb)
                clear BK705
                clear BK706
                clear BK713
                clear BK714
                clear BK718
                clear HB
                have BK705 := n0_
                have BK706 := n1_
                have BK713 := n2_
                have BK714 := n3_
                have BK718 := n4_
                have HB := n5_
                clear n0_ n1_ n2_ n3_ n4_ n5_
                (try clear hb)
                (try clear hb2)
                (try clear hk)
                (try clear hi)
                refine hK.out _ _ ⟨(blk_cell BK718.out 0).trans rfl, (blk_cell BK718.out 1).trans rfl, (blk_cell BK718.out 2).trans rfl, (blk_cell BK705.out 0).trans rfl, (blk_cell BK705.out 1).trans rfl, (blk_cell BK705.out 2).trans rfl, (blk_cell BK706.out 0).trans rfl, (blk_cell BK706.out 1).trans rfl, (blk_cell BK706.out 2).trans rfl⟩ (fun hHeld => ?_)
                clear hK K
                refine norm_ (a' := ?_) ?_ ?_
                rotate_left
                · show Act.put _ (some 47) _ = _
                  simp only [Act.put, List.setIfInBounds_toArray, List.set_cons_zero, List.set_cons_succ, i64_w, i32_w]
                  rfl
                refine pure_ (i := 14) (N := some 48) (v := ?_) (a' := ?_) #[true, true, true, true, true, true, true, true, true, true, true, true, true, true, true, false, false, false, false, false, false, false, false, false, false, false] rfl rfl (any_of HT_.out (by kernel_rfl)) (fun _ _ _ h => h) (Or.inl ⟨by rfl, ?_⟩) ?_ ?_
                rotate_left
                · intro w'
                  go_simp
                  with_reducible rfl
                rotate_left
                · simp only [Act.put, List.setIfInBounds_toArray, List.set_cons_zero, List.set_cons_succ, i64_w, i32_w]
                  rfl
                refine pure_ (i := 15) (N := some 49) (v := ?_) (a' := ?_) #[true, true, true, true, true, true, true, true, true, true, true, true, true, true, true, true, false, false, false, false, false, false, false, false, false, false] rfl rfl (any_of HT_.out (by kernel_rfl)) (fun _ _ _ h => h) (Or.inl ⟨by rfl, ?_⟩) ?_ ?_
                rotate_left
                · intro w'
                  go_simp
                  with_reducible rfl
                rotate_left
                · simp only [Act.put, List.setIfInBounds_toArray, List.set_cons_zero, List.set_cons_succ, i64_w, i32_w]
                  rfl
                refine pure_ (i := 16) (N := some 50) (v := ?_) (a' := ?_) #[true, true, true, true, true, true, true, true, true, true, true, true, true, true, true, true, true, false, false, false, false, false, false, false, false, false] rfl rfl (any_of HT_.out (by kernel_rfl)) (fun _ _ _ h => h) (Or.inl ⟨by rfl, ?_⟩) ?_ ?_
                rotate_left
                · intro w'
                  go_simp
                  with_reducible rfl
                rotate_left
                · simp only [Act.put, List.setIfInBounds_toArray, List.set_cons_zero, List.set_cons_succ, i64_w, i32_w]
                  rfl
                refine pure_ (i := 17) (N := some 51) (v := undef) (a' := ?_) #[true, true, true, true, true, true, true, true, true, true, true, true, true, true, true, true, true, true, false, false, false, false, false, false, false, false] rfl rfl (any_of HT_.out (by kernel_rfl)) (fun _ _ _ h => h) (Or.inr ⟨by rfl, rfl⟩) ?_ ?_
                rotate_left
                · simp only [Act.put, List.setIfInBounds_toArray, List.set_cons_zero, List.set_cons_succ, i64_w, i32_w]
                  rfl
                refine pure_ (i := 18) (N := some 52) (v := undef) (a' := ?_) #[true, true, true, true, true, true, true, true, true, true, true, true, true, true, true, true, true, true, true, false, false, false, false, false, false, false] rfl rfl (any_of HT_.out (by kernel_rfl)) (fun _ _ _ h => h) (Or.inr ⟨by rfl, rfl⟩) ?_ ?_
                rotate_left
                · simp only [Act.put, List.setIfInBounds_toArray, List.set_cons_zero, List.set_cons_succ, i64_w, i32_w]
                  rfl
                refine pure_ (i := 19) (N := some 53) (v := undef) (a' := ?_) #[true, true, true, true, true, true, true, true, true, true, true, true, true, true, true, true, true, true, true, true, false, false, false, false, false, false] rfl rfl (any_of HT_.out (by kernel_rfl)) (fun _ _ _ h => h) (Or.inr ⟨by rfl, rfl⟩) ?_ ?_
                rotate_left
                · simp only [Act.put, List.setIfInBounds_toArray, List.set_cons_zero, List.set_cons_succ, i64_w, i32_w]
                  rfl
                refine pure_ (i := 20) (N := some 54) (v := ?_) (a' := ?_) #[true, true, true, true, true, true, true, true, true, true, true, true, true, true, true, true, true, true, true, true, true, false, false, false, false, false] rfl rfl (any_of HT_.out (by kernel_rfl)) (fun _ _ _ h => h) (Or.inl ⟨by rfl, ?_⟩) ?_ ?_
                rotate_left
                · intro w'
                  go_simp
                  with_reducible rfl
                rotate_left
                · simp only [Act.put, List.setIfInBounds_toArray, List.set_cons_zero, List.set_cons_succ, i64_w, i32_w]
                  rfl
                refine pure_ (i := 21) (N := some 55) (v := ?_) (a' := ?_) #[true, true, true, true, true, true, true, true, true, true, true, true, true, true, true, true, true, true, true, true, true, true, false, false, false, false] rfl rfl (any_of HT_.out (by kernel_rfl)) (fun _ _ _ h => h) (Or.inl ⟨by rfl, ?_⟩) ?_ ?_
                rotate_left
                · intro w'
                  go_simp
                  with_reducible rfl
                rotate_left
                · simp only [Act.put, List.setIfInBounds_toArray, List.set_cons_zero, List.set_cons_succ, i64_w, i32_w]
                  rfl
                refine pure_ (i := 22) (N := some 56) (v := undef) (a' := ?_) #[true, true, true, true, true, true, true, true, true, true, true, true, true, true, true, true, true, true, true, true, true, true, true, false, false, false] rfl rfl (any_of HT_.out (by kernel_rfl)) (fun _ _ _ h => h) (Or.inr ⟨by rfl, rfl⟩) ?_ ?_
                rotate_left
                · simp only [Act.put, List.setIfInBounds_toArray, List.set_cons_zero, List.set_cons_succ, i64_w, i32_w]
                  rfl
                refine pure_ (i := 23) (N := some 57) (v := undef) (a' := ?_) #[true, true, true, true, true, true, true, true, true, true, true, true, true, true, true, true, true, true, true, true, true, true, true, true, false, false] rfl rfl (any_of HT_.out (by kernel_rfl)) (fun _ _ _ h => h) (Or.inr ⟨by rfl, rfl⟩) ?_ ?_
                rotate_left
                · simp only [Act.put, List.setIfInBounds_toArray, List.set_cons_zero, List.set_cons_succ, i64_w, i32_w]
                  rfl
                refine pure_ (i := 24) (N := some 58) (v := undef) (a' := ?_) #[true, true, true, true, true, true, true, true, true, true, true, true, true, true, true, true, true, true, true, true, true, true, true, true, true, false] rfl rfl (any_of HT_.out (by kernel_rfl)) (fun _ _ _ h => h) (Or.inr ⟨by rfl, rfl⟩) ?_ ?_
                rotate_left
                · simp only [Act.put, List.setIfInBounds_toArray, List.set_cons_zero, List.set_cons_succ, i64_w, i32_w]
                  rfl
                refine pure_ (i := 25) (N := some 59) (v := ?_) (a' := ?_) #[true, true, true, true, true, true, true, true, true, true, true, true, true, true, true, true, true, true, true, true, true, true, true, true, true, true] rfl rfl (any_of HT_.out (by kernel_rfl)) (fun _ _ _ h => h) (Or.inl ⟨by rfl, ?_⟩) ?_ ?_
                rotate_left
                · intro w'
                  go_simp
                  with_reducible rfl
                rotate_left
                · simp only [Act.put, List.setIfInBounds_toArray, List.set_cons_zero, List.set_cons_succ, i64_w, i32_w]
                  rfl
                refine done_ (done_of HT_.out (by kernel_rfl)) ?_
                try go_wp2
                go_meet
                case rel => exact ⟨_, (true), (by first | rfl | (simp; done) | (simp [*]; done)), H', ⟨by have := HJ2.out; first | omega | exact Nat.le_refl _⟩, ⟨bk⟩, ⟨bk⟩, ⟨bk⟩, ⟨bk⟩, ⟨bk⟩, ⟨bl⟩⟩
            · replace c41 := Bool.eq_false_iff.mpr c41
              subst c41
              rw [if_neg (show ¬ (false = true) by decide)] at H
              have H' := Aside0.mk H
              clear H
              try go_wp2
              have n0_ : Bk (((w29.setCell ⟨gb718, 0, none⟩ (.bool t715)).setCell ⟨gb718, 1, none⟩ (.int .i64 t716)).setCell ⟨gb718, 2, none⟩ (.int .i64 t717)) gb705 (.cells #[.bool t699, .int .i64 t700, .int .i64 t701] 30 (0, 0)) := ⟨bk⟩
              have n1_ : Bk (((w29.setCell ⟨gb718, 0, none⟩ (.bool t715)).setCell ⟨gb718, 1, none⟩ (.int .i64 t716)).setCell ⟨gb718, 2, none⟩ (.int .i64 t717)) gb706 (.cells #[.bool t702, .int .i64 t703, .int .i64 t704] 30 (0, 0)) := ⟨bk⟩
              have n2_ : Bk (((w29.setCell ⟨gb718, 0, none⟩ (.bool t715)).setCell ⟨gb718, 1, none⟩ (.int .i64 t716)).setCell ⟨gb718, 2, none⟩ (.int .i64 t717)) gb713 (.cells #[.bool t707, .int .i64 t708, .int .i64 t709] 30 (0, 0)) := ⟨bk⟩
              have n3_ : Bk (((w29.setCell ⟨gb718, 0, none⟩ (.bool t715)).setCell ⟨gb718, 1, none⟩ (.int .i64 t716)).setCell ⟨gb718, 2, none⟩ (.int .i64 t717)) gb714 (.cells #[.bool t710, .int .i64 t711, .int .i64 t712] 30 (0, 0)) := ⟨bk⟩
              have n4_ : Bk (((w29.setCell ⟨gb718, 0, none⟩ (.bool t715)).setCell ⟨gb718, 1, none⟩ (.int .i64 t716)).setCell ⟨gb718, 2, none⟩ (.int .i64 t717)) gb718 (.cells #[.bool t715, .int .i64 t716, .int .i64 t717] 30 (0, 0)) := ⟨bk⟩
              have n5_ : Bl w.heap.size w (((w29.setCell ⟨gb718, 0, none⟩ (.bool t715)).setCell ⟨gb718, 1, none⟩ (.int .i64 t716)).setCell ⟨gb718, 2, none⟩ (.int .i64 t717)) := ⟨bl⟩
              (try clear BK705)
              (try clear BK706)
              (try clear BK713)
              (try clear BK714)
              (try clear BK718)
              (try clear HB)
              generalize (((w29.setCell ⟨gb718, 0, none⟩ (.bool t715)).setCell ⟨gb718, 1, none⟩ (.int .i64 t716)).setCell ⟨gb718, 2, none⟩ (.int .i64 t717)) = w65 at n0_ n1_ n2_ n3_ n4_ n5_ ⊢
              have BK705 := n0_
              have BK706 := n1_
              have BK713 := n2_
              have BK714 := n3_
              have BK718 := n4_
              have HB := n5_
              clear n0_ n1_ n2_ n3_ n4_ n5_
              have n0_ := Bk.mk (blk_drew BK705.out)
              have n1_ := Bk.mk (blk_drew BK706.out)
              have n2_ := Bk.mk (blk_drew BK713.out)
              have n3_ := Bk.mk (blk_drew BK714.out)
              have n4_ := Bk.mk (blk_drew BK718.out)
              have n5_ := Bl.mk (below_drew1 HB.out)
              clear BK705
              clear BK706
              clear BK713
              clear BK714
              clear BK718
              clear HB
              have BK705 := n0_
              have BK706 := n1_
              have BK713 := n2_
              have BK714 := n3_
              have BK718 := n4_
              have HB := n5_
              clear n0_ n1_ n2_ n3_ n4_ n5_
              refine start_ (n := 26) (S := fun w' => w'.cell? ⟨gb718, 0, none⟩ = some (.bool t715) ∧ w'.cell? ⟨gb718, 1, none⟩ = some (.int .i64 t716) ∧ w'.cell? ⟨gb718, 2, none⟩ = some (.int .i64 t717) ∧ w'.cell? ⟨gb705, 0, none⟩ = some (.bool t699) ∧ w'.cell? ⟨gb705, 1, none⟩ = some (.int .i64 t700) ∧ w'.cell? ⟨gb705, 2, none⟩ = some (.int .i64 t701) ∧ w'.cell? ⟨gb706, 0, none⟩ = some (.bool t702) ∧ w'.cell? ⟨gb706, 1, none⟩ = some (.int .i64 t703) ∧ w'.cell? ⟨gb706, 2, none⟩ = some (.int .i64 t704)) (ds := []) #[false, false, false, false, false, false, false, false, false, false, false, false, false, false, false, false, false, false, false, false, false, false, false, false, false, false] (by kernel_rfl) rfl rfl ⟨(blk_cell BK718.out 0).trans rfl, (blk_cell BK718.out 1).trans rfl, (blk_cell BK718.out 2).trans rfl, (blk_cell BK705.out 0).trans rfl, (blk_cell BK705.out 1).trans rfl, (blk_cell BK705.out 2).trans rfl, (blk_cell BK706.out 0).trans rfl, (blk_cell BK706.out 1).trans rfl, (blk_cell BK706.out 2).trans rfl⟩ (fun hHeld => ?_); refine with_tabW laws_FnDoMore.tab6 laws_FnDoMore.bits6 (fun HT_ HW_ => ?_)
              generalize w65.drew = w66 at BK705 BK706 BK713 BK714 BK718 HB hHeld ⊢
              refine pure_ (i := 1) (N := some 35) (v := ?_) (a' := ?_) #[false, true, false, false, false, false, false, false, false, false, false, false, false, false, false, false, false, false, false, false, false, false, false, false, false, false] rfl rfl (any_of HT_.out (by kernel_rfl)) (fun _ _ _ h => h) (Or.inl ⟨by rfl, ?_⟩) ?_ ?_
              rotate_left
              · intro w'
                go_simp
                with_reducible rfl
              rotate_left
              · simp only [Act.put, List.setIfInBounds_toArray, List.set_cons_zero, List.set_cons_succ, i64_w, i32_w]
                rfl
              refine take_ (i := 0) (N := some 34) (v := ?_) (a' := ?_) #[true, true, false, false, false, false, false, false, false, false, false, false, false, false, false, false, false, false, false, false, false, false, false, false, false, false] rfl rfl (take_ofW HT_.out HW_.out (by kernel_rfl)) (fun _ _ _ h => h) (Or.inl ⟨by rfl, ?_⟩) hHeld ?_ ?_
              rotate_left
              · rintro w' ⟨s0, s1, s2, s3, s4, s5, s6, s7, s8⟩
                go_simp
                with_reducible rfl
              rotate_left
              · simp only [Act.put, List.setIfInBounds_toArray, List.set_cons_zero, List.set_cons_succ, i64_w, i32_w]
                rfl
              refine take_ (i := 2) (N := some 36) (v := ?_) (a' := ?_) #[true, true, true, false, false, false, false, false, false, false, false, false, false, false, false, false, false, false, false, false, false, false, false, false, false, false] rfl rfl (take_ofW HT_.out HW_.out (by kernel_rfl)) (fun _ _ _ h => h) (Or.inl ⟨by rfl, ?_⟩) hHeld ?_ ?_
              rotate_left
              · rintro w' ⟨s0, s1, s2, s3, s4, s5, s6, s7, s8⟩
                go_simp
                with_reducible rfl
              rotate_left
              · simp only [Act.put, List.setIfInBounds_toArray, List.set_cons_zero, List.set_cons_succ, i64_w, i32_w]
                rfl
              refine take_ (i := 3) (N := some 37) (v := ?_) (a' := ?_) #[true, true, true, true, false, false, false, false, false, false, false, false, false, false, false, false, false, false, false, false, false, false, false, false, false, false] rfl rfl (take_ofW HT_.out HW_.out (by kernel_rfl)) (fun _ _ _ h => h) (Or.inl ⟨by rfl, ?_⟩) hHeld ?_ ?_
              rotate_left
              · rintro w' ⟨s0, s1, s2, s3, s4, s5, s6, s7, s8⟩
                go_simp
                with_reducible rfl
              rotate_left
              · simp only [Act.put, List.setIfInBounds_toArray, List.set_cons_zero, List.set_cons_succ, i64_w, i32_w]
                rfl
              refine one_ (i := 4) (N := some 38) #[true, true, true, true, true, false, false, false, false, false, false, false, false, false, false, false, false, false, false, false, false, false, false, false, false, false] rfl rfl (one_of HT_.out (by kernel_rfl)) (by decide) (fun K hK => ?_)
              refine goes_ Try.func21 (by kernel_rfl) rfl #[.int .i64 t698, .agg #[.bool t699, .int .i64 t700, .int .i64 t701], .agg #[.bool t702, .int .i64 t703, .int .i64 t704]] (by rfl) rfl rfl (by (try simp only [List.map_toArray, List.map_cons, List.map_nil]); first | done | rfl | (simp only [List.length_drop, List.length_take]; rfl)) ?_
              with_reducible refine (spec_SpanDo.calls kj2 t698 t699 t700 t701 t702 t703 t704 t719 t720 t721 _ A35.out).mono ?_
              rintro e w67 ⟨rfl, hb⟩
              refine ⟨_, rfl, ?_⟩
              have n0_ := Bk.mk (blk_below (g := gb705) bk hb)
              have n1_ := Bk.mk (blk_below (g := gb706) bk hb)
              have n2_ := Bk.mk (blk_below (g := gb713) bk hb)
              have n3_ := Bk.mk (blk_below (g := gb714) bk hb)
              have n4_ := Bk.mk (blk_below (g := gb718) bk hb)
              have n5_ := Bl.mk (below_step bl hb)
              clear BK705
              clear BK706
              clear BK713
              clear BK714
              clear BK718
              clear HB
              have BK705 := n0_
              have BK706 := n1_
              have BK713 := n2_
              have BK714 := n3_
              have BK718 := n4_
              have HB := n5_
              clear n0_ n1_ n2_ n3_ n4_ n5_
              (try clear hb)
              (try clear hb2)
              (try clear hk)
              (try clear hi)
              refine hK.out _ _ ⟨(blk_cell BK718.out 0).trans rfl, (blk_cell BK718.out 1).trans rfl, (blk_cell BK718.out 2).trans rfl, (blk_cell BK705.out 0).trans rfl, (blk_cell BK705.out 1).trans rfl, (blk_cell BK705.out 2).trans rfl, (blk_cell BK706.out 0).trans rfl, (blk_cell BK706.out 1).trans rfl, (blk_cell BK706.out 2).trans rfl⟩ (fun hHeld => ?_)
              clear hK K
              refine norm_ (a' := ?_) ?_ ?_
              rotate_left
              · show Act.put _ (some 38) _ = _
                simp only [Act.put, List.setIfInBounds_toArray, List.set_cons_zero, List.set_cons_succ, i64_w, i32_w]
                rfl
              refine pure_ (i := 5) (N := some 39) (v := ?_) (a' := ?_) #[true, true, true, true, true, true, false, false, false, false, false, false, false, false, false, false, false, false, false, false, false, false, false, false, false, false] rfl rfl (any_of HT_.out (by kernel_rfl)) (fun _ _ _ h => h) (Or.inl ⟨by rfl, ?_⟩) ?_ ?_
              rotate_left
              · intro w'
                go_simp
                with_reducible rfl
              rotate_left
              · simp only [Act.put, List.setIfInBounds_toArray, List.set_cons_zero, List.set_cons_succ, i64_w, i32_w]
                rfl
              refine pure_ (i := 6) (N := some 40) (v := ?_) (a' := ?_) #[true, true, true, true, true, true, true, false, false, false, false, false, false, false, false, false, false, false, false, false, false, false, false, false, false, false] rfl rfl (any_of HT_.out (by kernel_rfl)) (fun _ _ _ h => h) (Or.inl ⟨by rfl, ?_⟩) ?_ ?_
              rotate_left
              · intro w'
                go_simp
                with_reducible rfl
              rotate_left
              · simp only [Act.put, List.setIfInBounds_toArray, List.set_cons_zero, List.set_cons_succ, i64_w, i32_w]
                rfl
              refine take_ (i := 7) (N := some 41) (v := ?_) (a' := ?_) #[true, true, true, true, true, true, true, true, false, false, false, false, false, false, false, false, false, false, false, false, false, false, false, false, false, false] rfl rfl (take_ofW HT_.out HW_.out (by kernel_rfl)) (fun _ _ _ h => h) (Or.inl ⟨by rfl, ?_⟩) hHeld ?_ ?_
              rotate_left
              · rintro w' ⟨s0, s1, s2, s3, s4, s5, s6, s7, s8⟩
                go_simp
                with_reducible rfl
              rotate_left
              · simp only [Act.put, List.setIfInBounds_toArray, List.set_cons_zero, List.set_cons_succ, i64_w, i32_w]
                rfl
              refine one_ (i := 8) (N := some 42) #[true, true, true, true, true, true, true, true, true, false, false, false, false, false, false, false, false, false, false, false, false, false, false, false, false, false] rfl rfl (one_of HT_.out (by kernel_rfl)) (by decide) (fun K hK => ?_)
              refine goes_ Try.func15 (by kernel_rfl) rfl #[.agg #[.bool t699, .int .i64 t700, .int .i64 t701]] (by rfl) rfl rfl (by (try simp only [List.map_toArray, List.map_cons, List.map_nil]); first | done | rfl | (simp only [List.length_drop, List.length_take]; rfl)) ?_
              with_reducible refine (spec_SpanOk.calls t699 t700 t701 false _ A40.out).mono ?_
              rintro e w68 ⟨rfl, hb⟩
              refine ⟨_, rfl, ?_⟩
              have n0_ := Bk.mk (blk_below (g := gb705) bk hb)
              have n1_ := Bk.mk (blk_below (g := gb706) bk hb)
              have n2_ := Bk.mk (blk_below (g := gb713) bk hb)
              have n3_ := Bk.mk (blk_below (g := gb714) bk hb)
              have n4_ := Bk.mk (blk_below (g := gb718) bk hb)
              have n5_ := Bl.mk (below_step bl hb)
              clear BK705
              clear BK706
              clear BK713
              clear BK714
              clear BK718
              clear HB
              have BK705 := n0_
              have BK706 := n1_
              have BK713 := n2_
              have BK714 := n3_
              have BK718 := n4_
              have HB := n5_
              clear n0_ n1_ n2_ n3_ n4_ n5_
              (try clear hb)
              (try clear hb2)
              (try clear hk)
              (try clear hi)
              refine hK.out _ _ ⟨(blk_cell BK718.out 0).trans rfl, (blk_cell BK718.out 1).trans rfl, (blk_cell BK718.out 2).trans rfl, (blk_cell BK705.out 0).trans rfl, (blk_cell BK705.out 1).trans rfl, (blk_cell BK705.out 2).trans rfl, (blk_cell BK706.out 0).trans rfl, (blk_cell BK706.out 1).trans rfl, (blk_cell BK706.out 2).trans rfl⟩ (fun hHeld => ?_)
              clear hK K
              refine norm_ (a' := ?_) ?_ ?_
              rotate_left
              · show Act.put _ (some 42) _ = _
                simp only [Act.put, List.setIfInBounds_toArray, List.set_cons_zero, List.set_cons_succ, i64_w, i32_w]
                rfl
              refine pure_ (i := 9) (N := some 43) (v := ?_) (a' := ?_) #[true, true, true, true, true, true, true, true, true, true, false, false, false, false, false, false, false, false, false, false, false, false, false, false, false, false] rfl rfl (any_of HT_.out (by kernel_rfl)) (fun _ _ _ h => h) (Or.inl ⟨by rfl, ?_⟩) ?_ ?_
              rotate_left
              · intro w'
                go_simp
                with_reducible rfl
              rotate_left
              · simp only [Act.put, List.setIfInBounds_toArray, List.set_cons_zero, List.set_cons_succ, i64_w, i32_w]
                rfl
              refine pure_ (i := 10) (N := some 44) (v := ?_) (a' := ?_) #[true, true, true, true, true, true, true, true, true, true, true, false, false, false, false, false, false, false, false, false, false, false, false, false, false, false] rfl rfl (any_of HT_.out (by kernel_rfl)) (fun _ _ _ h => h) (Or.inl ⟨by rfl, ?_⟩) ?_ ?_
              rotate_left
              · intro w'
                go_simp
                with_reducible rfl
              rotate_left
              · simp only [Act.put, List.setIfInBounds_toArray, List.set_cons_zero, List.set_cons_succ, i64_w, i32_w]
                rfl
              refine pure_ (i := 11) (N := some 45) (v := ?_) (a' := ?_) #[true, true, true, true, true, true, true, true, true, true, true, true, false, false, false, false, false, false, false, false, false, false, false, false, false, false] rfl rfl (any_of HT_.out (by kernel_rfl)) (fun _ _ _ h => h) (Or.inl ⟨by rfl, ?_⟩) ?_ ?_
              rotate_left
              · intro w'
                go_simp
                with_reducible rfl
              rotate_left
              · simp only [Act.put, List.setIfInBounds_toArray, List.set_cons_zero, List.set_cons_succ, i64_w, i32_w]
                rfl
              refine pure_ (i := 12) (N := some 46) (v := undef) (a' := ?_) #[true, true, true, true, true, true, true, true, true, true, true, true, true, false, false, false, false, false, false, false, false, false, false, false, false, false] rfl rfl (any_of HT_.out (by kernel_rfl)) (fun _ _ _ h => h) (Or.inr ⟨by rfl, rfl⟩) ?_ ?_
              rotate_left
              · simp only [Act.put, List.setIfInBounds_toArray, List.set_cons_zero, List.set_cons_succ, i64_w, i32_w]
                rfl
              refine pure_ (i := 13) (N := some 47) (v := undef) (a' := ?_) #[true, true, true, true, true, true, true, true, true, true, true, true, true, true, false, false, false, false, false, false, false, false, false, false, false, false] rfl rfl (any_of HT_.out (by kernel_rfl)) (fun _ _ _ h => h) (Or.inr ⟨by rfl, rfl⟩) ?_ ?_
              rotate_left
              · simp only [Act.put, List.setIfInBounds_toArray, List.set_cons_zero, List.set_cons_succ, i64_w, i32_w]
                rfl
              refine pure_ (i := 14) (N := some 48) (v := undef) (a' := ?_) #[true, true, true, true, true, true, true, true, true, true, true, true, true, true, true, false, false, false, false, false, false, false, false, false, false, false] rfl rfl (any_of HT_.out (by kernel_rfl)) (fun _ _ _ h => h) (Or.inr ⟨by rfl, rfl⟩) ?_ ?_
              rotate_left
              · simp only [Act.put, List.setIfInBounds_toArray, List.set_cons_zero, List.set_cons_succ, i64_w, i32_w]
                rfl
              refine pure_ (i := 15) (N := some 49) (v := ?_) (a' := ?_) #[true, true, true, true, true, true, true, true, true, true, true, true, true, true, true, true, false, false, false, false, false, false, false, false, false, false] rfl rfl (any_of HT_.out (by kernel_rfl)) (fun _ _ _ h => h) (Or.inl ⟨by rfl, ?_⟩) ?_ ?_
              rotate_left
              · intro w'
                go_simp
                with_reducible rfl
              rotate_left
              · simp only [Act.put, List.setIfInBounds_toArray, List.set_cons_zero, List.set_cons_succ, i64_w, i32_w]
                rfl
              refine pure_ (i := 16) (N := some 50) (v := ?_) (a' := ?_) #[true, true, true, true, true, true, true, true, true, true, true, true, true, true, true, true, true, false, false, false, false, false, false, false, false, false] rfl rfl (any_of HT_.out (by kernel_rfl)) (fun _ _ _ h => h) (Or.inl ⟨by rfl, ?_⟩) ?_ ?_
              rotate_left
              · intro w'
                go_simp
                with_reducible rfl
              rotate_left
              · simp only [Act.put, List.setIfInBounds_toArray, List.set_cons_zero, List.set_cons_succ, i64_w, i32_w]
                rfl
              refine pure_ (i := 17) (N := some 51) (v := undef) (a' := ?_) #[true, true, true, true, true, true, true, true, true, true, true, true, true, true, true, true, true, true, false, false, false, false, false, false, false, false] rfl rfl (any_of HT_.out (by kernel_rfl)) (fun _ _ _ h => h) (Or.inr ⟨by rfl, rfl⟩) ?_ ?_
              rotate_left
              · simp only [Act.put, List.setIfInBounds_toArray, List.set_cons_zero, List.set_cons_succ, i64_w, i32_w]
                rfl
              refine pure_ (i := 18) (N := some 52) (v := undef) (a' := ?_) #[true, true, true, true, true, true, true, true, true, true, true, true, true, true, true, true, true, true, true, false, false, false, false, false, false, false] rfl rfl (any_of HT_.out (by kernel_rfl)) (fun _ _ _ h => h) (Or.inr ⟨by rfl, rfl⟩) ?_ ?_
              rotate_left
              · simp only [Act.put, List.setIfInBounds_toArray, List.set_cons_zero, List.set_cons_succ, i64_w, i32_w]
                rfl
              refine pure_ (i := 19) (N := some 53) (v := undef) (a' := ?_) #[true, true, true, true, true, true, true, true, true, true, true, true, true, true, true, true, true, true, true, true, false, false, false, false, false, false] rfl rfl (any_of HT_.out (by kernel_rfl)) (fun _ _ _ h => h) (Or.inr ⟨by rfl, rfl⟩) ?_ ?_
              rotate_left
              · simp only [Act.put, List.setIfInBounds_toArray, List.set_cons_zero, List.set_cons_succ, i64_w, i32_w]
                rfl
              refine pure_ (i := 20) (N := some 54) (v := ?_) (a' := ?_) #[true, true, true, true, true, true, true, true, true, true, true, true, true, true, true, true, true, true, true, true, true, false, false, false, false, false] rfl rfl (any_of HT_.out (by kernel_rfl)) (fun _ _ _ h => h) (Or.inl ⟨by rfl, ?_⟩) ?_ ?_
              rotate_left
              · intro w'
                go_simp
                with_reducible rfl
              rotate_left
              · simp only [Act.put, List.setIfInBounds_toArray, List.set_cons_zero, List.set_cons_succ, i64_w, i32_w]
                rfl
              refine pure_ (i := 21) (N := some 55) (v := ?_) (a' := ?_) #[true, true, true, true, true, true, true, true, true, true, true, true, true, true, true, true, true, true, true, true, true, true, false, false, false, false] rfl rfl (any_of HT_.out (by kernel_rfl)) (fun _ _ _ h => h) (Or.inl ⟨by rfl, ?_⟩) ?_ ?_
              rotate_left
              · intro w'
                go_simp
                with_reducible rfl
              rotate_left
              · simp only [Act.put, List.setIfInBounds_toArray, List.set_cons_zero, List.set_cons_succ, i64_w, i32_w]
                rfl
              refine pure_ (i := 22) (N := some 56) (v := undef) (a' := ?_) #[true, true, true, true, true, true, true, true, true, true, true, true, true, true, true, true, true, true, true, true, true, true, true, false, false, false] rfl rfl (any_of HT_.out (by kernel_rfl)) (fun _ _ _ h => h) (Or.inr ⟨by rfl, rfl⟩) ?_ ?_
              rotate_left
              · simp only [Act.put, List.setIfInBounds_toArray, List.set_cons_zero, List.set_cons_succ, i64_w, i32_w]
                rfl
              refine pure_ (i := 23) (N := some 57) (v := undef) (a' := ?_) #[true, true, true, true, true, true, true, true, true, true, true, true, true, true, true, true, true, true, true, true, true, true, true, true, false, false] rfl rfl (any_of HT_.out (by kernel_rfl)) (fun _ _ _ h => h) (Or.inr ⟨by rfl, rfl⟩) ?_ ?_
              rotate_left
              · simp only [Act.put, List.setIfInBounds_toArray, List.set_cons_zero, List.set_cons_succ, i64_w, i32_w]
                rfl
              refine pure_ (i := 24) (N := some 58) (v := undef) (a' := ?_) #[true, true, true, true, true, true, true, true, true, true, true, true, true, true, true, true, true, true, true, true, true, true, true, true, true, false] rfl rfl (any_of HT_.out (by kernel_rfl)) (fun _ _ _ h => h) (Or.inr ⟨by rfl, rfl⟩) ?_ ?_
              rotate_left
              · simp only [Act.put, List.setIfInBounds_toArray, List.set_cons_zero, List.set_cons_succ, i64_w, i32_w]
                rfl
              refine pure_ (i := 25) (N := some 59) (v := ?_) (a' := ?_) #[true, true, true, true, true, true, true, true, true, true, true, true, true, true, true, true, true, true, true, true, true, true, true, true, true, true] rfl rfl (any_of HT_.out (by kernel_rfl)) (fun _ _ _ h => h) (Or.inl ⟨by rfl, ?_⟩) ?_ ?_
              rotate_left
              · intro w'
                go_simp
                with_reducible rfl
              rotate_left
              · simp only [Act.put, List.setIfInBounds_toArray, List.set_cons_zero, List.set_cons_succ, i64_w, i32_w]
                rfl
              refine done_ (done_of HT_.out (by kernel_rfl)) ?_
              try go_wp2
              go_meet
              case rel => exact ⟨_, (true), (by first | rfl | (simp; done) | (simp [*]; done)), H', ⟨by have := HJ2.out; first | omega | exact Nat.le_refl _⟩, ⟨bk⟩, ⟨bk⟩, ⟨bk⟩, ⟨bk⟩, ⟨bk⟩, ⟨bl⟩⟩
        case rest =>
          clear HC9
          try clear c1
          try clear c2
          try clear p2
          try clear c4
          try clear c15
          try clear c21
          try clear c41
          try clear c43
          obtain ⟨kq, x59_8, rfl, HA, HJ8, BK705, BK706, BK713, BK714, BK718, HB⟩ := hcut
          cases kq with
          | zero => exact absurd HA.out (by simp [laws_FnDoMore.j1])
          | succ kj8 =>
            have H := HA.out
            clear HA
            simp only [laws_FnDoMore.j1] at H
            by_cases c69 : x59_8 = true
            · subst c69
              rw [if_pos rfl] at H
              replace H := Option.bind_eq_some_iff.mp H
              obtain ⟨⟨t726, t727, t728⟩, A700, H⟩ := H
              try dsimp only at H
              have A70 := Aside0.mk A700
              clear A700
              obtain rfl := Option.some.inj H
              try go_wp2
              have n0_ := Bk.mk (blk_drew BK705.out)
              have n1_ := Bk.mk (blk_drew BK706.out)
              have n2_ := Bk.mk (blk_drew BK713.out)
              have n3_ := Bk.mk (blk_drew BK714.out)
              have n4_ := Bk.mk (blk_drew BK718.out)
              have n5_ := Bl.mk (below_drew1 HB.out)
              clear BK705
              clear BK706
              clear BK713
              clear BK714
              clear BK718
              clear HB
              have BK705 := n0_
              have BK706 := n1_
              have BK713 := n2_
              have BK714 := n3_
              have BK718 := n4_
              have HB := n5_
              clear n0_ n1_ n2_ n3_ n4_ n5_
              refine start_ (n := 7) (S := fun w' => w'.cell? ⟨gb718, 0, none⟩ = some (.bool t715) ∧ w'.cell? ⟨gb718, 1, none⟩ = some (.int .i64 t716) ∧ w'.cell? ⟨gb718, 2, none⟩ = some (.int .i64 t717) ∧ w'.cell? ⟨gb705, 0, none⟩ = some (.bool t699) ∧ w'.cell? ⟨gb705, 1, none⟩ = some (.int .i64 t700) ∧ w'.cell? ⟨gb705, 2, none⟩ = some (.int .i64 t701) ∧ w'.cell? ⟨gb706, 0, none⟩ = some (.bool t702) ∧ w'.cell? ⟨gb706, 1, none⟩ = some (.int .i64 t703) ∧ w'.cell? ⟨gb706, 2, none⟩ = some (.int .i64 t704)) (ds := []) #[false, false, false, false, false, false, false] (by kernel_rfl) rfl rfl ⟨(blk_cell BK718.out 0).trans rfl, (blk_cell BK718.out 1).trans rfl, (blk_cell BK718.out 2).trans rfl, (blk_cell BK705.out 0).trans rfl, (blk_cell BK705.out 1).trans rfl, (blk_cell BK705.out 2).trans rfl, (blk_cell BK706.out 0).trans rfl, (blk_cell BK706.out 1).trans rfl, (blk_cell BK706.out 2).trans rfl⟩ (fun hHeld => ?_)
              generalize wc.drew = w71 at BK705 BK706 BK713 BK714 BK718 HB hHeld ⊢
              refine pure_ (i := 1) (N := some 61) (v := ?_) (a' := ?_) #[false, true, false, false, false, false, false] rfl rfl (by kernel_rfl) (fun _ _ _ h => h) (Or.inl ⟨by rfl, ?_⟩) ?_ ?_
              rotate_left
              · intro w'
                go_simp
                with_reducible rfl
              rotate_left
              · simp only [Act.put, List.setIfInBounds_toArray, List.set_cons_zero, List.set_cons_succ, i64_w, i32_w]
                rfl
              refine take_ (i := 0) (N := some 60) (v := ?_) (a' := ?_) #[true, true, false, false, false, false, false] rfl rfl (by kernel_rfl) (fun _ _ _ h => h) (Or.inl ⟨by rfl, ?_⟩) hHeld ?_ ?_
              rotate_left
              · rintro w' ⟨s0, s1, s2, s3, s4, s5, s6, s7, s8⟩
                go_simp
                with_reducible rfl
              rotate_left
              · simp only [Act.put, List.setIfInBounds_toArray, List.set_cons_zero, List.set_cons_succ, i64_w, i32_w]
                rfl
              refine take_ (i := 2) (N := some 62) (v := ?_) (a' := ?_) #[true, true, true, false, false, false, false] rfl rfl (by kernel_rfl) (fun _ _ _ h => h) (Or.inl ⟨by rfl, ?_⟩) hHeld ?_ ?_
              rotate_left
              · rintro w' ⟨s0, s1, s2, s3, s4, s5, s6, s7, s8⟩
                go_simp
                with_reducible rfl
              rotate_left
              · simp only [Act.put, List.setIfInBounds_toArray, List.set_cons_zero, List.set_cons_succ, i64_w, i32_w]
                rfl
              refine take_ (i := 3) (N := some 63) (v := ?_) (a' := ?_) #[true, true, true, true, false, false, false] rfl rfl (by kernel_rfl) (fun _ _ _ h => h) (Or.inl ⟨by rfl, ?_⟩) hHeld ?_ ?_
              rotate_left
              · rintro w' ⟨s0, s1, s2, s3, s4, s5, s6, s7, s8⟩
                go_simp
                with_reducible rfl
              rotate_left
              · simp only [Act.put, List.setIfInBounds_toArray, List.set_cons_zero, List.set_cons_succ, i64_w, i32_w]
                rfl
              refine one_ (i := 4) (N := some 64) #[true, true, true, true, true, false, false] rfl rfl (by kernel_rfl) (by decide) (fun K hK => ?_)
              refine goes_ Try.func21 (by kernel_rfl) rfl #[.int .i64 t698, .agg #[.bool t699, .int .i64 t700, .int .i64 t701], .agg #[.bool t702, .int .i64 t703, .int .i64 t704]] (by rfl) rfl rfl (by (try simp only [List.map_toArray, List.map_cons, List.map_nil]); first | done | rfl | (simp only [List.length_drop, List.length_take]; rfl)) ?_
              with_reducible refine (spec_SpanDo.calls kj8 t698 t699 t700 t701 t702 t703 t704 t726 t727 t728 _ A70.out).mono ?_
              rintro e w72 ⟨rfl, hb⟩
              refine ⟨_, rfl, ?_⟩
              have n0_ := Bk.mk (blk_below (g := gb705) bk hb)
              have n1_ := Bk.mk (blk_below (g := gb706) bk hb)
              have n2_ := Bk.mk (blk_below (g := gb713) bk hb)
              have n3_ := Bk.mk (blk_below (g := gb714) bk hb)
              have n4_ := Bk.mk (blk_below (g := gb718) bk hb)
              have n5_ := Bl.mk (below_step bl hb)
              clear BK705
              clear BK706
              clear BK713
              clear BK714
              clear BK718
              clear HB
              have BK705 := n0_
              have BK706 := n1_
              have BK713 := n2_
              have BK714 := n3_
              have BK718 := n4_
              have HB := n5_
              clear n0_ n1_ n2_ n3_ n4_ n5_
              (try clear hb)
              (try clear hb2)
              (try clear hk)
              (try clear hi)
              refine hK.out _ _ ⟨(blk_cell BK718.out 0).trans rfl, (blk_cell BK718.out 1).trans rfl, (blk_cell BK718.out 2).trans rfl, (blk_cell BK705.out 0).trans rfl, (blk_cell BK705.out 1).trans rfl, (blk_cell BK705.out 2).trans rfl, (blk_cell BK706.out 0).trans rfl, (blk_cell BK706.out 1).trans rfl, (blk_cell BK706.out 2).trans rfl⟩ (fun hHeld => ?_)
              clear hK K
              refine norm_ (a' := ?_) ?_ ?_
              rotate_left
              · show Act.put _ (some 64) _ = _
                simp only [Act.put, List.setIfInBounds_toArray, List.set_cons_zero, List.set_cons_succ, i64_w, i32_w]
                rfl
              refine pure_ (i := 5) (N := some 65) (v := ?_) (a' := ?_) #[true, true, true, true, true, true, false] rfl rfl (by kernel_rfl) (fun _ _ _ h => h) (Or.inl ⟨by rfl, ?_⟩) ?_ ?_
              rotate_left
              · intro w'
                go_simp
                with_reducible rfl
              rotate_left
              · simp only [Act.put, List.setIfInBounds_toArray, List.set_cons_zero, List.set_cons_succ, i64_w, i32_w]
                rfl
              refine pure_ (i := 6) (N := some 4) (v := ?_) (a' := ?_) #[true, true, true, true, true, true, true] rfl rfl (by kernel_rfl) (fun _ _ _ h => h) (Or.inl ⟨by rfl, ?_⟩) ?_ ?_
              rotate_left
              · intro w'
                go_simp
                with_reducible rfl
              rotate_left
              · simp only [Act.put, List.setIfInBounds_toArray, List.set_cons_zero, List.set_cons_succ, i64_w, i32_w]
                rfl
              refine done_ (by kernel_rfl) ?_
              try go_wp2
              go_ret
              exact ⟨by first | rfl | (simp [errW_none, errW_some] <;> rfl) | (simp [*, errW_none, errW_some] <;> rfl), bl⟩
            · replace c69 := Bool.eq_false_iff.mpr c69
              subst c69
              rw [if_neg (show ¬ (false = true) by decide)] at H
              replace H := Option.bind_eq_some_iff.mp H
              obtain ⟨⟨t729, t730, t731⟩, A730, H⟩ := H
              try dsimp only at H
              have A73 := Aside0.mk A730
              clear A730
              replace H := Option.bind_eq_some_iff.mp H
              obtain ⟨⟨t732, t733, t734⟩, A740, H⟩ := H
              try dsimp only at H
              have A74 := Aside0.mk A740
              clear A740
              replace H := Option.bind_eq_some_iff.mp H
              obtain ⟨⟨t735, t736, t737⟩, A750, H⟩ := H
              try dsimp only at H
              have A75 := Aside0.mk A750
              clear A750
              replace H := Option.bind_eq_some_iff.mp H
              obtain ⟨t738, A760, H⟩ := H
              try dsimp only at H
              have A76 := Aside0.mk A760
              clear A760
              obtain rfl := Option.some.inj H
              try go_wp2
              have n0_ := Bk.mk (blk_drew BK705.out)
              have n1_ := Bk.mk (blk_drew BK706.out)
              have n2_ := Bk.mk (blk_drew BK713.out)
              have n3_ := Bk.mk (blk_drew BK714.out)
              have n4_ := Bk.mk (blk_drew BK718.out)
              have n5_ := Bl.mk (below_drew1 HB.out)
              clear BK705
              clear BK706
              clear BK713
              clear BK714
              clear BK718
              clear HB
              have BK705 := n0_
              have BK706 := n1_
              have BK713 := n2_
              have BK714 := n3_
              have BK718 := n4_
              have HB := n5_
              clear n0_ n1_ n2_ n3_ n4_ n5_
              refine start_ (n := 11) (S := fun w' => w'.cell? ⟨gb718, 0, none⟩ = some (.bool t715) ∧ w'.cell? ⟨gb718, 1, none⟩ = some (.int .i64 t716) ∧ w'.cell? ⟨gb718, 2, none⟩ = some (.int .i64 t717) ∧ w'.cell? ⟨gb705, 0, none⟩ = some (.bool t699) ∧ w'.cell? ⟨gb705, 1, none⟩ = some (.int .i64 t700) ∧ w'.cell? ⟨gb705, 2, none⟩ = some (.int .i64 t701) ∧ w'.cell? ⟨gb713, 0, none⟩ = some (.bool t707) ∧ w'.cell? ⟨gb713, 1, none⟩ = some (.int .i64 t708) ∧ w'.cell? ⟨gb713, 2, none⟩ = some (.int .i64 t709) ∧ w'.cell? ⟨gb706, 0, none⟩ = some (.bool t702) ∧ w'.cell? ⟨gb706, 1, none⟩ = some (.int .i64 t703) ∧ w'.cell? ⟨gb706, 2, none⟩ = some (.int .i64 t704) ∧ w'.cell? ⟨gb714, 0, none⟩ = some (.bool t710) ∧ w'.cell? ⟨gb714, 1, none⟩ = some (.int .i64 t711) ∧ w'.cell? ⟨gb714, 2, none⟩ = some (.int .i64 t712)) (ds := []) #[false, false, false, false, false, false, false, false, false, false, false] (by kernel_rfl) rfl rfl ⟨(blk_cell BK718.out 0).trans rfl, (blk_cell BK718.out 1).trans rfl, (blk_cell BK718.out 2).trans rfl, (blk_cell BK705.out 0).trans rfl, (blk_cell BK705.out 1).trans rfl, (blk_cell BK705.out 2).trans rfl, (blk_cell BK713.out 0).trans rfl, (blk_cell BK713.out 1).trans rfl, (blk_cell BK713.out 2).trans rfl, (blk_cell BK706.out 0).trans rfl, (blk_cell BK706.out 1).trans rfl, (blk_cell BK706.out 2).trans rfl, (blk_cell BK714.out 0).trans rfl, (blk_cell BK714.out 1).trans rfl, (blk_cell BK714.out 2).trans rfl⟩ (fun hHeld => ?_); refine with_tabW laws_FnDoMore.tab8 laws_FnDoMore.bits8 (fun HT_ HW_ => ?_)
              generalize wc.drew = w77 at BK705 BK706 BK713 BK714 BK718 HB hHeld ⊢
              refine pure_ (i := 1) (N := some 67) (v := ?_) (a' := ?_) #[false, true, false, false, false, false, false, false, false, false, false] rfl rfl (any_of HT_.out (by kernel_rfl)) (fun _ _ _ h => h) (Or.inl ⟨by rfl, ?_⟩) ?_ ?_
              rotate_left
              · intro w'
                go_simp
                with_reducible rfl
              rotate_left
              · simp only [Act.put, List.setIfInBounds_toArray, List.set_cons_zero, List.set_cons_succ, i64_w, i32_w]
                rfl
              refine take_ (i := 0) (N := some 66) (v := ?_) (a' := ?_) #[true, true, false, false, false, false, false, false, false, false, false] rfl rfl (take_ofW HT_.out HW_.out (by kernel_rfl)) (fun _ _ _ h => h) (Or.inl ⟨by rfl, ?_⟩) hHeld ?_ ?_
              rotate_left
              · rintro w' ⟨s0, s1, s2, s3, s4, s5, s6, s7, s8, s9, s10, s11, s12, s13, s14⟩
                go_simp
                with_reducible rfl
              rotate_left
              · simp only [Act.put, List.setIfInBounds_toArray, List.set_cons_zero, List.set_cons_succ, i64_w, i32_w]
                rfl
              refine take_ (i := 2) (N := some 68) (v := ?_) (a' := ?_) #[true, true, true, false, false, false, false, false, false, false, false] rfl rfl (take_ofW HT_.out HW_.out (by kernel_rfl)) (fun _ _ _ h => h) (Or.inl ⟨by rfl, ?_⟩) hHeld ?_ ?_
              rotate_left
              · rintro w' ⟨s0, s1, s2, s3, s4, s5, s6, s7, s8, s9, s10, s11, s12, s13, s14⟩
                go_simp
                with_reducible rfl
              rotate_left
              · simp only [Act.put, List.setIfInBounds_toArray, List.set_cons_zero, List.set_cons_succ, i64_w, i32_w]
                rfl
              refine take_ (i := 3) (N := some 69) (v := ?_) (a' := ?_) #[true, true, true, true, false, false, false, false, false, false, false] rfl rfl (take_ofW HT_.out HW_.out (by kernel_rfl)) (fun _ _ _ h => h) (Or.inl ⟨by rfl, ?_⟩) hHeld ?_ ?_
              rotate_left
              · rintro w' ⟨s0, s1, s2, s3, s4, s5, s6, s7, s8, s9, s10, s11, s12, s13, s14⟩
                go_simp
                with_reducible rfl
              rotate_left
              · simp only [Act.put, List.setIfInBounds_toArray, List.set_cons_zero, List.set_cons_succ, i64_w, i32_w]
                rfl
              refine take_ (i := 5) (N := some 71) (v := ?_) (a' := ?_) #[true, true, true, true, false, true, false, false, false, false, false] rfl rfl (take_ofW HT_.out HW_.out (by kernel_rfl)) (fun _ _ _ h => h) (Or.inl ⟨by rfl, ?_⟩) hHeld ?_ ?_
              rotate_left
              · rintro w' ⟨s0, s1, s2, s3, s4, s5, s6, s7, s8, s9, s10, s11, s12, s13, s14⟩
                go_simp
                with_reducible rfl
              rotate_left
              · simp only [Act.put, List.setIfInBounds_toArray, List.set_cons_zero, List.set_cons_succ, i64_w, i32_w]
                rfl
              refine take_ (i := 6) (N := some 72) (v := ?_) (a' := ?_) #[true, true, true, true, false, true, true, false, false, false, false] rfl rfl (take_ofW HT_.out HW_.out (by kernel_rfl)) (fun _ _ _ h => h) (Or.inl ⟨by rfl, ?_⟩) hHeld ?_ ?_
              rotate_left
              · rintro w' ⟨s0, s1, s2, s3, s4, s5, s6, s7, s8, s9, s10, s11, s12, s13, s14⟩
                go_simp
                with_reducible rfl
              rotate_left
              · simp only [Act.put, List.setIfInBounds_toArray, List.set_cons_zero, List.set_cons_succ, i64_w, i32_w]
                rfl
              refine one_ (i := 4) (N := some 70) #[true, true, true, true, true, true, true, false, false, false, false] rfl rfl (one_of HT_.out (by kernel_rfl)) (by decide) (fun K hK => ?_)
              refine goes_ Try.func25 (by kernel_rfl) rfl #[.agg #[.bool t699, .int .i64 t700, .int .i64 t701], .agg #[.bool t707, .int .i64 t708, .int .i64 t709]] (by rfl) rfl rfl (by (try simp only [List.map_toArray, List.map_cons, List.map_nil]); first | done | rfl | (simp only [List.length_drop, List.length_take]; rfl)) ?_
              with_reducible refine (impl_SpanJoin.calls kj8 t699 t700 t701 t707 t708 t709 t729 t730 t731 _ A73.out).mono ?_
              rintro e w78 ⟨rfl, hb⟩
              refine ⟨_, rfl, ?_⟩
              have n0_ := Bk.mk (blk_below (g := gb705) bk hb)
              have n1_ := Bk.mk (blk_below (g := gb706) bk hb)
              have n2_ := Bk.mk (blk_below (g := gb713) bk hb)
              have n3_ := Bk.mk (blk_below (g := gb714) bk hb)
              have n4_ := Bk.mk (blk_below (g := gb718) bk hb)
              have n5_ := Bl.mk (below_step bl hb)
              clear BK705
              clear BK706
              clear BK713
              clear BK714
              clear BK718
              clear HB
              have BK705 := n0_
              have BK706 := n1_
              have BK713 := n2_
              have BK714 := n3_
              have BK718 := n4_
              have HB := n5_
              clear n0_ n1_ n2_ n3_ n4_ n5_
              (try clear hb)
              (try clear hb2)
              (try clear hk)
              (try clear hi)
              refine hK.out _ _ ⟨(blk_cell BK718.out 0).trans rfl, (blk_cell BK718.out 1).trans rfl, (blk_cell BK718.out 2).trans rfl, (blk_cell BK705.out 0).trans rfl, (blk_cell BK705.out 1).trans rfl, (blk_cell BK705.out 2).trans rfl, (blk_cell BK713.out 0).trans rfl, (blk_cell BK713.out 1).trans rfl, (blk_cell BK713.out 2).trans rfl, (blk_cell BK706.out 0).trans rfl, (blk_cell BK706.out 1).trans rfl, (blk_cell BK706.out 2).trans rfl, (blk_cell BK714.out 0).trans rfl, (blk_cell BK714.out 1).trans rfl, (blk_cell BK714.out 2).trans rfl⟩ (fun hHeld => ?_)
              clear hK K
              refine norm_ (a' := ?_) ?_ ?_
              rotate_left
              · show Act.put _ (some 70) _ = _
                simp only [Act.put, List.setIfInBounds_toArray, List.set_cons_zero, List.set_cons_succ, i64_w, i32_w]
                rfl
              refine one_ (i := 7) (N := some 73) #[true, true, true, true, true, true, true, true, false, false, false] rfl rfl (one_of HT_.out (by kernel_rfl)) (by decide) (fun K hK => ?_)
              refine goes_ Try.func25 (by kernel_rfl) rfl #[.agg #[.bool t702, .int .i64 t703, .int .i64 t704], .agg #[.bool t710, .int .i64 t711, .int .i64 t712]] (by rfl) rfl rfl (by (try simp only [List.map_toArray, List.map_cons, List.map_nil]); first | done | rfl | (simp only [List.length_drop, List.length_take]; rfl)) ?_
              with_reducible refine (impl_SpanJoin.calls kj8 t702 t703 t704 t710 t711 t712 t732 t733 t734 _ A74.out).mono ?_
              rintro e w79 ⟨rfl, hb⟩
              refine ⟨_, rfl, ?_⟩
              have n0_ := Bk.mk (blk_below (g := gb705) bk hb)
              have n1_ := Bk.mk (blk_below (g := gb706) bk hb)
              have n2_ := Bk.mk (blk_below (g := gb713) bk hb)
              have n3_ := Bk.mk (blk_below (g := gb714) bk hb)
              have n4_ := Bk.mk (blk_below (g := gb718) bk hb)
              have n5_ := Bl.mk (below_step bl hb)
              clear BK705
              clear BK706
              clear BK713
              clear BK714
              clear BK718
              clear HB
              have BK705 := n0_
              have BK706 := n1_
              have BK713 := n2_
              have BK714 := n3_
              have BK718 := n4_
              have HB := n5_
              clear n0_ n1_ n2_ n3_ n4_ n5_
              (try clear hb)
              (try clear hb2)
              (try clear hk)
              (try clear hi)
              refine hK.out _ _ ⟨(blk_cell BK718.out 0).trans rfl, (blk_cell BK718.out 1).trans rfl, (blk_cell BK718.out 2).trans rfl, (blk_cell BK705.out 0).trans rfl, (blk_cell BK705.out 1).trans rfl, (blk_cell BK705.out 2).trans rfl, (blk_cell BK713.out 0).trans rfl, (blk_cell BK713.out 1).trans rfl, (blk_cell BK713.out 2).trans rfl, (blk_cell BK706.out 0).trans rfl, (blk_cell BK706.out 1).trans rfl, (blk_cell BK706.out 2).trans rfl, (blk_cell BK714.out 0).trans rfl, (blk_cell BK714.out 1).trans rfl, (blk_cell BK714.out 2).trans rfl⟩ (fun hHeld => ?_)
              clear hK K
              refine norm_ (a' := ?_) ?_ ?_
              rotate_left
              · show Act.put _ (some 73) _ = _
                simp only [Act.put, List.setIfInBounds_toArray, List.set_cons_zero, List.set_cons_succ, i64_w, i32_w]
                rfl
              refine one_ (i := 8) (N := some 74) #[true, true, true, true, true, true, true, true, true, false, false] rfl rfl (one_of HT_.out (by kernel_rfl)) (by decide) (fun K hK => ?_)
              refine goes_ Try.func22 (by kernel_rfl) rfl #[.int .i64 t698, .agg #[.bool t729, .int .i64 t730, .int .i64 t731], .agg #[.bool t732, .int .i64 t733, .int .i64 t734]] (by rfl) rfl rfl (by (try simp only [List.map_toArray, List.map_cons, List.map_nil]); first | done | rfl | (simp only [List.length_drop, List.length_take]; rfl)) ?_
              with_reducible refine (impl_SpanDo.calls kj8 t698 t729 t730 t731 t732 t733 t734 t735 t736 t737 _ A75.out).mono ?_
              rintro e w80 ⟨rfl, hb⟩
              refine ⟨_, rfl, ?_⟩
              have n0_ := Bk.mk (blk_below (g := gb705) bk hb)
              have n1_ := Bk.mk (blk_below (g := gb706) bk hb)
              have n2_ := Bk.mk (blk_below (g := gb713) bk hb)
              have n3_ := Bk.mk (blk_below (g := gb714) bk hb)
              have n4_ := Bk.mk (blk_below (g := gb718) bk hb)
              have n5_ := Bl.mk (below_step bl hb)
              clear BK705
              clear BK706
              clear BK713
              clear BK714
              clear BK718
              clear HB
              have BK705 := n0_
              have BK706 := n1_
              have BK713 := n2_
              have BK714 := n3_
              have BK718 := n4_
              have HB := n5_
              clear n0_ n1_ n2_ n3_ n4_ n5_
              (try clear hb)
              (try clear hb2)
              (try clear hk)
              (try clear hi)
              refine hK.out _ _ ⟨(blk_cell BK718.out 0).trans rfl, (blk_cell BK718.out 1).trans rfl, (blk_cell BK718.out 2).trans rfl, (blk_cell BK705.out 0).trans rfl, (blk_cell BK705.out 1).trans rfl, (blk_cell BK705.out 2).trans rfl, (blk_cell BK713.out 0).trans rfl, (blk_cell BK713.out 1).trans rfl, (blk_cell BK713.out 2).trans rfl, (blk_cell BK706.out 0).trans rfl, (blk_cell BK706.out 1).trans rfl, (blk_cell BK706.out 2).trans rfl, (blk_cell BK714.out 0).trans rfl, (blk_cell BK714.out 1).trans rfl, (blk_cell BK714.out 2).trans rfl⟩ (fun hHeld => ?_)
              clear hK K
              refine norm_ (a' := ?_) ?_ ?_
              rotate_left
              · show Act.put _ (some 74) _ = _
                simp only [Act.put, List.setIfInBounds_toArray, List.set_cons_zero, List.set_cons_succ, i64_w, i32_w]
                rfl
              refine one_ (i := 9) (N := some 75) #[true, true, true, true, true, true, true, true, true, true, false] rfl rfl (one_of HT_.out (by kernel_rfl)) (by decide) (fun K hK => ?_)
              refine goes_ Try.func26 (by kernel_rfl) rfl #[.agg #[.bool t715, .int .i64 t716, .int .i64 t717], .agg #[.bool t735, .int .i64 t736, .int .i64 t737]] (by rfl) rfl rfl (by (try simp only [List.map_toArray, List.map_cons, List.map_nil]); first | done | rfl | (simp only [List.length_drop, List.length_take]; rfl)) ?_
              with_reducible refine (impl_SpanIn.calls t715 t716 t717 t735 t736 t737 t738 _ A76.out).mono ?_
              rintro e w81 ⟨rfl, hb⟩
              refine ⟨_, rfl, ?_⟩
              have n0_ := Bk.mk (blk_below (g := gb705) bk hb)
              have n1_ := Bk.mk (blk_below (g := gb706) bk hb)
              have n2_ := Bk.mk (blk_below (g := gb713) bk hb)
              have n3_ := Bk.mk (blk_below (g := gb714) bk hb)
              have n4_ := Bk.mk (blk_below (g := gb718) bk hb)
              have n5_ := Bl.mk (below_step bl hb)
              clear BK705
              clear BK706
              clear BK713
              clear BK714
              clear BK718
              clear HB
              have BK705 := n0_
              have BK706 := n1_
              have BK713 := n2_
              have BK714 := n3_
              have BK718 := n4_
              have HB := n5_
              clear n0_ n1_ n2_ n3_ n4_ n5_
              (try clear hb)
              (try clear hb2)
              (try clear hk)
              (try clear hi)
              refine hK.out _ _ ⟨(blk_cell BK718.out 0).trans rfl, (blk_cell BK718.out 1).trans rfl, (blk_cell BK718.out 2).trans rfl, (blk_cell BK705.out 0).trans rfl, (blk_cell BK705.out 1).trans rfl, (blk_cell BK705.out 2).trans rfl, (blk_cell BK713.out 0).trans rfl, (blk_cell BK713.out 1).trans rfl, (blk_cell BK713.out 2).trans rfl, (blk_cell BK706.out 0).trans rfl, (blk_cell BK706.out 1).trans rfl, (blk_cell BK706.out 2).trans rfl, (blk_cell BK714.out 0).trans rfl, (blk_cell BK714.out 1).trans rfl, (blk_cell BK714.out 2).trans rfl⟩ (fun hHeld => ?_)
              clear hK K
              refine norm_ (a' := ?_) ?_ ?_
              rotate_left
              · show Act.put _ (some 75) _ = _
                simp only [Act.put, List.setIfInBounds_toArray, List.set_cons_zero, List.set_cons_succ, i64_w, i32_w]
                rfl
              refine pure_ (i := 10) (N := some 4) (v := ?_) (a' := ?_) #[true, true, true, true, true, true, true, true, true, true, true] rfl rfl (any_of HT_.out (by kernel_rfl)) (fun _ _ _ h => h) (Or.inl ⟨by rfl, ?_⟩) ?_ ?_
              rotate_left
              · intro w'
                go_simp
                with_reducible rfl
              rotate_left
              · simp only [Act.put, List.setIfInBounds_toArray, List.set_cons_zero, List.set_cons_succ, i64_w, i32_w]
                rfl
              refine done_ (done_of HT_.out (by kernel_rfl)) ?_
              try go_wp2
              go_ret
              exact ⟨by first | rfl | (simp [errW_none, errW_some] <;> rfl) | (simp [*, errW_none, errW_some] <;> rfl), bl⟩

/-- THE ONE PURE STATEMENT of laws_FnDoMore: yours. -/
def laws_FnDoMore.Pure : Prop := ∀ (l0 : List Int) (l1 : List Int), l0.length ≤ maxLen → l0.length * 1 ≤ 140737488351232 → (∀ x ∈ l0, (Lit.int .u8 x).wf = true) → l1.length ≤ maxLen → l1.length * 1 ≤ 140737488351232 → (∀ x ∈ l1, (Lit.int .u8 x).wf = true) → ∃ k, laws_FnDoMore.f k l0 l1 = some true
theorem laws_FnDoMore.walk (P : laws_FnDoMore.Pure) (a0 : Option Addr) (len0 cap0 : Nat) (z0 : List Int) (a1 : Option Addr) (len1 cap1 : Nat) (z1 : List Int) (w : World) (w0 : (a0 = none ∧ len0 = 0 ∧ cap0 = 0 ∧ z0 = []) ∨ ∃ x, a0 = some x ∧ len0 ≤ cap0 ∧ cap0 ≤ maxLen ∧ z0.length = cap0 ∧ (∀ i, i < z0.length → w.cell? (x.add i) = some (.int .u8 (z0.getD i 0))) ∧ ∀ n ∈ z0, (Lit.int .u8 n).wf = true) (y0 : len0 * 1 ≤ 140737488351232) (w1 : (a1 = none ∧ len1 = 0 ∧ cap1 = 0 ∧ z1 = []) ∨ ∃ x, a1 = some x ∧ len1 ≤ cap1 ∧ cap1 ≤ maxLen ∧ z1.length = cap1 ∧ (∀ i, i < z1.length → w.cell? (x.add i) = some (.int .u8 (z1.getD i 0))) ∧ ∀ n ∈ z1, (Lit.int .u8 n).wf = true) (y1 : len1 * 1 ≤ 140737488351232) :
    Calls Try.prog 10 #[.slice a0 len0 cap0, .slice a1 len1 cap1] w fun e w' => e = .returned (.bool true) ∧ Below w.heap.size w w' := by
  obtain ⟨l0, rfl, hr0, hm0, hw0, hc0⟩ := ReadsInt.ofRowC w0
  obtain ⟨l1, rfl, hr1, hm1, hw1, hc1⟩ := ReadsInt.ofRowC w1
  obtain ⟨k, h⟩ := P l0 l1 hm0 y0 hw0 hm1 y1 hw1
  refine (laws_FnDoMore.calls k _ _ l0 _ _ l1 true w (Kd.C_of_reads (d := (0 : Int)) (h1 := fun _ => rfl) hr0) hc0 (Kd.C_of_reads (d := (0 : Int)) (h1 := fun _ => rfl) hr1) hc1 h).mono ?_
  rintro e w' ⟨rfl, hd⟩
  exact ⟨rfl, hd⟩

end Go.Proofs.Ytekmapilhomdgaa.P
