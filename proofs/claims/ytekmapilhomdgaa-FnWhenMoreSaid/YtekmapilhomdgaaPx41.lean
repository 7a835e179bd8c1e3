/- The contracts of Go functions of this seat: each call comes to what the Lean function of the same name says. -/
import Derived.Test.YtekmapilhomdgaaPx0
import Derived.Test.YtekmapilhomdgaaPx1
import Derived.Test.YtekmapilhomdgaaPx13
import Derived.Test.YtekmapilhomdgaaPx20
import Derived.Test.YtekmapilhomdgaaPx26
import Derived.Test.YtekmapilhomdgaaPx38
import Derived.Test.YtekmapilhomdgaaPx39
import Derived.Test.YtekmapilhomdgaaPx40
namespace Go.Proofs.Ytekmapilhomdgaa.P
open Go.RowKit Go.Proofs.YtekmapilhomdgaaW.PrintWords Go.Proofs.YtekmapilhomdgaaW.PrintLast Go.Proofs.YtekmapilhomdgaaW.PrintMore
attribute [local go_sem] max2_int min2_int max_two min_two max_three min_three max_four min_four   -- for this text's walks alone
set_option linter.unusedVariables false
set_option linter.unusedSimpArgs false

attribute [local go_sem high] eqA30
/-! ### laws_FnWhenMore: function 8 -/
mutual
def laws_FnWhenMore.j0 : Nat → List Int → List Int → Bool → Option (Bool)
  | 0, _, _, _ => none
  | k + 1, x0, x1, x24 => if x24 = true then (some true) else ((spec_DrawSpanWhen.f k x0).bind fun bt579 => ((spec_DrawSpanJoin.f k x1).bind fun bt589 => ((impl_SpanWhen.f k bt579.1 bt579.2.1 bt579.2.2.1 bt579.2.2.2.1 bt579.2.2.2.2.1 bt579.2.2.2.2.2.1 bt579.2.2.2.2.2.2.1 bt579.2.2.2.2.2.2.2).bind fun bt597 => ((spec_SpanWhen.f k bt579.1 bt579.2.1 bt579.2.2.1 bt579.2.2.2.1 bt579.2.2.2.2.1 bt579.2.2.2.2.2.1 bt579.2.2.2.2.2.2.1 bt579.2.2.2.2.2.2.2).bind fun bt605 => (if (!(bt597.1 == bt605.1) || (!(bt597.2.1 == bt605.2.1) || (!(bt597.2.2.1 == bt605.2.2.1)))) = true then (laws_FnWhenMore.j1 k bt579.1 bt579.2.2.2.2.2.2.2 true bt579.2.1 bt579.2.2.1 bt579.2.2.2.1 bt579.2.2.2.2.1 bt579.2.2.2.2.2.1 bt579.2.2.2.2.2.2.1 bt589.1 bt589.2.1 bt589.2.2.1 bt589.2.2.2.1 bt589.2.2.2.2.1 bt589.2.2.2.2.2 bt597.1 bt597.2.1 bt597.2.2.1 bt597.2.2.2.1 bt597.2.2.2.2.1 bt597.2.2.2.2.2 bt605.1 bt605.2.1 bt605.2.2.1 bt605.2.2.2.1 bt605.2.2.2.2.1 bt605.2.2.2.2.2) else (if (!(bt597.2.2.2.1 == bt605.2.2.2.1) || (!(bt597.2.2.2.2.1 == bt605.2.2.2.2.1) || (!(bt597.2.2.2.2.2 == bt605.2.2.2.2.2)))) = true then (laws_FnWhenMore.j1 k bt579.1 bt579.2.2.2.2.2.2.2 true bt579.2.1 bt579.2.2.1 bt579.2.2.2.1 bt579.2.2.2.2.1 bt579.2.2.2.2.2.1 bt579.2.2.2.2.2.2.1 bt589.1 bt589.2.1 bt589.2.2.1 bt589.2.2.2.1 bt589.2.2.2.2.1 bt589.2.2.2.2.2 bt597.1 bt597.2.1 bt597.2.2.1 bt597.2.2.2.1 bt597.2.2.2.2.1 bt597.2.2.2.2.2 bt605.1 bt605.2.1 bt605.2.2.1 bt605.2.2.2.1 bt605.2.2.2.2.1 bt605.2.2.2.2.2) else ((spec_SpanOk.f bt579.2.1 bt579.2.2.1 bt579.2.2.2.1).bind fun t613 => (if t613 = true then ((spec_SpanOk.f bt579.2.2.2.2.1 bt579.2.2.2.2.2.1 bt579.2.2.2.2.2.2.1).bind fun t614 => (if t614 = true then ((spec_SpanOk.f bt589.1 bt589.2.1 bt589.2.2.1).bind fun t615 => (if t615 = true then ((spec_SpanOk.f bt589.2.2.2.1 bt589.2.2.2.2.1 bt589.2.2.2.2.2).bind fun t616 => (laws_FnWhenMore.j1 k bt579.1 bt579.2.2.2.2.2.2.2 (!t616) bt579.2.1 bt579.2.2.1 bt579.2.2.2.1 bt579.2.2.2.2.1 bt579.2.2.2.2.2.1 bt579.2.2.2.2.2.2.1 bt589.1 bt589.2.1 bt589.2.2.1 bt589.2.2.2.1 bt589.2.2.2.2.1 bt589.2.2.2.2.2 bt597.1 bt597.2.1 bt597.2.2.1 bt597.2.2.2.1 bt597.2.2.2.2.1 bt597.2.2.2.2.2 bt605.1 bt605.2.1 bt605.2.2.1 bt605.2.2.2.1 bt605.2.2.2.2.1 bt605.2.2.2.2.2)) else (laws_FnWhenMore.j1 k bt579.1 bt579.2.2.2.2.2.2.2 true bt579.2.1 bt579.2.2.1 bt579.2.2.2.1 bt579.2.2.2.2.1 bt579.2.2.2.2.2.1 bt579.2.2.2.2.2.2.1 bt589.1 bt589.2.1 bt589.2.2.1 bt589.2.2.2.1 bt589.2.2.2.2.1 bt589.2.2.2.2.2 bt597.1 bt597.2.1 bt597.2.2.1 bt597.2.2.2.1 bt597.2.2.2.2.1 bt597.2.2.2.2.2 bt605.1 bt605.2.1 bt605.2.2.1 bt605.2.2.2.1 bt605.2.2.2.2.1 bt605.2.2.2.2.2))) else (laws_FnWhenMore.j1 k bt579.1 bt579.2.2.2.2.2.2.2 true bt579.2.1 bt579.2.2.1 bt579.2.2.2.1 bt579.2.2.2.2.1 bt579.2.2.2.2.2.1 bt579.2.2.2.2.2.2.1 bt589.1 bt589.2.1 bt589.2.2.1 bt589.2.2.2.1 bt589.2.2.2.2.1 bt589.2.2.2.2.2 bt597.1 bt597.2.1 bt597.2.2.1 bt597.2.2.2.1 bt597.2.2.2.2.1 bt597.2.2.2.2.2 bt605.1 bt605.2.1 bt605.2.2.1 bt605.2.2.2.1 bt605.2.2.2.2.1 bt605.2.2.2.2.2))) else (laws_FnWhenMore.j1 k bt579.1 bt579.2.2.2.2.2.2.2 true bt579.2.1 bt579.2.2.1 bt579.2.2.2.1 bt579.2.2.2.2.1 bt579.2.2.2.2.2.1 bt579.2.2.2.2.2.2.1 bt589.1 bt589.2.1 bt589.2.2.1 bt589.2.2.2.1 bt589.2.2.2.2.1 bt589.2.2.2.2.2 bt597.1 bt597.2.1 bt597.2.2.1 bt597.2.2.2.1 bt597.2.2.2.2.1 bt597.2.2.2.2.2 bt605.1 bt605.2.1 bt605.2.2.1 bt605.2.2.2.1 bt605.2.2.2.2.1 bt605.2.2.2.2.2)))))))))
def laws_FnWhenMore.j1 : Nat → Int → Bool → Bool → Bool → Int → Int → Bool → Int → Int → Bool → Int → Int → Bool → Int → Int → Bool → Int → Int → Bool → Int → Int → Bool → Int → Int → Bool → Int → Int → Option (Bool)
  | 0, _, _, _, _, _, _, _, _, _, _, _, _, _, _, _, _, _, _, _, _, _, _, _, _, _, _, _ => none
  | k + 1, x5, x8, x80, x588000, x588001, x588002, x589000, x589001, x589002, x596000, x596001, x596002, x597000, x597001, x597002, x604000, x604001, x604002, x605000, x605001, x605002, x612000, x612001, x612002, x613000, x613001, x613002 => if x80 = true then (if (x604000 == x612000 && (x604001 == x612001 && (x604002 == x612002))) = true then (some (x605000 == x613000 && (x605001 == x613001 && (x605002 == x613002)))) else (some false)) else ((impl_SpanJoin.f k x588000 x588001 x588002 x596000 x596001 x596002).bind fun bt617 => ((impl_SpanJoin.f k x589000 x589001 x589002 x597000 x597001 x597002).bind fun bt620 => ((impl_SpanWhen.f k x5 bt617.1 bt617.2.1 bt617.2.2 bt620.1 bt620.2.1 bt620.2.2 x8).bind fun bt623 => ((impl_SpanIn.f x604000 x604001 x604002 bt623.1 bt623.2.1 bt623.2.2.1).bind fun t631 => (if t631 = true then ((impl_SpanIn.f x605000 x605001 x605002 bt623.2.2.2.1 bt623.2.2.2.2.1 bt623.2.2.2.2.2).bind fun t632 => (some t632)) else (some false))))))
end
def laws_FnWhenMore.f (k : Nat) (l0 : List Int) (l1 : List Int) : Option (Bool) := if (l0.length : Int) > 1048576 then (laws_FnWhenMore.j0 k l0 l1 true) else (laws_FnWhenMore.j0 k l0 l1 (decide ((l1.length : Int) > 1048576)))
theorem laws_FnWhenMore.mono_l : ∀ k, (∀ y0 y1 y2, LeO (laws_FnWhenMore.j0 k y0 y1 y2) (laws_FnWhenMore.j0 (k + 1) y0 y1 y2)) ∧ (∀ y0 y1 y2 y3 y4 y5 y6 y7 y8 y9 y10 y11 y12 y13 y14 y15 y16 y17 y18 y19 y20 y21 y22 y23 y24 y25 y26, LeO (laws_FnWhenMore.j1 k y0 y1 y2 y3 y4 y5 y6 y7 y8 y9 y10 y11 y12 y13 y14 y15 y16 y17 y18 y19 y20 y21 y22 y23 y24 y25 y26) (laws_FnWhenMore.j1 (k + 1) y0 y1 y2 y3 y4 y5 y6 y7 y8 y9 y10 y11 y12 y13 y14 y15 y16 y17 y18 y19 y20 y21 y22 y23 y24 y25 y26))
  | 0 => ⟨fun _ _ _ r h => by simp [laws_FnWhenMore.j0] at h, fun _ _ _ _ _ _ _ _ _ _ _ _ _ _ _ _ _ _ _ _ _ _ _ _ _ _ _ r h => by simp [laws_FnWhenMore.j1] at h⟩
  | k + 1 => by
    obtain ⟨ih0, ih1⟩ := laws_FnWhenMore.mono_l k
    refine ⟨?_, ?_⟩
    · intro y0 y1 y2
      unfold laws_FnWhenMore.j0
      repeat' first
      | (with_reducible exact ih0 _ _ _)
      | (with_reducible exact ih1 _ _ _ _ _ _ _ _ _ _ _ _ _ _ _ _ _ _ _ _ _ _ _ _ _ _ _)
      | (with_reducible exact impl_SpanJoin.mono _ _ _ _ _ _ _)
      | (with_reducible exact impl_SpanWhen.mono _ _ _ _ _ _ _ _ _)
      | (with_reducible exact spec_DrawSpanJoin.mono _ _)
      | (with_reducible exact spec_DrawSpanWhen.mono _ _)
      | (with_reducible exact spec_SpanWhen.mono _ _ _ _ _ _ _ _ _)
      | (with_reducible exact LeO.refl _)
      | (with_reducible exact LeO.none _)
      | (with_reducible refine LeO.ite ?_ ?_)
      | (with_reducible refine LeO.bind ?_ (fun _ => ?_))
      | exact ih0 _ _ _
      | exact ih1 _ _ _ _ _ _ _ _ _ _ _ _ _ _ _ _ _ _ _ _ _ _ _ _ _ _ _
      | exact impl_SpanJoin.mono _ _ _ _ _ _ _
      | exact impl_SpanWhen.mono _ _ _ _ _ _ _ _ _
      | exact spec_DrawSpanJoin.mono _ _
      | exact spec_DrawSpanWhen.mono _ _
      | exact spec_SpanWhen.mono _ _ _ _ _ _ _ _ _
      | exact LeO.none _
      | refine LeO.ite ?_ ?_
      | refine LeO.bind ?_ (fun _ => ?_)
    · intro y0 y1 y2 y3 y4 y5 y6 y7 y8 y9 y10 y11 y12 y13 y14 y15 y16 y17 y18 y19 y20 y21 y22 y23 y24 y25 y26
      unfold laws_FnWhenMore.j1
      repeat' first
      | (with_reducible exact ih0 _ _ _)
      | (with_reducible exact ih1 _ _ _ _ _ _ _ _ _ _ _ _ _ _ _ _ _ _ _ _ _ _ _ _ _ _ _)
      | (with_reducible exact impl_SpanJoin.mono _ _ _ _ _ _ _)
      | (with_reducible exact impl_SpanWhen.mono _ _ _ _ _ _ _ _ _)
      | (with_reducible exact spec_DrawSpanJoin.mono _ _)
      | (with_reducible exact spec_DrawSpanWhen.mono _ _)
      | (with_reducible exact spec_SpanWhen.mono _ _ _ _ _ _ _ _ _)
      | (with_reducible exact LeO.refl _)
      | (with_reducible exact LeO.none _)
      | (with_reducible refine LeO.ite ?_ ?_)
      | (with_reducible refine LeO.bind ?_ (fun _ => ?_))
      | exact ih0 _ _ _
      | exact ih1 _ _ _ _ _ _ _ _ _ _ _ _ _ _ _ _ _ _ _ _ _ _ _ _ _ _ _
      | exact impl_SpanJoin.mono _ _ _ _ _ _ _
      | exact impl_SpanWhen.mono _ _ _ _ _ _ _ _ _
      | exact spec_DrawSpanJoin.mono _ _
      | exact spec_DrawSpanWhen.mono _ _
      | exact spec_SpanWhen.mono _ _ _ _ _ _ _ _ _
      | exact LeO.none _
      | refine LeO.ite ?_ ?_
      | refine LeO.bind ?_ (fun _ => ?_)
theorem laws_FnWhenMore.mono : ∀ a0 a1 k, LeO (laws_FnWhenMore.f k a0 a1) (laws_FnWhenMore.f (k + 1) a0 a1) := by
  intro a0 a1 k
  obtain ⟨ih0, ih1⟩ := laws_FnWhenMore.mono_l k
  unfold laws_FnWhenMore.f
  repeat' first
      | (with_reducible exact ih0 _ _ _)
      | (with_reducible exact ih1 _ _ _ _ _ _ _ _ _ _ _ _ _ _ _ _ _ _ _ _ _ _ _ _ _ _ _)
      | (with_reducible exact impl_SpanJoin.mono _ _ _ _ _ _ _)
      | (with_reducible exact impl_SpanWhen.mono _ _ _ _ _ _ _ _ _)
      | (with_reducible exact spec_DrawSpanJoin.mono _ _)
      | (with_reducible exact spec_DrawSpanWhen.mono _ _)
      | (with_reducible exact spec_SpanWhen.mono _ _ _ _ _ _ _ _ _)
      | (with_reducible exact LeO.refl _)
      | (with_reducible exact LeO.none _)
      | (with_reducible refine LeO.ite ?_ ?_)
      | (with_reducible refine LeO.bind ?_ (fun _ => ?_))
      | exact ih0 _ _ _
      | exact ih1 _ _ _ _ _ _ _ _ _ _ _ _ _ _ _ _ _ _ _ _ _ _ _ _ _ _ _
      | exact impl_SpanJoin.mono _ _ _ _ _ _ _
      | exact impl_SpanWhen.mono _ _ _ _ _ _ _ _ _
      | exact spec_DrawSpanJoin.mono _ _
      | exact spec_DrawSpanWhen.mono _ _
      | exact spec_SpanWhen.mono _ _ _ _ _ _ _ _ _
      | exact LeO.none _
      | refine LeO.ite ?_ ?_
      | refine LeO.bind ?_ (fun _ => ?_)
def laws_FnWhenMore.T9 : Bool × List (List Nat × List Nat) := (true, [([], []), ([], []), ([], []), ([1, 2], [1, 2]), ([], []), ([], []), ([4, 5, 3], [4, 5]), ([], []), ([0, 3, 6, 7, 6], [0, 3, 6, 7]), ([8], [8]), ([9], [9]), ([9], [9]), ([], []), ([], []), ([12, 10, 8, 0, 1, 2, 3, 4, 5, 6, 7, 8, 9, 10, 12, 13], [10, 12]), ([13, 11, 14, 0, 1, 2, 3, 4, 5, 6, 7, 8, 9, 10, 11, 12, 13, 14], [11, 13])])
def laws_FnWhenMore.B9 : List Nat := [0, 0, 0, 6, 0, 0, 62, 0, 255, 511, 1023, 1023, 0, 0, 14335, 32767]
theorem laws_FnWhenMore.tab9 : rtab .any (opsOf Try.f8 9) = laws_FnWhenMore.T9 := by kernel_rfl
theorem laws_FnWhenMore.bits9 : waitsOk laws_FnWhenMore.T9.2 laws_FnWhenMore.B9 = true := by kernel_rfl
set_option maxHeartbeats 8000000 in
set_option maxRecDepth 100000 in
theorem laws_FnWhenMore.calls (k : Nat) (A0 : Option Addr) (c0 : Nat) (l0 : List Int) (A1 : Option Addr) (c1 : Nat) (l1 : List Int) (r : Bool) (w : World) (hr0 : Kd.C (Kd.int .u8) w A0 l0.length l0) (hc0 : l0.length ≤ c0) (hr1 : Kd.C (Kd.int .u8) w A1 l1.length l1) (hc1 : l1.length ≤ c1) (h : laws_FnWhenMore.f k l0 l1 = some r) :
    Calls Try.prog 8 #[.slice A0 l0.length c0, .slice A1 l1.length c1] w fun e w' => e = .returned (.bool r) ∧ Below w.heap.size w w' := by
  have hu30 := Try.underlying30
  have HR0 := Aside0.mk hr0
  have HC0 := Aside0.mk hc0
  clear hr0 hc0
  have HR1 := Aside0.mk hr1
  have HC1 := Aside0.mk hc1
  clear hr1 hc1
  have HB := Bl.mk (Below.refl w.heap.size w)
  unfold laws_FnWhenMore.f at h
  have H := h
  clear h
  have HC3 := Aside0.mk H
  clear H
  go_enter Try.func8, Try.ntmps8
  go_upto_region 1 with (fail)
  go_cut [24] (fun v24 wc => ∃ (kq : Nat) (x24_2 : Bool), v24 = .bool x24_2 ∧ Aside0 (laws_FnWhenMore.j0 kq l0 l1 x24_2 = some r) ∧ Aside0 (kq ≤ k) ∧ Bl w.heap.size w wc)
  case first =>
    have H := HC3.out
    clear HC3
    by_cases c4 : (l0.length : Int) > 1048576
    · rw [if_pos c4] at H
      have c4b0 : decide (1048576 < (l0.length : Int)) = true := decide_eq_true c4
      have c4b1 : decide (1048576 < l0.length) = true := decide_eq_true (by omega)
      clear c4
      (first | rw [c4b0] | (simp only [i64_w, i32_w]; rw [c4b0]) | skip)
      have H' := Aside0.mk H
      clear H
      go_wp2
      go_meet
      case rel => exact ⟨_, (true), (by first | rfl | (simp; done) | (simp [*]; done)), H', ⟨by first | omega | exact Nat.le_refl _⟩, ⟨bl⟩⟩
    · rw [if_neg c4] at H
      have c4b0 : decide (1048576 < (l0.length : Int)) = false := decide_eq_false c4
      have c4b1 : decide (1048576 < l0.length) = false := decide_eq_false (by omega)
      clear c4
      (first | rw [c4b0] | (simp only [i64_w, i32_w]; rw [c4b0]) | skip)
      have H' := Aside0.mk H
      clear H
      go_wp2
      go_meet
      case rel => exact ⟨_, (decide ((l1.length : Int) > 1048576)), (by first | rfl | (simp; done) | (simp [*]; done)), H', ⟨by first | omega | exact Nat.le_refl _⟩, ⟨bl⟩⟩
  case rest =>
    clear HC3
    try clear c1
    try clear p2
    try clear c4
    try clear c4b0
    try clear c4b1
    obtain ⟨kq, x24_2, rfl, HA, HJ2, HB⟩ := hcut
    cases kq with
    | zero => exact absurd HA.out (by simp [laws_FnWhenMore.j0])
    | succ kj2 =>
      have H := HA.out
      clear HA
      simp only [laws_FnWhenMore.j0] at H
      by_cases c5 : x24_2 = true
      · subst c5
        rw [if_pos rfl] at H
        obtain rfl := Option.some.inj H
        go_wp2
        go_ret
        exact ⟨by first | rfl | (simp [errW_none, errW_some] <;> rfl) | (simp [*, errW_none, errW_some] <;> rfl), bl⟩
      · replace c5 := Bool.eq_false_iff.mpr c5
        subst c5
        rw [if_neg (show ¬ (false = true) by decide)] at H
        replace H := Option.bind_eq_some_iff.mp H
        obtain ⟨⟨t579, t580, t581, t582, t583, t584, t585, t586⟩, A60, H⟩ := H
        try dsimp only at H
        have A6 := Aside0.mk A60
        clear A60
        replace H := Option.bind_eq_some_iff.mp H
        obtain ⟨⟨t589, t590, t591, t592, t593, t594⟩, A70, H⟩ := H
        try dsimp only at H
        have A7 := Aside0.mk A70
        clear A70
        replace H := Option.bind_eq_some_iff.mp H
        obtain ⟨⟨t597, t598, t599, t600, t601, t602⟩, A80, H⟩ := H
        try dsimp only at H
        have A8 := Aside0.mk A80
        clear A80
        replace H := Option.bind_eq_some_iff.mp H
        obtain ⟨⟨t605, t606, t607, t608, t609, t610⟩, A90, H⟩ := H
        try dsimp only at H
        have A9 := Aside0.mk A90
        clear A90
        have HC10 := Aside0.mk H
        clear H
        go_upto_region 7 with (first | ((with_reducible refine gate_callee (f := 23) rfl ?_); refine goesL_ (some 27) rfl rfl Try.func23 (by kernel_rfl) rfl #[.slice A0 l0.length c0] rfl (by (try simp only [List.map_toArray, List.map_cons, List.map_nil]); first | done | rfl | (simp only [List.length_drop, List.length_take]; rfl)) ?_; (with_reducible refine (spec_DrawSpanWhen.calls kj2 _ _ l0 t579 t580 t581 t582 t583 t584 t585 t586 _ ?side1 ?side2 A6.out).mono ?_); (case side1 => repeat (first | exact (Kd.C_below HR0.out HB.out) | (with_reducible refine Kd.C_alloc ?_ _) | (with_reducible refine Kd.C_drewN ?_ _) | (with_reducible refine Kd.C_drew ?_))); (case side2 => exact HC0.out); rintro e w11 ⟨rfl, hb⟩; refine ⟨_, rfl, ?_⟩; have n0_ := Bl.mk (below_step bl hb); clear HB; have HB := n0_; clear n0_; (try clear hb); (try clear hb2); (try clear hk); (try clear hi)) | ((with_reducible refine gate_dst (N := 6) rfl ?_); (try (refine gate_guard (by rfl) ?_; dsimp only)); refine box_event ?hg (N := 6) ?hd (cs := #[.bool false, .int .i64 0, .int .i64 0]) (t := 30) ?hr ?_; (case hd => rfl); (case hg => rfl); (case hr => first | (go_simp; done) | (go_simp; rfl)); intro gb587 hg w12 hbox hb; have n0_ := Bl.mk (below_step bl hb); have n1_ := Bk.mk (hbox); have n2_ := Aside0.mk ((by rw [hg]; exact (below_size bl) : w.heap.size ≤ gb587)); have n3_ := Gl.mk ((by rw [hg]; exact (below_size bl) : w.heap.size ≤ gb587)); clear HB; have HB := n0_; have BK587 := n1_; have GW587 := n2_; have GE587 := n3_; clear n0_ n1_ n2_ n3_; clear hb hbox hg) | ((with_reducible refine gate_dst (N := 7) rfl ?_); (try (refine gate_guard (by rfl) ?_; dsimp only)); refine box_event ?hg (N := 7) ?hd (cs := #[.bool false, .int .i64 0, .int .i64 0]) (t := 30) ?hr ?_; (case hd => rfl); (case hg => rfl); (case hr => first | (go_simp; done) | (go_simp; rfl)); intro gb588 hg w13 hbox hb; have n0_ := Bk.mk (blk_below (g := gb587) bk hb); have n1_ := Bl.mk (below_step bl hb); have n2_ := Bk.mk (hbox); have n3_ := Aside0.mk ((by rw [hg]; exact (below_size bl) : w.heap.size ≤ gb588)); have n4_ := Gl.mk ((by rw [hg]; exact (below_size bl) : w.heap.size ≤ gb588)); have n5_ := Nb.mk ((by rw [hg]; exact Nat.ne_of_lt (blk_lt (g := gb587) bk) : gb587 ≠ gb588)); have n6_ := Nb.mk ((by rw [hg]; exact Nat.ne_of_gt (blk_lt (g := gb587) bk) : gb588 ≠ gb587)); clear BK587; clear HB; have BK587 := n0_; have HB := n1_; have BK588 := n2_; have GW588 := n3_; have GE588 := n4_; have NB587_588 := n5_; have NB588_587 := n6_; clear n0_ n1_ n2_ n3_ n4_ n5_ n6_; clear hb hbox hg; have hnb14 := NB587_588.out; have hnc14 := NB588_587.out; have hcz15_0 := bc0 BK587.out; have hcz15_1 := bc1 BK587.out; have hcz15_2 := bc2 BK587.out; have hfz15_0 := blk_frozen BK587.out 0; have hfz15_1 := blk_frozen BK587.out 1; have hfz15_2 := blk_frozen BK587.out 2; have hcz16_0 := bc0 BK588.out; have hcz16_1 := bc1 BK588.out; have hcz16_2 := bc2 BK588.out; have hfz16_0 := blk_frozen BK588.out 0; have hfz16_1 := blk_frozen BK588.out 1; have hfz16_2 := blk_frozen BK588.out 2) | ((with_reducible refine gate_callee (f := 24) rfl ?_); refine goesL_ (some 34) rfl rfl Try.func24 (by kernel_rfl) rfl #[.slice A1 l1.length c1] rfl (by (try simp only [List.map_toArray, List.map_cons, List.map_nil]); first | done | rfl | (simp only [List.length_drop, List.length_take]; rfl)) ?_; (with_reducible refine (spec_DrawSpanJoin.calls kj2 _ _ l1 t589 t590 t591 t592 t593 t594 _ ?side1 ?side2 A7.out).mono ?_); (case side1 => exact Kd.C_below HR1.out bl); (case side2 => exact HC1.out); rintro e w17 ⟨rfl, hb⟩; refine ⟨_, rfl, ?_⟩; have n0_ := Bk.mk (blk_below (g := gb587) (o := .cells #[.bool t580, .int .i64 t581, .int .i64 t582] 30 (0, 0)) bk hb); have n1_ := Bk.mk (blk_below (g := gb588) (o := .cells #[.bool t583, .int .i64 t584, .int .i64 t585] 30 (0, 0)) bk hb); have n2_ := Bl.mk (below_step bl hb); clear BK587; clear BK588; clear HB; have BK587 := n0_; have BK588 := n1_; have HB := n2_; clear n0_ n1_ n2_; (try clear hb); (try clear hb2); (try clear hk); (try clear hi)) | ((with_reducible refine gate_dst (N := 9) rfl ?_); (try (refine gate_guard (by rfl) ?_; dsimp only)); refine box_event ?hg (N := 9) ?hd (cs := #[.bool false, .int .i64 0, .int .i64 0]) (t := 30) ?hr ?_; (case hd => rfl); (case hg => rfl); (case hr => first | (go_simp; done) | (go_simp; rfl)); intro gb595 hg w18 hbox hb; have n0_ := Bk.mk (blk_below (g := gb587) bk hb); have n1_ := Bk.mk (blk_below (g := gb588) bk hb); have n2_ := Bl.mk (below_step bl hb); have n3_ := Bk.mk (hbox); have n4_ := Aside0.mk ((by rw [hg]; exact (below_size bl) : w.heap.size ≤ gb595)); have n5_ := Gl.mk ((by rw [hg]; exact (below_size bl) : w.heap.size ≤ gb595)); have n6_ := Nb.mk ((by rw [hg]; exact Nat.ne_of_lt (blk_lt (g := gb587) bk) : gb587 ≠ gb595)); have n7_ := Nb.mk ((by rw [hg]; exact Nat.ne_of_gt (blk_lt (g := gb587) bk) : gb595 ≠ gb587)); have n8_ := Nb.mk ((by rw [hg]; exact Nat.ne_of_lt (blk_lt (g := gb588) bk) : gb588 ≠ gb595)); have n9_ := Nb.mk ((by rw [hg]; exact Nat.ne_of_gt (blk_lt (g := gb588) bk) : gb595 ≠ gb588)); clear BK587; clear BK588; clear HB; have BK587 := n0_; have BK588 := n1_; have HB := n2_; have BK595 := n3_; have GW595 := n4_; have GE595 := n5_; have NB587_595 := n6_; have NB595_587 := n7_; have NB588_595 := n8_; have NB595_588 := n9_; clear n0_ n1_ n2_ n3_ n4_ n5_ n6_ n7_ n8_ n9_; clear hb hbox hg) | ((with_reducible refine gate_dst (N := 10) rfl ?_); (try (refine gate_guard (by rfl) ?_; dsimp only)); refine box_event ?hg (N := 10) ?hd (cs := #[.bool false, .int .i64 0, .int .i64 0]) (t := 30) ?hr ?_; (case hd => rfl); (case hg => rfl); (case hr => first | (go_simp; done) | (go_simp; rfl)); intro gb596 hg w19 hbox hb; have n0_ := Bk.mk (blk_below (g := gb587) bk hb); have n1_ := Bk.mk (blk_below (g := gb588) bk hb); have n2_ := Bk.mk (blk_below (g := gb595) bk hb); have n3_ := Bl.mk (below_step bl hb); have n4_ := Bk.mk (hbox); have n5_ := Aside0.mk ((by rw [hg]; exact (below_size bl) : w.heap.size ≤ gb596)); have n6_ := Gl.mk ((by rw [hg]; exact (below_size bl) : w.heap.size ≤ gb596)); have n7_ := Nb.mk ((by rw [hg]; exact Nat.ne_of_lt (blk_lt (g := gb587) bk) : gb587 ≠ gb596)); have n8_ := Nb.mk ((by rw [hg]; exact Nat.ne_of_gt (blk_lt (g := gb587) bk) : gb596 ≠ gb587)); have n9_ := Nb.mk ((by rw [hg]; exact Nat.ne_of_lt (blk_lt (g := gb588) bk) : gb588 ≠ gb596)); have n10_ := Nb.mk ((by rw [hg]; exact Nat.ne_of_gt (blk_lt (g := gb588) bk) : gb596 ≠ gb588)); have n11_ := Nb.mk ((by rw [hg]; exact Nat.ne_of_lt (blk_lt (g := gb595) bk) : gb595 ≠ gb596)); have n12_ := Nb.mk ((by rw [hg]; exact Nat.ne_of_gt (blk_lt (g := gb595) bk) : gb596 ≠ gb595)); clear BK587; clear BK588; clear BK595; clear HB; have BK587 := n0_; have BK588 := n1_; have BK595 := n2_; have HB := n3_; have BK596 := n4_; have GW596 := n5_; have GE596 := n6_; have NB587_596 := n7_; have NB596_587 := n8_; have NB588_596 := n9_; have NB596_588 := n10_; have NB595_596 := n11_; have NB596_595 := n12_; clear n0_ n1_ n2_ n3_ n4_ n5_ n6_ n7_ n8_ n9_ n10_ n11_ n12_; clear hb hbox hg; have hnb20 := NB595_587.out; have hnc20 := NB587_595.out; have hnb21 := NB595_588.out; have hnc21 := NB588_595.out; have hnb22 := NB595_596.out; have hnc22 := NB596_595.out; have hcz23_0 := bc0 BK595.out; have hcz23_1 := bc1 BK595.out; have hcz23_2 := bc2 BK595.out; have hfz23_0 := blk_frozen BK595.out 0; have hfz23_1 := blk_frozen BK595.out 1; have hfz23_2 := blk_frozen BK595.out 2; have hnb24 := NB596_587.out; have hnc24 := NB587_596.out; have hnb25 := NB596_588.out; have hnc25 := NB588_596.out; have hcz26_0 := bc0 BK596.out; have hcz26_1 := bc1 BK596.out; have hcz26_2 := bc2 BK596.out; have hfz26_0 := blk_frozen BK596.out 0; have hfz26_1 := blk_frozen BK596.out 1; have hfz26_2 := blk_frozen BK596.out 2; have hcz27_0 := bc0 BK587.out; have hcz27_1 := bc1 BK587.out; have hcz27_2 := bc2 BK587.out; have hfz27_0 := blk_frozen BK587.out 0; have hfz27_1 := blk_frozen BK587.out 1; have hfz27_2 := blk_frozen BK587.out 2; have hcz28_0 := bc0 BK588.out; have hcz28_1 := bc1 BK588.out; have hcz28_2 := bc2 BK588.out; have hfz28_0 := blk_frozen BK588.out 0; have hfz28_1 := blk_frozen BK588.out 1; have hfz28_2 := blk_frozen BK588.out 2) | ((with_reducible refine gate_callee (f := 19) rfl ?_); refine goesL_ (some 42) rfl rfl Try.func19 (by kernel_rfl) rfl #[.int .i64 t579, .agg #[.bool t580, .int .i64 t581, .int .i64 t582], .agg #[.bool t583, .int .i64 t584, .int .i64 t585], .bool t586] rfl (by (try simp only [List.map_toArray, List.map_cons, List.map_nil]); first | done | rfl | (simp only [List.length_drop, List.length_take]; rfl)) ?_; (with_reducible refine (impl_SpanWhen.calls kj2 t579 t580 t581 t582 t583 t584 t585 t586 t597 t598 t599 t600 t601 t602 _ A8.out).mono ?_); rintro e w29 ⟨rfl, hb⟩; refine ⟨_, rfl, ?_⟩; have n0_ := Bk.mk (blk_below (g := gb587) (o := .cells #[.bool t580, .int .i64 t581, .int .i64 t582] 30 (0, 0)) bk hb); have n1_ := Bk.mk (blk_below (g := gb588) (o := .cells #[.bool t583, .int .i64 t584, .int .i64 t585] 30 (0, 0)) bk hb); have n2_ := Bk.mk (blk_below (g := gb595) (o := .cells #[.bool t589, .int .i64 t590, .int .i64 t591] 30 (0, 0)) bk hb); have n3_ := Bk.mk (blk_below (g := gb596) (o := .cells #[.bool t592, .int .i64 t593, .int .i64 t594] 30 (0, 0)) bk hb); have n4_ := Bl.mk (below_step bl hb); clear BK587; clear BK588; clear BK595; clear BK596; clear HB; have BK587 := n0_; have BK588 := n1_; have BK595 := n2_; have BK596 := n3_; have HB := n4_; clear n0_ n1_ n2_ n3_ n4_; (try clear hb); (try clear hb2); (try clear hk); (try clear hi)) | ((with_reducible refine gate_dst (N := 11) rfl ?_); (try (refine gate_guard (by rfl) ?_; dsimp only)); refine box_event ?hg (N := 11) ?hd (cs := #[.bool false, .int .i64 0, .int .i64 0]) (t := 30) ?hr ?_; (case hd => rfl); (case hg => rfl); (case hr => first | (go_simp; done) | (go_simp; rfl)); intro gb603 hg w30 hbox hb; have n0_ := Bk.mk (blk_below (g := gb587) bk hb); have n1_ := Bk.mk (blk_below (g := gb588) bk hb); have n2_ := Bk.mk (blk_below (g := gb595) bk hb); have n3_ := Bk.mk (blk_below (g := gb596) bk hb); have n4_ := Bl.mk (below_step bl hb); have n5_ := Bk.mk (hbox); have n6_ := Aside0.mk ((by rw [hg]; exact (below_size bl) : w.heap.size ≤ gb603)); have n7_ := Gl.mk ((by rw [hg]; exact (below_size bl) : w.heap.size ≤ gb603)); have n8_ := Nb.mk ((by rw [hg]; exact Nat.ne_of_lt (blk_lt (g := gb587) bk) : gb587 ≠ gb603)); have n9_ := Nb.mk ((by rw [hg]; exact Nat.ne_of_gt (blk_lt (g := gb587) bk) : gb603 ≠ gb587)); have n10_ := Nb.mk ((by rw [hg]; exact Nat.ne_of_lt (blk_lt (g := gb588) bk) : gb588 ≠ gb603)); have n11_ := Nb.mk ((by rw [hg]; exact Nat.ne_of_gt (blk_lt (g := gb588) bk) : gb603 ≠ gb588)); have n12_ := Nb.mk ((by rw [hg]; exact Nat.ne_of_lt (blk_lt (g := gb595) bk) : gb595 ≠ gb603)); have n13_ := Nb.mk ((by rw [hg]; exact Nat.ne_of_gt (blk_lt (g := gb595) bk) : gb603 ≠ gb595)); have n14_ := Nb.mk ((by rw [hg]; exact Nat.ne_of_lt (blk_lt (g := gb596) bk) : gb596 ≠ gb603)); have n15_ := Nb.mk ((by rw [hg]; exact Nat.ne_of_gt (blk_lt (g := gb596) bk) : gb603 ≠ gb596)); clear BK587; clear BK588; clear BK595; clear BK596; clear HB; have BK587 := n0_; have BK588 := n1_; have BK595 := n2_; have BK596 := n3_; have HB := n4_; have BK603 := n5_; have GW603 := n6_; have GE603 := n7_; have NB587_603 := n8_; have NB603_587 := n9_; have NB588_603 := n10_; have NB603_588 := n11_; have NB595_603 := n12_; have NB603_595 := n13_; have NB596_603 := n14_; have NB603_596 := n15_; clear n0_ n1_ n2_ n3_ n4_ n5_ n6_ n7_ n8_ n9_ n10_ n11_ n12_ n13_ n14_ n15_; clear hb hbox hg) | ((with_reducible refine gate_dst (N := 12) rfl ?_); (try (refine gate_guard (by rfl) ?_; dsimp only)); refine box_event ?hg (N := 12) ?hd (cs := #[.bool false, .int .i64 0, .int .i64 0]) (t := 30) ?hr ?_; (case hd => rfl); (case hg => rfl); (case hr => first | (go_simp; done) | (go_simp; rfl)); intro gb604 hg w31 hbox hb; have n0_ := Bk.mk (blk_below (g := gb587) bk hb); have n1_ := Bk.mk (blk_below (g := gb588) bk hb); have n2_ := Bk.mk (blk_below (g := gb595) bk hb); have n3_ := Bk.mk (blk_below (g := gb596) bk hb); have n4_ := Bk.mk (blk_below (g := gb603) bk hb); have n5_ := Bl.mk (below_step bl hb); have n6_ := Bk.mk (hbox); have n7_ := Aside0.mk ((by rw [hg]; exact (below_size bl) : w.heap.size ≤ gb604)); have n8_ := Gl.mk ((by rw [hg]; exact (below_size bl) : w.heap.size ≤ gb604)); have n9_ := Nb.mk ((by rw [hg]; exact Nat.ne_of_lt (blk_lt (g := gb587) bk) : gb587 ≠ gb604)); have n10_ := Nb.mk ((by rw [hg]; exact Nat.ne_of_gt (blk_lt (g := gb587) bk) : gb604 ≠ gb587)); have n11_ := Nb.mk ((by rw [hg]; exact Nat.ne_of_lt (blk_lt (g := gb588) bk) : gb588 ≠ gb604)); have n12_ := Nb.mk ((by rw [hg]; exact Nat.ne_of_gt (blk_lt (g := gb588) bk) : gb604 ≠ gb588)); have n13_ := Nb.mk ((by rw [hg]; exact Nat.ne_of_lt (blk_lt (g := gb595) bk) : gb595 ≠ gb604)); have n14_ := Nb.mk ((by rw [hg]; exact Nat.ne_of_gt (blk_lt (g := gb595) bk) : gb604 ≠ gb595)); have n15_ := Nb.mk ((by rw [hg]; exact Nat.ne_of_lt (blk_lt (g := gb596) bk) : gb596 ≠ gb604)); have n16_ := Nb.mk ((by rw [hg]; exact Nat.ne_of_gt (blk_lt (g := gb596) bk) : gb604 ≠ gb596)); have n17_ := Nb.mk ((by rw [hg]; exact Nat.ne_of_lt (blk_lt (g := gb603) bk) : gb603 ≠ gb604)); have n18_ := Nb.mk ((by rw [hg]; exact Nat.ne_of_gt (blk_lt (g := gb603) bk) : gb604 ≠ gb603)); clear BK587; clear BK588; clear BK595; clear BK596; clear BK603; clear HB; have BK587 := n0_; have BK588 := n1_; have BK595 := n2_; have BK596 := n3_; have BK603 := n4_; have HB := n5_; have BK604 := n6_; have GW604 := n7_; have GE604 := n8_; have NB587_604 := n9_; have NB604_587 := n10_; have NB588_604 := n11_; have NB604_588 := n12_; have NB595_604 := n13_; have NB604_595 := n14_; have NB596_604 := n15_; have NB604_596 := n16_; have NB603_604 := n17_; have NB604_603 := n18_; clear n0_ n1_ n2_ n3_ n4_ n5_ n6_ n7_ n8_ n9_ n10_ n11_ n12_ n13_ n14_ n15_ n16_ n17_ n18_; clear hb hbox hg; have hnb32 := NB603_587.out; have hnc32 := NB587_603.out; have hnb33 := NB603_588.out; have hnc33 := NB588_603.out; have hnb34 := NB603_595.out; have hnc34 := NB595_603.out; have hnb35 := NB603_596.out; have hnc35 := NB596_603.out; have hnb36 := NB603_604.out; have hnc36 := NB604_603.out; have hcz37_0 := bc0 BK603.out; have hcz37_1 := bc1 BK603.out; have hcz37_2 := bc2 BK603.out; have hfz37_0 := blk_frozen BK603.out 0; have hfz37_1 := blk_frozen BK603.out 1; have hfz37_2 := blk_frozen BK603.out 2; have hnb38 := NB604_587.out; have hnc38 := NB587_604.out; have hnb39 := NB604_588.out; have hnc39 := NB588_604.out; have hnb40 := NB604_595.out; have hnc40 := NB595_604.out; have hnb41 := NB604_596.out; have hnc41 := NB596_604.out; have hcz42_0 := bc0 BK604.out; have hcz42_1 := bc1 BK604.out; have hcz42_2 := bc2 BK604.out; have hfz42_0 := blk_frozen BK604.out 0; have hfz42_1 := blk_frozen BK604.out 1; have hfz42_2 := blk_frozen BK604.out 2; have hcz43_0 := bc0 BK587.out; have hcz43_1 := bc1 BK587.out; have hcz43_2 := bc2 BK587.out; have hfz43_0 := blk_frozen BK587.out 0; have hfz43_1 := blk_frozen BK587.out 1; have hfz43_2 := blk_frozen BK587.out 2; have hcz44_0 := bc0 BK588.out; have hcz44_1 := bc1 BK588.out; have hcz44_2 := bc2 BK588.out; have hfz44_0 := blk_frozen BK588.out 0; have hfz44_1 := blk_frozen BK588.out 1; have hfz44_2 := blk_frozen BK588.out 2) | ((with_reducible refine gate_callee (f := 17) rfl ?_); refine goesL_ (some 50) rfl rfl Try.func17 (by kernel_rfl) rfl #[.int .i64 t579, .agg #[.bool t580, .int .i64 t581, .int .i64 t582], .agg #[.bool t583, .int .i64 t584, .int .i64 t585], .bool t586] rfl (by (try simp only [List.map_toArray, List.map_cons, List.map_nil]); first | done | rfl | (simp only [List.length_drop, List.length_take]; rfl)) ?_; (with_reducible refine (spec_SpanWhen.calls kj2 t579 t580 t581 t582 t583 t584 t585 t586 t605 t606 t607 t608 t609 t610 _ A9.out).mono ?_); rintro e w45 ⟨rfl, hb⟩; refine ⟨_, rfl, ?_⟩; have n0_ := Bk.mk (blk_below (g := gb587) (o := .cells #[.bool t580, .int .i64 t581, .int .i64 t582] 30 (0, 0)) bk hb); have n1_ := Bk.mk (blk_below (g := gb588) (o := .cells #[.bool t583, .int .i64 t584, .int .i64 t585] 30 (0, 0)) bk hb); have n2_ := Bk.mk (blk_below (g := gb595) (o := .cells #[.bool t589, .int .i64 t590, .int .i64 t591] 30 (0, 0)) bk hb); have n3_ := Bk.mk (blk_below (g := gb596) (o := .cells #[.bool t592, .int .i64 t593, .int .i64 t594] 30 (0, 0)) bk hb); have n4_ := Bk.mk (blk_below (g := gb603) (o := .cells #[.bool t597, .int .i64 t598, .int .i64 t599] 30 (0, 0)) bk hb); have n5_ := Bk.mk (blk_below (g := gb604) (o := .cells #[.bool t600, .int .i64 t601, .int .i64 t602] 30 (0, 0)) bk hb); have n6_ := Bl.mk (below_step bl hb); clear BK587; clear BK588; clear BK595; clear BK596; clear BK603; clear BK604; clear HB; have BK587 := n0_; have BK588 := n1_; have BK595 := n2_; have BK596 := n3_; have BK603 := n4_; have BK604 := n5_; have HB := n6_; clear n0_ n1_ n2_ n3_ n4_ n5_ n6_; (try clear hb); (try clear hb2); (try clear hk); (try clear hi)) | ((with_reducible refine gate_dst (N := 13) rfl ?_); (try (refine gate_guard (by rfl) ?_; dsimp only)); refine box_event ?hg (N := 13) ?hd (cs := #[.bool false, .int .i64 0, .int .i64 0]) (t := 30) ?hr ?_; (case hd => rfl); (case hg => rfl); (case hr => first | (go_simp; done) | (go_simp; rfl)); intro gb611 hg w46 hbox hb; have n0_ := Bk.mk (blk_below (g := gb587) bk hb); have n1_ := Bk.mk (blk_below (g := gb588) bk hb); have n2_ := Bk.mk (blk_below (g := gb595) bk hb); have n3_ := Bk.mk (blk_below (g := gb596) bk hb); have n4_ := Bk.mk (blk_below (g := gb603) bk hb); have n5_ := Bk.mk (blk_below (g := gb604) bk hb); have n6_ := Bl.mk (below_step bl hb); have n7_ := Bk.mk (hbox); have n8_ := Aside0.mk ((by rw [hg]; exact (below_size bl) : w.heap.size ≤ gb611)); have n9_ := Gl.mk ((by rw [hg]; exact (below_size bl) : w.heap.size ≤ gb611)); have n10_ := Nb.mk ((by rw [hg]; exact Nat.ne_of_lt (blk_lt (g := gb587) bk) : gb587 ≠ gb611)); have n11_ := Nb.mk ((by rw [hg]; exact Nat.ne_of_gt (blk_lt (g := gb587) bk) : gb611 ≠ gb587)); have n12_ := Nb.mk ((by rw [hg]; exact Nat.ne_of_lt (blk_lt (g := gb588) bk) : gb588 ≠ gb611)); have n13_ := Nb.mk ((by rw [hg]; exact Nat.ne_of_gt (blk_lt (g := gb588) bk) : gb611 ≠ gb588)); have n14_ := Nb.mk ((by rw [hg]; exact Nat.ne_of_lt (blk_lt (g := gb595) bk) : gb595 ≠ gb611)); have n15_ := Nb.mk ((by rw [hg]; exact Nat.ne_of_gt (blk_lt (g := gb595) bk) : gb611 ≠ gb595)); have n16_ := Nb.mk ((by rw [hg]; exact Nat.ne_of_lt (blk_lt (g := gb596) bk) : gb596 ≠ gb611)); have n17_ := Nb.mk ((by rw [hg]; exact Nat.ne_of_gt (blk_lt (g := gb596) bk) : gb611 ≠ gb596)); have n18_ := Nb.mk ((by rw [hg]; exact Nat.ne_of_lt (blk_lt (g := gb603) bk) : gb603 ≠ gb611)); have n19_ := Nb.mk ((by rw [hg]; exact Nat.ne_of_gt (blk_lt (g := gb603) bk) : gb611 ≠ gb603)); have n20_ := Nb.mk ((by rw [hg]; exact Nat.ne_of_lt (blk_lt (g := gb604) bk) : gb604 ≠ gb611)); have n21_ := Nb.mk ((by rw [hg]; exact Nat.ne_of_gt (blk_lt (g := gb604) bk) : gb611 ≠ gb604)); clear BK587; clear BK588; clear BK595; clear BK596; clear BK603; clear BK604; clear HB; have BK587 := n0_; have BK588 := n1_; have BK595 := n2_; have BK596 := n3_; have BK603 := n4_; have BK604 := n5_; have HB := n6_; have BK611 := n7_; have GW611 := n8_; have GE611 := n9_; have NB587_611 := n10_; have NB611_587 := n11_; have NB588_611 := n12_; have NB611_588 := n13_; have NB595_611 := n14_; have NB611_595 := n15_; have NB596_611 := n16_; have NB611_596 := n17_; have NB603_611 := n18_; have NB611_603 := n19_; have NB604_611 := n20_; have NB611_604 := n21_; clear n0_ n1_ n2_ n3_ n4_ n5_ n6_ n7_ n8_ n9_ n10_ n11_ n12_ n13_ n14_ n15_ n16_ n17_ n18_ n19_ n20_ n21_; clear hb hbox hg) | ((with_reducible refine gate_dst (N := 14) rfl ?_); (try (refine gate_guard (by rfl) ?_; dsimp only)); refine box_event ?hg (N := 14) ?hd (cs := #[.bool false, .int .i64 0, .int .i64 0]) (t := 30) ?hr ?_; (case hd => rfl); (case hg => rfl); (case hr => first | (go_simp; done) | (go_simp; rfl)); intro gb612 hg w47 hbox hb; have n0_ := Bk.mk (blk_below (g := gb587) bk hb); have n1_ := Bk.mk (blk_below (g := gb588) bk hb); have n2_ := Bk.mk (blk_below (g := gb595) bk hb); have n3_ := Bk.mk (blk_below (g := gb596) bk hb); have n4_ := Bk.mk (blk_below (g := gb603) bk hb); have n5_ := Bk.mk (blk_below (g := gb604) bk hb); have n6_ := Bk.mk (blk_below (g := gb611) bk hb); have n7_ := Bl.mk (below_step bl hb); have n8_ := Bk.mk (hbox); have n9_ := Aside0.mk ((by rw [hg]; exact (below_size bl) : w.heap.size ≤ gb612)); have n10_ := Gl.mk ((by rw [hg]; exact (below_size bl) : w.heap.size ≤ gb612)); have n11_ := Nb.mk ((by rw [hg]; exact Nat.ne_of_lt (blk_lt (g := gb587) bk) : gb587 ≠ gb612)); have n12_ := Nb.mk ((by rw [hg]; exact Nat.ne_of_gt (blk_lt (g := gb587) bk) : gb612 ≠ gb587)); have n13_ := Nb.mk ((by rw [hg]; exact Nat.ne_of_lt (blk_lt (g := gb588) bk) : gb588 ≠ gb612)); have n14_ := Nb.mk ((by rw [hg]; exact Nat.ne_of_gt (blk_lt (g := gb588) bk) : gb612 ≠ gb588)); have n15_ := Nb.mk ((by rw [hg]; exact Nat.ne_of_lt (blk_lt (g := gb595) bk) : gb595 ≠ gb612)); have n16_ := Nb.mk ((by rw [hg]; exact Nat.ne_of_gt (blk_lt (g := gb595) bk) : gb612 ≠ gb595)); have n17_ := Nb.mk ((by rw [hg]; exact Nat.ne_of_lt (blk_lt (g := gb596) bk) : gb596 ≠ gb612)); have n18_ := Nb.mk ((by rw [hg]; exact Nat.ne_of_gt (blk_lt (g := gb596) bk) : gb612 ≠ gb596)); have n19_ := Nb.mk ((by rw [hg]; exact Nat.ne_of_lt (blk_lt (g := gb603) bk) : gb603 ≠ gb612)); have n20_ := Nb.mk ((by rw [hg]; exact Nat.ne_of_gt (blk_lt (g := gb603) bk) : gb612 ≠ gb603)); have n21_ := Nb.mk ((by rw [hg]; exact Nat.ne_of_lt (blk_lt (g := gb604) bk) : gb604 ≠ gb612)); have n22_ := Nb.mk ((by rw [hg]; exact Nat.ne_of_gt (blk_lt (g := gb604) bk) : gb612 ≠ gb604)); have n23_ := Nb.mk ((by rw [hg]; exact Nat.ne_of_lt (blk_lt (g := gb611) bk) : gb611 ≠ gb612)); have n24_ := Nb.mk ((by rw [hg]; exact Nat.ne_of_gt (blk_lt (g := gb611) bk) : gb612 ≠ gb611)); clear BK587; clear BK588; clear BK595; clear BK596; clear BK603; clear BK604; clear BK611; clear HB; have BK587 := n0_; have BK588 := n1_; have BK595 := n2_; have BK596 := n3_; have BK603 := n4_; have BK604 := n5_; have BK611 := n6_; have HB := n7_; have BK612 := n8_; have GW612 := n9_; have GE612 := n10_; have NB587_612 := n11_; have NB612_587 := n12_; have NB588_612 := n13_; have NB612_588 := n14_; have NB595_612 := n15_; have NB612_595 := n16_; have NB596_612 := n17_; have NB612_596 := n18_; have NB603_612 := n19_; have NB612_603 := n20_; have NB604_612 := n21_; have NB612_604 := n22_; have NB611_612 := n23_; have NB612_611 := n24_; clear n0_ n1_ n2_ n3_ n4_ n5_ n6_ n7_ n8_ n9_ n10_ n11_ n12_ n13_ n14_ n15_ n16_ n17_ n18_ n19_ n20_ n21_ n22_ n23_ n24_; clear hb hbox hg; have hnb48 := NB611_587.out; have hnc48 := NB587_611.out; have hnb49 := NB611_588.out; have hnc49 := NB588_611.out; have hnb50 := NB611_595.out; have hnc50 := NB595_611.out; have hnb51 := NB611_596.out; have hnc51 := NB596_611.out; have hnb52 := NB611_603.out; have hnc52 := NB603_611.out; have hnb53 := NB611_604.out; have hnc53 := NB604_611.out; have hnb54 := NB611_612.out; have hnc54 := NB612_611.out; have hcz55_0 := bc0 BK611.out; have hcz55_1 := bc1 BK611.out; have hcz55_2 := bc2 BK611.out; have hfz55_0 := blk_frozen BK611.out 0; have hfz55_1 := blk_frozen BK611.out 1; have hfz55_2 := blk_frozen BK611.out 2; have hnb56 := NB612_587.out; have hnc56 := NB587_612.out; have hnb57 := NB612_588.out; have hnc57 := NB588_612.out; have hnb58 := NB612_595.out; have hnc58 := NB595_612.out; have hnb59 := NB612_596.out; have hnc59 := NB596_612.out; have hnb60 := NB612_603.out; have hnc60 := NB603_612.out; have hnb61 := NB612_604.out; have hnc61 := NB604_612.out; have hcz62_0 := bc0 BK612.out; have hcz62_1 := bc1 BK612.out; have hcz62_2 := bc2 BK612.out; have hfz62_0 := blk_frozen BK612.out 0; have hfz62_1 := blk_frozen BK612.out 1; have hfz62_2 := blk_frozen BK612.out 2))
        (try simp only [Act.put, List.setIfInBounds_toArray, List.set_cons_zero, List.set_cons_succ])
        go_cut [80] (fun v80 wc => ∃ (kq : Nat) (x80_9 : Bool), v80 = .bool x80_9 ∧ Aside0 (laws_FnWhenMore.j1 kq t579 t586 x80_9 t580 t581 t582 t583 t584 t585 t589 t590 t591 t592 t593 t594 t597 t598 t599 t600 t601 t602 t605 t606 t607 t608 t609 t610 = some r) ∧ Aside0 (kq ≤ kj2) ∧ Bk wc gb587 (.cells #[.bool t580, .int .i64 t581, .int .i64 t582] 30 (0, 0)) ∧ Bk wc gb588 (.cells #[.bool t583, .int .i64 t584, .int .i64 t585] 30 (0, 0)) ∧ Bk wc gb595 (.cells #[.bool t589, .int .i64 t590, .int .i64 t591] 30 (0, 0)) ∧ Bk wc gb596 (.cells #[.bool t592, .int .i64 t593, .int .i64 t594] 30 (0, 0)) ∧ Bk wc gb603 (.cells #[.bool t597, .int .i64 t598, .int .i64 t599] 30 (0, 0)) ∧ Bk wc gb604 (.cells #[.bool t600, .int .i64 t601, .int .i64 t602] 30 (0, 0)) ∧ Bk wc gb611 (.cells #[.bool t605, .int .i64 t606, .int .i64 t607] 30 (0, 0)) ∧ Bk wc gb612 (.cells #[.bool t608, .int .i64 t609, .int .i64 t610] 30 (0, 0)) ∧ Bl w.heap.size w wc)
        case first =>
          have H := HC10.out
          clear HC10
          by_cases c63 : (!(t597 == t605) || (!(t598 == t606) || (!(t599 == t607)))) = true
          · rw [if_pos c63] at H
            have c63b0 : (!(t597 == t605) || (!(t598 == t606) || (!(t599 == t607)))) = true := c63
            clear c63
            (first | rw [c63b0] | (simp only [i64_w, i32_w]; rw [c63b0]) | skip)
            have H' := Aside0.mk H
            clear H
            have hcz71_0 := bc0 BK603.out
            have hcz71_1 := bc1 BK603.out
            have hcz71_2 := bc2 BK603.out
            have hfz71_0 := blk_frozen BK603.out 0
            have hfz71_1 := blk_frozen BK603.out 1
            have hfz71_2 := blk_frozen BK603.out 2
            have hcz78_0 := bc0 BK611.out
            have hcz78_1 := bc1 BK611.out
            have hcz78_2 := bc2 BK611.out
            have hfz78_0 := blk_frozen BK611.out 0
            have hfz78_1 := blk_frozen BK611.out 1
            have hfz78_2 := blk_frozen BK611.out 2
            go_wp2
            go_meet
            case rel => exact ⟨_, (true), (by first | rfl | (simp; done) | (simp [*]; done)), H', ⟨by have := HJ2.out; first | omega | exact Nat.le_refl _⟩, ⟨bk⟩, ⟨bk⟩, ⟨bk⟩, ⟨bk⟩, ⟨bk⟩, ⟨bk⟩, ⟨bk⟩, ⟨bk⟩, ⟨bl⟩⟩
          · rw [if_neg c63] at H
            have c63b0 : (!(t597 == t605) || (!(t598 == t606) || (!(t599 == t607)))) = false := by simpa using c63
            clear c63
            (first | rw [c63b0] | (simp only [i64_w, i32_w]; rw [c63b0]) | skip)
            by_cases c79 : (!(t600 == t608) || (!(t601 == t609) || (!(t602 == t610)))) = true
            · rw [if_pos c79] at H
              have c79b0 : (!(t600 == t608) || (!(t601 == t609) || (!(t602 == t610)))) = true := c79
              clear c79
              have H' := Aside0.mk H
              clear H
              have hcz87_0 := bc0 BK603.out
              have hcz87_1 := bc1 BK603.out
              have hcz87_2 := bc2 BK603.out
              have hfz87_0 := blk_frozen BK603.out 0
              have hfz87_1 := blk_frozen BK603.out 1
              have hfz87_2 := blk_frozen BK603.out 2
              have hcz94_0 := bc0 BK611.out
              have hcz94_1 := bc1 BK611.out
              have hcz94_2 := bc2 BK611.out
              have hfz94_0 := blk_frozen BK611.out 0
              have hfz94_1 := blk_frozen BK611.out 1
              have hfz94_2 := blk_frozen BK611.out 2
              have hcz100_0 := bc0 BK604.out
              have hcz100_1 := bc1 BK604.out
              have hcz100_2 := bc2 BK604.out
              have hfz100_0 := blk_frozen BK604.out 0
              have hfz100_1 := blk_frozen BK604.out 1
              have hfz100_2 := blk_frozen BK604.out 2
              have hcz105_0 := bc0 BK612.out
              have hcz105_1 := bc1 BK612.out
              have hcz105_2 := bc2 BK612.out
              have hfz105_0 := blk_frozen BK612.out 0
              have hfz105_1 := blk_frozen BK612.out 1
              have hfz105_2 := blk_frozen BK612.out 2
              go_wp2
              go_meet
              case rel => exact ⟨_, (true), (by first | rfl | (simp; done) | (simp [*]; done)), H', ⟨by have := HJ2.out; first | omega | exact Nat.le_refl _⟩, ⟨bk⟩, ⟨bk⟩, ⟨bk⟩, ⟨bk⟩, ⟨bk⟩, ⟨bk⟩, ⟨bk⟩, ⟨bk⟩, ⟨bl⟩⟩
            · rw [if_neg c79] at H
              have c79b0 : (!(t600 == t608) || (!(t601 == t609) || (!(t602 == t610)))) = false := by simpa using c79
              clear c79
              replace H := Option.bind_eq_some_iff.mp H
              obtain ⟨t613, A1060, H⟩ := H
              try dsimp only at H
              have A106 := Aside0.mk A1060
              clear A1060
              by_cases c107 : t613 = true
              · subst c107
                rw [if_pos rfl] at H
                replace H := Option.bind_eq_some_iff.mp H
                obtain ⟨t614, A1080, H⟩ := H
                try dsimp only at H
                have A108 := Aside0.mk A1080
                clear A1080
                by_cases c109 : t614 = true
                · subst c109
                  rw [if_pos rfl] at H
                  replace H := Option.bind_eq_some_iff.mp H
                  obtain ⟨t615, A1100, H⟩ := H
                  try dsimp only at H
                  have A110 := Aside0.mk A1100
                  clear A1100
                  by_cases c111 : t615 = true
                  · subst c111
                    rw [if_pos rfl] at H
                    replace H := Option.bind_eq_some_iff.mp H
                    obtain ⟨t616, A1120, H⟩ := H
                    try dsimp only at H
                    have A112 := Aside0.mk A1120
                    clear A1120
                    have H' := Aside0.mk H
                    clear H
                    have hcz120_0 := bc0 BK603.out
                    have hcz120_1 := bc1 BK603.out
                    have hcz120_2 := bc2 BK603.out
                    have hfz120_0 := blk_frozen BK603.out 0
                    have hfz120_1 := blk_frozen BK603.out 1
                    have hfz120_2 := blk_frozen BK603.out 2
                    have hcz127_0 := bc0 BK611.out
                    have hcz127_1 := bc1 BK611.out
                    have hcz127_2 := bc2 BK611.out
                    have hfz127_0 := blk_frozen BK611.out 0
                    have hfz127_1 := blk_frozen BK611.out 1
                    have hfz127_2 := blk_frozen BK611.out 2
                    have hcz133_0 := bc0 BK604.out
                    have hcz133_1 := bc1 BK604.out
                    have hcz133_2 := bc2 BK604.out
                    have hfz133_0 := blk_frozen BK604.out 0
                    have hfz133_1 := blk_frozen BK604.out 1
                    have hfz133_2 := blk_frozen BK604.out 2
                    have hcz138_0 := bc0 BK612.out
                    have hcz138_1 := bc1 BK612.out
                    have hcz138_2 := bc2 BK612.out
                    have hfz138_0 := blk_frozen BK612.out 0
                    have hfz138_1 := blk_frozen BK612.out 1
                    have hfz138_2 := blk_frozen BK612.out 2
                    have hcz142_0 := bc0 BK587.out
                    have hcz142_1 := bc1 BK587.out
                    have hcz142_2 := bc2 BK587.out
                    have hfz142_0 := blk_frozen BK587.out 0
                    have hfz142_1 := blk_frozen BK587.out 1
                    have hfz142_2 := blk_frozen BK587.out 2
                    go_wp2_with (first | (go_at_call 15; (with_reducible refine (spec_SpanOk.calls t580 t581 t582 true _ A106.out).mono ?_); rintro e w143 ⟨rfl, hb⟩; have n0_ := Bk.mk (blk_below (g := gb587) (o := .cells #[.bool t580, .int .i64 t581, .int .i64 t582] 30 (0, 0)) bk hb); have n1_ := Bk.mk (blk_below (g := gb588) (o := .cells #[.bool t583, .int .i64 t584, .int .i64 t585] 30 (0, 0)) bk hb); have n2_ := Bk.mk (blk_below (g := gb595) (o := .cells #[.bool t589, .int .i64 t590, .int .i64 t591] 30 (0, 0)) bk hb); have n3_ := Bk.mk (blk_below (g := gb596) (o := .cells #[.bool t592, .int .i64 t593, .int .i64 t594] 30 (0, 0)) bk hb); have n4_ := Bk.mk (blk_below (g := gb603) (o := .cells #[.bool t597, .int .i64 t598, .int .i64 t599] 30 (0, 0)) bk hb); have n5_ := Bk.mk (blk_below (g := gb604) (o := .cells #[.bool t600, .int .i64 t601, .int .i64 t602] 30 (0, 0)) bk hb); have n6_ := Bk.mk (blk_below (g := gb611) (o := .cells #[.bool t605, .int .i64 t606, .int .i64 t607] 30 (0, 0)) bk hb); have n7_ := Bk.mk (blk_below (g := gb612) (o := .cells #[.bool t608, .int .i64 t609, .int .i64 t610] 30 (0, 0)) bk hb); have n8_ := Bl.mk (below_step bl hb); clear BK587; clear BK588; clear BK595; clear BK596; clear BK603; clear BK604; clear BK611; clear BK612; clear HB; have BK587 := n0_; have BK588 := n1_; have BK595 := n2_; have BK596 := n3_; have BK603 := n4_; have BK604 := n5_; have BK611 := n6_; have BK612 := n7_; have HB := n8_; clear n0_ n1_ n2_ n3_ n4_ n5_ n6_ n7_ n8_; (try clear hb); (try clear hb2); (try clear hk); (try clear hi); have hnb144 := NB588_595.out; have hnc144 := NB595_588.out; have hnb145 := NB588_596.out; have hnc145 := NB596_588.out; have hcz146_0 := bc0 BK588.out; have hcz146_1 := bc1 BK588.out; have hcz146_2 := bc2 BK588.out; have hfz146_0 := blk_frozen BK588.out 0; have hfz146_1 := blk_frozen BK588.out 1; have hfz146_2 := blk_frozen BK588.out 2) | (go_at_call 15; (with_reducible refine (spec_SpanOk.calls t583 t584 t585 true _ A108.out).mono ?_); rintro e w147 ⟨rfl, hb⟩; have n0_ := Bk.mk (blk_below (g := gb587) bk hb); have n1_ := Bk.mk (blk_below (g := gb588) bk hb); have n2_ := Bk.mk (blk_below (g := gb595) bk hb); have n3_ := Bk.mk (blk_below (g := gb596) bk hb); have n4_ := Bk.mk (blk_below (g := gb603) bk hb); have n5_ := Bk.mk (blk_below (g := gb604) bk hb); have n6_ := Bk.mk (blk_below (g := gb611) bk hb); have n7_ := Bk.mk (blk_below (g := gb612) bk hb); have n8_ := Bl.mk (below_step bl hb); clear BK587; clear BK588; clear BK595; clear BK596; clear BK603; clear BK604; clear BK611; clear BK612; clear HB; have BK587 := n0_; have BK588 := n1_; have BK595 := n2_; have BK596 := n3_; have BK603 := n4_; have BK604 := n5_; have BK611 := n6_; have BK612 := n7_; have HB := n8_; clear n0_ n1_ n2_ n3_ n4_ n5_ n6_ n7_ n8_; (try clear hb); (try clear hb2); (try clear hk); (try clear hi); have hnb148 := NB595_596.out; have hnc148 := NB596_595.out; have hcz149_0 := bc0 BK595.out; have hcz149_1 := bc1 BK595.out; have hcz149_2 := bc2 BK595.out; have hfz149_0 := blk_frozen BK595.out 0; have hfz149_1 := blk_frozen BK595.out 1; have hfz149_2 := blk_frozen BK595.out 2) | (go_at_call 15; (with_reducible refine (spec_SpanOk.calls t589 t590 t591 true _ A110.out).mono ?_); rintro e w150 ⟨rfl, hb⟩; have n0_ := Bk.mk (blk_below (g := gb587) bk hb); have n1_ := Bk.mk (blk_below (g := gb588) bk hb); have n2_ := Bk.mk (blk_below (g := gb595) bk hb); have n3_ := Bk.mk (blk_below (g := gb596) bk hb); have n4_ := Bk.mk (blk_below (g := gb603) bk hb); have n5_ := Bk.mk (blk_below (g := gb604) bk hb); have n6_ := Bk.mk (blk_below (g := gb611) bk hb); have n7_ := Bk.mk (blk_below (g := gb612) bk hb); have n8_ := Bl.mk (below_step bl hb); clear BK587; clear BK588; clear BK595; clear BK596; clear BK603; clear BK604; clear BK611; clear BK612; clear HB; have BK587 := n0_; have BK588 := n1_; have BK595 := n2_; have BK596 := n3_; have BK603 := n4_; have BK604 := n5_; have BK611 := n6_; have BK612 := n7_; have HB := n8_; clear n0_ n1_ n2_ n3_ n4_ n5_ n6_ n7_ n8_; (try clear hb); (try clear hb2); (try clear hk); (try clear hi); have hcz151_0 := bc0 BK596.out; have hcz151_1 := bc1 BK596.out; have hcz151_2 := bc2 BK596.out; have hfz151_0 := blk_frozen BK596.out 0; have hfz151_1 := blk_frozen BK596.out 1; have hfz151_2 := blk_frozen BK596.out 2) | (go_at_call 15; (with_reducible refine (spec_SpanOk.calls t592 t593 t594 t616 _ A112.out).mono ?_); rintro e w152 ⟨rfl, hb⟩; have n0_ := Bk.mk (blk_below (g := gb587) bk hb); have n1_ := Bk.mk (blk_below (g := gb588) bk hb); have n2_ := Bk.mk (blk_below (g := gb595) bk hb); have n3_ := Bk.mk (blk_below (g := gb596) bk hb); have n4_ := Bk.mk (blk_below (g := gb603) bk hb); have n5_ := Bk.mk (blk_below (g := gb604) bk hb); have n6_ := Bk.mk (blk_below (g := gb611) bk hb); have n7_ := Bk.mk (blk_below (g := gb612) bk hb); have n8_ := Bl.mk (below_step bl hb); clear BK587; clear BK588; clear BK595; clear BK596; clear BK603; clear BK604; clear BK611; clear BK612; clear HB; have BK587 := n0_; have BK588 := n1_; have BK595 := n2_; have BK596 := n3_; have BK603 := n4_; have BK604 := n5_; have BK611 := n6_; have BK612 := n7_; have HB := n8_; clear n0_ n1_ n2_ n3_ n4_ n5_ n6_ n7_ n8_; (try clear hb); (try clear hb2); (try clear hk); (try clear hi)))
                    go_meet
                    case rel => exact ⟨_, (!t616), (by first | rfl | (simp; done) | (simp [*]; done)), H', ⟨by have := HJ2.out; first | omega | exact Nat.le_refl _⟩, ⟨bk⟩, ⟨bk⟩, ⟨bk⟩, ⟨bk⟩, ⟨bk⟩, ⟨bk⟩, ⟨bk⟩, ⟨bk⟩, ⟨bl⟩⟩
                  · replace c111 := Bool.eq_false_iff.mpr c111
                    subst c111
                    rw [if_neg (show ¬ (false = true) by decide)] at H
                    have H' := Aside0.mk H
                    clear H
                    have hcz160_0 := bc0 BK603.out
                    have hcz160_1 := bc1 BK603.out
                    have hcz160_2 := bc2 BK603.out
                    have hfz160_0 := blk_frozen BK603.out 0
                    have hfz160_1 := blk_frozen BK603.out 1
                    have hfz160_2 := blk_frozen BK603.out 2
                    have hcz167_0 := bc0 BK611.out
                    have hcz167_1 := bc1 BK611.out
                    have hcz167_2 := bc2 BK611.out
                    have hfz167_0 := blk_frozen BK611.out 0
                    have hfz167_1 := blk_frozen BK611.out 1
                    have hfz167_2 := blk_frozen BK611.out 2
                    have hcz173_0 := bc0 BK604.out
                    have hcz173_1 := bc1 BK604.out
                    have hcz173_2 := bc2 BK604.out
                    have hfz173_0 := blk_frozen BK604.out 0
                    have hfz173_1 := blk_frozen BK604.out 1
                    have hfz173_2 := blk_frozen BK604.out 2
                    have hcz178_0 := bc0 BK612.out
                    have hcz178_1 := bc1 BK612.out
                    have hcz178_2 := bc2 BK612.out
                    have hfz178_0 := blk_frozen BK612.out 0
                    have hfz178_1 := blk_frozen BK612.out 1
                    have hfz178_2 := blk_frozen BK612.out 2
                    have hcz182_0 := bc0 BK587.out
                    have hcz182_1 := bc1 BK587.out
                    have hcz182_2 := bc2 BK587.out
                    have hfz182_0 := blk_frozen BK587.out 0
                    have hfz182_1 := blk_frozen BK587.out 1
                    have hfz182_2 := blk_frozen BK587.out 2
                    go_wp2_with (first | (go_at_call 15; (with_reducible refine (spec_SpanOk.calls t580 t581 t582 true _ A106.out).mono ?_); rintro e w183 ⟨rfl, hb⟩; have n0_ := Bk.mk (blk_below (g := gb587) (o := .cells #[.bool t580, .int .i64 t581, .int .i64 t582] 30 (0, 0)) bk hb); have n1_ := Bk.mk (blk_below (g := gb588) (o := .cells #[.bool t583, .int .i64 t584, .int .i64 t585] 30 (0, 0)) bk hb); have n2_ := Bk.mk (blk_below (g := gb595) (o := .cells #[.bool t589, .int .i64 t590, .int .i64 t591] 30 (0, 0)) bk hb); have n3_ := Bk.mk (blk_below (g := gb596) (o := .cells #[.bool t592, .int .i64 t593, .int .i64 t594] 30 (0, 0)) bk hb); have n4_ := Bk.mk (blk_below (g := gb603) (o := .cells #[.bool t597, .int .i64 t598, .int .i64 t599] 30 (0, 0)) bk hb); have n5_ := Bk.mk (blk_below (g := gb604) (o := .cells #[.bool t600, .int .i64 t601, .int .i64 t602] 30 (0, 0)) bk hb); have n6_ := Bk.mk (blk_below (g := gb611) (o := .cells #[.bool t605, .int .i64 t606, .int .i64 t607] 30 (0, 0)) bk hb); have n7_ := Bk.mk (blk_below (g := gb612) (o := .cells #[.bool t608, .int .i64 t609, .int .i64 t610] 30 (0, 0)) bk hb); have n8_ := Bl.mk (below_step bl hb); clear BK587; clear BK588; clear BK595; clear BK596; clear BK603; clear BK604; clear BK611; clear BK612; clear HB; have BK587 := n0_; have BK588 := n1_; have BK595 := n2_; have BK596 := n3_; have BK603 := n4_; have BK604 := n5_; have BK611 := n6_; have BK612 := n7_; have HB := n8_; clear n0_ n1_ n2_ n3_ n4_ n5_ n6_ n7_ n8_; (try clear hb); (try clear hb2); (try clear hk); (try clear hi); have hnb184 := NB588_595.out; have hnc184 := NB595_588.out; have hnb185 := NB588_596.out; have hnc185 := NB596_588.out; have hcz186_0 := bc0 BK588.out; have hcz186_1 := bc1 BK588.out; have hcz186_2 := bc2 BK588.out; have hfz186_0 := blk_frozen BK588.out 0; have hfz186_1 := blk_frozen BK588.out 1; have hfz186_2 := blk_frozen BK588.out 2) | (go_at_call 15; (with_reducible refine (spec_SpanOk.calls t583 t584 t585 true _ A108.out).mono ?_); rintro e w187 ⟨rfl, hb⟩; have n0_ := Bk.mk (blk_below (g := gb587) bk hb); have n1_ := Bk.mk (blk_below (g := gb588) bk hb); have n2_ := Bk.mk (blk_below (g := gb595) bk hb); have n3_ := Bk.mk (blk_below (g := gb596) bk hb); have n4_ := Bk.mk (blk_below (g := gb603) bk hb); have n5_ := Bk.mk (blk_below (g := gb604) bk hb); have n6_ := Bk.mk (blk_below (g := gb611) bk hb); have n7_ := Bk.mk (blk_below (g := gb612) bk hb); have n8_ := Bl.mk (below_step bl hb); clear BK587; clear BK588; clear BK595; clear BK596; clear BK603; clear BK604; clear BK611; clear BK612; clear HB; have BK587 := n0_; have BK588 := n1_; have BK595 := n2_; have BK596 := n3_; have BK603 := n4_; have BK604 := n5_; have BK611 := n6_; have BK612 := n7_; have HB := n8_; clear n0_ n1_ n2_ n3_ n4_ n5_ n6_ n7_ n8_; (try clear hb); (try clear hb2); (try clear hk); (try clear hi); have hnb188 := NB595_596.out; have hnc188 := NB596_595.out; have hcz189_0 := bc0 BK595.out; have hcz189_1 := bc1 BK595.out; have hcz189_2 := bc2 BK595.out; have hfz189_0 := blk_frozen BK595.out 0; have hfz189_1 := blk_frozen BK595.out 1; have hfz189_2 := blk_frozen BK595.out 2) | (go_at_call 15; (with_reducible refine (spec_SpanOk.calls t589 t590 t591 false _ A110.out).mono ?_); rintro e w190 ⟨rfl, hb⟩; have n0_ := Bk.mk (blk_below (g := gb587) bk hb); have n1_ := Bk.mk (blk_below (g := gb588) bk hb); have n2_ := Bk.mk (blk_below (g := gb595) bk hb); have n3_ := Bk.mk (blk_below (g := gb596) bk hb); have n4_ := Bk.mk (blk_below (g := gb603) bk hb); have n5_ := Bk.mk (blk_below (g := gb604) bk hb); have n6_ := Bk.mk (blk_below (g := gb611) bk hb); have n7_ := Bk.mk (blk_below (g := gb612) bk hb); have n8_ := Bl.mk (below_step bl hb); clear BK587; clear BK588; clear BK595; clear BK596; clear BK603; clear BK604; clear BK611; clear BK612; clear HB; have BK587 := n0_; have BK588 := n1_; have BK595 := n2_; have BK596 := n3_; have BK603 := n4_; have BK604 := n5_; have BK611 := n6_; have BK612 := n7_; have HB := n8_; clear n0_ n1_ n2_ n3_ n4_ n5_ n6_ n7_ n8_; (try clear hb); (try clear hb2); (try clear hk); (try clear hi)))
                    go_meet
                    case rel => exact ⟨_, (true), (by first | rfl | (simp; done) | (simp [*]; done)), H', ⟨by have := HJ2.out; first | omega | exact Nat.le_refl _⟩, ⟨bk⟩, ⟨bk⟩, ⟨bk⟩, ⟨bk⟩, ⟨bk⟩, ⟨bk⟩, ⟨bk⟩, ⟨bk⟩, ⟨bl⟩⟩
                · replace c109 := Bool.eq_false_iff.mpr c109
                  subst c109
                  rw [if_neg (show ¬ (false = true) by decide)] at H
                  have H' := Aside0.mk H
                  clear H
                  have hcz198_0 := bc0 BK603.out
                  have hcz198_1 := bc1 BK603.out
                  have hcz198_2 := bc2 BK603.out
                  have hfz198_0 := blk_frozen BK603.out 0
                  have hfz198_1 := blk_frozen BK603.out 1
                  have hfz198_2 := blk_frozen BK603.out 2
                  have hcz205_0 := bc0 BK611.out
                  have hcz205_1 := bc1 BK611.out
                  have hcz205_2 := bc2 BK611.out
                  have hfz205_0 := blk_frozen BK611.out 0
                  have hfz205_1 := blk_frozen BK611.out 1
                  have hfz205_2 := blk_frozen BK611.out 2
                  have hcz211_0 := bc0 BK604.out
                  have hcz211_1 := bc1 BK604.out
                  have hcz211_2 := bc2 BK604.out
                  have hfz211_0 := blk_frozen BK604.out 0
                  have hfz211_1 := blk_frozen BK604.out 1
                  have hfz211_2 := blk_frozen BK604.out 2
                  have hcz216_0 := bc0 BK612.out
                  have hcz216_1 := bc1 BK612.out
                  have hcz216_2 := bc2 BK612.out
                  have hfz216_0 := blk_frozen BK612.out 0
                  have hfz216_1 := blk_frozen BK612.out 1
                  have hfz216_2 := blk_frozen BK612.out 2
                  have hcz220_0 := bc0 BK587.out
                  have hcz220_1 := bc1 BK587.out
                  have hcz220_2 := bc2 BK587.out
                  have hfz220_0 := blk_frozen BK587.out 0
                  have hfz220_1 := blk_frozen BK587.out 1
                  have hfz220_2 := blk_frozen BK587.out 2
                  go_wp2_with (first | (go_at_call 15; (with_reducible refine (spec_SpanOk.calls t580 t581 t582 true _ A106.out).mono ?_); rintro e w221 ⟨rfl, hb⟩; have n0_ := Bk.mk (blk_below (g := gb587) (o := .cells #[.bool t580, .int .i64 t581, .int .i64 t582] 30 (0, 0)) bk hb); have n1_ := Bk.mk (blk_below (g := gb588) (o := .cells #[.bool t583, .int .i64 t584, .int .i64 t585] 30 (0, 0)) bk hb); have n2_ := Bk.mk (blk_below (g := gb595) (o := .cells #[.bool t589, .int .i64 t590, .int .i64 t591] 30 (0, 0)) bk hb); have n3_ := Bk.mk (blk_below (g := gb596) (o := .cells #[.bool t592, .int .i64 t593, .int .i64 t594] 30 (0, 0)) bk hb); have n4_ := Bk.mk (blk_below (g := gb603) (o := .cells #[.bool t597, .int .i64 t598, .int .i64 t599] 30 (0, 0)) bk hb); have n5_ := Bk.mk (blk_below (g := gb604) (o := .cells #[.bool t600, .int .i64 t601, .int .i64 t602] 30 (0, 0)) bk hb); have n6_ := Bk.mk (blk_below (g := gb611) (o := .cells #[.bool t605, .int .i64 t606, .int .i64 t607] 30 (0, 0)) bk hb); have n7_ := Bk.mk (blk_below (g := gb612) (o := .cells #[.bool t608, .int .i64 t609, .int .i64 t610] 30 (0, 0)) bk hb); have n8_ := Bl.mk (below_step bl hb); clear BK587; clear BK588; clear BK595; clear BK596; clear BK603; clear BK604; clear BK611; clear BK612; clear HB; have BK587 := n0_; have BK588 := n1_; have BK595 := n2_; have BK596 := n3_; have BK603 := n4_; have BK604 := n5_; have BK611 := n6_; have BK612 := n7_; have HB := n8_; clear n0_ n1_ n2_ n3_ n4_ n5_ n6_ n7_ n8_; (try clear hb); (try clear hb2); (try clear hk); (try clear hi); have hnb222 := NB588_595.out; have hnc222 := NB595_588.out; have hnb223 := NB588_596.out; have hnc223 := NB596_588.out; have hcz224_0 := bc0 BK588.out; have hcz224_1 := bc1 BK588.out; have hcz224_2 := bc2 BK588.out; have hfz224_0 := blk_frozen BK588.out 0; have hfz224_1 := blk_frozen BK588.out 1; have hfz224_2 := blk_frozen BK588.out 2) | (go_at_call 15; (with_reducible refine (spec_SpanOk.calls t583 t584 t585 false _ A108.out).mono ?_); rintro e w225 ⟨rfl, hb⟩; have n0_ := Bk.mk (blk_below (g := gb587) bk hb); have n1_ := Bk.mk (blk_below (g := gb588) bk hb); have n2_ := Bk.mk (blk_below (g := gb595) bk hb); have n3_ := Bk.mk (blk_below (g := gb596) bk hb); have n4_ := Bk.mk (blk_below (g := gb603) bk hb); have n5_ := Bk.mk (blk_below (g := gb604) bk hb); have n6_ := Bk.mk (blk_below (g := gb611) bk hb); have n7_ := Bk.mk (blk_below (g := gb612) bk hb); have n8_ := Bl.mk (below_step bl hb); clear BK587; clear BK588; clear BK595; clear BK596; clear BK603; clear BK604; clear BK611; clear BK612; clear HB; have BK587 := n0_; have BK588 := n1_; have BK595 := n2_; have BK596 := n3_; have BK603 := n4_; have BK604 := n5_; have BK611 := n6_; have BK612 := n7_; have HB := n8_; clear n0_ n1_ n2_ n3_ n4_ n5_ n6_ n7_ n8_; (try clear hb); (try clear hb2); (try clear hk); (try clear hi)))
                  go_meet
                  case rel => exact ⟨_, (true), (by first | rfl | (simp; done) | (simp [*]; done)), H', ⟨by have := HJ2.out; first | omega | exact Nat.le_refl _⟩, ⟨bk⟩, ⟨bk⟩, ⟨bk⟩, ⟨bk⟩, ⟨bk⟩, ⟨bk⟩, ⟨bk⟩, ⟨bk⟩, ⟨bl⟩⟩
              · replace c107 := Bool.eq_false_iff.mpr c107
                subst c107
                rw [if_neg (show ¬ (false = true) by decide)] at H
                have H' := Aside0.mk H
                clear H
                have hcz233_0 := bc0 BK603.out
                have hcz233_1 := bc1 BK603.out
                have hcz233_2 := bc2 BK603.out
                have hfz233_0 := blk_frozen BK603.out 0
                have hfz233_1 := blk_frozen BK603.out 1
                have hfz233_2 := blk_frozen BK603.out 2
                have hcz240_0 := bc0 BK611.out
                have hcz240_1 := bc1 BK611.out
                have hcz240_2 := bc2 BK611.out
                have hfz240_0 := blk_frozen BK611.out 0
                have hfz240_1 := blk_frozen BK611.out 1
                have hfz240_2 := blk_frozen BK611.out 2
                have hcz246_0 := bc0 BK604.out
                have hcz246_1 := bc1 BK604.out
                have hcz246_2 := bc2 BK604.out
                have hfz246_0 := blk_frozen BK604.out 0
                have hfz246_1 := blk_frozen BK604.out 1
                have hfz246_2 := blk_frozen BK604.out 2
                have hcz251_0 := bc0 BK612.out
                have hcz251_1 := bc1 BK612.out
                have hcz251_2 := bc2 BK612.out
                have hfz251_0 := blk_frozen BK612.out 0
                have hfz251_1 := blk_frozen BK612.out 1
                have hfz251_2 := blk_frozen BK612.out 2
                have hcz255_0 := bc0 BK587.out
                have hcz255_1 := bc1 BK587.out
                have hcz255_2 := bc2 BK587.out
                have hfz255_0 := blk_frozen BK587.out 0
                have hfz255_1 := blk_frozen BK587.out 1
                have hfz255_2 := blk_frozen BK587.out 2
                go_wp2_with (first | (go_at_call 15; (with_reducible refine (spec_SpanOk.calls t580 t581 t582 false _ A106.out).mono ?_); rintro e w256 ⟨rfl, hb⟩; have n0_ := Bk.mk (blk_below (g := gb587) (o := .cells #[.bool t580, .int .i64 t581, .int .i64 t582] 30 (0, 0)) bk hb); have n1_ := Bk.mk (blk_below (g := gb588) (o := .cells #[.bool t583, .int .i64 t584, .int .i64 t585] 30 (0, 0)) bk hb); have n2_ := Bk.mk (blk_below (g := gb595) (o := .cells #[.bool t589, .int .i64 t590, .int .i64 t591] 30 (0, 0)) bk hb); have n3_ := Bk.mk (blk_below (g := gb596) (o := .cells #[.bool t592, .int .i64 t593, .int .i64 t594] 30 (0, 0)) bk hb); have n4_ := Bk.mk (blk_below (g := gb603) (o := .cells #[.bool t597, .int .i64 t598, .int .i64 t599] 30 (0, 0)) bk hb); have n5_ := Bk.mk (blk_below (g := gb604) (o := .cells #[.bool t600, .int .i64 t601, .int .i64 t602] 30 (0, 0)) bk hb); have n6_ := Bk.mk (blk_below (g := gb611) (o := .cells #[.bool t605, .int .i64 t606, .int .i64 t607] 30 (0, 0)) bk hb); have n7_ := Bk.mk (blk_below (g := gb612) (o := .cells #[.bool t608, .int .i64 t609, .int .i64 t610] 30 (0, 0)) bk hb); have n8_ := Bl.mk (below_step bl hb); clear BK587; clear BK588; clear BK595; clear BK596; clear BK603; clear BK604; clear BK611; clear BK612; clear HB; have BK587 := n0_; have BK588 := n1_; have BK595 := n2_; have BK596 := n3_; have BK603 := n4_; have BK604 := n5_; have BK611 := n6_; have BK612 := n7_; have HB := n8_; clear n0_ n1_ n2_ n3_ n4_ n5_ n6_ n7_ n8_; (try clear hb); (try clear hb2); (try clear hk); (try clear hi)))
                go_meet
                case rel => exact ⟨_, (true), (by first | rfl | (simp; done) | (simp [*]; done)), H', ⟨by have := HJ2.out; first | omega | exact Nat.le_refl _⟩, ⟨bk⟩, ⟨bk⟩, ⟨bk⟩, ⟨bk⟩, ⟨bk⟩, ⟨bk⟩, ⟨bk⟩, ⟨bk⟩, ⟨bl⟩⟩
        case rest =>
          clear HC10
          try clear c1
          try clear c2
          try clear p2
          try clear c3
          try clear c4
          try clear c4b0
          try clear c4b1
          try clear c5
          try clear c6
          try clear c7
          try clear c8
          try clear c9
          try clear c10
          try clear c11
          try clear c12
          try clear c13
          try clear c14
          try clear c15
          try clear c16
          try clear c17
          try clear c18
          try clear c19
          try clear c20
          try clear c21
          try clear c22
          try clear c23
          try clear c24
          try clear c25
          try clear c32
          try clear c33
          try clear c34
          try clear c35
          try clear c36
          try clear c38
          try clear c39
          try clear c40
          try clear c41
          try clear c48
          try clear c49
          try clear c50
          try clear c51
          try clear c52
          try clear c53
          try clear c54
          try clear c56
          try clear c57
          try clear c58
          try clear c59
          try clear c60
          try clear c61
          try clear c63
          try clear c63b0
          try clear c64
          try clear c65
          try clear c66
          try clear c67
          try clear c68
          try clear c69
          try clear c70
          try clear c72
          try clear c73
          try clear c74
          try clear c75
          try clear c76
          try clear c77
          try clear c79
          try clear c79b0
          try clear c80
          try clear c81
          try clear c82
          try clear c83
          try clear c84
          try clear c85
          try clear c86
          try clear c88
          try clear c89
          try clear c90
          try clear c91
          try clear c92
          try clear c93
          try clear c95
          try clear c96
          try clear c97
          try clear c98
          try clear c99
          try clear c101
          try clear c102
          try clear c103
          try clear c104
          try clear c107
          try clear c109
          try clear c111
          try clear c113
          try clear c114
          try clear c115
          try clear c116
          try clear c117
          try clear c118
          try clear c119
          try clear c121
          try clear c122
          try clear c123
          try clear c124
          try clear c125
          try clear c126
          try clear c128
          try clear c129
          try clear c130
          try clear c131
          try clear c132
          try clear c134
          try clear c135
          try clear c136
          try clear c137
          try clear c139
          try clear c140
          try clear c141
          try clear c144
          try clear c145
          try clear c148
          try clear c153
          try clear c154
          try clear c155
          try clear c156
          try clear c157
          try clear c158
          try clear c159
          try clear c161
          try clear c162
          try clear c163
          try clear c164
          try clear c165
          try clear c166
          try clear c168
          try clear c169
          try clear c170
          try clear c171
          try clear c172
          try clear c174
          try clear c175
          try clear c176
          try clear c177
          try clear c179
          try clear c180
          try clear c181
          try clear c184
          try clear c185
          try clear c188
          try clear c191
          try clear c192
          try clear c193
          try clear c194
          try clear c195
          try clear c196
          try clear c197
          try clear c199
          try clear c200
          try clear c201
          try clear c202
          try clear c203
          try clear c204
          try clear c206
          try clear c207
          try clear c208
          try clear c209
          try clear c210
          try clear c212
          try clear c213
          try clear c214
          try clear c215
          try clear c217
          try clear c218
          try clear c219
          try clear c222
          try clear c223
          try clear c226
          try clear c227
          try clear c228
          try clear c229
          try clear c230
          try clear c231
          try clear c232
          try clear c234
          try clear c235
          try clear c236
          try clear c237
          try clear c238
          try clear c239
          try clear c241
          try clear c242
          try clear c243
          try clear c244
          try clear c245
          try clear c247
          try clear c248
          try clear c249
          try clear c250
          try clear c252
          try clear c253
          try clear c254
          try clear hcz100_0
          try clear hcz100_1
          try clear hcz100_2
          try clear hcz105_0
          try clear hcz105_1
          try clear hcz105_2
          try clear hcz120_0
          try clear hcz120_1
          try clear hcz120_2
          try clear hcz127_0
          try clear hcz127_1
          try clear hcz127_2
          try clear hcz133_0
          try clear hcz133_1
          try clear hcz133_2
          try clear hcz138_0
          try clear hcz138_1
          try clear hcz138_2
          try clear hcz142_0
          try clear hcz142_1
          try clear hcz142_2
          try clear hcz146_0
          try clear hcz146_1
          try clear hcz146_2
          try clear hcz149_0
          try clear hcz149_1
          try clear hcz149_2
          try clear hcz151_0
          try clear hcz151_1
          try clear hcz151_2
          try clear hcz15_0
          try clear hcz15_1
          try clear hcz15_2
          try clear hcz160_0
          try clear hcz160_1
          try clear hcz160_2
          try clear hcz167_0
          try clear hcz167_1
          try clear hcz167_2
          try clear hcz16_0
          try clear hcz16_1
          try clear hcz16_2
          try clear hcz173_0
          try clear hcz173_1
          try clear hcz173_2
          try clear hcz178_0
          try clear hcz178_1
          try clear hcz178_2
          try clear hcz182_0
          try clear hcz182_1
          try clear hcz182_2
          try clear hcz186_0
          try clear hcz186_1
          try clear hcz186_2
          try clear hcz189_0
          try clear hcz189_1
          try clear hcz189_2
          try clear hcz198_0
          try clear hcz198_1
          try clear hcz198_2
          try clear hcz205_0
          try clear hcz205_1
          try clear hcz205_2
          try clear hcz211_0
          try clear hcz211_1
          try clear hcz211_2
          try clear hcz216_0
          try clear hcz216_1
          try clear hcz216_2
          try clear hcz220_0
          try clear hcz220_1
          try clear hcz220_2
          try clear hcz224_0
          try clear hcz224_1
          try clear hcz224_2
          try clear hcz233_0
          try clear hcz233_1
          try clear hcz233_2
          try clear hcz23_0
          try clear hcz23_1
          try clear hcz23_2
          try clear hcz240_0
          try clear hcz240_1
          try clear hcz240_2
          try clear hcz246_0
          try clear hcz246_1
          try clear hcz246_2
          try clear hcz251_0
          try clear hcz251_1
          try clear hcz251_2
          try clear hcz255_0
          try clear hcz255_1
          try clear hcz255_2
          try clear hcz26_0
          try clear hcz26_1
          try clear hcz26_2
          try clear hcz27_0
          try clear hcz27_1
          try clear hcz27_2
          try clear hcz28_0
          try clear hcz28_1
          try clear hcz28_2
          try clear hcz37_0
          try clear hcz37_1
          try clear hcz37_2
          try clear hcz42_0
          try clear hcz42_1
          try clear hcz42_2
          try clear hcz43_0
          try clear hcz43_1
          try clear hcz43_2
          try clear hcz44_0
          try clear hcz44_1
          try clear hcz44_2
          try clear hcz55_0
          try clear hcz55_1
          try clear hcz55_2
          try clear hcz62_0
          try clear hcz62_1
          try clear hcz62_2
          try clear hcz71_0
          try clear hcz71_1
          try clear hcz71_2
          try clear hcz78_0
          try clear hcz78_1
          try clear hcz78_2
          try clear hcz87_0
          try clear hcz87_1
          try clear hcz87_2
          try clear hcz94_0
          try clear hcz94_1
          try clear hcz94_2
          try clear hfz100_0
          try clear hfz100_1
          try clear hfz100_2
          try clear hfz105_0
          try clear hfz105_1
          try clear hfz105_2
          try clear hfz120_0
          try clear hfz120_1
          try clear hfz120_2
          try clear hfz127_0
          try clear hfz127_1
          try clear hfz127_2
          try clear hfz133_0
          try clear hfz133_1
          try clear hfz133_2
          try clear hfz138_0
          try clear hfz138_1
          try clear hfz138_2
          try clear hfz142_0
          try clear hfz142_1
          try clear hfz142_2
          try clear hfz146_0
          try clear hfz146_1
          try clear hfz146_2
          try clear hfz149_0
          try clear hfz149_1
          try clear hfz149_2
          try clear hfz151_0
          try clear hfz151_1
          try clear hfz151_2
          try clear hfz15_0
          try clear hfz15_1
          try clear hfz15_2
          try clear hfz160_0
          try clear hfz160_1
          try clear hfz160_2
          try clear hfz167_0
          try clear hfz167_1
          try clear hfz167_2
          try clear hfz16_0
          try clear hfz16_1
          try clear hfz16_2
          try clear hfz173_0
          try clear hfz173_1
          try clear hfz173_2
          try clear hfz178_0
          try clear hfz178_1
          try clear hfz178_2
          try clear hfz182_0
          try clear hfz182_1
          try clear hfz182_2
          try clear hfz186_0
          try clear hfz186_1
          try clear hfz186_2
          try clear hfz189_0
          try clear hfz189_1
          try clear hfz189_2
          try clear hfz198_0
          try clear hfz198_1
          try clear hfz198_2
          try clear hfz205_0
          try clear hfz205_1
          try clear hfz205_2
          try clear hfz211_0
          try clear hfz211_1
          try clear hfz211_2
          try clear hfz216_0
          try clear hfz216_1
          try clear hfz216_2
          try clear hfz220_0
          try clear hfz220_1
          try clear hfz220_2
          try clear hfz224_0
          try clear hfz224_1
          try clear hfz224_2
          try clear hfz233_0
          try clear hfz233_1
          try clear hfz233_2
          try clear hfz23_0
          try clear hfz23_1
          try clear hfz23_2
          try clear hfz240_0
          try clear hfz240_1
          try clear hfz240_2
          try clear hfz246_0
          try clear hfz246_1
          try clear hfz246_2
          try clear hfz251_0
          try clear hfz251_1
          try clear hfz251_2
          try clear hfz255_0
          try clear hfz255_1
          try clear hfz255_2
          try clear hfz26_0
          try clear hfz26_1
          try clear hfz26_2
          try clear hfz27_0
          try clear hfz27_1
          try clear hfz27_2
          try clear hfz28_0
          try clear hfz28_1
          try clear hfz28_2
          try clear hfz37_0
          try clear hfz37_1
          try clear hfz37_2
          try clear hfz42_0
          try clear hfz42_1
          try clear hfz42_2
          try clear hfz43_0
          try clear hfz43_1
          try clear hfz43_2
          try clear hfz44_0
          try clear hfz44_1
          try clear hfz44_2
          try clear hfz55_0
          try clear hfz55_1
          try clear hfz55_2
          try clear hfz62_0
          try clear hfz62_1
          try clear hfz62_2
          try clear hfz71_0
          try clear hfz71_1
          try clear hfz71_2
          try clear hfz78_0
          try clear hfz78_1
          try clear hfz78_2
          try clear hfz87_0
          try clear hfz87_1
          try clear hfz87_2
          try clear hfz94_0
          try clear hfz94_1
          try clear hfz94_2
          try clear p2
          obtain ⟨kq, x80_9, rfl, HA, HJ9, BK587, BK588, BK595, BK596, BK603, BK604, BK611, BK612, HB⟩ := hcut
          cases kq with
          | zero => exact absurd HA.out (by simp [laws_FnWhenMore.j1])
          | succ kj9 =>
            have H := HA.out
            clear HA
            simp only [laws_FnWhenMore.j1] at H
            by_cases c257 : x80_9 = true
            · subst c257
              rw [if_pos rfl] at H
              by_cases c258 : (t597 == t605 && (t598 == t606 && (t599 == t607))) = true
              · rw [if_pos c258] at H
                have c258b0 : (t597 == t605 && (t598 == t606 && (t599 == t607))) = true := c258
                (try (have c258b1 : decide (t597 = t605 && (t598 == t606 && (t599 == t607))) = true := by simpa using c258))
                (try (have c258b2 : (t597 == t605 && (t598 == t606 && (t599 == t607))) = true := by simpa using c258))
                clear c258
                obtain rfl := Option.some.inj H
                have hcz266_0 := bc0 BK603.out
                have hcz266_1 := bc1 BK603.out
                have hcz266_2 := bc2 BK603.out
                have hfz266_0 := blk_frozen BK603.out 0
                have hfz266_1 := blk_frozen BK603.out 1
                have hfz266_2 := blk_frozen BK603.out 2
                have hcz273_0 := bc0 BK611.out
                have hcz273_1 := bc1 BK611.out
                have hcz273_2 := bc2 BK611.out
                have hfz273_0 := blk_frozen BK611.out 0
                have hfz273_1 := blk_frozen BK611.out 1
                have hfz273_2 := blk_frozen BK611.out 2
                have hcz279_0 := bc0 BK604.out
                have hcz279_1 := bc1 BK604.out
                have hcz279_2 := bc2 BK604.out
                have hfz279_0 := blk_frozen BK604.out 0
                have hfz279_1 := blk_frozen BK604.out 1
                have hfz279_2 := blk_frozen BK604.out 2
                have hcz284_0 := bc0 BK612.out
                have hcz284_1 := bc1 BK612.out
                have hcz284_2 := bc2 BK612.out
                have hfz284_0 := blk_frozen BK612.out 0
                have hfz284_1 := blk_frozen BK612.out 1
                have hfz284_2 := blk_frozen BK612.out 2
                go_wp2
                go_ret
                exact ⟨by first | rfl | (simp [errW_none, errW_some] <;> rfl) | (simp [*, errW_none, errW_some] <;> rfl), bl⟩
              · rw [if_neg c258] at H
                have c258b0 : (t597 == t605 && (t598 == t606 && (t599 == t607))) = false := by simpa using c258
                (try (have c258b1 : decide (t597 = t605 && (t598 == t606 && (t599 == t607))) = false := by simpa using c258))
                (try (have c258b2 : (t597 == t605 && (t598 == t606 && (t599 == t607))) = false := by simpa using c258))
                (try (have c258b3 : ¬ (t597 = t605 && (t598 == t606 && (t599 == t607))) := by simpa using c258))
                clear c258
                obtain rfl := Option.some.inj H
                have hcz292_0 := bc0 BK603.out
                have hcz292_1 := bc1 BK603.out
                have hcz292_2 := bc2 BK603.out
                have hfz292_0 := blk_frozen BK603.out 0
                have hfz292_1 := blk_frozen BK603.out 1
                have hfz292_2 := blk_frozen BK603.out 2
                have hcz299_0 := bc0 BK611.out
                have hcz299_1 := bc1 BK611.out
                have hcz299_2 := bc2 BK611.out
                have hfz299_0 := blk_frozen BK611.out 0
                have hfz299_1 := blk_frozen BK611.out 1
                have hfz299_2 := blk_frozen BK611.out 2
                go_wp2
                go_ret
                exact ⟨by first | rfl | (simp [errW_none, errW_some] <;> rfl) | (simp [*, errW_none, errW_some] <;> rfl), bl⟩
            · replace c257 := Bool.eq_false_iff.mpr c257
              subst c257
              rw [if_neg (show ¬ (false = true) by decide)] at H
              replace H := Option.bind_eq_some_iff.mp H
              obtain ⟨⟨t617, t618, t619⟩, A3000, H⟩ := H
              try dsimp only at H
              have A300 := Aside0.mk A3000
              clear A3000
              replace H := Option.bind_eq_some_iff.mp H
              obtain ⟨⟨t620, t621, t622⟩, A3010, H⟩ := H
              try dsimp only at H
              have A301 := Aside0.mk A3010
              clear A3010
              replace H := Option.bind_eq_some_iff.mp H
              obtain ⟨⟨t623, t624, t625, t626, t627, t628⟩, A3020, H⟩ := H
              try dsimp only at H
              have A302 := Aside0.mk A3020
              clear A3020
              replace H := Option.bind_eq_some_iff.mp H
              obtain ⟨t631, A3030, H⟩ := H
              try dsimp only at H
              have A303 := Aside0.mk A3030
              clear A3030
              by_cases c304 : t631 = true
              · subst c304
                rw [if_pos rfl] at H
                replace H := Option.bind_eq_some_iff.mp H
                obtain ⟨t632, A3050, H⟩ := H
                try dsimp only at H
                have A305 := Aside0.mk A3050
                clear A3050
                obtain rfl := Option.some.inj H
                try go_wp2
                have n0_ := Bk.mk (blk_drew BK587.out)
                have n1_ := Bk.mk (blk_drew BK588.out)
                have n2_ := Bk.mk (blk_drew BK595.out)
                have n3_ := Bk.mk (blk_drew BK596.out)
                have n4_ := Bk.mk (blk_drew BK603.out)
                have n5_ := Bk.mk (blk_drew BK604.out)
                have n6_ := Bk.mk (blk_drew BK611.out)
                have n7_ := Bk.mk (blk_drew BK612.out)
                have n8_ := Bl.mk (below_drew1 HB.out)
                clear BK587
                clear BK588
                clear BK595
                clear BK596
                clear BK603
                clear BK604
                clear BK611
                clear BK612
                clear HB
                have BK587 := n0_
                have BK588 := n1_
                have BK595 := n2_
                have BK596 := n3_
                have BK603 := n4_
                have BK604 := n5_
                have BK611 := n6_
                have BK612 := n7_
                have HB := n8_
                clear n0_ n1_ n2_ n3_ n4_ n5_ n6_ n7_ n8_
                refine start_ (n := 16) (S := fun w' => True) (ds := []) #[false, false, false, false, false, false, false, false, false, false, false, false, false, false, false, false] (by kernel_rfl) rfl rfl trivial (fun hHeld => ?_); refine with_tabW laws_FnWhenMore.tab9 laws_FnWhenMore.bits9 (fun HT_ HW_ => ?_)
                generalize wc.drew = w306 at BK587 BK588 BK595 BK596 BK603 BK604 BK611 BK612 HB hHeld ⊢
                refine pure_ (i := 0) (N := some 90) (v := ?_) (a' := ?_) #[true, false, false, false, false, false, false, false, false, false, false, false, false, false, false, false] rfl rfl (any_of HT_.out (by kernel_rfl)) (fun _ _ _ h => h) (Or.inl ⟨by rfl, ?_⟩) ?_ ?_
                rotate_left
                · intro w'
                  go_simp
                  with_reducible rfl
                rotate_left
                · simp only [Act.put, List.setIfInBounds_toArray, List.set_cons_zero, List.set_cons_succ, i64_w, i32_w]
                  rfl
                refine pure_ (i := 7) (N := some 97) (v := ?_) (a' := ?_) #[true, false, false, false, false, false, false, true, false, false, false, false, false, false, false, false] rfl rfl (any_of HT_.out (by kernel_rfl)) (fun _ _ _ h => h) (Or.inl ⟨by rfl, ?_⟩) ?_ ?_
                rotate_left
                · intro w'
                  go_simp
                  with_reducible rfl
                rotate_left
                · simp only [Act.put, List.setIfInBounds_toArray, List.set_cons_zero, List.set_cons_succ, i64_w, i32_w]
                  rfl
                refine inv_at [1, 2, 3, 4, 5, 6, 8, 9, 10, 11, 12, 13, 14, 15] (fun a0_ b a w' => ∃ (gb629 : Nat) (gb630 : Nat) (m12_ : Value) (m13_ : Value), a = putSel a0_ b [(1, 91, .agg #[.bool t580, .int .i64 t581, .int .i64 t582]), (2, 92, .agg #[.bool t589, .int .i64 t590, .int .i64 t591]), (3, 93, .agg #[.bool t617, .int .i64 t618, .int .i64 t619]), (4, 94, .agg #[.bool t583, .int .i64 t584, .int .i64 t585]), (5, 95, .agg #[.bool t592, .int .i64 t593, .int .i64 t594]), (6, 96, .agg #[.bool t620, .int .i64 t621, .int .i64 t622]), (8, 98, .tuple #[.agg #[.bool t623, .int .i64 t624, .int .i64 t625], .agg #[.bool t626, .int .i64 t627, .int .i64 t628]]), (9, 89, .tuple #[.agg #[.bool t623, .int .i64 t624, .int .i64 t625], .agg #[.bool t626, .int .i64 t627, .int .i64 t628]]), (10, 99, .agg #[.bool t623, .int .i64 t624, .int .i64 t625]), (11, 100, .agg #[.bool t626, .int .i64 t627, .int .i64 t628]), (12, 15, m12_), (13, 16, m13_)] ∧ (w'.heap[gb587]? = some (.cells #[.bool t580, .int .i64 t581, .int .i64 t582] 30 (0, 0))) ∧ (w'.heap[gb588]? = some (.cells #[.bool t583, .int .i64 t584, .int .i64 t585] 30 (0, 0))) ∧ (w'.heap[gb595]? = some (.cells #[.bool t589, .int .i64 t590, .int .i64 t591] 30 (0, 0))) ∧ (w'.heap[gb596]? = some (.cells #[.bool t592, .int .i64 t593, .int .i64 t594] 30 (0, 0))) ∧ (w'.heap[gb603]? = some (.cells #[.bool t597, .int .i64 t598, .int .i64 t599] 30 (0, 0))) ∧ (w'.heap[gb604]? = some (.cells #[.bool t600, .int .i64 t601, .int .i64 t602] 30 (0, 0))) ∧ (w'.heap[gb611]? = some (.cells #[.bool t605, .int .i64 t606, .int .i64 t607] 30 (0, 0))) ∧ (w'.heap[gb612]? = some (.cells #[.bool t608, .int .i64 t609, .int .i64 t610] 30 (0, 0))) ∧ (Below w.heap.size w w') ∧ (b 12 = true → b 13 = true → gb630 ≠ gb629) ∧ (b 12 = true → b 13 = true → gb629 ≠ gb630) ∧ (b 12 = true → b 14 = false → w'.heap[gb629]? = some (.cells #[.bool false, .int .i64 0, .int .i64 0] 30 (0, 0))) ∧ (b 12 = true → w.heap.size ≤ gb629) ∧ (b 12 = true → w.heap.size ≤ gb629) ∧ (b 12 = true → gb587 ≠ gb629) ∧ (b 12 = true → gb629 ≠ gb587) ∧ (b 12 = true → gb588 ≠ gb629) ∧ (b 12 = true → gb629 ≠ gb588) ∧ (b 12 = true → gb595 ≠ gb629) ∧ (b 12 = true → gb629 ≠ gb595) ∧ (b 12 = true → gb596 ≠ gb629) ∧ (b 12 = true → gb629 ≠ gb596) ∧ (b 12 = true → gb603 ≠ gb629) ∧ (b 12 = true → gb629 ≠ gb603) ∧ (b 12 = true → gb604 ≠ gb629) ∧ (b 12 = true → gb629 ≠ gb604) ∧ (b 12 = true → gb611 ≠ gb629) ∧ (b 12 = true → gb629 ≠ gb611) ∧ (b 12 = true → gb612 ≠ gb629) ∧ (b 12 = true → gb629 ≠ gb612) ∧ (b 13 = true → b 15 = false → w'.heap[gb630]? = some (.cells #[.bool false, .int .i64 0, .int .i64 0] 30 (0, 0))) ∧ (b 13 = true → w.heap.size ≤ gb630) ∧ (b 13 = true → w.heap.size ≤ gb630) ∧ (b 13 = true → gb587 ≠ gb630) ∧ (b 13 = true → gb630 ≠ gb587) ∧ (b 13 = true → gb588 ≠ gb630) ∧ (b 13 = true → gb630 ≠ gb588) ∧ (b 13 = true → gb595 ≠ gb630) ∧ (b 13 = true → gb630 ≠ gb595) ∧ (b 13 = true → gb596 ≠ gb630) ∧ (b 13 = true → gb630 ≠ gb596) ∧ (b 13 = true → gb603 ≠ gb630) ∧ (b 13 = true → gb630 ≠ gb603) ∧ (b 13 = true → gb604 ≠ gb630) ∧ (b 13 = true → gb630 ≠ gb604) ∧ (b 13 = true → gb611 ≠ gb630) ∧ (b 13 = true → gb630 ≠ gb611) ∧ (b 13 = true → gb612 ≠ gb630) ∧ (b 13 = true → gb630 ≠ gb612) ∧ (b 14 = true → w'.heap[gb629]? = some (.cells #[.bool t623, .int .i64 t624, .int .i64 t625] 30 (0, 0))) ∧ (b 15 = true → w'.heap[gb630]? = some (.cells #[.bool t626, .int .i64 t627, .int .i64 t628] 30 (0, 0))) ∧ (b 12 = true → (m12_ : Value) = .pointer (some ⟨gb629, 0, none⟩)) ∧ (b 13 = true → (m13_ : Value) = .pointer (some ⟨gb630, 0, none⟩))) HT_.out HW_.out (by kernel_rfl) (by kernel_rfl) ?_ ?_ ?_
                · exact ⟨0, 0, .bool false, .bool false, by simp only [putSel, Bool.false_eq_true, if_false], BK587.out, BK588.out, BK595.out, BK596.out, BK603.out, BK604.out, BK611.out, BK612.out, HB.out, fun h_ => absurd h_ (by decide), fun h_ => absurd h_ (by decide), fun h_ => absurd h_ (by decide), fun h_ => absurd h_ (by decide), fun h_ => absurd h_ (by decide), fun h_ => absurd h_ (by decide), fun h_ => absurd h_ (by decide), fun h_ => absurd h_ (by decide), fun h_ => absurd h_ (by decide), fun h_ => absurd h_ (by decide), fun h_ => absurd h_ (by decide), fun h_ => absurd h_ (by decide), fun h_ => absurd h_ (by decide), fun h_ => absurd h_ (by decide), fun h_ => absurd h_ (by decide), fun h_ => absurd h_ (by decide), fun h_ => absurd h_ (by decide), fun h_ => absurd h_ (by decide), fun h_ => absurd h_ (by decide), fun h_ => absurd h_ (by decide), fun h_ => absurd h_ (by decide), fun h_ => absurd h_ (by decide), fun h_ => absurd h_ (by decide), fun h_ => absurd h_ (by decide), fun h_ => absurd h_ (by decide), fun h_ => absurd h_ (by decide), fun h_ => absurd h_ (by decide), fun h_ => absurd h_ (by decide), fun h_ => absurd h_ (by decide), fun h_ => absurd h_ (by decide), fun h_ => absurd h_ (by decide), fun h_ => absurd h_ (by decide), fun h_ => absurd h_ (by decide), fun h_ => absurd h_ (by decide), fun h_ => absurd h_ (by decide), fun h_ => absurd h_ (by decide), fun h_ => absurd h_ (by decide), fun h_ => absurd h_ (by decide), fun h_ => absurd h_ (by decide), fun h_ => absurd h_ (by decide), fun h_ => absurd h_ (by decide), fun h_ => absurd h_ (by decide), fun h_ => absurd h_ (by decide), fun h_ => absurd h_ (by decide)⟩
                · skip
                  clear BK587 BK588 BK595 BK596 BK603 BK604 BK611 BK612 HB
                  refine steps_cons ?_ ?_
                  · rintro b a w' ⟨gb629, gb630, m12_, m13_, ha, Q_BK587, Q_BK588, Q_BK595, Q_BK596, Q_BK603, Q_BK604, Q_BK611, Q_BK612, Q_HB, Q_NB630_629, Q_NB629_630, Q_BK629, Q_GW629, Q_GE629, Q_NB587_629, Q_NB629_587, Q_NB588_629, Q_NB629_588, Q_NB595_629, Q_NB629_595, Q_NB596_629, Q_NB629_596, Q_NB603_629, Q_NB629_603, Q_NB604_629, Q_NB629_604, Q_NB611_629, Q_NB629_611, Q_NB612_629, Q_NB629_612, Q_BK630, Q_GW630, Q_GE630, Q_NB587_630, Q_NB630_587, Q_NB588_630, Q_NB630_588, Q_NB595_630, Q_NB630_595, Q_NB596_630, Q_NB630_596, Q_NB603_630, Q_NB630_603, Q_NB604_630, Q_NB630_604, Q_NB611_630, Q_NB630_611, Q_NB612_630, Q_NB630_612, Q_BK629_e14, Q_BK630_e15, Q_X12_, Q_X13_⟩ hb_ hon hoff
                    refine ⟨_, rfl, fun K hK => ?_⟩
                    have e6 : a.tmps[6]? = some (.pointer (some ⟨gb587, 0, none⟩)) := by rw [ha]; exact (putSel_off rfl).trans rfl
                    replace ha := Aside0.mk ha
                    have BK587 := Bk.mk Q_BK587
                    have BK588 := Bk.mk Q_BK588
                    have BK595 := Bk.mk Q_BK595
                    have BK596 := Bk.mk Q_BK596
                    have BK603 := Bk.mk Q_BK603
                    have BK604 := Bk.mk Q_BK604
                    have BK611 := Bk.mk Q_BK611
                    have BK612 := Bk.mk Q_BK612
                    have HB := Bl.mk Q_HB
                    have hc0_ : w'.cell? ⟨gb587, 0, none⟩ = some (.bool t580) := (blk_cell BK587.out 0).trans rfl
                    have hc1_ : w'.cell? ⟨gb587, 1, none⟩ = some (.int .i64 t581) := (blk_cell BK587.out 1).trans rfl
                    have hc2_ : w'.cell? ⟨gb587, 2, none⟩ = some (.int .i64 t582) := (blk_cell BK587.out 2).trans rfl
                    refine value_ (w1 := w') (v := .agg #[.bool t580, .int .i64 t581, .int .i64 t582]) (by rfl) rfl ?_ ?_
                    · go_simp
                      (try simp only [i64_w])
                      try rfl
                    refine hK.out _ _ ⟨gb629, gb630, m12_, m13_, (by rw [ha.out]; exact putSel_upk 0 hb_ rfl rfl rfl), Q_BK587, Q_BK588, Q_BK595, Q_BK596, Q_BK603, Q_BK604, Q_BK611, Q_BK612, Q_HB, Q_NB630_629, Q_NB629_630, Q_BK629, Q_GW629, Q_GE629, Q_NB587_629, Q_NB629_587, Q_NB588_629, Q_NB629_588, Q_NB595_629, Q_NB629_595, Q_NB596_629, Q_NB629_596, Q_NB603_629, Q_NB629_603, Q_NB604_629, Q_NB629_604, Q_NB611_629, Q_NB629_611, Q_NB612_629, Q_NB629_612, Q_BK630, Q_GW630, Q_GE630, Q_NB587_630, Q_NB630_587, Q_NB588_630, Q_NB630_588, Q_NB595_630, Q_NB630_595, Q_NB596_630, Q_NB630_596, Q_NB603_630, Q_NB630_603, Q_NB604_630, Q_NB630_604, Q_NB611_630, Q_NB630_611, Q_NB612_630, Q_NB630_612, fun h0_ => absurd ((hoff 14 (by kernel_rfl)).symm.trans h0_) (by decide), fun h0_ => absurd ((hoff 15 (by kernel_rfl)).symm.trans h0_) (by decide), Q_X12_, Q_X13_⟩
                  refine steps_cons ?_ ?_
                  · rintro b a w' ⟨gb629, gb630, m12_, m13_, ha, Q_BK587, Q_BK588, Q_BK595, Q_BK596, Q_BK603, Q_BK604, Q_BK611, Q_BK612, Q_HB, Q_NB630_629, Q_NB629_630, Q_BK629, Q_GW629, Q_GE629, Q_NB587_629, Q_NB629_587, Q_NB588_629, Q_NB629_588, Q_NB595_629, Q_NB629_595, Q_NB596_629, Q_NB629_596, Q_NB603_629, Q_NB629_603, Q_NB604_629, Q_NB629_604, Q_NB611_629, Q_NB629_611, Q_NB612_629, Q_NB629_612, Q_BK630, Q_GW630, Q_GE630, Q_NB587_630, Q_NB630_587, Q_NB588_630, Q_NB630_588, Q_NB595_630, Q_NB630_595, Q_NB596_630, Q_NB630_596, Q_NB603_630, Q_NB630_603, Q_NB604_630, Q_NB630_604, Q_NB611_630, Q_NB630_611, Q_NB612_630, Q_NB630_612, Q_BK629_e14, Q_BK630_e15, Q_X12_, Q_X13_⟩ hb_ hon hoff
                    refine ⟨_, rfl, fun K hK => ?_⟩
                    have e9 : a.tmps[9]? = some (.pointer (some ⟨gb595, 0, none⟩)) := by rw [ha]; exact (putSel_off rfl).trans rfl
                    replace ha := Aside0.mk ha
                    have BK587 := Bk.mk Q_BK587
                    have BK588 := Bk.mk Q_BK588
                    have BK595 := Bk.mk Q_BK595
                    have BK596 := Bk.mk Q_BK596
                    have BK603 := Bk.mk Q_BK603
                    have BK604 := Bk.mk Q_BK604
                    have BK611 := Bk.mk Q_BK611
                    have BK612 := Bk.mk Q_BK612
                    have HB := Bl.mk Q_HB
                    have hc0_ : w'.cell? ⟨gb595, 0, none⟩ = some (.bool t589) := (blk_cell BK595.out 0).trans rfl
                    have hc1_ : w'.cell? ⟨gb595, 1, none⟩ = some (.int .i64 t590) := (blk_cell BK595.out 1).trans rfl
                    have hc2_ : w'.cell? ⟨gb595, 2, none⟩ = some (.int .i64 t591) := (blk_cell BK595.out 2).trans rfl
                    refine value_ (w1 := w') (v := .agg #[.bool t589, .int .i64 t590, .int .i64 t591]) (by rfl) rfl ?_ ?_
                    · go_simp
                      (try simp only [i64_w])
                      try rfl
                    refine hK.out _ _ ⟨gb629, gb630, m12_, m13_, (by rw [ha.out]; exact putSel_upk 1 hb_ rfl rfl rfl), Q_BK587, Q_BK588, Q_BK595, Q_BK596, Q_BK603, Q_BK604, Q_BK611, Q_BK612, Q_HB, Q_NB630_629, Q_NB629_630, Q_BK629, Q_GW629, Q_GE629, Q_NB587_629, Q_NB629_587, Q_NB588_629, Q_NB629_588, Q_NB595_629, Q_NB629_595, Q_NB596_629, Q_NB629_596, Q_NB603_629, Q_NB629_603, Q_NB604_629, Q_NB629_604, Q_NB611_629, Q_NB629_611, Q_NB612_629, Q_NB629_612, Q_BK630, Q_GW630, Q_GE630, Q_NB587_630, Q_NB630_587, Q_NB588_630, Q_NB630_588, Q_NB595_630, Q_NB630_595, Q_NB596_630, Q_NB630_596, Q_NB603_630, Q_NB630_603, Q_NB604_630, Q_NB630_604, Q_NB611_630, Q_NB630_611, Q_NB612_630, Q_NB630_612, fun h0_ => absurd ((hoff 14 (by kernel_rfl)).symm.trans h0_) (by decide), fun h0_ => absurd ((hoff 15 (by kernel_rfl)).symm.trans h0_) (by decide), Q_X12_, Q_X13_⟩
                  refine steps_cons ?_ ?_
                  · rintro b a w' ⟨gb629, gb630, m12_, m13_, ha, Q_BK587, Q_BK588, Q_BK595, Q_BK596, Q_BK603, Q_BK604, Q_BK611, Q_BK612, Q_HB, Q_NB630_629, Q_NB629_630, Q_BK629, Q_GW629, Q_GE629, Q_NB587_629, Q_NB629_587, Q_NB588_629, Q_NB629_588, Q_NB595_629, Q_NB629_595, Q_NB596_629, Q_NB629_596, Q_NB603_629, Q_NB629_603, Q_NB604_629, Q_NB629_604, Q_NB611_629, Q_NB629_611, Q_NB612_629, Q_NB629_612, Q_BK630, Q_GW630, Q_GE630, Q_NB587_630, Q_NB630_587, Q_NB588_630, Q_NB630_588, Q_NB595_630, Q_NB630_595, Q_NB596_630, Q_NB630_596, Q_NB603_630, Q_NB630_603, Q_NB604_630, Q_NB630_604, Q_NB611_630, Q_NB630_611, Q_NB612_630, Q_NB630_612, Q_BK629_e14, Q_BK630_e15, Q_X12_, Q_X13_⟩ hb_ hon hoff
                    refine ⟨_, rfl, fun K hK => ?_⟩
                    have e91 : a.tmps[91]? = some (.agg #[.bool t580, .int .i64 t581, .int .i64 t582]) := by rw [ha]; exact putSel_on (e := (1, 91, .agg #[.bool t580, .int .i64 t581, .int .i64 t582])) 0 rfl rfl (hon 1 (by kernel_rfl)) rfl
                    have e92 : a.tmps[92]? = some (.agg #[.bool t589, .int .i64 t590, .int .i64 t591]) := by rw [ha]; exact putSel_on (e := (2, 92, .agg #[.bool t589, .int .i64 t590, .int .i64 t591])) 1 rfl rfl (hon 2 (by kernel_rfl)) rfl
                    replace ha := Aside0.mk ha
                    have BK587 := Bk.mk Q_BK587
                    have BK588 := Bk.mk Q_BK588
                    have BK595 := Bk.mk Q_BK595
                    have BK596 := Bk.mk Q_BK596
                    have BK603 := Bk.mk Q_BK603
                    have BK604 := Bk.mk Q_BK604
                    have BK611 := Bk.mk Q_BK611
                    have BK612 := Bk.mk Q_BK612
                    have HB := Bl.mk Q_HB
                    refine goes_ Try.func25 (by kernel_rfl) rfl #[.agg #[.bool t580, .int .i64 t581, .int .i64 t582], .agg #[.bool t589, .int .i64 t590, .int .i64 t591]] (by rfl) rfl rfl (by first | (simp only [List.map_toArray, List.map_cons, List.map_nil, Act.eval, Array.getD_eq_getD_getElem?, Option.getD_some, e91, e92]; done) | (simp only [List.map_toArray, List.map_cons, List.map_nil, Act.eval, Array.getD_eq_getD_getElem?, Option.getD_some, e91, e92]; rfl)) ?_
                    with_reducible refine (impl_SpanJoin.calls kj9 t580 t581 t582 t589 t590 t591 t617 t618 t619 _ A300.out).mono ?_
                    rintro e w307 ⟨rfl, hb⟩
                    refine ⟨_, rfl, ?_⟩
                    have n0_ := Bk.mk (blk_below (g := gb587) bk hb)
                    have n1_ := Bk.mk (blk_below (g := gb588) bk hb)
                    have n2_ := Bk.mk (blk_below (g := gb595) bk hb)
                    have n3_ := Bk.mk (blk_below (g := gb596) bk hb)
                    have n4_ := Bk.mk (blk_below (g := gb603) bk hb)
                    have n5_ := Bk.mk (blk_below (g := gb604) bk hb)
                    have n6_ := Bk.mk (blk_below (g := gb611) bk hb)
                    have n7_ := Bk.mk (blk_below (g := gb612) bk hb)
                    have n8_ := Bl.mk (below_step bl hb)
                    have z_BK629 := fun (h0_ : b 12 = true) (h1_ : b 14 = false) => (show w307.heap[gb629]? = some (.cells #[.bool false, .int .i64 0, .int .i64 0] 30 (0, 0)) from by first | exact (blk_below (g := gb629) (o := .cells #[.bool false, .int .i64 0, .int .i64 0] 30 (0, 0)) (by (with_reducible repeat (first | refine blk_drewN ?_ _ | refine blk_drew ?_ | refine blk_alloc ?_ _)); exact (Q_BK629 h0_ h1_)) hb))
                    have z_BK630 := fun (h0_ : b 13 = true) (h1_ : b 15 = false) => (show w307.heap[gb630]? = some (.cells #[.bool false, .int .i64 0, .int .i64 0] 30 (0, 0)) from by first | exact (blk_below (g := gb630) (o := .cells #[.bool false, .int .i64 0, .int .i64 0] 30 (0, 0)) (by (with_reducible repeat (first | refine blk_drewN ?_ _ | refine blk_drew ?_ | refine blk_alloc ?_ _)); exact (Q_BK630 h0_ h1_)) hb))
                    clear BK587
                    clear BK588
                    clear BK595
                    clear BK596
                    clear BK603
                    clear BK604
                    clear BK611
                    clear BK612
                    clear HB
                    have BK587 := n0_
                    have BK588 := n1_
                    have BK595 := n2_
                    have BK596 := n3_
                    have BK603 := n4_
                    have BK604 := n5_
                    have BK611 := n6_
                    have BK612 := n7_
                    have HB := n8_
                    clear n0_ n1_ n2_ n3_ n4_ n5_ n6_ n7_ n8_
                    (try clear hb)
                    (try clear hb2)
                    (try clear hk)
                    (try clear hi)
                    refine hK.out _ _ ⟨gb629, gb630, m12_, m13_, (by rw [ha.out]; exact putSel_upk 2 hb_ rfl rfl rfl), bk, bk, bk, bk, bk, bk, bk, bk, bl, Q_NB630_629, Q_NB629_630, z_BK629, Q_GW629, Q_GE629, Q_NB587_629, Q_NB629_587, Q_NB588_629, Q_NB629_588, Q_NB595_629, Q_NB629_595, Q_NB596_629, Q_NB629_596, Q_NB603_629, Q_NB629_603, Q_NB604_629, Q_NB629_604, Q_NB611_629, Q_NB629_611, Q_NB612_629, Q_NB629_612, z_BK630, Q_GW630, Q_GE630, Q_NB587_630, Q_NB630_587, Q_NB588_630, Q_NB630_588, Q_NB595_630, Q_NB630_595, Q_NB596_630, Q_NB630_596, Q_NB603_630, Q_NB630_603, Q_NB604_630, Q_NB630_604, Q_NB611_630, Q_NB630_611, Q_NB612_630, Q_NB630_612, fun h0_ => absurd ((hoff 14 (by kernel_rfl)).symm.trans h0_) (by decide), fun h0_ => absurd ((hoff 15 (by kernel_rfl)).symm.trans h0_) (by decide), Q_X12_, Q_X13_⟩
                  refine steps_cons ?_ ?_
                  · rintro b a w' ⟨gb629, gb630, m12_, m13_, ha, Q_BK587, Q_BK588, Q_BK595, Q_BK596, Q_BK603, Q_BK604, Q_BK611, Q_BK612, Q_HB, Q_NB630_629, Q_NB629_630, Q_BK629, Q_GW629, Q_GE629, Q_NB587_629, Q_NB629_587, Q_NB588_629, Q_NB629_588, Q_NB595_629, Q_NB629_595, Q_NB596_629, Q_NB629_596, Q_NB603_629, Q_NB629_603, Q_NB604_629, Q_NB629_604, Q_NB611_629, Q_NB629_611, Q_NB612_629, Q_NB629_612, Q_BK630, Q_GW630, Q_GE630, Q_NB587_630, Q_NB630_587, Q_NB588_630, Q_NB630_588, Q_NB595_630, Q_NB630_595, Q_NB596_630, Q_NB630_596, Q_NB603_630, Q_NB630_603, Q_NB604_630, Q_NB630_604, Q_NB611_630, Q_NB630_611, Q_NB612_630, Q_NB630_612, Q_BK629_e14, Q_BK630_e15, Q_X12_, Q_X13_⟩ hb_ hon hoff
                    refine ⟨_, rfl, fun K hK => ?_⟩
                    have e7 : a.tmps[7]? = some (.pointer (some ⟨gb588, 0, none⟩)) := by rw [ha]; exact (putSel_off rfl).trans rfl
                    replace ha := Aside0.mk ha
                    have BK587 := Bk.mk Q_BK587
                    have BK588 := Bk.mk Q_BK588
                    have BK595 := Bk.mk Q_BK595
                    have BK596 := Bk.mk Q_BK596
                    have BK603 := Bk.mk Q_BK603
                    have BK604 := Bk.mk Q_BK604
                    have BK611 := Bk.mk Q_BK611
                    have BK612 := Bk.mk Q_BK612
                    have HB := Bl.mk Q_HB
                    have hc0_ : w'.cell? ⟨gb588, 0, none⟩ = some (.bool t583) := (blk_cell BK588.out 0).trans rfl
                    have hc1_ : w'.cell? ⟨gb588, 1, none⟩ = some (.int .i64 t584) := (blk_cell BK588.out 1).trans rfl
                    have hc2_ : w'.cell? ⟨gb588, 2, none⟩ = some (.int .i64 t585) := (blk_cell BK588.out 2).trans rfl
                    refine value_ (w1 := w') (v := .agg #[.bool t583, .int .i64 t584, .int .i64 t585]) (by rfl) rfl ?_ ?_
                    · go_simp
                      (try simp only [i64_w])
                      try rfl
                    refine hK.out _ _ ⟨gb629, gb630, m12_, m13_, (by rw [ha.out]; exact putSel_upk 3 hb_ rfl rfl rfl), Q_BK587, Q_BK588, Q_BK595, Q_BK596, Q_BK603, Q_BK604, Q_BK611, Q_BK612, Q_HB, Q_NB630_629, Q_NB629_630, Q_BK629, Q_GW629, Q_GE629, Q_NB587_629, Q_NB629_587, Q_NB588_629, Q_NB629_588, Q_NB595_629, Q_NB629_595, Q_NB596_629, Q_NB629_596, Q_NB603_629, Q_NB629_603, Q_NB604_629, Q_NB629_604, Q_NB611_629, Q_NB629_611, Q_NB612_629, Q_NB629_612, Q_BK630, Q_GW630, Q_GE630, Q_NB587_630, Q_NB630_587, Q_NB588_630, Q_NB630_588, Q_NB595_630, Q_NB630_595, Q_NB596_630, Q_NB630_596, Q_NB603_630, Q_NB630_603, Q_NB604_630, Q_NB630_604, Q_NB611_630, Q_NB630_611, Q_NB612_630, Q_NB630_612, fun h0_ => absurd ((hoff 14 (by kernel_rfl)).symm.trans h0_) (by decide), fun h0_ => absurd ((hoff 15 (by kernel_rfl)).symm.trans h0_) (by decide), Q_X12_, Q_X13_⟩
                  refine steps_cons ?_ ?_
                  · rintro b a w' ⟨gb629, gb630, m12_, m13_, ha, Q_BK587, Q_BK588, Q_BK595, Q_BK596, Q_BK603, Q_BK604, Q_BK611, Q_BK612, Q_HB, Q_NB630_629, Q_NB629_630, Q_BK629, Q_GW629, Q_GE629, Q_NB587_629, Q_NB629_587, Q_NB588_629, Q_NB629_588, Q_NB595_629, Q_NB629_595, Q_NB596_629, Q_NB629_596, Q_NB603_629, Q_NB629_603, Q_NB604_629, Q_NB629_604, Q_NB611_629, Q_NB629_611, Q_NB612_629, Q_NB629_612, Q_BK630, Q_GW630, Q_GE630, Q_NB587_630, Q_NB630_587, Q_NB588_630, Q_NB630_588, Q_NB595_630, Q_NB630_595, Q_NB596_630, Q_NB630_596, Q_NB603_630, Q_NB630_603, Q_NB604_630, Q_NB630_604, Q_NB611_630, Q_NB630_611, Q_NB612_630, Q_NB630_612, Q_BK629_e14, Q_BK630_e15, Q_X12_, Q_X13_⟩ hb_ hon hoff
                    refine ⟨_, rfl, fun K hK => ?_⟩
                    have e10 : a.tmps[10]? = some (.pointer (some ⟨gb596, 0, none⟩)) := by rw [ha]; exact (putSel_off rfl).trans rfl
                    replace ha := Aside0.mk ha
                    have BK587 := Bk.mk Q_BK587
                    have BK588 := Bk.mk Q_BK588
                    have BK595 := Bk.mk Q_BK595
                    have BK596 := Bk.mk Q_BK596
                    have BK603 := Bk.mk Q_BK603
                    have BK604 := Bk.mk Q_BK604
                    have BK611 := Bk.mk Q_BK611
                    have BK612 := Bk.mk Q_BK612
                    have HB := Bl.mk Q_HB
                    have hc0_ : w'.cell? ⟨gb596, 0, none⟩ = some (.bool t592) := (blk_cell BK596.out 0).trans rfl
                    have hc1_ : w'.cell? ⟨gb596, 1, none⟩ = some (.int .i64 t593) := (blk_cell BK596.out 1).trans rfl
                    have hc2_ : w'.cell? ⟨gb596, 2, none⟩ = some (.int .i64 t594) := (blk_cell BK596.out 2).trans rfl
                    refine value_ (w1 := w') (v := .agg #[.bool t592, .int .i64 t593, .int .i64 t594]) (by rfl) rfl ?_ ?_
                    · go_simp
                      (try simp only [i64_w])
                      try rfl
                    refine hK.out _ _ ⟨gb629, gb630, m12_, m13_, (by rw [ha.out]; exact putSel_upk 4 hb_ rfl rfl rfl), Q_BK587, Q_BK588, Q_BK595, Q_BK596, Q_BK603, Q_BK604, Q_BK611, Q_BK612, Q_HB, Q_NB630_629, Q_NB629_630, Q_BK629, Q_GW629, Q_GE629, Q_NB587_629, Q_NB629_587, Q_NB588_629, Q_NB629_588, Q_NB595_629, Q_NB629_595, Q_NB596_629, Q_NB629_596, Q_NB603_629, Q_NB629_603, Q_NB604_629, Q_NB629_604, Q_NB611_629, Q_NB629_611, Q_NB612_629, Q_NB629_612, Q_BK630, Q_GW630, Q_GE630, Q_NB587_630, Q_NB630_587, Q_NB588_630, Q_NB630_588, Q_NB595_630, Q_NB630_595, Q_NB596_630, Q_NB630_596, Q_NB603_630, Q_NB630_603, Q_NB604_630, Q_NB630_604, Q_NB611_630, Q_NB630_611, Q_NB612_630, Q_NB630_612, fun h0_ => absurd ((hoff 14 (by kernel_rfl)).symm.trans h0_) (by decide), fun h0_ => absurd ((hoff 15 (by kernel_rfl)).symm.trans h0_) (by decide), Q_X12_, Q_X13_⟩
                  refine steps_cons ?_ ?_
                  · rintro b a w' ⟨gb629, gb630, m12_, m13_, ha, Q_BK587, Q_BK588, Q_BK595, Q_BK596, Q_BK603, Q_BK604, Q_BK611, Q_BK612, Q_HB, Q_NB630_629, Q_NB629_630, Q_BK629, Q_GW629, Q_GE629, Q_NB587_629, Q_NB629_587, Q_NB588_629, Q_NB629_588, Q_NB595_629, Q_NB629_595, Q_NB596_629, Q_NB629_596, Q_NB603_629, Q_NB629_603, Q_NB604_629, Q_NB629_604, Q_NB611_629, Q_NB629_611, Q_NB612_629, Q_NB629_612, Q_BK630, Q_GW630, Q_GE630, Q_NB587_630, Q_NB630_587, Q_NB588_630, Q_NB630_588, Q_NB595_630, Q_NB630_595, Q_NB596_630, Q_NB630_596, Q_NB603_630, Q_NB630_603, Q_NB604_630, Q_NB630_604, Q_NB611_630, Q_NB630_611, Q_NB612_630, Q_NB630_612, Q_BK629_e14, Q_BK630_e15, Q_X12_, Q_X13_⟩ hb_ hon hoff
                    refine ⟨_, rfl, fun K hK => ?_⟩
                    have e94 : a.tmps[94]? = some (.agg #[.bool t583, .int .i64 t584, .int .i64 t585]) := by rw [ha]; exact putSel_on (e := (4, 94, .agg #[.bool t583, .int .i64 t584, .int .i64 t585])) 3 rfl rfl (hon 4 (by kernel_rfl)) rfl
                    have e95 : a.tmps[95]? = some (.agg #[.bool t592, .int .i64 t593, .int .i64 t594]) := by rw [ha]; exact putSel_on (e := (5, 95, .agg #[.bool t592, .int .i64 t593, .int .i64 t594])) 4 rfl rfl (hon 5 (by kernel_rfl)) rfl
                    replace ha := Aside0.mk ha
                    have BK587 := Bk.mk Q_BK587
                    have BK588 := Bk.mk Q_BK588
                    have BK595 := Bk.mk Q_BK595
                    have BK596 := Bk.mk Q_BK596
                    have BK603 := Bk.mk Q_BK603
                    have BK604 := Bk.mk Q_BK604
                    have BK611 := Bk.mk Q_BK611
                    have BK612 := Bk.mk Q_BK612
                    have HB := Bl.mk Q_HB
                    refine goes_ Try.func25 (by kernel_rfl) rfl #[.agg #[.bool t583, .int .i64 t584, .int .i64 t585], .agg #[.bool t592, .int .i64 t593, .int .i64 t594]] (by rfl) rfl rfl (by first | (simp only [List.map_toArray, List.map_cons, List.map_nil, Act.eval, Array.getD_eq_getD_getElem?, Option.getD_some, e94, e95]; done) | (simp only [List.map_toArray, List.map_cons, List.map_nil, Act.eval, Array.getD_eq_getD_getElem?, Option.getD_some, e94, e95]; rfl)) ?_
                    with_reducible refine (impl_SpanJoin.calls kj9 t583 t584 t585 t592 t593 t594 t620 t621 t622 _ A301.out).mono ?_
                    rintro e w309 ⟨rfl, hb⟩
                    refine ⟨_, rfl, ?_⟩
                    have n0_ := Bk.mk (blk_below (g := gb587) bk hb)
                    have n1_ := Bk.mk (blk_below (g := gb588) bk hb)
                    have n2_ := Bk.mk (blk_below (g := gb595) bk hb)
                    have n3_ := Bk.mk (blk_below (g := gb596) bk hb)
                    have n4_ := Bk.mk (blk_below (g := gb603) bk hb)
                    have n5_ := Bk.mk (blk_below (g := gb604) bk hb)
                    have n6_ := Bk.mk (blk_below (g := gb611) bk hb)
                    have n7_ := Bk.mk (blk_below (g := gb612) bk hb)
                    have n8_ := Bl.mk (below_step bl hb)
                    have z_BK629 := fun (h0_ : b 12 = true) (h1_ : b 14 = false) => (show w309.heap[gb629]? = some (.cells #[.bool false, .int .i64 0, .int .i64 0] 30 (0, 0)) from by first | exact (blk_below (g := gb629) (o := .cells #[.bool false, .int .i64 0, .int .i64 0] 30 (0, 0)) (by (with_reducible repeat (first | refine blk_drewN ?_ _ | refine blk_drew ?_ | refine blk_alloc ?_ _)); exact (Q_BK629 h0_ h1_)) hb))
                    have z_BK630 := fun (h0_ : b 13 = true) (h1_ : b 15 = false) => (show w309.heap[gb630]? = some (.cells #[.bool false, .int .i64 0, .int .i64 0] 30 (0, 0)) from by first | exact (blk_below (g := gb630) (o := .cells #[.bool false, .int .i64 0, .int .i64 0] 30 (0, 0)) (by (with_reducible repeat (first | refine blk_drewN ?_ _ | refine blk_drew ?_ | refine blk_alloc ?_ _)); exact (Q_BK630 h0_ h1_)) hb))
                    clear BK587
                    clear BK588
                    clear BK595
                    clear BK596
                    clear BK603
                    clear BK604
                    clear BK611
                    clear BK612
                    clear HB
                    have BK587 := n0_
                    have BK588 := n1_
                    have BK595 := n2_
                    have BK596 := n3_
                    have BK603 := n4_
                    have BK604 := n5_
                    have BK611 := n6_
                    have BK612 := n7_
                    have HB := n8_
                    clear n0_ n1_ n2_ n3_ n4_ n5_ n6_ n7_ n8_
                    (try clear hb)
                    (try clear hb2)
                    (try clear hk)
                    (try clear hi)
                    refine hK.out _ _ ⟨gb629, gb630, m12_, m13_, (by rw [ha.out]; exact putSel_upk 5 hb_ rfl rfl rfl), bk, bk, bk, bk, bk, bk, bk, bk, bl, Q_NB630_629, Q_NB629_630, z_BK629, Q_GW629, Q_GE629, Q_NB587_629, Q_NB629_587, Q_NB588_629, Q_NB629_588, Q_NB595_629, Q_NB629_595, Q_NB596_629, Q_NB629_596, Q_NB603_629, Q_NB629_603, Q_NB604_629, Q_NB629_604, Q_NB611_629, Q_NB629_611, Q_NB612_629, Q_NB629_612, z_BK630, Q_GW630, Q_GE630, Q_NB587_630, Q_NB630_587, Q_NB588_630, Q_NB630_588, Q_NB595_630, Q_NB630_595, Q_NB596_630, Q_NB630_596, Q_NB603_630, Q_NB630_603, Q_NB604_630, Q_NB630_604, Q_NB611_630, Q_NB630_611, Q_NB612_630, Q_NB630_612, fun h0_ => absurd ((hoff 14 (by kernel_rfl)).symm.trans h0_) (by decide), fun h0_ => absurd ((hoff 15 (by kernel_rfl)).symm.trans h0_) (by decide), Q_X12_, Q_X13_⟩
                  refine steps_cons ?_ ?_
                  · rintro b a w' ⟨gb629, gb630, m12_, m13_, ha, Q_BK587, Q_BK588, Q_BK595, Q_BK596, Q_BK603, Q_BK604, Q_BK611, Q_BK612, Q_HB, Q_NB630_629, Q_NB629_630, Q_BK629, Q_GW629, Q_GE629, Q_NB587_629, Q_NB629_587, Q_NB588_629, Q_NB629_588, Q_NB595_629, Q_NB629_595, Q_NB596_629, Q_NB629_596, Q_NB603_629, Q_NB629_603, Q_NB604_629, Q_NB629_604, Q_NB611_629, Q_NB629_611, Q_NB612_629, Q_NB629_612, Q_BK630, Q_GW630, Q_GE630, Q_NB587_630, Q_NB630_587, Q_NB588_630, Q_NB630_588, Q_NB595_630, Q_NB630_595, Q_NB596_630, Q_NB630_596, Q_NB603_630, Q_NB630_603, Q_NB604_630, Q_NB630_604, Q_NB611_630, Q_NB630_611, Q_NB612_630, Q_NB630_612, Q_BK629_e14, Q_BK630_e15, Q_X12_, Q_X13_⟩ hb_ hon hoff
                    refine ⟨_, rfl, fun K hK => ?_⟩
                    have e90 : a.tmps[90]? = some (.int .i64 t579) := by rw [ha]; exact (putSel_off rfl).trans rfl
                    have e93 : a.tmps[93]? = some (.agg #[.bool t617, .int .i64 t618, .int .i64 t619]) := by rw [ha]; exact putSel_on (e := (3, 93, .agg #[.bool t617, .int .i64 t618, .int .i64 t619])) 2 rfl rfl (hon 3 (by kernel_rfl)) rfl
                    have e96 : a.tmps[96]? = some (.agg #[.bool t620, .int .i64 t621, .int .i64 t622]) := by rw [ha]; exact putSel_on (e := (6, 96, .agg #[.bool t620, .int .i64 t621, .int .i64 t622])) 5 rfl rfl (hon 6 (by kernel_rfl)) rfl
                    have e97 : a.tmps[97]? = some (.bool t586) := by rw [ha]; exact (putSel_off rfl).trans rfl
                    replace ha := Aside0.mk ha
                    have BK587 := Bk.mk Q_BK587
                    have BK588 := Bk.mk Q_BK588
                    have BK595 := Bk.mk Q_BK595
                    have BK596 := Bk.mk Q_BK596
                    have BK603 := Bk.mk Q_BK603
                    have BK604 := Bk.mk Q_BK604
                    have BK611 := Bk.mk Q_BK611
                    have BK612 := Bk.mk Q_BK612
                    have HB := Bl.mk Q_HB
                    refine goes_ Try.func19 (by kernel_rfl) rfl #[.int .i64 t579, .agg #[.bool t617, .int .i64 t618, .int .i64 t619], .agg #[.bool t620, .int .i64 t621, .int .i64 t622], .bool t586] (by rfl) rfl rfl (by first | (simp only [List.map_toArray, List.map_cons, List.map_nil, Act.eval, Array.getD_eq_getD_getElem?, Option.getD_some, e90, e93, e96, e97]; done) | (simp only [List.map_toArray, List.map_cons, List.map_nil, Act.eval, Array.getD_eq_getD_getElem?, Option.getD_some, e90, e93, e96, e97]; rfl)) ?_
                    with_reducible refine (impl_SpanWhen.calls kj9 t579 t617 t618 t619 t620 t621 t622 t586 t623 t624 t625 t626 t627 t628 _ A302.out).mono ?_
                    rintro e w310 ⟨rfl, hb⟩
                    refine ⟨_, rfl, ?_⟩
                    have n0_ := Bk.mk (blk_below (g := gb587) bk hb)
                    have n1_ := Bk.mk (blk_below (g := gb588) bk hb)
                    have n2_ := Bk.mk (blk_below (g := gb595) bk hb)
                    have n3_ := Bk.mk (blk_below (g := gb596) bk hb)
                    have n4_ := Bk.mk (blk_below (g := gb603) bk hb)
                    have n5_ := Bk.mk (blk_below (g := gb604) bk hb)
                    have n6_ := Bk.mk (blk_below (g := gb611) bk hb)
                    have n7_ := Bk.mk (blk_below (g := gb612) bk hb)
                    have n8_ := Bl.mk (below_step bl hb)
                    have z_BK629 := fun (h0_ : b 12 = true) (h1_ : b 14 = false) => (show w310.heap[gb629]? = some (.cells #[.bool false, .int .i64 0, .int .i64 0] 30 (0, 0)) from by first | exact (blk_below (g := gb629) (o := .cells #[.bool false, .int .i64 0, .int .i64 0] 30 (0, 0)) (by (with_reducible repeat (first | refine blk_drewN ?_ _ | refine blk_drew ?_ | refine blk_alloc ?_ _)); exact (Q_BK629 h0_ h1_)) hb))
                    have z_BK630 := fun (h0_ : b 13 = true) (h1_ : b 15 = false) => (show w310.heap[gb630]? = some (.cells #[.bool false, .int .i64 0, .int .i64 0] 30 (0, 0)) from by first | exact (blk_below (g := gb630) (o := .cells #[.bool false, .int .i64 0, .int .i64 0] 30 (0, 0)) (by (with_reducible repeat (first | refine blk_drewN ?_ _ | refine blk_drew ?_ | refine blk_alloc ?_ _)); exact (Q_BK630 h0_ h1_)) hb))
                    clear BK587
                    clear BK588
                    clear BK595
                    clear BK596
                    clear BK603
                    clear BK604
                    clear BK611
                    clear BK612
                    clear HB
                    have BK587 := n0_
                    have BK588 := n1_
                    have BK595 := n2_
                    have BK596 := n3_
                    have BK603 := n4_
                    have BK604 := n5_
                    have BK611 := n6_
                    have BK612 := n7_
                    have HB := n8_
                    clear n0_ n1_ n2_ n3_ n4_ n5_ n6_ n7_ n8_
                    (try clear hb)
                    (try clear hb2)
                    (try clear hk)
                    (try clear hi)
                    refine hK.out _ _ ⟨gb629, gb630, m12_, m13_, (by rw [ha.out]; exact putSel_upk 6 hb_ rfl rfl rfl), bk, bk, bk, bk, bk, bk, bk, bk, bl, Q_NB630_629, Q_NB629_630, z_BK629, Q_GW629, Q_GE629, Q_NB587_629, Q_NB629_587, Q_NB588_629, Q_NB629_588, Q_NB595_629, Q_NB629_595, Q_NB596_629, Q_NB629_596, Q_NB603_629, Q_NB629_603, Q_NB604_629, Q_NB629_604, Q_NB611_629, Q_NB629_611, Q_NB612_629, Q_NB629_612, z_BK630, Q_GW630, Q_GE630, Q_NB587_630, Q_NB630_587, Q_NB588_630, Q_NB630_588, Q_NB595_630, Q_NB630_595, Q_NB596_630, Q_NB630_596, Q_NB603_630, Q_NB630_603, Q_NB604_630, Q_NB630_604, Q_NB611_630, Q_NB630_611, Q_NB612_630, Q_NB630_612, fun h0_ => absurd ((hoff 14 (by kernel_rfl)).symm.trans h0_) (by decide), fun h0_ => absurd ((hoff 15 (by kernel_rfl)).symm.trans h0_) (by decide), Q_X12_, Q_X13_⟩
                  refine steps_cons ?_ ?_
                  · rintro b a w' ⟨gb629, gb630, m12_, m13_, ha, Q_BK587, Q_BK588, Q_BK595, Q_BK596, Q_BK603, Q_BK604, Q_BK611, Q_BK612, Q_HB, Q_NB630_629, Q_NB629_630, Q_BK629, Q_GW629, Q_GE629, Q_NB587_629, Q_NB629_587, Q_NB588_629, Q_NB629_588, Q_NB595_629, Q_NB629_595, Q_NB596_629, Q_NB629_596, Q_NB603_629, Q_NB629_603, Q_NB604_629, Q_NB629_604, Q_NB611_629, Q_NB629_611, Q_NB612_629, Q_NB629_612, Q_BK630, Q_GW630, Q_GE630, Q_NB587_630, Q_NB630_587, Q_NB588_630, Q_NB630_588, Q_NB595_630, Q_NB630_595, Q_NB596_630, Q_NB630_596, Q_NB603_630, Q_NB630_603, Q_NB604_630, Q_NB630_604, Q_NB611_630, Q_NB630_611, Q_NB612_630, Q_NB630_612, Q_BK629_e14, Q_BK630_e15, Q_X12_, Q_X13_⟩ hb_ hon hoff
                    refine ⟨_, rfl, fun K hK => ?_⟩
                    have e98 : a.tmps[98]? = some (.tuple #[.agg #[.bool t623, .int .i64 t624, .int .i64 t625], .agg #[.bool t626, .int .i64 t627, .int .i64 t628]]) := by rw [ha]; exact putSel_on (e := (8, 98, .tuple #[.agg #[.bool t623, .int .i64 t624, .int .i64 t625], .agg #[.bool t626, .int .i64 t627, .int .i64 t628]])) 6 rfl rfl (hon 8 (by kernel_rfl)) rfl
                    replace ha := Aside0.mk ha
                    have BK587 := Bk.mk Q_BK587
                    have BK588 := Bk.mk Q_BK588
                    have BK595 := Bk.mk Q_BK595
                    have BK596 := Bk.mk Q_BK596
                    have BK603 := Bk.mk Q_BK603
                    have BK604 := Bk.mk Q_BK604
                    have BK611 := Bk.mk Q_BK611
                    have BK612 := Bk.mk Q_BK612
                    have HB := Bl.mk Q_HB
                    refine value_ (w1 := w') (v := .tuple #[.agg #[.bool t623, .int .i64 t624, .int .i64 t625], .agg #[.bool t626, .int .i64 t627, .int .i64 t628]]) (by rfl) rfl ?_ ?_
                    · go_simp
                      (try simp only [i64_w])
                      try rfl
                    refine hK.out _ _ ⟨gb629, gb630, m12_, m13_, (by rw [ha.out]; exact putSel_upk 7 hb_ rfl rfl rfl), Q_BK587, Q_BK588, Q_BK595, Q_BK596, Q_BK603, Q_BK604, Q_BK611, Q_BK612, Q_HB, Q_NB630_629, Q_NB629_630, Q_BK629, Q_GW629, Q_GE629, Q_NB587_629, Q_NB629_587, Q_NB588_629, Q_NB629_588, Q_NB595_629, Q_NB629_595, Q_NB596_629, Q_NB629_596, Q_NB603_629, Q_NB629_603, Q_NB604_629, Q_NB629_604, Q_NB611_629, Q_NB629_611, Q_NB612_629, Q_NB629_612, Q_BK630, Q_GW630, Q_GE630, Q_NB587_630, Q_NB630_587, Q_NB588_630, Q_NB630_588, Q_NB595_630, Q_NB630_595, Q_NB596_630, Q_NB630_596, Q_NB603_630, Q_NB630_603, Q_NB604_630, Q_NB630_604, Q_NB611_630, Q_NB630_611, Q_NB612_630, Q_NB630_612, fun h0_ => absurd ((hoff 14 (by kernel_rfl)).symm.trans h0_) (by decide), fun h0_ => absurd ((hoff 15 (by kernel_rfl)).symm.trans h0_) (by decide), Q_X12_, Q_X13_⟩
                  refine steps_cons ?_ ?_
                  · rintro b a w' ⟨gb629, gb630, m12_, m13_, ha, Q_BK587, Q_BK588, Q_BK595, Q_BK596, Q_BK603, Q_BK604, Q_BK611, Q_BK612, Q_HB, Q_NB630_629, Q_NB629_630, Q_BK629, Q_GW629, Q_GE629, Q_NB587_629, Q_NB629_587, Q_NB588_629, Q_NB629_588, Q_NB595_629, Q_NB629_595, Q_NB596_629, Q_NB629_596, Q_NB603_629, Q_NB629_603, Q_NB604_629, Q_NB629_604, Q_NB611_629, Q_NB629_611, Q_NB612_629, Q_NB629_612, Q_BK630, Q_GW630, Q_GE630, Q_NB587_630, Q_NB630_587, Q_NB588_630, Q_NB630_588, Q_NB595_630, Q_NB630_595, Q_NB596_630, Q_NB630_596, Q_NB603_630, Q_NB630_603, Q_NB604_630, Q_NB630_604, Q_NB611_630, Q_NB630_611, Q_NB612_630, Q_NB630_612, Q_BK629_e14, Q_BK630_e15, Q_X12_, Q_X13_⟩ hb_ hon hoff
                    refine ⟨_, rfl, fun K hK => ?_⟩
                    have e89 : a.tmps[89]? = some (.tuple #[.agg #[.bool t623, .int .i64 t624, .int .i64 t625], .agg #[.bool t626, .int .i64 t627, .int .i64 t628]]) := by rw [ha]; exact putSel_on (e := (9, 89, .tuple #[.agg #[.bool t623, .int .i64 t624, .int .i64 t625], .agg #[.bool t626, .int .i64 t627, .int .i64 t628]])) 7 rfl rfl (hon 9 (by kernel_rfl)) rfl
                    replace ha := Aside0.mk ha
                    have BK587 := Bk.mk Q_BK587
                    have BK588 := Bk.mk Q_BK588
                    have BK595 := Bk.mk Q_BK595
                    have BK596 := Bk.mk Q_BK596
                    have BK603 := Bk.mk Q_BK603
                    have BK604 := Bk.mk Q_BK604
                    have BK611 := Bk.mk Q_BK611
                    have BK612 := Bk.mk Q_BK612
                    have HB := Bl.mk Q_HB
                    refine value_ (w1 := w') (v := .agg #[.bool t623, .int .i64 t624, .int .i64 t625]) (by rfl) rfl ?_ ?_
                    · go_simp
                      (try simp only [i64_w])
                      try rfl
                    refine hK.out _ _ ⟨gb629, gb630, m12_, m13_, (by rw [ha.out]; exact putSel_upk 8 hb_ rfl rfl rfl), Q_BK587, Q_BK588, Q_BK595, Q_BK596, Q_BK603, Q_BK604, Q_BK611, Q_BK612, Q_HB, Q_NB630_629, Q_NB629_630, Q_BK629, Q_GW629, Q_GE629, Q_NB587_629, Q_NB629_587, Q_NB588_629, Q_NB629_588, Q_NB595_629, Q_NB629_595, Q_NB596_629, Q_NB629_596, Q_NB603_629, Q_NB629_603, Q_NB604_629, Q_NB629_604, Q_NB611_629, Q_NB629_611, Q_NB612_629, Q_NB629_612, Q_BK630, Q_GW630, Q_GE630, Q_NB587_630, Q_NB630_587, Q_NB588_630, Q_NB630_588, Q_NB595_630, Q_NB630_595, Q_NB596_630, Q_NB630_596, Q_NB603_630, Q_NB630_603, Q_NB604_630, Q_NB630_604, Q_NB611_630, Q_NB630_611, Q_NB612_630, Q_NB630_612, fun h0_ => absurd ((hoff 14 (by kernel_rfl)).symm.trans h0_) (by decide), fun h0_ => absurd ((hoff 15 (by kernel_rfl)).symm.trans h0_) (by decide), Q_X12_, Q_X13_⟩
                  refine steps_cons ?_ ?_
                  · rintro b a w' ⟨gb629, gb630, m12_, m13_, ha, Q_BK587, Q_BK588, Q_BK595, Q_BK596, Q_BK603, Q_BK604, Q_BK611, Q_BK612, Q_HB, Q_NB630_629, Q_NB629_630, Q_BK629, Q_GW629, Q_GE629, Q_NB587_629, Q_NB629_587, Q_NB588_629, Q_NB629_588, Q_NB595_629, Q_NB629_595, Q_NB596_629, Q_NB629_596, Q_NB603_629, Q_NB629_603, Q_NB604_629, Q_NB629_604, Q_NB611_629, Q_NB629_611, Q_NB612_629, Q_NB629_612, Q_BK630, Q_GW630, Q_GE630, Q_NB587_630, Q_NB630_587, Q_NB588_630, Q_NB630_588, Q_NB595_630, Q_NB630_595, Q_NB596_630, Q_NB630_596, Q_NB603_630, Q_NB630_603, Q_NB604_630, Q_NB630_604, Q_NB611_630, Q_NB630_611, Q_NB612_630, Q_NB630_612, Q_BK629_e14, Q_BK630_e15, Q_X12_, Q_X13_⟩ hb_ hon hoff
                    refine ⟨_, rfl, fun K hK => ?_⟩
                    have e89 : a.tmps[89]? = some (.tuple #[.agg #[.bool t623, .int .i64 t624, .int .i64 t625], .agg #[.bool t626, .int .i64 t627, .int .i64 t628]]) := by rw [ha]; exact putSel_on (e := (9, 89, .tuple #[.agg #[.bool t623, .int .i64 t624, .int .i64 t625], .agg #[.bool t626, .int .i64 t627, .int .i64 t628]])) 7 rfl rfl (hon 9 (by kernel_rfl)) rfl
                    replace ha := Aside0.mk ha
                    have BK587 := Bk.mk Q_BK587
                    have BK588 := Bk.mk Q_BK588
                    have BK595 := Bk.mk Q_BK595
                    have BK596 := Bk.mk Q_BK596
                    have BK603 := Bk.mk Q_BK603
                    have BK604 := Bk.mk Q_BK604
                    have BK611 := Bk.mk Q_BK611
                    have BK612 := Bk.mk Q_BK612
                    have HB := Bl.mk Q_HB
                    refine value_ (w1 := w') (v := .agg #[.bool t626, .int .i64 t627, .int .i64 t628]) (by rfl) rfl ?_ ?_
                    · go_simp
                      (try simp only [i64_w])
                      try rfl
                    refine hK.out _ _ ⟨gb629, gb630, m12_, m13_, (by rw [ha.out]; exact putSel_upk 9 hb_ rfl rfl rfl), Q_BK587, Q_BK588, Q_BK595, Q_BK596, Q_BK603, Q_BK604, Q_BK611, Q_BK612, Q_HB, Q_NB630_629, Q_NB629_630, Q_BK629, Q_GW629, Q_GE629, Q_NB587_629, Q_NB629_587, Q_NB588_629, Q_NB629_588, Q_NB595_629, Q_NB629_595, Q_NB596_629, Q_NB629_596, Q_NB603_629, Q_NB629_603, Q_NB604_629, Q_NB629_604, Q_NB611_629, Q_NB629_611, Q_NB612_629, Q_NB629_612, Q_BK630, Q_GW630, Q_GE630, Q_NB587_630, Q_NB630_587, Q_NB588_630, Q_NB630_588, Q_NB595_630, Q_NB630_595, Q_NB596_630, Q_NB630_596, Q_NB603_630, Q_NB630_603, Q_NB604_630, Q_NB630_604, Q_NB611_630, Q_NB630_611, Q_NB612_630, Q_NB630_612, Q_BK629_e14, fun h0_ => absurd ((hoff 15 (by kernel_rfl)).symm.trans h0_) (by decide), Q_X12_, Q_X13_⟩
                  refine steps_cons ?_ ?_
                  · rintro b a w' ⟨gb629, gb630, m12_, m13_, ha, Q_BK587, Q_BK588, Q_BK595, Q_BK596, Q_BK603, Q_BK604, Q_BK611, Q_BK612, Q_HB, Q_NB630_629, Q_NB629_630, Q_BK629, Q_GW629, Q_GE629, Q_NB587_629, Q_NB629_587, Q_NB588_629, Q_NB629_588, Q_NB595_629, Q_NB629_595, Q_NB596_629, Q_NB629_596, Q_NB603_629, Q_NB629_603, Q_NB604_629, Q_NB629_604, Q_NB611_629, Q_NB629_611, Q_NB612_629, Q_NB629_612, Q_BK630, Q_GW630, Q_GE630, Q_NB587_630, Q_NB630_587, Q_NB588_630, Q_NB630_588, Q_NB595_630, Q_NB630_595, Q_NB596_630, Q_NB630_596, Q_NB603_630, Q_NB630_603, Q_NB604_630, Q_NB630_604, Q_NB611_630, Q_NB630_611, Q_NB612_630, Q_NB630_612, Q_BK629_e14, Q_BK630_e15, Q_X12_, Q_X13_⟩ hb_ hon hoff
                    refine ⟨_, rfl, fun K hK => ?_⟩
                    replace ha := Aside0.mk ha
                    have BK587 := Bk.mk Q_BK587
                    have BK588 := Bk.mk Q_BK588
                    have BK595 := Bk.mk Q_BK595
                    have BK596 := Bk.mk Q_BK596
                    have BK603 := Bk.mk Q_BK603
                    have BK604 := Bk.mk Q_BK604
                    have BK611 := Bk.mk Q_BK611
                    have BK612 := Bk.mk Q_BK612
                    have HB := Bl.mk Q_HB
                    refine box_step ?hg (N := 15) ?hd (cs := #[.bool false, .int .i64 0, .int .i64 0]) (t := 30) ?hr ?_; (case hd => rfl); (case hg => rfl); (case hr => first | (go_simp; done) | (go_simp; rfl))
                    intro gb629 hg w307 hbox hb
                    have n0_ := Bk.mk (blk_below (g := gb587) bk hb)
                    have n1_ := Bk.mk (blk_below (g := gb588) bk hb)
                    have n2_ := Bk.mk (blk_below (g := gb595) bk hb)
                    have n3_ := Bk.mk (blk_below (g := gb596) bk hb)
                    have n4_ := Bk.mk (blk_below (g := gb603) bk hb)
                    have n5_ := Bk.mk (blk_below (g := gb604) bk hb)
                    have n6_ := Bk.mk (blk_below (g := gb611) bk hb)
                    have n7_ := Bk.mk (blk_below (g := gb612) bk hb)
                    have n8_ := Bl.mk (below_step bl hb)
                    have n9_ := Bk.mk (hbox)
                    have n10_ := Aside0.mk ((by rw [hg]; exact (below_size bl) : w.heap.size ≤ gb629))
                    have n11_ := Gl.mk ((by rw [hg]; exact (below_size bl) : w.heap.size ≤ gb629))
                    have n12_ := Nb.mk ((by rw [hg]; exact Nat.ne_of_lt (blk_lt (g := gb587) bk) : gb587 ≠ gb629))
                    have n13_ := Nb.mk ((by rw [hg]; exact Nat.ne_of_gt (blk_lt (g := gb587) bk) : gb629 ≠ gb587))
                    have n14_ := Nb.mk ((by rw [hg]; exact Nat.ne_of_lt (blk_lt (g := gb588) bk) : gb588 ≠ gb629))
                    have n15_ := Nb.mk ((by rw [hg]; exact Nat.ne_of_gt (blk_lt (g := gb588) bk) : gb629 ≠ gb588))
                    have n16_ := Nb.mk ((by rw [hg]; exact Nat.ne_of_lt (blk_lt (g := gb595) bk) : gb595 ≠ gb629))
                    have n17_ := Nb.mk ((by rw [hg]; exact Nat.ne_of_gt (blk_lt (g := gb595) bk) : gb629 ≠ gb595))
                    have n18_ := Nb.mk ((by rw [hg]; exact Nat.ne_of_lt (blk_lt (g := gb596) bk) : gb596 ≠ gb629))
                    have n19_ := Nb.mk ((by rw [hg]; exact Nat.ne_of_gt (blk_lt (g := gb596) bk) : gb629 ≠ gb596))
                    have n20_ := Nb.mk ((by rw [hg]; exact Nat.ne_of_lt (blk_lt (g := gb603) bk) : gb603 ≠ gb629))
                    have n21_ := Nb.mk ((by rw [hg]; exact Nat.ne_of_gt (blk_lt (g := gb603) bk) : gb629 ≠ gb603))
                    have n22_ := Nb.mk ((by rw [hg]; exact Nat.ne_of_lt (blk_lt (g := gb604) bk) : gb604 ≠ gb629))
                    have n23_ := Nb.mk ((by rw [hg]; exact Nat.ne_of_gt (blk_lt (g := gb604) bk) : gb629 ≠ gb604))
                    have n24_ := Nb.mk ((by rw [hg]; exact Nat.ne_of_lt (blk_lt (g := gb611) bk) : gb611 ≠ gb629))
                    have n25_ := Nb.mk ((by rw [hg]; exact Nat.ne_of_gt (blk_lt (g := gb611) bk) : gb629 ≠ gb611))
                    have n26_ := Nb.mk ((by rw [hg]; exact Nat.ne_of_lt (blk_lt (g := gb612) bk) : gb612 ≠ gb629))
                    have n27_ := Nb.mk ((by rw [hg]; exact Nat.ne_of_gt (blk_lt (g := gb612) bk) : gb629 ≠ gb612))
                    have z_NB630_629 := fun (h0_ : up b 12 12 = true) (h1_ : up b 12 13 = true) => (show gb630 ≠ gb629 from ((by rw [hg]; exact Nat.ne_of_lt (blk_lt (g := gb630) (o := .cells #[.bool false, .int .i64 0, .int .i64 0] 30 (0, 0)) (Q_BK630 ((up_ne (by decide)).symm.trans h1_) (hoff 15 (by kernel_rfl)))) : gb630 ≠ gb629)))
                    have z_NB629_630 := fun (h0_ : up b 12 12 = true) (h1_ : up b 12 13 = true) => (show gb629 ≠ gb630 from ((by rw [hg]; exact Nat.ne_of_gt (blk_lt (g := gb630) (o := .cells #[.bool false, .int .i64 0, .int .i64 0] 30 (0, 0)) (Q_BK630 ((up_ne (by decide)).symm.trans h1_) (hoff 15 (by kernel_rfl)))) : gb629 ≠ gb630)))
                    have z_BK630 := fun (h0_ : b 13 = true) (h1_ : b 15 = false) => (show w307.heap[gb630]? = some (.cells #[.bool false, .int .i64 0, .int .i64 0] 30 (0, 0)) from by first | exact (blk_below (g := gb630) (o := .cells #[.bool false, .int .i64 0, .int .i64 0] 30 (0, 0)) (by (with_reducible repeat (first | refine blk_drewN ?_ _ | refine blk_drew ?_ | refine blk_alloc ?_ _)); exact (Q_BK630 h0_ h1_)) hb))
                    clear BK587
                    clear BK588
                    clear BK595
                    clear BK596
                    clear BK603
                    clear BK604
                    clear BK611
                    clear BK612
                    clear HB
                    have BK587 := n0_
                    have BK588 := n1_
                    have BK595 := n2_
                    have BK596 := n3_
                    have BK603 := n4_
                    have BK604 := n5_
                    have BK611 := n6_
                    have BK612 := n7_
                    have HB := n8_
                    have BK629 := n9_
                    have GW629 := n10_
                    have GE629 := n11_
                    have NB587_629 := n12_
                    have NB629_587 := n13_
                    have NB588_629 := n14_
                    have NB629_588 := n15_
                    have NB595_629 := n16_
                    have NB629_595 := n17_
                    have NB596_629 := n18_
                    have NB629_596 := n19_
                    have NB603_629 := n20_
                    have NB629_603 := n21_
                    have NB604_629 := n22_
                    have NB629_604 := n23_
                    have NB611_629 := n24_
                    have NB629_611 := n25_
                    have NB612_629 := n26_
                    have NB629_612 := n27_
                    clear n0_ n1_ n2_ n3_ n4_ n5_ n6_ n7_ n8_ n9_ n10_ n11_ n12_ n13_ n14_ n15_ n16_ n17_ n18_ n19_ n20_ n21_ n22_ n23_ n24_ n25_ n26_ n27_
                    clear hb hbox hg
                    refine hK.out _ _ ⟨gb629, gb630, (.pointer (some ⟨gb629, 0, none⟩)), m13_, (by rw [ha.out]; exact putSel_upk 10 hb_ rfl rfl rfl), bk, bk, bk, bk, bk, bk, bk, bk, bl, z_NB630_629, z_NB629_630, fun _ _ => bk, fun _ => GW629.out, fun _ => GE629.out, fun _ => NB587_629.out, fun _ => NB629_587.out, fun _ => NB588_629.out, fun _ => NB629_588.out, fun _ => NB595_629.out, fun _ => NB629_595.out, fun _ => NB596_629.out, fun _ => NB629_596.out, fun _ => NB603_629.out, fun _ => NB629_603.out, fun _ => NB604_629.out, fun _ => NB629_604.out, fun _ => NB611_629.out, fun _ => NB629_611.out, fun _ => NB612_629.out, fun _ => NB629_612.out, z_BK630, Q_GW630, Q_GE630, Q_NB587_630, Q_NB630_587, Q_NB588_630, Q_NB630_588, Q_NB595_630, Q_NB630_595, Q_NB596_630, Q_NB630_596, Q_NB603_630, Q_NB630_603, Q_NB604_630, Q_NB630_604, Q_NB611_630, Q_NB630_611, Q_NB612_630, Q_NB630_612, fun h0_ => absurd ((hoff 14 (by kernel_rfl)).symm.trans h0_) (by decide), fun h0_ => absurd ((hoff 15 (by kernel_rfl)).symm.trans h0_) (by decide), fun _ => rfl, Q_X13_⟩
                  refine steps_cons ?_ ?_
                  · rintro b a w' ⟨gb629, gb630, m12_, m13_, ha, Q_BK587, Q_BK588, Q_BK595, Q_BK596, Q_BK603, Q_BK604, Q_BK611, Q_BK612, Q_HB, Q_NB630_629, Q_NB629_630, Q_BK629, Q_GW629, Q_GE629, Q_NB587_629, Q_NB629_587, Q_NB588_629, Q_NB629_588, Q_NB595_629, Q_NB629_595, Q_NB596_629, Q_NB629_596, Q_NB603_629, Q_NB629_603, Q_NB604_629, Q_NB629_604, Q_NB611_629, Q_NB629_611, Q_NB612_629, Q_NB629_612, Q_BK630, Q_GW630, Q_GE630, Q_NB587_630, Q_NB630_587, Q_NB588_630, Q_NB630_588, Q_NB595_630, Q_NB630_595, Q_NB596_630, Q_NB630_596, Q_NB603_630, Q_NB630_603, Q_NB604_630, Q_NB630_604, Q_NB611_630, Q_NB630_611, Q_NB612_630, Q_NB630_612, Q_BK629_e14, Q_BK630_e15, Q_X12_, Q_X13_⟩ hb_ hon hoff
                    refine ⟨_, rfl, fun K hK => ?_⟩
                    replace ha := Aside0.mk ha
                    have BK587 := Bk.mk Q_BK587
                    have BK588 := Bk.mk Q_BK588
                    have BK595 := Bk.mk Q_BK595
                    have BK596 := Bk.mk Q_BK596
                    have BK603 := Bk.mk Q_BK603
                    have BK604 := Bk.mk Q_BK604
                    have BK611 := Bk.mk Q_BK611
                    have BK612 := Bk.mk Q_BK612
                    have HB := Bl.mk Q_HB
                    refine box_step ?hg (N := 16) ?hd (cs := #[.bool false, .int .i64 0, .int .i64 0]) (t := 30) ?hr ?_; (case hd => rfl); (case hg => rfl); (case hr => first | (go_simp; done) | (go_simp; rfl))
                    intro gb630 hg w307 hbox hb
                    have n0_ := Bk.mk (blk_below (g := gb587) bk hb)
                    have n1_ := Bk.mk (blk_below (g := gb588) bk hb)
                    have n2_ := Bk.mk (blk_below (g := gb595) bk hb)
                    have n3_ := Bk.mk (blk_below (g := gb596) bk hb)
                    have n4_ := Bk.mk (blk_below (g := gb603) bk hb)
                    have n5_ := Bk.mk (blk_below (g := gb604) bk hb)
                    have n6_ := Bk.mk (blk_below (g := gb611) bk hb)
                    have n7_ := Bk.mk (blk_below (g := gb612) bk hb)
                    have n8_ := Bl.mk (below_step bl hb)
                    have n9_ := Bk.mk (hbox)
                    have n10_ := Aside0.mk ((by rw [hg]; exact (below_size bl) : w.heap.size ≤ gb630))
                    have n11_ := Gl.mk ((by rw [hg]; exact (below_size bl) : w.heap.size ≤ gb630))
                    have n12_ := Nb.mk ((by rw [hg]; exact Nat.ne_of_lt (blk_lt (g := gb587) bk) : gb587 ≠ gb630))
                    have n13_ := Nb.mk ((by rw [hg]; exact Nat.ne_of_gt (blk_lt (g := gb587) bk) : gb630 ≠ gb587))
                    have n14_ := Nb.mk ((by rw [hg]; exact Nat.ne_of_lt (blk_lt (g := gb588) bk) : gb588 ≠ gb630))
                    have n15_ := Nb.mk ((by rw [hg]; exact Nat.ne_of_gt (blk_lt (g := gb588) bk) : gb630 ≠ gb588))
                    have n16_ := Nb.mk ((by rw [hg]; exact Nat.ne_of_lt (blk_lt (g := gb595) bk) : gb595 ≠ gb630))
                    have n17_ := Nb.mk ((by rw [hg]; exact Nat.ne_of_gt (blk_lt (g := gb595) bk) : gb630 ≠ gb595))
                    have n18_ := Nb.mk ((by rw [hg]; exact Nat.ne_of_lt (blk_lt (g := gb596) bk) : gb596 ≠ gb630))
                    have n19_ := Nb.mk ((by rw [hg]; exact Nat.ne_of_gt (blk_lt (g := gb596) bk) : gb630 ≠ gb596))
                    have n20_ := Nb.mk ((by rw [hg]; exact Nat.ne_of_lt (blk_lt (g := gb603) bk) : gb603 ≠ gb630))
                    have n21_ := Nb.mk ((by rw [hg]; exact Nat.ne_of_gt (blk_lt (g := gb603) bk) : gb630 ≠ gb603))
                    have n22_ := Nb.mk ((by rw [hg]; exact Nat.ne_of_lt (blk_lt (g := gb604) bk) : gb604 ≠ gb630))
                    have n23_ := Nb.mk ((by rw [hg]; exact Nat.ne_of_gt (blk_lt (g := gb604) bk) : gb630 ≠ gb604))
                    have n24_ := Nb.mk ((by rw [hg]; exact Nat.ne_of_lt (blk_lt (g := gb611) bk) : gb611 ≠ gb630))
                    have n25_ := Nb.mk ((by rw [hg]; exact Nat.ne_of_gt (blk_lt (g := gb611) bk) : gb630 ≠ gb611))
                    have n26_ := Nb.mk ((by rw [hg]; exact Nat.ne_of_lt (blk_lt (g := gb612) bk) : gb612 ≠ gb630))
                    have n27_ := Nb.mk ((by rw [hg]; exact Nat.ne_of_gt (blk_lt (g := gb612) bk) : gb630 ≠ gb612))
                    have z_NB630_629 := fun (h0_ : up b 13 12 = true) (h1_ : up b 13 13 = true) => (show gb630 ≠ gb629 from ((by rw [hg]; exact Nat.ne_of_gt (blk_lt (g := gb629) (o := .cells #[.bool false, .int .i64 0, .int .i64 0] 30 (0, 0)) (Q_BK629 ((up_ne (by decide)).symm.trans h0_) (hoff 14 (by kernel_rfl)))) : gb630 ≠ gb629)))
                    have z_NB629_630 := fun (h0_ : up b 13 12 = true) (h1_ : up b 13 13 = true) => (show gb629 ≠ gb630 from ((by rw [hg]; exact Nat.ne_of_lt (blk_lt (g := gb629) (o := .cells #[.bool false, .int .i64 0, .int .i64 0] 30 (0, 0)) (Q_BK629 ((up_ne (by decide)).symm.trans h0_) (hoff 14 (by kernel_rfl)))) : gb629 ≠ gb630)))
                    have z_BK629 := fun (h0_ : b 12 = true) (h1_ : b 14 = false) => (show w307.heap[gb629]? = some (.cells #[.bool false, .int .i64 0, .int .i64 0] 30 (0, 0)) from by first | exact (blk_below (g := gb629) (o := .cells #[.bool false, .int .i64 0, .int .i64 0] 30 (0, 0)) (by (with_reducible repeat (first | refine blk_drewN ?_ _ | refine blk_drew ?_ | refine blk_alloc ?_ _)); exact (Q_BK629 h0_ h1_)) hb))
                    clear BK587
                    clear BK588
                    clear BK595
                    clear BK596
                    clear BK603
                    clear BK604
                    clear BK611
                    clear BK612
                    clear HB
                    have BK587 := n0_
                    have BK588 := n1_
                    have BK595 := n2_
                    have BK596 := n3_
                    have BK603 := n4_
                    have BK604 := n5_
                    have BK611 := n6_
                    have BK612 := n7_
                    have HB := n8_
                    have BK630 := n9_
                    have GW630 := n10_
                    have GE630 := n11_
                    have NB587_630 := n12_
                    have NB630_587 := n13_
                    have NB588_630 := n14_
                    have NB630_588 := n15_
                    have NB595_630 := n16_
                    have NB630_595 := n17_
                    have NB596_630 := n18_
                    have NB630_596 := n19_
                    have NB603_630 := n20_
                    have NB630_603 := n21_
                    have NB604_630 := n22_
                    have NB630_604 := n23_
                    have NB611_630 := n24_
                    have NB630_611 := n25_
                    have NB612_630 := n26_
                    have NB630_612 := n27_
                    clear n0_ n1_ n2_ n3_ n4_ n5_ n6_ n7_ n8_ n9_ n10_ n11_ n12_ n13_ n14_ n15_ n16_ n17_ n18_ n19_ n20_ n21_ n22_ n23_ n24_ n25_ n26_ n27_
                    clear hb hbox hg
                    refine hK.out _ _ ⟨gb629, gb630, m12_, (.pointer (some ⟨gb630, 0, none⟩)), (by rw [ha.out]; exact putSel_upk 11 hb_ rfl rfl rfl), bk, bk, bk, bk, bk, bk, bk, bk, bl, z_NB630_629, z_NB629_630, z_BK629, Q_GW629, Q_GE629, Q_NB587_629, Q_NB629_587, Q_NB588_629, Q_NB629_588, Q_NB595_629, Q_NB629_595, Q_NB596_629, Q_NB629_596, Q_NB603_629, Q_NB629_603, Q_NB604_629, Q_NB629_604, Q_NB611_629, Q_NB629_611, Q_NB612_629, Q_NB629_612, fun _ _ => bk, fun _ => GW630.out, fun _ => GE630.out, fun _ => NB587_630.out, fun _ => NB630_587.out, fun _ => NB588_630.out, fun _ => NB630_588.out, fun _ => NB595_630.out, fun _ => NB630_595.out, fun _ => NB596_630.out, fun _ => NB630_596.out, fun _ => NB603_630.out, fun _ => NB630_603.out, fun _ => NB604_630.out, fun _ => NB630_604.out, fun _ => NB611_630.out, fun _ => NB630_611.out, fun _ => NB612_630.out, fun _ => NB630_612.out, fun h0_ => absurd ((hoff 14 (by kernel_rfl)).symm.trans h0_) (by decide), fun h0_ => absurd ((hoff 15 (by kernel_rfl)).symm.trans h0_) (by decide), Q_X12_, fun _ => rfl⟩
                  refine steps_cons ?_ ?_
                  · rintro b a w' ⟨gb629, gb630, m12_, m13_, ha, Q_BK587, Q_BK588, Q_BK595, Q_BK596, Q_BK603, Q_BK604, Q_BK611, Q_BK612, Q_HB, Q_NB630_629, Q_NB629_630, Q_BK629, Q_GW629, Q_GE629, Q_NB587_629, Q_NB629_587, Q_NB588_629, Q_NB629_588, Q_NB595_629, Q_NB629_595, Q_NB596_629, Q_NB629_596, Q_NB603_629, Q_NB629_603, Q_NB604_629, Q_NB629_604, Q_NB611_629, Q_NB629_611, Q_NB612_629, Q_NB629_612, Q_BK630, Q_GW630, Q_GE630, Q_NB587_630, Q_NB630_587, Q_NB588_630, Q_NB630_588, Q_NB595_630, Q_NB630_595, Q_NB596_630, Q_NB630_596, Q_NB603_630, Q_NB630_603, Q_NB604_630, Q_NB630_604, Q_NB611_630, Q_NB630_611, Q_NB612_630, Q_NB630_612, Q_BK629_e14, Q_BK630_e15, Q_X12_, Q_X13_⟩ hb_ hon hoff
                    refine ⟨_, rfl, fun K hK => ?_⟩
                    have e15 : a.tmps[15]? = some (m12_) := by rw [ha]; exact putSel_on (e := (12, 15, m12_)) 10 rfl rfl (hon 12 (by kernel_rfl)) rfl
                    rw [Q_X12_ (hon 12 (by kernel_rfl))] at e15
                    have e99 : a.tmps[99]? = some (.agg #[.bool t623, .int .i64 t624, .int .i64 t625]) := by rw [ha]; exact putSel_on (e := (10, 99, .agg #[.bool t623, .int .i64 t624, .int .i64 t625])) 8 rfl rfl (hon 10 (by kernel_rfl)) rfl
                    replace ha := Aside0.mk ha
                    have BK587 := Bk.mk Q_BK587
                    have BK588 := Bk.mk Q_BK588
                    have BK595 := Bk.mk Q_BK595
                    have BK596 := Bk.mk Q_BK596
                    have BK603 := Bk.mk Q_BK603
                    have BK604 := Bk.mk Q_BK604
                    have BK611 := Bk.mk Q_BK611
                    have BK612 := Bk.mk Q_BK612
                    have HB := Bl.mk Q_HB
                    have NB630_629 := Nb.mk (Q_NB630_629 (hon 12 (by kernel_rfl)) (hon 13 (by kernel_rfl)))
                    have NB629_630 := Nb.mk (Q_NB629_630 (hon 12 (by kernel_rfl)) (hon 13 (by kernel_rfl)))
                    have BK629 := Bk.mk (Q_BK629 (hon 12 (by kernel_rfl)) hb_)
                    have GW629 := Aside0.mk (Q_GW629 (hon 12 (by kernel_rfl)))
                    have GE629 := Gl.mk (Q_GE629 (hon 12 (by kernel_rfl)))
                    have NB587_629 := Nb.mk (Q_NB587_629 (hon 12 (by kernel_rfl)))
                    have NB629_587 := Nb.mk (Q_NB629_587 (hon 12 (by kernel_rfl)))
                    have NB588_629 := Nb.mk (Q_NB588_629 (hon 12 (by kernel_rfl)))
                    have NB629_588 := Nb.mk (Q_NB629_588 (hon 12 (by kernel_rfl)))
                    have NB595_629 := Nb.mk (Q_NB595_629 (hon 12 (by kernel_rfl)))
                    have NB629_595 := Nb.mk (Q_NB629_595 (hon 12 (by kernel_rfl)))
                    have NB596_629 := Nb.mk (Q_NB596_629 (hon 12 (by kernel_rfl)))
                    have NB629_596 := Nb.mk (Q_NB629_596 (hon 12 (by kernel_rfl)))
                    have NB603_629 := Nb.mk (Q_NB603_629 (hon 12 (by kernel_rfl)))
                    have NB629_603 := Nb.mk (Q_NB629_603 (hon 12 (by kernel_rfl)))
                    have NB604_629 := Nb.mk (Q_NB604_629 (hon 12 (by kernel_rfl)))
                    have NB629_604 := Nb.mk (Q_NB629_604 (hon 12 (by kernel_rfl)))
                    have NB611_629 := Nb.mk (Q_NB611_629 (hon 12 (by kernel_rfl)))
                    have NB629_611 := Nb.mk (Q_NB629_611 (hon 12 (by kernel_rfl)))
                    have NB612_629 := Nb.mk (Q_NB612_629 (hon 12 (by kernel_rfl)))
                    have NB629_612 := Nb.mk (Q_NB629_612 (hon 12 (by kernel_rfl)))
                    have BK630 := Bk.mk (Q_BK630 (hon 13 (by kernel_rfl)) (hoff 15 (by kernel_rfl)))
                    have GW630 := Aside0.mk (Q_GW630 (hon 13 (by kernel_rfl)))
                    have GE630 := Gl.mk (Q_GE630 (hon 13 (by kernel_rfl)))
                    have NB587_630 := Nb.mk (Q_NB587_630 (hon 13 (by kernel_rfl)))
                    have NB630_587 := Nb.mk (Q_NB630_587 (hon 13 (by kernel_rfl)))
                    have NB588_630 := Nb.mk (Q_NB588_630 (hon 13 (by kernel_rfl)))
                    have NB630_588 := Nb.mk (Q_NB630_588 (hon 13 (by kernel_rfl)))
                    have NB595_630 := Nb.mk (Q_NB595_630 (hon 13 (by kernel_rfl)))
                    have NB630_595 := Nb.mk (Q_NB630_595 (hon 13 (by kernel_rfl)))
                    have NB596_630 := Nb.mk (Q_NB596_630 (hon 13 (by kernel_rfl)))
                    have NB630_596 := Nb.mk (Q_NB630_596 (hon 13 (by kernel_rfl)))
                    have NB603_630 := Nb.mk (Q_NB603_630 (hon 13 (by kernel_rfl)))
                    have NB630_603 := Nb.mk (Q_NB630_603 (hon 13 (by kernel_rfl)))
                    have NB604_630 := Nb.mk (Q_NB604_630 (hon 13 (by kernel_rfl)))
                    have NB630_604 := Nb.mk (Q_NB630_604 (hon 13 (by kernel_rfl)))
                    have NB611_630 := Nb.mk (Q_NB611_630 (hon 13 (by kernel_rfl)))
                    have NB630_611 := Nb.mk (Q_NB630_611 (hon 13 (by kernel_rfl)))
                    have NB612_630 := Nb.mk (Q_NB612_630 (hon 13 (by kernel_rfl)))
                    have NB630_612 := Nb.mk (Q_NB630_612 (hon 13 (by kernel_rfl)))
                    have hs313 : w'.cell? ⟨gb629, 0, none⟩ = some (.bool false) := (blk_cell BK629.out 0).trans rfl
                    have hfs313 := blk_frozen BK629.out 0
                    have hns313_0 := NB587_629.out
                    have hns313_1 := NB588_629.out
                    have hns313_2 := NB595_629.out
                    have hns313_3 := NB596_629.out
                    have hns313_4 := NB603_629.out
                    have hns313_5 := NB604_629.out
                    have hns313_6 := NB611_629.out
                    have hns313_7 := NB612_629.out
                    have hns313_9 := NB630_629.out
                    have hms313_0 := NB629_587.out
                    have hms313_1 := NB629_588.out
                    have hms313_2 := NB629_595.out
                    have hms313_3 := NB629_596.out
                    have hms313_4 := NB629_603.out
                    have hms313_5 := NB629_604.out
                    have hms313_6 := NB629_611.out
                    have hms313_7 := NB629_612.out
                    have hms313_9 := NB629_630.out
                    have hs314 : w'.cell? ⟨gb629, 1, none⟩ = some (.int .i64 0) := (blk_cell BK629.out 1).trans rfl
                    have hfs314 := blk_frozen BK629.out 1
                    have hns314_0 := NB587_629.out
                    have hns314_1 := NB588_629.out
                    have hns314_2 := NB595_629.out
                    have hns314_3 := NB596_629.out
                    have hns314_4 := NB603_629.out
                    have hns314_5 := NB604_629.out
                    have hns314_6 := NB611_629.out
                    have hns314_7 := NB612_629.out
                    have hns314_9 := NB630_629.out
                    have hms314_0 := NB629_587.out
                    have hms314_1 := NB629_588.out
                    have hms314_2 := NB629_595.out
                    have hms314_3 := NB629_596.out
                    have hms314_4 := NB629_603.out
                    have hms314_5 := NB629_604.out
                    have hms314_6 := NB629_611.out
                    have hms314_7 := NB629_612.out
                    have hms314_9 := NB629_630.out
                    have hs315 : w'.cell? ⟨gb629, 2, none⟩ = some (.int .i64 0) := (blk_cell BK629.out 2).trans rfl
                    have hfs315 := blk_frozen BK629.out 2
                    have hns315_0 := NB587_629.out
                    have hns315_1 := NB588_629.out
                    have hns315_2 := NB595_629.out
                    have hns315_3 := NB596_629.out
                    have hns315_4 := NB603_629.out
                    have hns315_5 := NB604_629.out
                    have hns315_6 := NB611_629.out
                    have hns315_7 := NB612_629.out
                    have hns315_9 := NB630_629.out
                    have hms315_0 := NB629_587.out
                    have hms315_1 := NB629_588.out
                    have hms315_2 := NB629_595.out
                    have hms315_3 := NB629_596.out
                    have hms315_4 := NB629_603.out
                    have hms315_5 := NB629_604.out
                    have hms315_6 := NB629_611.out
                    have hms315_7 := NB629_612.out
                    have hms315_9 := NB629_630.out
                    refine skip_ (w1 := ?_) (by rfl) rfl ?_ ?_
                    rotate_left
                    · go_simp
                      rfl
                    refine hK.out _ _ ⟨gb629, gb630, m12_, m13_, (by rw [ha.out]; exact putSel_none (v := undef) rfl), bk, bk, bk, bk, bk, bk, bk, bk, bl, fun _ _ => NB630_629.out, fun _ _ => NB629_630.out, fun _ h1_ => absurd ((up_self b 14).symm.trans h1_) (by decide), fun _ => GW629.out, fun _ => GE629.out, fun _ => NB587_629.out, fun _ => NB629_587.out, fun _ => NB588_629.out, fun _ => NB629_588.out, fun _ => NB595_629.out, fun _ => NB629_595.out, fun _ => NB596_629.out, fun _ => NB629_596.out, fun _ => NB603_629.out, fun _ => NB629_603.out, fun _ => NB604_629.out, fun _ => NB629_604.out, fun _ => NB611_629.out, fun _ => NB629_611.out, fun _ => NB612_629.out, fun _ => NB629_612.out, fun _ _ => bk, fun _ => GW630.out, fun _ => GE630.out, fun _ => NB587_630.out, fun _ => NB630_587.out, fun _ => NB588_630.out, fun _ => NB630_588.out, fun _ => NB595_630.out, fun _ => NB630_595.out, fun _ => NB596_630.out, fun _ => NB630_596.out, fun _ => NB603_630.out, fun _ => NB630_603.out, fun _ => NB604_630.out, fun _ => NB630_604.out, fun _ => NB611_630.out, fun _ => NB630_611.out, fun _ => NB612_630.out, fun _ => NB630_612.out, fun _ => bk, fun h0_ => absurd ((hoff 15 (by kernel_rfl)).symm.trans h0_) (by decide), Q_X12_, Q_X13_⟩
                  refine steps_cons ?_ ?_
                  · rintro b a w' ⟨gb629, gb630, m12_, m13_, ha, Q_BK587, Q_BK588, Q_BK595, Q_BK596, Q_BK603, Q_BK604, Q_BK611, Q_BK612, Q_HB, Q_NB630_629, Q_NB629_630, Q_BK629, Q_GW629, Q_GE629, Q_NB587_629, Q_NB629_587, Q_NB588_629, Q_NB629_588, Q_NB595_629, Q_NB629_595, Q_NB596_629, Q_NB629_596, Q_NB603_629, Q_NB629_603, Q_NB604_629, Q_NB629_604, Q_NB611_629, Q_NB629_611, Q_NB612_629, Q_NB629_612, Q_BK630, Q_GW630, Q_GE630, Q_NB587_630, Q_NB630_587, Q_NB588_630, Q_NB630_588, Q_NB595_630, Q_NB630_595, Q_NB596_630, Q_NB630_596, Q_NB603_630, Q_NB630_603, Q_NB604_630, Q_NB630_604, Q_NB611_630, Q_NB630_611, Q_NB612_630, Q_NB630_612, Q_BK629_e14, Q_BK630_e15, Q_X12_, Q_X13_⟩ hb_ hon hoff
                    refine ⟨_, rfl, fun K hK => ?_⟩
                    have e16 : a.tmps[16]? = some (m13_) := by rw [ha]; exact putSel_on (e := (13, 16, m13_)) 11 rfl rfl (hon 13 (by kernel_rfl)) rfl
                    rw [Q_X13_ (hon 13 (by kernel_rfl))] at e16
                    have e100 : a.tmps[100]? = some (.agg #[.bool t626, .int .i64 t627, .int .i64 t628]) := by rw [ha]; exact putSel_on (e := (11, 100, .agg #[.bool t626, .int .i64 t627, .int .i64 t628])) 9 rfl rfl (hon 11 (by kernel_rfl)) rfl
                    replace ha := Aside0.mk ha
                    have BK587 := Bk.mk Q_BK587
                    have BK588 := Bk.mk Q_BK588
                    have BK595 := Bk.mk Q_BK595
                    have BK596 := Bk.mk Q_BK596
                    have BK603 := Bk.mk Q_BK603
                    have BK604 := Bk.mk Q_BK604
                    have BK611 := Bk.mk Q_BK611
                    have BK612 := Bk.mk Q_BK612
                    have HB := Bl.mk Q_HB
                    have NB630_629 := Nb.mk (Q_NB630_629 (hon 12 (by kernel_rfl)) (hon 13 (by kernel_rfl)))
                    have NB629_630 := Nb.mk (Q_NB629_630 (hon 12 (by kernel_rfl)) (hon 13 (by kernel_rfl)))
                    have GW629 := Aside0.mk (Q_GW629 (hon 12 (by kernel_rfl)))
                    have GE629 := Gl.mk (Q_GE629 (hon 12 (by kernel_rfl)))
                    have NB587_629 := Nb.mk (Q_NB587_629 (hon 12 (by kernel_rfl)))
                    have NB629_587 := Nb.mk (Q_NB629_587 (hon 12 (by kernel_rfl)))
                    have NB588_629 := Nb.mk (Q_NB588_629 (hon 12 (by kernel_rfl)))
                    have NB629_588 := Nb.mk (Q_NB629_588 (hon 12 (by kernel_rfl)))
                    have NB595_629 := Nb.mk (Q_NB595_629 (hon 12 (by kernel_rfl)))
                    have NB629_595 := Nb.mk (Q_NB629_595 (hon 12 (by kernel_rfl)))
                    have NB596_629 := Nb.mk (Q_NB596_629 (hon 12 (by kernel_rfl)))
                    have NB629_596 := Nb.mk (Q_NB629_596 (hon 12 (by kernel_rfl)))
                    have NB603_629 := Nb.mk (Q_NB603_629 (hon 12 (by kernel_rfl)))
                    have NB629_603 := Nb.mk (Q_NB629_603 (hon 12 (by kernel_rfl)))
                    have NB604_629 := Nb.mk (Q_NB604_629 (hon 12 (by kernel_rfl)))
                    have NB629_604 := Nb.mk (Q_NB629_604 (hon 12 (by kernel_rfl)))
                    have NB611_629 := Nb.mk (Q_NB611_629 (hon 12 (by kernel_rfl)))
                    have NB629_611 := Nb.mk (Q_NB629_611 (hon 12 (by kernel_rfl)))
                    have NB612_629 := Nb.mk (Q_NB612_629 (hon 12 (by kernel_rfl)))
                    have NB629_612 := Nb.mk (Q_NB629_612 (hon 12 (by kernel_rfl)))
                    have BK630 := Bk.mk (Q_BK630 (hon 13 (by kernel_rfl)) hb_)
                    have GW630 := Aside0.mk (Q_GW630 (hon 13 (by kernel_rfl)))
                    have GE630 := Gl.mk (Q_GE630 (hon 13 (by kernel_rfl)))
                    have NB587_630 := Nb.mk (Q_NB587_630 (hon 13 (by kernel_rfl)))
                    have NB630_587 := Nb.mk (Q_NB630_587 (hon 13 (by kernel_rfl)))
                    have NB588_630 := Nb.mk (Q_NB588_630 (hon 13 (by kernel_rfl)))
                    have NB630_588 := Nb.mk (Q_NB630_588 (hon 13 (by kernel_rfl)))
                    have NB595_630 := Nb.mk (Q_NB595_630 (hon 13 (by kernel_rfl)))
                    have NB630_595 := Nb.mk (Q_NB630_595 (hon 13 (by kernel_rfl)))
                    have NB596_630 := Nb.mk (Q_NB596_630 (hon 13 (by kernel_rfl)))
                    have NB630_596 := Nb.mk (Q_NB630_596 (hon 13 (by kernel_rfl)))
                    have NB603_630 := Nb.mk (Q_NB603_630 (hon 13 (by kernel_rfl)))
                    have NB630_603 := Nb.mk (Q_NB630_603 (hon 13 (by kernel_rfl)))
                    have NB604_630 := Nb.mk (Q_NB604_630 (hon 13 (by kernel_rfl)))
                    have NB630_604 := Nb.mk (Q_NB630_604 (hon 13 (by kernel_rfl)))
                    have NB611_630 := Nb.mk (Q_NB611_630 (hon 13 (by kernel_rfl)))
                    have NB630_611 := Nb.mk (Q_NB630_611 (hon 13 (by kernel_rfl)))
                    have NB612_630 := Nb.mk (Q_NB612_630 (hon 13 (by kernel_rfl)))
                    have NB630_612 := Nb.mk (Q_NB630_612 (hon 13 (by kernel_rfl)))
                    have BK629 := Bk.mk (Q_BK629_e14 (hon 14 (by kernel_rfl)))
                    have hs316 : w'.cell? ⟨gb630, 0, none⟩ = some (.bool false) := (blk_cell BK630.out 0).trans rfl
                    have hfs316 := blk_frozen BK630.out 0
                    have hns316_0 := NB587_630.out
                    have hns316_1 := NB588_630.out
                    have hns316_2 := NB595_630.out
                    have hns316_3 := NB596_630.out
                    have hns316_4 := NB603_630.out
                    have hns316_5 := NB604_630.out
                    have hns316_6 := NB611_630.out
                    have hns316_7 := NB612_630.out
                    have hns316_8 := NB629_630.out
                    have hms316_0 := NB630_587.out
                    have hms316_1 := NB630_588.out
                    have hms316_2 := NB630_595.out
                    have hms316_3 := NB630_596.out
                    have hms316_4 := NB630_603.out
                    have hms316_5 := NB630_604.out
                    have hms316_6 := NB630_611.out
                    have hms316_7 := NB630_612.out
                    have hms316_8 := NB630_629.out
                    have hs317 : w'.cell? ⟨gb630, 1, none⟩ = some (.int .i64 0) := (blk_cell BK630.out 1).trans rfl
                    have hfs317 := blk_frozen BK630.out 1
                    have hns317_0 := NB587_630.out
                    have hns317_1 := NB588_630.out
                    have hns317_2 := NB595_630.out
                    have hns317_3 := NB596_630.out
                    have hns317_4 := NB603_630.out
                    have hns317_5 := NB604_630.out
                    have hns317_6 := NB611_630.out
                    have hns317_7 := NB612_630.out
                    have hns317_8 := NB629_630.out
                    have hms317_0 := NB630_587.out
                    have hms317_1 := NB630_588.out
                    have hms317_2 := NB630_595.out
                    have hms317_3 := NB630_596.out
                    have hms317_4 := NB630_603.out
                    have hms317_5 := NB630_604.out
                    have hms317_6 := NB630_611.out
                    have hms317_7 := NB630_612.out
                    have hms317_8 := NB630_629.out
                    have hs318 : w'.cell? ⟨gb630, 2, none⟩ = some (.int .i64 0) := (blk_cell BK630.out 2).trans rfl
                    have hfs318 := blk_frozen BK630.out 2
                    have hns318_0 := NB587_630.out
                    have hns318_1 := NB588_630.out
                    have hns318_2 := NB595_630.out
                    have hns318_3 := NB596_630.out
                    have hns318_4 := NB603_630.out
                    have hns318_5 := NB604_630.out
                    have hns318_6 := NB611_630.out
                    have hns318_7 := NB612_630.out
                    have hns318_8 := NB629_630.out
                    have hms318_0 := NB630_587.out
                    have hms318_1 := NB630_588.out
                    have hms318_2 := NB630_595.out
                    have hms318_3 := NB630_596.out
                    have hms318_4 := NB630_603.out
                    have hms318_5 := NB630_604.out
                    have hms318_6 := NB630_611.out
                    have hms318_7 := NB630_612.out
                    have hms318_8 := NB630_629.out
                    refine skip_ (w1 := ?_) (by rfl) rfl ?_ ?_
                    rotate_left
                    · go_simp
                      rfl
                    refine hK.out _ _ ⟨gb629, gb630, m12_, m13_, (by rw [ha.out]; exact putSel_none (v := undef) rfl), bk, bk, bk, bk, bk, bk, bk, bk, bl, fun _ _ => NB630_629.out, fun _ _ => NB629_630.out, fun _ h1_ => absurd ((hon 14 (by kernel_rfl)).symm.trans h1_) (by decide), fun _ => GW629.out, fun _ => GE629.out, fun _ => NB587_629.out, fun _ => NB629_587.out, fun _ => NB588_629.out, fun _ => NB629_588.out, fun _ => NB595_629.out, fun _ => NB629_595.out, fun _ => NB596_629.out, fun _ => NB629_596.out, fun _ => NB603_629.out, fun _ => NB629_603.out, fun _ => NB604_629.out, fun _ => NB629_604.out, fun _ => NB611_629.out, fun _ => NB629_611.out, fun _ => NB612_629.out, fun _ => NB629_612.out, fun _ h1_ => absurd ((up_self b 15).symm.trans h1_) (by decide), fun _ => GW630.out, fun _ => GE630.out, fun _ => NB587_630.out, fun _ => NB630_587.out, fun _ => NB588_630.out, fun _ => NB630_588.out, fun _ => NB595_630.out, fun _ => NB630_595.out, fun _ => NB596_630.out, fun _ => NB630_596.out, fun _ => NB603_630.out, fun _ => NB630_603.out, fun _ => NB604_630.out, fun _ => NB630_604.out, fun _ => NB611_630.out, fun _ => NB630_611.out, fun _ => NB612_630.out, fun _ => NB630_612.out, fun _ => bk, fun _ => bk, Q_X12_, Q_X13_⟩
                  exact steps_nil
                rintro b a w318 hall ⟨gb629, gb630, m12_, m13_, ha, Q_BK587, Q_BK588, Q_BK595, Q_BK596, Q_BK603, Q_BK604, Q_BK611, Q_BK612, Q_HB, Q_NB630_629, Q_NB629_630, Q_BK629, Q_GW629, Q_GE629, Q_NB587_629, Q_NB629_587, Q_NB588_629, Q_NB629_588, Q_NB595_629, Q_NB629_595, Q_NB596_629, Q_NB629_596, Q_NB603_629, Q_NB629_603, Q_NB604_629, Q_NB629_604, Q_NB611_629, Q_NB629_611, Q_NB612_629, Q_NB629_612, Q_BK630, Q_GW630, Q_GE630, Q_NB587_630, Q_NB630_587, Q_NB588_630, Q_NB630_588, Q_NB595_630, Q_NB630_595, Q_NB596_630, Q_NB630_596, Q_NB603_630, Q_NB630_603, Q_NB604_630, Q_NB630_604, Q_NB611_630, Q_NB630_611, Q_NB612_630, Q_NB630_612, Q_BK629_e14, Q_BK630_e15, Q_X12_, Q_X13_⟩
                clear BK587 BK588 BK595 BK596 BK603 BK604 BK611 BK612 HB
                have hb1_ := hall 1 (by kernel_rfl)
                have hb2_ := hall 2 (by kernel_rfl)
                have hb3_ := hall 3 (by kernel_rfl)
                have hb4_ := hall 4 (by kernel_rfl)
                have hb5_ := hall 5 (by kernel_rfl)
                have hb6_ := hall 6 (by kernel_rfl)
                have hb8_ := hall 8 (by kernel_rfl)
                have hb9_ := hall 9 (by kernel_rfl)
                have hb10_ := hall 10 (by kernel_rfl)
                have hb11_ := hall 11 (by kernel_rfl)
                have hb12_ := hall 12 (by kernel_rfl)
                have hb13_ := hall 13 (by kernel_rfl)
                have hb14_ := hall 14 (by kernel_rfl)
                have hb15_ := hall 15 (by kernel_rfl)
                subst ha
                obtain rfl := Q_X12_ hb12_
                obtain rfl := Q_X13_ hb13_
                simp only [putSel, hb1_, hb2_, hb3_, hb4_, hb5_, hb6_, hb8_, hb9_, hb10_, hb11_, hb12_, hb13_, hb14_, hb15_, if_true, Act.put, List.setIfInBounds_toArray, List.set_cons_zero, List.set_cons_succ]
                have BK587 := Bk.mk Q_BK587
                clear Q_BK587
                have BK588 := Bk.mk Q_BK588
                clear Q_BK588
                have BK595 := Bk.mk Q_BK595
                clear Q_BK595
                have BK596 := Bk.mk Q_BK596
                clear Q_BK596
                have BK603 := Bk.mk Q_BK603
                clear Q_BK603
                have BK604 := Bk.mk Q_BK604
                clear Q_BK604
                have BK611 := Bk.mk Q_BK611
                clear Q_BK611
                have BK612 := Bk.mk Q_BK612
                clear Q_BK612
                have HB := Bl.mk Q_HB
                clear Q_HB
                have NB630_629 := Nb.mk (Q_NB630_629 hb12_ hb13_)
                clear Q_NB630_629
                have NB629_630 := Nb.mk (Q_NB629_630 hb12_ hb13_)
                clear Q_NB629_630
                clear Q_BK629
                have GW629 := Aside0.mk (Q_GW629 hb12_)
                clear Q_GW629
                have GE629 := Gl.mk (Q_GE629 hb12_)
                clear Q_GE629
                have NB587_629 := Nb.mk (Q_NB587_629 hb12_)
                clear Q_NB587_629
                have NB629_587 := Nb.mk (Q_NB629_587 hb12_)
                clear Q_NB629_587
                have NB588_629 := Nb.mk (Q_NB588_629 hb12_)
                clear Q_NB588_629
                have NB629_588 := Nb.mk (Q_NB629_588 hb12_)
                clear Q_NB629_588
                have NB595_629 := Nb.mk (Q_NB595_629 hb12_)
                clear Q_NB595_629
                have NB629_595 := Nb.mk (Q_NB629_595 hb12_)
                clear Q_NB629_595
                have NB596_629 := Nb.mk (Q_NB596_629 hb12_)
                clear Q_NB596_629
                have NB629_596 := Nb.mk (Q_NB629_596 hb12_)
                clear Q_NB629_596
                have NB603_629 := Nb.mk (Q_NB603_629 hb12_)
                clear Q_NB603_629
                have NB629_603 := Nb.mk (Q_NB629_603 hb12_)
                clear Q_NB629_603
                have NB604_629 := Nb.mk (Q_NB604_629 hb12_)
                clear Q_NB604_629
                have NB629_604 := Nb.mk (Q_NB629_604 hb12_)
                clear Q_NB629_604
                have NB611_629 := Nb.mk (Q_NB611_629 hb12_)
                clear Q_NB611_629
                have NB629_611 := Nb.mk (Q_NB629_611 hb12_)
                clear Q_NB629_611
                have NB612_629 := Nb.mk (Q_NB612_629 hb12_)
                clear Q_NB612_629
                have NB629_612 := Nb.mk (Q_NB629_612 hb12_)
                clear Q_NB629_612
                clear Q_BK630
                have GW630 := Aside0.mk (Q_GW630 hb13_)
                clear Q_GW630
                have GE630 := Gl.mk (Q_GE630 hb13_)
                clear Q_GE630
                have NB587_630 := Nb.mk (Q_NB587_630 hb13_)
                clear Q_NB587_630
                have NB630_587 := Nb.mk (Q_NB630_587 hb13_)
                clear Q_NB630_587
                have NB588_630 := Nb.mk (Q_NB588_630 hb13_)
                clear Q_NB588_630
                have NB630_588 := Nb.mk (Q_NB630_588 hb13_)
                clear Q_NB630_588
                have NB595_630 := Nb.mk (Q_NB595_630 hb13_)
                clear Q_NB595_630
                have NB630_595 := Nb.mk (Q_NB630_595 hb13_)
                clear Q_NB630_595
                have NB596_630 := Nb.mk (Q_NB596_630 hb13_)
                clear Q_NB596_630
                have NB630_596 := Nb.mk (Q_NB630_596 hb13_)
                clear Q_NB630_596
                have NB603_630 := Nb.mk (Q_NB603_630 hb13_)
                clear Q_NB603_630
                have NB630_603 := Nb.mk (Q_NB630_603 hb13_)
                clear Q_NB630_603
                have NB604_630 := Nb.mk (Q_NB604_630 hb13_)
                clear Q_NB604_630
                have NB630_604 := Nb.mk (Q_NB630_604 hb13_)
                clear Q_NB630_604
                have NB611_630 := Nb.mk (Q_NB611_630 hb13_)
                clear Q_NB611_630
                have NB630_611 := Nb.mk (Q_NB630_611 hb13_)
                clear Q_NB630_611
                have NB612_630 := Nb.mk (Q_NB612_630 hb13_)
                clear Q_NB612_630
                have NB630_612 := Nb.mk (Q_NB630_612 hb13_)
                clear Q_NB630_612
                have BK629 := Bk.mk (Q_BK629_e14 hb14_)
                clear Q_BK629_e14
                have BK630 := Bk.mk (Q_BK630_e15 hb15_)
                clear Q_BK630_e15
                clear hall hb1_ hb2_ hb3_ hb4_ hb5_ hb6_ hb8_ hb9_ hb10_ hb11_ hb12_ hb13_ hb14_ hb15_
                have hcz328_0 := bc0 BK603.out
                have hcz328_1 := bc1 BK603.out
                have hcz328_2 := bc2 BK603.out
                have hfz328_0 := blk_frozen BK603.out 0
                have hfz328_1 := blk_frozen BK603.out 1
                have hfz328_2 := blk_frozen BK603.out 2
                have hcz337_0 := bc0 BK629.out
                have hcz337_1 := bc1 BK629.out
                have hcz337_2 := bc2 BK629.out
                have hfz337_0 := blk_frozen BK629.out 0
                have hfz337_1 := blk_frozen BK629.out 1
                have hfz337_2 := blk_frozen BK629.out 2
                try go_wp2_with (first | ((with_reducible refine gate_callee (f := 26) rfl ?_); refine goesL_ (some 103) rfl rfl Try.func26 (by kernel_rfl) rfl #[.agg #[.bool t597, .int .i64 t598, .int .i64 t599], .agg #[.bool t623, .int .i64 t624, .int .i64 t625]] rfl (by (try simp only [List.map_toArray, List.map_cons, List.map_nil]); first | done | rfl | (simp only [List.length_drop, List.length_take]; rfl)) ?_; (with_reducible refine (impl_SpanIn.calls t597 t598 t599 t623 t624 t625 true _ A303.out).mono ?_); rintro e w338 ⟨rfl, hb⟩; refine ⟨_, rfl, ?_⟩; have n0_ := Bk.mk (blk_below (g := gb587) bk hb); have n1_ := Bk.mk (blk_below (g := gb588) bk hb); have n2_ := Bk.mk (blk_below (g := gb595) bk hb); have n3_ := Bk.mk (blk_below (g := gb596) bk hb); have n4_ := Bk.mk (blk_below (g := gb603) bk hb); have n5_ := Bk.mk (blk_below (g := gb604) bk hb); have n6_ := Bk.mk (blk_below (g := gb611) bk hb); have n7_ := Bk.mk (blk_below (g := gb612) bk hb); have n8_ := Bk.mk (blk_below (g := gb629) bk hb); have n9_ := Bk.mk (blk_below (g := gb630) bk hb); have n10_ := Bl.mk (below_step bl hb); clear BK587; clear BK588; clear BK595; clear BK596; clear BK603; clear BK604; clear BK611; clear BK612; clear BK629; clear BK630; clear HB; have BK587 := n0_; have BK588 := n1_; have BK595 := n2_; have BK596 := n3_; have BK603 := n4_; have BK604 := n5_; have BK611 := n6_; have BK612 := n7_; have BK629 := n8_; have BK630 := n9_; have HB := n10_; clear n0_ n1_ n2_ n3_ n4_ n5_ n6_ n7_ n8_ n9_ n10_; (try clear hb); (try clear hb2); (try clear hk); (try clear hi); have hnb339 := NB604_587.out; have hnc339 := NB587_604.out; have hnb340 := NB604_588.out; have hnc340 := NB588_604.out; have hnb341 := NB604_595.out; have hnc341 := NB595_604.out; have hnb342 := NB604_596.out; have hnc342 := NB596_604.out; have hnb343 := NB604_611.out; have hnc343 := NB611_604.out; have hnb344 := NB604_612.out; have hnc344 := NB612_604.out; have hnb345 := NB604_630.out; have hnc345 := NB630_604.out; have hcz346_0 := bc0 BK604.out; have hcz346_1 := bc1 BK604.out; have hcz346_2 := bc2 BK604.out; have hfz346_0 := blk_frozen BK604.out 0; have hfz346_1 := blk_frozen BK604.out 1; have hfz346_2 := blk_frozen BK604.out 2; have hnb347 := NB630_587.out; have hnc347 := NB587_630.out; have hnb348 := NB630_588.out; have hnc348 := NB588_630.out; have hnb349 := NB630_595.out; have hnc349 := NB595_630.out; have hnb350 := NB630_596.out; have hnc350 := NB596_630.out; have hnb351 := NB630_611.out; have hnc351 := NB611_630.out; have hnb352 := NB630_612.out; have hnc352 := NB612_630.out; have hcz353_0 := bc0 BK630.out; have hcz353_1 := bc1 BK630.out; have hcz353_2 := bc2 BK630.out; have hfz353_0 := blk_frozen BK630.out 0; have hfz353_1 := blk_frozen BK630.out 1; have hfz353_2 := blk_frozen BK630.out 2) | (go_at_call 26; (with_reducible refine (impl_SpanIn.calls t600 t601 t602 t626 t627 t628 t632 _ A305.out).mono ?_); rintro e w354 ⟨rfl, hb⟩; have n0_ := Bk.mk (blk_below (g := gb587) bk hb); have n1_ := Bk.mk (blk_below (g := gb588) bk hb); have n2_ := Bk.mk (blk_below (g := gb595) bk hb); have n3_ := Bk.mk (blk_below (g := gb596) bk hb); have n4_ := Bk.mk (blk_below (g := gb603) bk hb); have n5_ := Bk.mk (blk_below (g := gb604) bk hb); have n6_ := Bk.mk (blk_below (g := gb611) bk hb); have n7_ := Bk.mk (blk_below (g := gb612) bk hb); have n8_ := Bk.mk (blk_below (g := gb629) bk hb); have n9_ := Bk.mk (blk_below (g := gb630) bk hb); have n10_ := Bl.mk (below_step bl hb); clear BK587; clear BK588; clear BK595; clear BK596; clear BK603; clear BK604; clear BK611; clear BK612; clear BK629; clear BK630; clear HB; have BK587 := n0_; have BK588 := n1_; have BK595 := n2_; have BK596 := n3_; have BK603 := n4_; have BK604 := n5_; have BK611 := n6_; have BK612 := n7_; have BK629 := n8_; have BK630 := n9_; have HB := n10_; clear n0_ n1_ n2_ n3_ n4_ n5_ n6_ n7_ n8_ n9_ n10_; (try clear hb); (try clear hb2); (try clear hk); (try clear hi)))
                go_ret
                exact ⟨by first | rfl | (simp [errW_none, errW_some] <;> rfl) | (simp [*, errW_none, errW_some] <;> rfl), bl⟩
              · replace c304 := Bool.eq_false_iff.mpr c304
                subst c304
                rw [if_neg (show ¬ (false = true) by decide)] at H
                obtain rfl := Option.some.inj H
                try go_wp2
                have n0_ := Bk.mk (blk_drew BK587.out)
                have n1_ := Bk.mk (blk_drew BK588.out)
                have n2_ := Bk.mk (blk_drew BK595.out)
                have n3_ := Bk.mk (blk_drew BK596.out)
                have n4_ := Bk.mk (blk_drew BK603.out)
                have n5_ := Bk.mk (blk_drew BK604.out)
                have n6_ := Bk.mk (blk_drew BK611.out)
                have n7_ := Bk.mk (blk_drew BK612.out)
                have n8_ := Bl.mk (below_drew1 HB.out)
                clear BK587
                clear BK588
                clear BK595
                clear BK596
                clear BK603
                clear BK604
                clear BK611
                clear BK612
                clear HB
                have BK587 := n0_
                have BK588 := n1_
                have BK595 := n2_
                have BK596 := n3_
                have BK603 := n4_
                have BK604 := n5_
                have BK611 := n6_
                have BK612 := n7_
                have HB := n8_
                clear n0_ n1_ n2_ n3_ n4_ n5_ n6_ n7_ n8_
                refine start_ (n := 16) (S := fun w' => True) (ds := []) #[false, false, false, false, false, false, false, false, false, false, false, false, false, false, false, false] (by kernel_rfl) rfl rfl trivial (fun hHeld => ?_); refine with_tabW laws_FnWhenMore.tab9 laws_FnWhenMore.bits9 (fun HT_ HW_ => ?_)
                generalize wc.drew = w355 at BK587 BK588 BK595 BK596 BK603 BK604 BK611 BK612 HB hHeld ⊢
                refine pure_ (i := 0) (N := some 90) (v := ?_) (a' := ?_) #[true, false, false, false, false, false, false, false, false, false, false, false, false, false, false, false] rfl rfl (any_of HT_.out (by kernel_rfl)) (fun _ _ _ h => h) (Or.inl ⟨by rfl, ?_⟩) ?_ ?_
                rotate_left
                · intro w'
                  go_simp
                  with_reducible rfl
                rotate_left
                · simp only [Act.put, List.setIfInBounds_toArray, List.set_cons_zero, List.set_cons_succ, i64_w, i32_w]
                  rfl
                refine pure_ (i := 7) (N := some 97) (v := ?_) (a' := ?_) #[true, false, false, false, false, false, false, true, false, false, false, false, false, false, false, false] rfl rfl (any_of HT_.out (by kernel_rfl)) (fun _ _ _ h => h) (Or.inl ⟨by rfl, ?_⟩) ?_ ?_
                rotate_left
                · intro w'
                  go_simp
                  with_reducible rfl
                rotate_left
                · simp only [Act.put, List.setIfInBounds_toArray, List.set_cons_zero, List.set_cons_succ, i64_w, i32_w]
                  rfl
                refine inv_at [1, 2, 3, 4, 5, 6, 8, 9, 10, 11, 12, 13, 14, 15] (fun a0_ b a w' => ∃ (gb629 : Nat) (gb630 : Nat) (m12_ : Value) (m13_ : Value), a = putSel a0_ b [(1, 91, .agg #[.bool t580, .int .i64 t581, .int .i64 t582]), (2, 92, .agg #[.bool t589, .int .i64 t590, .int .i64 t591]), (3, 93, .agg #[.bool t617, .int .i64 t618, .int .i64 t619]), (4, 94, .agg #[.bool t583, .int .i64 t584, .int .i64 t585]), (5, 95, .agg #[.bool t592, .int .i64 t593, .int .i64 t594]), (6, 96, .agg #[.bool t620, .int .i64 t621, .int .i64 t622]), (8, 98, .tuple #[.agg #[.bool t623, .int .i64 t624, .int .i64 t625], .agg #[.bool t626, .int .i64 t627, .int .i64 t628]]), (9, 89, .tuple #[.agg #[.bool t623, .int .i64 t624, .int .i64 t625], .agg #[.bool t626, .int .i64 t627, .int .i64 t628]]), (10, 99, .agg #[.bool t623, .int .i64 t624, .int .i64 t625]), (11, 100, .agg #[.bool t626, .int .i64 t627, .int .i64 t628]), (12, 15, m12_), (13, 16, m13_)] ∧ (w'.heap[gb587]? = some (.cells #[.bool t580, .int .i64 t581, .int .i64 t582] 30 (0, 0))) ∧ (w'.heap[gb588]? = some (.cells #[.bool t583, .int .i64 t584, .int .i64 t585] 30 (0, 0))) ∧ (w'.heap[gb595]? = some (.cells #[.bool t589, .int .i64 t590, .int .i64 t591] 30 (0, 0))) ∧ (w'.heap[gb596]? = some (.cells #[.bool t592, .int .i64 t593, .int .i64 t594] 30 (0, 0))) ∧ (w'.heap[gb603]? = some (.cells #[.bool t597, .int .i64 t598, .int .i64 t599] 30 (0, 0))) ∧ (w'.heap[gb604]? = some (.cells #[.bool t600, .int .i64 t601, .int .i64 t602] 30 (0, 0))) ∧ (w'.heap[gb611]? = some (.cells #[.bool t605, .int .i64 t606, .int .i64 t607] 30 (0, 0))) ∧ (w'.heap[gb612]? = some (.cells #[.bool t608, .int .i64 t609, .int .i64 t610] 30 (0, 0))) ∧ (Below w.heap.size w w') ∧ (b 12 = true → b 13 = true → gb630 ≠ gb629) ∧ (b 12 = true → b 13 = true → gb629 ≠ gb630) ∧ (b 12 = true → b 14 = false → w'.heap[gb629]? = some (.cells #[.bool false, .int .i64 0, .int .i64 0] 30 (0, 0))) ∧ (b 12 = true → w.heap.size ≤ gb629) ∧ (b 12 = true → w.heap.size ≤ gb629) ∧ (b 12 = true → gb587 ≠ gb629) ∧ (b 12 = true → gb629 ≠ gb587) ∧ (b 12 = true → gb588 ≠ gb629) ∧ (b 12 = true → gb629 ≠ gb588) ∧ (b 12 = true → gb595 ≠ gb629) ∧ (b 12 = true → gb629 ≠ gb595) ∧ (b 12 = true → gb596 ≠ gb629) ∧ (b 12 = true → gb629 ≠ gb596) ∧ (b 12 = true → gb603 ≠ gb629) ∧ (b 12 = true → gb629 ≠ gb603) ∧ (b 12 = true → gb604 ≠ gb629) ∧ (b 12 = true → gb629 ≠ gb604) ∧ (b 12 = true → gb611 ≠ gb629) ∧ (b 12 = true → gb629 ≠ gb611) ∧ (b 12 = true → gb612 ≠ gb629) ∧ (b 12 = true → gb629 ≠ gb612) ∧ (b 13 = true → b 15 = false → w'.heap[gb630]? = some (.cells #[.bool false, .int .i64 0, .int .i64 0] 30 (0, 0))) ∧ (b 13 = true → w.heap.size ≤ gb630) ∧ (b 13 = true → w.heap.size ≤ gb630) ∧ (b 13 = true → gb587 ≠ gb630) ∧ (b 13 = true → gb630 ≠ gb587) ∧ (b 13 = true → gb588 ≠ gb630) ∧ (b 13 = true → gb630 ≠ gb588) ∧ (b 13 = true → gb595 ≠ gb630) ∧ (b 13 = true → gb630 ≠ gb595) ∧ (b 13 = true → gb596 ≠ gb630) ∧ (b 13 = true → gb630 ≠ gb596) ∧ (b 13 = true → gb603 ≠ gb630) ∧ (b 13 = true → gb630 ≠ gb603) ∧ (b 13 = true → gb604 ≠ gb630) ∧ (b 13 = true → gb630 ≠ gb604) ∧ (b 13 = true → gb611 ≠ gb630) ∧ (b 13 = true → gb630 ≠ gb611) ∧ (b 13 = true → gb612 ≠ gb630) ∧ (b 13 = true → gb630 ≠ gb612) ∧ (b 14 = true → w'.heap[gb629]? = some (.cells #[.bool t623, .int .i64 t624, .int .i64 t625] 30 (0, 0))) ∧ (b 15 = true → w'.heap[gb630]? = some (.cells #[.bool t626, .int .i64 t627, .int .i64 t628] 30 (0, 0))) ∧ (b 12 = true → (m12_ : Value) = .pointer (some ⟨gb629, 0, none⟩)) ∧ (b 13 = true → (m13_ : Value) = .pointer (some ⟨gb630, 0, none⟩))) HT_.out HW_.out (by kernel_rfl) (by kernel_rfl) ?_ ?_ ?_
                · exact ⟨0, 0, .bool false, .bool false, by simp only [putSel, Bool.false_eq_true, if_false], BK587.out, BK588.out, BK595.out, BK596.out, BK603.out, BK604.out, BK611.out, BK612.out, HB.out, fun h_ => absurd h_ (by decide), fun h_ => absurd h_ (by decide), fun h_ => absurd h_ (by decide), fun h_ => absurd h_ (by decide), fun h_ => absurd h_ (by decide), fun h_ => absurd h_ (by decide), fun h_ => absurd h_ (by decide), fun h_ => absurd h_ (by decide), fun h_ => absurd h_ (by decide), fun h_ => absurd h_ (by decide), fun h_ => absurd h_ (by decide), fun h_ => absurd h_ (by decide), fun h_ => absurd h_ (by decide), fun h_ => absurd h_ (by decide), fun h_ => absurd h_ (by decide), fun h_ => absurd h_ (by decide), fun h_ => absurd h_ (by decide), fun h_ => absurd h_ (by decide), fun h_ => absurd h_ (by decide), fun h_ => absurd h_ (by decide), fun h_ => absurd h_ (by decide), fun h_ => absurd h_ (by decide), fun h_ => absurd h_ (by decide), fun h_ => absurd h_ (by decide), fun h_ => absurd h_ (by decide), fun h_ => absurd h_ (by decide), fun h_ => absurd h_ (by decide), fun h_ => absurd h_ (by decide), fun h_ => absurd h_ (by decide), fun h_ => absurd h_ (by decide), fun h_ => absurd h_ (by decide), fun h_ => absurd h_ (by decide), fun h_ => absurd h_ (by decide), fun h_ => absurd h_ (by decide), fun h_ => absurd h_ (by decide), fun h_ => absurd h_ (by decide), fun h_ => absurd h_ (by decide), fun h_ => absurd h_ (by decide), fun h_ => absurd h_ (by decide), fun h_ => absurd h_ (by decide), fun h_ => absurd h_ (by decide), fun h_ => absurd h_ (by decide), fun h_ => absurd h_ (by decide), fun h_ => absurd h_ (by decide)⟩
                · skip
                  clear BK587 BK588 BK595 BK596 BK603 BK604 BK611 BK612 HB
                  refine steps_cons ?_ ?_
                  · rintro b a w' ⟨gb629, gb630, m12_, m13_, ha, Q_BK587, Q_BK588, Q_BK595, Q_BK596, Q_BK603, Q_BK604, Q_BK611, Q_BK612, Q_HB, Q_NB630_629, Q_NB629_630, Q_BK629, Q_GW629, Q_GE629, Q_NB587_629, Q_NB629_587, Q_NB588_629, Q_NB629_588, Q_NB595_629, Q_NB629_595, Q_NB596_629, Q_NB629_596, Q_NB603_629, Q_NB629_603, Q_NB604_629, Q_NB629_604, Q_NB611_629, Q_NB629_611, Q_NB612_629, Q_NB629_612, Q_BK630, Q_GW630, Q_GE630, Q_NB587_630, Q_NB630_587, Q_NB588_630, Q_NB630_588, Q_NB595_630, Q_NB630_595, Q_NB596_630, Q_NB630_596, Q_NB603_630, Q_NB630_603, Q_NB604_630, Q_NB630_604, Q_NB611_630, Q_NB630_611, Q_NB612_630, Q_NB630_612, Q_BK629_e14, Q_BK630_e15, Q_X12_, Q_X13_⟩ hb_ hon hoff
                    refine ⟨_, rfl, fun K hK => ?_⟩
                    have e6 : a.tmps[6]? = some (.pointer (some ⟨gb587, 0, none⟩)) := by rw [ha]; exact (putSel_off rfl).trans rfl
                    replace ha := Aside0.mk ha
                    have BK587 := Bk.mk Q_BK587
                    have BK588 := Bk.mk Q_BK588
                    have BK595 := Bk.mk Q_BK595
                    have BK596 := Bk.mk Q_BK596
                    have BK603 := Bk.mk Q_BK603
                    have BK604 := Bk.mk Q_BK604
                    have BK611 := Bk.mk Q_BK611
                    have BK612 := Bk.mk Q_BK612
                    have HB := Bl.mk Q_HB
                    have hc0_ : w'.cell? ⟨gb587, 0, none⟩ = some (.bool t580) := (blk_cell BK587.out 0).trans rfl
                    have hc1_ : w'.cell? ⟨gb587, 1, none⟩ = some (.int .i64 t581) := (blk_cell BK587.out 1).trans rfl
                    have hc2_ : w'.cell? ⟨gb587, 2, none⟩ = some (.int .i64 t582) := (blk_cell BK587.out 2).trans rfl
                    refine value_ (w1 := w') (v := .agg #[.bool t580, .int .i64 t581, .int .i64 t582]) (by rfl) rfl ?_ ?_
                    · go_simp
                      (try simp only [i64_w])
                      try rfl
                    refine hK.out _ _ ⟨gb629, gb630, m12_, m13_, (by rw [ha.out]; exact putSel_upk 0 hb_ rfl rfl rfl), Q_BK587, Q_BK588, Q_BK595, Q_BK596, Q_BK603, Q_BK604, Q_BK611, Q_BK612, Q_HB, Q_NB630_629, Q_NB629_630, Q_BK629, Q_GW629, Q_GE629, Q_NB587_629, Q_NB629_587, Q_NB588_629, Q_NB629_588, Q_NB595_629, Q_NB629_595, Q_NB596_629, Q_NB629_596, Q_NB603_629, Q_NB629_603, Q_NB604_629, Q_NB629_604, Q_NB611_629, Q_NB629_611, Q_NB612_629, Q_NB629_612, Q_BK630, Q_GW630, Q_GE630, Q_NB587_630, Q_NB630_587, Q_NB588_630, Q_NB630_588, Q_NB595_630, Q_NB630_595, Q_NB596_630, Q_NB630_596, Q_NB603_630, Q_NB630_603, Q_NB604_630, Q_NB630_604, Q_NB611_630, Q_NB630_611, Q_NB612_630, Q_NB630_612, fun h0_ => absurd ((hoff 14 (by kernel_rfl)).symm.trans h0_) (by decide), fun h0_ => absurd ((hoff 15 (by kernel_rfl)).symm.trans h0_) (by decide), Q_X12_, Q_X13_⟩
                  refine steps_cons ?_ ?_
                  · rintro b a w' ⟨gb629, gb630, m12_, m13_, ha, Q_BK587, Q_BK588, Q_BK595, Q_BK596, Q_BK603, Q_BK604, Q_BK611, Q_BK612, Q_HB, Q_NB630_629, Q_NB629_630, Q_BK629, Q_GW629, Q_GE629, Q_NB587_629, Q_NB629_587, Q_NB588_629, Q_NB629_588, Q_NB595_629, Q_NB629_595, Q_NB596_629, Q_NB629_596, Q_NB603_629, Q_NB629_603, Q_NB604_629, Q_NB629_604, Q_NB611_629, Q_NB629_611, Q_NB612_629, Q_NB629_612, Q_BK630, Q_GW630, Q_GE630, Q_NB587_630, Q_NB630_587, Q_NB588_630, Q_NB630_588, Q_NB595_630, Q_NB630_595, Q_NB596_630, Q_NB630_596, Q_NB603_630, Q_NB630_603, Q_NB604_630, Q_NB630_604, Q_NB611_630, Q_NB630_611, Q_NB612_630, Q_NB630_612, Q_BK629_e14, Q_BK630_e15, Q_X12_, Q_X13_⟩ hb_ hon hoff
                    refine ⟨_, rfl, fun K hK => ?_⟩
                    have e9 : a.tmps[9]? = some (.pointer (some ⟨gb595, 0, none⟩)) := by rw [ha]; exact (putSel_off rfl).trans rfl
                    replace ha := Aside0.mk ha
                    have BK587 := Bk.mk Q_BK587
                    have BK588 := Bk.mk Q_BK588
                    have BK595 := Bk.mk Q_BK595
                    have BK596 := Bk.mk Q_BK596
                    have BK603 := Bk.mk Q_BK603
                    have BK604 := Bk.mk Q_BK604
                    have BK611 := Bk.mk Q_BK611
                    have BK612 := Bk.mk Q_BK612
                    have HB := Bl.mk Q_HB
                    have hc0_ : w'.cell? ⟨gb595, 0, none⟩ = some (.bool t589) := (blk_cell BK595.out 0).trans rfl
                    have hc1_ : w'.cell? ⟨gb595, 1, none⟩ = some (.int .i64 t590) := (blk_cell BK595.out 1).trans rfl
                    have hc2_ : w'.cell? ⟨gb595, 2, none⟩ = some (.int .i64 t591) := (blk_cell BK595.out 2).trans rfl
                    refine value_ (w1 := w') (v := .agg #[.bool t589, .int .i64 t590, .int .i64 t591]) (by rfl) rfl ?_ ?_
                    · go_simp
                      (try simp only [i64_w])
                      try rfl
                    refine hK.out _ _ ⟨gb629, gb630, m12_, m13_, (by rw [ha.out]; exact putSel_upk 1 hb_ rfl rfl rfl), Q_BK587, Q_BK588, Q_BK595, Q_BK596, Q_BK603, Q_BK604, Q_BK611, Q_BK612, Q_HB, Q_NB630_629, Q_NB629_630, Q_BK629, Q_GW629, Q_GE629, Q_NB587_629, Q_NB629_587, Q_NB588_629, Q_NB629_588, Q_NB595_629, Q_NB629_595, Q_NB596_629, Q_NB629_596, Q_NB603_629, Q_NB629_603, Q_NB604_629, Q_NB629_604, Q_NB611_629, Q_NB629_611, Q_NB612_629, Q_NB629_612, Q_BK630, Q_GW630, Q_GE630, Q_NB587_630, Q_NB630_587, Q_NB588_630, Q_NB630_588, Q_NB595_630, Q_NB630_595, Q_NB596_630, Q_NB630_596, Q_NB603_630, Q_NB630_603, Q_NB604_630, Q_NB630_604, Q_NB611_630, Q_NB630_611, Q_NB612_630, Q_NB630_612, fun h0_ => absurd ((hoff 14 (by kernel_rfl)).symm.trans h0_) (by decide), fun h0_ => absurd ((hoff 15 (by kernel_rfl)).symm.trans h0_) (by decide), Q_X12_, Q_X13_⟩
                  refine steps_cons ?_ ?_
                  · rintro b a w' ⟨gb629, gb630, m12_, m13_, ha, Q_BK587, Q_BK588, Q_BK595, Q_BK596, Q_BK603, Q_BK604, Q_BK611, Q_BK612, Q_HB, Q_NB630_629, Q_NB629_630, Q_BK629, Q_GW629, Q_GE629, Q_NB587_629, Q_NB629_587, Q_NB588_629, Q_NB629_588, Q_NB595_629, Q_NB629_595, Q_NB596_629, Q_NB629_596, Q_NB603_629, Q_NB629_603, Q_NB604_629, Q_NB629_604, Q_NB611_629, Q_NB629_611, Q_NB612_629, Q_NB629_612, Q_BK630, Q_GW630, Q_GE630, Q_NB587_630, Q_NB630_587, Q_NB588_630, Q_NB630_588, Q_NB595_630, Q_NB630_595, Q_NB596_630, Q_NB630_596, Q_NB603_630, Q_NB630_603, Q_NB604_630, Q_NB630_604, Q_NB611_630, Q_NB630_611, Q_NB612_630, Q_NB630_612, Q_BK629_e14, Q_BK630_e15, Q_X12_, Q_X13_⟩ hb_ hon hoff
                    refine ⟨_, rfl, fun K hK => ?_⟩
                    have e91 : a.tmps[91]? = some (.agg #[.bool t580, .int .i64 t581, .int .i64 t582]) := by rw [ha]; exact putSel_on (e := (1, 91, .agg #[.bool t580, .int .i64 t581, .int .i64 t582])) 0 rfl rfl (hon 1 (by kernel_rfl)) rfl
                    have e92 : a.tmps[92]? = some (.agg #[.bool t589, .int .i64 t590, .int .i64 t591]) := by rw [ha]; exact putSel_on (e := (2, 92, .agg #[.bool t589, .int .i64 t590, .int .i64 t591])) 1 rfl rfl (hon 2 (by kernel_rfl)) rfl
                    replace ha := Aside0.mk ha
                    have BK587 := Bk.mk Q_BK587
                    have BK588 := Bk.mk Q_BK588
                    have BK595 := Bk.mk Q_BK595
                    have BK596 := Bk.mk Q_BK596
                    have BK603 := Bk.mk Q_BK603
                    have BK604 := Bk.mk Q_BK604
                    have BK611 := Bk.mk Q_BK611
                    have BK612 := Bk.mk Q_BK612
                    have HB := Bl.mk Q_HB
                    refine goes_ Try.func25 (by kernel_rfl) rfl #[.agg #[.bool t580, .int .i64 t581, .int .i64 t582], .agg #[.bool t589, .int .i64 t590, .int .i64 t591]] (by rfl) rfl rfl (by first | (simp only [List.map_toArray, List.map_cons, List.map_nil, Act.eval, Array.getD_eq_getD_getElem?, Option.getD_some, e91, e92]; done) | (simp only [List.map_toArray, List.map_cons, List.map_nil, Act.eval, Array.getD_eq_getD_getElem?, Option.getD_some, e91, e92]; rfl)) ?_
                    with_reducible refine (impl_SpanJoin.calls kj9 t580 t581 t582 t589 t590 t591 t617 t618 t619 _ A300.out).mono ?_
                    rintro e w356 ⟨rfl, hb⟩
                    refine ⟨_, rfl, ?_⟩
                    have n0_ := Bk.mk (blk_below (g := gb587) bk hb)
                    have n1_ := Bk.mk (blk_below (g := gb588) bk hb)
                    have n2_ := Bk.mk (blk_below (g := gb595) bk hb)
                    have n3_ := Bk.mk (blk_below (g := gb596) bk hb)
                    have n4_ := Bk.mk (blk_below (g := gb603) bk hb)
                    have n5_ := Bk.mk (blk_below (g := gb604) bk hb)
                    have n6_ := Bk.mk (blk_below (g := gb611) bk hb)
                    have n7_ := Bk.mk (blk_below (g := gb612) bk hb)
                    have n8_ := Bl.mk (below_step bl hb)
                    have z_BK629 := fun (h0_ : b 12 = true) (h1_ : b 14 = false) => (show w356.heap[gb629]? = some (.cells #[.bool false, .int .i64 0, .int .i64 0] 30 (0, 0)) from by first | exact (blk_below (g := gb629) (o := .cells #[.bool false, .int .i64 0, .int .i64 0] 30 (0, 0)) (by (with_reducible repeat (first | refine blk_drewN ?_ _ | refine blk_drew ?_ | refine blk_alloc ?_ _)); exact (Q_BK629 h0_ h1_)) hb))
                    have z_BK630 := fun (h0_ : b 13 = true) (h1_ : b 15 = false) => (show w356.heap[gb630]? = some (.cells #[.bool false, .int .i64 0, .int .i64 0] 30 (0, 0)) from by first | exact (blk_below (g := gb630) (o := .cells #[.bool false, .int .i64 0, .int .i64 0] 30 (0, 0)) (by (with_reducible repeat (first | refine blk_drewN ?_ _ | refine blk_drew ?_ | refine blk_alloc ?_ _)); exact (Q_BK630 h0_ h1_)) hb))
                    clear BK587
                    clear BK588
                    clear BK595
                    clear BK596
                    clear BK603
                    clear BK604
                    clear BK611
                    clear BK612
                    clear HB
                    have BK587 := n0_
                    have BK588 := n1_
                    have BK595 := n2_
                    have BK596 := n3_
                    have BK603 := n4_
                    have BK604 := n5_
                    have BK611 := n6_
                    have BK612 := n7_
                    have HB := n8_
                    clear n0_ n1_ n2_ n3_ n4_ n5_ n6_ n7_ n8_
                    (try clear hb)
                    (try clear hb2)
                    (try clear hk)
                    (try clear hi)
                    refine hK.out _ _ ⟨gb629, gb630, m12_, m13_, (by rw [ha.out]; exact putSel_upk 2 hb_ rfl rfl rfl), bk, bk, bk, bk, bk, bk, bk, bk, bl, Q_NB630_629, Q_NB629_630, z_BK629, Q_GW629, Q_GE629, Q_NB587_629, Q_NB629_587, Q_NB588_629, Q_NB629_588, Q_NB595_629, Q_NB629_595, Q_NB596_629, Q_NB629_596, Q_NB603_629, Q_NB629_603, Q_NB604_629, Q_NB629_604, Q_NB611_629, Q_NB629_611, Q_NB612_629, Q_NB629_612, z_BK630, Q_GW630, Q_GE630, Q_NB587_630, Q_NB630_587, Q_NB588_630, Q_NB630_588, Q_NB595_630, Q_NB630_595, Q_NB596_630, Q_NB630_596, Q_NB603_630, Q_NB630_603, Q_NB604_630, Q_NB630_604, Q_NB611_630, Q_NB630_611, Q_NB612_630, Q_NB630_612, fun h0_ => absurd ((hoff 14 (by kernel_rfl)).symm.trans h0_) (by decide), fun h0_ => absurd ((hoff 15 (by kernel_rfl)).symm.trans h0_) (by decide), Q_X12_, Q_X13_⟩
                  refine steps_cons ?_ ?_
                  · rintro b a w' ⟨gb629, gb630, m12_, m13_, ha, Q_BK587, Q_BK588, Q_BK595, Q_BK596, Q_BK603, Q_BK604, Q_BK611, Q_BK612, Q_HB, Q_NB630_629, Q_NB629_630, Q_BK629, Q_GW629, Q_GE629, Q_NB587_629, Q_NB629_587, Q_NB588_629, Q_NB629_588, Q_NB595_629, Q_NB629_595, Q_NB596_629, Q_NB629_596, Q_NB603_629, Q_NB629_603, Q_NB604_629, Q_NB629_604, Q_NB611_629, Q_NB629_611, Q_NB612_629, Q_NB629_612, Q_BK630, Q_GW630, Q_GE630, Q_NB587_630, Q_NB630_587, Q_NB588_630, Q_NB630_588, Q_NB595_630, Q_NB630_595, Q_NB596_630, Q_NB630_596, Q_NB603_630, Q_NB630_603, Q_NB604_630, Q_NB630_604, Q_NB611_630, Q_NB630_611, Q_NB612_630, Q_NB630_612, Q_BK629_e14, Q_BK630_e15, Q_X12_, Q_X13_⟩ hb_ hon hoff
                    refine ⟨_, rfl, fun K hK => ?_⟩
                    have e7 : a.tmps[7]? = some (.pointer (some ⟨gb588, 0, none⟩)) := by rw [ha]; exact (putSel_off rfl).trans rfl
                    replace ha := Aside0.mk ha
                    have BK587 := Bk.mk Q_BK587
                    have BK588 := Bk.mk Q_BK588
                    have BK595 := Bk.mk Q_BK595
                    have BK596 := Bk.mk Q_BK596
                    have BK603 := Bk.mk Q_BK603
                    have BK604 := Bk.mk Q_BK604
                    have BK611 := Bk.mk Q_BK611
                    have BK612 := Bk.mk Q_BK612
                    have HB := Bl.mk Q_HB
                    have hc0_ : w'.cell? ⟨gb588, 0, none⟩ = some (.bool t583) := (blk_cell BK588.out 0).trans rfl
                    have hc1_ : w'.cell? ⟨gb588, 1, none⟩ = some (.int .i64 t584) := (blk_cell BK588.out 1).trans rfl
                    have hc2_ : w'.cell? ⟨gb588, 2, none⟩ = some (.int .i64 t585) := (blk_cell BK588.out 2).trans rfl
                    refine value_ (w1 := w') (v := .agg #[.bool t583, .int .i64 t584, .int .i64 t585]) (by rfl) rfl ?_ ?_
                    · go_simp
                      (try simp only [i64_w])
                      try rfl
                    refine hK.out _ _ ⟨gb629, gb630, m12_, m13_, (by rw [ha.out]; exact putSel_upk 3 hb_ rfl rfl rfl), Q_BK587, Q_BK588, Q_BK595, Q_BK596, Q_BK603, Q_BK604, Q_BK611, Q_BK612, Q_HB, Q_NB630_629, Q_NB629_630, Q_BK629, Q_GW629, Q_GE629, Q_NB587_629, Q_NB629_587, Q_NB588_629, Q_NB629_588, Q_NB595_629, Q_NB629_595, Q_NB596_629, Q_NB629_596, Q_NB603_629, Q_NB629_603, Q_NB604_629, Q_NB629_604, Q_NB611_629, Q_NB629_611, Q_NB612_629, Q_NB629_612, Q_BK630, Q_GW630, Q_GE630, Q_NB587_630, Q_NB630_587, Q_NB588_630, Q_NB630_588, Q_NB595_630, Q_NB630_595, Q_NB596_630, Q_NB630_596, Q_NB603_630, Q_NB630_603, Q_NB604_630, Q_NB630_604, Q_NB611_630, Q_NB630_611, Q_NB612_630, Q_NB630_612, fun h0_ => absurd ((hoff 14 (by kernel_rfl)).symm.trans h0_) (by decide), fun h0_ => absurd ((hoff 15 (by kernel_rfl)).symm.trans h0_) (by decide), Q_X12_, Q_X13_⟩
                  refine steps_cons ?_ ?_
                  · rintro b a w' ⟨gb629, gb630, m12_, m13_, ha, Q_BK587, Q_BK588, Q_BK595, Q_BK596, Q_BK603, Q_BK604, Q_BK611, Q_BK612, Q_HB, Q_NB630_629, Q_NB629_630, Q_BK629, Q_GW629, Q_GE629, Q_NB587_629, Q_NB629_587, Q_NB588_629, Q_NB629_588, Q_NB595_629, Q_NB629_595, Q_NB596_629, Q_NB629_596, Q_NB603_629, Q_NB629_603, Q_NB604_629, Q_NB629_604, Q_NB611_629, Q_NB629_611, Q_NB612_629, Q_NB629_612, Q_BK630, Q_GW630, Q_GE630, Q_NB587_630, Q_NB630_587, Q_NB588_630, Q_NB630_588, Q_NB595_630, Q_NB630_595, Q_NB596_630, Q_NB630_596, Q_NB603_630, Q_NB630_603, Q_NB604_630, Q_NB630_604, Q_NB611_630, Q_NB630_611, Q_NB612_630, Q_NB630_612, Q_BK629_e14, Q_BK630_e15, Q_X12_, Q_X13_⟩ hb_ hon hoff
                    refine ⟨_, rfl, fun K hK => ?_⟩
                    have e10 : a.tmps[10]? = some (.pointer (some ⟨gb596, 0, none⟩)) := by rw [ha]; exact (putSel_off rfl).trans rfl
                    replace ha := Aside0.mk ha
                    have BK587 := Bk.mk Q_BK587
                    have BK588 := Bk.mk Q_BK588
                    have BK595 := Bk.mk Q_BK595
                    have BK596 := Bk.mk Q_BK596
                    have BK603 := Bk.mk Q_BK603
                    have BK604 := Bk.mk Q_BK604
                    have BK611 := Bk.mk Q_BK611
                    have BK612 := Bk.mk Q_BK612
                    have HB := Bl.mk Q_HB
                    have hc0_ : w'.cell? ⟨gb596, 0, none⟩ = some (.bool t592) := (blk_cell BK596.out 0).trans rfl
                    have hc1_ : w'.cell? ⟨gb596, 1, none⟩ = some (.int .i64 t593) := (blk_cell BK596.out 1).trans rfl
                    have hc2_ : w'.cell? ⟨gb596, 2, none⟩ = some (.int .i64 t594) := (blk_cell BK596.out 2).trans rfl
                    refine value_ (w1 := w') (v := .agg #[.bool t592, .int .i64 t593, .int .i64 t594]) (by rfl) rfl ?_ ?_
                    · go_simp
                      (try simp only [i64_w])
                      try rfl
                    refine hK.out _ _ ⟨gb629, gb630, m12_, m13_, (by rw [ha.out]; exact putSel_upk 4 hb_ rfl rfl rfl), Q_BK587, Q_BK588, Q_BK595, Q_BK596, Q_BK603, Q_BK604, Q_BK611, Q_BK612, Q_HB, Q_NB630_629, Q_NB629_630, Q_BK629, Q_GW629, Q_GE629, Q_NB587_629, Q_NB629_587, Q_NB588_629, Q_NB629_588, Q_NB595_629, Q_NB629_595, Q_NB596_629, Q_NB629_596, Q_NB603_629, Q_NB629_603, Q_NB604_629, Q_NB629_604, Q_NB611_629, Q_NB629_611, Q_NB612_629, Q_NB629_612, Q_BK630, Q_GW630, Q_GE630, Q_NB587_630, Q_NB630_587, Q_NB588_630, Q_NB630_588, Q_NB595_630, Q_NB630_595, Q_NB596_630, Q_NB630_596, Q_NB603_630, Q_NB630_603, Q_NB604_630, Q_NB630_604, Q_NB611_630, Q_NB630_611, Q_NB612_630, Q_NB630_612, fun h0_ => absurd ((hoff 14 (by kernel_rfl)).symm.trans h0_) (by decide), fun h0_ => absurd ((hoff 15 (by kernel_rfl)).symm.trans h0_) (by decide), Q_X12_, Q_X13_⟩
                  refine steps_cons ?_ ?_
                  · rintro b a w' ⟨gb629, gb630, m12_, m13_, ha, Q_BK587, Q_BK588, Q_BK595, Q_BK596, Q_BK603, Q_BK604, Q_BK611, Q_BK612, Q_HB, Q_NB630_629, Q_NB629_630, Q_BK629, Q_GW629, Q_GE629, Q_NB587_629, Q_NB629_587, Q_NB588_629, Q_NB629_588, Q_NB595_629, Q_NB629_595, Q_NB596_629, Q_NB629_596, Q_NB603_629, Q_NB629_603, Q_NB604_629, Q_NB629_604, Q_NB611_629, Q_NB629_611, Q_NB612_629, Q_NB629_612, Q_BK630, Q_GW630, Q_GE630, Q_NB587_630, Q_NB630_587, Q_NB588_630, Q_NB630_588, Q_NB595_630, Q_NB630_595, Q_NB596_630, Q_NB630_596, Q_NB603_630, Q_NB630_603, Q_NB604_630, Q_NB630_604, Q_NB611_630, Q_NB630_611, Q_NB612_630, Q_NB630_612, Q_BK629_e14, Q_BK630_e15, Q_X12_, Q_X13_⟩ hb_ hon hoff
                    refine ⟨_, rfl, fun K hK => ?_⟩
                    have e94 : a.tmps[94]? = some (.agg #[.bool t583, .int .i64 t584, .int .i64 t585]) := by rw [ha]; exact putSel_on (e := (4, 94, .agg #[.bool t583, .int .i64 t584, .int .i64 t585])) 3 rfl rfl (hon 4 (by kernel_rfl)) rfl
                    have e95 : a.tmps[95]? = some (.agg #[.bool t592, .int .i64 t593, .int .i64 t594]) := by rw [ha]; exact putSel_on (e := (5, 95, .agg #[.bool t592, .int .i64 t593, .int .i64 t594])) 4 rfl rfl (hon 5 (by kernel_rfl)) rfl
                    replace ha := Aside0.mk ha
                    have BK587 := Bk.mk Q_BK587
                    have BK588 := Bk.mk Q_BK588
                    have BK595 := Bk.mk Q_BK595
                    have BK596 := Bk.mk Q_BK596
                    have BK603 := Bk.mk Q_BK603
                    have BK604 := Bk.mk Q_BK604
                    have BK611 := Bk.mk Q_BK611
                    have BK612 := Bk.mk Q_BK612
                    have HB := Bl.mk Q_HB
                    refine goes_ Try.func25 (by kernel_rfl) rfl #[.agg #[.bool t583, .int .i64 t584, .int .i64 t585], .agg #[.bool t592, .int .i64 t593, .int .i64 t594]] (by rfl) rfl rfl (by first | (simp only [List.map_toArray, List.map_cons, List.map_nil, Act.eval, Array.getD_eq_getD_getElem?, Option.getD_some, e94, e95]; done) | (simp only [List.map_toArray, List.map_cons, List.map_nil, Act.eval, Array.getD_eq_getD_getElem?, Option.getD_some, e94, e95]; rfl)) ?_
                    with_reducible refine (impl_SpanJoin.calls kj9 t583 t584 t585 t592 t593 t594 t620 t621 t622 _ A301.out).mono ?_
                    rintro e w358 ⟨rfl, hb⟩
                    refine ⟨_, rfl, ?_⟩
                    have n0_ := Bk.mk (blk_below (g := gb587) bk hb)
                    have n1_ := Bk.mk (blk_below (g := gb588) bk hb)
                    have n2_ := Bk.mk (blk_below (g := gb595) bk hb)
                    have n3_ := Bk.mk (blk_below (g := gb596) bk hb)
                    have n4_ := Bk.mk (blk_below (g := gb603) bk hb)
                    have n5_ := Bk.mk (blk_below (g := gb604) bk hb)
                    have n6_ := Bk.mk (blk_below (g := gb611) bk hb)
                    have n7_ := Bk.mk (blk_below (g := gb612) bk hb)
                    have n8_ := Bl.mk (below_step bl hb)
                    have z_BK629 := fun (h0_ : b 12 = true) (h1_ : b 14 = false) => (show w358.heap[gb629]? = some (.cells #[.bool false, .int .i64 0, .int .i64 0] 30 (0, 0)) from by first | exact (blk_below (g := gb629) (o := .cells #[.bool false, .int .i64 0, .int .i64 0] 30 (0, 0)) (by (with_reducible repeat (first | refine blk_drewN ?_ _ | refine blk_drew ?_ | refine blk_alloc ?_ _)); exact (Q_BK629 h0_ h1_)) hb))
                    have z_BK630 := fun (h0_ : b 13 = true) (h1_ : b 15 = false) => (show w358.heap[gb630]? = some (.cells #[.bool false, .int .i64 0, .int .i64 0] 30 (0, 0)) from by first | exact (blk_below (g := gb630) (o := .cells #[.bool false, .int .i64 0, .int .i64 0] 30 (0, 0)) (by (with_reducible repeat (first | refine blk_drewN ?_ _ | refine blk_drew ?_ | refine blk_alloc ?_ _)); exact (Q_BK630 h0_ h1_)) hb))
                    clear BK587
                    clear BK588
                    clear BK595
                    clear BK596
                    clear BK603
                    clear BK604
                    clear BK611
                    clear BK612
                    clear HB
                    have BK587 := n0_
                    have BK588 := n1_
                    have BK595 := n2_
                    have BK596 := n3_
                    have BK603 := n4_
                    have BK604 := n5_
                    have BK611 := n6_
                    have BK612 := n7_
                    have HB := n8_
                    clear n0_ n1_ n2_ n3_ n4_ n5_ n6_ n7_ n8_
                    (try clear hb)
                    (try clear hb2)
                    (try clear hk)
                    (try clear hi)
                    refine hK.out _ _ ⟨gb629, gb630, m12_, m13_, (by rw [ha.out]; exact putSel_upk 5 hb_ rfl rfl rfl), bk, bk, bk, bk, bk, bk, bk, bk, bl, Q_NB630_629, Q_NB629_630, z_BK629, Q_GW629, Q_GE629, Q_NB587_629, Q_NB629_587, Q_NB588_629, Q_NB629_588, Q_NB595_629, Q_NB629_595, Q_NB596_629, Q_NB629_596, Q_NB603_629, Q_NB629_603, Q_NB604_629, Q_NB629_604, Q_NB611_629, Q_NB629_611, Q_NB612_629, Q_NB629_612, z_BK630, Q_GW630, Q_GE630, Q_NB587_630, Q_NB630_587, Q_NB588_630, Q_NB630_588, Q_NB595_630, Q_NB630_595, Q_NB596_630, Q_NB630_596, Q_NB603_630, Q_NB630_603, Q_NB604_630, Q_NB630_604, Q_NB611_630, Q_NB630_611, Q_NB612_630, Q_NB630_612, fun h0_ => absurd ((hoff 14 (by kernel_rfl)).symm.trans h0_) (by decide), fun h0_ => absurd ((hoff 15 (by kernel_rfl)).symm.trans h0_) (by decide), Q_X12_, Q_X13_⟩
                  refine steps_cons ?_ ?_
                  · rintro b a w' ⟨gb629, gb630, m12_, m13_, ha, Q_BK587, Q_BK588, Q_BK595, Q_BK596, Q_BK603, Q_BK604, Q_BK611, Q_BK612, Q_HB, Q_NB630_629, Q_NB629_630, Q_BK629, Q_GW629, Q_GE629, Q_NB587_629, Q_NB629_587, Q_NB588_629, Q_NB629_588, Q_NB595_629, Q_NB629_595, Q_NB596_629, Q_NB629_596, Q_NB603_629, Q_NB629_603, Q_NB604_629, Q_NB629_604, Q_NB611_629, Q_NB629_611, Q_NB612_629, Q_NB629_612, Q_BK630, Q_GW630, Q_GE630, Q_NB587_630, Q_NB630_587, Q_NB588_630, Q_NB630_588, Q_NB595_630, Q_NB630_595, Q_NB596_630, Q_NB630_596, Q_NB603_630, Q_NB630_603, Q_NB604_630, Q_NB630_604, Q_NB611_630, Q_NB630_611, Q_NB612_630, Q_NB630_612, Q_BK629_e14, Q_BK630_e15, Q_X12_, Q_X13_⟩ hb_ hon hoff
                    refine ⟨_, rfl, fun K hK => ?_⟩
                    have e90 : a.tmps[90]? = some (.int .i64 t579) := by rw [ha]; exact (putSel_off rfl).trans rfl
                    have e93 : a.tmps[93]? = some (.agg #[.bool t617, .int .i64 t618, .int .i64 t619]) := by rw [ha]; exact putSel_on (e := (3, 93, .agg #[.bool t617, .int .i64 t618, .int .i64 t619])) 2 rfl rfl (hon 3 (by kernel_rfl)) rfl
                    have e96 : a.tmps[96]? = some (.agg #[.bool t620, .int .i64 t621, .int .i64 t622]) := by rw [ha]; exact putSel_on (e := (6, 96, .agg #[.bool t620, .int .i64 t621, .int .i64 t622])) 5 rfl rfl (hon 6 (by kernel_rfl)) rfl
                    have e97 : a.tmps[97]? = some (.bool t586) := by rw [ha]; exact (putSel_off rfl).trans rfl
                    replace ha := Aside0.mk ha
                    have BK587 := Bk.mk Q_BK587
                    have BK588 := Bk.mk Q_BK588
                    have BK595 := Bk.mk Q_BK595
                    have BK596 := Bk.mk Q_BK596
                    have BK603 := Bk.mk Q_BK603
                    have BK604 := Bk.mk Q_BK604
                    have BK611 := Bk.mk Q_BK611
                    have BK612 := Bk.mk Q_BK612
                    have HB := Bl.mk Q_HB
                    refine goes_ Try.func19 (by kernel_rfl) rfl #[.int .i64 t579, .agg #[.bool t617, .int .i64 t618, .int .i64 t619], .agg #[.bool t620, .int .i64 t621, .int .i64 t622], .bool t586] (by rfl) rfl rfl (by first | (simp only [List.map_toArray, List.map_cons, List.map_nil, Act.eval, Array.getD_eq_getD_getElem?, Option.getD_some, e90, e93, e96, e97]; done) | (simp only [List.map_toArray, List.map_cons, List.map_nil, Act.eval, Array.getD_eq_getD_getElem?, Option.getD_some, e90, e93, e96, e97]; rfl)) ?_
                    with_reducible refine (impl_SpanWhen.calls kj9 t579 t617 t618 t619 t620 t621 t622 t586 t623 t624 t625 t626 t627 t628 _ A302.out).mono ?_
                    rintro e w359 ⟨rfl, hb⟩
                    refine ⟨_, rfl, ?_⟩
                    have n0_ := Bk.mk (blk_below (g := gb587) bk hb)
                    have n1_ := Bk.mk (blk_below (g := gb588) bk hb)
                    have n2_ := Bk.mk (blk_below (g := gb595) bk hb)
                    have n3_ := Bk.mk (blk_below (g := gb596) bk hb)
                    have n4_ := Bk.mk (blk_below (g := gb603) bk hb)
                    have n5_ := Bk.mk (blk_below (g := gb604) bk hb)
                    have n6_ := Bk.mk (blk_below (g := gb611) bk hb)
                    have n7_ := Bk.mk (blk_below (g := gb612) bk hb)
                    have n8_ := Bl.mk (below_step bl hb)
                    have z_BK629 := fun (h0_ : b 12 = true) (h1_ : b 14 = false) => (show w359.heap[gb629]? = some (.cells #[.bool false, .int .i64 0, .int .i64 0] 30 (0, 0)) from by first | exact (blk_below (g := gb629) (o := .cells #[.bool false, .int .i64 0, .int .i64 0] 30 (0, 0)) (by (with_reducible repeat (first | refine blk_drewN ?_ _ | refine blk_drew ?_ | refine blk_alloc ?_ _)); exact (Q_BK629 h0_ h1_)) hb))
                    have z_BK630 := fun (h0_ : b 13 = true) (h1_ : b 15 = false) => (show w359.heap[gb630]? = some (.cells #[.bool false, .int .i64 0, .int .i64 0] 30 (0, 0)) from by first | exact (blk_below (g := gb630) (o := .cells #[.bool false, .int .i64 0, .int .i64 0] 30 (0, 0)) (by (with_reducible repeat (first | refine blk_drewN ?_ _ | refine blk_drew ?_ | refine blk_alloc ?_ _)); exact (Q_BK630 h0_ h1_)) hb))
                    clear BK587
                    clear BK588
                    clear BK595
                    clear BK596
                    clear BK603
                    clear BK604
                    clear BK611
                    clear BK612
                    clear HB
                    have BK587 := n0_
                    have BK588 := n1_
                    have BK595 := n2_
                    have BK596 := n3_
                    have BK603 := n4_
                    have BK604 := n5_
                    have BK611 := n6_
                    have BK612 := n7_
                    have HB := n8_
                    clear n0_ n1_ n2_ n3_ n4_ n5_ n6_ n7_ n8_
                    (try clear hb)
                    (try clear hb2)
                    (try clear hk)
                    (try clear hi)
                    refine hK.out _ _ ⟨gb629, gb630, m12_, m13_, (by rw [ha.out]; exact putSel_upk 6 hb_ rfl rfl rfl), bk, bk, bk, bk, bk, bk, bk, bk, bl, Q_NB630_629, Q_NB629_630, z_BK629, Q_GW629, Q_GE629, Q_NB587_629, Q_NB629_587, Q_NB588_629, Q_NB629_588, Q_NB595_629, Q_NB629_595, Q_NB596_629, Q_NB629_596, Q_NB603_629, Q_NB629_603, Q_NB604_629, Q_NB629_604, Q_NB611_629, Q_NB629_611, Q_NB612_629, Q_NB629_612, z_BK630, Q_GW630, Q_GE630, Q_NB587_630, Q_NB630_587, Q_NB588_630, Q_NB630_588, Q_NB595_630, Q_NB630_595, Q_NB596_630, Q_NB630_596, Q_NB603_630, Q_NB630_603, Q_NB604_630, Q_NB630_604, Q_NB611_630, Q_NB630_611, Q_NB612_630, Q_NB630_612, fun h0_ => absurd ((hoff 14 (by kernel_rfl)).symm.trans h0_) (by decide), fun h0_ => absurd ((hoff 15 (by kernel_rfl)).symm.trans h0_) (by decide), Q_X12_, Q_X13_⟩
                  refine steps_cons ?_ ?_
                  · rintro b a w' ⟨gb629, gb630, m12_, m13_, ha, Q_BK587, Q_BK588, Q_BK595, Q_BK596, Q_BK603, Q_BK604, Q_BK611, Q_BK612, Q_HB, Q_NB630_629, Q_NB629_630, Q_BK629, Q_GW629, Q_GE629, Q_NB587_629, Q_NB629_587, Q_NB588_629, Q_NB629_588, Q_NB595_629, Q_NB629_595, Q_NB596_629, Q_NB629_596, Q_NB603_629, Q_NB629_603, Q_NB604_629, Q_NB629_604, Q_NB611_629, Q_NB629_611, Q_NB612_629, Q_NB629_612, Q_BK630, Q_GW630, Q_GE630, Q_NB587_630, Q_NB630_587, Q_NB588_630, Q_NB630_588, Q_NB595_630, Q_NB630_595, Q_NB596_630, Q_NB630_596, Q_NB603_630, Q_NB630_603, Q_NB604_630, Q_NB630_604, Q_NB611_630, Q_NB630_611, Q_NB612_630, Q_NB630_612, Q_BK629_e14, Q_BK630_e15, Q_X12_, Q_X13_⟩ hb_ hon hoff
                    refine ⟨_, rfl, fun K hK => ?_⟩
                    have e98 : a.tmps[98]? = some (.tuple #[.agg #[.bool t623, .int .i64 t624, .int .i64 t625], .agg #[.bool t626, .int .i64 t627, .int .i64 t628]]) := by rw [ha]; exact putSel_on (e := (8, 98, .tuple #[.agg #[.bool t623, .int .i64 t624, .int .i64 t625], .agg #[.bool t626, .int .i64 t627, .int .i64 t628]])) 6 rfl rfl (hon 8 (by kernel_rfl)) rfl
                    replace ha := Aside0.mk ha
                    have BK587 := Bk.mk Q_BK587
                    have BK588 := Bk.mk Q_BK588
                    have BK595 := Bk.mk Q_BK595
                    have BK596 := Bk.mk Q_BK596
                    have BK603 := Bk.mk Q_BK603
                    have BK604 := Bk.mk Q_BK604
                    have BK611 := Bk.mk Q_BK611
                    have BK612 := Bk.mk Q_BK612
                    have HB := Bl.mk Q_HB
                    refine value_ (w1 := w') (v := .tuple #[.agg #[.bool t623, .int .i64 t624, .int .i64 t625], .agg #[.bool t626, .int .i64 t627, .int .i64 t628]]) (by rfl) rfl ?_ ?_
                    · go_simp
                      (try simp only [i64_w])
                      try rfl
                    refine hK.out _ _ ⟨gb629, gb630, m12_, m13_, (by rw [ha.out]; exact putSel_upk 7 hb_ rfl rfl rfl), Q_BK587, Q_BK588, Q_BK595, Q_BK596, Q_BK603, Q_BK604, Q_BK611, Q_BK612, Q_HB, Q_NB630_629, Q_NB629_630, Q_BK629, Q_GW629, Q_GE629, Q_NB587_629, Q_NB629_587, Q_NB588_629, Q_NB629_588, Q_NB595_629, Q_NB629_595, Q_NB596_629, Q_NB629_596, Q_NB603_629, Q_NB629_603, Q_NB604_629, Q_NB629_604, Q_NB611_629, Q_NB629_611, Q_NB612_629, Q_NB629_612, Q_BK630, Q_GW630, Q_GE630, Q_NB587_630, Q_NB630_587, Q_NB588_630, Q_NB630_588, Q_NB595_630, Q_NB630_595, Q_NB596_630, Q_NB630_596, Q_NB603_630, Q_NB630_603, Q_NB604_630, Q_NB630_604, Q_NB611_630, Q_NB630_611, Q_NB612_630, Q_NB630_612, fun h0_ => absurd ((hoff 14 (by kernel_rfl)).symm.trans h0_) (by decide), fun h0_ => absurd ((hoff 15 (by kernel_rfl)).symm.trans h0_) (by decide), Q_X12_, Q_X13_⟩
                  refine steps_cons ?_ ?_
                  · rintro b a w' ⟨gb629, gb630, m12_, m13_, ha, Q_BK587, Q_BK588, Q_BK595, Q_BK596, Q_BK603, Q_BK604, Q_BK611, Q_BK612, Q_HB, Q_NB630_629, Q_NB629_630, Q_BK629, Q_GW629, Q_GE629, Q_NB587_629, Q_NB629_587, Q_NB588_629, Q_NB629_588, Q_NB595_629, Q_NB629_595, Q_NB596_629, Q_NB629_596, Q_NB603_629, Q_NB629_603, Q_NB604_629, Q_NB629_604, Q_NB611_629, Q_NB629_611, Q_NB612_629, Q_NB629_612, Q_BK630, Q_GW630, Q_GE630, Q_NB587_630, Q_NB630_587, Q_NB588_630, Q_NB630_588, Q_NB595_630, Q_NB630_595, Q_NB596_630, Q_NB630_596, Q_NB603_630, Q_NB630_603, Q_NB604_630, Q_NB630_604, Q_NB611_630, Q_NB630_611, Q_NB612_630, Q_NB630_612, Q_BK629_e14, Q_BK630_e15, Q_X12_, Q_X13_⟩ hb_ hon hoff
                    refine ⟨_, rfl, fun K hK => ?_⟩
                    have e89 : a.tmps[89]? = some (.tuple #[.agg #[.bool t623, .int .i64 t624, .int .i64 t625], .agg #[.bool t626, .int .i64 t627, .int .i64 t628]]) := by rw [ha]; exact putSel_on (e := (9, 89, .tuple #[.agg #[.bool t623, .int .i64 t624, .int .i64 t625], .agg #[.bool t626, .int .i64 t627, .int .i64 t628]])) 7 rfl rfl (hon 9 (by kernel_rfl)) rfl
                    replace ha := Aside0.mk ha
                    have BK587 := Bk.mk Q_BK587
                    have BK588 := Bk.mk Q_BK588
                    have BK595 := Bk.mk Q_BK595
                    have BK596 := Bk.mk Q_BK596
                    have BK603 := Bk.mk Q_BK603
                    have BK604 := Bk.mk Q_BK604
                    have BK611 := Bk.mk Q_BK611
                    have BK612 := Bk.mk Q_BK612
                    have HB := Bl.mk Q_HB
                    refine value_ (w1 := w') (v := .agg #[.bool t623, .int .i64 t624, .int .i64 t625]) (by rfl) rfl ?_ ?_
                    · go_simp
                      (try simp only [i64_w])
                      try rfl
                    refine hK.out _ _ ⟨gb629, gb630, m12_, m13_, (by rw [ha.out]; exact putSel_upk 8 hb_ rfl rfl rfl), Q_BK587, Q_BK588, Q_BK595, Q_BK596, Q_BK603, Q_BK604, Q_BK611, Q_BK612, Q_HB, Q_NB630_629, Q_NB629_630, Q_BK629, Q_GW629, Q_GE629, Q_NB587_629, Q_NB629_587, Q_NB588_629, Q_NB629_588, Q_NB595_629, Q_NB629_595, Q_NB596_629, Q_NB629_596, Q_NB603_629, Q_NB629_603, Q_NB604_629, Q_NB629_604, Q_NB611_629, Q_NB629_611, Q_NB612_629, Q_NB629_612, Q_BK630, Q_GW630, Q_GE630, Q_NB587_630, Q_NB630_587, Q_NB588_630, Q_NB630_588, Q_NB595_630, Q_NB630_595, Q_NB596_630, Q_NB630_596, Q_NB603_630, Q_NB630_603, Q_NB604_630, Q_NB630_604, Q_NB611_630, Q_NB630_611, Q_NB612_630, Q_NB630_612, fun h0_ => absurd ((hoff 14 (by kernel_rfl)).symm.trans h0_) (by decide), fun h0_ => absurd ((hoff 15 (by kernel_rfl)).symm.trans h0_) (by decide), Q_X12_, Q_X13_⟩
                  refine steps_cons ?_ ?_
                  · rintro b a w' ⟨gb629, gb630, m12_, m13_, ha, Q_BK587, Q_BK588, Q_BK595, Q_BK596, Q_BK603, Q_BK604, Q_BK611, Q_BK612, Q_HB, Q_NB630_629, Q_NB629_630, Q_BK629, Q_GW629, Q_GE629, Q_NB587_629, Q_NB629_587, Q_NB588_629, Q_NB629_588, Q_NB595_629, Q_NB629_595, Q_NB596_629, Q_NB629_596, Q_NB603_629, Q_NB629_603, Q_NB604_629, Q_NB629_604, Q_NB611_629, Q_NB629_611, Q_NB612_629, Q_NB629_612, Q_BK630, Q_GW630, Q_GE630, Q_NB587_630, Q_NB630_587, Q_NB588_630, Q_NB630_588, Q_NB595_630, Q_NB630_595, Q_NB596_630, Q_NB630_596, Q_NB603_630, Q_NB630_603, Q_NB604_630, Q_NB630_604, Q_NB611_630, Q_NB630_611, Q_NB612_630, Q_NB630_612, Q_BK629_e14, Q_BK630_e15, Q_X12_, Q_X13_⟩ hb_ hon hoff
                    refine ⟨_, rfl, fun K hK => ?_⟩
                    have e89 : a.tmps[89]? = some (.tuple #[.agg #[.bool t623, .int .i64 t624, .int .i64 t625], .agg #[.bool t626, .int .i64 t627, .int .i64 t628]]) := by rw [ha]; exact putSel_on (e := (9, 89, .tuple #[.agg #[.bool t623, .int .i64 t624, .int .i64 t625], .agg #[.bool t626, .int .i64 t627, .int .i64 t628]])) 7 rfl rfl (hon 9 (by kernel_rfl)) rfl
                    replace ha := Aside0.mk ha
                    have BK587 := Bk.mk Q_BK587
                    have BK588 := Bk.mk Q_BK588
                    have BK595 := Bk.mk Q_BK595
                    have BK596 := Bk.mk Q_BK596
                    have BK603 := Bk.mk Q_BK603
                    have BK604 := Bk.mk Q_BK604
                    have BK611 := Bk.mk Q_BK611
                    have BK612 := Bk.mk Q_BK612
                    have HB := Bl.mk Q_HB
                    refine value_ (w1 := w') (v := .agg #[.bool t626, .int .i64 t627, .int .i64 t628]) (by rfl) rfl ?_ ?_
                    · go_simp
                      (try simp only [i64_w])
                      try rfl
                    refine hK.out _ _ ⟨gb629, gb630, m12_, m13_, (by rw [ha.out]; exact putSel_upk 9 hb_ rfl rfl rfl), Q_BK587, Q_BK588, Q_BK595, Q_BK596, Q_BK603, Q_BK604, Q_BK611, Q_BK612, Q_HB, Q_NB630_629, Q_NB629_630, Q_BK629, Q_GW629, Q_GE629, Q_NB587_629, Q_NB629_587, Q_NB588_629, Q_NB629_588, Q_NB595_629, Q_NB629_595, Q_NB596_629, Q_NB629_596, Q_NB603_629, Q_NB629_603, Q_NB604_629, Q_NB629_604, Q_NB611_629, Q_NB629_611, Q_NB612_629, Q_NB629_612, Q_BK630, Q_GW630, Q_GE630, Q_NB587_630, Q_NB630_587, Q_NB588_630, Q_NB630_588, Q_NB595_630, Q_NB630_595, Q_NB596_630, Q_NB630_596, Q_NB603_630, Q_NB630_603, Q_NB604_630, Q_NB630_604, Q_NB611_630, Q_NB630_611, Q_NB612_630, Q_NB630_612, Q_BK629_e14, fun h0_ => absurd ((hoff 15 (by kernel_rfl)).symm.trans h0_) (by decide), Q_X12_, Q_X13_⟩
                  refine steps_cons ?_ ?_
                  · rintro b a w' ⟨gb629, gb630, m12_, m13_, ha, Q_BK587, Q_BK588, Q_BK595, Q_BK596, Q_BK603, Q_BK604, Q_BK611, Q_BK612, Q_HB, Q_NB630_629, Q_NB629_630, Q_BK629, Q_GW629, Q_GE629, Q_NB587_629, Q_NB629_587, Q_NB588_629, Q_NB629_588, Q_NB595_629, Q_NB629_595, Q_NB596_629, Q_NB629_596, Q_NB603_629, Q_NB629_603, Q_NB604_629, Q_NB629_604, Q_NB611_629, Q_NB629_611, Q_NB612_629, Q_NB629_612, Q_BK630, Q_GW630, Q_GE630, Q_NB587_630, Q_NB630_587, Q_NB588_630, Q_NB630_588, Q_NB595_630, Q_NB630_595, Q_NB596_630, Q_NB630_596, Q_NB603_630, Q_NB630_603, Q_NB604_630, Q_NB630_604, Q_NB611_630, Q_NB630_611, Q_NB612_630, Q_NB630_612, Q_BK629_e14, Q_BK630_e15, Q_X12_, Q_X13_⟩ hb_ hon hoff
                    refine ⟨_, rfl, fun K hK => ?_⟩
                    replace ha := Aside0.mk ha
                    have BK587 := Bk.mk Q_BK587
                    have BK588 := Bk.mk Q_BK588
                    have BK595 := Bk.mk Q_BK595
                    have BK596 := Bk.mk Q_BK596
                    have BK603 := Bk.mk Q_BK603
                    have BK604 := Bk.mk Q_BK604
                    have BK611 := Bk.mk Q_BK611
                    have BK612 := Bk.mk Q_BK612
                    have HB := Bl.mk Q_HB
                    refine box_step ?hg (N := 15) ?hd (cs := #[.bool false, .int .i64 0, .int .i64 0]) (t := 30) ?hr ?_; (case hd => rfl); (case hg => rfl); (case hr => first | (go_simp; done) | (go_simp; rfl))
                    intro gb629 hg w356 hbox hb
                    have n0_ := Bk.mk (blk_below (g := gb587) bk hb)
                    have n1_ := Bk.mk (blk_below (g := gb588) bk hb)
                    have n2_ := Bk.mk (blk_below (g := gb595) bk hb)
                    have n3_ := Bk.mk (blk_below (g := gb596) bk hb)
                    have n4_ := Bk.mk (blk_below (g := gb603) bk hb)
                    have n5_ := Bk.mk (blk_below (g := gb604) bk hb)
                    have n6_ := Bk.mk (blk_below (g := gb611) bk hb)
                    have n7_ := Bk.mk (blk_below (g := gb612) bk hb)
                    have n8_ := Bl.mk (below_step bl hb)
                    have n9_ := Bk.mk (hbox)
                    have n10_ := Aside0.mk ((by rw [hg]; exact (below_size bl) : w.heap.size ≤ gb629))
                    have n11_ := Gl.mk ((by rw [hg]; exact (below_size bl) : w.heap.size ≤ gb629))
                    have n12_ := Nb.mk ((by rw [hg]; exact Nat.ne_of_lt (blk_lt (g := gb587) bk) : gb587 ≠ gb629))
                    have n13_ := Nb.mk ((by rw [hg]; exact Nat.ne_of_gt (blk_lt (g := gb587) bk) : gb629 ≠ gb587))
                    have n14_ := Nb.mk ((by rw [hg]; exact Nat.ne_of_lt (blk_lt (g := gb588) bk) : gb588 ≠ gb629))
                    have n15_ := Nb.mk ((by rw [hg]; exact Nat.ne_of_gt (blk_lt (g := gb588) bk) : gb629 ≠ gb588))
                    have n16_ := Nb.mk ((by rw [hg]; exact Nat.ne_of_lt (blk_lt (g := gb595) bk) : gb595 ≠ gb629))
                    have n17_ := Nb.mk ((by rw [hg]; exact Nat.ne_of_gt (blk_lt (g := gb595) bk) : gb629 ≠ gb595))
                    have n18_ := Nb.mk ((by rw [hg]; exact Nat.ne_of_lt (blk_lt (g := gb596) bk) : gb596 ≠ gb629))
                    have n19_ := Nb.mk ((by rw [hg]; exact Nat.ne_of_gt (blk_lt (g := gb596) bk) : gb629 ≠ gb596))
                    have n20_ := Nb.mk ((by rw [hg]; exact Nat.ne_of_lt (blk_lt (g := gb603) bk) : gb603 ≠ gb629))
                    have n21_ := Nb.mk ((by rw [hg]; exact Nat.ne_of_gt (blk_lt (g := gb603) bk) : gb629 ≠ gb603))
                    have n22_ := Nb.mk ((by rw [hg]; exact Nat.ne_of_lt (blk_lt (g := gb604) bk) : gb604 ≠ gb629))
                    have n23_ := Nb.mk ((by rw [hg]; exact Nat.ne_of_gt (blk_lt (g := gb604) bk) : gb629 ≠ gb604))
                    have n24_ := Nb.mk ((by rw [hg]; exact Nat.ne_of_lt (blk_lt (g := gb611) bk) : gb611 ≠ gb629))
                    have n25_ := Nb.mk ((by rw [hg]; exact Nat.ne_of_gt (blk_lt (g := gb611) bk) : gb629 ≠ gb611))
                    have n26_ := Nb.mk ((by rw [hg]; exact Nat.ne_of_lt (blk_lt (g := gb612) bk) : gb612 ≠ gb629))
                    have n27_ := Nb.mk ((by rw [hg]; exact Nat.ne_of_gt (blk_lt (g := gb612) bk) : gb629 ≠ gb612))
                    have z_NB630_629 := fun (h0_ : up b 12 12 = true) (h1_ : up b 12 13 = true) => (show gb630 ≠ gb629 from ((by rw [hg]; exact Nat.ne_of_lt (blk_lt (g := gb630) (o := .cells #[.bool false, .int .i64 0, .int .i64 0] 30 (0, 0)) (Q_BK630 ((up_ne (by decide)).symm.trans h1_) (hoff 15 (by kernel_rfl)))) : gb630 ≠ gb629)))
                    have z_NB629_630 := fun (h0_ : up b 12 12 = true) (h1_ : up b 12 13 = true) => (show gb629 ≠ gb630 from ((by rw [hg]; exact Nat.ne_of_gt (blk_lt (g := gb630) (o := .cells #[.bool false, .int .i64 0, .int .i64 0] 30 (0, 0)) (Q_BK630 ((up_ne (by decide)).symm.trans h1_) (hoff 15 (by kernel_rfl)))) : gb629 ≠ gb630)))
                    have z_BK630 := fun (h0_ : b 13 = true) (h1_ : b 15 = false) => (show w356.heap[gb630]? = some (.cells #[.bool false, .int .i64 0, .int .i64 0] 30 (0, 0)) from by first | exact (blk_below (g := gb630) (o := .cells #[.bool false, .int .i64 0, .int .i64 0] 30 (0, 0)) (by (with_reducible repeat (first | refine blk_drewN ?_ _ | refine blk_drew ?_ | refine blk_alloc ?_ _)); exact (Q_BK630 h0_ h1_)) hb))
                    clear BK587
                    clear BK588
                    clear BK595
                    clear BK596
                    clear BK603
                    clear BK604
                    clear BK611
                    clear BK612
                    clear HB
                    have BK587 := n0_
                    have BK588 := n1_
                    have BK595 := n2_
                    have BK596 := n3_
                    have BK603 := n4_
                    have BK604 := n5_
                    have BK611 := n6_
                    have BK612 := n7_
                    have HB := n8_
                    have BK629 := n9_
                    have GW629 := n10_
                    have GE629 := n11_
                    have NB587_629 := n12_
                    have NB629_587 := n13_
                    have NB588_629 := n14_
                    have NB629_588 := n15_
                    have NB595_629 := n16_
                    have NB629_595 := n17_
                    have NB596_629 := n18_
                    have NB629_596 := n19_
                    have NB603_629 := n20_
                    have NB629_603 := n21_
                    have NB604_629 := n22_
                    have NB629_604 := n23_
                    have NB611_629 := n24_
                    have NB629_611 := n25_
                    have NB612_629 := n26_
                    have NB629_612 := n27_
                    clear n0_ n1_ n2_ n3_ n4_ n5_ n6_ n7_ n8_ n9_ n10_ n11_ n12_ n13_ n14_ n15_ n16_ n17_ n18_ n19_ n20_ n21_ n22_ n23_ n24_ n25_ n26_ n27_
                    clear hb hbox hg
                    refine hK.out _ _ ⟨gb629, gb630, (.pointer (some ⟨gb629, 0, none⟩)), m13_, (by rw [ha.out]; exact putSel_upk 10 hb_ rfl rfl rfl), bk, bk, bk, bk, bk, bk, bk, bk, bl, z_NB630_629, z_NB629_630, fun _ _ => bk, fun _ => GW629.out, fun _ => GE629.out, fun _ => NB587_629.out, fun _ => NB629_587.out, fun _ => NB588_629.out, fun _ => NB629_588.out, fun _ => NB595_629.out, fun _ => NB629_595.out, fun _ => NB596_629.out, fun _ => NB629_596.out, fun _ => NB603_629.out, fun _ => NB629_603.out, fun _ => NB604_629.out, fun _ => NB629_604.out, fun _ => NB611_629.out, fun _ => NB629_611.out, fun _ => NB612_629.out, fun _ => NB629_612.out, z_BK630, Q_GW630, Q_GE630, Q_NB587_630, Q_NB630_587, Q_NB588_630, Q_NB630_588, Q_NB595_630, Q_NB630_595, Q_NB596_630, Q_NB630_596, Q_NB603_630, Q_NB630_603, Q_NB604_630, Q_NB630_604, Q_NB611_630, Q_NB630_611, Q_NB612_630, Q_NB630_612, fun h0_ => absurd ((hoff 14 (by kernel_rfl)).symm.trans h0_) (by decide), fun h0_ => absurd ((hoff 15 (by kernel_rfl)).symm.trans h0_) (by decide), fun _ => rfl, Q_X13_⟩
                  refine steps_cons ?_ ?_
                  · rintro b a w' ⟨gb629, gb630, m12_, m13_, ha, Q_BK587, Q_BK588, Q_BK595, Q_BK596, Q_BK603, Q_BK604, Q_BK611, Q_BK612, Q_HB, Q_NB630_629, Q_NB629_630, Q_BK629, Q_GW629, Q_GE629, Q_NB587_629, Q_NB629_587, Q_NB588_629, Q_NB629_588, Q_NB595_629, Q_NB629_595, Q_NB596_629, Q_NB629_596, Q_NB603_629, Q_NB629_603, Q_NB604_629, Q_NB629_604, Q_NB611_629, Q_NB629_611, Q_NB612_629, Q_NB629_612, Q_BK630, Q_GW630, Q_GE630, Q_NB587_630, Q_NB630_587, Q_NB588_630, Q_NB630_588, Q_NB595_630, Q_NB630_595, Q_NB596_630, Q_NB630_596, Q_NB603_630, Q_NB630_603, Q_NB604_630, Q_NB630_604, Q_NB611_630, Q_NB630_611, Q_NB612_630, Q_NB630_612, Q_BK629_e14, Q_BK630_e15, Q_X12_, Q_X13_⟩ hb_ hon hoff
                    refine ⟨_, rfl, fun K hK => ?_⟩
                    replace ha := Aside0.mk ha
                    have BK587 := Bk.mk Q_BK587
                    have BK588 := Bk.mk Q_BK588
                    have BK595 := Bk.mk Q_BK595
                    have BK596 := Bk.mk Q_BK596
                    have BK603 := Bk.mk Q_BK603
                    have BK604 := Bk.mk Q_BK604
                    have BK611 := Bk.mk Q_BK611
                    have BK612 := Bk.mk Q_BK612
                    have HB := Bl.mk Q_HB
                    refine box_step ?hg (N := 16) ?hd (cs := #[.bool false, .int .i64 0, .int .i64 0]) (t := 30) ?hr ?_; (case hd => rfl); (case hg => rfl); (case hr => first | (go_simp; done) | (go_simp; rfl))
                    intro gb630 hg w356 hbox hb
                    have n0_ := Bk.mk (blk_below (g := gb587) bk hb)
                    have n1_ := Bk.mk (blk_below (g := gb588) bk hb)
                    have n2_ := Bk.mk (blk_below (g := gb595) bk hb)
                    have n3_ := Bk.mk (blk_below (g := gb596) bk hb)
                    have n4_ := Bk.mk (blk_below (g := gb603) bk hb)
                    have n5_ := Bk.mk (blk_below (g := gb604) bk hb)
                    have n6_ := Bk.mk (blk_below (g := gb611) bk hb)
                    have n7_ := Bk.mk (blk_below (g := gb612) bk hb)
                    have n8_ := Bl.mk (below_step bl hb)
                    have n9_ := Bk.mk (hbox)
                    have n10_ := Aside0.mk ((by rw [hg]; exact (below_size bl) : w.heap.size ≤ gb630))
                    have n11_ := Gl.mk ((by rw [hg]; exact (below_size bl) : w.heap.size ≤ gb630))
                    have n12_ := Nb.mk ((by rw [hg]; exact Nat.ne_of_lt (blk_lt (g := gb587) bk) : gb587 ≠ gb630))
                    have n13_ := Nb.mk ((by rw [hg]; exact Nat.ne_of_gt (blk_lt (g := gb587) bk) : gb630 ≠ gb587))
                    have n14_ := Nb.mk ((by rw [hg]; exact Nat.ne_of_lt (blk_lt (g := gb588) bk) : gb588 ≠ gb630))
                    have n15_ := Nb.mk ((by rw [hg]; exact Nat.ne_of_gt (blk_lt (g := gb588) bk) : gb630 ≠ gb588))
                    have n16_ := Nb.mk ((by rw [hg]; exact Nat.ne_of_lt (blk_lt (g := gb595) bk) : gb595 ≠ gb630))
                    have n17_ := Nb.mk ((by rw [hg]; exact Nat.ne_of_gt (blk_lt (g := gb595) bk) : gb630 ≠ gb595))
                    have n18_ := Nb.mk ((by rw [hg]; exact Nat.ne_of_lt (blk_lt (g := gb596) bk) : gb596 ≠ gb630))
                    have n19_ := Nb.mk ((by rw [hg]; exact Nat.ne_of_gt (blk_lt (g := gb596) bk) : gb630 ≠ gb596))
                    have n20_ := Nb.mk ((by rw [hg]; exact Nat.ne_of_lt (blk_lt (g := gb603) bk) : gb603 ≠ gb630))
                    have n21_ := Nb.mk ((by rw [hg]; exact Nat.ne_of_gt (blk_lt (g := gb603) bk) : gb630 ≠ gb603))
                    have n22_ := Nb.mk ((by rw [hg]; exact Nat.ne_of_lt (blk_lt (g := gb604) bk) : gb604 ≠ gb630))
                    have n23_ := Nb.mk ((by rw [hg]; exact Nat.ne_of_gt (blk_lt (g := gb604) bk) : gb630 ≠ gb604))
                    have n24_ := Nb.mk ((by rw [hg]; exact Nat.ne_of_lt (blk_lt (g := gb611) bk) : gb611 ≠ gb630))
                    have n25_ := Nb.mk ((by rw [hg]; exact Nat.ne_of_gt (blk_lt (g := gb611) bk) : gb630 ≠ gb611))
                    have n26_ := Nb.mk ((by rw [hg]; exact Nat.ne_of_lt (blk_lt (g := gb612) bk) : gb612 ≠ gb630))
                    have n27_ := Nb.mk ((by rw [hg]; exact Nat.ne_of_gt (blk_lt (g := gb612) bk) : gb630 ≠ gb612))
                    have z_NB630_629 := fun (h0_ : up b 13 12 = true) (h1_ : up b 13 13 = true) => (show gb630 ≠ gb629 from ((by rw [hg]; exact Nat.ne_of_gt (blk_lt (g := gb629) (o := .cells #[.bool false, .int .i64 0, .int .i64 0] 30 (0, 0)) (Q_BK629 ((up_ne (by decide)).symm.trans h0_) (hoff 14 (by kernel_rfl)))) : gb630 ≠ gb629)))
                    have z_NB629_630 := fun (h0_ : up b 13 12 = true) (h1_ : up b 13 13 = true) => (show gb629 ≠ gb630 from ((by rw [hg]; exact Nat.ne_of_lt (blk_lt (g := gb629) (o := .cells #[.bool false, .int .i64 0, .int .i64 0] 30 (0, 0)) (Q_BK629 ((up_ne (by decide)).symm.trans h0_) (hoff 14 (by kernel_rfl)))) : gb629 ≠ gb630)))
                    have z_BK629 := fun (h0_ : b 12 = true) (h1_ : b 14 = false) => (show w356.heap[gb629]? = some (.cells #[.bool false, .int .i64 0, .int .i64 0] 30 (0, 0)) from by first | exact (blk_below (g := gb629) (o := .cells #[.bool false, .int .i64 0, .int .i64 0] 30 (0, 0)) (by (with_reducible repeat (first | refine blk_drewN ?_ _ | refine blk_drew ?_ | refine blk_alloc ?_ _)); exact (Q_BK629 h0_ h1_)) hb))
                    clear BK587
                    clear BK588
                    clear BK595
                    clear BK596
                    clear BK603
                    clear BK604
                    clear BK611
                    clear BK612
                    clear HB
                    have BK587 := n0_
                    have BK588 := n1_
                    have BK595 := n2_
                    have BK596 := n3_
                    have BK603 := n4_
                    have BK604 := n5_
                    have BK611 := n6_
                    have BK612 := n7_
                    have HB := n8_
                    have BK630 := n9_
                    have GW630 := n10_
                    have GE630 := n11_
                    have NB587_630 := n12_
                    have NB630_587 := n13_
                    have NB588_630 := n14_
                    have NB630_588 := n15_
                    have NB595_630 := n16_
                    have NB630_595 := n17_
                    have NB596_630 := n18_
                    have NB630_596 := n19_
                    have NB603_630 := n20_
                    have NB630_603 := n21_
                    have NB604_630 := n22_
                    have NB630_604 := n23_
                    have NB611_630 := n24_
                    have NB630_611 := n25_
                    have NB612_630 := n26_
                    have NB630_612 := n27_
                    clear n0_ n1_ n2_ n3_ n4_ n5_ n6_ n7_ n8_ n9_ n10_ n11_ n12_ n13_ n14_ n15_ n16_ n17_ n18_ n19_ n20_ n21_ n22_ n23_ n24_ n25_ n26_ n27_
                    clear hb hbox hg
                    refine hK.out _ _ ⟨gb629, gb630, m12_, (.pointer (some ⟨gb630, 0, none⟩)), (by rw [ha.out]; exact putSel_upk 11 hb_ rfl rfl rfl), bk, bk, bk, bk, bk, bk, bk, bk, bl, z_NB630_629, z_NB629_630, z_BK629, Q_GW629, Q_GE629, Q_NB587_629, Q_NB629_587, Q_NB588_629, Q_NB629_588, Q_NB595_629, Q_NB629_595, Q_NB596_629, Q_NB629_596, Q_NB603_629, Q_NB629_603, Q_NB604_629, Q_NB629_604, Q_NB611_629, Q_NB629_611, Q_NB612_629, Q_NB629_612, fun _ _ => bk, fun _ => GW630.out, fun _ => GE630.out, fun _ => NB587_630.out, fun _ => NB630_587.out, fun _ => NB588_630.out, fun _ => NB630_588.out, fun _ => NB595_630.out, fun _ => NB630_595.out, fun _ => NB596_630.out, fun _ => NB630_596.out, fun _ => NB603_630.out, fun _ => NB630_603.out, fun _ => NB604_630.out, fun _ => NB630_604.out, fun _ => NB611_630.out, fun _ => NB630_611.out, fun _ => NB612_630.out, fun _ => NB630_612.out, fun h0_ => absurd ((hoff 14 (by kernel_rfl)).symm.trans h0_) (by decide), fun h0_ => absurd ((hoff 15 (by kernel_rfl)).symm.trans h0_) (by decide), Q_X12_, fun _ => rfl⟩
                  refine steps_cons ?_ ?_
                  · rintro b a w' ⟨gb629, gb630, m12_, m13_, ha, Q_BK587, Q_BK588, Q_BK595, Q_BK596, Q_BK603, Q_BK604, Q_BK611, Q_BK612, Q_HB, Q_NB630_629, Q_NB629_630, Q_BK629, Q_GW629, Q_GE629, Q_NB587_629, Q_NB629_587, Q_NB588_629, Q_NB629_588, Q_NB595_629, Q_NB629_595, Q_NB596_629, Q_NB629_596, Q_NB603_629, Q_NB629_603, Q_NB604_629, Q_NB629_604, Q_NB611_629, Q_NB629_611, Q_NB612_629, Q_NB629_612, Q_BK630, Q_GW630, Q_GE630, Q_NB587_630, Q_NB630_587, Q_NB588_630, Q_NB630_588, Q_NB595_630, Q_NB630_595, Q_NB596_630, Q_NB630_596, Q_NB603_630, Q_NB630_603, Q_NB604_630, Q_NB630_604, Q_NB611_630, Q_NB630_611, Q_NB612_630, Q_NB630_612, Q_BK629_e14, Q_BK630_e15, Q_X12_, Q_X13_⟩ hb_ hon hoff
                    refine ⟨_, rfl, fun K hK => ?_⟩
                    have e15 : a.tmps[15]? = some (m12_) := by rw [ha]; exact putSel_on (e := (12, 15, m12_)) 10 rfl rfl (hon 12 (by kernel_rfl)) rfl
                    rw [Q_X12_ (hon 12 (by kernel_rfl))] at e15
                    have e99 : a.tmps[99]? = some (.agg #[.bool t623, .int .i64 t624, .int .i64 t625]) := by rw [ha]; exact putSel_on (e := (10, 99, .agg #[.bool t623, .int .i64 t624, .int .i64 t625])) 8 rfl rfl (hon 10 (by kernel_rfl)) rfl
                    replace ha := Aside0.mk ha
                    have BK587 := Bk.mk Q_BK587
                    have BK588 := Bk.mk Q_BK588
                    have BK595 := Bk.mk Q_BK595
                    have BK596 := Bk.mk Q_BK596
                    have BK603 := Bk.mk Q_BK603
                    have BK604 := Bk.mk Q_BK604
                    have BK611 := Bk.mk Q_BK611
                    have BK612 := Bk.mk Q_BK612
                    have HB := Bl.mk Q_HB
                    have NB630_629 := Nb.mk (Q_NB630_629 (hon 12 (by kernel_rfl)) (hon 13 (by kernel_rfl)))
                    have NB629_630 := Nb.mk (Q_NB629_630 (hon 12 (by kernel_rfl)) (hon 13 (by kernel_rfl)))
                    have BK629 := Bk.mk (Q_BK629 (hon 12 (by kernel_rfl)) hb_)
                    have GW629 := Aside0.mk (Q_GW629 (hon 12 (by kernel_rfl)))
                    have GE629 := Gl.mk (Q_GE629 (hon 12 (by kernel_rfl)))
                    have NB587_629 := Nb.mk (Q_NB587_629 (hon 12 (by kernel_rfl)))
                    have NB629_587 := Nb.mk (Q_NB629_587 (hon 12 (by kernel_rfl)))
                    have NB588_629 := Nb.mk (Q_NB588_629 (hon 12 (by kernel_rfl)))
                    have NB629_588 := Nb.mk (Q_NB629_588 (hon 12 (by kernel_rfl)))
                    have NB595_629 := Nb.mk (Q_NB595_629 (hon 12 (by kernel_rfl)))
                    have NB629_595 := Nb.mk (Q_NB629_595 (hon 12 (by kernel_rfl)))
                    have NB596_629 := Nb.mk (Q_NB596_629 (hon 12 (by kernel_rfl)))
                    have NB629_596 := Nb.mk (Q_NB629_596 (hon 12 (by kernel_rfl)))
                    have NB603_629 := Nb.mk (Q_NB603_629 (hon 12 (by kernel_rfl)))
                    have NB629_603 := Nb.mk (Q_NB629_603 (hon 12 (by kernel_rfl)))
                    have NB604_629 := Nb.mk (Q_NB604_629 (hon 12 (by kernel_rfl)))
                    have NB629_604 := Nb.mk (Q_NB629_604 (hon 12 (by kernel_rfl)))
                    have NB611_629 := Nb.mk (Q_NB611_629 (hon 12 (by kernel_rfl)))
                    have NB629_611 := Nb.mk (Q_NB629_611 (hon 12 (by kernel_rfl)))
                    have NB612_629 := Nb.mk (Q_NB612_629 (hon 12 (by kernel_rfl)))
                    have NB629_612 := Nb.mk (Q_NB629_612 (hon 12 (by kernel_rfl)))
                    have BK630 := Bk.mk (Q_BK630 (hon 13 (by kernel_rfl)) (hoff 15 (by kernel_rfl)))
                    have GW630 := Aside0.mk (Q_GW630 (hon 13 (by kernel_rfl)))
                    have GE630 := Gl.mk (Q_GE630 (hon 13 (by kernel_rfl)))
                    have NB587_630 := Nb.mk (Q_NB587_630 (hon 13 (by kernel_rfl)))
                    have NB630_587 := Nb.mk (Q_NB630_587 (hon 13 (by kernel_rfl)))
                    have NB588_630 := Nb.mk (Q_NB588_630 (hon 13 (by kernel_rfl)))
                    have NB630_588 := Nb.mk (Q_NB630_588 (hon 13 (by kernel_rfl)))
                    have NB595_630 := Nb.mk (Q_NB595_630 (hon 13 (by kernel_rfl)))
                    have NB630_595 := Nb.mk (Q_NB630_595 (hon 13 (by kernel_rfl)))
                    have NB596_630 := Nb.mk (Q_NB596_630 (hon 13 (by kernel_rfl)))
                    have NB630_596 := Nb.mk (Q_NB630_596 (hon 13 (by kernel_rfl)))
                    have NB603_630 := Nb.mk (Q_NB603_630 (hon 13 (by kernel_rfl)))
                    have NB630_603 := Nb.mk (Q_NB630_603 (hon 13 (by kernel_rfl)))
                    have NB604_630 := Nb.mk (Q_NB604_630 (hon 13 (by kernel_rfl)))
                    have NB630_604 := Nb.mk (Q_NB630_604 (hon 13 (by kernel_rfl)))
                    have NB611_630 := Nb.mk (Q_NB611_630 (hon 13 (by kernel_rfl)))
                    have NB630_611 := Nb.mk (Q_NB630_611 (hon 13 (by kernel_rfl)))
                    have NB612_630 := Nb.mk (Q_NB612_630 (hon 13 (by kernel_rfl)))
                    have NB630_612 := Nb.mk (Q_NB630_612 (hon 13 (by kernel_rfl)))
                    have hs362 : w'.cell? ⟨gb629, 0, none⟩ = some (.bool false) := (blk_cell BK629.out 0).trans rfl
                    have hfs362 := blk_frozen BK629.out 0
                    have hns362_0 := NB587_629.out
                    have hns362_1 := NB588_629.out
                    have hns362_2 := NB595_629.out
                    have hns362_3 := NB596_629.out
                    have hns362_4 := NB603_629.out
                    have hns362_5 := NB604_629.out
                    have hns362_6 := NB611_629.out
                    have hns362_7 := NB612_629.out
                    have hns362_9 := NB630_629.out
                    have hms362_0 := NB629_587.out
                    have hms362_1 := NB629_588.out
                    have hms362_2 := NB629_595.out
                    have hms362_3 := NB629_596.out
                    have hms362_4 := NB629_603.out
                    have hms362_5 := NB629_604.out
                    have hms362_6 := NB629_611.out
                    have hms362_7 := NB629_612.out
                    have hms362_9 := NB629_630.out
                    have hs363 : w'.cell? ⟨gb629, 1, none⟩ = some (.int .i64 0) := (blk_cell BK629.out 1).trans rfl
                    have hfs363 := blk_frozen BK629.out 1
                    have hns363_0 := NB587_629.out
                    have hns363_1 := NB588_629.out
                    have hns363_2 := NB595_629.out
                    have hns363_3 := NB596_629.out
                    have hns363_4 := NB603_629.out
                    have hns363_5 := NB604_629.out
                    have hns363_6 := NB611_629.out
                    have hns363_7 := NB612_629.out
                    have hns363_9 := NB630_629.out
                    have hms363_0 := NB629_587.out
                    have hms363_1 := NB629_588.out
                    have hms363_2 := NB629_595.out
                    have hms363_3 := NB629_596.out
                    have hms363_4 := NB629_603.out
                    have hms363_5 := NB629_604.out
                    have hms363_6 := NB629_611.out
                    have hms363_7 := NB629_612.out
                    have hms363_9 := NB629_630.out
                    have hs364 : w'.cell? ⟨gb629, 2, none⟩ = some (.int .i64 0) := (blk_cell BK629.out 2).trans rfl
                    have hfs364 := blk_frozen BK629.out 2
                    have hns364_0 := NB587_629.out
                    have hns364_1 := NB588_629.out
                    have hns364_2 := NB595_629.out
                    have hns364_3 := NB596_629.out
                    have hns364_4 := NB603_629.out
                    have hns364_5 := NB604_629.out
                    have hns364_6 := NB611_629.out
                    have hns364_7 := NB612_629.out
                    have hns364_9 := NB630_629.out
                    have hms364_0 := NB629_587.out
                    have hms364_1 := NB629_588.out
                    have hms364_2 := NB629_595.out
                    have hms364_3 := NB629_596.out
                    have hms364_4 := NB629_603.out
                    have hms364_5 := NB629_604.out
                    have hms364_6 := NB629_611.out
                    have hms364_7 := NB629_612.out
                    have hms364_9 := NB629_630.out
                    refine skip_ (w1 := ?_) (by rfl) rfl ?_ ?_
                    rotate_left
                    · go_simp
                      rfl
                    refine hK.out _ _ ⟨gb629, gb630, m12_, m13_, (by rw [ha.out]; exact putSel_none (v := undef) rfl), bk, bk, bk, bk, bk, bk, bk, bk, bl, fun _ _ => NB630_629.out, fun _ _ => NB629_630.out, fun _ h1_ => absurd ((up_self b 14).symm.trans h1_) (by decide), fun _ => GW629.out, fun _ => GE629.out, fun _ => NB587_629.out, fun _ => NB629_587.out, fun _ => NB588_629.out, fun _ => NB629_588.out, fun _ => NB595_629.out, fun _ => NB629_595.out, fun _ => NB596_629.out, fun _ => NB629_596.out, fun _ => NB603_629.out, fun _ => NB629_603.out, fun _ => NB604_629.out, fun _ => NB629_604.out, fun _ => NB611_629.out, fun _ => NB629_611.out, fun _ => NB612_629.out, fun _ => NB629_612.out, fun _ _ => bk, fun _ => GW630.out, fun _ => GE630.out, fun _ => NB587_630.out, fun _ => NB630_587.out, fun _ => NB588_630.out, fun _ => NB630_588.out, fun _ => NB595_630.out, fun _ => NB630_595.out, fun _ => NB596_630.out, fun _ => NB630_596.out, fun _ => NB603_630.out, fun _ => NB630_603.out, fun _ => NB604_630.out, fun _ => NB630_604.out, fun _ => NB611_630.out, fun _ => NB630_611.out, fun _ => NB612_630.out, fun _ => NB630_612.out, fun _ => bk, fun h0_ => absurd ((hoff 15 (by kernel_rfl)).symm.trans h0_) (by decide), Q_X12_, Q_X13_⟩
                  refine steps_cons ?_ ?_
                  · rintro b a w' ⟨gb629, gb630, m12_, m13_, ha, Q_BK587, Q_BK588, Q_BK595, Q_BK596, Q_BK603, Q_BK604, Q_BK611, Q_BK612, Q_HB, Q_NB630_629, Q_NB629_630, Q_BK629, Q_GW629, Q_GE629, Q_NB587_629, Q_NB629_587, Q_NB588_629, Q_NB629_588, Q_NB595_629, Q_NB629_595, Q_NB596_629, Q_NB629_596, Q_NB603_629, Q_NB629_603, Q_NB604_629, Q_NB629_604, Q_NB611_629, Q_NB629_611, Q_NB612_629, Q_NB629_612, Q_BK630, Q_GW630, Q_GE630, Q_NB587_630, Q_NB630_587, Q_NB588_630, Q_NB630_588, Q_NB595_630, Q_NB630_595, Q_NB596_630, Q_NB630_596, Q_NB603_630, Q_NB630_603, Q_NB604_630, Q_NB630_604, Q_NB611_630, Q_NB630_611, Q_NB612_630, Q_NB630_612, Q_BK629_e14, Q_BK630_e15, Q_X12_, Q_X13_⟩ hb_ hon hoff
                    refine ⟨_, rfl, fun K hK => ?_⟩
                    have e16 : a.tmps[16]? = some (m13_) := by rw [ha]; exact putSel_on (e := (13, 16, m13_)) 11 rfl rfl (hon 13 (by kernel_rfl)) rfl
                    rw [Q_X13_ (hon 13 (by kernel_rfl))] at e16
                    have e100 : a.tmps[100]? = some (.agg #[.bool t626, .int .i64 t627, .int .i64 t628]) := by rw [ha]; exact putSel_on (e := (11, 100, .agg #[.bool t626, .int .i64 t627, .int .i64 t628])) 9 rfl rfl (hon 11 (by kernel_rfl)) rfl
                    replace ha := Aside0.mk ha
                    have BK587 := Bk.mk Q_BK587
                    have BK588 := Bk.mk Q_BK588
                    have BK595 := Bk.mk Q_BK595
                    have BK596 := Bk.mk Q_BK596
                    have BK603 := Bk.mk Q_BK603
                    have BK604 := Bk.mk Q_BK604
                    have BK611 := Bk.mk Q_BK611
                    have BK612 := Bk.mk Q_BK612
                    have HB := Bl.mk Q_HB
                    have NB630_629 := Nb.mk (Q_NB630_629 (hon 12 (by kernel_rfl)) (hon 13 (by kernel_rfl)))
                    have NB629_630 := Nb.mk (Q_NB629_630 (hon 12 (by kernel_rfl)) (hon 13 (by kernel_rfl)))
                    have GW629 := Aside0.mk (Q_GW629 (hon 12 (by kernel_rfl)))
                    have GE629 := Gl.mk (Q_GE629 (hon 12 (by kernel_rfl)))
                    have NB587_629 := Nb.mk (Q_NB587_629 (hon 12 (by kernel_rfl)))
                    have NB629_587 := Nb.mk (Q_NB629_587 (hon 12 (by kernel_rfl)))
                    have NB588_629 := Nb.mk (Q_NB588_629 (hon 12 (by kernel_rfl)))
                    have NB629_588 := Nb.mk (Q_NB629_588 (hon 12 (by kernel_rfl)))
                    have NB595_629 := Nb.mk (Q_NB595_629 (hon 12 (by kernel_rfl)))
                    have NB629_595 := Nb.mk (Q_NB629_595 (hon 12 (by kernel_rfl)))
                    have NB596_629 := Nb.mk (Q_NB596_629 (hon 12 (by kernel_rfl)))
                    have NB629_596 := Nb.mk (Q_NB629_596 (hon 12 (by kernel_rfl)))
                    have NB603_629 := Nb.mk (Q_NB603_629 (hon 12 (by kernel_rfl)))
                    have NB629_603 := Nb.mk (Q_NB629_603 (hon 12 (by kernel_rfl)))
                    have NB604_629 := Nb.mk (Q_NB604_629 (hon 12 (by kernel_rfl)))
                    have NB629_604 := Nb.mk (Q_NB629_604 (hon 12 (by kernel_rfl)))
                    have NB611_629 := Nb.mk (Q_NB611_629 (hon 12 (by kernel_rfl)))
                    have NB629_611 := Nb.mk (Q_NB629_611 (hon 12 (by kernel_rfl)))
                    have NB612_629 := Nb.mk (Q_NB612_629 (hon 12 (by kernel_rfl)))
                    have NB629_612 := Nb.mk (Q_NB629_612 (hon 12 (by kernel_rfl)))
                    have BK630 := Bk.mk (Q_BK630 (hon 13 (by kernel_rfl)) hb_)
                    have GW630 := Aside0.mk (Q_GW630 (hon 13 (by kernel_rfl)))
                    have GE630 := Gl.mk (Q_GE630 (hon 13 (by kernel_rfl)))
                    have NB587_630 := Nb.mk (Q_NB587_630 (hon 13 (by kernel_rfl)))
                    have NB630_587 := Nb.mk (Q_NB630_587 (hon 13 (by kernel_rfl)))
                    have NB588_630 := Nb.mk (Q_NB588_630 (hon 13 (by kernel_rfl)))
                    have NB630_588 := Nb.mk (Q_NB630_588 (hon 13 (by kernel_rfl)))
                    have NB595_630 := Nb.mk (Q_NB595_630 (hon 13 (by kernel_rfl)))
                    have NB630_595 := Nb.mk (Q_NB630_595 (hon 13 (by kernel_rfl)))
                    have NB596_630 := Nb.mk (Q_NB596_630 (hon 13 (by kernel_rfl)))
                    have NB630_596 := Nb.mk (Q_NB630_596 (hon 13 (by kernel_rfl)))
                    have NB603_630 := Nb.mk (Q_NB603_630 (hon 13 (by kernel_rfl)))
                    have NB630_603 := Nb.mk (Q_NB630_603 (hon 13 (by kernel_rfl)))
                    have NB604_630 := Nb.mk (Q_NB604_630 (hon 13 (by kernel_rfl)))
                    have NB630_604 := Nb.mk (Q_NB630_604 (hon 13 (by kernel_rfl)))
                    have NB611_630 := Nb.mk (Q_NB611_630 (hon 13 (by kernel_rfl)))
                    have NB630_611 := Nb.mk (Q_NB630_611 (hon 13 (by kernel_rfl)))
                    have NB612_630 := Nb.mk (Q_NB612_630 (hon 13 (by kernel_rfl)))
                    have NB630_612 := Nb.mk (Q_NB630_612 (hon 13 (by kernel_rfl)))
                    have BK629 := Bk.mk (Q_BK629_e14 (hon 14 (by kernel_rfl)))
                    have hs365 : w'.cell? ⟨gb630, 0, none⟩ = some (.bool false) := (blk_cell BK630.out 0).trans rfl
                    have hfs365 := blk_frozen BK630.out 0
                    have hns365_0 := NB587_630.out
                    have hns365_1 := NB588_630.out
                    have hns365_2 := NB595_630.out
                    have hns365_3 := NB596_630.out
                    have hns365_4 := NB603_630.out
                    have hns365_5 := NB604_630.out
                    have hns365_6 := NB611_630.out
                    have hns365_7 := NB612_630.out
                    have hns365_8 := NB629_630.out
                    have hms365_0 := NB630_587.out
                    have hms365_1 := NB630_588.out
                    have hms365_2 := NB630_595.out
                    have hms365_3 := NB630_596.out
                    have hms365_4 := NB630_603.out
                    have hms365_5 := NB630_604.out
                    have hms365_6 := NB630_611.out
                    have hms365_7 := NB630_612.out
                    have hms365_8 := NB630_629.out
                    have hs366 : w'.cell? ⟨gb630, 1, none⟩ = some (.int .i64 0) := (blk_cell BK630.out 1).trans rfl
                    have hfs366 := blk_frozen BK630.out 1
                    have hns366_0 := NB587_630.out
                    have hns366_1 := NB588_630.out
                    have hns366_2 := NB595_630.out
                    have hns366_3 := NB596_630.out
                    have hns366_4 := NB603_630.out
                    have hns366_5 := NB604_630.out
                    have hns366_6 := NB611_630.out
                    have hns366_7 := NB612_630.out
                    have hns366_8 := NB629_630.out
                    have hms366_0 := NB630_587.out
                    have hms366_1 := NB630_588.out
                    have hms366_2 := NB630_595.out
                    have hms366_3 := NB630_596.out
                    have hms366_4 := NB630_603.out
                    have hms366_5 := NB630_604.out
                    have hms366_6 := NB630_611.out
                    have hms366_7 := NB630_612.out
                    have hms366_8 := NB630_629.out
                    have hs367 : w'.cell? ⟨gb630, 2, none⟩ = some (.int .i64 0) := (blk_cell BK630.out 2).trans rfl
                    have hfs367 := blk_frozen BK630.out 2
                    have hns367_0 := NB587_630.out
                    have hns367_1 := NB588_630.out
                    have hns367_2 := NB595_630.out
                    have hns367_3 := NB596_630.out
                    have hns367_4 := NB603_630.out
                    have hns367_5 := NB604_630.out
                    have hns367_6 := NB611_630.out
                    have hns367_7 := NB612_630.out
                    have hns367_8 := NB629_630.out
                    have hms367_0 := NB630_587.out
                    have hms367_1 := NB630_588.out
                    have hms367_2 := NB630_595.out
                    have hms367_3 := NB630_596.out
                    have hms367_4 := NB630_603.out
                    have hms367_5 := NB630_604.out
                    have hms367_6 := NB630_611.out
                    have hms367_7 := NB630_612.out
                    have hms367_8 := NB630_629.out
                    refine skip_ (w1 := ?_) (by rfl) rfl ?_ ?_
                    rotate_left
                    · go_simp
                      rfl
                    refine hK.out _ _ ⟨gb629, gb630, m12_, m13_, (by rw [ha.out]; exact putSel_none (v := undef) rfl), bk, bk, bk, bk, bk, bk, bk, bk, bl, fun _ _ => NB630_629.out, fun _ _ => NB629_630.out, fun _ h1_ => absurd ((hon 14 (by kernel_rfl)).symm.trans h1_) (by decide), fun _ => GW629.out, fun _ => GE629.out, fun _ => NB587_629.out, fun _ => NB629_587.out, fun _ => NB588_629.out, fun _ => NB629_588.out, fun _ => NB595_629.out, fun _ => NB629_595.out, fun _ => NB596_629.out, fun _ => NB629_596.out, fun _ => NB603_629.out, fun _ => NB629_603.out, fun _ => NB604_629.out, fun _ => NB629_604.out, fun _ => NB611_629.out, fun _ => NB629_611.out, fun _ => NB612_629.out, fun _ => NB629_612.out, fun _ h1_ => absurd ((up_self b 15).symm.trans h1_) (by decide), fun _ => GW630.out, fun _ => GE630.out, fun _ => NB587_630.out, fun _ => NB630_587.out, fun _ => NB588_630.out, fun _ => NB630_588.out, fun _ => NB595_630.out, fun _ => NB630_595.out, fun _ => NB596_630.out, fun _ => NB630_596.out, fun _ => NB603_630.out, fun _ => NB630_603.out, fun _ => NB604_630.out, fun _ => NB630_604.out, fun _ => NB611_630.out, fun _ => NB630_611.out, fun _ => NB612_630.out, fun _ => NB630_612.out, fun _ => bk, fun _ => bk, Q_X12_, Q_X13_⟩
                  exact steps_nil
                rintro b a w367 hall ⟨gb629, gb630, m12_, m13_, ha, Q_BK587, Q_BK588, Q_BK595, Q_BK596, Q_BK603, Q_BK604, Q_BK611, Q_BK612, Q_HB, Q_NB630_629, Q_NB629_630, Q_BK629, Q_GW629, Q_GE629, Q_NB587_629, Q_NB629_587, Q_NB588_629, Q_NB629_588, Q_NB595_629, Q_NB629_595, Q_NB596_629, Q_NB629_596, Q_NB603_629, Q_NB629_603, Q_NB604_629, Q_NB629_604, Q_NB611_629, Q_NB629_611, Q_NB612_629, Q_NB629_612, Q_BK630, Q_GW630, Q_GE630, Q_NB587_630, Q_NB630_587, Q_NB588_630, Q_NB630_588, Q_NB595_630, Q_NB630_595, Q_NB596_630, Q_NB630_596, Q_NB603_630, Q_NB630_603, Q_NB604_630, Q_NB630_604, Q_NB611_630, Q_NB630_611, Q_NB612_630, Q_NB630_612, Q_BK629_e14, Q_BK630_e15, Q_X12_, Q_X13_⟩
                clear BK587 BK588 BK595 BK596 BK603 BK604 BK611 BK612 HB
                have hb1_ := hall 1 (by kernel_rfl)
                have hb2_ := hall 2 (by kernel_rfl)
                have hb3_ := hall 3 (by kernel_rfl)
                have hb4_ := hall 4 (by kernel_rfl)
                have hb5_ := hall 5 (by kernel_rfl)
                have hb6_ := hall 6 (by kernel_rfl)
                have hb8_ := hall 8 (by kernel_rfl)
                have hb9_ := hall 9 (by kernel_rfl)
                have hb10_ := hall 10 (by kernel_rfl)
                have hb11_ := hall 11 (by kernel_rfl)
                have hb12_ := hall 12 (by kernel_rfl)
                have hb13_ := hall 13 (by kernel_rfl)
                have hb14_ := hall 14 (by kernel_rfl)
                have hb15_ := hall 15 (by kernel_rfl)
                subst ha
                obtain rfl := Q_X12_ hb12_
                obtain rfl := Q_X13_ hb13_
                simp only [putSel, hb1_, hb2_, hb3_, hb4_, hb5_, hb6_, hb8_, hb9_, hb10_, hb11_, hb12_, hb13_, hb14_, hb15_, if_true, Act.put, List.setIfInBounds_toArray, List.set_cons_zero, List.set_cons_succ]
                have BK587 := Bk.mk Q_BK587
                clear Q_BK587
                have BK588 := Bk.mk Q_BK588
                clear Q_BK588
                have BK595 := Bk.mk Q_BK595
                clear Q_BK595
                have BK596 := Bk.mk Q_BK596
                clear Q_BK596
                have BK603 := Bk.mk Q_BK603
                clear Q_BK603
                have BK604 := Bk.mk Q_BK604
                clear Q_BK604
                have BK611 := Bk.mk Q_BK611
                clear Q_BK611
                have BK612 := Bk.mk Q_BK612
                clear Q_BK612
                have HB := Bl.mk Q_HB
                clear Q_HB
                have NB630_629 := Nb.mk (Q_NB630_629 hb12_ hb13_)
                clear Q_NB630_629
                have NB629_630 := Nb.mk (Q_NB629_630 hb12_ hb13_)
                clear Q_NB629_630
                clear Q_BK629
                have GW629 := Aside0.mk (Q_GW629 hb12_)
                clear Q_GW629
                have GE629 := Gl.mk (Q_GE629 hb12_)
                clear Q_GE629
                have NB587_629 := Nb.mk (Q_NB587_629 hb12_)
                clear Q_NB587_629
                have NB629_587 := Nb.mk (Q_NB629_587 hb12_)
                clear Q_NB629_587
                have NB588_629 := Nb.mk (Q_NB588_629 hb12_)
                clear Q_NB588_629
                have NB629_588 := Nb.mk (Q_NB629_588 hb12_)
                clear Q_NB629_588
                have NB595_629 := Nb.mk (Q_NB595_629 hb12_)
                clear Q_NB595_629
                have NB629_595 := Nb.mk (Q_NB629_595 hb12_)
                clear Q_NB629_595
                have NB596_629 := Nb.mk (Q_NB596_629 hb12_)
                clear Q_NB596_629
                have NB629_596 := Nb.mk (Q_NB629_596 hb12_)
                clear Q_NB629_596
                have NB603_629 := Nb.mk (Q_NB603_629 hb12_)
                clear Q_NB603_629
                have NB629_603 := Nb.mk (Q_NB629_603 hb12_)
                clear Q_NB629_603
                have NB604_629 := Nb.mk (Q_NB604_629 hb12_)
                clear Q_NB604_629
                have NB629_604 := Nb.mk (Q_NB629_604 hb12_)
                clear Q_NB629_604
                have NB611_629 := Nb.mk (Q_NB611_629 hb12_)
                clear Q_NB611_629
                have NB629_611 := Nb.mk (Q_NB629_611 hb12_)
                clear Q_NB629_611
                have NB612_629 := Nb.mk (Q_NB612_629 hb12_)
                clear Q_NB612_629
                have NB629_612 := Nb.mk (Q_NB629_612 hb12_)
                clear Q_NB629_612
                clear Q_BK630
                have GW630 := Aside0.mk (Q_GW630 hb13_)
                clear Q_GW630
                have GE630 := Gl.mk (Q_GE630 hb13_)
                clear Q_GE630
                have NB587_630 := Nb.mk (Q_NB587_630 hb13_)
                clear Q_NB587_630
                have NB630_587 := Nb.mk (Q_NB630_587 hb13_)
                clear Q_NB630_587
                have NB588_630 := Nb.mk (Q_NB588_630 hb13_)
                clear Q_NB588_630
                have NB630_588 := Nb.mk (Q_NB630_588 hb13_)
                clear Q_NB630_588
                have NB595_630 := Nb.mk (Q_NB595_630 hb13_)
                clear Q_NB595_630
                have NB630_595 := Nb.mk (Q_NB630_595 hb13_)
                clear Q_NB630_595
                have NB596_630 := Nb.mk (Q_NB596_630 hb13_)
                clear Q_NB596_630
                have NB630_596 := Nb.mk (Q_NB630_596 hb13_)
                clear Q_NB630_596
                have NB603_630 := Nb.mk (Q_NB603_630 hb13_)
                clear Q_NB603_630
                have NB630_603 := Nb.mk (Q_NB630_603 hb13_)
                clear Q_NB630_603
                have NB604_630 := Nb.mk (Q_NB604_630 hb13_)
                clear Q_NB604_630
                have NB630_604 := Nb.mk (Q_NB630_604 hb13_)
                clear Q_NB630_604
                have NB611_630 := Nb.mk (Q_NB611_630 hb13_)
                clear Q_NB611_630
                have NB630_611 := Nb.mk (Q_NB630_611 hb13_)
                clear Q_NB630_611
                have NB612_630 := Nb.mk (Q_NB612_630 hb13_)
                clear Q_NB612_630
                have NB630_612 := Nb.mk (Q_NB630_612 hb13_)
                clear Q_NB630_612
                have BK629 := Bk.mk (Q_BK629_e14 hb14_)
                clear Q_BK629_e14
                have BK630 := Bk.mk (Q_BK630_e15 hb15_)
                clear Q_BK630_e15
                clear hall hb1_ hb2_ hb3_ hb4_ hb5_ hb6_ hb8_ hb9_ hb10_ hb11_ hb12_ hb13_ hb14_ hb15_
                have hcz377_0 := bc0 BK603.out
                have hcz377_1 := bc1 BK603.out
                have hcz377_2 := bc2 BK603.out
                have hfz377_0 := blk_frozen BK603.out 0
                have hfz377_1 := blk_frozen BK603.out 1
                have hfz377_2 := blk_frozen BK603.out 2
                have hcz386_0 := bc0 BK629.out
                have hcz386_1 := bc1 BK629.out
                have hcz386_2 := bc2 BK629.out
                have hfz386_0 := blk_frozen BK629.out 0
                have hfz386_1 := blk_frozen BK629.out 1
                have hfz386_2 := blk_frozen BK629.out 2
                try go_wp2_with (first | ((with_reducible refine gate_callee (f := 26) rfl ?_); refine goesL_ (some 103) rfl rfl Try.func26 (by kernel_rfl) rfl #[.agg #[.bool t597, .int .i64 t598, .int .i64 t599], .agg #[.bool t623, .int .i64 t624, .int .i64 t625]] rfl (by (try simp only [List.map_toArray, List.map_cons, List.map_nil]); first | done | rfl | (simp only [List.length_drop, List.length_take]; rfl)) ?_; (with_reducible refine (impl_SpanIn.calls t597 t598 t599 t623 t624 t625 false _ A303.out).mono ?_); rintro e w387 ⟨rfl, hb⟩; refine ⟨_, rfl, ?_⟩; have n0_ := Bk.mk (blk_below (g := gb587) bk hb); have n1_ := Bk.mk (blk_below (g := gb588) bk hb); have n2_ := Bk.mk (blk_below (g := gb595) bk hb); have n3_ := Bk.mk (blk_below (g := gb596) bk hb); have n4_ := Bk.mk (blk_below (g := gb603) bk hb); have n5_ := Bk.mk (blk_below (g := gb604) bk hb); have n6_ := Bk.mk (blk_below (g := gb611) bk hb); have n7_ := Bk.mk (blk_below (g := gb612) bk hb); have n8_ := Bk.mk (blk_below (g := gb629) bk hb); have n9_ := Bk.mk (blk_below (g := gb630) bk hb); have n10_ := Bl.mk (below_step bl hb); clear BK587; clear BK588; clear BK595; clear BK596; clear BK603; clear BK604; clear BK611; clear BK612; clear BK629; clear BK630; clear HB; have BK587 := n0_; have BK588 := n1_; have BK595 := n2_; have BK596 := n3_; have BK603 := n4_; have BK604 := n5_; have BK611 := n6_; have BK612 := n7_; have BK629 := n8_; have BK630 := n9_; have HB := n10_; clear n0_ n1_ n2_ n3_ n4_ n5_ n6_ n7_ n8_ n9_ n10_; (try clear hb); (try clear hb2); (try clear hk); (try clear hi)))
                go_ret
                exact ⟨by first | rfl | (simp [errW_none, errW_some] <;> rfl) | (simp [*, errW_none, errW_some] <;> rfl), bl⟩

/-- THE ONE PURE STATEMENT of laws_FnWhenMore: yours. -/
def laws_FnWhenMore.Pure : Prop := ∀ (l0 : List Int) (l1 : List Int), l0.length ≤ maxLen → l0.length * 1 ≤ 140737488351232 → (∀ x ∈ l0, (Lit.int .u8 x).wf = true) → l1.length ≤ maxLen → l1.length * 1 ≤ 140737488351232 → (∀ x ∈ l1, (Lit.int .u8 x).wf = true) → ∃ k, laws_FnWhenMore.f k l0 l1 = some true
theorem laws_FnWhenMore.walk (P : laws_FnWhenMore.Pure) (a0 : Option Addr) (len0 cap0 : Nat) (z0 : List Int) (a1 : Option Addr) (len1 cap1 : Nat) (z1 : List Int) (w : World) (w0 : (a0 = none ∧ len0 = 0 ∧ cap0 = 0 ∧ z0 = []) ∨ ∃ x, a0 = some x ∧ len0 ≤ cap0 ∧ cap0 ≤ maxLen ∧ z0.length = cap0 ∧ (∀ i, i < z0.length → w.cell? (x.add i) = some (.int .u8 (z0.getD i 0))) ∧ ∀ n ∈ z0, (Lit.int .u8 n).wf = true) (y0 : len0 * 1 ≤ 140737488351232) (w1 : (a1 = none ∧ len1 = 0 ∧ cap1 = 0 ∧ z1 = []) ∨ ∃ x, a1 = some x ∧ len1 ≤ cap1 ∧ cap1 ≤ maxLen ∧ z1.length = cap1 ∧ (∀ i, i < z1.length → w.cell? (x.add i) = some (.int .u8 (z1.getD i 0))) ∧ ∀ n ∈ z1, (Lit.int .u8 n).wf = true) (y1 : len1 * 1 ≤ 140737488351232) :
    Calls Try.prog 8 #[.slice a0 len0 cap0, .slice a1 len1 cap1] w fun e w' => e = .returned (.bool true) ∧ Below w.heap.size w w' := by
  obtain ⟨l0, rfl, hr0, hm0, hw0, hc0⟩ := ReadsInt.ofRowC w0
  obtain ⟨l1, rfl, hr1, hm1, hw1, hc1⟩ := ReadsInt.ofRowC w1
  obtain ⟨k, h⟩ := P l0 l1 hm0 y0 hw0 hm1 y1 hw1
  refine (laws_FnWhenMore.calls k _ _ l0 _ _ l1 true w (Kd.C_of_reads (d := (0 : Int)) (h1 := fun _ => rfl) hr0) hc0 (Kd.C_of_reads (d := (0 : Int)) (h1 := fun _ => rfl) hr1) hc1 h).mono ?_
  rintro e w' ⟨rfl, hd⟩
  exact ⟨rfl, hd⟩

end Go.Proofs.Ytekmapilhomdgaa.P
