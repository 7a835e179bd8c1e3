/- The contracts of Go functions of this seat: each call comes to what the Lean function of the same name says. -/
import Derived.Test.YtekmapilhomdgaaPx0
import Derived.Test.YtekmapilhomdgaaPx20
import Derived.Test.YtekmapilhomdgaaPx21
import Derived.Test.YtekmapilhomdgaaPx26
import Derived.Test.YtekmapilhomdgaaPx27
namespace Go.Proofs.Ytekmapilhomdgaa.P
open Go.RowKit Go.Proofs.YtekmapilhomdgaaW.PrintWords Go.Proofs.YtekmapilhomdgaaW.PrintLast Go.Proofs.YtekmapilhomdgaaW.PrintMore
attribute [local go_sem] max2_int min2_int max_two min_two max_three min_three max_four min_four   -- for this text's walks alone
set_option linter.unusedVariables false
set_option linter.unusedSimpArgs false

/-! ### laws_FnExactSpanWhen: function 6 -/
def laws_FnExactSpanWhen.f (k : Nat) (a0 : Int) (a1_0 : Bool) (a1_1 : Int) (a1_2 : Int) (a2_0 : Bool) (a2_1 : Int) (a2_2 : Int) (a3 : Bool) : Option (Bool) := (laws_toSpan.f a1_0 a1_1 a1_2).bind fun bt333 => ((laws_toSpan.f a2_0 a2_1 a2_2).bind fun bt336 => ((spec_SpanWhen.f k a0 bt333.1 bt333.2.1 bt333.2.2 bt336.1 bt336.2.1 bt336.2.2 a3).bind fun bt339 => ((laws_toSpan.f a1_0 a1_1 a1_2).bind fun bt347 => ((laws_toSpan.f a2_0 a2_1 a2_2).bind fun bt350 => ((impl_SpanWhen.f k a0 bt347.1 bt347.2.1 bt347.2.2 bt350.1 bt350.2.1 bt350.2.2 a3).bind fun bt353 => ((laws_eqSpan.f bt353.1 bt353.2.1 bt353.2.2.1 bt339.1 bt339.2.1 bt339.2.2.1).bind fun t361 => (if t361 = true then ((laws_eqSpan.f bt353.2.2.2.1 bt353.2.2.2.2.1 bt353.2.2.2.2.2 bt339.2.2.2.1 bt339.2.2.2.2.1 bt339.2.2.2.2.2).bind fun t362 => (if t362 = true then (some true) else (some false))) else (some false))))))))
theorem laws_FnExactSpanWhen.mono : ∀ a0 a1 a2 a3 a4 a5 a6 a7 k, LeO (laws_FnExactSpanWhen.f k a0 a1 a2 a3 a4 a5 a6 a7) (laws_FnExactSpanWhen.f (k + 1) a0 a1 a2 a3 a4 a5 a6 a7) := by
  intro a0 a1 a2 a3 a4 a5 a6 a7 k
  unfold laws_FnExactSpanWhen.f
  repeat' first
      | (with_reducible exact impl_SpanWhen.mono _ _ _ _ _ _ _ _ _)
      | (with_reducible exact spec_SpanWhen.mono _ _ _ _ _ _ _ _ _)
      | (with_reducible exact LeO.refl _)
      | (with_reducible exact LeO.none _)
      | (with_reducible refine LeO.ite ?_ ?_)
      | (with_reducible refine LeO.bind ?_ (fun _ => ?_))
      | exact impl_SpanWhen.mono _ _ _ _ _ _ _ _ _
      | exact spec_SpanWhen.mono _ _ _ _ _ _ _ _ _
      | exact LeO.none _
      | refine LeO.ite ?_ ?_
      | refine LeO.bind ?_ (fun _ => ?_)
def laws_FnExactSpanWhen.T1 : Bool × List (List Nat × List Nat) := (true, [([], []), ([], []), ([1], [1]), ([], []), ([3, 2], [3]), ([], []), ([0, 2, 4, 5, 4], [0, 2, 4, 5]), ([6], [6]), ([7], [7]), ([7], [7]), ([], []), ([], []), ([10, 8, 6, 0, 1, 2, 3, 4, 5, 6, 7, 8, 10, 11], [8, 10]), ([11, 9, 12, 0, 1, 2, 3, 4, 5, 6, 7, 8, 9, 10, 11, 12], [9, 11])])
def laws_FnExactSpanWhen.B1 : List Nat := [0, 0, 2, 0, 14, 0, 63, 127, 255, 255, 0, 0, 3583, 8191]
theorem laws_FnExactSpanWhen.tab1 : rtab .any (opsOf Try.f6 1) = laws_FnExactSpanWhen.T1 := by kernel_rfl
theorem laws_FnExactSpanWhen.bits1 : waitsOk laws_FnExactSpanWhen.T1.2 laws_FnExactSpanWhen.B1 = true := by kernel_rfl
def laws_FnExactSpanWhen.T2 : Bool × List (List Nat × List Nat) := (true, [([], []), ([], []), ([1], [1]), ([], []), ([3, 2], [3]), ([], []), ([0, 2, 4, 5, 4], [0, 2, 4, 5]), ([6], [6]), ([7], [7]), ([7], [7]), ([], []), ([], []), ([10, 8, 6, 0, 1, 2, 3, 4, 5, 6, 7, 8, 10, 11], [8, 10]), ([11, 9, 12, 0, 1, 2, 3, 4, 5, 6, 7, 8, 9, 10, 11, 12], [9, 11])])
def laws_FnExactSpanWhen.B2 : List Nat := [0, 0, 2, 0, 14, 0, 63, 127, 255, 255, 0, 0, 3583, 8191]
theorem laws_FnExactSpanWhen.tab2 : rtab .any (opsOf Try.f6 2) = laws_FnExactSpanWhen.T2 := by kernel_rfl
theorem laws_FnExactSpanWhen.bits2 : waitsOk laws_FnExactSpanWhen.T2.2 laws_FnExactSpanWhen.B2 = true := by kernel_rfl
set_option maxHeartbeats 8000000 in
set_option maxRecDepth 100000 in
theorem laws_FnExactSpanWhen.calls (k : Nat) (a0 : Int) (a1_0 : Bool) (a1_1 : Int) (a1_2 : Int) (a2_0 : Bool) (a2_1 : Int) (a2_2 : Int) (a3 : Bool) (r : Bool) (w : World) (h : laws_FnExactSpanWhen.f k a0 a1_0 a1_1 a1_2 a2_0 a2_1 a2_2 a3 = some r) :
    Calls Try.prog 6 #[.int .i64 a0, .agg #[.bool a1_0, .int .i64 a1_1, .int .i64 a1_2], .agg #[.bool a2_0, .int .i64 a2_1, .int .i64 a2_2], .bool a3] w fun e w' => e = .returned (.bool r) ∧ Below w.heap.size w w' := by
  have hu34 := Try.underlying34
  have hu30 := Try.underlying30
  have HB := Bl.mk (Below.refl w.heap.size w)
  unfold laws_FnExactSpanWhen.f at h
  have H := h
  clear h
  replace H := Option.bind_eq_some_iff.mp H
  obtain ⟨⟨t333, t334, t335⟩, A50, H⟩ := H
  try dsimp only at H
  have A5 := Aside0.mk A50
  clear A50
  replace H := Option.bind_eq_some_iff.mp H
  obtain ⟨⟨t336, t337, t338⟩, A60, H⟩ := H
  try dsimp only at H
  have A6 := Aside0.mk A60
  clear A60
  replace H := Option.bind_eq_some_iff.mp H
  obtain ⟨⟨t339, t340, t341, t342, t343, t344⟩, A70, H⟩ := H
  try dsimp only at H
  have A7 := Aside0.mk A70
  clear A70
  replace H := Option.bind_eq_some_iff.mp H
  obtain ⟨⟨t347, t348, t349⟩, A80, H⟩ := H
  obtain ⟨rfl, rfl, rfl⟩ : t333 = t347 ∧ t334 = t348 ∧ t335 = t349 := by simpa using A5.out.symm.trans A80
  try dsimp only at H
  have A8 := Aside0.mk A80
  clear A80
  replace H := Option.bind_eq_some_iff.mp H
  obtain ⟨⟨t350, t351, t352⟩, A90, H⟩ := H
  obtain ⟨rfl, rfl, rfl⟩ : t336 = t350 ∧ t337 = t351 ∧ t338 = t352 := by simpa using A6.out.symm.trans A90
  try dsimp only at H
  have A9 := Aside0.mk A90
  clear A90
  replace H := Option.bind_eq_some_iff.mp H
  obtain ⟨⟨t353, t354, t355, t356, t357, t358⟩, A100, H⟩ := H
  try dsimp only at H
  have A10 := Aside0.mk A100
  clear A100
  replace H := Option.bind_eq_some_iff.mp H
  obtain ⟨t361, A110, H⟩ := H
  try dsimp only at H
  have A11 := Aside0.mk A110
  clear A110
  by_cases c12 : t361 = true
  · subst c12
    rw [if_pos rfl] at H
    replace H := Option.bind_eq_some_iff.mp H
    obtain ⟨t362, A130, H⟩ := H
    try dsimp only at H
    have A13 := Aside0.mk A130
    clear A130
    by_cases c14 : t362 = true
    · subst c14
      rw [if_pos rfl] at H
      obtain rfl := Option.some.inj H
      go_enter Try.func6, Try.ntmps6
      try go_wp2_with (first | ((with_reducible refine gate_dst (N := 5) rfl ?_); refine box_event ?hg (N := 5) ?hd (cs := #[.bool a1_0, .int .i64 a1_1, .int .i64 a1_2]) (t := 34) ?hr ?_; (case hd => rfl); (case hg => rfl); (case hr => first | (go_simp; done) | (go_simp; rfl)); intro gb331 hg w15 hbox hb; have n0_ := Bl.mk (below_step bl hb); have n1_ := Bk.mk (hbox); have n2_ := Aside0.mk ((by rw [hg]; exact (below_size bl) : w.heap.size ≤ gb331)); have n3_ := Gl.mk ((by rw [hg]; exact (below_size bl) : w.heap.size ≤ gb331)); clear HB; have HB := n0_; have BK331 := n1_; have GW331 := n2_; have GE331 := n3_; clear n0_ n1_ n2_ n3_; clear hb hbox hg) | ((with_reducible refine gate_dst (N := 6) rfl ?_); refine box_event ?hg (N := 6) ?hd (cs := #[.bool a2_0, .int .i64 a2_1, .int .i64 a2_2]) (t := 34) ?hr ?_; (case hd => rfl); (case hg => rfl); (case hr => first | (go_simp; done) | (go_simp; rfl)); intro gb332 hg w16 hbox hb; have n0_ := Bk.mk (blk_below (g := gb331) bk hb); have n1_ := Bl.mk (below_step bl hb); have n2_ := Bk.mk (hbox); have n3_ := Aside0.mk ((by rw [hg]; exact (below_size bl) : w.heap.size ≤ gb332)); have n4_ := Gl.mk ((by rw [hg]; exact (below_size bl) : w.heap.size ≤ gb332)); have n5_ := Nb.mk ((by rw [hg]; exact Nat.ne_of_lt (blk_lt (g := gb331) bk) : gb331 ≠ gb332)); have n6_ := Nb.mk ((by rw [hg]; exact Nat.ne_of_gt (blk_lt (g := gb331) bk) : gb332 ≠ gb331)); clear BK331; clear HB; have BK331 := n0_; have HB := n1_; have BK332 := n2_; have GW332 := n3_; have GE332 := n4_; have NB331_332 := n5_; have NB332_331 := n6_; clear n0_ n1_ n2_ n3_ n4_ n5_ n6_; clear hb hbox hg))
      have n0_ := Bk.mk (blk_drew BK331.out)
      have n1_ := Bk.mk (blk_drew BK332.out)
      have n2_ := Bl.mk (below_drew1 HB.out)
      clear BK331
      clear BK332
      clear HB
      have BK331 := n0_
      have BK332 := n1_
      have HB := n2_
      clear n0_ n1_ n2_
      refine start_ (n := 14) (S := fun w' => True) (ds := []) #[false, false, false, false, false, false, false, false, false, false, false, false, false, false] (by kernel_rfl) rfl rfl trivial (fun hHeld => ?_); refine with_tabW laws_FnExactSpanWhen.tab1 laws_FnExactSpanWhen.bits1 (fun HT_ HW_ => ?_)
      generalize w16.drew = w17 at BK331 BK332 HB hHeld ⊢
      refine pure_ (i := 0) (N := some 14) (v := ?_) (a' := ?_) #[true, false, false, false, false, false, false, false, false, false, false, false, false, false] rfl rfl (any_of HT_.out (by kernel_rfl)) (fun _ _ _ h => h) (Or.inl ⟨by rfl, ?_⟩) ?_ ?_
      rotate_left
      · intro w'
        go_simp
        with_reducible rfl
      rotate_left
      · simp only [Act.put, List.setIfInBounds_toArray, List.set_cons_zero, List.set_cons_succ, i64_w, i32_w]
        rfl
      refine pure_ (i := 5) (N := some 19) (v := ?_) (a' := ?_) #[true, false, false, false, false, true, false, false, false, false, false, false, false, false] rfl rfl (any_of HT_.out (by kernel_rfl)) (fun _ _ _ h => h) (Or.inl ⟨by rfl, ?_⟩) ?_ ?_
      rotate_left
      · intro w'
        go_simp
        with_reducible rfl
      rotate_left
      · simp only [Act.put, List.setIfInBounds_toArray, List.set_cons_zero, List.set_cons_succ, i64_w, i32_w]
        rfl
      refine inv_at [1, 2, 3, 4, 6, 7, 8, 9, 10, 11, 12, 13] (fun a0_ b a w' => ∃ (gb345 : Nat) (gb346 : Nat) (m10_ : Value) (m11_ : Value), a = putSel a0_ b [(1, 15, .agg #[.bool a1_0, .int .i64 a1_1, .int .i64 a1_2]), (2, 16, .agg #[.bool t333, .int .i64 t334, .int .i64 t335]), (3, 17, .agg #[.bool a2_0, .int .i64 a2_1, .int .i64 a2_2]), (4, 18, .agg #[.bool t336, .int .i64 t337, .int .i64 t338]), (6, 20, .tuple #[.agg #[.bool t339, .int .i64 t340, .int .i64 t341], .agg #[.bool t342, .int .i64 t343, .int .i64 t344]]), (7, 13, .tuple #[.agg #[.bool t339, .int .i64 t340, .int .i64 t341], .agg #[.bool t342, .int .i64 t343, .int .i64 t344]]), (8, 21, .agg #[.bool t339, .int .i64 t340, .int .i64 t341]), (9, 22, .agg #[.bool t342, .int .i64 t343, .int .i64 t344]), (10, 9, m10_), (11, 10, m11_)] ∧ (w'.heap[gb331]? = some (.cells #[.bool a1_0, .int .i64 a1_1, .int .i64 a1_2] 34 (0, 0))) ∧ (w'.heap[gb332]? = some (.cells #[.bool a2_0, .int .i64 a2_1, .int .i64 a2_2] 34 (0, 0))) ∧ (Below w.heap.size w w') ∧ (b 10 = true → b 11 = true → gb346 ≠ gb345) ∧ (b 10 = true → b 11 = true → gb345 ≠ gb346) ∧ (b 10 = true → b 12 = false → w'.heap[gb345]? = some (.cells #[.bool false, .int .i64 0, .int .i64 0] 30 (0, 0))) ∧ (b 10 = true → w.heap.size ≤ gb345) ∧ (b 10 = true → w.heap.size ≤ gb345) ∧ (b 10 = true → gb331 ≠ gb345) ∧ (b 10 = true → gb345 ≠ gb331) ∧ (b 10 = true → gb332 ≠ gb345) ∧ (b 10 = true → gb345 ≠ gb332) ∧ (b 11 = true → b 13 = false → w'.heap[gb346]? = some (.cells #[.bool false, .int .i64 0, .int .i64 0] 30 (0, 0))) ∧ (b 11 = true → w.heap.size ≤ gb346) ∧ (b 11 = true → w.heap.size ≤ gb346) ∧ (b 11 = true → gb331 ≠ gb346) ∧ (b 11 = true → gb346 ≠ gb331) ∧ (b 11 = true → gb332 ≠ gb346) ∧ (b 11 = true → gb346 ≠ gb332) ∧ (b 12 = true → w'.heap[gb345]? = some (.cells #[.bool t339, .int .i64 t340, .int .i64 t341] 30 (0, 0))) ∧ (b 13 = true → w'.heap[gb346]? = some (.cells #[.bool t342, .int .i64 t343, .int .i64 t344] 30 (0, 0))) ∧ (b 10 = true → (m10_ : Value) = .pointer (some ⟨gb345, 0, none⟩)) ∧ (b 11 = true → (m11_ : Value) = .pointer (some ⟨gb346, 0, none⟩))) HT_.out HW_.out (by kernel_rfl) (by kernel_rfl) ?_ ?_ ?_
      · exact ⟨0, 0, .bool false, .bool false, by simp only [putSel, Bool.false_eq_true, if_false], BK331.out, BK332.out, HB.out, fun h_ => absurd h_ (by decide), fun h_ => absurd h_ (by decide), fun h_ => absurd h_ (by decide), fun h_ => absurd h_ (by decide), fun h_ => absurd h_ (by decide), fun h_ => absurd h_ (by decide), fun h_ => absurd h_ (by decide), fun h_ => absurd h_ (by decide), fun h_ => absurd h_ (by decide), fun h_ => absurd h_ (by decide), fun h_ => absurd h_ (by decide), fun h_ => absurd h_ (by decide), fun h_ => absurd h_ (by decide), fun h_ => absurd h_ (by decide), fun h_ => absurd h_ (by decide), fun h_ => absurd h_ (by decide), fun h_ => absurd h_ (by decide), fun h_ => absurd h_ (by decide), fun h_ => absurd h_ (by decide), fun h_ => absurd h_ (by decide)⟩
      · skip
        clear BK331 BK332 HB
        refine steps_cons ?_ ?_
        · rintro b a w' ⟨gb345, gb346, m10_, m11_, ha, Q_BK331, Q_BK332, Q_HB, Q_NB346_345, Q_NB345_346, Q_BK345, Q_GW345, Q_GE345, Q_NB331_345, Q_NB345_331, Q_NB332_345, Q_NB345_332, Q_BK346, Q_GW346, Q_GE346, Q_NB331_346, Q_NB346_331, Q_NB332_346, Q_NB346_332, Q_BK345_e12, Q_BK346_e13, Q_X10_, Q_X11_⟩ hb_ hon hoff
          refine ⟨_, rfl, fun K hK => ?_⟩
          have e5 : a.tmps[5]? = some (.pointer (some ⟨gb331, 0, none⟩)) := by rw [ha]; exact (putSel_off rfl).trans rfl
          replace ha := Aside0.mk ha
          have BK331 := Bk.mk Q_BK331
          have BK332 := Bk.mk Q_BK332
          have HB := Bl.mk Q_HB
          have hc0_ : w'.cell? ⟨gb331, 0, none⟩ = some (.bool a1_0) := (blk_cell BK331.out 0).trans rfl
          have hc1_ : w'.cell? ⟨gb331, 1, none⟩ = some (.int .i64 a1_1) := (blk_cell BK331.out 1).trans rfl
          have hc2_ : w'.cell? ⟨gb331, 2, none⟩ = some (.int .i64 a1_2) := (blk_cell BK331.out 2).trans rfl
          refine value_ (w1 := w') (v := .agg #[.bool a1_0, .int .i64 a1_1, .int .i64 a1_2]) (by rfl) rfl ?_ ?_
          · go_simp
            (try simp only [i64_w])
            try rfl
          refine hK.out _ _ ⟨gb345, gb346, m10_, m11_, (by rw [ha.out]; exact putSel_upk 0 hb_ rfl rfl rfl), Q_BK331, Q_BK332, Q_HB, Q_NB346_345, Q_NB345_346, Q_BK345, Q_GW345, Q_GE345, Q_NB331_345, Q_NB345_331, Q_NB332_345, Q_NB345_332, Q_BK346, Q_GW346, Q_GE346, Q_NB331_346, Q_NB346_331, Q_NB332_346, Q_NB346_332, fun h0_ => absurd ((hoff 12 (by kernel_rfl)).symm.trans h0_) (by decide), fun h0_ => absurd ((hoff 13 (by kernel_rfl)).symm.trans h0_) (by decide), Q_X10_, Q_X11_⟩
        refine steps_cons ?_ ?_
        · rintro b a w' ⟨gb345, gb346, m10_, m11_, ha, Q_BK331, Q_BK332, Q_HB, Q_NB346_345, Q_NB345_346, Q_BK345, Q_GW345, Q_GE345, Q_NB331_345, Q_NB345_331, Q_NB332_345, Q_NB345_332, Q_BK346, Q_GW346, Q_GE346, Q_NB331_346, Q_NB346_331, Q_NB332_346, Q_NB346_332, Q_BK345_e12, Q_BK346_e13, Q_X10_, Q_X11_⟩ hb_ hon hoff
          refine ⟨_, rfl, fun K hK => ?_⟩
          have e15 : a.tmps[15]? = some (.agg #[.bool a1_0, .int .i64 a1_1, .int .i64 a1_2]) := by rw [ha]; exact putSel_on (e := (1, 15, .agg #[.bool a1_0, .int .i64 a1_1, .int .i64 a1_2])) 0 rfl rfl (hon 1 (by kernel_rfl)) rfl
          replace ha := Aside0.mk ha
          have BK331 := Bk.mk Q_BK331
          have BK332 := Bk.mk Q_BK332
          have HB := Bl.mk Q_HB
          refine goes_ Try.func18 (by kernel_rfl) rfl #[.agg #[.bool a1_0, .int .i64 a1_1, .int .i64 a1_2]] (by rfl) rfl rfl (by first | (simp only [List.map_toArray, List.map_cons, List.map_nil, Act.eval, Array.getD_eq_getD_getElem?, Option.getD_some, e15]; done) | (simp only [List.map_toArray, List.map_cons, List.map_nil, Act.eval, Array.getD_eq_getD_getElem?, Option.getD_some, e15]; rfl)) ?_
          with_reducible refine (laws_toSpan.calls a1_0 a1_1 a1_2 t333 t334 t335 _ A5.out).mono ?_
          rintro e w18 ⟨rfl, hb⟩
          refine ⟨_, rfl, ?_⟩
          have n0_ := Bk.mk (blk_below (g := gb331) bk hb)
          have n1_ := Bk.mk (blk_below (g := gb332) bk hb)
          have n2_ := Bl.mk (below_step bl hb)
          have z_BK345 := fun (h0_ : b 10 = true) (h1_ : b 12 = false) => (show w18.heap[gb345]? = some (.cells #[.bool false, .int .i64 0, .int .i64 0] 30 (0, 0)) from by first | exact (blk_below (g := gb345) (o := .cells #[.bool false, .int .i64 0, .int .i64 0] 30 (0, 0)) (by (with_reducible repeat (first | refine blk_drewN ?_ _ | refine blk_drew ?_ | refine blk_alloc ?_ _)); exact (Q_BK345 h0_ h1_)) hb))
          have z_BK346 := fun (h0_ : b 11 = true) (h1_ : b 13 = false) => (show w18.heap[gb346]? = some (.cells #[.bool false, .int .i64 0, .int .i64 0] 30 (0, 0)) from by first | exact (blk_below (g := gb346) (o := .cells #[.bool false, .int .i64 0, .int .i64 0] 30 (0, 0)) (by (with_reducible repeat (first | refine blk_drewN ?_ _ | refine blk_drew ?_ | refine blk_alloc ?_ _)); exact (Q_BK346 h0_ h1_)) hb))
          clear BK331
          clear BK332
          clear HB
          have BK331 := n0_
          have BK332 := n1_
          have HB := n2_
          clear n0_ n1_ n2_
          (try clear hb)
          (try clear hb2)
          (try clear hk)
          (try clear hi)
          refine hK.out _ _ ⟨gb345, gb346, m10_, m11_, (by rw [ha.out]; exact putSel_upk 1 hb_ rfl rfl rfl), bk, bk, bl, Q_NB346_345, Q_NB345_346, z_BK345, Q_GW345, Q_GE345, Q_NB331_345, Q_NB345_331, Q_NB332_345, Q_NB345_332, z_BK346, Q_GW346, Q_GE346, Q_NB331_346, Q_NB346_331, Q_NB332_346, Q_NB346_332, fun h0_ => absurd ((hoff 12 (by kernel_rfl)).symm.trans h0_) (by decide), fun h0_ => absurd ((hoff 13 (by kernel_rfl)).symm.trans h0_) (by decide), Q_X10_, Q_X11_⟩
        refine steps_cons ?_ ?_
        · rintro b a w' ⟨gb345, gb346, m10_, m11_, ha, Q_BK331, Q_BK332, Q_HB, Q_NB346_345, Q_NB345_346, Q_BK345, Q_GW345, Q_GE345, Q_NB331_345, Q_NB345_331, Q_NB332_345, Q_NB345_332, Q_BK346, Q_GW346, Q_GE346, Q_NB331_346, Q_NB346_331, Q_NB332_346, Q_NB346_332, Q_BK345_e12, Q_BK346_e13, Q_X10_, Q_X11_⟩ hb_ hon hoff
          refine ⟨_, rfl, fun K hK => ?_⟩
          have e6 : a.tmps[6]? = some (.pointer (some ⟨gb332, 0, none⟩)) := by rw [ha]; exact (putSel_off rfl).trans rfl
          replace ha := Aside0.mk ha
          have BK331 := Bk.mk Q_BK331
          have BK332 := Bk.mk Q_BK332
          have HB := Bl.mk Q_HB
          have hc0_ : w'.cell? ⟨gb332, 0, none⟩ = some (.bool a2_0) := (blk_cell BK332.out 0).trans rfl
          have hc1_ : w'.cell? ⟨gb332, 1, none⟩ = some (.int .i64 a2_1) := (blk_cell BK332.out 1).trans rfl
          have hc2_ : w'.cell? ⟨gb332, 2, none⟩ = some (.int .i64 a2_2) := (blk_cell BK332.out 2).trans rfl
          refine value_ (w1 := w') (v := .agg #[.bool a2_0, .int .i64 a2_1, .int .i64 a2_2]) (by rfl) rfl ?_ ?_
          · go_simp
            (try simp only [i64_w])
            try rfl
          refine hK.out _ _ ⟨gb345, gb346, m10_, m11_, (by rw [ha.out]; exact putSel_upk 2 hb_ rfl rfl rfl), Q_BK331, Q_BK332, Q_HB, Q_NB346_345, Q_NB345_346, Q_BK345, Q_GW345, Q_GE345, Q_NB331_345, Q_NB345_331, Q_NB332_345, Q_NB345_332, Q_BK346, Q_GW346, Q_GE346, Q_NB331_346, Q_NB346_331, Q_NB332_346, Q_NB346_332, fun h0_ => absurd ((hoff 12 (by kernel_rfl)).symm.trans h0_) (by decide), fun h0_ => absurd ((hoff 13 (by kernel_rfl)).symm.trans h0_) (by decide), Q_X10_, Q_X11_⟩
        refine steps_cons ?_ ?_
        · rintro b a w' ⟨gb345, gb346, m10_, m11_, ha, Q_BK331, Q_BK332, Q_HB, Q_NB346_345, Q_NB345_346, Q_BK345, Q_GW345, Q_GE345, Q_NB331_345, Q_NB345_331, Q_NB332_345, Q_NB345_332, Q_BK346, Q_GW346, Q_GE346, Q_NB331_346, Q_NB346_331, Q_NB332_346, Q_NB346_332, Q_BK345_e12, Q_BK346_e13, Q_X10_, Q_X11_⟩ hb_ hon hoff
          refine ⟨_, rfl, fun K hK => ?_⟩
          have e17 : a.tmps[17]? = some (.agg #[.bool a2_0, .int .i64 a2_1, .int .i64 a2_2]) := by rw [ha]; exact putSel_on (e := (3, 17, .agg #[.bool a2_0, .int .i64 a2_1, .int .i64 a2_2])) 2 rfl rfl (hon 3 (by kernel_rfl)) rfl
          replace ha := Aside0.mk ha
          have BK331 := Bk.mk Q_BK331
          have BK332 := Bk.mk Q_BK332
          have HB := Bl.mk Q_HB
          refine goes_ Try.func18 (by kernel_rfl) rfl #[.agg #[.bool a2_0, .int .i64 a2_1, .int .i64 a2_2]] (by rfl) rfl rfl (by first | (simp only [List.map_toArray, List.map_cons, List.map_nil, Act.eval, Array.getD_eq_getD_getElem?, Option.getD_some, e17]; done) | (simp only [List.map_toArray, List.map_cons, List.map_nil, Act.eval, Array.getD_eq_getD_getElem?, Option.getD_some, e17]; rfl)) ?_
          with_reducible refine (laws_toSpan.calls a2_0 a2_1 a2_2 t336 t337 t338 _ A6.out).mono ?_
          rintro e w20 ⟨rfl, hb⟩
          refine ⟨_, rfl, ?_⟩
          have n0_ := Bk.mk (blk_below (g := gb331) bk hb)
          have n1_ := Bk.mk (blk_below (g := gb332) bk hb)
          have n2_ := Bl.mk (below_step bl hb)
          have z_BK345 := fun (h0_ : b 10 = true) (h1_ : b 12 = false) => (show w20.heap[gb345]? = some (.cells #[.bool false, .int .i64 0, .int .i64 0] 30 (0, 0)) from by first | exact (blk_below (g := gb345) (o := .cells #[.bool false, .int .i64 0, .int .i64 0] 30 (0, 0)) (by (with_reducible repeat (first | refine blk_drewN ?_ _ | refine blk_drew ?_ | refine blk_alloc ?_ _)); exact (Q_BK345 h0_ h1_)) hb))
          have z_BK346 := fun (h0_ : b 11 = true) (h1_ : b 13 = false) => (show w20.heap[gb346]? = some (.cells #[.bool false, .int .i64 0, .int .i64 0] 30 (0, 0)) from by first | exact (blk_below (g := gb346) (o := .cells #[.bool false, .int .i64 0, .int .i64 0] 30 (0, 0)) (by (with_reducible repeat (first | refine blk_drewN ?_ _ | refine blk_drew ?_ | refine blk_alloc ?_ _)); exact (Q_BK346 h0_ h1_)) hb))
          clear BK331
          clear BK332
          clear HB
          have BK331 := n0_
          have BK332 := n1_
          have HB := n2_
          clear n0_ n1_ n2_
          (try clear hb)
          (try clear hb2)
          (try clear hk)
          (try clear hi)
          refine hK.out _ _ ⟨gb345, gb346, m10_, m11_, (by rw [ha.out]; exact putSel_upk 3 hb_ rfl rfl rfl), bk, bk, bl, Q_NB346_345, Q_NB345_346, z_BK345, Q_GW345, Q_GE345, Q_NB331_345, Q_NB345_331, Q_NB332_345, Q_NB345_332, z_BK346, Q_GW346, Q_GE346, Q_NB331_346, Q_NB346_331, Q_NB332_346, Q_NB346_332, fun h0_ => absurd ((hoff 12 (by kernel_rfl)).symm.trans h0_) (by decide), fun h0_ => absurd ((hoff 13 (by kernel_rfl)).symm.trans h0_) (by decide), Q_X10_, Q_X11_⟩
        refine steps_cons ?_ ?_
        · rintro b a w' ⟨gb345, gb346, m10_, m11_, ha, Q_BK331, Q_BK332, Q_HB, Q_NB346_345, Q_NB345_346, Q_BK345, Q_GW345, Q_GE345, Q_NB331_345, Q_NB345_331, Q_NB332_345, Q_NB345_332, Q_BK346, Q_GW346, Q_GE346, Q_NB331_346, Q_NB346_331, Q_NB332_346, Q_NB346_332, Q_BK345_e12, Q_BK346_e13, Q_X10_, Q_X11_⟩ hb_ hon hoff
          refine ⟨_, rfl, fun K hK => ?_⟩
          have e14 : a.tmps[14]? = some (.int .i64 a0) := by rw [ha]; exact (putSel_off rfl).trans rfl
          have e16 : a.tmps[16]? = some (.agg #[.bool t333, .int .i64 t334, .int .i64 t335]) := by rw [ha]; exact putSel_on (e := (2, 16, .agg #[.bool t333, .int .i64 t334, .int .i64 t335])) 1 rfl rfl (hon 2 (by kernel_rfl)) rfl
          have e18 : a.tmps[18]? = some (.agg #[.bool t336, .int .i64 t337, .int .i64 t338]) := by rw [ha]; exact putSel_on (e := (4, 18, .agg #[.bool t336, .int .i64 t337, .int .i64 t338])) 3 rfl rfl (hon 4 (by kernel_rfl)) rfl
          have e19 : a.tmps[19]? = some (.bool a3) := by rw [ha]; exact (putSel_off rfl).trans rfl
          replace ha := Aside0.mk ha
          have BK331 := Bk.mk Q_BK331
          have BK332 := Bk.mk Q_BK332
          have HB := Bl.mk Q_HB
          refine goes_ Try.func17 (by kernel_rfl) rfl #[.int .i64 a0, .agg #[.bool t333, .int .i64 t334, .int .i64 t335], .agg #[.bool t336, .int .i64 t337, .int .i64 t338], .bool a3] (by rfl) rfl rfl (by first | (simp only [List.map_toArray, List.map_cons, List.map_nil, Act.eval, Array.getD_eq_getD_getElem?, Option.getD_some, e14, e16, e18, e19]; done) | (simp only [List.map_toArray, List.map_cons, List.map_nil, Act.eval, Array.getD_eq_getD_getElem?, Option.getD_some, e14, e16, e18, e19]; rfl)) ?_
          with_reducible refine (spec_SpanWhen.calls k a0 t333 t334 t335 t336 t337 t338 a3 t339 t340 t341 t342 t343 t344 _ A7.out).mono ?_
          rintro e w21 ⟨rfl, hb⟩
          refine ⟨_, rfl, ?_⟩
          have n0_ := Bk.mk (blk_below (g := gb331) bk hb)
          have n1_ := Bk.mk (blk_below (g := gb332) bk hb)
          have n2_ := Bl.mk (below_step bl hb)
          have z_BK345 := fun (h0_ : b 10 = true) (h1_ : b 12 = false) => (show w21.heap[gb345]? = some (.cells #[.bool false, .int .i64 0, .int .i64 0] 30 (0, 0)) from by first | exact (blk_below (g := gb345) (o := .cells #[.bool false, .int .i64 0, .int .i64 0] 30 (0, 0)) (by (with_reducible repeat (first | refine blk_drewN ?_ _ | refine blk_drew ?_ | refine blk_alloc ?_ _)); exact (Q_BK345 h0_ h1_)) hb))
          have z_BK346 := fun (h0_ : b 11 = true) (h1_ : b 13 = false) => (show w21.heap[gb346]? = some (.cells #[.bool false, .int .i64 0, .int .i64 0] 30 (0, 0)) from by first | exact (blk_below (g := gb346) (o := .cells #[.bool false, .int .i64 0, .int .i64 0] 30 (0, 0)) (by (with_reducible repeat (first | refine blk_drewN ?_ _ | refine blk_drew ?_ | refine blk_alloc ?_ _)); exact (Q_BK346 h0_ h1_)) hb))
          clear BK331
          clear BK332
          clear HB
          have BK331 := n0_
          have BK332 := n1_
          have HB := n2_
          clear n0_ n1_ n2_
          (try clear hb)
          (try clear hb2)
          (try clear hk)
          (try clear hi)
          refine hK.out _ _ ⟨gb345, gb346, m10_, m11_, (by rw [ha.out]; exact putSel_upk 4 hb_ rfl rfl rfl), bk, bk, bl, Q_NB346_345, Q_NB345_346, z_BK345, Q_GW345, Q_GE345, Q_NB331_345, Q_NB345_331, Q_NB332_345, Q_NB345_332, z_BK346, Q_GW346, Q_GE346, Q_NB331_346, Q_NB346_331, Q_NB332_346, Q_NB346_332, fun h0_ => absurd ((hoff 12 (by kernel_rfl)).symm.trans h0_) (by decide), fun h0_ => absurd ((hoff 13 (by kernel_rfl)).symm.trans h0_) (by decide), Q_X10_, Q_X11_⟩
        refine steps_cons ?_ ?_
        · rintro b a w' ⟨gb345, gb346, m10_, m11_, ha, Q_BK331, Q_BK332, Q_HB, Q_NB346_345, Q_NB345_346, Q_BK345, Q_GW345, Q_GE345, Q_NB331_345, Q_NB345_331, Q_NB332_345, Q_NB345_332, Q_BK346, Q_GW346, Q_GE346, Q_NB331_346, Q_NB346_331, Q_NB332_346, Q_NB346_332, Q_BK345_e12, Q_BK346_e13, Q_X10_, Q_X11_⟩ hb_ hon hoff
          refine ⟨_, rfl, fun K hK => ?_⟩
          have e20 : a.tmps[20]? = some (.tuple #[.agg #[.bool t339, .int .i64 t340, .int .i64 t341], .agg #[.bool t342, .int .i64 t343, .int .i64 t344]]) := by rw [ha]; exact putSel_on (e := (6, 20, .tuple #[.agg #[.bool t339, .int .i64 t340, .int .i64 t341], .agg #[.bool t342, .int .i64 t343, .int .i64 t344]])) 4 rfl rfl (hon 6 (by kernel_rfl)) rfl
          replace ha := Aside0.mk ha
          have BK331 := Bk.mk Q_BK331
          have BK332 := Bk.mk Q_BK332
          have HB := Bl.mk Q_HB
          refine value_ (w1 := w') (v := .tuple #[.agg #[.bool t339, .int .i64 t340, .int .i64 t341], .agg #[.bool t342, .int .i64 t343, .int .i64 t344]]) (by rfl) rfl ?_ ?_
          · go_simp
            (try simp only [i64_w])
            try rfl
          refine hK.out _ _ ⟨gb345, gb346, m10_, m11_, (by rw [ha.out]; exact putSel_upk 5 hb_ rfl rfl rfl), Q_BK331, Q_BK332, Q_HB, Q_NB346_345, Q_NB345_346, Q_BK345, Q_GW345, Q_GE345, Q_NB331_345, Q_NB345_331, Q_NB332_345, Q_NB345_332, Q_BK346, Q_GW346, Q_GE346, Q_NB331_346, Q_NB346_331, Q_NB332_346, Q_NB346_332, fun h0_ => absurd ((hoff 12 (by kernel_rfl)).symm.trans h0_) (by decide), fun h0_ => absurd ((hoff 13 (by kernel_rfl)).symm.trans h0_) (by decide), Q_X10_, Q_X11_⟩
        refine steps_cons ?_ ?_
        · rintro b a w' ⟨gb345, gb346, m10_, m11_, ha, Q_BK331, Q_BK332, Q_HB, Q_NB346_345, Q_NB345_346, Q_BK345, Q_GW345, Q_GE345, Q_NB331_345, Q_NB345_331, Q_NB332_345, Q_NB345_332, Q_BK346, Q_GW346, Q_GE346, Q_NB331_346, Q_NB346_331, Q_NB332_346, Q_NB346_332, Q_BK345_e12, Q_BK346_e13, Q_X10_, Q_X11_⟩ hb_ hon hoff
          refine ⟨_, rfl, fun K hK => ?_⟩
          have e13 : a.tmps[13]? = some (.tuple #[.agg #[.bool t339, .int .i64 t340, .int .i64 t341], .agg #[.bool t342, .int .i64 t343, .int .i64 t344]]) := by rw [ha]; exact putSel_on (e := (7, 13, .tuple #[.agg #[.bool t339, .int .i64 t340, .int .i64 t341], .agg #[.bool t342, .int .i64 t343, .int .i64 t344]])) 5 rfl rfl (hon 7 (by kernel_rfl)) rfl
          replace ha := Aside0.mk ha
          have BK331 := Bk.mk Q_BK331
          have BK332 := Bk.mk Q_BK332
          have HB := Bl.mk Q_HB
          refine value_ (w1 := w') (v := .agg #[.bool t339, .int .i64 t340, .int .i64 t341]) (by rfl) rfl ?_ ?_
          · go_simp
            (try simp only [i64_w])
            try rfl
          refine hK.out _ _ ⟨gb345, gb346, m10_, m11_, (by rw [ha.out]; exact putSel_upk 6 hb_ rfl rfl rfl), Q_BK331, Q_BK332, Q_HB, Q_NB346_345, Q_NB345_346, Q_BK345, Q_GW345, Q_GE345, Q_NB331_345, Q_NB345_331, Q_NB332_345, Q_NB345_332, Q_BK346, Q_GW346, Q_GE346, Q_NB331_346, Q_NB346_331, Q_NB332_346, Q_NB346_332, fun h0_ => absurd ((hoff 12 (by kernel_rfl)).symm.trans h0_) (by decide), fun h0_ => absurd ((hoff 13 (by kernel_rfl)).symm.trans h0_) (by decide), Q_X10_, Q_X11_⟩
        refine steps_cons ?_ ?_
        · rintro b a w' ⟨gb345, gb346, m10_, m11_, ha, Q_BK331, Q_BK332, Q_HB, Q_NB346_345, Q_NB345_346, Q_BK345, Q_GW345, Q_GE345, Q_NB331_345, Q_NB345_331, Q_NB332_345, Q_NB345_332, Q_BK346, Q_GW346, Q_GE346, Q_NB331_346, Q_NB346_331, Q_NB332_346, Q_NB346_332, Q_BK345_e12, Q_BK346_e13, Q_X10_, Q_X11_⟩ hb_ hon hoff
          refine ⟨_, rfl, fun K hK => ?_⟩
          have e13 : a.tmps[13]? = some (.tuple #[.agg #[.bool t339, .int .i64 t340, .int .i64 t341], .agg #[.bool t342, .int .i64 t343, .int .i64 t344]]) := by rw [ha]; exact putSel_on (e := (7, 13, .tuple #[.agg #[.bool t339, .int .i64 t340, .int .i64 t341], .agg #[.bool t342, .int .i64 t343, .int .i64 t344]])) 5 rfl rfl (hon 7 (by kernel_rfl)) rfl
          replace ha := Aside0.mk ha
          have BK331 := Bk.mk Q_BK331
          have BK332 := Bk.mk Q_BK332
          have HB := Bl.mk Q_HB
          refine value_ (w1 := w') (v := .agg #[.bool t342, .int .i64 t343, .int .i64 t344]) (by rfl) rfl ?_ ?_
          · go_simp
            (try simp only [i64_w])
            try rfl
          refine hK.out _ _ ⟨gb345, gb346, m10_, m11_, (by rw [ha.out]; exact putSel_upk 7 hb_ rfl rfl rfl), Q_BK331, Q_BK332, Q_HB, Q_NB346_345, Q_NB345_346, Q_BK345, Q_GW345, Q_GE345, Q_NB331_345, Q_NB345_331, Q_NB332_345, Q_NB345_332, Q_BK346, Q_GW346, Q_GE346, Q_NB331_346, Q_NB346_331, Q_NB332_346, Q_NB346_332, Q_BK345_e12, fun h0_ => absurd ((hoff 13 (by kernel_rfl)).symm.trans h0_) (by decide), Q_X10_, Q_X11_⟩
        refine steps_cons ?_ ?_
        · rintro b a w' ⟨gb345, gb346, m10_, m11_, ha, Q_BK331, Q_BK332, Q_HB, Q_NB346_345, Q_NB345_346, Q_BK345, Q_GW345, Q_GE345, Q_NB331_345, Q_NB345_331, Q_NB332_345, Q_NB345_332, Q_BK346, Q_GW346, Q_GE346, Q_NB331_346, Q_NB346_331, Q_NB332_346, Q_NB346_332, Q_BK345_e12, Q_BK346_e13, Q_X10_, Q_X11_⟩ hb_ hon hoff
          refine ⟨_, rfl, fun K hK => ?_⟩
          replace ha := Aside0.mk ha
          have BK331 := Bk.mk Q_BK331
          have BK332 := Bk.mk Q_BK332
          have HB := Bl.mk Q_HB
          refine box_step ?hg (N := 9) ?hd (cs := #[.bool false, .int .i64 0, .int .i64 0]) (t := 30) ?hr ?_; (case hd => rfl); (case hg => rfl); (case hr => first | (go_simp; done) | (go_simp; rfl))
          intro gb345 hg w18 hbox hb
          have n0_ := Bk.mk (blk_below (g := gb331) bk hb)
          have n1_ := Bk.mk (blk_below (g := gb332) bk hb)
          have n2_ := Bl.mk (below_step bl hb)
          have n3_ := Bk.mk (hbox)
          have n4_ := Aside0.mk ((by rw [hg]; exact (below_size bl) : w.heap.size ≤ gb345))
          have n5_ := Gl.mk ((by rw [hg]; exact (below_size bl) : w.heap.size ≤ gb345))
          have n6_ := Nb.mk ((by rw [hg]; exact Nat.ne_of_lt (blk_lt (g := gb331) bk) : gb331 ≠ gb345))
          have n7_ := Nb.mk ((by rw [hg]; exact Nat.ne_of_gt (blk_lt (g := gb331) bk) : gb345 ≠ gb331))
          have n8_ := Nb.mk ((by rw [hg]; exact Nat.ne_of_lt (blk_lt (g := gb332) bk) : gb332 ≠ gb345))
          have n9_ := Nb.mk ((by rw [hg]; exact Nat.ne_of_gt (blk_lt (g := gb332) bk) : gb345 ≠ gb332))
          have z_NB346_345 := fun (h0_ : up b 10 10 = true) (h1_ : up b 10 11 = true) => (show gb346 ≠ gb345 from ((by rw [hg]; exact Nat.ne_of_lt (blk_lt (g := gb346) (o := .cells #[.bool false, .int .i64 0, .int .i64 0] 30 (0, 0)) (Q_BK346 ((up_ne (by decide)).symm.trans h1_) (hoff 13 (by kernel_rfl)))) : gb346 ≠ gb345)))
          have z_NB345_346 := fun (h0_ : up b 10 10 = true) (h1_ : up b 10 11 = true) => (show gb345 ≠ gb346 from ((by rw [hg]; exact Nat.ne_of_gt (blk_lt (g := gb346) (o := .cells #[.bool false, .int .i64 0, .int .i64 0] 30 (0, 0)) (Q_BK346 ((up_ne (by decide)).symm.trans h1_) (hoff 13 (by kernel_rfl)))) : gb345 ≠ gb346)))
          have z_BK346 := fun (h0_ : b 11 = true) (h1_ : b 13 = false) => (show w18.heap[gb346]? = some (.cells #[.bool false, .int .i64 0, .int .i64 0] 30 (0, 0)) from by first | exact (blk_below (g := gb346) (o := .cells #[.bool false, .int .i64 0, .int .i64 0] 30 (0, 0)) (by (with_reducible repeat (first | refine blk_drewN ?_ _ | refine blk_drew ?_ | refine blk_alloc ?_ _)); exact (Q_BK346 h0_ h1_)) hb))
          clear BK331
          clear BK332
          clear HB
          have BK331 := n0_
          have BK332 := n1_
          have HB := n2_
          have BK345 := n3_
          have GW345 := n4_
          have GE345 := n5_
          have NB331_345 := n6_
          have NB345_331 := n7_
          have NB332_345 := n8_
          have NB345_332 := n9_
          clear n0_ n1_ n2_ n3_ n4_ n5_ n6_ n7_ n8_ n9_
          clear hb hbox hg
          refine hK.out _ _ ⟨gb345, gb346, (.pointer (some ⟨gb345, 0, none⟩)), m11_, (by rw [ha.out]; exact putSel_upk 8 hb_ rfl rfl rfl), bk, bk, bl, z_NB346_345, z_NB345_346, fun _ _ => bk, fun _ => GW345.out, fun _ => GE345.out, fun _ => NB331_345.out, fun _ => NB345_331.out, fun _ => NB332_345.out, fun _ => NB345_332.out, z_BK346, Q_GW346, Q_GE346, Q_NB331_346, Q_NB346_331, Q_NB332_346, Q_NB346_332, fun h0_ => absurd ((hoff 12 (by kernel_rfl)).symm.trans h0_) (by decide), fun h0_ => absurd ((hoff 13 (by kernel_rfl)).symm.trans h0_) (by decide), fun _ => rfl, Q_X11_⟩
        refine steps_cons ?_ ?_
        · rintro b a w' ⟨gb345, gb346, m10_, m11_, ha, Q_BK331, Q_BK332, Q_HB, Q_NB346_345, Q_NB345_346, Q_BK345, Q_GW345, Q_GE345, Q_NB331_345, Q_NB345_331, Q_NB332_345, Q_NB345_332, Q_BK346, Q_GW346, Q_GE346, Q_NB331_346, Q_NB346_331, Q_NB332_346, Q_NB346_332, Q_BK345_e12, Q_BK346_e13, Q_X10_, Q_X11_⟩ hb_ hon hoff
          refine ⟨_, rfl, fun K hK => ?_⟩
          replace ha := Aside0.mk ha
          have BK331 := Bk.mk Q_BK331
          have BK332 := Bk.mk Q_BK332
          have HB := Bl.mk Q_HB
          refine box_step ?hg (N := 10) ?hd (cs := #[.bool false, .int .i64 0, .int .i64 0]) (t := 30) ?hr ?_; (case hd => rfl); (case hg => rfl); (case hr => first | (go_simp; done) | (go_simp; rfl))
          intro gb346 hg w18 hbox hb
          have n0_ := Bk.mk (blk_below (g := gb331) bk hb)
          have n1_ := Bk.mk (blk_below (g := gb332) bk hb)
          have n2_ := Bl.mk (below_step bl hb)
          have n3_ := Bk.mk (hbox)
          have n4_ := Aside0.mk ((by rw [hg]; exact (below_size bl) : w.heap.size ≤ gb346))
          have n5_ := Gl.mk ((by rw [hg]; exact (below_size bl) : w.heap.size ≤ gb346))
          have n6_ := Nb.mk ((by rw [hg]; exact Nat.ne_of_lt (blk_lt (g := gb331) bk) : gb331 ≠ gb346))
          have n7_ := Nb.mk ((by rw [hg]; exact Nat.ne_of_gt (blk_lt (g := gb331) bk) : gb346 ≠ gb331))
          have n8_ := Nb.mk ((by rw [hg]; exact Nat.ne_of_lt (blk_lt (g := gb332) bk) : gb332 ≠ gb346))
          have n9_ := Nb.mk ((by rw [hg]; exact Nat.ne_of_gt (blk_lt (g := gb332) bk) : gb346 ≠ gb332))
          have z_NB346_345 := fun (h0_ : up b 11 10 = true) (h1_ : up b 11 11 = true) => (show gb346 ≠ gb345 from ((by rw [hg]; exact Nat.ne_of_gt (blk_lt (g := gb345) (o := .cells #[.bool false, .int .i64 0, .int .i64 0] 30 (0, 0)) (Q_BK345 ((up_ne (by decide)).symm.trans h0_) (hoff 12 (by kernel_rfl)))) : gb346 ≠ gb345)))
          have z_NB345_346 := fun (h0_ : up b 11 10 = true) (h1_ : up b 11 11 = true) => (show gb345 ≠ gb346 from ((by rw [hg]; exact Nat.ne_of_lt (blk_lt (g := gb345) (o := .cells #[.bool false, .int .i64 0, .int .i64 0] 30 (0, 0)) (Q_BK345 ((up_ne (by decide)).symm.trans h0_) (hoff 12 (by kernel_rfl)))) : gb345 ≠ gb346)))
          have z_BK345 := fun (h0_ : b 10 = true) (h1_ : b 12 = false) => (show w18.heap[gb345]? = some (.cells #[.bool false, .int .i64 0, .int .i64 0] 30 (0, 0)) from by first | exact (blk_below (g := gb345) (o := .cells #[.bool false, .int .i64 0, .int .i64 0] 30 (0, 0)) (by (with_reducible repeat (first | refine blk_drewN ?_ _ | refine blk_drew ?_ | refine blk_alloc ?_ _)); exact (Q_BK345 h0_ h1_)) hb))
          clear BK331
          clear BK332
          clear HB
          have BK331 := n0_
          have BK332 := n1_
          have HB := n2_
          have BK346 := n3_
          have GW346 := n4_
          have GE346 := n5_
          have NB331_346 := n6_
          have NB346_331 := n7_
          have NB332_346 := n8_
          have NB346_332 := n9_
          clear n0_ n1_ n2_ n3_ n4_ n5_ n6_ n7_ n8_ n9_
          clear hb hbox hg
          refine hK.out _ _ ⟨gb345, gb346, m10_, (.pointer (some ⟨gb346, 0, none⟩)), (by rw [ha.out]; exact putSel_upk 9 hb_ rfl rfl rfl), bk, bk, bl, z_NB346_345, z_NB345_346, z_BK345, Q_GW345, Q_GE345, Q_NB331_345, Q_NB345_331, Q_NB332_345, Q_NB345_332, fun _ _ => bk, fun _ => GW346.out, fun _ => GE346.out, fun _ => NB331_346.out, fun _ => NB346_331.out, fun _ => NB332_346.out, fun _ => NB346_332.out, fun h0_ => absurd ((hoff 12 (by kernel_rfl)).symm.trans h0_) (by decide), fun h0_ => absurd ((hoff 13 (by kernel_rfl)).symm.trans h0_) (by decide), Q_X10_, fun _ => rfl⟩
        refine steps_cons ?_ ?_
        · rintro b a w' ⟨gb345, gb346, m10_, m11_, ha, Q_BK331, Q_BK332, Q_HB, Q_NB346_345, Q_NB345_346, Q_BK345, Q_GW345, Q_GE345, Q_NB331_345, Q_NB345_331, Q_NB332_345, Q_NB345_332, Q_BK346, Q_GW346, Q_GE346, Q_NB331_346, Q_NB346_331, Q_NB332_346, Q_NB346_332, Q_BK345_e12, Q_BK346_e13, Q_X10_, Q_X11_⟩ hb_ hon hoff
          refine ⟨_, rfl, fun K hK => ?_⟩
          have e9 : a.tmps[9]? = some (m10_) := by rw [ha]; exact putSel_on (e := (10, 9, m10_)) 8 rfl rfl (hon 10 (by kernel_rfl)) rfl
          rw [Q_X10_ (hon 10 (by kernel_rfl))] at e9
          have e21 : a.tmps[21]? = some (.agg #[.bool t339, .int .i64 t340, .int .i64 t341]) := by rw [ha]; exact putSel_on (e := (8, 21, .agg #[.bool t339, .int .i64 t340, .int .i64 t341])) 6 rfl rfl (hon 8 (by kernel_rfl)) rfl
          replace ha := Aside0.mk ha
          have BK331 := Bk.mk Q_BK331
          have BK332 := Bk.mk Q_BK332
          have HB := Bl.mk Q_HB
          have NB346_345 := Nb.mk (Q_NB346_345 (hon 10 (by kernel_rfl)) (hon 11 (by kernel_rfl)))
          have NB345_346 := Nb.mk (Q_NB345_346 (hon 10 (by kernel_rfl)) (hon 11 (by kernel_rfl)))
          have BK345 := Bk.mk (Q_BK345 (hon 10 (by kernel_rfl)) hb_)
          have GW345 := Aside0.mk (Q_GW345 (hon 10 (by kernel_rfl)))
          have GE345 := Gl.mk (Q_GE345 (hon 10 (by kernel_rfl)))
          have NB331_345 := Nb.mk (Q_NB331_345 (hon 10 (by kernel_rfl)))
          have NB345_331 := Nb.mk (Q_NB345_331 (hon 10 (by kernel_rfl)))
          have NB332_345 := Nb.mk (Q_NB332_345 (hon 10 (by kernel_rfl)))
          have NB345_332 := Nb.mk (Q_NB345_332 (hon 10 (by kernel_rfl)))
          have BK346 := Bk.mk (Q_BK346 (hon 11 (by kernel_rfl)) (hoff 13 (by kernel_rfl)))
          have GW346 := Aside0.mk (Q_GW346 (hon 11 (by kernel_rfl)))
          have GE346 := Gl.mk (Q_GE346 (hon 11 (by kernel_rfl)))
          have NB331_346 := Nb.mk (Q_NB331_346 (hon 11 (by kernel_rfl)))
          have NB346_331 := Nb.mk (Q_NB346_331 (hon 11 (by kernel_rfl)))
          have NB332_346 := Nb.mk (Q_NB332_346 (hon 11 (by kernel_rfl)))
          have NB346_332 := Nb.mk (Q_NB346_332 (hon 11 (by kernel_rfl)))
          have hs24 : w'.cell? ⟨gb345, 0, none⟩ = some (.bool false) := (blk_cell BK345.out 0).trans rfl
          have hfs24 := blk_frozen BK345.out 0
          have hns24_0 := NB331_345.out
          have hns24_1 := NB332_345.out
          have hns24_3 := NB346_345.out
          have hms24_0 := NB345_331.out
          have hms24_1 := NB345_332.out
          have hms24_3 := NB345_346.out
          have hs25 : w'.cell? ⟨gb345, 1, none⟩ = some (.int .i64 0) := (blk_cell BK345.out 1).trans rfl
          have hfs25 := blk_frozen BK345.out 1
          have hns25_0 := NB331_345.out
          have hns25_1 := NB332_345.out
          have hns25_3 := NB346_345.out
          have hms25_0 := NB345_331.out
          have hms25_1 := NB345_332.out
          have hms25_3 := NB345_346.out
          have hs26 : w'.cell? ⟨gb345, 2, none⟩ = some (.int .i64 0) := (blk_cell BK345.out 2).trans rfl
          have hfs26 := blk_frozen BK345.out 2
          have hns26_0 := NB331_345.out
          have hns26_1 := NB332_345.out
          have hns26_3 := NB346_345.out
          have hms26_0 := NB345_331.out
          have hms26_1 := NB345_332.out
          have hms26_3 := NB345_346.out
          refine skip_ (w1 := ?_) (by rfl) rfl ?_ ?_
          rotate_left
          · go_simp
            rfl
          refine hK.out _ _ ⟨gb345, gb346, m10_, m11_, (by rw [ha.out]; exact putSel_none (v := undef) rfl), bk, bk, bl, fun _ _ => NB346_345.out, fun _ _ => NB345_346.out, fun _ h1_ => absurd ((up_self b 12).symm.trans h1_) (by decide), fun _ => GW345.out, fun _ => GE345.out, fun _ => NB331_345.out, fun _ => NB345_331.out, fun _ => NB332_345.out, fun _ => NB345_332.out, fun _ _ => bk, fun _ => GW346.out, fun _ => GE346.out, fun _ => NB331_346.out, fun _ => NB346_331.out, fun _ => NB332_346.out, fun _ => NB346_332.out, fun _ => bk, fun h0_ => absurd ((hoff 13 (by kernel_rfl)).symm.trans h0_) (by decide), Q_X10_, Q_X11_⟩
        refine steps_cons ?_ ?_
        · rintro b a w' ⟨gb345, gb346, m10_, m11_, ha, Q_BK331, Q_BK332, Q_HB, Q_NB346_345, Q_NB345_346, Q_BK345, Q_GW345, Q_GE345, Q_NB331_345, Q_NB345_331, Q_NB332_345, Q_NB345_332, Q_BK346, Q_GW346, Q_GE346, Q_NB331_346, Q_NB346_331, Q_NB332_346, Q_NB346_332, Q_BK345_e12, Q_BK346_e13, Q_X10_, Q_X11_⟩ hb_ hon hoff
          refine ⟨_, rfl, fun K hK => ?_⟩
          have e10 : a.tmps[10]? = some (m11_) := by rw [ha]; exact putSel_on (e := (11, 10, m11_)) 9 rfl rfl (hon 11 (by kernel_rfl)) rfl
          rw [Q_X11_ (hon 11 (by kernel_rfl))] at e10
          have e22 : a.tmps[22]? = some (.agg #[.bool t342, .int .i64 t343, .int .i64 t344]) := by rw [ha]; exact putSel_on (e := (9, 22, .agg #[.bool t342, .int .i64 t343, .int .i64 t344])) 7 rfl rfl (hon 9 (by kernel_rfl)) rfl
          replace ha := Aside0.mk ha
          have BK331 := Bk.mk Q_BK331
          have BK332 := Bk.mk Q_BK332
          have HB := Bl.mk Q_HB
          have NB346_345 := Nb.mk (Q_NB346_345 (hon 10 (by kernel_rfl)) (hon 11 (by kernel_rfl)))
          have NB345_346 := Nb.mk (Q_NB345_346 (hon 10 (by kernel_rfl)) (hon 11 (by kernel_rfl)))
          have GW345 := Aside0.mk (Q_GW345 (hon 10 (by kernel_rfl)))
          have GE345 := Gl.mk (Q_GE345 (hon 10 (by kernel_rfl)))
          have NB331_345 := Nb.mk (Q_NB331_345 (hon 10 (by kernel_rfl)))
          have NB345_331 := Nb.mk (Q_NB345_331 (hon 10 (by kernel_rfl)))
          have NB332_345 := Nb.mk (Q_NB332_345 (hon 10 (by kernel_rfl)))
          have NB345_332 := Nb.mk (Q_NB345_332 (hon 10 (by kernel_rfl)))
          have BK346 := Bk.mk (Q_BK346 (hon 11 (by kernel_rfl)) hb_)
          have GW346 := Aside0.mk (Q_GW346 (hon 11 (by kernel_rfl)))
          have GE346 := Gl.mk (Q_GE346 (hon 11 (by kernel_rfl)))
          have NB331_346 := Nb.mk (Q_NB331_346 (hon 11 (by kernel_rfl)))
          have NB346_331 := Nb.mk (Q_NB346_331 (hon 11 (by kernel_rfl)))
          have NB332_346 := Nb.mk (Q_NB332_346 (hon 11 (by kernel_rfl)))
          have NB346_332 := Nb.mk (Q_NB346_332 (hon 11 (by kernel_rfl)))
          have BK345 := Bk.mk (Q_BK345_e12 (hon 12 (by kernel_rfl)))
          have hs27 : w'.cell? ⟨gb346, 0, none⟩ = some (.bool false) := (blk_cell BK346.out 0).trans rfl
          have hfs27 := blk_frozen BK346.out 0
          have hns27_0 := NB331_346.out
          have hns27_1 := NB332_346.out
          have hns27_2 := NB345_346.out
          have hms27_0 := NB346_331.out
          have hms27_1 := NB346_332.out
          have hms27_2 := NB346_345.out
          have hs28 : w'.cell? ⟨gb346, 1, none⟩ = some (.int .i64 0) := (blk_cell BK346.out 1).trans rfl
          have hfs28 := blk_frozen BK346.out 1
          have hns28_0 := NB331_346.out
          have hns28_1 := NB332_346.out
          have hns28_2 := NB345_346.out
          have hms28_0 := NB346_331.out
          have hms28_1 := NB346_332.out
          have hms28_2 := NB346_345.out
          have hs29 : w'.cell? ⟨gb346, 2, none⟩ = some (.int .i64 0) := (blk_cell BK346.out 2).trans rfl
          have hfs29 := blk_frozen BK346.out 2
          have hns29_0 := NB331_346.out
          have hns29_1 := NB332_346.out
          have hns29_2 := NB345_346.out
          have hms29_0 := NB346_331.out
          have hms29_1 := NB346_332.out
          have hms29_2 := NB346_345.out
          refine skip_ (w1 := ?_) (by rfl) rfl ?_ ?_
          rotate_left
          · go_simp
            rfl
          refine hK.out _ _ ⟨gb345, gb346, m10_, m11_, (by rw [ha.out]; exact putSel_none (v := undef) rfl), bk, bk, bl, fun _ _ => NB346_345.out, fun _ _ => NB345_346.out, fun _ h1_ => absurd ((hon 12 (by kernel_rfl)).symm.trans h1_) (by decide), fun _ => GW345.out, fun _ => GE345.out, fun _ => NB331_345.out, fun _ => NB345_331.out, fun _ => NB332_345.out, fun _ => NB345_332.out, fun _ h1_ => absurd ((up_self b 13).symm.trans h1_) (by decide), fun _ => GW346.out, fun _ => GE346.out, fun _ => NB331_346.out, fun _ => NB346_331.out, fun _ => NB332_346.out, fun _ => NB346_332.out, fun _ => bk, fun _ => bk, Q_X10_, Q_X11_⟩
        exact steps_nil
      rintro b a w29 hall ⟨gb345, gb346, m10_, m11_, ha, Q_BK331, Q_BK332, Q_HB, Q_NB346_345, Q_NB345_346, Q_BK345, Q_GW345, Q_GE345, Q_NB331_345, Q_NB345_331, Q_NB332_345, Q_NB345_332, Q_BK346, Q_GW346, Q_GE346, Q_NB331_346, Q_NB346_331, Q_NB332_346, Q_NB346_332, Q_BK345_e12, Q_BK346_e13, Q_X10_, Q_X11_⟩
      clear BK331 BK332 HB
      have hb1_ := hall 1 (by kernel_rfl)
      have hb2_ := hall 2 (by kernel_rfl)
      have hb3_ := hall 3 (by kernel_rfl)
      have hb4_ := hall 4 (by kernel_rfl)
      have hb6_ := hall 6 (by kernel_rfl)
      have hb7_ := hall 7 (by kernel_rfl)
      have hb8_ := hall 8 (by kernel_rfl)
      have hb9_ := hall 9 (by kernel_rfl)
      have hb10_ := hall 10 (by kernel_rfl)
      have hb11_ := hall 11 (by kernel_rfl)
      have hb12_ := hall 12 (by kernel_rfl)
      have hb13_ := hall 13 (by kernel_rfl)
      subst ha
      obtain rfl := Q_X10_ hb10_
      obtain rfl := Q_X11_ hb11_
      simp only [putSel, hb1_, hb2_, hb3_, hb4_, hb6_, hb7_, hb8_, hb9_, hb10_, hb11_, hb12_, hb13_, if_true, Act.put, List.setIfInBounds_toArray, List.set_cons_zero, List.set_cons_succ]
      have BK331 := Bk.mk Q_BK331
      clear Q_BK331
      have BK332 := Bk.mk Q_BK332
      clear Q_BK332
      have HB := Bl.mk Q_HB
      clear Q_HB
      have NB346_345 := Nb.mk (Q_NB346_345 hb10_ hb11_)
      clear Q_NB346_345
      have NB345_346 := Nb.mk (Q_NB345_346 hb10_ hb11_)
      clear Q_NB345_346
      clear Q_BK345
      have GW345 := Aside0.mk (Q_GW345 hb10_)
      clear Q_GW345
      have GE345 := Gl.mk (Q_GE345 hb10_)
      clear Q_GE345
      have NB331_345 := Nb.mk (Q_NB331_345 hb10_)
      clear Q_NB331_345
      have NB345_331 := Nb.mk (Q_NB345_331 hb10_)
      clear Q_NB345_331
      have NB332_345 := Nb.mk (Q_NB332_345 hb10_)
      clear Q_NB332_345
      have NB345_332 := Nb.mk (Q_NB345_332 hb10_)
      clear Q_NB345_332
      clear Q_BK346
      have GW346 := Aside0.mk (Q_GW346 hb11_)
      clear Q_GW346
      have GE346 := Gl.mk (Q_GE346 hb11_)
      clear Q_GE346
      have NB331_346 := Nb.mk (Q_NB331_346 hb11_)
      clear Q_NB331_346
      have NB346_331 := Nb.mk (Q_NB346_331 hb11_)
      clear Q_NB346_331
      have NB332_346 := Nb.mk (Q_NB332_346 hb11_)
      clear Q_NB332_346
      have NB346_332 := Nb.mk (Q_NB346_332 hb11_)
      clear Q_NB346_332
      have BK345 := Bk.mk (Q_BK345_e12 hb12_)
      clear Q_BK345_e12
      have BK346 := Bk.mk (Q_BK346_e13 hb13_)
      clear Q_BK346_e13
      clear hall hb1_ hb2_ hb3_ hb4_ hb6_ hb7_ hb8_ hb9_ hb10_ hb11_ hb12_ hb13_
      try go_wp2
      have n0_ := Bk.mk (blk_drew BK331.out)
      have n1_ := Bk.mk (blk_drew BK332.out)
      have n2_ := Bk.mk (blk_drew BK345.out)
      have n3_ := Bk.mk (blk_drew BK346.out)
      have n4_ := Bl.mk (below_drew1 HB.out)
      clear BK331
      clear BK332
      clear BK345
      clear BK346
      clear HB
      have BK331 := n0_
      have BK332 := n1_
      have BK345 := n2_
      have BK346 := n3_
      have HB := n4_
      clear n0_ n1_ n2_ n3_ n4_
      refine start_ (n := 14) (S := fun w' => True) (ds := []) #[false, false, false, false, false, false, false, false, false, false, false, false, false, false] (by kernel_rfl) rfl rfl trivial (fun hHeld => ?_); refine with_tabW laws_FnExactSpanWhen.tab2 laws_FnExactSpanWhen.bits2 (fun HT_ HW_ => ?_)
      generalize w29.drew = w30 at BK331 BK332 BK345 BK346 HB hHeld ⊢
      refine pure_ (i := 0) (N := some 24) (v := ?_) (a' := ?_) #[true, false, false, false, false, false, false, false, false, false, false, false, false, false] rfl rfl (any_of HT_.out (by kernel_rfl)) (fun _ _ _ h => h) (Or.inl ⟨by rfl, ?_⟩) ?_ ?_
      rotate_left
      · intro w'
        go_simp
        with_reducible rfl
      rotate_left
      · simp only [Act.put, List.setIfInBounds_toArray, List.set_cons_zero, List.set_cons_succ, i64_w, i32_w]
        rfl
      refine pure_ (i := 5) (N := some 29) (v := ?_) (a' := ?_) #[true, false, false, false, false, true, false, false, false, false, false, false, false, false] rfl rfl (any_of HT_.out (by kernel_rfl)) (fun _ _ _ h => h) (Or.inl ⟨by rfl, ?_⟩) ?_ ?_
      rotate_left
      · intro w'
        go_simp
        with_reducible rfl
      rotate_left
      · simp only [Act.put, List.setIfInBounds_toArray, List.set_cons_zero, List.set_cons_succ, i64_w, i32_w]
        rfl
      refine inv_at [1, 2, 3, 4, 6, 7, 8, 9, 10, 11, 12, 13] (fun a0_ b a w' => ∃ (gb359 : Nat) (gb360 : Nat) (m10_ : Value) (m11_ : Value), a = putSel a0_ b [(1, 25, .agg #[.bool a1_0, .int .i64 a1_1, .int .i64 a1_2]), (2, 26, .agg #[.bool t333, .int .i64 t334, .int .i64 t335]), (3, 27, .agg #[.bool a2_0, .int .i64 a2_1, .int .i64 a2_2]), (4, 28, .agg #[.bool t336, .int .i64 t337, .int .i64 t338]), (6, 30, .tuple #[.agg #[.bool t353, .int .i64 t354, .int .i64 t355], .agg #[.bool t356, .int .i64 t357, .int .i64 t358]]), (7, 23, .tuple #[.agg #[.bool t353, .int .i64 t354, .int .i64 t355], .agg #[.bool t356, .int .i64 t357, .int .i64 t358]]), (8, 31, .agg #[.bool t353, .int .i64 t354, .int .i64 t355]), (9, 32, .agg #[.bool t356, .int .i64 t357, .int .i64 t358]), (10, 11, m10_), (11, 12, m11_)] ∧ (w'.heap[gb331]? = some (.cells #[.bool a1_0, .int .i64 a1_1, .int .i64 a1_2] 34 (0, 0))) ∧ (w'.heap[gb332]? = some (.cells #[.bool a2_0, .int .i64 a2_1, .int .i64 a2_2] 34 (0, 0))) ∧ (w'.heap[gb345]? = some (.cells #[.bool t339, .int .i64 t340, .int .i64 t341] 30 (0, 0))) ∧ (w'.heap[gb346]? = some (.cells #[.bool t342, .int .i64 t343, .int .i64 t344] 30 (0, 0))) ∧ (Below w.heap.size w w') ∧ (b 10 = true → b 11 = true → gb360 ≠ gb359) ∧ (b 10 = true → b 11 = true → gb359 ≠ gb360) ∧ (b 10 = true → b 12 = false → w'.heap[gb359]? = some (.cells #[.bool false, .int .i64 0, .int .i64 0] 30 (0, 0))) ∧ (b 10 = true → w.heap.size ≤ gb359) ∧ (b 10 = true → w.heap.size ≤ gb359) ∧ (b 10 = true → gb331 ≠ gb359) ∧ (b 10 = true → gb359 ≠ gb331) ∧ (b 10 = true → gb332 ≠ gb359) ∧ (b 10 = true → gb359 ≠ gb332) ∧ (b 10 = true → gb345 ≠ gb359) ∧ (b 10 = true → gb359 ≠ gb345) ∧ (b 10 = true → gb346 ≠ gb359) ∧ (b 10 = true → gb359 ≠ gb346) ∧ (b 11 = true → b 13 = false → w'.heap[gb360]? = some (.cells #[.bool false, .int .i64 0, .int .i64 0] 30 (0, 0))) ∧ (b 11 = true → w.heap.size ≤ gb360) ∧ (b 11 = true → w.heap.size ≤ gb360) ∧ (b 11 = true → gb331 ≠ gb360) ∧ (b 11 = true → gb360 ≠ gb331) ∧ (b 11 = true → gb332 ≠ gb360) ∧ (b 11 = true → gb360 ≠ gb332) ∧ (b 11 = true → gb345 ≠ gb360) ∧ (b 11 = true → gb360 ≠ gb345) ∧ (b 11 = true → gb346 ≠ gb360) ∧ (b 11 = true → gb360 ≠ gb346) ∧ (b 12 = true → w'.heap[gb359]? = some (.cells #[.bool t353, .int .i64 t354, .int .i64 t355] 30 (0, 0))) ∧ (b 13 = true → w'.heap[gb360]? = some (.cells #[.bool t356, .int .i64 t357, .int .i64 t358] 30 (0, 0))) ∧ (b 10 = true → (m10_ : Value) = .pointer (some ⟨gb359, 0, none⟩)) ∧ (b 11 = true → (m11_ : Value) = .pointer (some ⟨gb360, 0, none⟩))) HT_.out HW_.out (by kernel_rfl) (by kernel_rfl) ?_ ?_ ?_
      · exact ⟨0, 0, .bool false, .bool false, by simp only [putSel, Bool.false_eq_true, if_false], BK331.out, BK332.out, BK345.out, BK346.out, HB.out, fun h_ => absurd h_ (by decide), fun h_ => absurd h_ (by decide), fun h_ => absurd h_ (by decide), fun h_ => absurd h_ (by decide), fun h_ => absurd h_ (by decide), fun h_ => absurd h_ (by decide), fun h_ => absurd h_ (by decide), fun h_ => absurd h_ (by decide), fun h_ => absurd h_ (by decide), fun h_ => absurd h_ (by decide), fun h_ => absurd h_ (by decide), fun h_ => absurd h_ (by decide), fun h_ => absurd h_ (by decide), fun h_ => absurd h_ (by decide), fun h_ => absurd h_ (by decide), fun h_ => absurd h_ (by decide), fun h_ => absurd h_ (by decide), fun h_ => absurd h_ (by decide), fun h_ => absurd h_ (by decide), fun h_ => absurd h_ (by decide), fun h_ => absurd h_ (by decide), fun h_ => absurd h_ (by decide), fun h_ => absurd h_ (by decide), fun h_ => absurd h_ (by decide), fun h_ => absurd h_ (by decide), fun h_ => absurd h_ (by decide), fun h_ => absurd h_ (by decide), fun h_ => absurd h_ (by decide)⟩
      · skip
        clear BK331 BK332 BK345 BK346 HB
        refine steps_cons ?_ ?_
        · rintro b a w' ⟨gb359, gb360, m10_, m11_, ha, Q_BK331, Q_BK332, Q_BK345, Q_BK346, Q_HB, Q_NB360_359, Q_NB359_360, Q_BK359, Q_GW359, Q_GE359, Q_NB331_359, Q_NB359_331, Q_NB332_359, Q_NB359_332, Q_NB345_359, Q_NB359_345, Q_NB346_359, Q_NB359_346, Q_BK360, Q_GW360, Q_GE360, Q_NB331_360, Q_NB360_331, Q_NB332_360, Q_NB360_332, Q_NB345_360, Q_NB360_345, Q_NB346_360, Q_NB360_346, Q_BK359_e12, Q_BK360_e13, Q_X10_, Q_X11_⟩ hb_ hon hoff
          refine ⟨_, rfl, fun K hK => ?_⟩
          have e5 : a.tmps[5]? = some (.pointer (some ⟨gb331, 0, none⟩)) := by rw [ha]; exact (putSel_off rfl).trans rfl
          replace ha := Aside0.mk ha
          have BK331 := Bk.mk Q_BK331
          have BK332 := Bk.mk Q_BK332
          have BK345 := Bk.mk Q_BK345
          have BK346 := Bk.mk Q_BK346
          have HB := Bl.mk Q_HB
          have hc0_ : w'.cell? ⟨gb331, 0, none⟩ = some (.bool a1_0) := (blk_cell BK331.out 0).trans rfl
          have hc1_ : w'.cell? ⟨gb331, 1, none⟩ = some (.int .i64 a1_1) := (blk_cell BK331.out 1).trans rfl
          have hc2_ : w'.cell? ⟨gb331, 2, none⟩ = some (.int .i64 a1_2) := (blk_cell BK331.out 2).trans rfl
          refine value_ (w1 := w') (v := .agg #[.bool a1_0, .int .i64 a1_1, .int .i64 a1_2]) (by rfl) rfl ?_ ?_
          · go_simp
            (try simp only [i64_w])
            try rfl
          refine hK.out _ _ ⟨gb359, gb360, m10_, m11_, (by rw [ha.out]; exact putSel_upk 0 hb_ rfl rfl rfl), Q_BK331, Q_BK332, Q_BK345, Q_BK346, Q_HB, Q_NB360_359, Q_NB359_360, Q_BK359, Q_GW359, Q_GE359, Q_NB331_359, Q_NB359_331, Q_NB332_359, Q_NB359_332, Q_NB345_359, Q_NB359_345, Q_NB346_359, Q_NB359_346, Q_BK360, Q_GW360, Q_GE360, Q_NB331_360, Q_NB360_331, Q_NB332_360, Q_NB360_332, Q_NB345_360, Q_NB360_345, Q_NB346_360, Q_NB360_346, fun h0_ => absurd ((hoff 12 (by kernel_rfl)).symm.trans h0_) (by decide), fun h0_ => absurd ((hoff 13 (by kernel_rfl)).symm.trans h0_) (by decide), Q_X10_, Q_X11_⟩
        refine steps_cons ?_ ?_
        · rintro b a w' ⟨gb359, gb360, m10_, m11_, ha, Q_BK331, Q_BK332, Q_BK345, Q_BK346, Q_HB, Q_NB360_359, Q_NB359_360, Q_BK359, Q_GW359, Q_GE359, Q_NB331_359, Q_NB359_331, Q_NB332_359, Q_NB359_332, Q_NB345_359, Q_NB359_345, Q_NB346_359, Q_NB359_346, Q_BK360, Q_GW360, Q_GE360, Q_NB331_360, Q_NB360_331, Q_NB332_360, Q_NB360_332, Q_NB345_360, Q_NB360_345, Q_NB346_360, Q_NB360_346, Q_BK359_e12, Q_BK360_e13, Q_X10_, Q_X11_⟩ hb_ hon hoff
          refine ⟨_, rfl, fun K hK => ?_⟩
          have e25 : a.tmps[25]? = some (.agg #[.bool a1_0, .int .i64 a1_1, .int .i64 a1_2]) := by rw [ha]; exact putSel_on (e := (1, 25, .agg #[.bool a1_0, .int .i64 a1_1, .int .i64 a1_2])) 0 rfl rfl (hon 1 (by kernel_rfl)) rfl
          replace ha := Aside0.mk ha
          have BK331 := Bk.mk Q_BK331
          have BK332 := Bk.mk Q_BK332
          have BK345 := Bk.mk Q_BK345
          have BK346 := Bk.mk Q_BK346
          have HB := Bl.mk Q_HB
          refine goes_ Try.func18 (by kernel_rfl) rfl #[.agg #[.bool a1_0, .int .i64 a1_1, .int .i64 a1_2]] (by rfl) rfl rfl (by first | (simp only [List.map_toArray, List.map_cons, List.map_nil, Act.eval, Array.getD_eq_getD_getElem?, Option.getD_some, e25]; done) | (simp only [List.map_toArray, List.map_cons, List.map_nil, Act.eval, Array.getD_eq_getD_getElem?, Option.getD_some, e25]; rfl)) ?_
          with_reducible refine (laws_toSpan.calls a1_0 a1_1 a1_2 t333 t334 t335 _ A8.out).mono ?_
          rintro e w31 ⟨rfl, hb⟩
          refine ⟨_, rfl, ?_⟩
          have n0_ := Bk.mk (blk_below (g := gb331) bk hb)
          have n1_ := Bk.mk (blk_below (g := gb332) bk hb)
          have n2_ := Bk.mk (blk_below (g := gb345) bk hb)
          have n3_ := Bk.mk (blk_below (g := gb346) bk hb)
          have n4_ := Bl.mk (below_step bl hb)
          have z_BK359 := fun (h0_ : b 10 = true) (h1_ : b 12 = false) => (show w31.heap[gb359]? = some (.cells #[.bool false, .int .i64 0, .int .i64 0] 30 (0, 0)) from by first | exact (blk_below (g := gb359) (o := .cells #[.bool false, .int .i64 0, .int .i64 0] 30 (0, 0)) (by (with_reducible repeat (first | refine blk_drewN ?_ _ | refine blk_drew ?_ | refine blk_alloc ?_ _)); exact (Q_BK359 h0_ h1_)) hb))
          have z_BK360 := fun (h0_ : b 11 = true) (h1_ : b 13 = false) => (show w31.heap[gb360]? = some (.cells #[.bool false, .int .i64 0, .int .i64 0] 30 (0, 0)) from by first | exact (blk_below (g := gb360) (o := .cells #[.bool false, .int .i64 0, .int .i64 0] 30 (0, 0)) (by (with_reducible repeat (first | refine blk_drewN ?_ _ | refine blk_drew ?_ | refine blk_alloc ?_ _)); exact (Q_BK360 h0_ h1_)) hb))
          clear BK331
          clear BK332
          clear BK345
          clear BK346
          clear HB
          have BK331 := n0_
          have BK332 := n1_
          have BK345 := n2_
          have BK346 := n3_
          have HB := n4_
          clear n0_ n1_ n2_ n3_ n4_
          (try clear hb)
          (try clear hb2)
          (try clear hk)
          (try clear hi)
          refine hK.out _ _ ⟨gb359, gb360, m10_, m11_, (by rw [ha.out]; exact putSel_upk 1 hb_ rfl rfl rfl), bk, bk, bk, bk, bl, Q_NB360_359, Q_NB359_360, z_BK359, Q_GW359, Q_GE359, Q_NB331_359, Q_NB359_331, Q_NB332_359, Q_NB359_332, Q_NB345_359, Q_NB359_345, Q_NB346_359, Q_NB359_346, z_BK360, Q_GW360, Q_GE360, Q_NB331_360, Q_NB360_331, Q_NB332_360, Q_NB360_332, Q_NB345_360, Q_NB360_345, Q_NB346_360, Q_NB360_346, fun h0_ => absurd ((hoff 12 (by kernel_rfl)).symm.trans h0_) (by decide), fun h0_ => absurd ((hoff 13 (by kernel_rfl)).symm.trans h0_) (by decide), Q_X10_, Q_X11_⟩
        refine steps_cons ?_ ?_
        · rintro b a w' ⟨gb359, gb360, m10_, m11_, ha, Q_BK331, Q_BK332, Q_BK345, Q_BK346, Q_HB, Q_NB360_359, Q_NB359_360, Q_BK359, Q_GW359, Q_GE359, Q_NB331_359, Q_NB359_331, Q_NB332_359, Q_NB359_332, Q_NB345_359, Q_NB359_345, Q_NB346_359, Q_NB359_346, Q_BK360, Q_GW360, Q_GE360, Q_NB331_360, Q_NB360_331, Q_NB332_360, Q_NB360_332, Q_NB345_360, Q_NB360_345, Q_NB346_360, Q_NB360_346, Q_BK359_e12, Q_BK360_e13, Q_X10_, Q_X11_⟩ hb_ hon hoff
          refine ⟨_, rfl, fun K hK => ?_⟩
          have e6 : a.tmps[6]? = some (.pointer (some ⟨gb332, 0, none⟩)) := by rw [ha]; exact (putSel_off rfl).trans rfl
          replace ha := Aside0.mk ha
          have BK331 := Bk.mk Q_BK331
          have BK332 := Bk.mk Q_BK332
          have BK345 := Bk.mk Q_BK345
          have BK346 := Bk.mk Q_BK346
          have HB := Bl.mk Q_HB
          have hc0_ : w'.cell? ⟨gb332, 0, none⟩ = some (.bool a2_0) := (blk_cell BK332.out 0).trans rfl
          have hc1_ : w'.cell? ⟨gb332, 1, none⟩ = some (.int .i64 a2_1) := (blk_cell BK332.out 1).trans rfl
          have hc2_ : w'.cell? ⟨gb332, 2, none⟩ = some (.int .i64 a2_2) := (blk_cell BK332.out 2).trans rfl
          refine value_ (w1 := w') (v := .agg #[.bool a2_0, .int .i64 a2_1, .int .i64 a2_2]) (by rfl) rfl ?_ ?_
          · go_simp
            (try simp only [i64_w])
            try rfl
          refine hK.out _ _ ⟨gb359, gb360, m10_, m11_, (by rw [ha.out]; exact putSel_upk 2 hb_ rfl rfl rfl), Q_BK331, Q_BK332, Q_BK345, Q_BK346, Q_HB, Q_NB360_359, Q_NB359_360, Q_BK359, Q_GW359, Q_GE359, Q_NB331_359, Q_NB359_331, Q_NB332_359, Q_NB359_332, Q_NB345_359, Q_NB359_345, Q_NB346_359, Q_NB359_346, Q_BK360, Q_GW360, Q_GE360, Q_NB331_360, Q_NB360_331, Q_NB332_360, Q_NB360_332, Q_NB345_360, Q_NB360_345, Q_NB346_360, Q_NB360_346, fun h0_ => absurd ((hoff 12 (by kernel_rfl)).symm.trans h0_) (by decide), fun h0_ => absurd ((hoff 13 (by kernel_rfl)).symm.trans h0_) (by decide), Q_X10_, Q_X11_⟩
        refine steps_cons ?_ ?_
        · rintro b a w' ⟨gb359, gb360, m10_, m11_, ha, Q_BK331, Q_BK332, Q_BK345, Q_BK346, Q_HB, Q_NB360_359, Q_NB359_360, Q_BK359, Q_GW359, Q_GE359, Q_NB331_359, Q_NB359_331, Q_NB332_359, Q_NB359_332, Q_NB345_359, Q_NB359_345, Q_NB346_359, Q_NB359_346, Q_BK360, Q_GW360, Q_GE360, Q_NB331_360, Q_NB360_331, Q_NB332_360, Q_NB360_332, Q_NB345_360, Q_NB360_345, Q_NB346_360, Q_NB360_346, Q_BK359_e12, Q_BK360_e13, Q_X10_, Q_X11_⟩ hb_ hon hoff
          refine ⟨_, rfl, fun K hK => ?_⟩
          have e27 : a.tmps[27]? = some (.agg #[.bool a2_0, .int .i64 a2_1, .int .i64 a2_2]) := by rw [ha]; exact putSel_on (e := (3, 27, .agg #[.bool a2_0, .int .i64 a2_1, .int .i64 a2_2])) 2 rfl rfl (hon 3 (by kernel_rfl)) rfl
          replace ha := Aside0.mk ha
          have BK331 := Bk.mk Q_BK331
          have BK332 := Bk.mk Q_BK332
          have BK345 := Bk.mk Q_BK345
          have BK346 := Bk.mk Q_BK346
          have HB := Bl.mk Q_HB
          refine goes_ Try.func18 (by kernel_rfl) rfl #[.agg #[.bool a2_0, .int .i64 a2_1, .int .i64 a2_2]] (by rfl) rfl rfl (by first | (simp only [List.map_toArray, List.map_cons, List.map_nil, Act.eval, Array.getD_eq_getD_getElem?, Option.getD_some, e27]; done) | (simp only [List.map_toArray, List.map_cons, List.map_nil, Act.eval, Array.getD_eq_getD_getElem?, Option.getD_some, e27]; rfl)) ?_
          with_reducible refine (laws_toSpan.calls a2_0 a2_1 a2_2 t336 t337 t338 _ A9.out).mono ?_
          rintro e w33 ⟨rfl, hb⟩
          refine ⟨_, rfl, ?_⟩
          have n0_ := Bk.mk (blk_below (g := gb331) bk hb)
          have n1_ := Bk.mk (blk_below (g := gb332) bk hb)
          have n2_ := Bk.mk (blk_below (g := gb345) bk hb)
          have n3_ := Bk.mk (blk_below (g := gb346) bk hb)
          have n4_ := Bl.mk (below_step bl hb)
          have z_BK359 := fun (h0_ : b 10 = true) (h1_ : b 12 = false) => (show w33.heap[gb359]? = some (.cells #[.bool false, .int .i64 0, .int .i64 0] 30 (0, 0)) from by first | exact (blk_below (g := gb359) (o := .cells #[.bool false, .int .i64 0, .int .i64 0] 30 (0, 0)) (by (with_reducible repeat (first | refine blk_drewN ?_ _ | refine blk_drew ?_ | refine blk_alloc ?_ _)); exact (Q_BK359 h0_ h1_)) hb))
          have z_BK360 := fun (h0_ : b 11 = true) (h1_ : b 13 = false) => (show w33.heap[gb360]? = some (.cells #[.bool false, .int .i64 0, .int .i64 0] 30 (0, 0)) from by first | exact (blk_below (g := gb360) (o := .cells #[.bool false, .int .i64 0, .int .i64 0] 30 (0, 0)) (by (with_reducible repeat (first | refine blk_drewN ?_ _ | refine blk_drew ?_ | refine blk_alloc ?_ _)); exact (Q_BK360 h0_ h1_)) hb))
          clear BK331
          clear BK332
          clear BK345
          clear BK346
          clear HB
          have BK331 := n0_
          have BK332 := n1_
          have BK345 := n2_
          have BK346 := n3_
          have HB := n4_
          clear n0_ n1_ n2_ n3_ n4_
          (try clear hb)
          (try clear hb2)
          (try clear hk)
          (try clear hi)
          refine hK.out _ _ ⟨gb359, gb360, m10_, m11_, (by rw [ha.out]; exact putSel_upk 3 hb_ rfl rfl rfl), bk, bk, bk, bk, bl, Q_NB360_359, Q_NB359_360, z_BK359, Q_GW359, Q_GE359, Q_NB331_359, Q_NB359_331, Q_NB332_359, Q_NB359_332, Q_NB345_359, Q_NB359_345, Q_NB346_359, Q_NB359_346, z_BK360, Q_GW360, Q_GE360, Q_NB331_360, Q_NB360_331, Q_NB332_360, Q_NB360_332, Q_NB345_360, Q_NB360_345, Q_NB346_360, Q_NB360_346, fun h0_ => absurd ((hoff 12 (by kernel_rfl)).symm.trans h0_) (by decide), fun h0_ => absurd ((hoff 13 (by kernel_rfl)).symm.trans h0_) (by decide), Q_X10_, Q_X11_⟩
        refine steps_cons ?_ ?_
        · rintro b a w' ⟨gb359, gb360, m10_, m11_, ha, Q_BK331, Q_BK332, Q_BK345, Q_BK346, Q_HB, Q_NB360_359, Q_NB359_360, Q_BK359, Q_GW359, Q_GE359, Q_NB331_359, Q_NB359_331, Q_NB332_359, Q_NB359_332, Q_NB345_359, Q_NB359_345, Q_NB346_359, Q_NB359_346, Q_BK360, Q_GW360, Q_GE360, Q_NB331_360, Q_NB360_331, Q_NB332_360, Q_NB360_332, Q_NB345_360, Q_NB360_345, Q_NB346_360, Q_NB360_346, Q_BK359_e12, Q_BK360_e13, Q_X10_, Q_X11_⟩ hb_ hon hoff
          refine ⟨_, rfl, fun K hK => ?_⟩
          have e24 : a.tmps[24]? = some (.int .i64 a0) := by rw [ha]; exact (putSel_off rfl).trans rfl
          have e26 : a.tmps[26]? = some (.agg #[.bool t333, .int .i64 t334, .int .i64 t335]) := by rw [ha]; exact putSel_on (e := (2, 26, .agg #[.bool t333, .int .i64 t334, .int .i64 t335])) 1 rfl rfl (hon 2 (by kernel_rfl)) rfl
          have e28 : a.tmps[28]? = some (.agg #[.bool t336, .int .i64 t337, .int .i64 t338]) := by rw [ha]; exact putSel_on (e := (4, 28, .agg #[.bool t336, .int .i64 t337, .int .i64 t338])) 3 rfl rfl (hon 4 (by kernel_rfl)) rfl
          have e29 : a.tmps[29]? = some (.bool a3) := by rw [ha]; exact (putSel_off rfl).trans rfl
          replace ha := Aside0.mk ha
          have BK331 := Bk.mk Q_BK331
          have BK332 := Bk.mk Q_BK332
          have BK345 := Bk.mk Q_BK345
          have BK346 := Bk.mk Q_BK346
          have HB := Bl.mk Q_HB
          refine goes_ Try.func19 (by kernel_rfl) rfl #[.int .i64 a0, .agg #[.bool t333, .int .i64 t334, .int .i64 t335], .agg #[.bool t336, .int .i64 t337, .int .i64 t338], .bool a3] (by rfl) rfl rfl (by first | (simp only [List.map_toArray, List.map_cons, List.map_nil, Act.eval, Array.getD_eq_getD_getElem?, Option.getD_some, e24, e26, e28, e29]; done) | (simp only [List.map_toArray, List.map_cons, List.map_nil, Act.eval, Array.getD_eq_getD_getElem?, Option.getD_some, e24, e26, e28, e29]; rfl)) ?_
          with_reducible refine (impl_SpanWhen.calls k a0 t333 t334 t335 t336 t337 t338 a3 t353 t354 t355 t356 t357 t358 _ A10.out).mono ?_
          rintro e w34 ⟨rfl, hb⟩
          refine ⟨_, rfl, ?_⟩
          have n0_ := Bk.mk (blk_below (g := gb331) bk hb)
          have n1_ := Bk.mk (blk_below (g := gb332) bk hb)
          have n2_ := Bk.mk (blk_below (g := gb345) bk hb)
          have n3_ := Bk.mk (blk_below (g := gb346) bk hb)
          have n4_ := Bl.mk (below_step bl hb)
          have z_BK359 := fun (h0_ : b 10 = true) (h1_ : b 12 = false) => (show w34.heap[gb359]? = some (.cells #[.bool false, .int .i64 0, .int .i64 0] 30 (0, 0)) from by first | exact (blk_below (g := gb359) (o := .cells #[.bool false, .int .i64 0, .int .i64 0] 30 (0, 0)) (by (with_reducible repeat (first | refine blk_drewN ?_ _ | refine blk_drew ?_ | refine blk_alloc ?_ _)); exact (Q_BK359 h0_ h1_)) hb))
          have z_BK360 := fun (h0_ : b 11 = true) (h1_ : b 13 = false) => (show w34.heap[gb360]? = some (.cells #[.bool false, .int .i64 0, .int .i64 0] 30 (0, 0)) from by first | exact (blk_below (g := gb360) (o := .cells #[.bool false, .int .i64 0, .int .i64 0] 30 (0, 0)) (by (with_reducible repeat (first | refine blk_drewN ?_ _ | refine blk_drew ?_ | refine blk_alloc ?_ _)); exact (Q_BK360 h0_ h1_)) hb))
          clear BK331
          clear BK332
          clear BK345
          clear BK346
          clear HB
          have BK331 := n0_
          have BK332 := n1_
          have BK345 := n2_
          have BK346 := n3_
          have HB := n4_
          clear n0_ n1_ n2_ n3_ n4_
          (try clear hb)
          (try clear hb2)
          (try clear hk)
          (try clear hi)
          refine hK.out _ _ ⟨gb359, gb360, m10_, m11_, (by rw [ha.out]; exact putSel_upk 4 hb_ rfl rfl rfl), bk, bk, bk, bk, bl, Q_NB360_359, Q_NB359_360, z_BK359, Q_GW359, Q_GE359, Q_NB331_359, Q_NB359_331, Q_NB332_359, Q_NB359_332, Q_NB345_359, Q_NB359_345, Q_NB346_359, Q_NB359_346, z_BK360, Q_GW360, Q_GE360, Q_NB331_360, Q_NB360_331, Q_NB332_360, Q_NB360_332, Q_NB345_360, Q_NB360_345, Q_NB346_360, Q_NB360_346, fun h0_ => absurd ((hoff 12 (by kernel_rfl)).symm.trans h0_) (by decide), fun h0_ => absurd ((hoff 13 (by kernel_rfl)).symm.trans h0_) (by decide), Q_X10_, Q_X11_⟩
        refine steps_cons ?_ ?_
        · rintro b a w' ⟨gb359, gb360, m10_, m11_, ha, Q_BK331, Q_BK332, Q_BK345, Q_BK346, Q_HB, Q_NB360_359, Q_NB359_360, Q_BK359, Q_GW359, Q_GE359, Q_NB331_359, Q_NB359_331, Q_NB332_359, Q_NB359_332, Q_NB345_359, Q_NB359_345, Q_NB346_359, Q_NB359_346, Q_BK360, Q_GW360, Q_GE360, Q_NB331_360, Q_NB360_331, Q_NB332_360, Q_NB360_332, Q_NB345_360, Q_NB360_345, Q_NB346_360, Q_NB360_346, Q_BK359_e12, Q_BK360_e13, Q_X10_, Q_X11_⟩ hb_ hon hoff
          refine ⟨_, rfl, fun K hK => ?_⟩
          have e30 : a.tmps[30]? = some (.tuple #[.agg #[.bool t353, .int .i64 t354, .int .i64 t355], .agg #[.bool t356, .int .i64 t357, .int .i64 t358]]) := by rw [ha]; exact putSel_on (e := (6, 30, .tuple #[.agg #[.bool t353, .int .i64 t354, .int .i64 t355], .agg #[.bool t356, .int .i64 t357, .int .i64 t358]])) 4 rfl rfl (hon 6 (by kernel_rfl)) rfl
          replace ha := Aside0.mk ha
          have BK331 := Bk.mk Q_BK331
          have BK332 := Bk.mk Q_BK332
          have BK345 := Bk.mk Q_BK345
          have BK346 := Bk.mk Q_BK346
          have HB := Bl.mk Q_HB
          refine value_ (w1 := w') (v := .tuple #[.agg #[.bool t353, .int .i64 t354, .int .i64 t355], .agg #[.bool t356, .int .i64 t357, .int .i64 t358]]) (by rfl) rfl ?_ ?_
          · go_simp
            (try simp only [i64_w])
            try rfl
          refine hK.out _ _ ⟨gb359, gb360, m10_, m11_, (by rw [ha.out]; exact putSel_upk 5 hb_ rfl rfl rfl), Q_BK331, Q_BK332, Q_BK345, Q_BK346, Q_HB, Q_NB360_359, Q_NB359_360, Q_BK359, Q_GW359, Q_GE359, Q_NB331_359, Q_NB359_331, Q_NB332_359, Q_NB359_332, Q_NB345_359, Q_NB359_345, Q_NB346_359, Q_NB359_346, Q_BK360, Q_GW360, Q_GE360, Q_NB331_360, Q_NB360_331, Q_NB332_360, Q_NB360_332, Q_NB345_360, Q_NB360_345, Q_NB346_360, Q_NB360_346, fun h0_ => absurd ((hoff 12 (by kernel_rfl)).symm.trans h0_) (by decide), fun h0_ => absurd ((hoff 13 (by kernel_rfl)).symm.trans h0_) (by decide), Q_X10_, Q_X11_⟩
        refine steps_cons ?_ ?_
        · rintro b a w' ⟨gb359, gb360, m10_, m11_, ha, Q_BK331, Q_BK332, Q_BK345, Q_BK346, Q_HB, Q_NB360_359, Q_NB359_360, Q_BK359, Q_GW359, Q_GE359, Q_NB331_359, Q_NB359_331, Q_NB332_359, Q_NB359_332, Q_NB345_359, Q_NB359_345, Q_NB346_359, Q_NB359_346, Q_BK360, Q_GW360, Q_GE360, Q_NB331_360, Q_NB360_331, Q_NB332_360, Q_NB360_332, Q_NB345_360, Q_NB360_345, Q_NB346_360, Q_NB360_346, Q_BK359_e12, Q_BK360_e13, Q_X10_, Q_X11_⟩ hb_ hon hoff
          refine ⟨_, rfl, fun K hK => ?_⟩
          have e23 : a.tmps[23]? = some (.tuple #[.agg #[.bool t353, .int .i64 t354, .int .i64 t355], .agg #[.bool t356, .int .i64 t357, .int .i64 t358]]) := by rw [ha]; exact putSel_on (e := (7, 23, .tuple #[.agg #[.bool t353, .int .i64 t354, .int .i64 t355], .agg #[.bool t356, .int .i64 t357, .int .i64 t358]])) 5 rfl rfl (hon 7 (by kernel_rfl)) rfl
          replace ha := Aside0.mk ha
          have BK331 := Bk.mk Q_BK331
          have BK332 := Bk.mk Q_BK332
          have BK345 := Bk.mk Q_BK345
          have BK346 := Bk.mk Q_BK346
          have HB := Bl.mk Q_HB
          refine value_ (w1 := w') (v := .agg #[.bool t353, .int .i64 t354, .int .i64 t355]) (by rfl) rfl ?_ ?_
          · go_simp
            (try simp only [i64_w])
            try rfl
          refine hK.out _ _ ⟨gb359, gb360, m10_, m11_, (by rw [ha.out]; exact putSel_upk 6 hb_ rfl rfl rfl), Q_BK331, Q_BK332, Q_BK345, Q_BK346, Q_HB, Q_NB360_359, Q_NB359_360, Q_BK359, Q_GW359, Q_GE359, Q_NB331_359, Q_NB359_331, Q_NB332_359, Q_NB359_332, Q_NB345_359, Q_NB359_345, Q_NB346_359, Q_NB359_346, Q_BK360, Q_GW360, Q_GE360, Q_NB331_360, Q_NB360_331, Q_NB332_360, Q_NB360_332, Q_NB345_360, Q_NB360_345, Q_NB346_360, Q_NB360_346, fun h0_ => absurd ((hoff 12 (by kernel_rfl)).symm.trans h0_) (by decide), fun h0_ => absurd ((hoff 13 (by kernel_rfl)).symm.trans h0_) (by decide), Q_X10_, Q_X11_⟩
        refine steps_cons ?_ ?_
        · rintro b a w' ⟨gb359, gb360, m10_, m11_, ha, Q_BK331, Q_BK332, Q_BK345, Q_BK346, Q_HB, Q_NB360_359, Q_NB359_360, Q_BK359, Q_GW359, Q_GE359, Q_NB331_359, Q_NB359_331, Q_NB332_359, Q_NB359_332, Q_NB345_359, Q_NB359_345, Q_NB346_359, Q_NB359_346, Q_BK360, Q_GW360, Q_GE360, Q_NB331_360, Q_NB360_331, Q_NB332_360, Q_NB360_332, Q_NB345_360, Q_NB360_345, Q_NB346_360, Q_NB360_346, Q_BK359_e12, Q_BK360_e13, Q_X10_, Q_X11_⟩ hb_ hon hoff
          refine ⟨_, rfl, fun K hK => ?_⟩
          have e23 : a.tmps[23]? = some (.tuple #[.agg #[.bool t353, .int .i64 t354, .int .i64 t355], .agg #[.bool t356, .int .i64 t357, .int .i64 t358]]) := by rw [ha]; exact putSel_on (e := (7, 23, .tuple #[.agg #[.bool t353, .int .i64 t354, .int .i64 t355], .agg #[.bool t356, .int .i64 t357, .int .i64 t358]])) 5 rfl rfl (hon 7 (by kernel_rfl)) rfl
          replace ha := Aside0.mk ha
          have BK331 := Bk.mk Q_BK331
          have BK332 := Bk.mk Q_BK332
          have BK345 := Bk.mk Q_BK345
          have BK346 := Bk.mk Q_BK346
          have HB := Bl.mk Q_HB
          refine value_ (w1 := w') (v := .agg #[.bool t356, .int .i64 t357, .int .i64 t358]) (by rfl) rfl ?_ ?_
          · go_simp
            (try simp only [i64_w])
            try rfl
          refine hK.out _ _ ⟨gb359, gb360, m10_, m11_, (by rw [ha.out]; exact putSel_upk 7 hb_ rfl rfl rfl), Q_BK331, Q_BK332, Q_BK345, Q_BK346, Q_HB, Q_NB360_359, Q_NB359_360, Q_BK359, Q_GW359, Q_GE359, Q_NB331_359, Q_NB359_331, Q_NB332_359, Q_NB359_332, Q_NB345_359, Q_NB359_345, Q_NB346_359, Q_NB359_346, Q_BK360, Q_GW360, Q_GE360, Q_NB331_360, Q_NB360_331, Q_NB332_360, Q_NB360_332, Q_NB345_360, Q_NB360_345, Q_NB346_360, Q_NB360_346, Q_BK359_e12, fun h0_ => absurd ((hoff 13 (by kernel_rfl)).symm.trans h0_) (by decide), Q_X10_, Q_X11_⟩
        refine steps_cons ?_ ?_
        · rintro b a w' ⟨gb359, gb360, m10_, m11_, ha, Q_BK331, Q_BK332, Q_BK345, Q_BK346, Q_HB, Q_NB360_359, Q_NB359_360, Q_BK359, Q_GW359, Q_GE359, Q_NB331_359, Q_NB359_331, Q_NB332_359, Q_NB359_332, Q_NB345_359, Q_NB359_345, Q_NB346_359, Q_NB359_346, Q_BK360, Q_GW360, Q_GE360, Q_NB331_360, Q_NB360_331, Q_NB332_360, Q_NB360_332, Q_NB345_360, Q_NB360_345, Q_NB346_360, Q_NB360_346, Q_BK359_e12, Q_BK360_e13, Q_X10_, Q_X11_⟩ hb_ hon hoff
          refine ⟨_, rfl, fun K hK => ?_⟩
          replace ha := Aside0.mk ha
          have BK331 := Bk.mk Q_BK331
          have BK332 := Bk.mk Q_BK332
          have BK345 := Bk.mk Q_BK345
          have BK346 := Bk.mk Q_BK346
          have HB := Bl.mk Q_HB
          refine box_step ?hg (N := 11) ?hd (cs := #[.bool false, .int .i64 0, .int .i64 0]) (t := 30) ?hr ?_; (case hd => rfl); (case hg => rfl); (case hr => first | (go_simp; done) | (go_simp; rfl))
          intro gb359 hg w31 hbox hb
          have n0_ := Bk.mk (blk_below (g := gb331) bk hb)
          have n1_ := Bk.mk (blk_below (g := gb332) bk hb)
          have n2_ := Bk.mk (blk_below (g := gb345) bk hb)
          have n3_ := Bk.mk (blk_below (g := gb346) bk hb)
          have n4_ := Bl.mk (below_step bl hb)
          have n5_ := Bk.mk (hbox)
          have n6_ := Aside0.mk ((by rw [hg]; exact (below_size bl) : w.heap.size ≤ gb359))
          have n7_ := Gl.mk ((by rw [hg]; exact (below_size bl) : w.heap.size ≤ gb359))
          have n8_ := Nb.mk ((by rw [hg]; exact Nat.ne_of_lt (blk_lt (g := gb331) bk) : gb331 ≠ gb359))
          have n9_ := Nb.mk ((by rw [hg]; exact Nat.ne_of_gt (blk_lt (g := gb331) bk) : gb359 ≠ gb331))
          have n10_ := Nb.mk ((by rw [hg]; exact Nat.ne_of_lt (blk_lt (g := gb332) bk) : gb332 ≠ gb359))
          have n11_ := Nb.mk ((by rw [hg]; exact Nat.ne_of_gt (blk_lt (g := gb332) bk) : gb359 ≠ gb332))
          have n12_ := Nb.mk ((by rw [hg]; exact Nat.ne_of_lt (blk_lt (g := gb345) bk) : gb345 ≠ gb359))
          have n13_ := Nb.mk ((by rw [hg]; exact Nat.ne_of_gt (blk_lt (g := gb345) bk) : gb359 ≠ gb345))
          have n14_ := Nb.mk ((by rw [hg]; exact Nat.ne_of_lt (blk_lt (g := gb346) bk) : gb346 ≠ gb359))
          have n15_ := Nb.mk ((by rw [hg]; exact Nat.ne_of_gt (blk_lt (g := gb346) bk) : gb359 ≠ gb346))
          have z_NB360_359 := fun (h0_ : up b 10 10 = true) (h1_ : up b 10 11 = true) => (show gb360 ≠ gb359 from ((by rw [hg]; exact Nat.ne_of_lt (blk_lt (g := gb360) (o := .cells #[.bool false, .int .i64 0, .int .i64 0] 30 (0, 0)) (Q_BK360 ((up_ne (by decide)).symm.trans h1_) (hoff 13 (by kernel_rfl)))) : gb360 ≠ gb359)))
          have z_NB359_360 := fun (h0_ : up b 10 10 = true) (h1_ : up b 10 11 = true) => (show gb359 ≠ gb360 from ((by rw [hg]; exact Nat.ne_of_gt (blk_lt (g := gb360) (o := .cells #[.bool false, .int .i64 0, .int .i64 0] 30 (0, 0)) (Q_BK360 ((up_ne (by decide)).symm.trans h1_) (hoff 13 (by kernel_rfl)))) : gb359 ≠ gb360)))
          have z_BK360 := fun (h0_ : b 11 = true) (h1_ : b 13 = false) => (show w31.heap[gb360]? = some (.cells #[.bool false, .int .i64 0, .int .i64 0] 30 (0, 0)) from by first | exact (blk_below (g := gb360) (o := .cells #[.bool false, .int .i64 0, .int .i64 0] 30 (0, 0)) (by (with_reducible repeat (first | refine blk_drewN ?_ _ | refine blk_drew ?_ | refine blk_alloc ?_ _)); exact (Q_BK360 h0_ h1_)) hb))
          clear BK331
          clear BK332
          clear BK345
          clear BK346
          clear HB
          have BK331 := n0_
          have BK332 := n1_
          have BK345 := n2_
          have BK346 := n3_
          have HB := n4_
          have BK359 := n5_
          have GW359 := n6_
          have GE359 := n7_
          have NB331_359 := n8_
          have NB359_331 := n9_
          have NB332_359 := n10_
          have NB359_332 := n11_
          have NB345_359 := n12_
          have NB359_345 := n13_
          have NB346_359 := n14_
          have NB359_346 := n15_
          clear n0_ n1_ n2_ n3_ n4_ n5_ n6_ n7_ n8_ n9_ n10_ n11_ n12_ n13_ n14_ n15_
          clear hb hbox hg
          refine hK.out _ _ ⟨gb359, gb360, (.pointer (some ⟨gb359, 0, none⟩)), m11_, (by rw [ha.out]; exact putSel_upk 8 hb_ rfl rfl rfl), bk, bk, bk, bk, bl, z_NB360_359, z_NB359_360, fun _ _ => bk, fun _ => GW359.out, fun _ => GE359.out, fun _ => NB331_359.out, fun _ => NB359_331.out, fun _ => NB332_359.out, fun _ => NB359_332.out, fun _ => NB345_359.out, fun _ => NB359_345.out, fun _ => NB346_359.out, fun _ => NB359_346.out, z_BK360, Q_GW360, Q_GE360, Q_NB331_360, Q_NB360_331, Q_NB332_360, Q_NB360_332, Q_NB345_360, Q_NB360_345, Q_NB346_360, Q_NB360_346, fun h0_ => absurd ((hoff 12 (by kernel_rfl)).symm.trans h0_) (by decide), fun h0_ => absurd ((hoff 13 (by kernel_rfl)).symm.trans h0_) (by decide), fun _ => rfl, Q_X11_⟩
        refine steps_cons ?_ ?_
        · rintro b a w' ⟨gb359, gb360, m10_, m11_, ha, Q_BK331, Q_BK332, Q_BK345, Q_BK346, Q_HB, Q_NB360_359, Q_NB359_360, Q_BK359, Q_GW359, Q_GE359, Q_NB331_359, Q_NB359_331, Q_NB332_359, Q_NB359_332, Q_NB345_359, Q_NB359_345, Q_NB346_359, Q_NB359_346, Q_BK360, Q_GW360, Q_GE360, Q_NB331_360, Q_NB360_331, Q_NB332_360, Q_NB360_332, Q_NB345_360, Q_NB360_345, Q_NB346_360, Q_NB360_346, Q_BK359_e12, Q_BK360_e13, Q_X10_, Q_X11_⟩ hb_ hon hoff
          refine ⟨_, rfl, fun K hK => ?_⟩
          replace ha := Aside0.mk ha
          have BK331 := Bk.mk Q_BK331
          have BK332 := Bk.mk Q_BK332
          have BK345 := Bk.mk Q_BK345
          have BK346 := Bk.mk Q_BK346
          have HB := Bl.mk Q_HB
          refine box_step ?hg (N := 12) ?hd (cs := #[.bool false, .int .i64 0, .int .i64 0]) (t := 30) ?hr ?_; (case hd => rfl); (case hg => rfl); (case hr => first | (go_simp; done) | (go_simp; rfl))
          intro gb360 hg w31 hbox hb
          have n0_ := Bk.mk (blk_below (g := gb331) bk hb)
          have n1_ := Bk.mk (blk_below (g := gb332) bk hb)
          have n2_ := Bk.mk (blk_below (g := gb345) bk hb)
          have n3_ := Bk.mk (blk_below (g := gb346) bk hb)
          have n4_ := Bl.mk (below_step bl hb)
          have n5_ := Bk.mk (hbox)
          have n6_ := Aside0.mk ((by rw [hg]; exact (below_size bl) : w.heap.size ≤ gb360))
          have n7_ := Gl.mk ((by rw [hg]; exact (below_size bl) : w.heap.size ≤ gb360))
          have n8_ := Nb.mk ((by rw [hg]; exact Nat.ne_of_lt (blk_lt (g := gb331) bk) : gb331 ≠ gb360))
          have n9_ := Nb.mk ((by rw [hg]; exact Nat.ne_of_gt (blk_lt (g := gb331) bk) : gb360 ≠ gb331))
          have n10_ := Nb.mk ((by rw [hg]; exact Nat.ne_of_lt (blk_lt (g := gb332) bk) : gb332 ≠ gb360))
          have n11_ := Nb.mk ((by rw [hg]; exact Nat.ne_of_gt (blk_lt (g := gb332) bk) : gb360 ≠ gb332))
          have n12_ := Nb.mk ((by rw [hg]; exact Nat.ne_of_lt (blk_lt (g := gb345) bk) : gb345 ≠ gb360))
          have n13_ := Nb.mk ((by rw [hg]; exact Nat.ne_of_gt (blk_lt (g := gb345) bk) : gb360 ≠ gb345))
          have n14_ := Nb.mk ((by rw [hg]; exact Nat.ne_of_lt (blk_lt (g := gb346) bk) : gb346 ≠ gb360))
          have n15_ := Nb.mk ((by rw [hg]; exact Nat.ne_of_gt (blk_lt (g := gb346) bk) : gb360 ≠ gb346))
          have z_NB360_359 := fun (h0_ : up b 11 10 = true) (h1_ : up b 11 11 = true) => (show gb360 ≠ gb359 from ((by rw [hg]; exact Nat.ne_of_gt (blk_lt (g := gb359) (o := .cells #[.bool false, .int .i64 0, .int .i64 0] 30 (0, 0)) (Q_BK359 ((up_ne (by decide)).symm.trans h0_) (hoff 12 (by kernel_rfl)))) : gb360 ≠ gb359)))
          have z_NB359_360 := fun (h0_ : up b 11 10 = true) (h1_ : up b 11 11 = true) => (show gb359 ≠ gb360 from ((by rw [hg]; exact Nat.ne_of_lt (blk_lt (g := gb359) (o := .cells #[.bool false, .int .i64 0, .int .i64 0] 30 (0, 0)) (Q_BK359 ((up_ne (by decide)).symm.trans h0_) (hoff 12 (by kernel_rfl)))) : gb359 ≠ gb360)))
          have z_BK359 := fun (h0_ : b 10 = true) (h1_ : b 12 = false) => (show w31.heap[gb359]? = some (.cells #[.bool false, .int .i64 0, .int .i64 0] 30 (0, 0)) from by first | exact (blk_below (g := gb359) (o := .cells #[.bool false, .int .i64 0, .int .i64 0] 30 (0, 0)) (by (with_reducible repeat (first | refine blk_drewN ?_ _ | refine blk_drew ?_ | refine blk_alloc ?_ _)); exact (Q_BK359 h0_ h1_)) hb))
          clear BK331
          clear BK332
          clear BK345
          clear BK346
          clear HB
          have BK331 := n0_
          have BK332 := n1_
          have BK345 := n2_
          have BK346 := n3_
          have HB := n4_
          have BK360 := n5_
          have GW360 := n6_
          have GE360 := n7_
          have NB331_360 := n8_
          have NB360_331 := n9_
          have NB332_360 := n10_
          have NB360_332 := n11_
          have NB345_360 := n12_
          have NB360_345 := n13_
          have NB346_360 := n14_
          have NB360_346 := n15_
          clear n0_ n1_ n2_ n3_ n4_ n5_ n6_ n7_ n8_ n9_ n10_ n11_ n12_ n13_ n14_ n15_
          clear hb hbox hg
          refine hK.out _ _ ⟨gb359, gb360, m10_, (.pointer (some ⟨gb360, 0, none⟩)), (by rw [ha.out]; exact putSel_upk 9 hb_ rfl rfl rfl), bk, bk, bk, bk, bl, z_NB360_359, z_NB359_360, z_BK359, Q_GW359, Q_GE359, Q_NB331_359, Q_NB359_331, Q_NB332_359, Q_NB359_332, Q_NB345_359, Q_NB359_345, Q_NB346_359, Q_NB359_346, fun _ _ => bk, fun _ => GW360.out, fun _ => GE360.out, fun _ => NB331_360.out, fun _ => NB360_331.out, fun _ => NB332_360.out, fun _ => NB360_332.out, fun _ => NB345_360.out, fun _ => NB360_345.out, fun _ => NB346_360.out, fun _ => NB360_346.out, fun h0_ => absurd ((hoff 12 (by kernel_rfl)).symm.trans h0_) (by decide), fun h0_ => absurd ((hoff 13 (by kernel_rfl)).symm.trans h0_) (by decide), Q_X10_, fun _ => rfl⟩
        refine steps_cons ?_ ?_
        · rintro b a w' ⟨gb359, gb360, m10_, m11_, ha, Q_BK331, Q_BK332, Q_BK345, Q_BK346, Q_HB, Q_NB360_359, Q_NB359_360, Q_BK359, Q_GW359, Q_GE359, Q_NB331_359, Q_NB359_331, Q_NB332_359, Q_NB359_332, Q_NB345_359, Q_NB359_345, Q_NB346_359, Q_NB359_346, Q_BK360, Q_GW360, Q_GE360, Q_NB331_360, Q_NB360_331, Q_NB332_360, Q_NB360_332, Q_NB345_360, Q_NB360_345, Q_NB346_360, Q_NB360_346, Q_BK359_e12, Q_BK360_e13, Q_X10_, Q_X11_⟩ hb_ hon hoff
          refine ⟨_, rfl, fun K hK => ?_⟩
          have e11 : a.tmps[11]? = some (m10_) := by rw [ha]; exact putSel_on (e := (10, 11, m10_)) 8 rfl rfl (hon 10 (by kernel_rfl)) rfl
          rw [Q_X10_ (hon 10 (by kernel_rfl))] at e11
          have e31 : a.tmps[31]? = some (.agg #[.bool t353, .int .i64 t354, .int .i64 t355]) := by rw [ha]; exact putSel_on (e := (8, 31, .agg #[.bool t353, .int .i64 t354, .int .i64 t355])) 6 rfl rfl (hon 8 (by kernel_rfl)) rfl
          replace ha := Aside0.mk ha
          have BK331 := Bk.mk Q_BK331
          have BK332 := Bk.mk Q_BK332
          have BK345 := Bk.mk Q_BK345
          have BK346 := Bk.mk Q_BK346
          have HB := Bl.mk Q_HB
          have NB360_359 := Nb.mk (Q_NB360_359 (hon 10 (by kernel_rfl)) (hon 11 (by kernel_rfl)))
          have NB359_360 := Nb.mk (Q_NB359_360 (hon 10 (by kernel_rfl)) (hon 11 (by kernel_rfl)))
          have BK359 := Bk.mk (Q_BK359 (hon 10 (by kernel_rfl)) hb_)
          have GW359 := Aside0.mk (Q_GW359 (hon 10 (by kernel_rfl)))
          have GE359 := Gl.mk (Q_GE359 (hon 10 (by kernel_rfl)))
          have NB331_359 := Nb.mk (Q_NB331_359 (hon 10 (by kernel_rfl)))
          have NB359_331 := Nb.mk (Q_NB359_331 (hon 10 (by kernel_rfl)))
          have NB332_359 := Nb.mk (Q_NB332_359 (hon 10 (by kernel_rfl)))
          have NB359_332 := Nb.mk (Q_NB359_332 (hon 10 (by kernel_rfl)))
          have NB345_359 := Nb.mk (Q_NB345_359 (hon 10 (by kernel_rfl)))
          have NB359_345 := Nb.mk (Q_NB359_345 (hon 10 (by kernel_rfl)))
          have NB346_359 := Nb.mk (Q_NB346_359 (hon 10 (by kernel_rfl)))
          have NB359_346 := Nb.mk (Q_NB359_346 (hon 10 (by kernel_rfl)))
          have BK360 := Bk.mk (Q_BK360 (hon 11 (by kernel_rfl)) (hoff 13 (by kernel_rfl)))
          have GW360 := Aside0.mk (Q_GW360 (hon 11 (by kernel_rfl)))
          have GE360 := Gl.mk (Q_GE360 (hon 11 (by kernel_rfl)))
          have NB331_360 := Nb.mk (Q_NB331_360 (hon 11 (by kernel_rfl)))
          have NB360_331 := Nb.mk (Q_NB360_331 (hon 11 (by kernel_rfl)))
          have NB332_360 := Nb.mk (Q_NB332_360 (hon 11 (by kernel_rfl)))
          have NB360_332 := Nb.mk (Q_NB360_332 (hon 11 (by kernel_rfl)))
          have NB345_360 := Nb.mk (Q_NB345_360 (hon 11 (by kernel_rfl)))
          have NB360_345 := Nb.mk (Q_NB360_345 (hon 11 (by kernel_rfl)))
          have NB346_360 := Nb.mk (Q_NB346_360 (hon 11 (by kernel_rfl)))
          have NB360_346 := Nb.mk (Q_NB360_346 (hon 11 (by kernel_rfl)))
          have hs37 : w'.cell? ⟨gb359, 0, none⟩ = some (.bool false) := (blk_cell BK359.out 0).trans rfl
          have hfs37 := blk_frozen BK359.out 0
          have hns37_0 := NB331_359.out
          have hns37_1 := NB332_359.out
          have hns37_2 := NB345_359.out
          have hns37_3 := NB346_359.out
          have hns37_5 := NB360_359.out
          have hms37_0 := NB359_331.out
          have hms37_1 := NB359_332.out
          have hms37_2 := NB359_345.out
          have hms37_3 := NB359_346.out
          have hms37_5 := NB359_360.out
          have hs38 : w'.cell? ⟨gb359, 1, none⟩ = some (.int .i64 0) := (blk_cell BK359.out 1).trans rfl
          have hfs38 := blk_frozen BK359.out 1
          have hns38_0 := NB331_359.out
          have hns38_1 := NB332_359.out
          have hns38_2 := NB345_359.out
          have hns38_3 := NB346_359.out
          have hns38_5 := NB360_359.out
          have hms38_0 := NB359_331.out
          have hms38_1 := NB359_332.out
          have hms38_2 := NB359_345.out
          have hms38_3 := NB359_346.out
          have hms38_5 := NB359_360.out
          have hs39 : w'.cell? ⟨gb359, 2, none⟩ = some (.int .i64 0) := (blk_cell BK359.out 2).trans rfl
          have hfs39 := blk_frozen BK359.out 2
          have hns39_0 := NB331_359.out
          have hns39_1 := NB332_359.out
          have hns39_2 := NB345_359.out
          have hns39_3 := NB346_359.out
          have hns39_5 := NB360_359.out
          have hms39_0 := NB359_331.out
          have hms39_1 := NB359_332.out
          have hms39_2 := NB359_345.out
          have hms39_3 := NB359_346.out
          have hms39_5 := NB359_360.out
          refine skip_ (w1 := ?_) (by rfl) rfl ?_ ?_
          rotate_left
          · go_simp
            rfl
          refine hK.out _ _ ⟨gb359, gb360, m10_, m11_, (by rw [ha.out]; exact putSel_none (v := undef) rfl), bk, bk, bk, bk, bl, fun _ _ => NB360_359.out, fun _ _ => NB359_360.out, fun _ h1_ => absurd ((up_self b 12).symm.trans h1_) (by decide), fun _ => GW359.out, fun _ => GE359.out, fun _ => NB331_359.out, fun _ => NB359_331.out, fun _ => NB332_359.out, fun _ => NB359_332.out, fun _ => NB345_359.out, fun _ => NB359_345.out, fun _ => NB346_359.out, fun _ => NB359_346.out, fun _ _ => bk, fun _ => GW360.out, fun _ => GE360.out, fun _ => NB331_360.out, fun _ => NB360_331.out, fun _ => NB332_360.out, fun _ => NB360_332.out, fun _ => NB345_360.out, fun _ => NB360_345.out, fun _ => NB346_360.out, fun _ => NB360_346.out, fun _ => bk, fun h0_ => absurd ((hoff 13 (by kernel_rfl)).symm.trans h0_) (by decide), Q_X10_, Q_X11_⟩
        refine steps_cons ?_ ?_
        · rintro b a w' ⟨gb359, gb360, m10_, m11_, ha, Q_BK331, Q_BK332, Q_BK345, Q_BK346, Q_HB, Q_NB360_359, Q_NB359_360, Q_BK359, Q_GW359, Q_GE359, Q_NB331_359, Q_NB359_331, Q_NB332_359, Q_NB359_332, Q_NB345_359, Q_NB359_345, Q_NB346_359, Q_NB359_346, Q_BK360, Q_GW360, Q_GE360, Q_NB331_360, Q_NB360_331, Q_NB332_360, Q_NB360_332, Q_NB345_360, Q_NB360_345, Q_NB346_360, Q_NB360_346, Q_BK359_e12, Q_BK360_e13, Q_X10_, Q_X11_⟩ hb_ hon hoff
          refine ⟨_, rfl, fun K hK => ?_⟩
          have e12 : a.tmps[12]? = some (m11_) := by rw [ha]; exact putSel_on (e := (11, 12, m11_)) 9 rfl rfl (hon 11 (by kernel_rfl)) rfl
          rw [Q_X11_ (hon 11 (by kernel_rfl))] at e12
          have e32 : a.tmps[32]? = some (.agg #[.bool t356, .int .i64 t357, .int .i64 t358]) := by rw [ha]; exact putSel_on (e := (9, 32, .agg #[.bool t356, .int .i64 t357, .int .i64 t358])) 7 rfl rfl (hon 9 (by kernel_rfl)) rfl
          replace ha := Aside0.mk ha
          have BK331 := Bk.mk Q_BK331
          have BK332 := Bk.mk Q_BK332
          have BK345 := Bk.mk Q_BK345
          have BK346 := Bk.mk Q_BK346
          have HB := Bl.mk Q_HB
          have NB360_359 := Nb.mk (Q_NB360_359 (hon 10 (by kernel_rfl)) (hon 11 (by kernel_rfl)))
          have NB359_360 := Nb.mk (Q_NB359_360 (hon 10 (by kernel_rfl)) (hon 11 (by kernel_rfl)))
          have GW359 := Aside0.mk (Q_GW359 (hon 10 (by kernel_rfl)))
          have GE359 := Gl.mk (Q_GE359 (hon 10 (by kernel_rfl)))
          have NB331_359 := Nb.mk (Q_NB331_359 (hon 10 (by kernel_rfl)))
          have NB359_331 := Nb.mk (Q_NB359_331 (hon 10 (by kernel_rfl)))
          have NB332_359 := Nb.mk (Q_NB332_359 (hon 10 (by kernel_rfl)))
          have NB359_332 := Nb.mk (Q_NB359_332 (hon 10 (by kernel_rfl)))
          have NB345_359 := Nb.mk (Q_NB345_359 (hon 10 (by kernel_rfl)))
          have NB359_345 := Nb.mk (Q_NB359_345 (hon 10 (by kernel_rfl)))
          have NB346_359 := Nb.mk (Q_NB346_359 (hon 10 (by kernel_rfl)))
          have NB359_346 := Nb.mk (Q_NB359_346 (hon 10 (by kernel_rfl)))
          have BK360 := Bk.mk (Q_BK360 (hon 11 (by kernel_rfl)) hb_)
          have GW360 := Aside0.mk (Q_GW360 (hon 11 (by kernel_rfl)))
          have GE360 := Gl.mk (Q_GE360 (hon 11 (by kernel_rfl)))
          have NB331_360 := Nb.mk (Q_NB331_360 (hon 11 (by kernel_rfl)))
          have NB360_331 := Nb.mk (Q_NB360_331 (hon 11 (by kernel_rfl)))
          have NB332_360 := Nb.mk (Q_NB332_360 (hon 11 (by kernel_rfl)))
          have NB360_332 := Nb.mk (Q_NB360_332 (hon 11 (by kernel_rfl)))
          have NB345_360 := Nb.mk (Q_NB345_360 (hon 11 (by kernel_rfl)))
          have NB360_345 := Nb.mk (Q_NB360_345 (hon 11 (by kernel_rfl)))
          have NB346_360 := Nb.mk (Q_NB346_360 (hon 11 (by kernel_rfl)))
          have NB360_346 := Nb.mk (Q_NB360_346 (hon 11 (by kernel_rfl)))
          have BK359 := Bk.mk (Q_BK359_e12 (hon 12 (by kernel_rfl)))
          have hs40 : w'.cell? ⟨gb360, 0, none⟩ = some (.bool false) := (blk_cell BK360.out 0).trans rfl
          have hfs40 := blk_frozen BK360.out 0
          have hns40_0 := NB331_360.out
          have hns40_1 := NB332_360.out
          have hns40_2 := NB345_360.out
          have hns40_3 := NB346_360.out
          have hns40_4 := NB359_360.out
          have hms40_0 := NB360_331.out
          have hms40_1 := NB360_332.out
          have hms40_2 := NB360_345.out
          have hms40_3 := NB360_346.out
          have hms40_4 := NB360_359.out
          have hs41 : w'.cell? ⟨gb360, 1, none⟩ = some (.int .i64 0) := (blk_cell BK360.out 1).trans rfl
          have hfs41 := blk_frozen BK360.out 1
          have hns41_0 := NB331_360.out
          have hns41_1 := NB332_360.out
          have hns41_2 := NB345_360.out
          have hns41_3 := NB346_360.out
          have hns41_4 := NB359_360.out
          have hms41_0 := NB360_331.out
          have hms41_1 := NB360_332.out
          have hms41_2 := NB360_345.out
          have hms41_3 := NB360_346.out
          have hms41_4 := NB360_359.out
          have hs42 : w'.cell? ⟨gb360, 2, none⟩ = some (.int .i64 0) := (blk_cell BK360.out 2).trans rfl
          have hfs42 := blk_frozen BK360.out 2
          have hns42_0 := NB331_360.out
          have hns42_1 := NB332_360.out
          have hns42_2 := NB345_360.out
          have hns42_3 := NB346_360.out
          have hns42_4 := NB359_360.out
          have hms42_0 := NB360_331.out
          have hms42_1 := NB360_332.out
          have hms42_2 := NB360_345.out
          have hms42_3 := NB360_346.out
          have hms42_4 := NB360_359.out
          refine skip_ (w1 := ?_) (by rfl) rfl ?_ ?_
          rotate_left
          · go_simp
            rfl
          refine hK.out _ _ ⟨gb359, gb360, m10_, m11_, (by rw [ha.out]; exact putSel_none (v := undef) rfl), bk, bk, bk, bk, bl, fun _ _ => NB360_359.out, fun _ _ => NB359_360.out, fun _ h1_ => absurd ((hon 12 (by kernel_rfl)).symm.trans h1_) (by decide), fun _ => GW359.out, fun _ => GE359.out, fun _ => NB331_359.out, fun _ => NB359_331.out, fun _ => NB332_359.out, fun _ => NB359_332.out, fun _ => NB345_359.out, fun _ => NB359_345.out, fun _ => NB346_359.out, fun _ => NB359_346.out, fun _ h1_ => absurd ((up_self b 13).symm.trans h1_) (by decide), fun _ => GW360.out, fun _ => GE360.out, fun _ => NB331_360.out, fun _ => NB360_331.out, fun _ => NB332_360.out, fun _ => NB360_332.out, fun _ => NB345_360.out, fun _ => NB360_345.out, fun _ => NB346_360.out, fun _ => NB360_346.out, fun _ => bk, fun _ => bk, Q_X10_, Q_X11_⟩
        exact steps_nil
      rintro b a w42 hall ⟨gb359, gb360, m10_, m11_, ha, Q_BK331, Q_BK332, Q_BK345, Q_BK346, Q_HB, Q_NB360_359, Q_NB359_360, Q_BK359, Q_GW359, Q_GE359, Q_NB331_359, Q_NB359_331, Q_NB332_359, Q_NB359_332, Q_NB345_359, Q_NB359_345, Q_NB346_359, Q_NB359_346, Q_BK360, Q_GW360, Q_GE360, Q_NB331_360, Q_NB360_331, Q_NB332_360, Q_NB360_332, Q_NB345_360, Q_NB360_345, Q_NB346_360, Q_NB360_346, Q_BK359_e12, Q_BK360_e13, Q_X10_, Q_X11_⟩
      clear BK331 BK332 BK345 BK346 HB
      have hb1_ := hall 1 (by kernel_rfl)
      have hb2_ := hall 2 (by kernel_rfl)
      have hb3_ := hall 3 (by kernel_rfl)
      have hb4_ := hall 4 (by kernel_rfl)
      have hb6_ := hall 6 (by kernel_rfl)
      have hb7_ := hall 7 (by kernel_rfl)
      have hb8_ := hall 8 (by kernel_rfl)
      have hb9_ := hall 9 (by kernel_rfl)
      have hb10_ := hall 10 (by kernel_rfl)
      have hb11_ := hall 11 (by kernel_rfl)
      have hb12_ := hall 12 (by kernel_rfl)
      have hb13_ := hall 13 (by kernel_rfl)
      subst ha
      obtain rfl := Q_X10_ hb10_
      obtain rfl := Q_X11_ hb11_
      simp only [putSel, hb1_, hb2_, hb3_, hb4_, hb6_, hb7_, hb8_, hb9_, hb10_, hb11_, hb12_, hb13_, if_true, Act.put, List.setIfInBounds_toArray, List.set_cons_zero, List.set_cons_succ]
      have BK331 := Bk.mk Q_BK331
      clear Q_BK331
      have BK332 := Bk.mk Q_BK332
      clear Q_BK332
      have BK345 := Bk.mk Q_BK345
      clear Q_BK345
      have BK346 := Bk.mk Q_BK346
      clear Q_BK346
      have HB := Bl.mk Q_HB
      clear Q_HB
      have NB360_359 := Nb.mk (Q_NB360_359 hb10_ hb11_)
      clear Q_NB360_359
      have NB359_360 := Nb.mk (Q_NB359_360 hb10_ hb11_)
      clear Q_NB359_360
      clear Q_BK359
      have GW359 := Aside0.mk (Q_GW359 hb10_)
      clear Q_GW359
      have GE359 := Gl.mk (Q_GE359 hb10_)
      clear Q_GE359
      have NB331_359 := Nb.mk (Q_NB331_359 hb10_)
      clear Q_NB331_359
      have NB359_331 := Nb.mk (Q_NB359_331 hb10_)
      clear Q_NB359_331
      have NB332_359 := Nb.mk (Q_NB332_359 hb10_)
      clear Q_NB332_359
      have NB359_332 := Nb.mk (Q_NB359_332 hb10_)
      clear Q_NB359_332
      have NB345_359 := Nb.mk (Q_NB345_359 hb10_)
      clear Q_NB345_359
      have NB359_345 := Nb.mk (Q_NB359_345 hb10_)
      clear Q_NB359_345
      have NB346_359 := Nb.mk (Q_NB346_359 hb10_)
      clear Q_NB346_359
      have NB359_346 := Nb.mk (Q_NB359_346 hb10_)
      clear Q_NB359_346
      clear Q_BK360
      have GW360 := Aside0.mk (Q_GW360 hb11_)
      clear Q_GW360
      have GE360 := Gl.mk (Q_GE360 hb11_)
      clear Q_GE360
      have NB331_360 := Nb.mk (Q_NB331_360 hb11_)
      clear Q_NB331_360
      have NB360_331 := Nb.mk (Q_NB360_331 hb11_)
      clear Q_NB360_331
      have NB332_360 := Nb.mk (Q_NB332_360 hb11_)
      clear Q_NB332_360
      have NB360_332 := Nb.mk (Q_NB360_332 hb11_)
      clear Q_NB360_332
      have NB345_360 := Nb.mk (Q_NB345_360 hb11_)
      clear Q_NB345_360
      have NB360_345 := Nb.mk (Q_NB360_345 hb11_)
      clear Q_NB360_345
      have NB346_360 := Nb.mk (Q_NB346_360 hb11_)
      clear Q_NB346_360
      have NB360_346 := Nb.mk (Q_NB360_346 hb11_)
      clear Q_NB360_346
      have BK359 := Bk.mk (Q_BK359_e12 hb12_)
      clear Q_BK359_e12
      have BK360 := Bk.mk (Q_BK360_e13 hb13_)
      clear Q_BK360_e13
      clear hall hb1_ hb2_ hb3_ hb4_ hb6_ hb7_ hb8_ hb9_ hb10_ hb11_ hb12_ hb13_
      have hnb43 := NB359_331.out
      have hnc43 := NB331_359.out
      have hnb44 := NB359_332.out
      have hnc44 := NB332_359.out
      have hnb45 := NB359_345.out
      have hnc45 := NB345_359.out
      have hnb46 := NB359_346.out
      have hnc46 := NB346_359.out
      have hnb47 := NB359_360.out
      have hnc47 := NB360_359.out
      have hcz48_0 := bc0 BK359.out
      have hcz48_1 := bc1 BK359.out
      have hcz48_2 := bc2 BK359.out
      have hfz48_0 := blk_frozen BK359.out 0
      have hfz48_1 := blk_frozen BK359.out 1
      have hfz48_2 := blk_frozen BK359.out 2
      have hnb49 := NB345_331.out
      have hnc49 := NB331_345.out
      have hnb50 := NB345_332.out
      have hnc50 := NB332_345.out
      have hnb51 := NB345_346.out
      have hnc51 := NB346_345.out
      have hnb52 := NB345_360.out
      have hnc52 := NB360_345.out
      have hcz53_0 := bc0 BK345.out
      have hcz53_1 := bc1 BK345.out
      have hcz53_2 := bc2 BK345.out
      have hfz53_0 := blk_frozen BK345.out 0
      have hfz53_1 := blk_frozen BK345.out 1
      have hfz53_2 := blk_frozen BK345.out 2
      try go_wp2_with (first | ((with_reducible refine gate_callee (f := 20) rfl ?_); refine goesL_ (some 35) rfl rfl Try.func20 (by kernel_rfl) rfl #[.agg #[.bool t353, .int .i64 t354, .int .i64 t355], .agg #[.bool t339, .int .i64 t340, .int .i64 t341]] rfl (by (try simp only [List.map_toArray, List.map_cons, List.map_nil]); first | done | rfl | (simp only [List.length_drop, List.length_take]; rfl)) ?_; (with_reducible refine (laws_eqSpan.calls t353 t354 t355 t339 t340 t341 true _ A11.out).mono ?_); rintro e w54 ⟨rfl, hb⟩; refine ⟨_, rfl, ?_⟩; have n0_ := Bk.mk (blk_below (g := gb331) bk hb); have n1_ := Bk.mk (blk_below (g := gb332) bk hb); have n2_ := Bk.mk (blk_below (g := gb345) bk hb); have n3_ := Bk.mk (blk_below (g := gb346) bk hb); have n4_ := Bk.mk (blk_below (g := gb359) bk hb); have n5_ := Bk.mk (blk_below (g := gb360) bk hb); have n6_ := Bl.mk (below_step bl hb); clear BK331; clear BK332; clear BK345; clear BK346; clear BK359; clear BK360; clear HB; have BK331 := n0_; have BK332 := n1_; have BK345 := n2_; have BK346 := n3_; have BK359 := n4_; have BK360 := n5_; have HB := n6_; clear n0_ n1_ n2_ n3_ n4_ n5_ n6_; (try clear hb); (try clear hb2); (try clear hk); (try clear hi); have hnb55 := NB360_331.out; have hnc55 := NB331_360.out; have hnb56 := NB360_332.out; have hnc56 := NB332_360.out; have hnb57 := NB360_346.out; have hnc57 := NB346_360.out; have hcz58_0 := bc0 BK360.out; have hcz58_1 := bc1 BK360.out; have hcz58_2 := bc2 BK360.out; have hfz58_0 := blk_frozen BK360.out 0; have hfz58_1 := blk_frozen BK360.out 1; have hfz58_2 := blk_frozen BK360.out 2; have hnb59 := NB346_331.out; have hnc59 := NB331_346.out; have hnb60 := NB346_332.out; have hnc60 := NB332_346.out; have hcz61_0 := bc0 BK346.out; have hcz61_1 := bc1 BK346.out; have hcz61_2 := bc2 BK346.out; have hfz61_0 := blk_frozen BK346.out 0; have hfz61_1 := blk_frozen BK346.out 1; have hfz61_2 := blk_frozen BK346.out 2) | (go_at_call 20; (with_reducible refine (laws_eqSpan.calls t356 t357 t358 t342 t343 t344 true _ A13.out).mono ?_); rintro e w62 ⟨rfl, hb⟩; have n0_ := Bk.mk (blk_below (g := gb331) bk hb); have n1_ := Bk.mk (blk_below (g := gb332) bk hb); have n2_ := Bk.mk (blk_below (g := gb345) bk hb); have n3_ := Bk.mk (blk_below (g := gb346) bk hb); have n4_ := Bk.mk (blk_below (g := gb359) bk hb); have n5_ := Bk.mk (blk_below (g := gb360) bk hb); have n6_ := Bl.mk (below_step bl hb); clear BK331; clear BK332; clear BK345; clear BK346; clear BK359; clear BK360; clear HB; have BK331 := n0_; have BK332 := n1_; have BK345 := n2_; have BK346 := n3_; have BK359 := n4_; have BK360 := n5_; have HB := n6_; clear n0_ n1_ n2_ n3_ n4_ n5_ n6_; (try clear hb); (try clear hb2); (try clear hk); (try clear hi)))
      go_ret
      exact ⟨by first | rfl | (simp [errW_none, errW_some] <;> rfl) | (simp [*, errW_none, errW_some] <;> rfl), bl⟩
    · replace c14 := Bool.eq_false_iff.mpr c14
      subst c14
      rw [if_neg (show ¬ (false = true) by decide)] at H
      obtain rfl := Option.some.inj H
      go_enter Try.func6, Try.ntmps6
      try go_wp2_with (first | ((with_reducible refine gate_dst (N := 5) rfl ?_); refine box_event ?hg (N := 5) ?hd (cs := #[.bool a1_0, .int .i64 a1_1, .int .i64 a1_2]) (t := 34) ?hr ?_; (case hd => rfl); (case hg => rfl); (case hr => first | (go_simp; done) | (go_simp; rfl)); intro gb331 hg w63 hbox hb; have n0_ := Bl.mk (below_step bl hb); have n1_ := Bk.mk (hbox); have n2_ := Aside0.mk ((by rw [hg]; exact (below_size bl) : w.heap.size ≤ gb331)); have n3_ := Gl.mk ((by rw [hg]; exact (below_size bl) : w.heap.size ≤ gb331)); clear HB; have HB := n0_; have BK331 := n1_; have GW331 := n2_; have GE331 := n3_; clear n0_ n1_ n2_ n3_; clear hb hbox hg) | ((with_reducible refine gate_dst (N := 6) rfl ?_); refine box_event ?hg (N := 6) ?hd (cs := #[.bool a2_0, .int .i64 a2_1, .int .i64 a2_2]) (t := 34) ?hr ?_; (case hd => rfl); (case hg => rfl); (case hr => first | (go_simp; done) | (go_simp; rfl)); intro gb332 hg w64 hbox hb; have n0_ := Bk.mk (blk_below (g := gb331) bk hb); have n1_ := Bl.mk (below_step bl hb); have n2_ := Bk.mk (hbox); have n3_ := Aside0.mk ((by rw [hg]; exact (below_size bl) : w.heap.size ≤ gb332)); have n4_ := Gl.mk ((by rw [hg]; exact (below_size bl) : w.heap.size ≤ gb332)); have n5_ := Nb.mk ((by rw [hg]; exact Nat.ne_of_lt (blk_lt (g := gb331) bk) : gb331 ≠ gb332)); have n6_ := Nb.mk ((by rw [hg]; exact Nat.ne_of_gt (blk_lt (g := gb331) bk) : gb332 ≠ gb331)); clear BK331; clear HB; have BK331 := n0_; have HB := n1_; have BK332 := n2_; have GW332 := n3_; have GE332 := n4_; have NB331_332 := n5_; have NB332_331 := n6_; clear n0_ n1_ n2_ n3_ n4_ n5_ n6_; clear hb hbox hg))
      have n0_ := Bk.mk (blk_drew BK331.out)
      have n1_ := Bk.mk (blk_drew BK332.out)
      have n2_ := Bl.mk (below_drew1 HB.out)
      clear BK331
      clear BK332
      clear HB
      have BK331 := n0_
      have BK332 := n1_
      have HB := n2_
      clear n0_ n1_ n2_
      refine start_ (n := 14) (S := fun w' => True) (ds := []) #[false, false, false, false, false, false, false, false, false, false, false, false, false, false] (by kernel_rfl) rfl rfl trivial (fun hHeld => ?_); refine with_tabW laws_FnExactSpanWhen.tab1 laws_FnExactSpanWhen.bits1 (fun HT_ HW_ => ?_)
      generalize w64.drew = w65 at BK331 BK332 HB hHeld ⊢
      refine pure_ (i := 0) (N := some 14) (v := ?_) (a' := ?_) #[true, false, false, false, false, false, false, false, false, false, false, false, false, false] rfl rfl (any_of HT_.out (by kernel_rfl)) (fun _ _ _ h => h) (Or.inl ⟨by rfl, ?_⟩) ?_ ?_
      rotate_left
      · intro w'
        go_simp
        with_reducible rfl
      rotate_left
      · simp only [Act.put, List.setIfInBounds_toArray, List.set_cons_zero, List.set_cons_succ, i64_w, i32_w]
        rfl
      refine pure_ (i := 5) (N := some 19) (v := ?_) (a' := ?_) #[true, false, false, false, false, true, false, false, false, false, false, false, false, false] rfl rfl (any_of HT_.out (by kernel_rfl)) (fun _ _ _ h => h) (Or.inl ⟨by rfl, ?_⟩) ?_ ?_
      rotate_left
      · intro w'
        go_simp
        with_reducible rfl
      rotate_left
      · simp only [Act.put, List.setIfInBounds_toArray, List.set_cons_zero, List.set_cons_succ, i64_w, i32_w]
        rfl
      refine inv_at [1, 2, 3, 4, 6, 7, 8, 9, 10, 11, 12, 13] (fun a0_ b a w' => ∃ (gb345 : Nat) (gb346 : Nat) (m10_ : Value) (m11_ : Value), a = putSel a0_ b [(1, 15, .agg #[.bool a1_0, .int .i64 a1_1, .int .i64 a1_2]), (2, 16, .agg #[.bool t333, .int .i64 t334, .int .i64 t335]), (3, 17, .agg #[.bool a2_0, .int .i64 a2_1, .int .i64 a2_2]), (4, 18, .agg #[.bool t336, .int .i64 t337, .int .i64 t338]), (6, 20, .tuple #[.agg #[.bool t339, .int .i64 t340, .int .i64 t341], .agg #[.bool t342, .int .i64 t343, .int .i64 t344]]), (7, 13, .tuple #[.agg #[.bool t339, .int .i64 t340, .int .i64 t341], .agg #[.bool t342, .int .i64 t343, .int .i64 t344]]), (8, 21, .agg #[.bool t339, .int .i64 t340, .int .i64 t341]), (9, 22, .agg #[.bool t342, .int .i64 t343, .int .i64 t344]), (10, 9, m10_), (11, 10, m11_)] ∧ (w'.heap[gb331]? = some (.cells #[.bool a1_0, .int .i64 a1_1, .int .i64 a1_2] 34 (0, 0))) ∧ (w'.heap[gb332]? = some (.cells #[.bool a2_0, .int .i64 a2_1, .int .i64 a2_2] 34 (0, 0))) ∧ (Below w.heap.size w w') ∧ (b 10 = true → b 11 = true → gb346 ≠ gb345) ∧ (b 10 = true → b 11 = true → gb345 ≠ gb346) ∧ (b 10 = true → b 12 = false → w'.heap[gb345]? = some (.cells #[.bool false, .int .i64 0, .int .i64 0] 30 (0, 0))) ∧ (b 10 = true → w.heap.size ≤ gb345) ∧ (b 10 = true → w.heap.size ≤ gb345) ∧ (b 10 = true → gb331 ≠ gb345) ∧ (b 10 = true → gb345 ≠ gb331) ∧ (b 10 = true → gb332 ≠ gb345) ∧ (b 10 = true → gb345 ≠ gb332) ∧ (b 11 = true → b 13 = false → w'.heap[gb346]? = some (.cells #[.bool false, .int .i64 0, .int .i64 0] 30 (0, 0))) ∧ (b 11 = true → w.heap.size ≤ gb346) ∧ (b 11 = true → w.heap.size ≤ gb346) ∧ (b 11 = true → gb331 ≠ gb346) ∧ (b 11 = true → gb346 ≠ gb331) ∧ (b 11 = true → gb332 ≠ gb346) ∧ (b 11 = true → gb346 ≠ gb332) ∧ (b 12 = true → w'.heap[gb345]? = some (.cells #[.bool t339, .int .i64 t340, .int .i64 t341] 30 (0, 0))) ∧ (b 13 = true → w'.heap[gb346]? = some (.cells #[.bool t342, .int .i64 t343, .int .i64 t344] 30 (0, 0))) ∧ (b 10 = true → (m10_ : Value) = .pointer (some ⟨gb345, 0, none⟩)) ∧ (b 11 = true → (m11_ : Value) = .pointer (some ⟨gb346, 0, none⟩))) HT_.out HW_.out (by kernel_rfl) (by kernel_rfl) ?_ ?_ ?_
      · exact ⟨0, 0, .bool false, .bool false, by simp only [putSel, Bool.false_eq_true, if_false], BK331.out, BK332.out, HB.out, fun h_ => absurd h_ (by decide), fun h_ => absurd h_ (by decide), fun h_ => absurd h_ (by decide), fun h_ => absurd h_ (by decide), fun h_ => absurd h_ (by decide), fun h_ => absurd h_ (by decide), fun h_ => absurd h_ (by decide), fun h_ => absurd h_ (by decide), fun h_ => absurd h_ (by decide), fun h_ => absurd h_ (by decide), fun h_ => absurd h_ (by decide), fun h_ => absurd h_ (by decide), fun h_ => absurd h_ (by decide), fun h_ => absurd h_ (by decide), fun h_ => absurd h_ (by decide), fun h_ => absurd h_ (by decide), fun h_ => absurd h_ (by decide), fun h_ => absurd h_ (by decide), fun h_ => absurd h_ (by decide), fun h_ => absurd h_ (by decide)⟩
      · skip
        clear BK331 BK332 HB
        refine steps_cons ?_ ?_
        · rintro b a w' ⟨gb345, gb346, m10_, m11_, ha, Q_BK331, Q_BK332, Q_HB, Q_NB346_345, Q_NB345_346, Q_BK345, Q_GW345, Q_GE345, Q_NB331_345, Q_NB345_331, Q_NB332_345, Q_NB345_332, Q_BK346, Q_GW346, Q_GE346, Q_NB331_346, Q_NB346_331, Q_NB332_346, Q_NB346_332, Q_BK345_e12, Q_BK346_e13, Q_X10_, Q_X11_⟩ hb_ hon hoff
          refine ⟨_, rfl, fun K hK => ?_⟩
          have e5 : a.tmps[5]? = some (.pointer (some ⟨gb331, 0, none⟩)) := by rw [ha]; exact (putSel_off rfl).trans rfl
          replace ha := Aside0.mk ha
          have BK331 := Bk.mk Q_BK331
          have BK332 := Bk.mk Q_BK332
          have HB := Bl.mk Q_HB
          have hc0_ : w'.cell? ⟨gb331, 0, none⟩ = some (.bool a1_0) := (blk_cell BK331.out 0).trans rfl
          have hc1_ : w'.cell? ⟨gb331, 1, none⟩ = some (.int .i64 a1_1) := (blk_cell BK331.out 1).trans rfl
          have hc2_ : w'.cell? ⟨gb331, 2, none⟩ = some (.int .i64 a1_2) := (blk_cell BK331.out 2).trans rfl
          refine value_ (w1 := w') (v := .agg #[.bool a1_0, .int .i64 a1_1, .int .i64 a1_2]) (by rfl) rfl ?_ ?_
          · go_simp
            (try simp only [i64_w])
            try rfl
          refine hK.out _ _ ⟨gb345, gb346, m10_, m11_, (by rw [ha.out]; exact putSel_upk 0 hb_ rfl rfl rfl), Q_BK331, Q_BK332, Q_HB, Q_NB346_345, Q_NB345_346, Q_BK345, Q_GW345, Q_GE345, Q_NB331_345, Q_NB345_331, Q_NB332_345, Q_NB345_332, Q_BK346, Q_GW346, Q_GE346, Q_NB331_346, Q_NB346_331, Q_NB332_346, Q_NB346_332, fun h0_ => absurd ((hoff 12 (by kernel_rfl)).symm.trans h0_) (by decide), fun h0_ => absurd ((hoff 13 (by kernel_rfl)).symm.trans h0_) (by decide), Q_X10_, Q_X11_⟩
        refine steps_cons ?_ ?_
        · rintro b a w' ⟨gb345, gb346, m10_, m11_, ha, Q_BK331, Q_BK332, Q_HB, Q_NB346_345, Q_NB345_346, Q_BK345, Q_GW345, Q_GE345, Q_NB331_345, Q_NB345_331, Q_NB332_345, Q_NB345_332, Q_BK346, Q_GW346, Q_GE346, Q_NB331_346, Q_NB346_331, Q_NB332_346, Q_NB346_332, Q_BK345_e12, Q_BK346_e13, Q_X10_, Q_X11_⟩ hb_ hon hoff
          refine ⟨_, rfl, fun K hK => ?_⟩
          have e15 : a.tmps[15]? = some (.agg #[.bool a1_0, .int .i64 a1_1, .int .i64 a1_2]) := by rw [ha]; exact putSel_on (e := (1, 15, .agg #[.bool a1_0, .int .i64 a1_1, .int .i64 a1_2])) 0 rfl rfl (hon 1 (by kernel_rfl)) rfl
          replace ha := Aside0.mk ha
          have BK331 := Bk.mk Q_BK331
          have BK332 := Bk.mk Q_BK332
          have HB := Bl.mk Q_HB
          refine goes_ Try.func18 (by kernel_rfl) rfl #[.agg #[.bool a1_0, .int .i64 a1_1, .int .i64 a1_2]] (by rfl) rfl rfl (by first | (simp only [List.map_toArray, List.map_cons, List.map_nil, Act.eval, Array.getD_eq_getD_getElem?, Option.getD_some, e15]; done) | (simp only [List.map_toArray, List.map_cons, List.map_nil, Act.eval, Array.getD_eq_getD_getElem?, Option.getD_some, e15]; rfl)) ?_
          with_reducible refine (laws_toSpan.calls a1_0 a1_1 a1_2 t333 t334 t335 _ A5.out).mono ?_
          rintro e w66 ⟨rfl, hb⟩
          refine ⟨_, rfl, ?_⟩
          have n0_ := Bk.mk (blk_below (g := gb331) bk hb)
          have n1_ := Bk.mk (blk_below (g := gb332) bk hb)
          have n2_ := Bl.mk (below_step bl hb)
          have z_BK345 := fun (h0_ : b 10 = true) (h1_ : b 12 = false) => (show w66.heap[gb345]? = some (.cells #[.bool false, .int .i64 0, .int .i64 0] 30 (0, 0)) from by first | exact (blk_below (g := gb345) (o := .cells #[.bool false, .int .i64 0, .int .i64 0] 30 (0, 0)) (by (with_reducible repeat (first | refine blk_drewN ?_ _ | refine blk_drew ?_ | refine blk_alloc ?_ _)); exact (Q_BK345 h0_ h1_)) hb))
          have z_BK346 := fun (h0_ : b 11 = true) (h1_ : b 13 = false) => (show w66.heap[gb346]? = some (.cells #[.bool false, .int .i64 0, .int .i64 0] 30 (0, 0)) from by first | exact (blk_below (g := gb346) (o := .cells #[.bool false, .int .i64 0, .int .i64 0] 30 (0, 0)) (by (with_reducible repeat (first | refine blk_drewN ?_ _ | refine blk_drew ?_ | refine blk_alloc ?_ _)); exact (Q_BK346 h0_ h1_)) hb))
          clear BK331
          clear BK332
          clear HB
          have BK331 := n0_
          have BK332 := n1_
          have HB := n2_
          clear n0_ n1_ n2_
          (try clear hb)
          (try clear hb2)
          (try clear hk)
          (try clear hi)
          refine hK.out _ _ ⟨gb345, gb346, m10_, m11_, (by rw [ha.out]; exact putSel_upk 1 hb_ rfl rfl rfl), bk, bk, bl, Q_NB346_345, Q_NB345_346, z_BK345, Q_GW345, Q_GE345, Q_NB331_345, Q_NB345_331, Q_NB332_345, Q_NB345_332, z_BK346, Q_GW346, Q_GE346, Q_NB331_346, Q_NB346_331, Q_NB332_346, Q_NB346_332, fun h0_ => absurd ((hoff 12 (by kernel_rfl)).symm.trans h0_) (by decide), fun h0_ => absurd ((hoff 13 (by kernel_rfl)).symm.trans h0_) (by decide), Q_X10_, Q_X11_⟩
        refine steps_cons ?_ ?_
        · rintro b a w' ⟨gb345, gb346, m10_, m11_, ha, Q_BK331, Q_BK332, Q_HB, Q_NB346_345, Q_NB345_346, Q_BK345, Q_GW345, Q_GE345, Q_NB331_345, Q_NB345_331, Q_NB332_345, Q_NB345_332, Q_BK346, Q_GW346, Q_GE346, Q_NB331_346, Q_NB346_331, Q_NB332_346, Q_NB346_332, Q_BK345_e12, Q_BK346_e13, Q_X10_, Q_X11_⟩ hb_ hon hoff
          refine ⟨_, rfl, fun K hK => ?_⟩
          have e6 : a.tmps[6]? = some (.pointer (some ⟨gb332, 0, none⟩)) := by rw [ha]; exact (putSel_off rfl).trans rfl
          replace ha := Aside0.mk ha
          have BK331 := Bk.mk Q_BK331
          have BK332 := Bk.mk Q_BK332
          have HB := Bl.mk Q_HB
          have hc0_ : w'.cell? ⟨gb332, 0, none⟩ = some (.bool a2_0) := (blk_cell BK332.out 0).trans rfl
          have hc1_ : w'.cell? ⟨gb332, 1, none⟩ = some (.int .i64 a2_1) := (blk_cell BK332.out 1).trans rfl
          have hc2_ : w'.cell? ⟨gb332, 2, none⟩ = some (.int .i64 a2_2) := (blk_cell BK332.out 2).trans rfl
          refine value_ (w1 := w') (v := .agg #[.bool a2_0, .int .i64 a2_1, .int .i64 a2_2]) (by rfl) rfl ?_ ?_
          · go_simp
            (try simp only [i64_w])
            try rfl
          refine hK.out _ _ ⟨gb345, gb346, m10_, m11_, (by rw [ha.out]; exact putSel_upk 2 hb_ rfl rfl rfl), Q_BK331, Q_BK332, Q_HB, Q_NB346_345, Q_NB345_346, Q_BK345, Q_GW345, Q_GE345, Q_NB331_345, Q_NB345_331, Q_NB332_345, Q_NB345_332, Q_BK346, Q_GW346, Q_GE346, Q_NB331_346, Q_NB346_331, Q_NB332_346, Q_NB346_332, fun h0_ => absurd ((hoff 12 (by kernel_rfl)).symm.trans h0_) (by decide), fun h0_ => absurd ((hoff 13 (by kernel_rfl)).symm.trans h0_) (by decide), Q_X10_, Q_X11_⟩
        refine steps_cons ?_ ?_
        · rintro b a w' ⟨gb345, gb346, m10_, m11_, ha, Q_BK331, Q_BK332, Q_HB, Q_NB346_345, Q_NB345_346, Q_BK345, Q_GW345, Q_GE345, Q_NB331_345, Q_NB345_331, Q_NB332_345, Q_NB345_332, Q_BK346, Q_GW346, Q_GE346, Q_NB331_346, Q_NB346_331, Q_NB332_346, Q_NB346_332, Q_BK345_e12, Q_BK346_e13, Q_X10_, Q_X11_⟩ hb_ hon hoff
          refine ⟨_, rfl, fun K hK => ?_⟩
          have e17 : a.tmps[17]? = some (.agg #[.bool a2_0, .int .i64 a2_1, .int .i64 a2_2]) := by rw [ha]; exact putSel_on (e := (3, 17, .agg #[.bool a2_0, .int .i64 a2_1, .int .i64 a2_2])) 2 rfl rfl (hon 3 (by kernel_rfl)) rfl
          replace ha := Aside0.mk ha
          have BK331 := Bk.mk Q_BK331
          have BK332 := Bk.mk Q_BK332
          have HB := Bl.mk Q_HB
          refine goes_ Try.func18 (by kernel_rfl) rfl #[.agg #[.bool a2_0, .int .i64 a2_1, .int .i64 a2_2]] (by rfl) rfl rfl (by first | (simp only [List.map_toArray, List.map_cons, List.map_nil, Act.eval, Array.getD_eq_getD_getElem?, Option.getD_some, e17]; done) | (simp only [List.map_toArray, List.map_cons, List.map_nil, Act.eval, Array.getD_eq_getD_getElem?, Option.getD_some, e17]; rfl)) ?_
          with_reducible refine (laws_toSpan.calls a2_0 a2_1 a2_2 t336 t337 t338 _ A6.out).mono ?_
          rintro e w68 ⟨rfl, hb⟩
          refine ⟨_, rfl, ?_⟩
          have n0_ := Bk.mk (blk_below (g := gb331) bk hb)
          have n1_ := Bk.mk (blk_below (g := gb332) bk hb)
          have n2_ := Bl.mk (below_step bl hb)
          have z_BK345 := fun (h0_ : b 10 = true) (h1_ : b 12 = false) => (show w68.heap[gb345]? = some (.cells #[.bool false, .int .i64 0, .int .i64 0] 30 (0, 0)) from by first | exact (blk_below (g := gb345) (o := .cells #[.bool false, .int .i64 0, .int .i64 0] 30 (0, 0)) (by (with_reducible repeat (first | refine blk_drewN ?_ _ | refine blk_drew ?_ | refine blk_alloc ?_ _)); exact (Q_BK345 h0_ h1_)) hb))
          have z_BK346 := fun (h0_ : b 11 = true) (h1_ : b 13 = false) => (show w68.heap[gb346]? = some (.cells #[.bool false, .int .i64 0, .int .i64 0] 30 (0, 0)) from by first | exact (blk_below (g := gb346) (o := .cells #[.bool false, .int .i64 0, .int .i64 0] 30 (0, 0)) (by (with_reducible repeat (first | refine blk_drewN ?_ _ | refine blk_drew ?_ | refine blk_alloc ?_ _)); exact (Q_BK346 h0_ h1_)) hb))
          clear BK331
          clear BK332
          clear HB
          have BK331 := n0_
          have BK332 := n1_
          have HB := n2_
          clear n0_ n1_ n2_
          (try clear hb)
          (try clear hb2)
          (try clear hk)
          (try clear hi)
          refine hK.out _ _ ⟨gb345, gb346, m10_, m11_, (by rw [ha.out]; exact putSel_upk 3 hb_ rfl rfl rfl), bk, bk, bl, Q_NB346_345, Q_NB345_346, z_BK345, Q_GW345, Q_GE345, Q_NB331_345, Q_NB345_331, Q_NB332_345, Q_NB345_332, z_BK346, Q_GW346, Q_GE346, Q_NB331_346, Q_NB346_331, Q_NB332_346, Q_NB346_332, fun h0_ => absurd ((hoff 12 (by kernel_rfl)).symm.trans h0_) (by decide), fun h0_ => absurd ((hoff 13 (by kernel_rfl)).symm.trans h0_) (by decide), Q_X10_, Q_X11_⟩
        refine steps_cons ?_ ?_
        · rintro b a w' ⟨gb345, gb346, m10_, m11_, ha, Q_BK331, Q_BK332, Q_HB, Q_NB346_345, Q_NB345_346, Q_BK345, Q_GW345, Q_GE345, Q_NB331_345, Q_NB345_331, Q_NB332_345, Q_NB345_332, Q_BK346, Q_GW346, Q_GE346, Q_NB331_346, Q_NB346_331, Q_NB332_346, Q_NB346_332, Q_BK345_e12, Q_BK346_e13, Q_X10_, Q_X11_⟩ hb_ hon hoff
          refine ⟨_, rfl, fun K hK => ?_⟩
          have e14 : a.tmps[14]? = some (.int .i64 a0) := by rw [ha]; exact (putSel_off rfl).trans rfl
          have e16 : a.tmps[16]? = some (.agg #[.bool t333, .int .i64 t334, .int .i64 t335]) := by rw [ha]; exact putSel_on (e := (2, 16, .agg #[.bool t333, .int .i64 t334, .int .i64 t335])) 1 rfl rfl (hon 2 (by kernel_rfl)) rfl
          have e18 : a.tmps[18]? = some (.agg #[.bool t336, .int .i64 t337, .int .i64 t338]) := by rw [ha]; exact putSel_on (e := (4, 18, .agg #[.bool t336, .int .i64 t337, .int .i64 t338])) 3 rfl rfl (hon 4 (by kernel_rfl)) rfl
          have e19 : a.tmps[19]? = some (.bool a3) := by rw [ha]; exact (putSel_off rfl).trans rfl
          replace ha := Aside0.mk ha
          have BK331 := Bk.mk Q_BK331
          have BK332 := Bk.mk Q_BK332
          have HB := Bl.mk Q_HB
          refine goes_ Try.func17 (by kernel_rfl) rfl #[.int .i64 a0, .agg #[.bool t333, .int .i64 t334, .int .i64 t335], .agg #[.bool t336, .int .i64 t337, .int .i64 t338], .bool a3] (by rfl) rfl rfl (by first | (simp only [List.map_toArray, List.map_cons, List.map_nil, Act.eval, Array.getD_eq_getD_getElem?, Option.getD_some, e14, e16, e18, e19]; done) | (simp only [List.map_toArray, List.map_cons, List.map_nil, Act.eval, Array.getD_eq_getD_getElem?, Option.getD_some, e14, e16, e18, e19]; rfl)) ?_
          with_reducible refine (spec_SpanWhen.calls k a0 t333 t334 t335 t336 t337 t338 a3 t339 t340 t341 t342 t343 t344 _ A7.out).mono ?_
          rintro e w69 ⟨rfl, hb⟩
          refine ⟨_, rfl, ?_⟩
          have n0_ := Bk.mk (blk_below (g := gb331) bk hb)
          have n1_ := Bk.mk (blk_below (g := gb332) bk hb)
          have n2_ := Bl.mk (below_step bl hb)
          have z_BK345 := fun (h0_ : b 10 = true) (h1_ : b 12 = false) => (show w69.heap[gb345]? = some (.cells #[.bool false, .int .i64 0, .int .i64 0] 30 (0, 0)) from by first | exact (blk_below (g := gb345) (o := .cells #[.bool false, .int .i64 0, .int .i64 0] 30 (0, 0)) (by (with_reducible repeat (first | refine blk_drewN ?_ _ | refine blk_drew ?_ | refine blk_alloc ?_ _)); exact (Q_BK345 h0_ h1_)) hb))
          have z_BK346 := fun (h0_ : b 11 = true) (h1_ : b 13 = false) => (show w69.heap[gb346]? = some (.cells #[.bool false, .int .i64 0, .int .i64 0] 30 (0, 0)) from by first | exact (blk_below (g := gb346) (o := .cells #[.bool false, .int .i64 0, .int .i64 0] 30 (0, 0)) (by (with_reducible repeat (first | refine blk_drewN ?_ _ | refine blk_drew ?_ | refine blk_alloc ?_ _)); exact (Q_BK346 h0_ h1_)) hb))
          clear BK331
          clear BK332
          clear HB
          have BK331 := n0_
          have BK332 := n1_
          have HB := n2_
          clear n0_ n1_ n2_
          (try clear hb)
          (try clear hb2)
          (try clear hk)
          (try clear hi)
          refine hK.out _ _ ⟨gb345, gb346, m10_, m11_, (by rw [ha.out]; exact putSel_upk 4 hb_ rfl rfl rfl), bk, bk, bl, Q_NB346_345, Q_NB345_346, z_BK345, Q_GW345, Q_GE345, Q_NB331_345, Q_NB345_331, Q_NB332_345, Q_NB345_332, z_BK346, Q_GW346, Q_GE346, Q_NB331_346, Q_NB346_331, Q_NB332_346, Q_NB346_332, fun h0_ => absurd ((hoff 12 (by kernel_rfl)).symm.trans h0_) (by decide), fun h0_ => absurd ((hoff 13 (by kernel_rfl)).symm.trans h0_) (by decide), Q_X10_, Q_X11_⟩
        refine steps_cons ?_ ?_
        · rintro b a w' ⟨gb345, gb346, m10_, m11_, ha, Q_BK331, Q_BK332, Q_HB, Q_NB346_345, Q_NB345_346, Q_BK345, Q_GW345, Q_GE345, Q_NB331_345, Q_NB345_331, Q_NB332_345, Q_NB345_332, Q_BK346, Q_GW346, Q_GE346, Q_NB331_346, Q_NB346_331, Q_NB332_346, Q_NB346_332, Q_BK345_e12, Q_BK346_e13, Q_X10_, Q_X11_⟩ hb_ hon hoff
          refine ⟨_, rfl, fun K hK => ?_⟩
          have e20 : a.tmps[20]? = some (.tuple #[.agg #[.bool t339, .int .i64 t340, .int .i64 t341], .agg #[.bool t342, .int .i64 t343, .int .i64 t344]]) := by rw [ha]; exact putSel_on (e := (6, 20, .tuple #[.agg #[.bool t339, .int .i64 t340, .int .i64 t341], .agg #[.bool t342, .int .i64 t343, .int .i64 t344]])) 4 rfl rfl (hon 6 (by kernel_rfl)) rfl
          replace ha := Aside0.mk ha
          have BK331 := Bk.mk Q_BK331
          have BK332 := Bk.mk Q_BK332
          have HB := Bl.mk Q_HB
          refine value_ (w1 := w') (v := .tuple #[.agg #[.bool t339, .int .i64 t340, .int .i64 t341], .agg #[.bool t342, .int .i64 t343, .int .i64 t344]]) (by rfl) rfl ?_ ?_
          · go_simp
            (try simp only [i64_w])
            try rfl
          refine hK.out _ _ ⟨gb345, gb346, m10_, m11_, (by rw [ha.out]; exact putSel_upk 5 hb_ rfl rfl rfl), Q_BK331, Q_BK332, Q_HB, Q_NB346_345, Q_NB345_346, Q_BK345, Q_GW345, Q_GE345, Q_NB331_345, Q_NB345_331, Q_NB332_345, Q_NB345_332, Q_BK346, Q_GW346, Q_GE346, Q_NB331_346, Q_NB346_331, Q_NB332_346, Q_NB346_332, fun h0_ => absurd ((hoff 12 (by kernel_rfl)).symm.trans h0_) (by decide), fun h0_ => absurd ((hoff 13 (by kernel_rfl)).symm.trans h0_) (by decide), Q_X10_, Q_X11_⟩
        refine steps_cons ?_ ?_
        · rintro b a w' ⟨gb345, gb346, m10_, m11_, ha, Q_BK331, Q_BK332, Q_HB, Q_NB346_345, Q_NB345_346, Q_BK345, Q_GW345, Q_GE345, Q_NB331_345, Q_NB345_331, Q_NB332_345, Q_NB345_332, Q_BK346, Q_GW346, Q_GE346, Q_NB331_346, Q_NB346_331, Q_NB332_346, Q_NB346_332, Q_BK345_e12, Q_BK346_e13, Q_X10_, Q_X11_⟩ hb_ hon hoff
          refine ⟨_, rfl, fun K hK => ?_⟩
          have e13 : a.tmps[13]? = some (.tuple #[.agg #[.bool t339, .int .i64 t340, .int .i64 t341], .agg #[.bool t342, .int .i64 t343, .int .i64 t344]]) := by rw [ha]; exact putSel_on (e := (7, 13, .tuple #[.agg #[.bool t339, .int .i64 t340, .int .i64 t341], .agg #[.bool t342, .int .i64 t343, .int .i64 t344]])) 5 rfl rfl (hon 7 (by kernel_rfl)) rfl
          replace ha := Aside0.mk ha
          have BK331 := Bk.mk Q_BK331
          have BK332 := Bk.mk Q_BK332
          have HB := Bl.mk Q_HB
          refine value_ (w1 := w') (v := .agg #[.bool t339, .int .i64 t340, .int .i64 t341]) (by rfl) rfl ?_ ?_
          · go_simp
            (try simp only [i64_w])
            try rfl
          refine hK.out _ _ ⟨gb345, gb346, m10_, m11_, (by rw [ha.out]; exact putSel_upk 6 hb_ rfl rfl rfl), Q_BK331, Q_BK332, Q_HB, Q_NB346_345, Q_NB345_346, Q_BK345, Q_GW345, Q_GE345, Q_NB331_345, Q_NB345_331, Q_NB332_345, Q_NB345_332, Q_BK346, Q_GW346, Q_GE346, Q_NB331_346, Q_NB346_331, Q_NB332_346, Q_NB346_332, fun h0_ => absurd ((hoff 12 (by kernel_rfl)).symm.trans h0_) (by decide), fun h0_ => absurd ((hoff 13 (by kernel_rfl)).symm.trans h0_) (by decide), Q_X10_, Q_X11_⟩
        refine steps_cons ?_ ?_
        · rintro b a w' ⟨gb345, gb346, m10_, m11_, ha, Q_BK331, Q_BK332, Q_HB, Q_NB346_345, Q_NB345_346, Q_BK345, Q_GW345, Q_GE345, Q_NB331_345, Q_NB345_331, Q_NB332_345, Q_NB345_332, Q_BK346, Q_GW346, Q_GE346, Q_NB331_346, Q_NB346_331, Q_NB332_346, Q_NB346_332, Q_BK345_e12, Q_BK346_e13, Q_X10_, Q_X11_⟩ hb_ hon hoff
          refine ⟨_, rfl, fun K hK => ?_⟩
          have e13 : a.tmps[13]? = some (.tuple #[.agg #[.bool t339, .int .i64 t340, .int .i64 t341], .agg #[.bool t342, .int .i64 t343, .int .i64 t344]]) := by rw [ha]; exact putSel_on (e := (7, 13, .tuple #[.agg #[.bool t339, .int .i64 t340, .int .i64 t341], .agg #[.bool t342, .int .i64 t343, .int .i64 t344]])) 5 rfl rfl (hon 7 (by kernel_rfl)) rfl
          replace ha := Aside0.mk ha
          have BK331 := Bk.mk Q_BK331
          have BK332 := Bk.mk Q_BK332
          have HB := Bl.mk Q_HB
          refine value_ (w1 := w') (v := .agg #[.bool t342, .int .i64 t343, .int .i64 t344]) (by rfl) rfl ?_ ?_
          · go_simp
            (try simp only [i64_w])
            try rfl
          refine hK.out _ _ ⟨gb345, gb346, m10_, m11_, (by rw [ha.out]; exact putSel_upk 7 hb_ rfl rfl rfl), Q_BK331, Q_BK332, Q_HB, Q_NB346_345, Q_NB345_346, Q_BK345, Q_GW345, Q_GE345, Q_NB331_345, Q_NB345_331, Q_NB332_345, Q_NB345_332, Q_BK346, Q_GW346, Q_GE346, Q_NB331_346, Q_NB346_331, Q_NB332_346, Q_NB346_332, Q_BK345_e12, fun h0_ => absurd ((hoff 13 (by kernel_rfl)).symm.trans h0_) (by decide), Q_X10_, Q_X11_⟩
        refine steps_cons ?_ ?_
        · rintro b a w' ⟨gb345, gb346, m10_, m11_, ha, Q_BK331, Q_BK332, Q_HB, Q_NB346_345, Q_NB345_346, Q_BK345, Q_GW345, Q_GE345, Q_NB331_345, Q_NB345_331, Q_NB332_345, Q_NB345_332, Q_BK346, Q_GW346, Q_GE346, Q_NB331_346, Q_NB346_331, Q_NB332_346, Q_NB346_332, Q_BK345_e12, Q_BK346_e13, Q_X10_, Q_X11_⟩ hb_ hon hoff
          refine ⟨_, rfl, fun K hK => ?_⟩
          replace ha := Aside0.mk ha
          have BK331 := Bk.mk Q_BK331
          have BK332 := Bk.mk Q_BK332
          have HB := Bl.mk Q_HB
          refine box_step ?hg (N := 9) ?hd (cs := #[.bool false, .int .i64 0, .int .i64 0]) (t := 30) ?hr ?_; (case hd => rfl); (case hg => rfl); (case hr => first | (go_simp; done) | (go_simp; rfl))
          intro gb345 hg w66 hbox hb
          have n0_ := Bk.mk (blk_below (g := gb331) bk hb)
          have n1_ := Bk.mk (blk_below (g := gb332) bk hb)
          have n2_ := Bl.mk (below_step bl hb)
          have n3_ := Bk.mk (hbox)
          have n4_ := Aside0.mk ((by rw [hg]; exact (below_size bl) : w.heap.size ≤ gb345))
          have n5_ := Gl.mk ((by rw [hg]; exact (below_size bl) : w.heap.size ≤ gb345))
          have n6_ := Nb.mk ((by rw [hg]; exact Nat.ne_of_lt (blk_lt (g := gb331) bk) : gb331 ≠ gb345))
          have n7_ := Nb.mk ((by rw [hg]; exact Nat.ne_of_gt (blk_lt (g := gb331) bk) : gb345 ≠ gb331))
          have n8_ := Nb.mk ((by rw [hg]; exact Nat.ne_of_lt (blk_lt (g := gb332) bk) : gb332 ≠ gb345))
          have n9_ := Nb.mk ((by rw [hg]; exact Nat.ne_of_gt (blk_lt (g := gb332) bk) : gb345 ≠ gb332))
          have z_NB346_345 := fun (h0_ : up b 10 10 = true) (h1_ : up b 10 11 = true) => (show gb346 ≠ gb345 from ((by rw [hg]; exact Nat.ne_of_lt (blk_lt (g := gb346) (o := .cells #[.bool false, .int .i64 0, .int .i64 0] 30 (0, 0)) (Q_BK346 ((up_ne (by decide)).symm.trans h1_) (hoff 13 (by kernel_rfl)))) : gb346 ≠ gb345)))
          have z_NB345_346 := fun (h0_ : up b 10 10 = true) (h1_ : up b 10 11 = true) => (show gb345 ≠ gb346 from ((by rw [hg]; exact Nat.ne_of_gt (blk_lt (g := gb346) (o := .cells #[.bool false, .int .i64 0, .int .i64 0] 30 (0, 0)) (Q_BK346 ((up_ne (by decide)).symm.trans h1_) (hoff 13 (by kernel_rfl)))) : gb345 ≠ gb346)))
          have z_BK346 := fun (h0_ : b 11 = true) (h1_ : b 13 = false) => (show w66.heap[gb346]? = some (.cells #[.bool false, .int .i64 0, .int .i64 0] 30 (0, 0)) from by first | exact (blk_below (g := gb346) (o := .cells #[.bool false, .int .i64 0, .int .i64 0] 30 (0, 0)) (by (with_reducible repeat (first | refine blk_drewN ?_ _ | refine blk_drew ?_ | refine blk_alloc ?_ _)); exact (Q_BK346 h0_ h1_)) hb))
          clear BK331
          clear BK332
          clear HB
          have BK331 := n0_
          have BK332 := n1_
          have HB := n2_
          have BK345 := n3_
          have GW345 := n4_
          have GE345 := n5_
          have NB331_345 := n6_
          have NB345_331 := n7_
          have NB332_345 := n8_
          have NB345_332 := n9_
          clear n0_ n1_ n2_ n3_ n4_ n5_ n6_ n7_ n8_ n9_
          clear hb hbox hg
          refine hK.out _ _ ⟨gb345, gb346, (.pointer (some ⟨gb345, 0, none⟩)), m11_, (by rw [ha.out]; exact putSel_upk 8 hb_ rfl rfl rfl), bk, bk, bl, z_NB346_345, z_NB345_346, fun _ _ => bk, fun _ => GW345.out, fun _ => GE345.out, fun _ => NB331_345.out, fun _ => NB345_331.out, fun _ => NB332_345.out, fun _ => NB345_332.out, z_BK346, Q_GW346, Q_GE346, Q_NB331_346, Q_NB346_331, Q_NB332_346, Q_NB346_332, fun h0_ => absurd ((hoff 12 (by kernel_rfl)).symm.trans h0_) (by decide), fun h0_ => absurd ((hoff 13 (by kernel_rfl)).symm.trans h0_) (by decide), fun _ => rfl, Q_X11_⟩
        refine steps_cons ?_ ?_
        · rintro b a w' ⟨gb345, gb346, m10_, m11_, ha, Q_BK331, Q_BK332, Q_HB, Q_NB346_345, Q_NB345_346, Q_BK345, Q_GW345, Q_GE345, Q_NB331_345, Q_NB345_331, Q_NB332_345, Q_NB345_332, Q_BK346, Q_GW346, Q_GE346, Q_NB331_346, Q_NB346_331, Q_NB332_346, Q_NB346_332, Q_BK345_e12, Q_BK346_e13, Q_X10_, Q_X11_⟩ hb_ hon hoff
          refine ⟨_, rfl, fun K hK => ?_⟩
          replace ha := Aside0.mk ha
          have BK331 := Bk.mk Q_BK331
          have BK332 := Bk.mk Q_BK332
          have HB := Bl.mk Q_HB
          refine box_step ?hg (N := 10) ?hd (cs := #[.bool false, .int .i64 0, .int .i64 0]) (t := 30) ?hr ?_; (case hd => rfl); (case hg => rfl); (case hr => first | (go_simp; done) | (go_simp; rfl))
          intro gb346 hg w66 hbox hb
          have n0_ := Bk.mk (blk_below (g := gb331) bk hb)
          have n1_ := Bk.mk (blk_below (g := gb332) bk hb)
          have n2_ := Bl.mk (below_step bl hb)
          have n3_ := Bk.mk (hbox)
          have n4_ := Aside0.mk ((by rw [hg]; exact (below_size bl) : w.heap.size ≤ gb346))
          have n5_ := Gl.mk ((by rw [hg]; exact (below_size bl) : w.heap.size ≤ gb346))
          have n6_ := Nb.mk ((by rw [hg]; exact Nat.ne_of_lt (blk_lt (g := gb331) bk) : gb331 ≠ gb346))
          have n7_ := Nb.mk ((by rw [hg]; exact Nat.ne_of_gt (blk_lt (g := gb331) bk) : gb346 ≠ gb331))
          have n8_ := Nb.mk ((by rw [hg]; exact Nat.ne_of_lt (blk_lt (g := gb332) bk) : gb332 ≠ gb346))
          have n9_ := Nb.mk ((by rw [hg]; exact Nat.ne_of_gt (blk_lt (g := gb332) bk) : gb346 ≠ gb332))
          have z_NB346_345 := fun (h0_ : up b 11 10 = true) (h1_ : up b 11 11 = true) => (show gb346 ≠ gb345 from ((by rw [hg]; exact Nat.ne_of_gt (blk_lt (g := gb345) (o := .cells #[.bool false, .int .i64 0, .int .i64 0] 30 (0, 0)) (Q_BK345 ((up_ne (by decide)).symm.trans h0_) (hoff 12 (by kernel_rfl)))) : gb346 ≠ gb345)))
          have z_NB345_346 := fun (h0_ : up b 11 10 = true) (h1_ : up b 11 11 = true) => (show gb345 ≠ gb346 from ((by rw [hg]; exact Nat.ne_of_lt (blk_lt (g := gb345) (o := .cells #[.bool false, .int .i64 0, .int .i64 0] 30 (0, 0)) (Q_BK345 ((up_ne (by decide)).symm.trans h0_) (hoff 12 (by kernel_rfl)))) : gb345 ≠ gb346)))
          have z_BK345 := fun (h0_ : b 10 = true) (h1_ : b 12 = false) => (show w66.heap[gb345]? = some (.cells #[.bool false, .int .i64 0, .int .i64 0] 30 (0, 0)) from by first | exact (blk_below (g := gb345) (o := .cells #[.bool false, .int .i64 0, .int .i64 0] 30 (0, 0)) (by (with_reducible repeat (first | refine blk_drewN ?_ _ | refine blk_drew ?_ | refine blk_alloc ?_ _)); exact (Q_BK345 h0_ h1_)) hb))
          clear BK331
          clear BK332
          clear HB
          have BK331 := n0_
          have BK332 := n1_
          have HB := n2_
          have BK346 := n3_
          have GW346 := n4_
          have GE346 := n5_
          have NB331_346 := n6_
          have NB346_331 := n7_
          have NB332_346 := n8_
          have NB346_332 := n9_
          clear n0_ n1_ n2_ n3_ n4_ n5_ n6_ n7_ n8_ n9_
          clear hb hbox hg
          refine hK.out _ _ ⟨gb345, gb346, m10_, (.pointer (some ⟨gb346, 0, none⟩)), (by rw [ha.out]; exact putSel_upk 9 hb_ rfl rfl rfl), bk, bk, bl, z_NB346_345, z_NB345_346, z_BK345, Q_GW345, Q_GE345, Q_NB331_345, Q_NB345_331, Q_NB332_345, Q_NB345_332, fun _ _ => bk, fun _ => GW346.out, fun _ => GE346.out, fun _ => NB331_346.out, fun _ => NB346_331.out, fun _ => NB332_346.out, fun _ => NB346_332.out, fun h0_ => absurd ((hoff 12 (by kernel_rfl)).symm.trans h0_) (by decide), fun h0_ => absurd ((hoff 13 (by kernel_rfl)).symm.trans h0_) (by decide), Q_X10_, fun _ => rfl⟩
        refine steps_cons ?_ ?_
        · rintro b a w' ⟨gb345, gb346, m10_, m11_, ha, Q_BK331, Q_BK332, Q_HB, Q_NB346_345, Q_NB345_346, Q_BK345, Q_GW345, Q_GE345, Q_NB331_345, Q_NB345_331, Q_NB332_345, Q_NB345_332, Q_BK346, Q_GW346, Q_GE346, Q_NB331_346, Q_NB346_331, Q_NB332_346, Q_NB346_332, Q_BK345_e12, Q_BK346_e13, Q_X10_, Q_X11_⟩ hb_ hon hoff
          refine ⟨_, rfl, fun K hK => ?_⟩
          have e9 : a.tmps[9]? = some (m10_) := by rw [ha]; exact putSel_on (e := (10, 9, m10_)) 8 rfl rfl (hon 10 (by kernel_rfl)) rfl
          rw [Q_X10_ (hon 10 (by kernel_rfl))] at e9
          have e21 : a.tmps[21]? = some (.agg #[.bool t339, .int .i64 t340, .int .i64 t341]) := by rw [ha]; exact putSel_on (e := (8, 21, .agg #[.bool t339, .int .i64 t340, .int .i64 t341])) 6 rfl rfl (hon 8 (by kernel_rfl)) rfl
          replace ha := Aside0.mk ha
          have BK331 := Bk.mk Q_BK331
          have BK332 := Bk.mk Q_BK332
          have HB := Bl.mk Q_HB
          have NB346_345 := Nb.mk (Q_NB346_345 (hon 10 (by kernel_rfl)) (hon 11 (by kernel_rfl)))
          have NB345_346 := Nb.mk (Q_NB345_346 (hon 10 (by kernel_rfl)) (hon 11 (by kernel_rfl)))
          have BK345 := Bk.mk (Q_BK345 (hon 10 (by kernel_rfl)) hb_)
          have GW345 := Aside0.mk (Q_GW345 (hon 10 (by kernel_rfl)))
          have GE345 := Gl.mk (Q_GE345 (hon 10 (by kernel_rfl)))
          have NB331_345 := Nb.mk (Q_NB331_345 (hon 10 (by kernel_rfl)))
          have NB345_331 := Nb.mk (Q_NB345_331 (hon 10 (by kernel_rfl)))
          have NB332_345 := Nb.mk (Q_NB332_345 (hon 10 (by kernel_rfl)))
          have NB345_332 := Nb.mk (Q_NB345_332 (hon 10 (by kernel_rfl)))
          have BK346 := Bk.mk (Q_BK346 (hon 11 (by kernel_rfl)) (hoff 13 (by kernel_rfl)))
          have GW346 := Aside0.mk (Q_GW346 (hon 11 (by kernel_rfl)))
          have GE346 := Gl.mk (Q_GE346 (hon 11 (by kernel_rfl)))
          have NB331_346 := Nb.mk (Q_NB331_346 (hon 11 (by kernel_rfl)))
          have NB346_331 := Nb.mk (Q_NB346_331 (hon 11 (by kernel_rfl)))
          have NB332_346 := Nb.mk (Q_NB332_346 (hon 11 (by kernel_rfl)))
          have NB346_332 := Nb.mk (Q_NB346_332 (hon 11 (by kernel_rfl)))
          have hs72 : w'.cell? ⟨gb345, 0, none⟩ = some (.bool false) := (blk_cell BK345.out 0).trans rfl
          have hfs72 := blk_frozen BK345.out 0
          have hns72_0 := NB331_345.out
          have hns72_1 := NB332_345.out
          have hns72_3 := NB346_345.out
          have hms72_0 := NB345_331.out
          have hms72_1 := NB345_332.out
          have hms72_3 := NB345_346.out
          have hs73 : w'.cell? ⟨gb345, 1, none⟩ = some (.int .i64 0) := (blk_cell BK345.out 1).trans rfl
          have hfs73 := blk_frozen BK345.out 1
          have hns73_0 := NB331_345.out
          have hns73_1 := NB332_345.out
          have hns73_3 := NB346_345.out
          have hms73_0 := NB345_331.out
          have hms73_1 := NB345_332.out
          have hms73_3 := NB345_346.out
          have hs74 : w'.cell? ⟨gb345, 2, none⟩ = some (.int .i64 0) := (blk_cell BK345.out 2).trans rfl
          have hfs74 := blk_frozen BK345.out 2
          have hns74_0 := NB331_345.out
          have hns74_1 := NB332_345.out
          have hns74_3 := NB346_345.out
          have hms74_0 := NB345_331.out
          have hms74_1 := NB345_332.out
          have hms74_3 := NB345_346.out
          refine skip_ (w1 := ?_) (by rfl) rfl ?_ ?_
          rotate_left
          · go_simp
            rfl
          refine hK.out _ _ ⟨gb345, gb346, m10_, m11_, (by rw [ha.out]; exact putSel_none (v := undef) rfl), bk, bk, bl, fun _ _ => NB346_345.out, fun _ _ => NB345_346.out, fun _ h1_ => absurd ((up_self b 12).symm.trans h1_) (by decide), fun _ => GW345.out, fun _ => GE345.out, fun _ => NB331_345.out, fun _ => NB345_331.out, fun _ => NB332_345.out, fun _ => NB345_332.out, fun _ _ => bk, fun _ => GW346.out, fun _ => GE346.out, fun _ => NB331_346.out, fun _ => NB346_331.out, fun _ => NB332_346.out, fun _ => NB346_332.out, fun _ => bk, fun h0_ => absurd ((hoff 13 (by kernel_rfl)).symm.trans h0_) (by decide), Q_X10_, Q_X11_⟩
        refine steps_cons ?_ ?_
        · rintro b a w' ⟨gb345, gb346, m10_, m11_, ha, Q_BK331, Q_BK332, Q_HB, Q_NB346_345, Q_NB345_346, Q_BK345, Q_GW345, Q_GE345, Q_NB331_345, Q_NB345_331, Q_NB332_345, Q_NB345_332, Q_BK346, Q_GW346, Q_GE346, Q_NB331_346, Q_NB346_331, Q_NB332_346, Q_NB346_332, Q_BK345_e12, Q_BK346_e13, Q_X10_, Q_X11_⟩ hb_ hon hoff
          refine ⟨_, rfl, fun K hK => ?_⟩
          have e10 : a.tmps[10]? = some (m11_) := by rw [ha]; exact putSel_on (e := (11, 10, m11_)) 9 rfl rfl (hon 11 (by kernel_rfl)) rfl
          rw [Q_X11_ (hon 11 (by kernel_rfl))] at e10
          have e22 : a.tmps[22]? = some (.agg #[.bool t342, .int .i64 t343, .int .i64 t344]) := by rw [ha]; exact putSel_on (e := (9, 22, .agg #[.bool t342, .int .i64 t343, .int .i64 t344])) 7 rfl rfl (hon 9 (by kernel_rfl)) rfl
          replace ha := Aside0.mk ha
          have BK331 := Bk.mk Q_BK331
          have BK332 := Bk.mk Q_BK332
          have HB := Bl.mk Q_HB
          have NB346_345 := Nb.mk (Q_NB346_345 (hon 10 (by kernel_rfl)) (hon 11 (by kernel_rfl)))
          have NB345_346 := Nb.mk (Q_NB345_346 (hon 10 (by kernel_rfl)) (hon 11 (by kernel_rfl)))
          have GW345 := Aside0.mk (Q_GW345 (hon 10 (by kernel_rfl)))
          have GE345 := Gl.mk (Q_GE345 (hon 10 (by kernel_rfl)))
          have NB331_345 := Nb.mk (Q_NB331_345 (hon 10 (by kernel_rfl)))
          have NB345_331 := Nb.mk (Q_NB345_331 (hon 10 (by kernel_rfl)))
          have NB332_345 := Nb.mk (Q_NB332_345 (hon 10 (by kernel_rfl)))
          have NB345_332 := Nb.mk (Q_NB345_332 (hon 10 (by kernel_rfl)))
          have BK346 := Bk.mk (Q_BK346 (hon 11 (by kernel_rfl)) hb_)
          have GW346 := Aside0.mk (Q_GW346 (hon 11 (by kernel_rfl)))
          have GE346 := Gl.mk (Q_GE346 (hon 11 (by kernel_rfl)))
          have NB331_346 := Nb.mk (Q_NB331_346 (hon 11 (by kernel_rfl)))
          have NB346_331 := Nb.mk (Q_NB346_331 (hon 11 (by kernel_rfl)))
          have NB332_346 := Nb.mk (Q_NB332_346 (hon 11 (by kernel_rfl)))
          have NB346_332 := Nb.mk (Q_NB346_332 (hon 11 (by kernel_rfl)))
          have BK345 := Bk.mk (Q_BK345_e12 (hon 12 (by kernel_rfl)))
          have hs75 : w'.cell? ⟨gb346, 0, none⟩ = some (.bool false) := (blk_cell BK346.out 0).trans rfl
          have hfs75 := blk_frozen BK346.out 0
          have hns75_0 := NB331_346.out
          have hns75_1 := NB332_346.out
          have hns75_2 := NB345_346.out
          have hms75_0 := NB346_331.out
          have hms75_1 := NB346_332.out
          have hms75_2 := NB346_345.out
          have hs76 : w'.cell? ⟨gb346, 1, none⟩ = some (.int .i64 0) := (blk_cell BK346.out 1).trans rfl
          have hfs76 := blk_frozen BK346.out 1
          have hns76_0 := NB331_346.out
          have hns76_1 := NB332_346.out
          have hns76_2 := NB345_346.out
          have hms76_0 := NB346_331.out
          have hms76_1 := NB346_332.out
          have hms76_2 := NB346_345.out
          have hs77 : w'.cell? ⟨gb346, 2, none⟩ = some (.int .i64 0) := (blk_cell BK346.out 2).trans rfl
          have hfs77 := blk_frozen BK346.out 2
          have hns77_0 := NB331_346.out
          have hns77_1 := NB332_346.out
          have hns77_2 := NB345_346.out
          have hms77_0 := NB346_331.out
          have hms77_1 := NB346_332.out
          have hms77_2 := NB346_345.out
          refine skip_ (w1 := ?_) (by rfl) rfl ?_ ?_
          rotate_left
          · go_simp
            rfl
          refine hK.out _ _ ⟨gb345, gb346, m10_, m11_, (by rw [ha.out]; exact putSel_none (v := undef) rfl), bk, bk, bl, fun _ _ => NB346_345.out, fun _ _ => NB345_346.out, fun _ h1_ => absurd ((hon 12 (by kernel_rfl)).symm.trans h1_) (by decide), fun _ => GW345.out, fun _ => GE345.out, fun _ => NB331_345.out, fun _ => NB345_331.out, fun _ => NB332_345.out, fun _ => NB345_332.out, fun _ h1_ => absurd ((up_self b 13).symm.trans h1_) (by decide), fun _ => GW346.out, fun _ => GE346.out, fun _ => NB331_346.out, fun _ => NB346_331.out, fun _ => NB332_346.out, fun _ => NB346_332.out, fun _ => bk, fun _ => bk, Q_X10_, Q_X11_⟩
        exact steps_nil
      rintro b a w77 hall ⟨gb345, gb346, m10_, m11_, ha, Q_BK331, Q_BK332, Q_HB, Q_NB346_345, Q_NB345_346, Q_BK345, Q_GW345, Q_GE345, Q_NB331_345, Q_NB345_331, Q_NB332_345, Q_NB345_332, Q_BK346, Q_GW346, Q_GE346, Q_NB331_346, Q_NB346_331, Q_NB332_346, Q_NB346_332, Q_BK345_e12, Q_BK346_e13, Q_X10_, Q_X11_⟩
      clear BK331 BK332 HB
      have hb1_ := hall 1 (by kernel_rfl)
      have hb2_ := hall 2 (by kernel_rfl)
      have hb3_ := hall 3 (by kernel_rfl)
      have hb4_ := hall 4 (by kernel_rfl)
      have hb6_ := hall 6 (by kernel_rfl)
      have hb7_ := hall 7 (by kernel_rfl)
      have hb8_ := hall 8 (by kernel_rfl)
      have hb9_ := hall 9 (by kernel_rfl)
      have hb10_ := hall 10 (by kernel_rfl)
      have hb11_ := hall 11 (by kernel_rfl)
      have hb12_ := hall 12 (by kernel_rfl)
      have hb13_ := hall 13 (by kernel_rfl)
      subst ha
      obtain rfl := Q_X10_ hb10_
      obtain rfl := Q_X11_ hb11_
      simp only [putSel, hb1_, hb2_, hb3_, hb4_, hb6_, hb7_, hb8_, hb9_, hb10_, hb11_, hb12_, hb13_, if_true, Act.put, List.setIfInBounds_toArray, List.set_cons_zero, List.set_cons_succ]
      have BK331 := Bk.mk Q_BK331
      clear Q_BK331
      have BK332 := Bk.mk Q_BK332
      clear Q_BK332
      have HB := Bl.mk Q_HB
      clear Q_HB
      have NB346_345 := Nb.mk (Q_NB346_345 hb10_ hb11_)
      clear Q_NB346_345
      have NB345_346 := Nb.mk (Q_NB345_346 hb10_ hb11_)
      clear Q_NB345_346
      clear Q_BK345
      have GW345 := Aside0.mk (Q_GW345 hb10_)
      clear Q_GW345
      have GE345 := Gl.mk (Q_GE345 hb10_)
      clear Q_GE345
      have NB331_345 := Nb.mk (Q_NB331_345 hb10_)
      clear Q_NB331_345
      have NB345_331 := Nb.mk (Q_NB345_331 hb10_)
      clear Q_NB345_331
      have NB332_345 := Nb.mk (Q_NB332_345 hb10_)
      clear Q_NB332_345
      have NB345_332 := Nb.mk (Q_NB345_332 hb10_)
      clear Q_NB345_332
      clear Q_BK346
      have GW346 := Aside0.mk (Q_GW346 hb11_)
      clear Q_GW346
      have GE346 := Gl.mk (Q_GE346 hb11_)
      clear Q_GE346
      have NB331_346 := Nb.mk (Q_NB331_346 hb11_)
      clear Q_NB331_346
      have NB346_331 := Nb.mk (Q_NB346_331 hb11_)
      clear Q_NB346_331
      have NB332_346 := Nb.mk (Q_NB332_346 hb11_)
      clear Q_NB332_346
      have NB346_332 := Nb.mk (Q_NB346_332 hb11_)
      clear Q_NB346_332
      have BK345 := Bk.mk (Q_BK345_e12 hb12_)
      clear Q_BK345_e12
      have BK346 := Bk.mk (Q_BK346_e13 hb13_)
      clear Q_BK346_e13
      clear hall hb1_ hb2_ hb3_ hb4_ hb6_ hb7_ hb8_ hb9_ hb10_ hb11_ hb12_ hb13_
      try go_wp2
      have n0_ := Bk.mk (blk_drew BK331.out)
      have n1_ := Bk.mk (blk_drew BK332.out)
      have n2_ := Bk.mk (blk_drew BK345.out)
      have n3_ := Bk.mk (blk_drew BK346.out)
      have n4_ := Bl.mk (below_drew1 HB.out)
      clear BK331
      clear BK332
      clear BK345
      clear BK346
      clear HB
      have BK331 := n0_
      have BK332 := n1_
      have BK345 := n2_
      have BK346 := n3_
      have HB := n4_
      clear n0_ n1_ n2_ n3_ n4_
      refine start_ (n := 14) (S := fun w' => True) (ds := []) #[false, false, false, false, false, false, false, false, false, false, false, false, false, false] (by kernel_rfl) rfl rfl trivial (fun hHeld => ?_); refine with_tabW laws_FnExactSpanWhen.tab2 laws_FnExactSpanWhen.bits2 (fun HT_ HW_ => ?_)
      generalize w77.drew = w78 at BK331 BK332 BK345 BK346 HB hHeld ⊢
      refine pure_ (i := 0) (N := some 24) (v := ?_) (a' := ?_) #[true, false, false, false, false, false, false, false, false, false, false, false, false, false] rfl rfl (any_of HT_.out (by kernel_rfl)) (fun _ _ _ h => h) (Or.inl ⟨by rfl, ?_⟩) ?_ ?_
      rotate_left
      · intro w'
        go_simp
        with_reducible rfl
      rotate_left
      · simp only [Act.put, List.setIfInBounds_toArray, List.set_cons_zero, List.set_cons_succ, i64_w, i32_w]
        rfl
      refine pure_ (i := 5) (N := some 29) (v := ?_) (a' := ?_) #[true, false, false, false, false, true, false, false, false, false, false, false, false, false] rfl rfl (any_of HT_.out (by kernel_rfl)) (fun _ _ _ h => h) (Or.inl ⟨by rfl, ?_⟩) ?_ ?_
      rotate_left
      · intro w'
        go_simp
        with_reducible rfl
      rotate_left
      · simp only [Act.put, List.setIfInBounds_toArray, List.set_cons_zero, List.set_cons_succ, i64_w, i32_w]
        rfl
      refine inv_at [1, 2, 3, 4, 6, 7, 8, 9, 10, 11, 12, 13] (fun a0_ b a w' => ∃ (gb359 : Nat) (gb360 : Nat) (m10_ : Value) (m11_ : Value), a = putSel a0_ b [(1, 25, .agg #[.bool a1_0, .int .i64 a1_1, .int .i64 a1_2]), (2, 26, .agg #[.bool t333, .int .i64 t334, .int .i64 t335]), (3, 27, .agg #[.bool a2_0, .int .i64 a2_1, .int .i64 a2_2]), (4, 28, .agg #[.bool t336, .int .i64 t337, .int .i64 t338]), (6, 30, .tuple #[.agg #[.bool t353, .int .i64 t354, .int .i64 t355], .agg #[.bool t356, .int .i64 t357, .int .i64 t358]]), (7, 23, .tuple #[.agg #[.bool t353, .int .i64 t354, .int .i64 t355], .agg #[.bool t356, .int .i64 t357, .int .i64 t358]]), (8, 31, .agg #[.bool t353, .int .i64 t354, .int .i64 t355]), (9, 32, .agg #[.bool t356, .int .i64 t357, .int .i64 t358]), (10, 11, m10_), (11, 12, m11_)] ∧ (w'.heap[gb331]? = some (.cells #[.bool a1_0, .int .i64 a1_1, .int .i64 a1_2] 34 (0, 0))) ∧ (w'.heap[gb332]? = some (.cells #[.bool a2_0, .int .i64 a2_1, .int .i64 a2_2] 34 (0, 0))) ∧ (w'.heap[gb345]? = some (.cells #[.bool t339, .int .i64 t340, .int .i64 t341] 30 (0, 0))) ∧ (w'.heap[gb346]? = some (.cells #[.bool t342, .int .i64 t343, .int .i64 t344] 30 (0, 0))) ∧ (Below w.heap.size w w') ∧ (b 10 = true → b 11 = true → gb360 ≠ gb359) ∧ (b 10 = true → b 11 = true → gb359 ≠ gb360) ∧ (b 10 = true → b 12 = false → w'.heap[gb359]? = some (.cells #[.bool false, .int .i64 0, .int .i64 0] 30 (0, 0))) ∧ (b 10 = true → w.heap.size ≤ gb359) ∧ (b 10 = true → w.heap.size ≤ gb359) ∧ (b 10 = true → gb331 ≠ gb359) ∧ (b 10 = true → gb359 ≠ gb331) ∧ (b 10 = true → gb332 ≠ gb359) ∧ (b 10 = true → gb359 ≠ gb332) ∧ (b 10 = true → gb345 ≠ gb359) ∧ (b 10 = true → gb359 ≠ gb345) ∧ (b 10 = true → gb346 ≠ gb359) ∧ (b 10 = true → gb359 ≠ gb346) ∧ (b 11 = true → b 13 = false → w'.heap[gb360]? = some (.cells #[.bool false, .int .i64 0, .int .i64 0] 30 (0, 0))) ∧ (b 11 = true → w.heap.size ≤ gb360) ∧ (b 11 = true → w.heap.size ≤ gb360) ∧ (b 11 = true → gb331 ≠ gb360) ∧ (b 11 = true → gb360 ≠ gb331) ∧ (b 11 = true → gb332 ≠ gb360) ∧ (b 11 = true → gb360 ≠ gb332) ∧ (b 11 = true → gb345 ≠ gb360) ∧ (b 11 = true → gb360 ≠ gb345) ∧ (b 11 = true → gb346 ≠ gb360) ∧ (b 11 = true → gb360 ≠ gb346) ∧ (b 12 = true → w'.heap[gb359]? = some (.cells #[.bool t353, .int .i64 t354, .int .i64 t355] 30 (0, 0))) ∧ (b 13 = true → w'.heap[gb360]? = some (.cells #[.bool t356, .int .i64 t357, .int .i64 t358] 30 (0, 0))) ∧ (b 10 = true → (m10_ : Value) = .pointer (some ⟨gb359, 0, none⟩)) ∧ (b 11 = true → (m11_ : Value) = .pointer (some ⟨gb360, 0, none⟩))) HT_.out HW_.out (by kernel_rfl) (by kernel_rfl) ?_ ?_ ?_
      · exact ⟨0, 0, .bool false, .bool false, by simp only [putSel, Bool.false_eq_true, if_false], BK331.out, BK332.out, BK345.out, BK346.out, HB.out, fun h_ => absurd h_ (by decide), fun h_ => absurd h_ (by decide), fun h_ => absurd h_ (by decide), fun h_ => absurd h_ (by decide), fun h_ => absurd h_ (by decide), fun h_ => absurd h_ (by decide), fun h_ => absurd h_ (by decide), fun h_ => absurd h_ (by decide), fun h_ => absurd h_ (by decide), fun h_ => absurd h_ (by decide), fun h_ => absurd h_ (by decide), fun h_ => absurd h_ (by decide), fun h_ => absurd h_ (by decide), fun h_ => absurd h_ (by decide), fun h_ => absurd h_ (by decide), fun h_ => absurd h_ (by decide), fun h_ => absurd h_ (by decide), fun h_ => absurd h_ (by decide), fun h_ => absurd h_ (by decide), fun h_ => absurd h_ (by decide), fun h_ => absurd h_ (by decide), fun h_ => absurd h_ (by decide), fun h_ => absurd h_ (by decide), fun h_ => absurd h_ (by decide), fun h_ => absurd h_ (by decide), fun h_ => absurd h_ (by decide), fun h_ => absurd h_ (by decide), fun h_ => absurd h_ (by decide)⟩
      · skip
        clear BK331 BK332 BK345 BK346 HB
        refine steps_cons ?_ ?_
        · rintro b a w' ⟨gb359, gb360, m10_, m11_, ha, Q_BK331, Q_BK332, Q_BK345, Q_BK346, Q_HB, Q_NB360_359, Q_NB359_360, Q_BK359, Q_GW359, Q_GE359, Q_NB331_359, Q_NB359_331, Q_NB332_359, Q_NB359_332, Q_NB345_359, Q_NB359_345, Q_NB346_359, Q_NB359_346, Q_BK360, Q_GW360, Q_GE360, Q_NB331_360, Q_NB360_331, Q_NB332_360, Q_NB360_332, Q_NB345_360, Q_NB360_345, Q_NB346_360, Q_NB360_346, Q_BK359_e12, Q_BK360_e13, Q_X10_, Q_X11_⟩ hb_ hon hoff
          refine ⟨_, rfl, fun K hK => ?_⟩
          have e5 : a.tmps[5]? = some (.pointer (some ⟨gb331, 0, none⟩)) := by rw [ha]; exact (putSel_off rfl).trans rfl
          replace ha := Aside0.mk ha
          have BK331 := Bk.mk Q_BK331
          have BK332 := Bk.mk Q_BK332
          have BK345 := Bk.mk Q_BK345
          have BK346 := Bk.mk Q_BK346
          have HB := Bl.mk Q_HB
          have hc0_ : w'.cell? ⟨gb331, 0, none⟩ = some (.bool a1_0) := (blk_cell BK331.out 0).trans rfl
          have hc1_ : w'.cell? ⟨gb331, 1, none⟩ = some (.int .i64 a1_1) := (blk_cell BK331.out 1).trans rfl
          have hc2_ : w'.cell? ⟨gb331, 2, none⟩ = some (.int .i64 a1_2) := (blk_cell BK331.out 2).trans rfl
          refine value_ (w1 := w') (v := .agg #[.bool a1_0, .int .i64 a1_1, .int .i64 a1_2]) (by rfl) rfl ?_ ?_
          · go_simp
            (try simp only [i64_w])
            try rfl
          refine hK.out _ _ ⟨gb359, gb360, m10_, m11_, (by rw [ha.out]; exact putSel_upk 0 hb_ rfl rfl rfl), Q_BK331, Q_BK332, Q_BK345, Q_BK346, Q_HB, Q_NB360_359, Q_NB359_360, Q_BK359, Q_GW359, Q_GE359, Q_NB331_359, Q_NB359_331, Q_NB332_359, Q_NB359_332, Q_NB345_359, Q_NB359_345, Q_NB346_359, Q_NB359_346, Q_BK360, Q_GW360, Q_GE360, Q_NB331_360, Q_NB360_331, Q_NB332_360, Q_NB360_332, Q_NB345_360, Q_NB360_345, Q_NB346_360, Q_NB360_346, fun h0_ => absurd ((hoff 12 (by kernel_rfl)).symm.trans h0_) (by decide), fun h0_ => absurd ((hoff 13 (by kernel_rfl)).symm.trans h0_) (by decide), Q_X10_, Q_X11_⟩
        refine steps_cons ?_ ?_
        · rintro b a w' ⟨gb359, gb360, m10_, m11_, ha, Q_BK331, Q_BK332, Q_BK345, Q_BK346, Q_HB, Q_NB360_359, Q_NB359_360, Q_BK359, Q_GW359, Q_GE359, Q_NB331_359, Q_NB359_331, Q_NB332_359, Q_NB359_332, Q_NB345_359, Q_NB359_345, Q_NB346_359, Q_NB359_346, Q_BK360, Q_GW360, Q_GE360, Q_NB331_360, Q_NB360_331, Q_NB332_360, Q_NB360_332, Q_NB345_360, Q_NB360_345, Q_NB346_360, Q_NB360_346, Q_BK359_e12, Q_BK360_e13, Q_X10_, Q_X11_⟩ hb_ hon hoff
          refine ⟨_, rfl, fun K hK => ?_⟩
          have e25 : a.tmps[25]? = some (.agg #[.bool a1_0, .int .i64 a1_1, .int .i64 a1_2]) := by rw [ha]; exact putSel_on (e := (1, 25, .agg #[.bool a1_0, .int .i64 a1_1, .int .i64 a1_2])) 0 rfl rfl (hon 1 (by kernel_rfl)) rfl
          replace ha := Aside0.mk ha
          have BK331 := Bk.mk Q_BK331
          have BK332 := Bk.mk Q_BK332
          have BK345 := Bk.mk Q_BK345
          have BK346 := Bk.mk Q_BK346
          have HB := Bl.mk Q_HB
          refine goes_ Try.func18 (by kernel_rfl) rfl #[.agg #[.bool a1_0, .int .i64 a1_1, .int .i64 a1_2]] (by rfl) rfl rfl (by first | (simp only [List.map_toArray, List.map_cons, List.map_nil, Act.eval, Array.getD_eq_getD_getElem?, Option.getD_some, e25]; done) | (simp only [List.map_toArray, List.map_cons, List.map_nil, Act.eval, Array.getD_eq_getD_getElem?, Option.getD_some, e25]; rfl)) ?_
          with_reducible refine (laws_toSpan.calls a1_0 a1_1 a1_2 t333 t334 t335 _ A8.out).mono ?_
          rintro e w79 ⟨rfl, hb⟩
          refine ⟨_, rfl, ?_⟩
          have n0_ := Bk.mk (blk_below (g := gb331) bk hb)
          have n1_ := Bk.mk (blk_below (g := gb332) bk hb)
          have n2_ := Bk.mk (blk_below (g := gb345) bk hb)
          have n3_ := Bk.mk (blk_below (g := gb346) bk hb)
          have n4_ := Bl.mk (below_step bl hb)
          have z_BK359 := fun (h0_ : b 10 = true) (h1_ : b 12 = false) => (show w79.heap[gb359]? = some (.cells #[.bool false, .int .i64 0, .int .i64 0] 30 (0, 0)) from by first | exact (blk_below (g := gb359) (o := .cells #[.bool false, .int .i64 0, .int .i64 0] 30 (0, 0)) (by (with_reducible repeat (first | refine blk_drewN ?_ _ | refine blk_drew ?_ | refine blk_alloc ?_ _)); exact (Q_BK359 h0_ h1_)) hb))
          have z_BK360 := fun (h0_ : b 11 = true) (h1_ : b 13 = false) => (show w79.heap[gb360]? = some (.cells #[.bool false, .int .i64 0, .int .i64 0] 30 (0, 0)) from by first | exact (blk_below (g := gb360) (o := .cells #[.bool false, .int .i64 0, .int .i64 0] 30 (0, 0)) (by (with_reducible repeat (first | refine blk_drewN ?_ _ | refine blk_drew ?_ | refine blk_alloc ?_ _)); exact (Q_BK360 h0_ h1_)) hb))
          clear BK331
          clear BK332
          clear BK345
          clear BK346
          clear HB
          have BK331 := n0_
          have BK332 := n1_
          have BK345 := n2_
          have BK346 := n3_
          have HB := n4_
          clear n0_ n1_ n2_ n3_ n4_
          (try clear hb)
          (try clear hb2)
          (try clear hk)
          (try clear hi)
          refine hK.out _ _ ⟨gb359, gb360, m10_, m11_, (by rw [ha.out]; exact putSel_upk 1 hb_ rfl rfl rfl), bk, bk, bk, bk, bl, Q_NB360_359, Q_NB359_360, z_BK359, Q_GW359, Q_GE359, Q_NB331_359, Q_NB359_331, Q_NB332_359, Q_NB359_332, Q_NB345_359, Q_NB359_345, Q_NB346_359, Q_NB359_346, z_BK360, Q_GW360, Q_GE360, Q_NB331_360, Q_NB360_331, Q_NB332_360, Q_NB360_332, Q_NB345_360, Q_NB360_345, Q_NB346_360, Q_NB360_346, fun h0_ => absurd ((hoff 12 (by kernel_rfl)).symm.trans h0_) (by decide), fun h0_ => absurd ((hoff 13 (by kernel_rfl)).symm.trans h0_) (by decide), Q_X10_, Q_X11_⟩
        refine steps_cons ?_ ?_
        · rintro b a w' ⟨gb359, gb360, m10_, m11_, ha, Q_BK331, Q_BK332, Q_BK345, Q_BK346, Q_HB, Q_NB360_359, Q_NB359_360, Q_BK359, Q_GW359, Q_GE359, Q_NB331_359, Q_NB359_331, Q_NB332_359, Q_NB359_332, Q_NB345_359, Q_NB359_345, Q_NB346_359, Q_NB359_346, Q_BK360, Q_GW360, Q_GE360, Q_NB331_360, Q_NB360_331, Q_NB332_360, Q_NB360_332, Q_NB345_360, Q_NB360_345, Q_NB346_360, Q_NB360_346, Q_BK359_e12, Q_BK360_e13, Q_X10_, Q_X11_⟩ hb_ hon hoff
          refine ⟨_, rfl, fun K hK => ?_⟩
          have e6 : a.tmps[6]? = some (.pointer (some ⟨gb332, 0, none⟩)) := by rw [ha]; exact (putSel_off rfl).trans rfl
          replace ha := Aside0.mk ha
          have BK331 := Bk.mk Q_BK331
          have BK332 := Bk.mk Q_BK332
          have BK345 := Bk.mk Q_BK345
          have BK346 := Bk.mk Q_BK346
          have HB := Bl.mk Q_HB
          have hc0_ : w'.cell? ⟨gb332, 0, none⟩ = some (.bool a2_0) := (blk_cell BK332.out 0).trans rfl
          have hc1_ : w'.cell? ⟨gb332, 1, none⟩ = some (.int .i64 a2_1) := (blk_cell BK332.out 1).trans rfl
          have hc2_ : w'.cell? ⟨gb332, 2, none⟩ = some (.int .i64 a2_2) := (blk_cell BK332.out 2).trans rfl
          refine value_ (w1 := w') (v := .agg #[.bool a2_0, .int .i64 a2_1, .int .i64 a2_2]) (by rfl) rfl ?_ ?_
          · go_simp
            (try simp only [i64_w])
            try rfl
          refine hK.out _ _ ⟨gb359, gb360, m10_, m11_, (by rw [ha.out]; exact putSel_upk 2 hb_ rfl rfl rfl), Q_BK331, Q_BK332, Q_BK345, Q_BK346, Q_HB, Q_NB360_359, Q_NB359_360, Q_BK359, Q_GW359, Q_GE359, Q_NB331_359, Q_NB359_331, Q_NB332_359, Q_NB359_332, Q_NB345_359, Q_NB359_345, Q_NB346_359, Q_NB359_346, Q_BK360, Q_GW360, Q_GE360, Q_NB331_360, Q_NB360_331, Q_NB332_360, Q_NB360_332, Q_NB345_360, Q_NB360_345, Q_NB346_360, Q_NB360_346, fun h0_ => absurd ((hoff 12 (by kernel_rfl)).symm.trans h0_) (by decide), fun h0_ => absurd ((hoff 13 (by kernel_rfl)).symm.trans h0_) (by decide), Q_X10_, Q_X11_⟩
        refine steps_cons ?_ ?_
        · rintro b a w' ⟨gb359, gb360, m10_, m11_, ha, Q_BK331, Q_BK332, Q_BK345, Q_BK346, Q_HB, Q_NB360_359, Q_NB359_360, Q_BK359, Q_GW359, Q_GE359, Q_NB331_359, Q_NB359_331, Q_NB332_359, Q_NB359_332, Q_NB345_359, Q_NB359_345, Q_NB346_359, Q_NB359_346, Q_BK360, Q_GW360, Q_GE360, Q_NB331_360, Q_NB360_331, Q_NB332_360, Q_NB360_332, Q_NB345_360, Q_NB360_345, Q_NB346_360, Q_NB360_346, Q_BK359_e12, Q_BK360_e13, Q_X10_, Q_X11_⟩ hb_ hon hoff
          refine ⟨_, rfl, fun K hK => ?_⟩
          have e27 : a.tmps[27]? = some (.agg #[.bool a2_0, .int .i64 a2_1, .int .i64 a2_2]) := by rw [ha]; exact putSel_on (e := (3, 27, .agg #[.bool a2_0, .int .i64 a2_1, .int .i64 a2_2])) 2 rfl rfl (hon 3 (by kernel_rfl)) rfl
          replace ha := Aside0.mk ha
          have BK331 := Bk.mk Q_BK331
          have BK332 := Bk.mk Q_BK332
          have BK345 := Bk.mk Q_BK345
          have BK346 := Bk.mk Q_BK346
          have HB := Bl.mk Q_HB
          refine goes_ Try.func18 (by kernel_rfl) rfl #[.agg #[.bool a2_0, .int .i64 a2_1, .int .i64 a2_2]] (by rfl) rfl rfl (by first | (simp only [List.map_toArray, List.map_cons, List.map_nil, Act.eval, Array.getD_eq_getD_getElem?, Option.getD_some, e27]; done) | (simp only [List.map_toArray, List.map_cons, List.map_nil, Act.eval, Array.getD_eq_getD_getElem?, Option.getD_some, e27]; rfl)) ?_
          with_reducible refine (laws_toSpan.calls a2_0 a2_1 a2_2 t336 t337 t338 _ A9.out).mono ?_
          rintro e w81 ⟨rfl, hb⟩
          refine ⟨_, rfl, ?_⟩
          have n0_ := Bk.mk (blk_below (g := gb331) bk hb)
          have n1_ := Bk.mk (blk_below (g := gb332) bk hb)
          have n2_ := Bk.mk (blk_below (g := gb345) bk hb)
          have n3_ := Bk.mk (blk_below (g := gb346) bk hb)
          have n4_ := Bl.mk (below_step bl hb)
          have z_BK359 := fun (h0_ : b 10 = true) (h1_ : b 12 = false) => (show w81.heap[gb359]? = some (.cells #[.bool false, .int .i64 0, .int .i64 0] 30 (0, 0)) from by first | exact (blk_below (g := gb359) (o := .cells #[.bool false, .int .i64 0, .int .i64 0] 30 (0, 0)) (by (with_reducible repeat (first | refine blk_drewN ?_ _ | refine blk_drew ?_ | refine blk_alloc ?_ _)); exact (Q_BK359 h0_ h1_)) hb))
          have z_BK360 := fun (h0_ : b 11 = true) (h1_ : b 13 = false) => (show w81.heap[gb360]? = some (.cells #[.bool false, .int .i64 0, .int .i64 0] 30 (0, 0)) from by first | exact (blk_below (g := gb360) (o := .cells #[.bool false, .int .i64 0, .int .i64 0] 30 (0, 0)) (by (with_reducible repeat (first | refine blk_drewN ?_ _ | refine blk_drew ?_ | refine blk_alloc ?_ _)); exact (Q_BK360 h0_ h1_)) hb))
          clear BK331
          clear BK332
          clear BK345
          clear BK346
          clear HB
          have BK331 := n0_
          have BK332 := n1_
          have BK345 := n2_
          have BK346 := n3_
          have HB := n4_
          clear n0_ n1_ n2_ n3_ n4_
          (try clear hb)
          (try clear hb2)
          (try clear hk)
          (try clear hi)
          refine hK.out _ _ ⟨gb359, gb360, m10_, m11_, (by rw [ha.out]; exact putSel_upk 3 hb_ rfl rfl rfl), bk, bk, bk, bk, bl, Q_NB360_359, Q_NB359_360, z_BK359, Q_GW359, Q_GE359, Q_NB331_359, Q_NB359_331, Q_NB332_359, Q_NB359_332, Q_NB345_359, Q_NB359_345, Q_NB346_359, Q_NB359_346, z_BK360, Q_GW360, Q_GE360, Q_NB331_360, Q_NB360_331, Q_NB332_360, Q_NB360_332, Q_NB345_360, Q_NB360_345, Q_NB346_360, Q_NB360_346, fun h0_ => absurd ((hoff 12 (by kernel_rfl)).symm.trans h0_) (by decide), fun h0_ => absurd ((hoff 13 (by kernel_rfl)).symm.trans h0_) (by decide), Q_X10_, Q_X11_⟩
        refine steps_cons ?_ ?_
        · rintro b a w' ⟨gb359, gb360, m10_, m11_, ha, Q_BK331, Q_BK332, Q_BK345, Q_BK346, Q_HB, Q_NB360_359, Q_NB359_360, Q_BK359, Q_GW359, Q_GE359, Q_NB331_359, Q_NB359_331, Q_NB332_359, Q_NB359_332, Q_NB345_359, Q_NB359_345, Q_NB346_359, Q_NB359_346, Q_BK360, Q_GW360, Q_GE360, Q_NB331_360, Q_NB360_331, Q_NB332_360, Q_NB360_332, Q_NB345_360, Q_NB360_345, Q_NB346_360, Q_NB360_346, Q_BK359_e12, Q_BK360_e13, Q_X10_, Q_X11_⟩ hb_ hon hoff
          refine ⟨_, rfl, fun K hK => ?_⟩
          have e24 : a.tmps[24]? = some (.int .i64 a0) := by rw [ha]; exact (putSel_off rfl).trans rfl
          have e26 : a.tmps[26]? = some (.agg #[.bool t333, .int .i64 t334, .int .i64 t335]) := by rw [ha]; exact putSel_on (e := (2, 26, .agg #[.bool t333, .int .i64 t334, .int .i64 t335])) 1 rfl rfl (hon 2 (by kernel_rfl)) rfl
          have e28 : a.tmps[28]? = some (.agg #[.bool t336, .int .i64 t337, .int .i64 t338]) := by rw [ha]; exact putSel_on (e := (4, 28, .agg #[.bool t336, .int .i64 t337, .int .i64 t338])) 3 rfl rfl (hon 4 (by kernel_rfl)) rfl
          have e29 : a.tmps[29]? = some (.bool a3) := by rw [ha]; exact (putSel_off rfl).trans rfl
          replace ha := Aside0.mk ha
          have BK331 := Bk.mk Q_BK331
          have BK332 := Bk.mk Q_BK332
          have BK345 := Bk.mk Q_BK345
          have BK346 := Bk.mk Q_BK346
          have HB := Bl.mk Q_HB
          refine goes_ Try.func19 (by kernel_rfl) rfl #[.int .i64 a0, .agg #[.bool t333, .int .i64 t334, .int .i64 t335], .agg #[.bool t336, .int .i64 t337, .int .i64 t338], .bool a3] (by rfl) rfl rfl (by first | (simp only [List.map_toArray, List.map_cons, List.map_nil, Act.eval, Array.getD_eq_getD_getElem?, Option.getD_some, e24, e26, e28, e29]; done) | (simp only [List.map_toArray, List.map_cons, List.map_nil, Act.eval, Array.getD_eq_getD_getElem?, Option.getD_some, e24, e26, e28, e29]; rfl)) ?_
          with_reducible refine (impl_SpanWhen.calls k a0 t333 t334 t335 t336 t337 t338 a3 t353 t354 t355 t356 t357 t358 _ A10.out).mono ?_
          rintro e w82 ⟨rfl, hb⟩
          refine ⟨_, rfl, ?_⟩
          have n0_ := Bk.mk (blk_below (g := gb331) bk hb)
          have n1_ := Bk.mk (blk_below (g := gb332) bk hb)
          have n2_ := Bk.mk (blk_below (g := gb345) bk hb)
          have n3_ := Bk.mk (blk_below (g := gb346) bk hb)
          have n4_ := Bl.mk (below_step bl hb)
          have z_BK359 := fun (h0_ : b 10 = true) (h1_ : b 12 = false) => (show w82.heap[gb359]? = some (.cells #[.bool false, .int .i64 0, .int .i64 0] 30 (0, 0)) from by first | exact (blk_below (g := gb359) (o := .cells #[.bool false, .int .i64 0, .int .i64 0] 30 (0, 0)) (by (with_reducible repeat (first | refine blk_drewN ?_ _ | refine blk_drew ?_ | refine blk_alloc ?_ _)); exact (Q_BK359 h0_ h1_)) hb))
          have z_BK360 := fun (h0_ : b 11 = true) (h1_ : b 13 = false) => (show w82.heap[gb360]? = some (.cells #[.bool false, .int .i64 0, .int .i64 0] 30 (0, 0)) from by first | exact (blk_below (g := gb360) (o := .cells #[.bool false, .int .i64 0, .int .i64 0] 30 (0, 0)) (by (with_reducible repeat (first | refine blk_drewN ?_ _ | refine blk_drew ?_ | refine blk_alloc ?_ _)); exact (Q_BK360 h0_ h1_)) hb))
          clear BK331
          clear BK332
          clear BK345
          clear BK346
          clear HB
          have BK331 := n0_
          have BK332 := n1_
          have BK345 := n2_
          have BK346 := n3_
          have HB := n4_
          clear n0_ n1_ n2_ n3_ n4_
          (try clear hb)
          (try clear hb2)
          (try clear hk)
          (try clear hi)
          refine hK.out _ _ ⟨gb359, gb360, m10_, m11_, (by rw [ha.out]; exact putSel_upk 4 hb_ rfl rfl rfl), bk, bk, bk, bk, bl, Q_NB360_359, Q_NB359_360, z_BK359, Q_GW359, Q_GE359, Q_NB331_359, Q_NB359_331, Q_NB332_359, Q_NB359_332, Q_NB345_359, Q_NB359_345, Q_NB346_359, Q_NB359_346, z_BK360, Q_GW360, Q_GE360, Q_NB331_360, Q_NB360_331, Q_NB332_360, Q_NB360_332, Q_NB345_360, Q_NB360_345, Q_NB346_360, Q_NB360_346, fun h0_ => absurd ((hoff 12 (by kernel_rfl)).symm.trans h0_) (by decide), fun h0_ => absurd ((hoff 13 (by kernel_rfl)).symm.trans h0_) (by decide), Q_X10_, Q_X11_⟩
        refine steps_cons ?_ ?_
        · rintro b a w' ⟨gb359, gb360, m10_, m11_, ha, Q_BK331, Q_BK332, Q_BK345, Q_BK346, Q_HB, Q_NB360_359, Q_NB359_360, Q_BK359, Q_GW359, Q_GE359, Q_NB331_359, Q_NB359_331, Q_NB332_359, Q_NB359_332, Q_NB345_359, Q_NB359_345, Q_NB346_359, Q_NB359_346, Q_BK360, Q_GW360, Q_GE360, Q_NB331_360, Q_NB360_331, Q_NB332_360, Q_NB360_332, Q_NB345_360, Q_NB360_345, Q_NB346_360, Q_NB360_346, Q_BK359_e12, Q_BK360_e13, Q_X10_, Q_X11_⟩ hb_ hon hoff
          refine ⟨_, rfl, fun K hK => ?_⟩
          have e30 : a.tmps[30]? = some (.tuple #[.agg #[.bool t353, .int .i64 t354, .int .i64 t355], .agg #[.bool t356, .int .i64 t357, .int .i64 t358]]) := by rw [ha]; exact putSel_on (e := (6, 30, .tuple #[.agg #[.bool t353, .int .i64 t354, .int .i64 t355], .agg #[.bool t356, .int .i64 t357, .int .i64 t358]])) 4 rfl rfl (hon 6 (by kernel_rfl)) rfl
          replace ha := Aside0.mk ha
          have BK331 := Bk.mk Q_BK331
          have BK332 := Bk.mk Q_BK332
          have BK345 := Bk.mk Q_BK345
          have BK346 := Bk.mk Q_BK346
          have HB := Bl.mk Q_HB
          refine value_ (w1 := w') (v := .tuple #[.agg #[.bool t353, .int .i64 t354, .int .i64 t355], .agg #[.bool t356, .int .i64 t357, .int .i64 t358]]) (by rfl) rfl ?_ ?_
          · go_simp
            (try simp only [i64_w])
            try rfl
          refine hK.out _ _ ⟨gb359, gb360, m10_, m11_, (by rw [ha.out]; exact putSel_upk 5 hb_ rfl rfl rfl), Q_BK331, Q_BK332, Q_BK345, Q_BK346, Q_HB, Q_NB360_359, Q_NB359_360, Q_BK359, Q_GW359, Q_GE359, Q_NB331_359, Q_NB359_331, Q_NB332_359, Q_NB359_332, Q_NB345_359, Q_NB359_345, Q_NB346_359, Q_NB359_346, Q_BK360, Q_GW360, Q_GE360, Q_NB331_360, Q_NB360_331, Q_NB332_360, Q_NB360_332, Q_NB345_360, Q_NB360_345, Q_NB346_360, Q_NB360_346, fun h0_ => absurd ((hoff 12 (by kernel_rfl)).symm.trans h0_) (by decide), fun h0_ => absurd ((hoff 13 (by kernel_rfl)).symm.trans h0_) (by decide), Q_X10_, Q_X11_⟩
        refine steps_cons ?_ ?_
        · rintro b a w' ⟨gb359, gb360, m10_, m11_, ha, Q_BK331, Q_BK332, Q_BK345, Q_BK346, Q_HB, Q_NB360_359, Q_NB359_360, Q_BK359, Q_GW359, Q_GE359, Q_NB331_359, Q_NB359_331, Q_NB332_359, Q_NB359_332, Q_NB345_359, Q_NB359_345, Q_NB346_359, Q_NB359_346, Q_BK360, Q_GW360, Q_GE360, Q_NB331_360, Q_NB360_331, Q_NB332_360, Q_NB360_332, Q_NB345_360, Q_NB360_345, Q_NB346_360, Q_NB360_346, Q_BK359_e12, Q_BK360_e13, Q_X10_, Q_X11_⟩ hb_ hon hoff
          refine ⟨_, rfl, fun K hK => ?_⟩
          have e23 : a.tmps[23]? = some (.tuple #[.agg #[.bool t353, .int .i64 t354, .int .i64 t355], .agg #[.bool t356, .int .i64 t357, .int .i64 t358]]) := by rw [ha]; exact putSel_on (e := (7, 23, .tuple #[.agg #[.bool t353, .int .i64 t354, .int .i64 t355], .agg #[.bool t356, .int .i64 t357, .int .i64 t358]])) 5 rfl rfl (hon 7 (by kernel_rfl)) rfl
          replace ha := Aside0.mk ha
          have BK331 := Bk.mk Q_BK331
          have BK332 := Bk.mk Q_BK332
          have BK345 := Bk.mk Q_BK345
          have BK346 := Bk.mk Q_BK346
          have HB := Bl.mk Q_HB
          refine value_ (w1 := w') (v := .agg #[.bool t353, .int .i64 t354, .int .i64 t355]) (by rfl) rfl ?_ ?_
          · go_simp
            (try simp only [i64_w])
            try rfl
          refine hK.out _ _ ⟨gb359, gb360, m10_, m11_, (by rw [ha.out]; exact putSel_upk 6 hb_ rfl rfl rfl), Q_BK331, Q_BK332, Q_BK345, Q_BK346, Q_HB, Q_NB360_359, Q_NB359_360, Q_BK359, Q_GW359, Q_GE359, Q_NB331_359, Q_NB359_331, Q_NB332_359, Q_NB359_332, Q_NB345_359, Q_NB359_345, Q_NB346_359, Q_NB359_346, Q_BK360, Q_GW360, Q_GE360, Q_NB331_360, Q_NB360_331, Q_NB332_360, Q_NB360_332, Q_NB345_360, Q_NB360_345, Q_NB346_360, Q_NB360_346, fun h0_ => absurd ((hoff 12 (by kernel_rfl)).symm.trans h0_) (by decide), fun h0_ => absurd ((hoff 13 (by kernel_rfl)).symm.trans h0_) (by decide), Q_X10_, Q_X11_⟩
        refine steps_cons ?_ ?_
        · rintro b a w' ⟨gb359, gb360, m10_, m11_, ha, Q_BK331, Q_BK332, Q_BK345, Q_BK346, Q_HB, Q_NB360_359, Q_NB359_360, Q_BK359, Q_GW359, Q_GE359, Q_NB331_359, Q_NB359_331, Q_NB332_359, Q_NB359_332, Q_NB345_359, Q_NB359_345, Q_NB346_359, Q_NB359_346, Q_BK360, Q_GW360, Q_GE360, Q_NB331_360, Q_NB360_331, Q_NB332_360, Q_NB360_332, Q_NB345_360, Q_NB360_345, Q_NB346_360, Q_NB360_346, Q_BK359_e12, Q_BK360_e13, Q_X10_, Q_X11_⟩ hb_ hon hoff
          refine ⟨_, rfl, fun K hK => ?_⟩
          have e23 : a.tmps[23]? = some (.tuple #[.agg #[.bool t353, .int .i64 t354, .int .i64 t355], .agg #[.bool t356, .int .i64 t357, .int .i64 t358]]) := by rw [ha]; exact putSel_on (e := (7, 23, .tuple #[.agg #[.bool t353, .int .i64 t354, .int .i64 t355], .agg #[.bool t356, .int .i64 t357, .int .i64 t358]])) 5 rfl rfl (hon 7 (by kernel_rfl)) rfl
          replace ha := Aside0.mk ha
          have BK331 := Bk.mk Q_BK331
          have BK332 := Bk.mk Q_BK332
          have BK345 := Bk.mk Q_BK345
          have BK346 := Bk.mk Q_BK346
          have HB := Bl.mk Q_HB
          refine value_ (w1 := w') (v := .agg #[.bool t356, .int .i64 t357, .int .i64 t358]) (by rfl) rfl ?_ ?_
          · go_simp
            (try simp only [i64_w])
            try rfl
          refine hK.out _ _ ⟨gb359, gb360, m10_, m11_, (by rw [ha.out]; exact putSel_upk 7 hb_ rfl rfl rfl), Q_BK331, Q_BK332, Q_BK345, Q_BK346, Q_HB, Q_NB360_359, Q_NB359_360, Q_BK359, Q_GW359, Q_GE359, Q_NB331_359, Q_NB359_331, Q_NB332_359, Q_NB359_332, Q_NB345_359, Q_NB359_345, Q_NB346_359, Q_NB359_346, Q_BK360, Q_GW360, Q_GE360, Q_NB331_360, Q_NB360_331, Q_NB332_360, Q_NB360_332, Q_NB345_360, Q_NB360_345, Q_NB346_360, Q_NB360_346, Q_BK359_e12, fun h0_ => absurd ((hoff 13 (by kernel_rfl)).symm.trans h0_) (by decide), Q_X10_, Q_X11_⟩
        refine steps_cons ?_ ?_
        · rintro b a w' ⟨gb359, gb360, m10_, m11_, ha, Q_BK331, Q_BK332, Q_BK345, Q_BK346, Q_HB, Q_NB360_359, Q_NB359_360, Q_BK359, Q_GW359, Q_GE359, Q_NB331_359, Q_NB359_331, Q_NB332_359, Q_NB359_332, Q_NB345_359, Q_NB359_345, Q_NB346_359, Q_NB359_346, Q_BK360, Q_GW360, Q_GE360, Q_NB331_360, Q_NB360_331, Q_NB332_360, Q_NB360_332, Q_NB345_360, Q_NB360_345, Q_NB346_360, Q_NB360_346, Q_BK359_e12, Q_BK360_e13, Q_X10_, Q_X11_⟩ hb_ hon hoff
          refine ⟨_, rfl, fun K hK => ?_⟩
          replace ha := Aside0.mk ha
          have BK331 := Bk.mk Q_BK331
          have BK332 := Bk.mk Q_BK332
          have BK345 := Bk.mk Q_BK345
          have BK346 := Bk.mk Q_BK346
          have HB := Bl.mk Q_HB
          refine box_step ?hg (N := 11) ?hd (cs := #[.bool false, .int .i64 0, .int .i64 0]) (t := 30) ?hr ?_; (case hd => rfl); (case hg => rfl); (case hr => first | (go_simp; done) | (go_simp; rfl))
          intro gb359 hg w79 hbox hb
          have n0_ := Bk.mk (blk_below (g := gb331) bk hb)
          have n1_ := Bk.mk (blk_below (g := gb332) bk hb)
          have n2_ := Bk.mk (blk_below (g := gb345) bk hb)
          have n3_ := Bk.mk (blk_below (g := gb346) bk hb)
          have n4_ := Bl.mk (below_step bl hb)
          have n5_ := Bk.mk (hbox)
          have n6_ := Aside0.mk ((by rw [hg]; exact (below_size bl) : w.heap.size ≤ gb359))
          have n7_ := Gl.mk ((by rw [hg]; exact (below_size bl) : w.heap.size ≤ gb359))
          have n8_ := Nb.mk ((by rw [hg]; exact Nat.ne_of_lt (blk_lt (g := gb331) bk) : gb331 ≠ gb359))
          have n9_ := Nb.mk ((by rw [hg]; exact Nat.ne_of_gt (blk_lt (g := gb331) bk) : gb359 ≠ gb331))
          have n10_ := Nb.mk ((by rw [hg]; exact Nat.ne_of_lt (blk_lt (g := gb332) bk) : gb332 ≠ gb359))
          have n11_ := Nb.mk ((by rw [hg]; exact Nat.ne_of_gt (blk_lt (g := gb332) bk) : gb359 ≠ gb332))
          have n12_ := Nb.mk ((by rw [hg]; exact Nat.ne_of_lt (blk_lt (g := gb345) bk) : gb345 ≠ gb359))
          have n13_ := Nb.mk ((by rw [hg]; exact Nat.ne_of_gt (blk_lt (g := gb345) bk) : gb359 ≠ gb345))
          have n14_ := Nb.mk ((by rw [hg]; exact Nat.ne_of_lt (blk_lt (g := gb346) bk) : gb346 ≠ gb359))
          have n15_ := Nb.mk ((by rw [hg]; exact Nat.ne_of_gt (blk_lt (g := gb346) bk) : gb359 ≠ gb346))
          have z_NB360_359 := fun (h0_ : up b 10 10 = true) (h1_ : up b 10 11 = true) => (show gb360 ≠ gb359 from ((by rw [hg]; exact Nat.ne_of_lt (blk_lt (g := gb360) (o := .cells #[.bool false, .int .i64 0, .int .i64 0] 30 (0, 0)) (Q_BK360 ((up_ne (by decide)).symm.trans h1_) (hoff 13 (by kernel_rfl)))) : gb360 ≠ gb359)))
          have z_NB359_360 := fun (h0_ : up b 10 10 = true) (h1_ : up b 10 11 = true) => (show gb359 ≠ gb360 from ((by rw [hg]; exact Nat.ne_of_gt (blk_lt (g := gb360) (o := .cells #[.bool false, .int .i64 0, .int .i64 0] 30 (0, 0)) (Q_BK360 ((up_ne (by decide)).symm.trans h1_) (hoff 13 (by kernel_rfl)))) : gb359 ≠ gb360)))
          have z_BK360 := fun (h0_ : b 11 = true) (h1_ : b 13 = false) => (show w79.heap[gb360]? = some (.cells #[.bool false, .int .i64 0, .int .i64 0] 30 (0, 0)) from by first | exact (blk_below (g := gb360) (o := .cells #[.bool false, .int .i64 0, .int .i64 0] 30 (0, 0)) (by (with_reducible repeat (first | refine blk_drewN ?_ _ | refine blk_drew ?_ | refine blk_alloc ?_ _)); exact (Q_BK360 h0_ h1_)) hb))
          clear BK331
          clear BK332
          clear BK345
          clear BK346
          clear HB
          have BK331 := n0_
          have BK332 := n1_
          have BK345 := n2_
          have BK346 := n3_
          have HB := n4_
          have BK359 := n5_
          have GW359 := n6_
          have GE359 := n7_
          have NB331_359 := n8_
          have NB359_331 := n9_
          have NB332_359 := n10_
          have NB359_332 := n11_
          have NB345_359 := n12_
          have NB359_345 := n13_
          have NB346_359 := n14_
          have NB359_346 := n15_
          clear n0_ n1_ n2_ n3_ n4_ n5_ n6_ n7_ n8_ n9_ n10_ n11_ n12_ n13_ n14_ n15_
          clear hb hbox hg
          refine hK.out _ _ ⟨gb359, gb360, (.pointer (some ⟨gb359, 0, none⟩)), m11_, (by rw [ha.out]; exact putSel_upk 8 hb_ rfl rfl rfl), bk, bk, bk, bk, bl, z_NB360_359, z_NB359_360, fun _ _ => bk, fun _ => GW359.out, fun _ => GE359.out, fun _ => NB331_359.out, fun _ => NB359_331.out, fun _ => NB332_359.out, fun _ => NB359_332.out, fun _ => NB345_359.out, fun _ => NB359_345.out, fun _ => NB346_359.out, fun _ => NB359_346.out, z_BK360, Q_GW360, Q_GE360, Q_NB331_360, Q_NB360_331, Q_NB332_360, Q_NB360_332, Q_NB345_360, Q_NB360_345, Q_NB346_360, Q_NB360_346, fun h0_ => absurd ((hoff 12 (by kernel_rfl)).symm.trans h0_) (by decide), fun h0_ => absurd ((hoff 13 (by kernel_rfl)).symm.trans h0_) (by decide), fun _ => rfl, Q_X11_⟩
        refine steps_cons ?_ ?_
        · rintro b a w' ⟨gb359, gb360, m10_, m11_, ha, Q_BK331, Q_BK332, Q_BK345, Q_BK346, Q_HB, Q_NB360_359, Q_NB359_360, Q_BK359, Q_GW359, Q_GE359, Q_NB331_359, Q_NB359_331, Q_NB332_359, Q_NB359_332, Q_NB345_359, Q_NB359_345, Q_NB346_359, Q_NB359_346, Q_BK360, Q_GW360, Q_GE360, Q_NB331_360, Q_NB360_331, Q_NB332_360, Q_NB360_332, Q_NB345_360, Q_NB360_345, Q_NB346_360, Q_NB360_346, Q_BK359_e12, Q_BK360_e13, Q_X10_, Q_X11_⟩ hb_ hon hoff
          refine ⟨_, rfl, fun K hK => ?_⟩
          replace ha := Aside0.mk ha
          have BK331 := Bk.mk Q_BK331
          have BK332 := Bk.mk Q_BK332
          have BK345 := Bk.mk Q_BK345
          have BK346 := Bk.mk Q_BK346
          have HB := Bl.mk Q_HB
          refine box_step ?hg (N := 12) ?hd (cs := #[.bool false, .int .i64 0, .int .i64 0]) (t := 30) ?hr ?_; (case hd => rfl); (case hg => rfl); (case hr => first | (go_simp; done) | (go_simp; rfl))
          intro gb360 hg w79 hbox hb
          have n0_ := Bk.mk (blk_below (g := gb331) bk hb)
          have n1_ := Bk.mk (blk_below (g := gb332) bk hb)
          have n2_ := Bk.mk (blk_below (g := gb345) bk hb)
          have n3_ := Bk.mk (blk_below (g := gb346) bk hb)
          have n4_ := Bl.mk (below_step bl hb)
          have n5_ := Bk.mk (hbox)
          have n6_ := Aside0.mk ((by rw [hg]; exact (below_size bl) : w.heap.size ≤ gb360))
          have n7_ := Gl.mk ((by rw [hg]; exact (below_size bl) : w.heap.size ≤ gb360))
          have n8_ := Nb.mk ((by rw [hg]; exact Nat.ne_of_lt (blk_lt (g := gb331) bk) : gb331 ≠ gb360))
          have n9_ := Nb.mk ((by rw [hg]; exact Nat.ne_of_gt (blk_lt (g := gb331) bk) : gb360 ≠ gb331))
          have n10_ := Nb.mk ((by rw [hg]; exact Nat.ne_of_lt (blk_lt (g := gb332) bk) : gb332 ≠ gb360))
          have n11_ := Nb.mk ((by rw [hg]; exact Nat.ne_of_gt (blk_lt (g := gb332) bk) : gb360 ≠ gb332))
          have n12_ := Nb.mk ((by rw [hg]; exact Nat.ne_of_lt (blk_lt (g := gb345) bk) : gb345 ≠ gb360))
          have n13_ := Nb.mk ((by rw [hg]; exact Nat.ne_of_gt (blk_lt (g := gb345) bk) : gb360 ≠ gb345))
          have n14_ := Nb.mk ((by rw [hg]; exact Nat.ne_of_lt (blk_lt (g := gb346) bk) : gb346 ≠ gb360))
          have n15_ := Nb.mk ((by rw [hg]; exact Nat.ne_of_gt (blk_lt (g := gb346) bk) : gb360 ≠ gb346))
          have z_NB360_359 := fun (h0_ : up b 11 10 = true) (h1_ : up b 11 11 = true) => (show gb360 ≠ gb359 from ((by rw [hg]; exact Nat.ne_of_gt (blk_lt (g := gb359) (o := .cells #[.bool false, .int .i64 0, .int .i64 0] 30 (0, 0)) (Q_BK359 ((up_ne (by decide)).symm.trans h0_) (hoff 12 (by kernel_rfl)))) : gb360 ≠ gb359)))
          have z_NB359_360 := fun (h0_ : up b 11 10 = true) (h1_ : up b 11 11 = true) => (show gb359 ≠ gb360 from ((by rw [hg]; exact Nat.ne_of_lt (blk_lt (g := gb359) (o := .cells #[.bool false, .int .i64 0, .int .i64 0] 30 (0, 0)) (Q_BK359 ((up_ne (by decide)).symm.trans h0_) (hoff 12 (by kernel_rfl)))) : gb359 ≠ gb360)))
          have z_BK359 := fun (h0_ : b 10 = true) (h1_ : b 12 = false) => (show w79.heap[gb359]? = some (.cells #[.bool false, .int .i64 0, .int .i64 0] 30 (0, 0)) from by first | exact (blk_below (g := gb359) (o := .cells #[.bool false, .int .i64 0, .int .i64 0] 30 (0, 0)) (by (with_reducible repeat (first | refine blk_drewN ?_ _ | refine blk_drew ?_ | refine blk_alloc ?_ _)); exact (Q_BK359 h0_ h1_)) hb))
          clear BK331
          clear BK332
          clear BK345
          clear BK346
          clear HB
          have BK331 := n0_
          have BK332 := n1_
          have BK345 := n2_
          have BK346 := n3_
          have HB := n4_
          have BK360 := n5_
          have GW360 := n6_
          have GE360 := n7_
          have NB331_360 := n8_
          have NB360_331 := n9_
          have NB332_360 := n10_
          have NB360_332 := n11_
          have NB345_360 := n12_
          have NB360_345 := n13_
          have NB346_360 := n14_
          have NB360_346 := n15_
          clear n0_ n1_ n2_ n3_ n4_ n5_ n6_ n7_ n8_ n9_ n10_ n11_ n12_ n13_ n14_ n15_
          clear hb hbox hg
          refine hK.out _ _ ⟨gb359, gb360, m10_, (.pointer (some ⟨gb360, 0, none⟩)), (by rw [ha.out]; exact putSel_upk 9 hb_ rfl rfl rfl), bk, bk, bk, bk, bl, z_NB360_359, z_NB359_360, z_BK359, Q_GW359, Q_GE359, Q_NB331_359, Q_NB359_331, Q_NB332_359, Q_NB359_332, Q_NB345_359, Q_NB359_345, Q_NB346_359, Q_NB359_346, fun _ _ => bk, fun _ => GW360.out, fun _ => GE360.out, fun _ => NB331_360.out, fun _ => NB360_331.out, fun _ => NB332_360.out, fun _ => NB360_332.out, fun _ => NB345_360.out, fun _ => NB360_345.out, fun _ => NB346_360.out, fun _ => NB360_346.out, fun h0_ => absurd ((hoff 12 (by kernel_rfl)).symm.trans h0_) (by decide), fun h0_ => absurd ((hoff 13 (by kernel_rfl)).symm.trans h0_) (by decide), Q_X10_, fun _ => rfl⟩
        refine steps_cons ?_ ?_
        · rintro b a w' ⟨gb359, gb360, m10_, m11_, ha, Q_BK331, Q_BK332, Q_BK345, Q_BK346, Q_HB, Q_NB360_359, Q_NB359_360, Q_BK359, Q_GW359, Q_GE359, Q_NB331_359, Q_NB359_331, Q_NB332_359, Q_NB359_332, Q_NB345_359, Q_NB359_345, Q_NB346_359, Q_NB359_346, Q_BK360, Q_GW360, Q_GE360, Q_NB331_360, Q_NB360_331, Q_NB332_360, Q_NB360_332, Q_NB345_360, Q_NB360_345, Q_NB346_360, Q_NB360_346, Q_BK359_e12, Q_BK360_e13, Q_X10_, Q_X11_⟩ hb_ hon hoff
          refine ⟨_, rfl, fun K hK => ?_⟩
          have e11 : a.tmps[11]? = some (m10_) := by rw [ha]; exact putSel_on (e := (10, 11, m10_)) 8 rfl rfl (hon 10 (by kernel_rfl)) rfl
          rw [Q_X10_ (hon 10 (by kernel_rfl))] at e11
          have e31 : a.tmps[31]? = some (.agg #[.bool t353, .int .i64 t354, .int .i64 t355]) := by rw [ha]; exact putSel_on (e := (8, 31, .agg #[.bool t353, .int .i64 t354, .int .i64 t355])) 6 rfl rfl (hon 8 (by kernel_rfl)) rfl
          replace ha := Aside0.mk ha
          have BK331 := Bk.mk Q_BK331
          have BK332 := Bk.mk Q_BK332
          have BK345 := Bk.mk Q_BK345
          have BK346 := Bk.mk Q_BK346
          have HB := Bl.mk Q_HB
          have NB360_359 := Nb.mk (Q_NB360_359 (hon 10 (by kernel_rfl)) (hon 11 (by kernel_rfl)))
          have NB359_360 := Nb.mk (Q_NB359_360 (hon 10 (by kernel_rfl)) (hon 11 (by kernel_rfl)))
          have BK359 := Bk.mk (Q_BK359 (hon 10 (by kernel_rfl)) hb_)
          have GW359 := Aside0.mk (Q_GW359 (hon 10 (by kernel_rfl)))
          have GE359 := Gl.mk (Q_GE359 (hon 10 (by kernel_rfl)))
          have NB331_359 := Nb.mk (Q_NB331_359 (hon 10 (by kernel_rfl)))
          have NB359_331 := Nb.mk (Q_NB359_331 (hon 10 (by kernel_rfl)))
          have NB332_359 := Nb.mk (Q_NB332_359 (hon 10 (by kernel_rfl)))
          have NB359_332 := Nb.mk (Q_NB359_332 (hon 10 (by kernel_rfl)))
          have NB345_359 := Nb.mk (Q_NB345_359 (hon 10 (by kernel_rfl)))
          have NB359_345 := Nb.mk (Q_NB359_345 (hon 10 (by kernel_rfl)))
          have NB346_359 := Nb.mk (Q_NB346_359 (hon 10 (by kernel_rfl)))
          have NB359_346 := Nb.mk (Q_NB359_346 (hon 10 (by kernel_rfl)))
          have BK360 := Bk.mk (Q_BK360 (hon 11 (by kernel_rfl)) (hoff 13 (by kernel_rfl)))
          have GW360 := Aside0.mk (Q_GW360 (hon 11 (by kernel_rfl)))
          have GE360 := Gl.mk (Q_GE360 (hon 11 (by kernel_rfl)))
          have NB331_360 := Nb.mk (Q_NB331_360 (hon 11 (by kernel_rfl)))
          have NB360_331 := Nb.mk (Q_NB360_331 (hon 11 (by kernel_rfl)))
          have NB332_360 := Nb.mk (Q_NB332_360 (hon 11 (by kernel_rfl)))
          have NB360_332 := Nb.mk (Q_NB360_332 (hon 11 (by kernel_rfl)))
          have NB345_360 := Nb.mk (Q_NB345_360 (hon 11 (by kernel_rfl)))
          have NB360_345 := Nb.mk (Q_NB360_345 (hon 11 (by kernel_rfl)))
          have NB346_360 := Nb.mk (Q_NB346_360 (hon 11 (by kernel_rfl)))
          have NB360_346 := Nb.mk (Q_NB360_346 (hon 11 (by kernel_rfl)))
          have hs85 : w'.cell? ⟨gb359, 0, none⟩ = some (.bool false) := (blk_cell BK359.out 0).trans rfl
          have hfs85 := blk_frozen BK359.out 0
          have hns85_0 := NB331_359.out
          have hns85_1 := NB332_359.out
          have hns85_2 := NB345_359.out
          have hns85_3 := NB346_359.out
          have hns85_5 := NB360_359.out
          have hms85_0 := NB359_331.out
          have hms85_1 := NB359_332.out
          have hms85_2 := NB359_345.out
          have hms85_3 := NB359_346.out
          have hms85_5 := NB359_360.out
          have hs86 : w'.cell? ⟨gb359, 1, none⟩ = some (.int .i64 0) := (blk_cell BK359.out 1).trans rfl
          have hfs86 := blk_frozen BK359.out 1
          have hns86_0 := NB331_359.out
          have hns86_1 := NB332_359.out
          have hns86_2 := NB345_359.out
          have hns86_3 := NB346_359.out
          have hns86_5 := NB360_359.out
          have hms86_0 := NB359_331.out
          have hms86_1 := NB359_332.out
          have hms86_2 := NB359_345.out
          have hms86_3 := NB359_346.out
          have hms86_5 := NB359_360.out
          have hs87 : w'.cell? ⟨gb359, 2, none⟩ = some (.int .i64 0) := (blk_cell BK359.out 2).trans rfl
          have hfs87 := blk_frozen BK359.out 2
          have hns87_0 := NB331_359.out
          have hns87_1 := NB332_359.out
          have hns87_2 := NB345_359.out
          have hns87_3 := NB346_359.out
          have hns87_5 := NB360_359.out
          have hms87_0 := NB359_331.out
          have hms87_1 := NB359_332.out
          have hms87_2 := NB359_345.out
          have hms87_3 := NB359_346.out
          have hms87_5 := NB359_360.out
          refine skip_ (w1 := ?_) (by rfl) rfl ?_ ?_
          rotate_left
          · go_simp
            rfl
          refine hK.out _ _ ⟨gb359, gb360, m10_, m11_, (by rw [ha.out]; exact putSel_none (v := undef) rfl), bk, bk, bk, bk, bl, fun _ _ => NB360_359.out, fun _ _ => NB359_360.out, fun _ h1_ => absurd ((up_self b 12).symm.trans h1_) (by decide), fun _ => GW359.out, fun _ => GE359.out, fun _ => NB331_359.out, fun _ => NB359_331.out, fun _ => NB332_359.out, fun _ => NB359_332.out, fun _ => NB345_359.out, fun _ => NB359_345.out, fun _ => NB346_359.out, fun _ => NB359_346.out, fun _ _ => bk, fun _ => GW360.out, fun _ => GE360.out, fun _ => NB331_360.out, fun _ => NB360_331.out, fun _ => NB332_360.out, fun _ => NB360_332.out, fun _ => NB345_360.out, fun _ => NB360_345.out, fun _ => NB346_360.out, fun _ => NB360_346.out, fun _ => bk, fun h0_ => absurd ((hoff 13 (by kernel_rfl)).symm.trans h0_) (by decide), Q_X10_, Q_X11_⟩
        refine steps_cons ?_ ?_
        · rintro b a w' ⟨gb359, gb360, m10_, m11_, ha, Q_BK331, Q_BK332, Q_BK345, Q_BK346, Q_HB, Q_NB360_359, Q_NB359_360, Q_BK359, Q_GW359, Q_GE359, Q_NB331_359, Q_NB359_331, Q_NB332_359, Q_NB359_332, Q_NB345_359, Q_NB359_345, Q_NB346_359, Q_NB359_346, Q_BK360, Q_GW360, Q_GE360, Q_NB331_360, Q_NB360_331, Q_NB332_360, Q_NB360_332, Q_NB345_360, Q_NB360_345, Q_NB346_360, Q_NB360_346, Q_BK359_e12, Q_BK360_e13, Q_X10_, Q_X11_⟩ hb_ hon hoff
          refine ⟨_, rfl, fun K hK => ?_⟩
          have e12 : a.tmps[12]? = some (m11_) := by rw [ha]; exact putSel_on (e := (11, 12, m11_)) 9 rfl rfl (hon 11 (by kernel_rfl)) rfl
          rw [Q_X11_ (hon 11 (by kernel_rfl))] at e12
          have e32 : a.tmps[32]? = some (.agg #[.bool t356, .int .i64 t357, .int .i64 t358]) := by rw [ha]; exact putSel_on (e := (9, 32, .agg #[.bool t356, .int .i64 t357, .int .i64 t358])) 7 rfl rfl (hon 9 (by kernel_rfl)) rfl
          replace ha := Aside0.mk ha
          have BK331 := Bk.mk Q_BK331
          have BK332 := Bk.mk Q_BK332
          have BK345 := Bk.mk Q_BK345
          have BK346 := Bk.mk Q_BK346
          have HB := Bl.mk Q_HB
          have NB360_359 := Nb.mk (Q_NB360_359 (hon 10 (by kernel_rfl)) (hon 11 (by kernel_rfl)))
          have NB359_360 := Nb.mk (Q_NB359_360 (hon 10 (by kernel_rfl)) (hon 11 (by kernel_rfl)))
          have GW359 := Aside0.mk (Q_GW359 (hon 10 (by kernel_rfl)))
          have GE359 := Gl.mk (Q_GE359 (hon 10 (by kernel_rfl)))
          have NB331_359 := Nb.mk (Q_NB331_359 (hon 10 (by kernel_rfl)))
          have NB359_331 := Nb.mk (Q_NB359_331 (hon 10 (by kernel_rfl)))
          have NB332_359 := Nb.mk (Q_NB332_359 (hon 10 (by kernel_rfl)))
          have NB359_332 := Nb.mk (Q_NB359_332 (hon 10 (by kernel_rfl)))
          have NB345_359 := Nb.mk (Q_NB345_359 (hon 10 (by kernel_rfl)))
          have NB359_345 := Nb.mk (Q_NB359_345 (hon 10 (by kernel_rfl)))
          have NB346_359 := Nb.mk (Q_NB346_359 (hon 10 (by kernel_rfl)))
          have NB359_346 := Nb.mk (Q_NB359_346 (hon 10 (by kernel_rfl)))
          have BK360 := Bk.mk (Q_BK360 (hon 11 (by kernel_rfl)) hb_)
          have GW360 := Aside0.mk (Q_GW360 (hon 11 (by kernel_rfl)))
          have GE360 := Gl.mk (Q_GE360 (hon 11 (by kernel_rfl)))
          have NB331_360 := Nb.mk (Q_NB331_360 (hon 11 (by kernel_rfl)))
          have NB360_331 := Nb.mk (Q_NB360_331 (hon 11 (by kernel_rfl)))
          have NB332_360 := Nb.mk (Q_NB332_360 (hon 11 (by kernel_rfl)))
          have NB360_332 := Nb.mk (Q_NB360_332 (hon 11 (by kernel_rfl)))
          have NB345_360 := Nb.mk (Q_NB345_360 (hon 11 (by kernel_rfl)))
          have NB360_345 := Nb.mk (Q_NB360_345 (hon 11 (by kernel_rfl)))
          have NB346_360 := Nb.mk (Q_NB346_360 (hon 11 (by kernel_rfl)))
          have NB360_346 := Nb.mk (Q_NB360_346 (hon 11 (by kernel_rfl)))
          have BK359 := Bk.mk (Q_BK359_e12 (hon 12 (by kernel_rfl)))
          have hs88 : w'.cell? ⟨gb360, 0, none⟩ = some (.bool false) := (blk_cell BK360.out 0).trans rfl
          have hfs88 := blk_frozen BK360.out 0
          have hns88_0 := NB331_360.out
          have hns88_1 := NB332_360.out
          have hns88_2 := NB345_360.out
          have hns88_3 := NB346_360.out
          have hns88_4 := NB359_360.out
          have hms88_0 := NB360_331.out
          have hms88_1 := NB360_332.out
          have hms88_2 := NB360_345.out
          have hms88_3 := NB360_346.out
          have hms88_4 := NB360_359.out
          have hs89 : w'.cell? ⟨gb360, 1, none⟩ = some (.int .i64 0) := (blk_cell BK360.out 1).trans rfl
          have hfs89 := blk_frozen BK360.out 1
          have hns89_0 := NB331_360.out
          have hns89_1 := NB332_360.out
          have hns89_2 := NB345_360.out
          have hns89_3 := NB346_360.out
          have hns89_4 := NB359_360.out
          have hms89_0 := NB360_331.out
          have hms89_1 := NB360_332.out
          have hms89_2 := NB360_345.out
          have hms89_3 := NB360_346.out
          have hms89_4 := NB360_359.out
          have hs90 : w'.cell? ⟨gb360, 2, none⟩ = some (.int .i64 0) := (blk_cell BK360.out 2).trans rfl
          have hfs90 := blk_frozen BK360.out 2
          have hns90_0 := NB331_360.out
          have hns90_1 := NB332_360.out
          have hns90_2 := NB345_360.out
          have hns90_3 := NB346_360.out
          have hns90_4 := NB359_360.out
          have hms90_0 := NB360_331.out
          have hms90_1 := NB360_332.out
          have hms90_2 := NB360_345.out
          have hms90_3 := NB360_346.out
          have hms90_4 := NB360_359.out
          refine skip_ (w1 := ?_) (by rfl) rfl ?_ ?_
          rotate_left
          · go_simp
            rfl
          refine hK.out _ _ ⟨gb359, gb360, m10_, m11_, (by rw [ha.out]; exact putSel_none (v := undef) rfl), bk, bk, bk, bk, bl, fun _ _ => NB360_359.out, fun _ _ => NB359_360.out, fun _ h1_ => absurd ((hon 12 (by kernel_rfl)).symm.trans h1_) (by decide), fun _ => GW359.out, fun _ => GE359.out, fun _ => NB331_359.out, fun _ => NB359_331.out, fun _ => NB332_359.out, fun _ => NB359_332.out, fun _ => NB345_359.out, fun _ => NB359_345.out, fun _ => NB346_359.out, fun _ => NB359_346.out, fun _ h1_ => absurd ((up_self b 13).symm.trans h1_) (by decide), fun _ => GW360.out, fun _ => GE360.out, fun _ => NB331_360.out, fun _ => NB360_331.out, fun _ => NB332_360.out, fun _ => NB360_332.out, fun _ => NB345_360.out, fun _ => NB360_345.out, fun _ => NB346_360.out, fun _ => NB360_346.out, fun _ => bk, fun _ => bk, Q_X10_, Q_X11_⟩
        exact steps_nil
      rintro b a w90 hall ⟨gb359, gb360, m10_, m11_, ha, Q_BK331, Q_BK332, Q_BK345, Q_BK346, Q_HB, Q_NB360_359, Q_NB359_360, Q_BK359, Q_GW359, Q_GE359, Q_NB331_359, Q_NB359_331, Q_NB332_359, Q_NB359_332, Q_NB345_359, Q_NB359_345, Q_NB346_359, Q_NB359_346, Q_BK360, Q_GW360, Q_GE360, Q_NB331_360, Q_NB360_331, Q_NB332_360, Q_NB360_332, Q_NB345_360, Q_NB360_345, Q_NB346_360, Q_NB360_346, Q_BK359_e12, Q_BK360_e13, Q_X10_, Q_X11_⟩
      clear BK331 BK332 BK345 BK346 HB
      have hb1_ := hall 1 (by kernel_rfl)
      have hb2_ := hall 2 (by kernel_rfl)
      have hb3_ := hall 3 (by kernel_rfl)
      have hb4_ := hall 4 (by kernel_rfl)
      have hb6_ := hall 6 (by kernel_rfl)
      have hb7_ := hall 7 (by kernel_rfl)
      have hb8_ := hall 8 (by kernel_rfl)
      have hb9_ := hall 9 (by kernel_rfl)
      have hb10_ := hall 10 (by kernel_rfl)
      have hb11_ := hall 11 (by kernel_rfl)
      have hb12_ := hall 12 (by kernel_rfl)
      have hb13_ := hall 13 (by kernel_rfl)
      subst ha
      obtain rfl := Q_X10_ hb10_
      obtain rfl := Q_X11_ hb11_
      simp only [putSel, hb1_, hb2_, hb3_, hb4_, hb6_, hb7_, hb8_, hb9_, hb10_, hb11_, hb12_, hb13_, if_true, Act.put, List.setIfInBounds_toArray, List.set_cons_zero, List.set_cons_succ]
      have BK331 := Bk.mk Q_BK331
      clear Q_BK331
      have BK332 := Bk.mk Q_BK332
      clear Q_BK332
      have BK345 := Bk.mk Q_BK345
      clear Q_BK345
      have BK346 := Bk.mk Q_BK346
      clear Q_BK346
      have HB := Bl.mk Q_HB
      clear Q_HB
      have NB360_359 := Nb.mk (Q_NB360_359 hb10_ hb11_)
      clear Q_NB360_359
      have NB359_360 := Nb.mk (Q_NB359_360 hb10_ hb11_)
      clear Q_NB359_360
      clear Q_BK359
      have GW359 := Aside0.mk (Q_GW359 hb10_)
      clear Q_GW359
      have GE359 := Gl.mk (Q_GE359 hb10_)
      clear Q_GE359
      have NB331_359 := Nb.mk (Q_NB331_359 hb10_)
      clear Q_NB331_359
      have NB359_331 := Nb.mk (Q_NB359_331 hb10_)
      clear Q_NB359_331
      have NB332_359 := Nb.mk (Q_NB332_359 hb10_)
      clear Q_NB332_359
      have NB359_332 := Nb.mk (Q_NB359_332 hb10_)
      clear Q_NB359_332
      have NB345_359 := Nb.mk (Q_NB345_359 hb10_)
      clear Q_NB345_359
      have NB359_345 := Nb.mk (Q_NB359_345 hb10_)
      clear Q_NB359_345
      have NB346_359 := Nb.mk (Q_NB346_359 hb10_)
      clear Q_NB346_359
      have NB359_346 := Nb.mk (Q_NB359_346 hb10_)
      clear Q_NB359_346
      clear Q_BK360
      have GW360 := Aside0.mk (Q_GW360 hb11_)
      clear Q_GW360
      have GE360 := Gl.mk (Q_GE360 hb11_)
      clear Q_GE360
      have NB331_360 := Nb.mk (Q_NB331_360 hb11_)
      clear Q_NB331_360
      have NB360_331 := Nb.mk (Q_NB360_331 hb11_)
      clear Q_NB360_331
      have NB332_360 := Nb.mk (Q_NB332_360 hb11_)
      clear Q_NB332_360
      have NB360_332 := Nb.mk (Q_NB360_332 hb11_)
      clear Q_NB360_332
      have NB345_360 := Nb.mk (Q_NB345_360 hb11_)
      clear Q_NB345_360
      have NB360_345 := Nb.mk (Q_NB360_345 hb11_)
      clear Q_NB360_345
      have NB346_360 := Nb.mk (Q_NB346_360 hb11_)
      clear Q_NB346_360
      have NB360_346 := Nb.mk (Q_NB360_346 hb11_)
      clear Q_NB360_346
      have BK359 := Bk.mk (Q_BK359_e12 hb12_)
      clear Q_BK359_e12
      have BK360 := Bk.mk (Q_BK360_e13 hb13_)
      clear Q_BK360_e13
      clear hall hb1_ hb2_ hb3_ hb4_ hb6_ hb7_ hb8_ hb9_ hb10_ hb11_ hb12_ hb13_
      have hnb91 := NB359_331.out
      have hnc91 := NB331_359.out
      have hnb92 := NB359_332.out
      have hnc92 := NB332_359.out
      have hnb93 := NB359_345.out
      have hnc93 := NB345_359.out
      have hnb94 := NB359_346.out
      have hnc94 := NB346_359.out
      have hnb95 := NB359_360.out
      have hnc95 := NB360_359.out
      have hcz96_0 := bc0 BK359.out
      have hcz96_1 := bc1 BK359.out
      have hcz96_2 := bc2 BK359.out
      have hfz96_0 := blk_frozen BK359.out 0
      have hfz96_1 := blk_frozen BK359.out 1
      have hfz96_2 := blk_frozen BK359.out 2
      have hnb97 := NB345_331.out
      have hnc97 := NB331_345.out
      have hnb98 := NB345_332.out
      have hnc98 := NB332_345.out
      have hnb99 := NB345_346.out
      have hnc99 := NB346_345.out
      have hnb100 := NB345_360.out
      have hnc100 := NB360_345.out
      have hcz101_0 := bc0 BK345.out
      have hcz101_1 := bc1 BK345.out
      have hcz101_2 := bc2 BK345.out
      have hfz101_0 := blk_frozen BK345.out 0
      have hfz101_1 := blk_frozen BK345.out 1
      have hfz101_2 := blk_frozen BK345.out 2
      try go_wp2_with (first | ((with_reducible refine gate_callee (f := 20) rfl ?_); refine goesL_ (some 35) rfl rfl Try.func20 (by kernel_rfl) rfl #[.agg #[.bool t353, .int .i64 t354, .int .i64 t355], .agg #[.bool t339, .int .i64 t340, .int .i64 t341]] rfl (by (try simp only [List.map_toArray, List.map_cons, List.map_nil]); first | done | rfl | (simp only [List.length_drop, List.length_take]; rfl)) ?_; (with_reducible refine (laws_eqSpan.calls t353 t354 t355 t339 t340 t341 true _ A11.out).mono ?_); rintro e w102 ⟨rfl, hb⟩; refine ⟨_, rfl, ?_⟩; have n0_ := Bk.mk (blk_below (g := gb331) bk hb); have n1_ := Bk.mk (blk_below (g := gb332) bk hb); have n2_ := Bk.mk (blk_below (g := gb345) bk hb); have n3_ := Bk.mk (blk_below (g := gb346) bk hb); have n4_ := Bk.mk (blk_below (g := gb359) bk hb); have n5_ := Bk.mk (blk_below (g := gb360) bk hb); have n6_ := Bl.mk (below_step bl hb); clear BK331; clear BK332; clear BK345; clear BK346; clear BK359; clear BK360; clear HB; have BK331 := n0_; have BK332 := n1_; have BK345 := n2_; have BK346 := n3_; have BK359 := n4_; have BK360 := n5_; have HB := n6_; clear n0_ n1_ n2_ n3_ n4_ n5_ n6_; (try clear hb); (try clear hb2); (try clear hk); (try clear hi); have hnb103 := NB360_331.out; have hnc103 := NB331_360.out; have hnb104 := NB360_332.out; have hnc104 := NB332_360.out; have hnb105 := NB360_346.out; have hnc105 := NB346_360.out; have hcz106_0 := bc0 BK360.out; have hcz106_1 := bc1 BK360.out; have hcz106_2 := bc2 BK360.out; have hfz106_0 := blk_frozen BK360.out 0; have hfz106_1 := blk_frozen BK360.out 1; have hfz106_2 := blk_frozen BK360.out 2; have hnb107 := NB346_331.out; have hnc107 := NB331_346.out; have hnb108 := NB346_332.out; have hnc108 := NB332_346.out; have hcz109_0 := bc0 BK346.out; have hcz109_1 := bc1 BK346.out; have hcz109_2 := bc2 BK346.out; have hfz109_0 := blk_frozen BK346.out 0; have hfz109_1 := blk_frozen BK346.out 1; have hfz109_2 := blk_frozen BK346.out 2) | (go_at_call 20; (with_reducible refine (laws_eqSpan.calls t356 t357 t358 t342 t343 t344 false _ A13.out).mono ?_); rintro e w110 ⟨rfl, hb⟩; have n0_ := Bk.mk (blk_below (g := gb331) bk hb); have n1_ := Bk.mk (blk_below (g := gb332) bk hb); have n2_ := Bk.mk (blk_below (g := gb345) bk hb); have n3_ := Bk.mk (blk_below (g := gb346) bk hb); have n4_ := Bk.mk (blk_below (g := gb359) bk hb); have n5_ := Bk.mk (blk_below (g := gb360) bk hb); have n6_ := Bl.mk (below_step bl hb); clear BK331; clear BK332; clear BK345; clear BK346; clear BK359; clear BK360; clear HB; have BK331 := n0_; have BK332 := n1_; have BK345 := n2_; have BK346 := n3_; have BK359 := n4_; have BK360 := n5_; have HB := n6_; clear n0_ n1_ n2_ n3_ n4_ n5_ n6_; (try clear hb); (try clear hb2); (try clear hk); (try clear hi)))
      go_ret
      exact ⟨by first | rfl | (simp [errW_none, errW_some] <;> rfl) | (simp [*, errW_none, errW_some] <;> rfl), bl⟩
  · replace c12 := Bool.eq_false_iff.mpr c12
    subst c12
    rw [if_neg (show ¬ (false = true) by decide)] at H
    obtain rfl := Option.some.inj H
    go_enter Try.func6, Try.ntmps6
    try go_wp2_with (first | ((with_reducible refine gate_dst (N := 5) rfl ?_); refine box_event ?hg (N := 5) ?hd (cs := #[.bool a1_0, .int .i64 a1_1, .int .i64 a1_2]) (t := 34) ?hr ?_; (case hd => rfl); (case hg => rfl); (case hr => first | (go_simp; done) | (go_simp; rfl)); intro gb331 hg w111 hbox hb; have n0_ := Bl.mk (below_step bl hb); have n1_ := Bk.mk (hbox); have n2_ := Aside0.mk ((by rw [hg]; exact (below_size bl) : w.heap.size ≤ gb331)); have n3_ := Gl.mk ((by rw [hg]; exact (below_size bl) : w.heap.size ≤ gb331)); clear HB; have HB := n0_; have BK331 := n1_; have GW331 := n2_; have GE331 := n3_; clear n0_ n1_ n2_ n3_; clear hb hbox hg) | ((with_reducible refine gate_dst (N := 6) rfl ?_); refine box_event ?hg (N := 6) ?hd (cs := #[.bool a2_0, .int .i64 a2_1, .int .i64 a2_2]) (t := 34) ?hr ?_; (case hd => rfl); (case hg => rfl); (case hr => first | (go_simp; done) | (go_simp; rfl)); intro gb332 hg w112 hbox hb; have n0_ := Bk.mk (blk_below (g := gb331) bk hb); have n1_ := Bl.mk (below_step bl hb); have n2_ := Bk.mk (hbox); have n3_ := Aside0.mk ((by rw [hg]; exact (below_size bl) : w.heap.size ≤ gb332)); have n4_ := Gl.mk ((by rw [hg]; exact (below_size bl) : w.heap.size ≤ gb332)); have n5_ := Nb.mk ((by rw [hg]; exact Nat.ne_of_lt (blk_lt (g := gb331) bk) : gb331 ≠ gb332)); have n6_ := Nb.mk ((by rw [hg]; exact Nat.ne_of_gt (blk_lt (g := gb331) bk) : gb332 ≠ gb331)); clear BK331; clear HB; have BK331 := n0_; have HB := n1_; have BK332 := n2_; have GW332 := n3_; have GE332 := n4_; have NB331_332 := n5_; have NB332_331 := n6_; clear n0_ n1_ n2_ n3_ n4_ n5_ n6_; clear hb hbox hg))
    have n0_ := Bk.mk (blk_drew BK331.out)
    have n1_ := Bk.mk (blk_drew BK332.out)
    have n2_ := Bl.mk (below_drew1 HB.out)
    clear BK331
    clear BK332
    clear HB
    have BK331 := n0_
    have BK332 := n1_
    have HB := n2_
    clear n0_ n1_ n2_
    refine start_ (n := 14) (S := fun w' => True) (ds := []) #[false, false, false, false, false, false, false, false, false, false, false, false, false, false] (by kernel_rfl) rfl rfl trivial (fun hHeld => ?_); refine with_tabW laws_FnExactSpanWhen.tab1 laws_FnExactSpanWhen.bits1 (fun HT_ HW_ => ?_)
    generalize w112.drew = w113 at BK331 BK332 HB hHeld ⊢
    refine pure_ (i := 0) (N := some 14) (v := ?_) (a' := ?_) #[true, false, false, false, false, false, false, false, false, false, false, false, false, false] rfl rfl (any_of HT_.out (by kernel_rfl)) (fun _ _ _ h => h) (Or.inl ⟨by rfl, ?_⟩) ?_ ?_
    rotate_left
    · intro w'
      go_simp
      with_reducible rfl
    rotate_left
    · simp only [Act.put, List.setIfInBounds_toArray, List.set_cons_zero, List.set_cons_succ, i64_w, i32_w]
      rfl
    refine pure_ (i := 5) (N := some 19) (v := ?_) (a' := ?_) #[true, false, false, false, false, true, false, false, false, false, false, false, false, false] rfl rfl (any_of HT_.out (by kernel_rfl)) (fun _ _ _ h => h) (Or.inl ⟨by rfl, ?_⟩) ?_ ?_
    rotate_left
    · intro w'
      go_simp
      with_reducible rfl
    rotate_left
    · simp only [Act.put, List.setIfInBounds_toArray, List.set_cons_zero, List.set_cons_succ, i64_w, i32_w]
      rfl
    refine inv_at [1, 2, 3, 4, 6, 7, 8, 9, 10, 11, 12, 13] (fun a0_ b a w' => ∃ (gb345 : Nat) (gb346 : Nat) (m10_ : Value) (m11_ : Value), a = putSel a0_ b [(1, 15, .agg #[.bool a1_0, .int .i64 a1_1, .int .i64 a1_2]), (2, 16, .agg #[.bool t333, .int .i64 t334, .int .i64 t335]), (3, 17, .agg #[.bool a2_0, .int .i64 a2_1, .int .i64 a2_2]), (4, 18, .agg #[.bool t336, .int .i64 t337, .int .i64 t338]), (6, 20, .tuple #[.agg #[.bool t339, .int .i64 t340, .int .i64 t341], .agg #[.bool t342, .int .i64 t343, .int .i64 t344]]), (7, 13, .tuple #[.agg #[.bool t339, .int .i64 t340, .int .i64 t341], .agg #[.bool t342, .int .i64 t343, .int .i64 t344]]), (8, 21, .agg #[.bool t339, .int .i64 t340, .int .i64 t341]), (9, 22, .agg #[.bool t342, .int .i64 t343, .int .i64 t344]), (10, 9, m10_), (11, 10, m11_)] ∧ (w'.heap[gb331]? = some (.cells #[.bool a1_0, .int .i64 a1_1, .int .i64 a1_2] 34 (0, 0))) ∧ (w'.heap[gb332]? = some (.cells #[.bool a2_0, .int .i64 a2_1, .int .i64 a2_2] 34 (0, 0))) ∧ (Below w.heap.size w w') ∧ (b 10 = true → b 11 = true → gb346 ≠ gb345) ∧ (b 10 = true → b 11 = true → gb345 ≠ gb346) ∧ (b 10 = true → b 12 = false → w'.heap[gb345]? = some (.cells #[.bool false, .int .i64 0, .int .i64 0] 30 (0, 0))) ∧ (b 10 = true → w.heap.size ≤ gb345) ∧ (b 10 = true → w.heap.size ≤ gb345) ∧ (b 10 = true → gb331 ≠ gb345) ∧ (b 10 = true → gb345 ≠ gb331) ∧ (b 10 = true → gb332 ≠ gb345) ∧ (b 10 = true → gb345 ≠ gb332) ∧ (b 11 = true → b 13 = false → w'.heap[gb346]? = some (.cells #[.bool false, .int .i64 0, .int .i64 0] 30 (0, 0))) ∧ (b 11 = true → w.heap.size ≤ gb346) ∧ (b 11 = true → w.heap.size ≤ gb346) ∧ (b 11 = true → gb331 ≠ gb346) ∧ (b 11 = true → gb346 ≠ gb331) ∧ (b 11 = true → gb332 ≠ gb346) ∧ (b 11 = true → gb346 ≠ gb332) ∧ (b 12 = true → w'.heap[gb345]? = some (.cells #[.bool t339, .int .i64 t340, .int .i64 t341] 30 (0, 0))) ∧ (b 13 = true → w'.heap[gb346]? = some (.cells #[.bool t342, .int .i64 t343, .int .i64 t344] 30 (0, 0))) ∧ (b 10 = true → (m10_ : Value) = .pointer (some ⟨gb345, 0, none⟩)) ∧ (b 11 = true → (m11_ : Value) = .pointer (some ⟨gb346, 0, none⟩))) HT_.out HW_.out (by kernel_rfl) (by kernel_rfl) ?_ ?_ ?_
    · exact ⟨0, 0, .bool false, .bool false, by simp only [putSel, Bool.false_eq_true, if_false], BK331.out, BK332.out, HB.out, fun h_ => absurd h_ (by decide), fun h_ => absurd h_ (by decide), fun h_ => absurd h_ (by decide), fun h_ => absurd h_ (by decide), fun h_ => absurd h_ (by decide), fun h_ => absurd h_ (by decide), fun h_ => absurd h_ (by decide), fun h_ => absurd h_ (by decide), fun h_ => absurd h_ (by decide), fun h_ => absurd h_ (by decide), fun h_ => absurd h_ (by decide), fun h_ => absurd h_ (by decide), fun h_ => absurd h_ (by decide), fun h_ => absurd h_ (by decide), fun h_ => absurd h_ (by decide), fun h_ => absurd h_ (by decide), fun h_ => absurd h_ (by decide), fun h_ => absurd h_ (by decide), fun h_ => absurd h_ (by decide), fun h_ => absurd h_ (by decide)⟩
    · skip
      clear BK331 BK332 HB
      refine steps_cons ?_ ?_
      · rintro b a w' ⟨gb345, gb346, m10_, m11_, ha, Q_BK331, Q_BK332, Q_HB, Q_NB346_345, Q_NB345_346, Q_BK345, Q_GW345, Q_GE345, Q_NB331_345, Q_NB345_331, Q_NB332_345, Q_NB345_332, Q_BK346, Q_GW346, Q_GE346, Q_NB331_346, Q_NB346_331, Q_NB332_346, Q_NB346_332, Q_BK345_e12, Q_BK346_e13, Q_X10_, Q_X11_⟩ hb_ hon hoff
        refine ⟨_, rfl, fun K hK => ?_⟩
        have e5 : a.tmps[5]? = some (.pointer (some ⟨gb331, 0, none⟩)) := by rw [ha]; exact (putSel_off rfl).trans rfl
        replace ha := Aside0.mk ha
        have BK331 := Bk.mk Q_BK331
        have BK332 := Bk.mk Q_BK332
        have HB := Bl.mk Q_HB
        have hc0_ : w'.cell? ⟨gb331, 0, none⟩ = some (.bool a1_0) := (blk_cell BK331.out 0).trans rfl
        have hc1_ : w'.cell? ⟨gb331, 1, none⟩ = some (.int .i64 a1_1) := (blk_cell BK331.out 1).trans rfl
        have hc2_ : w'.cell? ⟨gb331, 2, none⟩ = some (.int .i64 a1_2) := (blk_cell BK331.out 2).trans rfl
        refine value_ (w1 := w') (v := .agg #[.bool a1_0, .int .i64 a1_1, .int .i64 a1_2]) (by rfl) rfl ?_ ?_
        · go_simp
          (try simp only [i64_w])
          try rfl
        refine hK.out _ _ ⟨gb345, gb346, m10_, m11_, (by rw [ha.out]; exact putSel_upk 0 hb_ rfl rfl rfl), Q_BK331, Q_BK332, Q_HB, Q_NB346_345, Q_NB345_346, Q_BK345, Q_GW345, Q_GE345, Q_NB331_345, Q_NB345_331, Q_NB332_345, Q_NB345_332, Q_BK346, Q_GW346, Q_GE346, Q_NB331_346, Q_NB346_331, Q_NB332_346, Q_NB346_332, fun h0_ => absurd ((hoff 12 (by kernel_rfl)).symm.trans h0_) (by decide), fun h0_ => absurd ((hoff 13 (by kernel_rfl)).symm.trans h0_) (by decide), Q_X10_, Q_X11_⟩
      refine steps_cons ?_ ?_
      · rintro b a w' ⟨gb345, gb346, m10_, m11_, ha, Q_BK331, Q_BK332, Q_HB, Q_NB346_345, Q_NB345_346, Q_BK345, Q_GW345, Q_GE345, Q_NB331_345, Q_NB345_331, Q_NB332_345, Q_NB345_332, Q_BK346, Q_GW346, Q_GE346, Q_NB331_346, Q_NB346_331, Q_NB332_346, Q_NB346_332, Q_BK345_e12, Q_BK346_e13, Q_X10_, Q_X11_⟩ hb_ hon hoff
        refine ⟨_, rfl, fun K hK => ?_⟩
        have e15 : a.tmps[15]? = some (.agg #[.bool a1_0, .int .i64 a1_1, .int .i64 a1_2]) := by rw [ha]; exact putSel_on (e := (1, 15, .agg #[.bool a1_0, .int .i64 a1_1, .int .i64 a1_2])) 0 rfl rfl (hon 1 (by kernel_rfl)) rfl
        replace ha := Aside0.mk ha
        have BK331 := Bk.mk Q_BK331
        have BK332 := Bk.mk Q_BK332
        have HB := Bl.mk Q_HB
        refine goes_ Try.func18 (by kernel_rfl) rfl #[.agg #[.bool a1_0, .int .i64 a1_1, .int .i64 a1_2]] (by rfl) rfl rfl (by first | (simp only [List.map_toArray, List.map_cons, List.map_nil, Act.eval, Array.getD_eq_getD_getElem?, Option.getD_some, e15]; done) | (simp only [List.map_toArray, List.map_cons, List.map_nil, Act.eval, Array.getD_eq_getD_getElem?, Option.getD_some, e15]; rfl)) ?_
        with_reducible refine (laws_toSpan.calls a1_0 a1_1 a1_2 t333 t334 t335 _ A5.out).mono ?_
        rintro e w114 ⟨rfl, hb⟩
        refine ⟨_, rfl, ?_⟩
        have n0_ := Bk.mk (blk_below (g := gb331) bk hb)
        have n1_ := Bk.mk (blk_below (g := gb332) bk hb)
        have n2_ := Bl.mk (below_step bl hb)
        have z_BK345 := fun (h0_ : b 10 = true) (h1_ : b 12 = false) => (show w114.heap[gb345]? = some (.cells #[.bool false, .int .i64 0, .int .i64 0] 30 (0, 0)) from by first | exact (blk_below (g := gb345) (o := .cells #[.bool false, .int .i64 0, .int .i64 0] 30 (0, 0)) (by (with_reducible repeat (first | refine blk_drewN ?_ _ | refine blk_drew ?_ | refine blk_alloc ?_ _)); exact (Q_BK345 h0_ h1_)) hb))
        have z_BK346 := fun (h0_ : b 11 = true) (h1_ : b 13 = false) => (show w114.heap[gb346]? = some (.cells #[.bool false, .int .i64 0, .int .i64 0] 30 (0, 0)) from by first | exact (blk_below (g := gb346) (o := .cells #[.bool false, .int .i64 0, .int .i64 0] 30 (0, 0)) (by (with_reducible repeat (first | refine blk_drewN ?_ _ | refine blk_drew ?_ | refine blk_alloc ?_ _)); exact (Q_BK346 h0_ h1_)) hb))
        clear BK331
        clear BK332
        clear HB
        have BK331 := n0_
        have BK332 := n1_
        have HB := n2_
        clear n0_ n1_ n2_
        (try clear hb)
        (try clear hb2)
        (try clear hk)
        (try clear hi)
        refine hK.out _ _ ⟨gb345, gb346, m10_, m11_, (by rw [ha.out]; exact putSel_upk 1 hb_ rfl rfl rfl), bk, bk, bl, Q_NB346_345, Q_NB345_346, z_BK345, Q_GW345, Q_GE345, Q_NB331_345, Q_NB345_331, Q_NB332_345, Q_NB345_332, z_BK346, Q_GW346, Q_GE346, Q_NB331_346, Q_NB346_331, Q_NB332_346, Q_NB346_332, fun h0_ => absurd ((hoff 12 (by kernel_rfl)).symm.trans h0_) (by decide), fun h0_ => absurd ((hoff 13 (by kernel_rfl)).symm.trans h0_) (by decide), Q_X10_, Q_X11_⟩
      refine steps_cons ?_ ?_
      · rintro b a w' ⟨gb345, gb346, m10_, m11_, ha, Q_BK331, Q_BK332, Q_HB, Q_NB346_345, Q_NB345_346, Q_BK345, Q_GW345, Q_GE345, Q_NB331_345, Q_NB345_331, Q_NB332_345, Q_NB345_332, Q_BK346, Q_GW346, Q_GE346, Q_NB331_346, Q_NB346_331, Q_NB332_346, Q_NB346_332, Q_BK345_e12, Q_BK346_e13, Q_X10_, Q_X11_⟩ hb_ hon hoff
        refine ⟨_, rfl, fun K hK => ?_⟩
        have e6 : a.tmps[6]? = some (.pointer (some ⟨gb332, 0, none⟩)) := by rw [ha]; exact (putSel_off rfl).trans rfl
        replace ha := Aside0.mk ha
        have BK331 := Bk.mk Q_BK331
        have BK332 := Bk.mk Q_BK332
        have HB := Bl.mk Q_HB
        have hc0_ : w'.cell? ⟨gb332, 0, none⟩ = some (.bool a2_0) := (blk_cell BK332.out 0).trans rfl
        have hc1_ : w'.cell? ⟨gb332, 1, none⟩ = some (.int .i64 a2_1) := (blk_cell BK332.out 1).trans rfl
        have hc2_ : w'.cell? ⟨gb332, 2, none⟩ = some (.int .i64 a2_2) := (blk_cell BK332.out 2).trans rfl
        refine value_ (w1 := w') (v := .agg #[.bool a2_0, .int .i64 a2_1, .int .i64 a2_2]) (by rfl) rfl ?_ ?_
        · go_simp
          (try simp only [i64_w])
          try rfl
        refine hK.out _ _ ⟨gb345, gb346, m10_, m11_, (by rw [ha.out]; exact putSel_upk 2 hb_ rfl rfl rfl), Q_BK331, Q_BK332, Q_HB, Q_NB346_345, Q_NB345_346, Q_BK345, Q_GW345, Q_GE345, Q_NB331_345, Q_NB345_331, Q_NB332_345, Q_NB345_332, Q_BK346, Q_GW346, Q_GE346, Q_NB331_346, Q_NB346_331, Q_NB332_346, Q_NB346_332, fun h0_ => absurd ((hoff 12 (by kernel_rfl)).symm.trans h0_) (by decide), fun h0_ => absurd ((hoff 13 (by kernel_rfl)).symm.trans h0_) (by decide), Q_X10_, Q_X11_⟩
      refine steps_cons ?_ ?_
      · rintro b a w' ⟨gb345, gb346, m10_, m11_, ha, Q_BK331, Q_BK332, Q_HB, Q_NB346_345, Q_NB345_346, Q_BK345, Q_GW345, Q_GE345, Q_NB331_345, Q_NB345_331, Q_NB332_345, Q_NB345_332, Q_BK346, Q_GW346, Q_GE346, Q_NB331_346, Q_NB346_331, Q_NB332_346, Q_NB346_332, Q_BK345_e12, Q_BK346_e13, Q_X10_, Q_X11_⟩ hb_ hon hoff
        refine ⟨_, rfl, fun K hK => ?_⟩
        have e17 : a.tmps[17]? = some (.agg #[.bool a2_0, .int .i64 a2_1, .int .i64 a2_2]) := by rw [ha]; exact putSel_on (e := (3, 17, .agg #[.bool a2_0, .int .i64 a2_1, .int .i64 a2_2])) 2 rfl rfl (hon 3 (by kernel_rfl)) rfl
        replace ha := Aside0.mk ha
        have BK331 := Bk.mk Q_BK331
        have BK332 := Bk.mk Q_BK332
        have HB := Bl.mk Q_HB
        refine goes_ Try.func18 (by kernel_rfl) rfl #[.agg #[.bool a2_0, .int .i64 a2_1, .int .i64 a2_2]] (by rfl) rfl rfl (by first | (simp only [List.map_toArray, List.map_cons, List.map_nil, Act.eval, Array.getD_eq_getD_getElem?, Option.getD_some, e17]; done) | (simp only [List.map_toArray, List.map_cons, List.map_nil, Act.eval, Array.getD_eq_getD_getElem?, Option.getD_some, e17]; rfl)) ?_
        with_reducible refine (laws_toSpan.calls a2_0 a2_1 a2_2 t336 t337 t338 _ A6.out).mono ?_
        rintro e w116 ⟨rfl, hb⟩
        refine ⟨_, rfl, ?_⟩
        have n0_ := Bk.mk (blk_below (g := gb331) bk hb)
        have n1_ := Bk.mk (blk_below (g := gb332) bk hb)
        have n2_ := Bl.mk (below_step bl hb)
        have z_BK345 := fun (h0_ : b 10 = true) (h1_ : b 12 = false) => (show w116.heap[gb345]? = some (.cells #[.bool false, .int .i64 0, .int .i64 0] 30 (0, 0)) from by first | exact (blk_below (g := gb345) (o := .cells #[.bool false, .int .i64 0, .int .i64 0] 30 (0, 0)) (by (with_reducible repeat (first | refine blk_drewN ?_ _ | refine blk_drew ?_ | refine blk_alloc ?_ _)); exact (Q_BK345 h0_ h1_)) hb))
        have z_BK346 := fun (h0_ : b 11 = true) (h1_ : b 13 = false) => (show w116.heap[gb346]? = some (.cells #[.bool false, .int .i64 0, .int .i64 0] 30 (0, 0)) from by first | exact (blk_below (g := gb346) (o := .cells #[.bool false, .int .i64 0, .int .i64 0] 30 (0, 0)) (by (with_reducible repeat (first | refine blk_drewN ?_ _ | refine blk_drew ?_ | refine blk_alloc ?_ _)); exact (Q_BK346 h0_ h1_)) hb))
        clear BK331
        clear BK332
        clear HB
        have BK331 := n0_
        have BK332 := n1_
        have HB := n2_
        clear n0_ n1_ n2_
        (try clear hb)
        (try clear hb2)
        (try clear hk)
        (try clear hi)
        refine hK.out _ _ ⟨gb345, gb346, m10_, m11_, (by rw [ha.out]; exact putSel_upk 3 hb_ rfl rfl rfl), bk, bk, bl, Q_NB346_345, Q_NB345_346, z_BK345, Q_GW345, Q_GE345, Q_NB331_345, Q_NB345_331, Q_NB332_345, Q_NB345_332, z_BK346, Q_GW346, Q_GE346, Q_NB331_346, Q_NB346_331, Q_NB332_346, Q_NB346_332, fun h0_ => absurd ((hoff 12 (by kernel_rfl)).symm.trans h0_) (by decide), fun h0_ => absurd ((hoff 13 (by kernel_rfl)).symm.trans h0_) (by decide), Q_X10_, Q_X11_⟩
      refine steps_cons ?_ ?_
      · rintro b a w' ⟨gb345, gb346, m10_, m11_, ha, Q_BK331, Q_BK332, Q_HB, Q_NB346_345, Q_NB345_346, Q_BK345, Q_GW345, Q_GE345, Q_NB331_345, Q_NB345_331, Q_NB332_345, Q_NB345_332, Q_BK346, Q_GW346, Q_GE346, Q_NB331_346, Q_NB346_331, Q_NB332_346, Q_NB346_332, Q_BK345_e12, Q_BK346_e13, Q_X10_, Q_X11_⟩ hb_ hon hoff
        refine ⟨_, rfl, fun K hK => ?_⟩
        have e14 : a.tmps[14]? = some (.int .i64 a0) := by rw [ha]; exact (putSel_off rfl).trans rfl
        have e16 : a.tmps[16]? = some (.agg #[.bool t333, .int .i64 t334, .int .i64 t335]) := by rw [ha]; exact putSel_on (e := (2, 16, .agg #[.bool t333, .int .i64 t334, .int .i64 t335])) 1 rfl rfl (hon 2 (by kernel_rfl)) rfl
        have e18 : a.tmps[18]? = some (.agg #[.bool t336, .int .i64 t337, .int .i64 t338]) := by rw [ha]; exact putSel_on (e := (4, 18, .agg #[.bool t336, .int .i64 t337, .int .i64 t338])) 3 rfl rfl (hon 4 (by kernel_rfl)) rfl
        have e19 : a.tmps[19]? = some (.bool a3) := by rw [ha]; exact (putSel_off rfl).trans rfl
        replace ha := Aside0.mk ha
        have BK331 := Bk.mk Q_BK331
        have BK332 := Bk.mk Q_BK332
        have HB := Bl.mk Q_HB
        refine goes_ Try.func17 (by kernel_rfl) rfl #[.int .i64 a0, .agg #[.bool t333, .int .i64 t334, .int .i64 t335], .agg #[.bool t336, .int .i64 t337, .int .i64 t338], .bool a3] (by rfl) rfl rfl (by first | (simp only [List.map_toArray, List.map_cons, List.map_nil, Act.eval, Array.getD_eq_getD_getElem?, Option.getD_some, e14, e16, e18, e19]; done) | (simp only [List.map_toArray, List.map_cons, List.map_nil, Act.eval, Array.getD_eq_getD_getElem?, Option.getD_some, e14, e16, e18, e19]; rfl)) ?_
        with_reducible refine (spec_SpanWhen.calls k a0 t333 t334 t335 t336 t337 t338 a3 t339 t340 t341 t342 t343 t344 _ A7.out).mono ?_
        rintro e w117 ⟨rfl, hb⟩
        refine ⟨_, rfl, ?_⟩
        have n0_ := Bk.mk (blk_below (g := gb331) bk hb)
        have n1_ := Bk.mk (blk_below (g := gb332) bk hb)
        have n2_ := Bl.mk (below_step bl hb)
        have z_BK345 := fun (h0_ : b 10 = true) (h1_ : b 12 = false) => (show w117.heap[gb345]? = some (.cells #[.bool false, .int .i64 0, .int .i64 0] 30 (0, 0)) from by first | exact (blk_below (g := gb345) (o := .cells #[.bool false, .int .i64 0, .int .i64 0] 30 (0, 0)) (by (with_reducible repeat (first | refine blk_drewN ?_ _ | refine blk_drew ?_ | refine blk_alloc ?_ _)); exact (Q_BK345 h0_ h1_)) hb))
        have z_BK346 := fun (h0_ : b 11 = true) (h1_ : b 13 = false) => (show w117.heap[gb346]? = some (.cells #[.bool false, .int .i64 0, .int .i64 0] 30 (0, 0)) from by first | exact (blk_below (g := gb346) (o := .cells #[.bool false, .int .i64 0, .int .i64 0] 30 (0, 0)) (by (with_reducible repeat (first | refine blk_drewN ?_ _ | refine blk_drew ?_ | refine blk_alloc ?_ _)); exact (Q_BK346 h0_ h1_)) hb))
        clear BK331
        clear BK332
        clear HB
        have BK331 := n0_
        have BK332 := n1_
        have HB := n2_
        clear n0_ n1_ n2_
        (try clear hb)
        (try clear hb2)
        (try clear hk)
        (try clear hi)
        refine hK.out _ _ ⟨gb345, gb346, m10_, m11_, (by rw [ha.out]; exact putSel_upk 4 hb_ rfl rfl rfl), bk, bk, bl, Q_NB346_345, Q_NB345_346, z_BK345, Q_GW345, Q_GE345, Q_NB331_345, Q_NB345_331, Q_NB332_345, Q_NB345_332, z_BK346, Q_GW346, Q_GE346, Q_NB331_346, Q_NB346_331, Q_NB332_346, Q_NB346_332, fun h0_ => absurd ((hoff 12 (by kernel_rfl)).symm.trans h0_) (by decide), fun h0_ => absurd ((hoff 13 (by kernel_rfl)).symm.trans h0_) (by decide), Q_X10_, Q_X11_⟩
      refine steps_cons ?_ ?_
      · rintro b a w' ⟨gb345, gb346, m10_, m11_, ha, Q_BK331, Q_BK332, Q_HB, Q_NB346_345, Q_NB345_346, Q_BK345, Q_GW345, Q_GE345, Q_NB331_345, Q_NB345_331, Q_NB332_345, Q_NB345_332, Q_BK346, Q_GW346, Q_GE346, Q_NB331_346, Q_NB346_331, Q_NB332_346, Q_NB346_332, Q_BK345_e12, Q_BK346_e13, Q_X10_, Q_X11_⟩ hb_ hon hoff
        refine ⟨_, rfl, fun K hK => ?_⟩
        have e20 : a.tmps[20]? = some (.tuple #[.agg #[.bool t339, .int .i64 t340, .int .i64 t341], .agg #[.bool t342, .int .i64 t343, .int .i64 t344]]) := by rw [ha]; exact putSel_on (e := (6, 20, .tuple #[.agg #[.bool t339, .int .i64 t340, .int .i64 t341], .agg #[.bool t342, .int .i64 t343, .int .i64 t344]])) 4 rfl rfl (hon 6 (by kernel_rfl)) rfl
        replace ha := Aside0.mk ha
        have BK331 := Bk.mk Q_BK331
        have BK332 := Bk.mk Q_BK332
        have HB := Bl.mk Q_HB
        refine value_ (w1 := w') (v := .tuple #[.agg #[.bool t339, .int .i64 t340, .int .i64 t341], .agg #[.bool t342, .int .i64 t343, .int .i64 t344]]) (by rfl) rfl ?_ ?_
        · go_simp
          (try simp only [i64_w])
          try rfl
        refine hK.out _ _ ⟨gb345, gb346, m10_, m11_, (by rw [ha.out]; exact putSel_upk 5 hb_ rfl rfl rfl), Q_BK331, Q_BK332, Q_HB, Q_NB346_345, Q_NB345_346, Q_BK345, Q_GW345, Q_GE345, Q_NB331_345, Q_NB345_331, Q_NB332_345, Q_NB345_332, Q_BK346, Q_GW346, Q_GE346, Q_NB331_346, Q_NB346_331, Q_NB332_346, Q_NB346_332, fun h0_ => absurd ((hoff 12 (by kernel_rfl)).symm.trans h0_) (by decide), fun h0_ => absurd ((hoff 13 (by kernel_rfl)).symm.trans h0_) (by decide), Q_X10_, Q_X11_⟩
      refine steps_cons ?_ ?_
      · rintro b a w' ⟨gb345, gb346, m10_, m11_, ha, Q_BK331, Q_BK332, Q_HB, Q_NB346_345, Q_NB345_346, Q_BK345, Q_GW345, Q_GE345, Q_NB331_345, Q_NB345_331, Q_NB332_345, Q_NB345_332, Q_BK346, Q_GW346, Q_GE346, Q_NB331_346, Q_NB346_331, Q_NB332_346, Q_NB346_332, Q_BK345_e12, Q_BK346_e13, Q_X10_, Q_X11_⟩ hb_ hon hoff
        refine ⟨_, rfl, fun K hK => ?_⟩
        have e13 : a.tmps[13]? = some (.tuple #[.agg #[.bool t339, .int .i64 t340, .int .i64 t341], .agg #[.bool t342, .int .i64 t343, .int .i64 t344]]) := by rw [ha]; exact putSel_on (e := (7, 13, .tuple #[.agg #[.bool t339, .int .i64 t340, .int .i64 t341], .agg #[.bool t342, .int .i64 t343, .int .i64 t344]])) 5 rfl rfl (hon 7 (by kernel_rfl)) rfl
        replace ha := Aside0.mk ha
        have BK331 := Bk.mk Q_BK331
        have BK332 := Bk.mk Q_BK332
        have HB := Bl.mk Q_HB
        refine value_ (w1 := w') (v := .agg #[.bool t339, .int .i64 t340, .int .i64 t341]) (by rfl) rfl ?_ ?_
        · go_simp
          (try simp only [i64_w])
          try rfl
        refine hK.out _ _ ⟨gb345, gb346, m10_, m11_, (by rw [ha.out]; exact putSel_upk 6 hb_ rfl rfl rfl), Q_BK331, Q_BK332, Q_HB, Q_NB346_345, Q_NB345_346, Q_BK345, Q_GW345, Q_GE345, Q_NB331_345, Q_NB345_331, Q_NB332_345, Q_NB345_332, Q_BK346, Q_GW346, Q_GE346, Q_NB331_346, Q_NB346_331, Q_NB332_346, Q_NB346_332, fun h0_ => absurd ((hoff 12 (by kernel_rfl)).symm.trans h0_) (by decide), fun h0_ => absurd ((hoff 13 (by kernel_rfl)).symm.trans h0_) (by decide), Q_X10_, Q_X11_⟩
      refine steps_cons ?_ ?_
      · rintro b a w' ⟨gb345, gb346, m10_, m11_, ha, Q_BK331, Q_BK332, Q_HB, Q_NB346_345, Q_NB345_346, Q_BK345, Q_GW345, Q_GE345, Q_NB331_345, Q_NB345_331, Q_NB332_345, Q_NB345_332, Q_BK346, Q_GW346, Q_GE346, Q_NB331_346, Q_NB346_331, Q_NB332_346, Q_NB346_332, Q_BK345_e12, Q_BK346_e13, Q_X10_, Q_X11_⟩ hb_ hon hoff
        refine ⟨_, rfl, fun K hK => ?_⟩
        have e13 : a.tmps[13]? = some (.tuple #[.agg #[.bool t339, .int .i64 t340, .int .i64 t341], .agg #[.bool t342, .int .i64 t343, .int .i64 t344]]) := by rw [ha]; exact putSel_on (e := (7, 13, .tuple #[.agg #[.bool t339, .int .i64 t340, .int .i64 t341], .agg #[.bool t342, .int .i64 t343, .int .i64 t344]])) 5 rfl rfl (hon 7 (by kernel_rfl)) rfl
        replace ha := Aside0.mk ha
        have BK331 := Bk.mk Q_BK331
        have BK332 := Bk.mk Q_BK332
        have HB := Bl.mk Q_HB
        refine value_ (w1 := w') (v := .agg #[.bool t342, .int .i64 t343, .int .i64 t344]) (by rfl) rfl ?_ ?_
        · go_simp
          (try simp only [i64_w])
          try rfl
        refine hK.out _ _ ⟨gb345, gb346, m10_, m11_, (by rw [ha.out]; exact putSel_upk 7 hb_ rfl rfl rfl), Q_BK331, Q_BK332, Q_HB, Q_NB346_345, Q_NB345_346, Q_BK345, Q_GW345, Q_GE345, Q_NB331_345, Q_NB345_331, Q_NB332_345, Q_NB345_332, Q_BK346, Q_GW346, Q_GE346, Q_NB331_346, Q_NB346_331, Q_NB332_346, Q_NB346_332, Q_BK345_e12, fun h0_ => absurd ((hoff 13 (by kernel_rfl)).symm.trans h0_) (by decide), Q_X10_, Q_X11_⟩
      refine steps_cons ?_ ?_
      · rintro b a w' ⟨gb345, gb346, m10_, m11_, ha, Q_BK331, Q_BK332, Q_HB, Q_NB346_345, Q_NB345_346, Q_BK345, Q_GW345, Q_GE345, Q_NB331_345, Q_NB345_331, Q_NB332_345, Q_NB345_332, Q_BK346, Q_GW346, Q_GE346, Q_NB331_346, Q_NB346_331, Q_NB332_346, Q_NB346_332, Q_BK345_e12, Q_BK346_e13, Q_X10_, Q_X11_⟩ hb_ hon hoff
        refine ⟨_, rfl, fun K hK => ?_⟩
        replace ha := Aside0.mk ha
        have BK331 := Bk.mk Q_BK331
        have BK332 := Bk.mk Q_BK332
        have HB := Bl.mk Q_HB
        refine box_step ?hg (N := 9) ?hd (cs := #[.bool false, .int .i64 0, .int .i64 0]) (t := 30) ?hr ?_; (case hd => rfl); (case hg => rfl); (case hr => first | (go_simp; done) | (go_simp; rfl))
        intro gb345 hg w114 hbox hb
        have n0_ := Bk.mk (blk_below (g := gb331) bk hb)
        have n1_ := Bk.mk (blk_below (g := gb332) bk hb)
        have n2_ := Bl.mk (below_step bl hb)
        have n3_ := Bk.mk (hbox)
        have n4_ := Aside0.mk ((by rw [hg]; exact (below_size bl) : w.heap.size ≤ gb345))
        have n5_ := Gl.mk ((by rw [hg]; exact (below_size bl) : w.heap.size ≤ gb345))
        have n6_ := Nb.mk ((by rw [hg]; exact Nat.ne_of_lt (blk_lt (g := gb331) bk) : gb331 ≠ gb345))
        have n7_ := Nb.mk ((by rw [hg]; exact Nat.ne_of_gt (blk_lt (g := gb331) bk) : gb345 ≠ gb331))
        have n8_ := Nb.mk ((by rw [hg]; exact Nat.ne_of_lt (blk_lt (g := gb332) bk) : gb332 ≠ gb345))
        have n9_ := Nb.mk ((by rw [hg]; exact Nat.ne_of_gt (blk_lt (g := gb332) bk) : gb345 ≠ gb332))
        have z_NB346_345 := fun (h0_ : up b 10 10 = true) (h1_ : up b 10 11 = true) => (show gb346 ≠ gb345 from ((by rw [hg]; exact Nat.ne_of_lt (blk_lt (g := gb346) (o := .cells #[.bool false, .int .i64 0, .int .i64 0] 30 (0, 0)) (Q_BK346 ((up_ne (by decide)).symm.trans h1_) (hoff 13 (by kernel_rfl)))) : gb346 ≠ gb345)))
        have z_NB345_346 := fun (h0_ : up b 10 10 = true) (h1_ : up b 10 11 = true) => (show gb345 ≠ gb346 from ((by rw [hg]; exact Nat.ne_of_gt (blk_lt (g := gb346) (o := .cells #[.bool false, .int .i64 0, .int .i64 0] 30 (0, 0)) (Q_BK346 ((up_ne (by decide)).symm.trans h1_) (hoff 13 (by kernel_rfl)))) : gb345 ≠ gb346)))
        have z_BK346 := fun (h0_ : b 11 = true) (h1_ : b 13 = false) => (show w114.heap[gb346]? = some (.cells #[.bool false, .int .i64 0, .int .i64 0] 30 (0, 0)) from by first | exact (blk_below (g := gb346) (o := .cells #[.bool false, .int .i64 0, .int .i64 0] 30 (0, 0)) (by (with_reducible repeat (first | refine blk_drewN ?_ _ | refine blk_drew ?_ | refine blk_alloc ?_ _)); exact (Q_BK346 h0_ h1_)) hb))
        clear BK331
        clear BK332
        clear HB
        have BK331 := n0_
        have BK332 := n1_
        have HB := n2_
        have BK345 := n3_
        have GW345 := n4_
        have GE345 := n5_
        have NB331_345 := n6_
        have NB345_331 := n7_
        have NB332_345 := n8_
        have NB345_332 := n9_
        clear n0_ n1_ n2_ n3_ n4_ n5_ n6_ n7_ n8_ n9_
        clear hb hbox hg
        refine hK.out _ _ ⟨gb345, gb346, (.pointer (some ⟨gb345, 0, none⟩)), m11_, (by rw [ha.out]; exact putSel_upk 8 hb_ rfl rfl rfl), bk, bk, bl, z_NB346_345, z_NB345_346, fun _ _ => bk, fun _ => GW345.out, fun _ => GE345.out, fun _ => NB331_345.out, fun _ => NB345_331.out, fun _ => NB332_345.out, fun _ => NB345_332.out, z_BK346, Q_GW346, Q_GE346, Q_NB331_346, Q_NB346_331, Q_NB332_346, Q_NB346_332, fun h0_ => absurd ((hoff 12 (by kernel_rfl)).symm.trans h0_) (by decide), fun h0_ => absurd ((hoff 13 (by kernel_rfl)).symm.trans h0_) (by decide), fun _ => rfl, Q_X11_⟩
      refine steps_cons ?_ ?_
      · rintro b a w' ⟨gb345, gb346, m10_, m11_, ha, Q_BK331, Q_BK332, Q_HB, Q_NB346_345, Q_NB345_346, Q_BK345, Q_GW345, Q_GE345, Q_NB331_345, Q_NB345_331, Q_NB332_345, Q_NB345_332, Q_BK346, Q_GW346, Q_GE346, Q_NB331_346, Q_NB346_331, Q_NB332_346, Q_NB346_332, Q_BK345_e12, Q_BK346_e13, Q_X10_, Q_X11_⟩ hb_ hon hoff
        refine ⟨_, rfl, fun K hK => ?_⟩
        replace ha := Aside0.mk ha
        have BK331 := Bk.mk Q_BK331
        have BK332 := Bk.mk Q_BK332
        have HB := Bl.mk Q_HB
        refine box_step ?hg (N := 10) ?hd (cs := #[.bool false, .int .i64 0, .int .i64 0]) (t := 30) ?hr ?_; (case hd => rfl); (case hg => rfl); (case hr => first | (go_simp; done) | (go_simp; rfl))
        intro gb346 hg w114 hbox hb
        have n0_ := Bk.mk (blk_below (g := gb331) bk hb)
        have n1_ := Bk.mk (blk_below (g := gb332) bk hb)
        have n2_ := Bl.mk (below_step bl hb)
        have n3_ := Bk.mk (hbox)
        have n4_ := Aside0.mk ((by rw [hg]; exact (below_size bl) : w.heap.size ≤ gb346))
        have n5_ := Gl.mk ((by rw [hg]; exact (below_size bl) : w.heap.size ≤ gb346))
        have n6_ := Nb.mk ((by rw [hg]; exact Nat.ne_of_lt (blk_lt (g := gb331) bk) : gb331 ≠ gb346))
        have n7_ := Nb.mk ((by rw [hg]; exact Nat.ne_of_gt (blk_lt (g := gb331) bk) : gb346 ≠ gb331))
        have n8_ := Nb.mk ((by rw [hg]; exact Nat.ne_of_lt (blk_lt (g := gb332) bk) : gb332 ≠ gb346))
        have n9_ := Nb.mk ((by rw [hg]; exact Nat.ne_of_gt (blk_lt (g := gb332) bk) : gb346 ≠ gb332))
        have z_NB346_345 := fun (h0_ : up b 11 10 = true) (h1_ : up b 11 11 = true) => (show gb346 ≠ gb345 from ((by rw [hg]; exact Nat.ne_of_gt (blk_lt (g := gb345) (o := .cells #[.bool false, .int .i64 0, .int .i64 0] 30 (0, 0)) (Q_BK345 ((up_ne (by decide)).symm.trans h0_) (hoff 12 (by kernel_rfl)))) : gb346 ≠ gb345)))
        have z_NB345_346 := fun (h0_ : up b 11 10 = true) (h1_ : up b 11 11 = true) => (show gb345 ≠ gb346 from ((by rw [hg]; exact Nat.ne_of_lt (blk_lt (g := gb345) (o := .cells #[.bool false, .int .i64 0, .int .i64 0] 30 (0, 0)) (Q_BK345 ((up_ne (by decide)).symm.trans h0_) (hoff 12 (by kernel_rfl)))) : gb345 ≠ gb346)))
        have z_BK345 := fun (h0_ : b 10 = true) (h1_ : b 12 = false) => (show w114.heap[gb345]? = some (.cells #[.bool false, .int .i64 0, .int .i64 0] 30 (0, 0)) from by first | exact (blk_below (g := gb345) (o := .cells #[.bool false, .int .i64 0, .int .i64 0] 30 (0, 0)) (by (with_reducible repeat (first | refine blk_drewN ?_ _ | refine blk_drew ?_ | refine blk_alloc ?_ _)); exact (Q_BK345 h0_ h1_)) hb))
        clear BK331
        clear BK332
        clear HB
        have BK331 := n0_
        have BK332 := n1_
        have HB := n2_
        have BK346 := n3_
        have GW346 := n4_
        have GE346 := n5_
        have NB331_346 := n6_
        have NB346_331 := n7_
        have NB332_346 := n8_
        have NB346_332 := n9_
        clear n0_ n1_ n2_ n3_ n4_ n5_ n6_ n7_ n8_ n9_
        clear hb hbox hg
        refine hK.out _ _ ⟨gb345, gb346, m10_, (.pointer (some ⟨gb346, 0, none⟩)), (by rw [ha.out]; exact putSel_upk 9 hb_ rfl rfl rfl), bk, bk, bl, z_NB346_345, z_NB345_346, z_BK345, Q_GW345, Q_GE345, Q_NB331_345, Q_NB345_331, Q_NB332_345, Q_NB345_332, fun _ _ => bk, fun _ => GW346.out, fun _ => GE346.out, fun _ => NB331_346.out, fun _ => NB346_331.out, fun _ => NB332_346.out, fun _ => NB346_332.out, fun h0_ => absurd ((hoff 12 (by kernel_rfl)).symm.trans h0_) (by decide), fun h0_ => absurd ((hoff 13 (by kernel_rfl)).symm.trans h0_) (by decide), Q_X10_, fun _ => rfl⟩
      refine steps_cons ?_ ?_
      · rintro b a w' ⟨gb345, gb346, m10_, m11_, ha, Q_BK331, Q_BK332, Q_HB, Q_NB346_345, Q_NB345_346, Q_BK345, Q_GW345, Q_GE345, Q_NB331_345, Q_NB345_331, Q_NB332_345, Q_NB345_332, Q_BK346, Q_GW346, Q_GE346, Q_NB331_346, Q_NB346_331, Q_NB332_346, Q_NB346_332, Q_BK345_e12, Q_BK346_e13, Q_X10_, Q_X11_⟩ hb_ hon hoff
        refine ⟨_, rfl, fun K hK => ?_⟩
        have e9 : a.tmps[9]? = some (m10_) := by rw [ha]; exact putSel_on (e := (10, 9, m10_)) 8 rfl rfl (hon 10 (by kernel_rfl)) rfl
        rw [Q_X10_ (hon 10 (by kernel_rfl))] at e9
        have e21 : a.tmps[21]? = some (.agg #[.bool t339, .int .i64 t340, .int .i64 t341]) := by rw [ha]; exact putSel_on (e := (8, 21, .agg #[.bool t339, .int .i64 t340, .int .i64 t341])) 6 rfl rfl (hon 8 (by kernel_rfl)) rfl
        replace ha := Aside0.mk ha
        have BK331 := Bk.mk Q_BK331
        have BK332 := Bk.mk Q_BK332
        have HB := Bl.mk Q_HB
        have NB346_345 := Nb.mk (Q_NB346_345 (hon 10 (by kernel_rfl)) (hon 11 (by kernel_rfl)))
        have NB345_346 := Nb.mk (Q_NB345_346 (hon 10 (by kernel_rfl)) (hon 11 (by kernel_rfl)))
        have BK345 := Bk.mk (Q_BK345 (hon 10 (by kernel_rfl)) hb_)
        have GW345 := Aside0.mk (Q_GW345 (hon 10 (by kernel_rfl)))
        have GE345 := Gl.mk (Q_GE345 (hon 10 (by kernel_rfl)))
        have NB331_345 := Nb.mk (Q_NB331_345 (hon 10 (by kernel_rfl)))
        have NB345_331 := Nb.mk (Q_NB345_331 (hon 10 (by kernel_rfl)))
        have NB332_345 := Nb.mk (Q_NB332_345 (hon 10 (by kernel_rfl)))
        have NB345_332 := Nb.mk (Q_NB345_332 (hon 10 (by kernel_rfl)))
        have BK346 := Bk.mk (Q_BK346 (hon 11 (by kernel_rfl)) (hoff 13 (by kernel_rfl)))
        have GW346 := Aside0.mk (Q_GW346 (hon 11 (by kernel_rfl)))
        have GE346 := Gl.mk (Q_GE346 (hon 11 (by kernel_rfl)))
        have NB331_346 := Nb.mk (Q_NB331_346 (hon 11 (by kernel_rfl)))
        have NB346_331 := Nb.mk (Q_NB346_331 (hon 11 (by kernel_rfl)))
        have NB332_346 := Nb.mk (Q_NB332_346 (hon 11 (by kernel_rfl)))
        have NB346_332 := Nb.mk (Q_NB346_332 (hon 11 (by kernel_rfl)))
        have hs120 : w'.cell? ⟨gb345, 0, none⟩ = some (.bool false) := (blk_cell BK345.out 0).trans rfl
        have hfs120 := blk_frozen BK345.out 0
        have hns120_0 := NB331_345.out
        have hns120_1 := NB332_345.out
        have hns120_3 := NB346_345.out
        have hms120_0 := NB345_331.out
        have hms120_1 := NB345_332.out
        have hms120_3 := NB345_346.out
        have hs121 : w'.cell? ⟨gb345, 1, none⟩ = some (.int .i64 0) := (blk_cell BK345.out 1).trans rfl
        have hfs121 := blk_frozen BK345.out 1
        have hns121_0 := NB331_345.out
        have hns121_1 := NB332_345.out
        have hns121_3 := NB346_345.out
        have hms121_0 := NB345_331.out
        have hms121_1 := NB345_332.out
        have hms121_3 := NB345_346.out
        have hs122 : w'.cell? ⟨gb345, 2, none⟩ = some (.int .i64 0) := (blk_cell BK345.out 2).trans rfl
        have hfs122 := blk_frozen BK345.out 2
        have hns122_0 := NB331_345.out
        have hns122_1 := NB332_345.out
        have hns122_3 := NB346_345.out
        have hms122_0 := NB345_331.out
        have hms122_1 := NB345_332.out
        have hms122_3 := NB345_346.out
        refine skip_ (w1 := ?_) (by rfl) rfl ?_ ?_
        rotate_left
        · go_simp
          rfl
        refine hK.out _ _ ⟨gb345, gb346, m10_, m11_, (by rw [ha.out]; exact putSel_none (v := undef) rfl), bk, bk, bl, fun _ _ => NB346_345.out, fun _ _ => NB345_346.out, fun _ h1_ => absurd ((up_self b 12).symm.trans h1_) (by decide), fun _ => GW345.out, fun _ => GE345.out, fun _ => NB331_345.out, fun _ => NB345_331.out, fun _ => NB332_345.out, fun _ => NB345_332.out, fun _ _ => bk, fun _ => GW346.out, fun _ => GE346.out, fun _ => NB331_346.out, fun _ => NB346_331.out, fun _ => NB332_346.out, fun _ => NB346_332.out, fun _ => bk, fun h0_ => absurd ((hoff 13 (by kernel_rfl)).symm.trans h0_) (by decide), Q_X10_, Q_X11_⟩
      refine steps_cons ?_ ?_
      · rintro b a w' ⟨gb345, gb346, m10_, m11_, ha, Q_BK331, Q_BK332, Q_HB, Q_NB346_345, Q_NB345_346, Q_BK345, Q_GW345, Q_GE345, Q_NB331_345, Q_NB345_331, Q_NB332_345, Q_NB345_332, Q_BK346, Q_GW346, Q_GE346, Q_NB331_346, Q_NB346_331, Q_NB332_346, Q_NB346_332, Q_BK345_e12, Q_BK346_e13, Q_X10_, Q_X11_⟩ hb_ hon hoff
        refine ⟨_, rfl, fun K hK => ?_⟩
        have e10 : a.tmps[10]? = some (m11_) := by rw [ha]; exact putSel_on (e := (11, 10, m11_)) 9 rfl rfl (hon 11 (by kernel_rfl)) rfl
        rw [Q_X11_ (hon 11 (by kernel_rfl))] at e10
        have e22 : a.tmps[22]? = some (.agg #[.bool t342, .int .i64 t343, .int .i64 t344]) := by rw [ha]; exact putSel_on (e := (9, 22, .agg #[.bool t342, .int .i64 t343, .int .i64 t344])) 7 rfl rfl (hon 9 (by kernel_rfl)) rfl
        replace ha := Aside0.mk ha
        have BK331 := Bk.mk Q_BK331
        have BK332 := Bk.mk Q_BK332
        have HB := Bl.mk Q_HB
        have NB346_345 := Nb.mk (Q_NB346_345 (hon 10 (by kernel_rfl)) (hon 11 (by kernel_rfl)))
        have NB345_346 := Nb.mk (Q_NB345_346 (hon 10 (by kernel_rfl)) (hon 11 (by kernel_rfl)))
        have GW345 := Aside0.mk (Q_GW345 (hon 10 (by kernel_rfl)))
        have GE345 := Gl.mk (Q_GE345 (hon 10 (by kernel_rfl)))
        have NB331_345 := Nb.mk (Q_NB331_345 (hon 10 (by kernel_rfl)))
        have NB345_331 := Nb.mk (Q_NB345_331 (hon 10 (by kernel_rfl)))
        have NB332_345 := Nb.mk (Q_NB332_345 (hon 10 (by kernel_rfl)))
        have NB345_332 := Nb.mk (Q_NB345_332 (hon 10 (by kernel_rfl)))
        have BK346 := Bk.mk (Q_BK346 (hon 11 (by kernel_rfl)) hb_)
        have GW346 := Aside0.mk (Q_GW346 (hon 11 (by kernel_rfl)))
        have GE346 := Gl.mk (Q_GE346 (hon 11 (by kernel_rfl)))
        have NB331_346 := Nb.mk (Q_NB331_346 (hon 11 (by kernel_rfl)))
        have NB346_331 := Nb.mk (Q_NB346_331 (hon 11 (by kernel_rfl)))
        have NB332_346 := Nb.mk (Q_NB332_346 (hon 11 (by kernel_rfl)))
        have NB346_332 := Nb.mk (Q_NB346_332 (hon 11 (by kernel_rfl)))
        have BK345 := Bk.mk (Q_BK345_e12 (hon 12 (by kernel_rfl)))
        have hs123 : w'.cell? ⟨gb346, 0, none⟩ = some (.bool false) := (blk_cell BK346.out 0).trans rfl
        have hfs123 := blk_frozen BK346.out 0
        have hns123_0 := NB331_346.out
        have hns123_1 := NB332_346.out
        have hns123_2 := NB345_346.out
        have hms123_0 := NB346_331.out
        have hms123_1 := NB346_332.out
        have hms123_2 := NB346_345.out
        have hs124 : w'.cell? ⟨gb346, 1, none⟩ = some (.int .i64 0) := (blk_cell BK346.out 1).trans rfl
        have hfs124 := blk_frozen BK346.out 1
        have hns124_0 := NB331_346.out
        have hns124_1 := NB332_346.out
        have hns124_2 := NB345_346.out
        have hms124_0 := NB346_331.out
        have hms124_1 := NB346_332.out
        have hms124_2 := NB346_345.out
        have hs125 : w'.cell? ⟨gb346, 2, none⟩ = some (.int .i64 0) := (blk_cell BK346.out 2).trans rfl
        have hfs125 := blk_frozen BK346.out 2
        have hns125_0 := NB331_346.out
        have hns125_1 := NB332_346.out
        have hns125_2 := NB345_346.out
        have hms125_0 := NB346_331.out
        have hms125_1 := NB346_332.out
        have hms125_2 := NB346_345.out
        refine skip_ (w1 := ?_) (by rfl) rfl ?_ ?_
        rotate_left
        · go_simp
          rfl
        refine hK.out _ _ ⟨gb345, gb346, m10_, m11_, (by rw [ha.out]; exact putSel_none (v := undef) rfl), bk, bk, bl, fun _ _ => NB346_345.out, fun _ _ => NB345_346.out, fun _ h1_ => absurd ((hon 12 (by kernel_rfl)).symm.trans h1_) (by decide), fun _ => GW345.out, fun _ => GE345.out, fun _ => NB331_345.out, fun _ => NB345_331.out, fun _ => NB332_345.out, fun _ => NB345_332.out, fun _ h1_ => absurd ((up_self b 13).symm.trans h1_) (by decide), fun _ => GW346.out, fun _ => GE346.out, fun _ => NB331_346.out, fun _ => NB346_331.out, fun _ => NB332_346.out, fun _ => NB346_332.out, fun _ => bk, fun _ => bk, Q_X10_, Q_X11_⟩
      exact steps_nil
    rintro b a w125 hall ⟨gb345, gb346, m10_, m11_, ha, Q_BK331, Q_BK332, Q_HB, Q_NB346_345, Q_NB345_346, Q_BK345, Q_GW345, Q_GE345, Q_NB331_345, Q_NB345_331, Q_NB332_345, Q_NB345_332, Q_BK346, Q_GW346, Q_GE346, Q_NB331_346, Q_NB346_331, Q_NB332_346, Q_NB346_332, Q_BK345_e12, Q_BK346_e13, Q_X10_, Q_X11_⟩
    clear BK331 BK332 HB
    have hb1_ := hall 1 (by kernel_rfl)
    have hb2_ := hall 2 (by kernel_rfl)
    have hb3_ := hall 3 (by kernel_rfl)
    have hb4_ := hall 4 (by kernel_rfl)
    have hb6_ := hall 6 (by kernel_rfl)
    have hb7_ := hall 7 (by kernel_rfl)
    have hb8_ := hall 8 (by kernel_rfl)
    have hb9_ := hall 9 (by kernel_rfl)
    have hb10_ := hall 10 (by kernel_rfl)
    have hb11_ := hall 11 (by kernel_rfl)
    have hb12_ := hall 12 (by kernel_rfl)
    have hb13_ := hall 13 (by kernel_rfl)
    subst ha
    obtain rfl := Q_X10_ hb10_
    obtain rfl := Q_X11_ hb11_
    simp only [putSel, hb1_, hb2_, hb3_, hb4_, hb6_, hb7_, hb8_, hb9_, hb10_, hb11_, hb12_, hb13_, if_true, Act.put, List.setIfInBounds_toArray, List.set_cons_zero, List.set_cons_succ]
    have BK331 := Bk.mk Q_BK331
    clear Q_BK331
    have BK332 := Bk.mk Q_BK332
    clear Q_BK332
    have HB := Bl.mk Q_HB
    clear Q_HB
    have NB346_345 := Nb.mk (Q_NB346_345 hb10_ hb11_)
    clear Q_NB346_345
    have NB345_346 := Nb.mk (Q_NB345_346 hb10_ hb11_)
    clear Q_NB345_346
    clear Q_BK345
    have GW345 := Aside0.mk (Q_GW345 hb10_)
    clear Q_GW345
    have GE345 := Gl.mk (Q_GE345 hb10_)
    clear Q_GE345
    have NB331_345 := Nb.mk (Q_NB331_345 hb10_)
    clear Q_NB331_345
    have NB345_331 := Nb.mk (Q_NB345_331 hb10_)
    clear Q_NB345_331
    have NB332_345 := Nb.mk (Q_NB332_345 hb10_)
    clear Q_NB332_345
    have NB345_332 := Nb.mk (Q_NB345_332 hb10_)
    clear Q_NB345_332
    clear Q_BK346
    have GW346 := Aside0.mk (Q_GW346 hb11_)
    clear Q_GW346
    have GE346 := Gl.mk (Q_GE346 hb11_)
    clear Q_GE346
    have NB331_346 := Nb.mk (Q_NB331_346 hb11_)
    clear Q_NB331_346
    have NB346_331 := Nb.mk (Q_NB346_331 hb11_)
    clear Q_NB346_331
    have NB332_346 := Nb.mk (Q_NB332_346 hb11_)
    clear Q_NB332_346
    have NB346_332 := Nb.mk (Q_NB346_332 hb11_)
    clear Q_NB346_332
    have BK345 := Bk.mk (Q_BK345_e12 hb12_)
    clear Q_BK345_e12
    have BK346 := Bk.mk (Q_BK346_e13 hb13_)
    clear Q_BK346_e13
    clear hall hb1_ hb2_ hb3_ hb4_ hb6_ hb7_ hb8_ hb9_ hb10_ hb11_ hb12_ hb13_
    try go_wp2
    have n0_ := Bk.mk (blk_drew BK331.out)
    have n1_ := Bk.mk (blk_drew BK332.out)
    have n2_ := Bk.mk (blk_drew BK345.out)
    have n3_ := Bk.mk (blk_drew BK346.out)
    have n4_ := Bl.mk (below_drew1 HB.out)
    clear BK331
    clear BK332
    clear BK345
    clear BK346
    clear HB
    have BK331 := n0_
    have BK332 := n1_
    have BK345 := n2_
    have BK346 := n3_
    have HB := n4_
    clear n0_ n1_ n2_ n3_ n4_
    refine start_ (n := 14) (S := fun w' => True) (ds := []) #[false, false, false, false, false, false, false, false, false, false, false, false, false, false] (by kernel_rfl) rfl rfl trivial (fun hHeld => ?_); refine with_tabW laws_FnExactSpanWhen.tab2 laws_FnExactSpanWhen.bits2 (fun HT_ HW_ => ?_)
    generalize w125.drew = w126 at BK331 BK332 BK345 BK346 HB hHeld ⊢
    refine pure_ (i := 0) (N := some 24) (v := ?_) (a' := ?_) #[true, false, false, false, false, false, false, false, false, false, false, false, false, false] rfl rfl (any_of HT_.out (by kernel_rfl)) (fun _ _ _ h => h) (Or.inl ⟨by rfl, ?_⟩) ?_ ?_
    rotate_left
    · intro w'
      go_simp
      with_reducible rfl
    rotate_left
    · simp only [Act.put, List.setIfInBounds_toArray, List.set_cons_zero, List.set_cons_succ, i64_w, i32_w]
      rfl
    refine pure_ (i := 5) (N := some 29) (v := ?_) (a' := ?_) #[true, false, false, false, false, true, false, false, false, false, false, false, false, false] rfl rfl (any_of HT_.out (by kernel_rfl)) (fun _ _ _ h => h) (Or.inl ⟨by rfl, ?_⟩) ?_ ?_
    rotate_left
    · intro w'
      go_simp
      with_reducible rfl
    rotate_left
    · simp only [Act.put, List.setIfInBounds_toArray, List.set_cons_zero, List.set_cons_succ, i64_w, i32_w]
      rfl
    refine inv_at [1, 2, 3, 4, 6, 7, 8, 9, 10, 11, 12, 13] (fun a0_ b a w' => ∃ (gb359 : Nat) (gb360 : Nat) (m10_ : Value) (m11_ : Value), a = putSel a0_ b [(1, 25, .agg #[.bool a1_0, .int .i64 a1_1, .int .i64 a1_2]), (2, 26, .agg #[.bool t333, .int .i64 t334, .int .i64 t335]), (3, 27, .agg #[.bool a2_0, .int .i64 a2_1, .int .i64 a2_2]), (4, 28, .agg #[.bool t336, .int .i64 t337, .int .i64 t338]), (6, 30, .tuple #[.agg #[.bool t353, .int .i64 t354, .int .i64 t355], .agg #[.bool t356, .int .i64 t357, .int .i64 t358]]), (7, 23, .tuple #[.agg #[.bool t353, .int .i64 t354, .int .i64 t355], .agg #[.bool t356, .int .i64 t357, .int .i64 t358]]), (8, 31, .agg #[.bool t353, .int .i64 t354, .int .i64 t355]), (9, 32, .agg #[.bool t356, .int .i64 t357, .int .i64 t358]), (10, 11, m10_), (11, 12, m11_)] ∧ (w'.heap[gb331]? = some (.cells #[.bool a1_0, .int .i64 a1_1, .int .i64 a1_2] 34 (0, 0))) ∧ (w'.heap[gb332]? = some (.cells #[.bool a2_0, .int .i64 a2_1, .int .i64 a2_2] 34 (0, 0))) ∧ (w'.heap[gb345]? = some (.cells #[.bool t339, .int .i64 t340, .int .i64 t341] 30 (0, 0))) ∧ (w'.heap[gb346]? = some (.cells #[.bool t342, .int .i64 t343, .int .i64 t344] 30 (0, 0))) ∧ (Below w.heap.size w w') ∧ (b 10 = true → b 11 = true → gb360 ≠ gb359) ∧ (b 10 = true → b 11 = true → gb359 ≠ gb360) ∧ (b 10 = true → b 12 = false → w'.heap[gb359]? = some (.cells #[.bool false, .int .i64 0, .int .i64 0] 30 (0, 0))) ∧ (b 10 = true → w.heap.size ≤ gb359) ∧ (b 10 = true → w.heap.size ≤ gb359) ∧ (b 10 = true → gb331 ≠ gb359) ∧ (b 10 = true → gb359 ≠ gb331) ∧ (b 10 = true → gb332 ≠ gb359) ∧ (b 10 = true → gb359 ≠ gb332) ∧ (b 10 = true → gb345 ≠ gb359) ∧ (b 10 = true → gb359 ≠ gb345) ∧ (b 10 = true → gb346 ≠ gb359) ∧ (b 10 = true → gb359 ≠ gb346) ∧ (b 11 = true → b 13 = false → w'.heap[gb360]? = some (.cells #[.bool false, .int .i64 0, .int .i64 0] 30 (0, 0))) ∧ (b 11 = true → w.heap.size ≤ gb360) ∧ (b 11 = true → w.heap.size ≤ gb360) ∧ (b 11 = true → gb331 ≠ gb360) ∧ (b 11 = true → gb360 ≠ gb331) ∧ (b 11 = true → gb332 ≠ gb360) ∧ (b 11 = true → gb360 ≠ gb332) ∧ (b 11 = true → gb345 ≠ gb360) ∧ (b 11 = true → gb360 ≠ gb345) ∧ (b 11 = true → gb346 ≠ gb360) ∧ (b 11 = true → gb360 ≠ gb346) ∧ (b 12 = true → w'.heap[gb359]? = some (.cells #[.bool t353, .int .i64 t354, .int .i64 t355] 30 (0, 0))) ∧ (b 13 = true → w'.heap[gb360]? = some (.cells #[.bool t356, .int .i64 t357, .int .i64 t358] 30 (0, 0))) ∧ (b 10 = true → (m10_ : Value) = .pointer (some ⟨gb359, 0, none⟩)) ∧ (b 11 = true → (m11_ : Value) = .pointer (some ⟨gb360, 0, none⟩))) HT_.out HW_.out (by kernel_rfl) (by kernel_rfl) ?_ ?_ ?_
    · exact ⟨0, 0, .bool false, .bool false, by simp only [putSel, Bool.false_eq_true, if_false], BK331.out, BK332.out, BK345.out, BK346.out, HB.out, fun h_ => absurd h_ (by decide), fun h_ => absurd h_ (by decide), fun h_ => absurd h_ (by decide), fun h_ => absurd h_ (by decide), fun h_ => absurd h_ (by decide), fun h_ => absurd h_ (by decide), fun h_ => absurd h_ (by decide), fun h_ => absurd h_ (by decide), fun h_ => absurd h_ (by decide), fun h_ => absurd h_ (by decide), fun h_ => absurd h_ (by decide), fun h_ => absurd h_ (by decide), fun h_ => absurd h_ (by decide), fun h_ => absurd h_ (by decide), fun h_ => absurd h_ (by decide), fun h_ => absurd h_ (by decide), fun h_ => absurd h_ (by decide), fun h_ => absurd h_ (by decide), fun h_ => absurd h_ (by decide), fun h_ => absurd h_ (by decide), fun h_ => absurd h_ (by decide), fun h_ => absurd h_ (by decide), fun h_ => absurd h_ (by decide), fun h_ => absurd h_ (by decide), fun h_ => absurd h_ (by decide), fun h_ => absurd h_ (by decide), fun h_ => absurd h_ (by decide), fun h_ => absurd h_ (by decide)⟩
    · skip
      clear BK331 BK332 BK345 BK346 HB
      refine steps_cons ?_ ?_
      · rintro b a w' ⟨gb359, gb360, m10_, m11_, ha, Q_BK331, Q_BK332, Q_BK345, Q_BK346, Q_HB, Q_NB360_359, Q_NB359_360, Q_BK359, Q_GW359, Q_GE359, Q_NB331_359, Q_NB359_331, Q_NB332_359, Q_NB359_332, Q_NB345_359, Q_NB359_345, Q_NB346_359, Q_NB359_346, Q_BK360, Q_GW360, Q_GE360, Q_NB331_360, Q_NB360_331, Q_NB332_360, Q_NB360_332, Q_NB345_360, Q_NB360_345, Q_NB346_360, Q_NB360_346, Q_BK359_e12, Q_BK360_e13, Q_X10_, Q_X11_⟩ hb_ hon hoff
        refine ⟨_, rfl, fun K hK => ?_⟩
        have e5 : a.tmps[5]? = some (.pointer (some ⟨gb331, 0, none⟩)) := by rw [ha]; exact (putSel_off rfl).trans rfl
        replace ha := Aside0.mk ha
        have BK331 := Bk.mk Q_BK331
        have BK332 := Bk.mk Q_BK332
        have BK345 := Bk.mk Q_BK345
        have BK346 := Bk.mk Q_BK346
        have HB := Bl.mk Q_HB
        have hc0_ : w'.cell? ⟨gb331, 0, none⟩ = some (.bool a1_0) := (blk_cell BK331.out 0).trans rfl
        have hc1_ : w'.cell? ⟨gb331, 1, none⟩ = some (.int .i64 a1_1) := (blk_cell BK331.out 1).trans rfl
        have hc2_ : w'.cell? ⟨gb331, 2, none⟩ = some (.int .i64 a1_2) := (blk_cell BK331.out 2).trans rfl
        refine value_ (w1 := w') (v := .agg #[.bool a1_0, .int .i64 a1_1, .int .i64 a1_2]) (by rfl) rfl ?_ ?_
        · go_simp
          (try simp only [i64_w])
          try rfl
        refine hK.out _ _ ⟨gb359, gb360, m10_, m11_, (by rw [ha.out]; exact putSel_upk 0 hb_ rfl rfl rfl), Q_BK331, Q_BK332, Q_BK345, Q_BK346, Q_HB, Q_NB360_359, Q_NB359_360, Q_BK359, Q_GW359, Q_GE359, Q_NB331_359, Q_NB359_331, Q_NB332_359, Q_NB359_332, Q_NB345_359, Q_NB359_345, Q_NB346_359, Q_NB359_346, Q_BK360, Q_GW360, Q_GE360, Q_NB331_360, Q_NB360_331, Q_NB332_360, Q_NB360_332, Q_NB345_360, Q_NB360_345, Q_NB346_360, Q_NB360_346, fun h0_ => absurd ((hoff 12 (by kernel_rfl)).symm.trans h0_) (by decide), fun h0_ => absurd ((hoff 13 (by kernel_rfl)).symm.trans h0_) (by decide), Q_X10_, Q_X11_⟩
      refine steps_cons ?_ ?_
      · rintro b a w' ⟨gb359, gb360, m10_, m11_, ha, Q_BK331, Q_BK332, Q_BK345, Q_BK346, Q_HB, Q_NB360_359, Q_NB359_360, Q_BK359, Q_GW359, Q_GE359, Q_NB331_359, Q_NB359_331, Q_NB332_359, Q_NB359_332, Q_NB345_359, Q_NB359_345, Q_NB346_359, Q_NB359_346, Q_BK360, Q_GW360, Q_GE360, Q_NB331_360, Q_NB360_331, Q_NB332_360, Q_NB360_332, Q_NB345_360, Q_NB360_345, Q_NB346_360, Q_NB360_346, Q_BK359_e12, Q_BK360_e13, Q_X10_, Q_X11_⟩ hb_ hon hoff
        refine ⟨_, rfl, fun K hK => ?_⟩
        have e25 : a.tmps[25]? = some (.agg #[.bool a1_0, .int .i64 a1_1, .int .i64 a1_2]) := by rw [ha]; exact putSel_on (e := (1, 25, .agg #[.bool a1_0, .int .i64 a1_1, .int .i64 a1_2])) 0 rfl rfl (hon 1 (by kernel_rfl)) rfl
        replace ha := Aside0.mk ha
        have BK331 := Bk.mk Q_BK331
        have BK332 := Bk.mk Q_BK332
        have BK345 := Bk.mk Q_BK345
        have BK346 := Bk.mk Q_BK346
        have HB := Bl.mk Q_HB
        refine goes_ Try.func18 (by kernel_rfl) rfl #[.agg #[.bool a1_0, .int .i64 a1_1, .int .i64 a1_2]] (by rfl) rfl rfl (by first | (simp only [List.map_toArray, List.map_cons, List.map_nil, Act.eval, Array.getD_eq_getD_getElem?, Option.getD_some, e25]; done) | (simp only [List.map_toArray, List.map_cons, List.map_nil, Act.eval, Array.getD_eq_getD_getElem?, Option.getD_some, e25]; rfl)) ?_
        with_reducible refine (laws_toSpan.calls a1_0 a1_1 a1_2 t333 t334 t335 _ A8.out).mono ?_
        rintro e w127 ⟨rfl, hb⟩
        refine ⟨_, rfl, ?_⟩
        have n0_ := Bk.mk (blk_below (g := gb331) bk hb)
        have n1_ := Bk.mk (blk_below (g := gb332) bk hb)
        have n2_ := Bk.mk (blk_below (g := gb345) bk hb)
        have n3_ := Bk.mk (blk_below (g := gb346) bk hb)
        have n4_ := Bl.mk (below_step bl hb)
        have z_BK359 := fun (h0_ : b 10 = true) (h1_ : b 12 = false) => (show w127.heap[gb359]? = some (.cells #[.bool false, .int .i64 0, .int .i64 0] 30 (0, 0)) from by first | exact (blk_below (g := gb359) (o := .cells #[.bool false, .int .i64 0, .int .i64 0] 30 (0, 0)) (by (with_reducible repeat (first | refine blk_drewN ?_ _ | refine blk_drew ?_ | refine blk_alloc ?_ _)); exact (Q_BK359 h0_ h1_)) hb))
        have z_BK360 := fun (h0_ : b 11 = true) (h1_ : b 13 = false) => (show w127.heap[gb360]? = some (.cells #[.bool false, .int .i64 0, .int .i64 0] 30 (0, 0)) from by first | exact (blk_below (g := gb360) (o := .cells #[.bool false, .int .i64 0, .int .i64 0] 30 (0, 0)) (by (with_reducible repeat (first | refine blk_drewN ?_ _ | refine blk_drew ?_ | refine blk_alloc ?_ _)); exact (Q_BK360 h0_ h1_)) hb))
        clear BK331
        clear BK332
        clear BK345
        clear BK346
        clear HB
        have BK331 := n0_
        have BK332 := n1_
        have BK345 := n2_
        have BK346 := n3_
        have HB := n4_
        clear n0_ n1_ n2_ n3_ n4_
        (try clear hb)
        (try clear hb2)
        (try clear hk)
        (try clear hi)
        refine hK.out _ _ ⟨gb359, gb360, m10_, m11_, (by rw [ha.out]; exact putSel_upk 1 hb_ rfl rfl rfl), bk, bk, bk, bk, bl, Q_NB360_359, Q_NB359_360, z_BK359, Q_GW359, Q_GE359, Q_NB331_359, Q_NB359_331, Q_NB332_359, Q_NB359_332, Q_NB345_359, Q_NB359_345, Q_NB346_359, Q_NB359_346, z_BK360, Q_GW360, Q_GE360, Q_NB331_360, Q_NB360_331, Q_NB332_360, Q_NB360_332, Q_NB345_360, Q_NB360_345, Q_NB346_360, Q_NB360_346, fun h0_ => absurd ((hoff 12 (by kernel_rfl)).symm.trans h0_) (by decide), fun h0_ => absurd ((hoff 13 (by kernel_rfl)).symm.trans h0_) (by decide), Q_X10_, Q_X11_⟩
      refine steps_cons ?_ ?_
      · rintro b a w' ⟨gb359, gb360, m10_, m11_, ha, Q_BK331, Q_BK332, Q_BK345, Q_BK346, Q_HB, Q_NB360_359, Q_NB359_360, Q_BK359, Q_GW359, Q_GE359, Q_NB331_359, Q_NB359_331, Q_NB332_359, Q_NB359_332, Q_NB345_359, Q_NB359_345, Q_NB346_359, Q_NB359_346, Q_BK360, Q_GW360, Q_GE360, Q_NB331_360, Q_NB360_331, Q_NB332_360, Q_NB360_332, Q_NB345_360, Q_NB360_345, Q_NB346_360, Q_NB360_346, Q_BK359_e12, Q_BK360_e13, Q_X10_, Q_X11_⟩ hb_ hon hoff
        refine ⟨_, rfl, fun K hK => ?_⟩
        have e6 : a.tmps[6]? = some (.pointer (some ⟨gb332, 0, none⟩)) := by rw [ha]; exact (putSel_off rfl).trans rfl
        replace ha := Aside0.mk ha
        have BK331 := Bk.mk Q_BK331
        have BK332 := Bk.mk Q_BK332
        have BK345 := Bk.mk Q_BK345
        have BK346 := Bk.mk Q_BK346
        have HB := Bl.mk Q_HB
        have hc0_ : w'.cell? ⟨gb332, 0, none⟩ = some (.bool a2_0) := (blk_cell BK332.out 0).trans rfl
        have hc1_ : w'.cell? ⟨gb332, 1, none⟩ = some (.int .i64 a2_1) := (blk_cell BK332.out 1).trans rfl
        have hc2_ : w'.cell? ⟨gb332, 2, none⟩ = some (.int .i64 a2_2) := (blk_cell BK332.out 2).trans rfl
        refine value_ (w1 := w') (v := .agg #[.bool a2_0, .int .i64 a2_1, .int .i64 a2_2]) (by rfl) rfl ?_ ?_
        · go_simp
          (try simp only [i64_w])
          try rfl
        refine hK.out _ _ ⟨gb359, gb360, m10_, m11_, (by rw [ha.out]; exact putSel_upk 2 hb_ rfl rfl rfl), Q_BK331, Q_BK332, Q_BK345, Q_BK346, Q_HB, Q_NB360_359, Q_NB359_360, Q_BK359, Q_GW359, Q_GE359, Q_NB331_359, Q_NB359_331, Q_NB332_359, Q_NB359_332, Q_NB345_359, Q_NB359_345, Q_NB346_359, Q_NB359_346, Q_BK360, Q_GW360, Q_GE360, Q_NB331_360, Q_NB360_331, Q_NB332_360, Q_NB360_332, Q_NB345_360, Q_NB360_345, Q_NB346_360, Q_NB360_346, fun h0_ => absurd ((hoff 12 (by kernel_rfl)).symm.trans h0_) (by decide), fun h0_ => absurd ((hoff 13 (by kernel_rfl)).symm.trans h0_) (by decide), Q_X10_, Q_X11_⟩
      refine steps_cons ?_ ?_
      · rintro b a w' ⟨gb359, gb360, m10_, m11_, ha, Q_BK331, Q_BK332, Q_BK345, Q_BK346, Q_HB, Q_NB360_359, Q_NB359_360, Q_BK359, Q_GW359, Q_GE359, Q_NB331_359, Q_NB359_331, Q_NB332_359, Q_NB359_332, Q_NB345_359, Q_NB359_345, Q_NB346_359, Q_NB359_346, Q_BK360, Q_GW360, Q_GE360, Q_NB331_360, Q_NB360_331, Q_NB332_360, Q_NB360_332, Q_NB345_360, Q_NB360_345, Q_NB346_360, Q_NB360_346, Q_BK359_e12, Q_BK360_e13, Q_X10_, Q_X11_⟩ hb_ hon hoff
        refine ⟨_, rfl, fun K hK => ?_⟩
        have e27 : a.tmps[27]? = some (.agg #[.bool a2_0, .int .i64 a2_1, .int .i64 a2_2]) := by rw [ha]; exact putSel_on (e := (3, 27, .agg #[.bool a2_0, .int .i64 a2_1, .int .i64 a2_2])) 2 rfl rfl (hon 3 (by kernel_rfl)) rfl
        replace ha := Aside0.mk ha
        have BK331 := Bk.mk Q_BK331
        have BK332 := Bk.mk Q_BK332
        have BK345 := Bk.mk Q_BK345
        have BK346 := Bk.mk Q_BK346
        have HB := Bl.mk Q_HB
        refine goes_ Try.func18 (by kernel_rfl) rfl #[.agg #[.bool a2_0, .int .i64 a2_1, .int .i64 a2_2]] (by rfl) rfl rfl (by first | (simp only [List.map_toArray, List.map_cons, List.map_nil, Act.eval, Array.getD_eq_getD_getElem?, Option.getD_some, e27]; done) | (simp only [List.map_toArray, List.map_cons, List.map_nil, Act.eval, Array.getD_eq_getD_getElem?, Option.getD_some, e27]; rfl)) ?_
        with_reducible refine (laws_toSpan.calls a2_0 a2_1 a2_2 t336 t337 t338 _ A9.out).mono ?_
        rintro e w129 ⟨rfl, hb⟩
        refine ⟨_, rfl, ?_⟩
        have n0_ := Bk.mk (blk_below (g := gb331) bk hb)
        have n1_ := Bk.mk (blk_below (g := gb332) bk hb)
        have n2_ := Bk.mk (blk_below (g := gb345) bk hb)
        have n3_ := Bk.mk (blk_below (g := gb346) bk hb)
        have n4_ := Bl.mk (below_step bl hb)
        have z_BK359 := fun (h0_ : b 10 = true) (h1_ : b 12 = false) => (show w129.heap[gb359]? = some (.cells #[.bool false, .int .i64 0, .int .i64 0] 30 (0, 0)) from by first | exact (blk_below (g := gb359) (o := .cells #[.bool false, .int .i64 0, .int .i64 0] 30 (0, 0)) (by (with_reducible repeat (first | refine blk_drewN ?_ _ | refine blk_drew ?_ | refine blk_alloc ?_ _)); exact (Q_BK359 h0_ h1_)) hb))
        have z_BK360 := fun (h0_ : b 11 = true) (h1_ : b 13 = false) => (show w129.heap[gb360]? = some (.cells #[.bool false, .int .i64 0, .int .i64 0] 30 (0, 0)) from by first | exact (blk_below (g := gb360) (o := .cells #[.bool false, .int .i64 0, .int .i64 0] 30 (0, 0)) (by (with_reducible repeat (first | refine blk_drewN ?_ _ | refine blk_drew ?_ | refine blk_alloc ?_ _)); exact (Q_BK360 h0_ h1_)) hb))
        clear BK331
        clear BK332
        clear BK345
        clear BK346
        clear HB
        have BK331 := n0_
        have BK332 := n1_
        have BK345 := n2_
        have BK346 := n3_
        have HB := n4_
        clear n0_ n1_ n2_ n3_ n4_
        (try clear hb)
        (try clear hb2)
        (try clear hk)
        (try clear hi)
        refine hK.out _ _ ⟨gb359, gb360, m10_, m11_, (by rw [ha.out]; exact putSel_upk 3 hb_ rfl rfl rfl), bk, bk, bk, bk, bl, Q_NB360_359, Q_NB359_360, z_BK359, Q_GW359, Q_GE359, Q_NB331_359, Q_NB359_331, Q_NB332_359, Q_NB359_332, Q_NB345_359, Q_NB359_345, Q_NB346_359, Q_NB359_346, z_BK360, Q_GW360, Q_GE360, Q_NB331_360, Q_NB360_331, Q_NB332_360, Q_NB360_332, Q_NB345_360, Q_NB360_345, Q_NB346_360, Q_NB360_346, fun h0_ => absurd ((hoff 12 (by kernel_rfl)).symm.trans h0_) (by decide), fun h0_ => absurd ((hoff 13 (by kernel_rfl)).symm.trans h0_) (by decide), Q_X10_, Q_X11_⟩
      refine steps_cons ?_ ?_
      · rintro b a w' ⟨gb359, gb360, m10_, m11_, ha, Q_BK331, Q_BK332, Q_BK345, Q_BK346, Q_HB, Q_NB360_359, Q_NB359_360, Q_BK359, Q_GW359, Q_GE359, Q_NB331_359, Q_NB359_331, Q_NB332_359, Q_NB359_332, Q_NB345_359, Q_NB359_345, Q_NB346_359, Q_NB359_346, Q_BK360, Q_GW360, Q_GE360, Q_NB331_360, Q_NB360_331, Q_NB332_360, Q_NB360_332, Q_NB345_360, Q_NB360_345, Q_NB346_360, Q_NB360_346, Q_BK359_e12, Q_BK360_e13, Q_X10_, Q_X11_⟩ hb_ hon hoff
        refine ⟨_, rfl, fun K hK => ?_⟩
        have e24 : a.tmps[24]? = some (.int .i64 a0) := by rw [ha]; exact (putSel_off rfl).trans rfl
        have e26 : a.tmps[26]? = some (.agg #[.bool t333, .int .i64 t334, .int .i64 t335]) := by rw [ha]; exact putSel_on (e := (2, 26, .agg #[.bool t333, .int .i64 t334, .int .i64 t335])) 1 rfl rfl (hon 2 (by kernel_rfl)) rfl
        have e28 : a.tmps[28]? = some (.agg #[.bool t336, .int .i64 t337, .int .i64 t338]) := by rw [ha]; exact putSel_on (e := (4, 28, .agg #[.bool t336, .int .i64 t337, .int .i64 t338])) 3 rfl rfl (hon 4 (by kernel_rfl)) rfl
        have e29 : a.tmps[29]? = some (.bool a3) := by rw [ha]; exact (putSel_off rfl).trans rfl
        replace ha := Aside0.mk ha
        have BK331 := Bk.mk Q_BK331
        have BK332 := Bk.mk Q_BK332
        have BK345 := Bk.mk Q_BK345
        have BK346 := Bk.mk Q_BK346
        have HB := Bl.mk Q_HB
        refine goes_ Try.func19 (by kernel_rfl) rfl #[.int .i64 a0, .agg #[.bool t333, .int .i64 t334, .int .i64 t335], .agg #[.bool t336, .int .i64 t337, .int .i64 t338], .bool a3] (by rfl) rfl rfl (by first | (simp only [List.map_toArray, List.map_cons, List.map_nil, Act.eval, Array.getD_eq_getD_getElem?, Option.getD_some, e24, e26, e28, e29]; done) | (simp only [List.map_toArray, List.map_cons, List.map_nil, Act.eval, Array.getD_eq_getD_getElem?, Option.getD_some, e24, e26, e28, e29]; rfl)) ?_
        with_reducible refine (impl_SpanWhen.calls k a0 t333 t334 t335 t336 t337 t338 a3 t353 t354 t355 t356 t357 t358 _ A10.out).mono ?_
        rintro e w130 ⟨rfl, hb⟩
        refine ⟨_, rfl, ?_⟩
        have n0_ := Bk.mk (blk_below (g := gb331) bk hb)
        have n1_ := Bk.mk (blk_below (g := gb332) bk hb)
        have n2_ := Bk.mk (blk_below (g := gb345) bk hb)
        have n3_ := Bk.mk (blk_below (g := gb346) bk hb)
        have n4_ := Bl.mk (below_step bl hb)
        have z_BK359 := fun (h0_ : b 10 = true) (h1_ : b 12 = false) => (show w130.heap[gb359]? = some (.cells #[.bool false, .int .i64 0, .int .i64 0] 30 (0, 0)) from by first | exact (blk_below (g := gb359) (o := .cells #[.bool false, .int .i64 0, .int .i64 0] 30 (0, 0)) (by (with_reducible repeat (first | refine blk_drewN ?_ _ | refine blk_drew ?_ | refine blk_alloc ?_ _)); exact (Q_BK359 h0_ h1_)) hb))
        have z_BK360 := fun (h0_ : b 11 = true) (h1_ : b 13 = false) => (show w130.heap[gb360]? = some (.cells #[.bool false, .int .i64 0, .int .i64 0] 30 (0, 0)) from by first | exact (blk_below (g := gb360) (o := .cells #[.bool false, .int .i64 0, .int .i64 0] 30 (0, 0)) (by (with_reducible repeat (first | refine blk_drewN ?_ _ | refine blk_drew ?_ | refine blk_alloc ?_ _)); exact (Q_BK360 h0_ h1_)) hb))
        clear BK331
        clear BK332
        clear BK345
        clear BK346
        clear HB
        have BK331 := n0_
        have BK332 := n1_
        have BK345 := n2_
        have BK346 := n3_
        have HB := n4_
        clear n0_ n1_ n2_ n3_ n4_
        (try clear hb)
        (try clear hb2)
        (try clear hk)
        (try clear hi)
        refine hK.out _ _ ⟨gb359, gb360, m10_, m11_, (by rw [ha.out]; exact putSel_upk 4 hb_ rfl rfl rfl), bk, bk, bk, bk, bl, Q_NB360_359, Q_NB359_360, z_BK359, Q_GW359, Q_GE359, Q_NB331_359, Q_NB359_331, Q_NB332_359, Q_NB359_332, Q_NB345_359, Q_NB359_345, Q_NB346_359, Q_NB359_346, z_BK360, Q_GW360, Q_GE360, Q_NB331_360, Q_NB360_331, Q_NB332_360, Q_NB360_332, Q_NB345_360, Q_NB360_345, Q_NB346_360, Q_NB360_346, fun h0_ => absurd ((hoff 12 (by kernel_rfl)).symm.trans h0_) (by decide), fun h0_ => absurd ((hoff 13 (by kernel_rfl)).symm.trans h0_) (by decide), Q_X10_, Q_X11_⟩
      refine steps_cons ?_ ?_
      · rintro b a w' ⟨gb359, gb360, m10_, m11_, ha, Q_BK331, Q_BK332, Q_BK345, Q_BK346, Q_HB, Q_NB360_359, Q_NB359_360, Q_BK359, Q_GW359, Q_GE359, Q_NB331_359, Q_NB359_331, Q_NB332_359, Q_NB359_332, Q_NB345_359, Q_NB359_345, Q_NB346_359, Q_NB359_346, Q_BK360, Q_GW360, Q_GE360, Q_NB331_360, Q_NB360_331, Q_NB332_360, Q_NB360_332, Q_NB345_360, Q_NB360_345, Q_NB346_360, Q_NB360_346, Q_BK359_e12, Q_BK360_e13, Q_X10_, Q_X11_⟩ hb_ hon hoff
        refine ⟨_, rfl, fun K hK => ?_⟩
        have e30 : a.tmps[30]? = some (.tuple #[.agg #[.bool t353, .int .i64 t354, .int .i64 t355], .agg #[.bool t356, .int .i64 t357, .int .i64 t358]]) := by rw [ha]; exact putSel_on (e := (6, 30, .tuple #[.agg #[.bool t353, .int .i64 t354, .int .i64 t355], .agg #[.bool t356, .int .i64 t357, .int .i64 t358]])) 4 rfl rfl (hon 6 (by kernel_rfl)) rfl
        replace ha := Aside0.mk ha
        have BK331 := Bk.mk Q_BK331
        have BK332 := Bk.mk Q_BK332
        have BK345 := Bk.mk Q_BK345
        have BK346 := Bk.mk Q_BK346
        have HB := Bl.mk Q_HB
        refine value_ (w1 := w') (v := .tuple #[.agg #[.bool t353, .int .i64 t354, .int .i64 t355], .agg #[.bool t356, .int .i64 t357, .int .i64 t358]]) (by rfl) rfl ?_ ?_
        · go_simp
          (try simp only [i64_w])
          try rfl
        refine hK.out _ _ ⟨gb359, gb360, m10_, m11_, (by rw [ha.out]; exact putSel_upk 5 hb_ rfl rfl rfl), Q_BK331, Q_BK332, Q_BK345, Q_BK346, Q_HB, Q_NB360_359, Q_NB359_360, Q_BK359, Q_GW359, Q_GE359, Q_NB331_359, Q_NB359_331, Q_NB332_359, Q_NB359_332, Q_NB345_359, Q_NB359_345, Q_NB346_359, Q_NB359_346, Q_BK360, Q_GW360, Q_GE360, Q_NB331_360, Q_NB360_331, Q_NB332_360, Q_NB360_332, Q_NB345_360, Q_NB360_345, Q_NB346_360, Q_NB360_346, fun h0_ => absurd ((hoff 12 (by kernel_rfl)).symm.trans h0_) (by decide), fun h0_ => absurd ((hoff 13 (by kernel_rfl)).symm.trans h0_) (by decide), Q_X10_, Q_X11_⟩
      refine steps_cons ?_ ?_
      · rintro b a w' ⟨gb359, gb360, m10_, m11_, ha, Q_BK331, Q_BK332, Q_BK345, Q_BK346, Q_HB, Q_NB360_359, Q_NB359_360, Q_BK359, Q_GW359, Q_GE359, Q_NB331_359, Q_NB359_331, Q_NB332_359, Q_NB359_332, Q_NB345_359, Q_NB359_345, Q_NB346_359, Q_NB359_346, Q_BK360, Q_GW360, Q_GE360, Q_NB331_360, Q_NB360_331, Q_NB332_360, Q_NB360_332, Q_NB345_360, Q_NB360_345, Q_NB346_360, Q_NB360_346, Q_BK359_e12, Q_BK360_e13, Q_X10_, Q_X11_⟩ hb_ hon hoff
        refine ⟨_, rfl, fun K hK => ?_⟩
        have e23 : a.tmps[23]? = some (.tuple #[.agg #[.bool t353, .int .i64 t354, .int .i64 t355], .agg #[.bool t356, .int .i64 t357, .int .i64 t358]]) := by rw [ha]; exact putSel_on (e := (7, 23, .tuple #[.agg #[.bool t353, .int .i64 t354, .int .i64 t355], .agg #[.bool t356, .int .i64 t357, .int .i64 t358]])) 5 rfl rfl (hon 7 (by kernel_rfl)) rfl
        replace ha := Aside0.mk ha
        have BK331 := Bk.mk Q_BK331
        have BK332 := Bk.mk Q_BK332
        have BK345 := Bk.mk Q_BK345
        have BK346 := Bk.mk Q_BK346
        have HB := Bl.mk Q_HB
        refine value_ (w1 := w') (v := .agg #[.bool t353, .int .i64 t354, .int .i64 t355]) (by rfl) rfl ?_ ?_
        · go_simp
          (try simp only [i64_w])
          try rfl
        refine hK.out _ _ ⟨gb359, gb360, m10_, m11_, (by rw [ha.out]; exact putSel_upk 6 hb_ rfl rfl rfl), Q_BK331, Q_BK332, Q_BK345, Q_BK346, Q_HB, Q_NB360_359, Q_NB359_360, Q_BK359, Q_GW359, Q_GE359, Q_NB331_359, Q_NB359_331, Q_NB332_359, Q_NB359_332, Q_NB345_359, Q_NB359_345, Q_NB346_359, Q_NB359_346, Q_BK360, Q_GW360, Q_GE360, Q_NB331_360, Q_NB360_331, Q_NB332_360, Q_NB360_332, Q_NB345_360, Q_NB360_345, Q_NB346_360, Q_NB360_346, fun h0_ => absurd ((hoff 12 (by kernel_rfl)).symm.trans h0_) (by decide), fun h0_ => absurd ((hoff 13 (by kernel_rfl)).symm.trans h0_) (by decide), Q_X10_, Q_X11_⟩
      refine steps_cons ?_ ?_
      · rintro b a w' ⟨gb359, gb360, m10_, m11_, ha, Q_BK331, Q_BK332, Q_BK345, Q_BK346, Q_HB, Q_NB360_359, Q_NB359_360, Q_BK359, Q_GW359, Q_GE359, Q_NB331_359, Q_NB359_331, Q_NB332_359, Q_NB359_332, Q_NB345_359, Q_NB359_345, Q_NB346_359, Q_NB359_346, Q_BK360, Q_GW360, Q_GE360, Q_NB331_360, Q_NB360_331, Q_NB332_360, Q_NB360_332, Q_NB345_360, Q_NB360_345, Q_NB346_360, Q_NB360_346, Q_BK359_e12, Q_BK360_e13, Q_X10_, Q_X11_⟩ hb_ hon hoff
        refine ⟨_, rfl, fun K hK => ?_⟩
        have e23 : a.tmps[23]? = some (.tuple #[.agg #[.bool t353, .int .i64 t354, .int .i64 t355], .agg #[.bool t356, .int .i64 t357, .int .i64 t358]]) := by rw [ha]; exact putSel_on (e := (7, 23, .tuple #[.agg #[.bool t353, .int .i64 t354, .int .i64 t355], .agg #[.bool t356, .int .i64 t357, .int .i64 t358]])) 5 rfl rfl (hon 7 (by kernel_rfl)) rfl
        replace ha := Aside0.mk ha
        have BK331 := Bk.mk Q_BK331
        have BK332 := Bk.mk Q_BK332
        have BK345 := Bk.mk Q_BK345
        have BK346 := Bk.mk Q_BK346
        have HB := Bl.mk Q_HB
        refine value_ (w1 := w') (v := .agg #[.bool t356, .int .i64 t357, .int .i64 t358]) (by rfl) rfl ?_ ?_
        · go_simp
          (try simp only [i64_w])
          try rfl
        refine hK.out _ _ ⟨gb359, gb360, m10_, m11_, (by rw [ha.out]; exact putSel_upk 7 hb_ rfl rfl rfl), Q_BK331, Q_BK332, Q_BK345, Q_BK346, Q_HB, Q_NB360_359, Q_NB359_360, Q_BK359, Q_GW359, Q_GE359, Q_NB331_359, Q_NB359_331, Q_NB332_359, Q_NB359_332, Q_NB345_359, Q_NB359_345, Q_NB346_359, Q_NB359_346, Q_BK360, Q_GW360, Q_GE360, Q_NB331_360, Q_NB360_331, Q_NB332_360, Q_NB360_332, Q_NB345_360, Q_NB360_345, Q_NB346_360, Q_NB360_346, Q_BK359_e12, fun h0_ => absurd ((hoff 13 (by kernel_rfl)).symm.trans h0_) (by decide), Q_X10_, Q_X11_⟩
      refine steps_cons ?_ ?_
      · rintro b a w' ⟨gb359, gb360, m10_, m11_, ha, Q_BK331, Q_BK332, Q_BK345, Q_BK346, Q_HB, Q_NB360_359, Q_NB359_360, Q_BK359, Q_GW359, Q_GE359, Q_NB331_359, Q_NB359_331, Q_NB332_359, Q_NB359_332, Q_NB345_359, Q_NB359_345, Q_NB346_359, Q_NB359_346, Q_BK360, Q_GW360, Q_GE360, Q_NB331_360, Q_NB360_331, Q_NB332_360, Q_NB360_332, Q_NB345_360, Q_NB360_345, Q_NB346_360, Q_NB360_346, Q_BK359_e12, Q_BK360_e13, Q_X10_, Q_X11_⟩ hb_ hon hoff
        refine ⟨_, rfl, fun K hK => ?_⟩
        replace ha := Aside0.mk ha
        have BK331 := Bk.mk Q_BK331
        have BK332 := Bk.mk Q_BK332
        have BK345 := Bk.mk Q_BK345
        have BK346 := Bk.mk Q_BK346
        have HB := Bl.mk Q_HB
        refine box_step ?hg (N := 11) ?hd (cs := #[.bool false, .int .i64 0, .int .i64 0]) (t := 30) ?hr ?_; (case hd => rfl); (case hg => rfl); (case hr => first | (go_simp; done) | (go_simp; rfl))
        intro gb359 hg w127 hbox hb
        have n0_ := Bk.mk (blk_below (g := gb331) bk hb)
        have n1_ := Bk.mk (blk_below (g := gb332) bk hb)
        have n2_ := Bk.mk (blk_below (g := gb345) bk hb)
        have n3_ := Bk.mk (blk_below (g := gb346) bk hb)
        have n4_ := Bl.mk (below_step bl hb)
        have n5_ := Bk.mk (hbox)
        have n6_ := Aside0.mk ((by rw [hg]; exact (below_size bl) : w.heap.size ≤ gb359))
        have n7_ := Gl.mk ((by rw [hg]; exact (below_size bl) : w.heap.size ≤ gb359))
        have n8_ := Nb.mk ((by rw [hg]; exact Nat.ne_of_lt (blk_lt (g := gb331) bk) : gb331 ≠ gb359))
        have n9_ := Nb.mk ((by rw [hg]; exact Nat.ne_of_gt (blk_lt (g := gb331) bk) : gb359 ≠ gb331))
        have n10_ := Nb.mk ((by rw [hg]; exact Nat.ne_of_lt (blk_lt (g := gb332) bk) : gb332 ≠ gb359))
        have n11_ := Nb.mk ((by rw [hg]; exact Nat.ne_of_gt (blk_lt (g := gb332) bk) : gb359 ≠ gb332))
        have n12_ := Nb.mk ((by rw [hg]; exact Nat.ne_of_lt (blk_lt (g := gb345) bk) : gb345 ≠ gb359))
        have n13_ := Nb.mk ((by rw [hg]; exact Nat.ne_of_gt (blk_lt (g := gb345) bk) : gb359 ≠ gb345))
        have n14_ := Nb.mk ((by rw [hg]; exact Nat.ne_of_lt (blk_lt (g := gb346) bk) : gb346 ≠ gb359))
        have n15_ := Nb.mk ((by rw [hg]; exact Nat.ne_of_gt (blk_lt (g := gb346) bk) : gb359 ≠ gb346))
        have z_NB360_359 := fun (h0_ : up b 10 10 = true) (h1_ : up b 10 11 = true) => (show gb360 ≠ gb359 from ((by rw [hg]; exact Nat.ne_of_lt (blk_lt (g := gb360) (o := .cells #[.bool false, .int .i64 0, .int .i64 0] 30 (0, 0)) (Q_BK360 ((up_ne (by decide)).symm.trans h1_) (hoff 13 (by kernel_rfl)))) : gb360 ≠ gb359)))
        have z_NB359_360 := fun (h0_ : up b 10 10 = true) (h1_ : up b 10 11 = true) => (show gb359 ≠ gb360 from ((by rw [hg]; exact Nat.ne_of_gt (blk_lt (g := gb360) (o := .cells #[.bool false, .int .i64 0, .int .i64 0] 30 (0, 0)) (Q_BK360 ((up_ne (by decide)).symm.trans h1_) (hoff 13 (by kernel_rfl)))) : gb359 ≠ gb360)))
        have z_BK360 := fun (h0_ : b 11 = true) (h1_ : b 13 = false) => (show w127.heap[gb360]? = some (.cells #[.bool false, .int .i64 0, .int .i64 0] 30 (0, 0)) from by first | exact (blk_below (g := gb360) (o := .cells #[.bool false, .int .i64 0, .int .i64 0] 30 (0, 0)) (by (with_reducible repeat (first | refine blk_drewN ?_ _ | refine blk_drew ?_ | refine blk_alloc ?_ _)); exact (Q_BK360 h0_ h1_)) hb))
        clear BK331
        clear BK332
        clear BK345
        clear BK346
        clear HB
        have BK331 := n0_
        have BK332 := n1_
        have BK345 := n2_
        have BK346 := n3_
        have HB := n4_
        have BK359 := n5_
        have GW359 := n6_
        have GE359 := n7_
        have NB331_359 := n8_
        have NB359_331 := n9_
        have NB332_359 := n10_
        have NB359_332 := n11_
        have NB345_359 := n12_
        have NB359_345 := n13_
        have NB346_359 := n14_
        have NB359_346 := n15_
        clear n0_ n1_ n2_ n3_ n4_ n5_ n6_ n7_ n8_ n9_ n10_ n11_ n12_ n13_ n14_ n15_
        clear hb hbox hg
        refine hK.out _ _ ⟨gb359, gb360, (.pointer (some ⟨gb359, 0, none⟩)), m11_, (by rw [ha.out]; exact putSel_upk 8 hb_ rfl rfl rfl), bk, bk, bk, bk, bl, z_NB360_359, z_NB359_360, fun _ _ => bk, fun _ => GW359.out, fun _ => GE359.out, fun _ => NB331_359.out, fun _ => NB359_331.out, fun _ => NB332_359.out, fun _ => NB359_332.out, fun _ => NB345_359.out, fun _ => NB359_345.out, fun _ => NB346_359.out, fun _ => NB359_346.out, z_BK360, Q_GW360, Q_GE360, Q_NB331_360, Q_NB360_331, Q_NB332_360, Q_NB360_332, Q_NB345_360, Q_NB360_345, Q_NB346_360, Q_NB360_346, fun h0_ => absurd ((hoff 12 (by kernel_rfl)).symm.trans h0_) (by decide), fun h0_ => absurd ((hoff 13 (by kernel_rfl)).symm.trans h0_) (by decide), fun _ => rfl, Q_X11_⟩
      refine steps_cons ?_ ?_
      · rintro b a w' ⟨gb359, gb360, m10_, m11_, ha, Q_BK331, Q_BK332, Q_BK345, Q_BK346, Q_HB, Q_NB360_359, Q_NB359_360, Q_BK359, Q_GW359, Q_GE359, Q_NB331_359, Q_NB359_331, Q_NB332_359, Q_NB359_332, Q_NB345_359, Q_NB359_345, Q_NB346_359, Q_NB359_346, Q_BK360, Q_GW360, Q_GE360, Q_NB331_360, Q_NB360_331, Q_NB332_360, Q_NB360_332, Q_NB345_360, Q_NB360_345, Q_NB346_360, Q_NB360_346, Q_BK359_e12, Q_BK360_e13, Q_X10_, Q_X11_⟩ hb_ hon hoff
        refine ⟨_, rfl, fun K hK => ?_⟩
        replace ha := Aside0.mk ha
        have BK331 := Bk.mk Q_BK331
        have BK332 := Bk.mk Q_BK332
        have BK345 := Bk.mk Q_BK345
        have BK346 := Bk.mk Q_BK346
        have HB := Bl.mk Q_HB
        refine box_step ?hg (N := 12) ?hd (cs := #[.bool false, .int .i64 0, .int .i64 0]) (t := 30) ?hr ?_; (case hd => rfl); (case hg => rfl); (case hr => first | (go_simp; done) | (go_simp; rfl))
        intro gb360 hg w127 hbox hb
        have n0_ := Bk.mk (blk_below (g := gb331) bk hb)
        have n1_ := Bk.mk (blk_below (g := gb332) bk hb)
        have n2_ := Bk.mk (blk_below (g := gb345) bk hb)
        have n3_ := Bk.mk (blk_below (g := gb346) bk hb)
        have n4_ := Bl.mk (below_step bl hb)
        have n5_ := Bk.mk (hbox)
        have n6_ := Aside0.mk ((by rw [hg]; exact (below_size bl) : w.heap.size ≤ gb360))
        have n7_ := Gl.mk ((by rw [hg]; exact (below_size bl) : w.heap.size ≤ gb360))
        have n8_ := Nb.mk ((by rw [hg]; exact Nat.ne_of_lt (blk_lt (g := gb331) bk) : gb331 ≠ gb360))
        have n9_ := Nb.mk ((by rw [hg]; exact Nat.ne_of_gt (blk_lt (g := gb331) bk) : gb360 ≠ gb331))
        have n10_ := Nb.mk ((by rw [hg]; exact Nat.ne_of_lt (blk_lt (g := gb332) bk) : gb332 ≠ gb360))
        have n11_ := Nb.mk ((by rw [hg]; exact Nat.ne_of_gt (blk_lt (g := gb332) bk) : gb360 ≠ gb332))
        have n12_ := Nb.mk ((by rw [hg]; exact Nat.ne_of_lt (blk_lt (g := gb345) bk) : gb345 ≠ gb360))
        have n13_ := Nb.mk ((by rw [hg]; exact Nat.ne_of_gt (blk_lt (g := gb345) bk) : gb360 ≠ gb345))
        have n14_ := Nb.mk ((by rw [hg]; exact Nat.ne_of_lt (blk_lt (g := gb346) bk) : gb346 ≠ gb360))
        have n15_ := Nb.mk ((by rw [hg]; exact Nat.ne_of_gt (blk_lt (g := gb346) bk) : gb360 ≠ gb346))
        have z_NB360_359 := fun (h0_ : up b 11 10 = true) (h1_ : up b 11 11 = true) => (show gb360 ≠ gb359 from ((by rw [hg]; exact Nat.ne_of_gt (blk_lt (g := gb359) (o := .cells #[.bool false, .int .i64 0, .int .i64 0] 30 (0, 0)) (Q_BK359 ((up_ne (by decide)).symm.trans h0_) (hoff 12 (by kernel_rfl)))) : gb360 ≠ gb359)))
        have z_NB359_360 := fun (h0_ : up b 11 10 = true) (h1_ : up b 11 11 = true) => (show gb359 ≠ gb360 from ((by rw [hg]; exact Nat.ne_of_lt (blk_lt (g := gb359) (o := .cells #[.bool false, .int .i64 0, .int .i64 0] 30 (0, 0)) (Q_BK359 ((up_ne (by decide)).symm.trans h0_) (hoff 12 (by kernel_rfl)))) : gb359 ≠ gb360)))
        have z_BK359 := fun (h0_ : b 10 = true) (h1_ : b 12 = false) => (show w127.heap[gb359]? = some (.cells #[.bool false, .int .i64 0, .int .i64 0] 30 (0, 0)) from by first | exact (blk_below (g := gb359) (o := .cells #[.bool false, .int .i64 0, .int .i64 0] 30 (0, 0)) (by (with_reducible repeat (first | refine blk_drewN ?_ _ | refine blk_drew ?_ | refine blk_alloc ?_ _)); exact (Q_BK359 h0_ h1_)) hb))
        clear BK331
        clear BK332
        clear BK345
        clear BK346
        clear HB
        have BK331 := n0_
        have BK332 := n1_
        have BK345 := n2_
        have BK346 := n3_
        have HB := n4_
        have BK360 := n5_
        have GW360 := n6_
        have GE360 := n7_
        have NB331_360 := n8_
        have NB360_331 := n9_
        have NB332_360 := n10_
        have NB360_332 := n11_
        have NB345_360 := n12_
        have NB360_345 := n13_
        have NB346_360 := n14_
        have NB360_346 := n15_
        clear n0_ n1_ n2_ n3_ n4_ n5_ n6_ n7_ n8_ n9_ n10_ n11_ n12_ n13_ n14_ n15_
        clear hb hbox hg
        refine hK.out _ _ ⟨gb359, gb360, m10_, (.pointer (some ⟨gb360, 0, none⟩)), (by rw [ha.out]; exact putSel_upk 9 hb_ rfl rfl rfl), bk, bk, bk, bk, bl, z_NB360_359, z_NB359_360, z_BK359, Q_GW359, Q_GE359, Q_NB331_359, Q_NB359_331, Q_NB332_359, Q_NB359_332, Q_NB345_359, Q_NB359_345, Q_NB346_359, Q_NB359_346, fun _ _ => bk, fun _ => GW360.out, fun _ => GE360.out, fun _ => NB331_360.out, fun _ => NB360_331.out, fun _ => NB332_360.out, fun _ => NB360_332.out, fun _ => NB345_360.out, fun _ => NB360_345.out, fun _ => NB346_360.out, fun _ => NB360_346.out, fun h0_ => absurd ((hoff 12 (by kernel_rfl)).symm.trans h0_) (by decide), fun h0_ => absurd ((hoff 13 (by kernel_rfl)).symm.trans h0_) (by decide), Q_X10_, fun _ => rfl⟩
      refine steps_cons ?_ ?_
      · rintro b a w' ⟨gb359, gb360, m10_, m11_, ha, Q_BK331, Q_BK332, Q_BK345, Q_BK346, Q_HB, Q_NB360_359, Q_NB359_360, Q_BK359, Q_GW359, Q_GE359, Q_NB331_359, Q_NB359_331, Q_NB332_359, Q_NB359_332, Q_NB345_359, Q_NB359_345, Q_NB346_359, Q_NB359_346, Q_BK360, Q_GW360, Q_GE360, Q_NB331_360, Q_NB360_331, Q_NB332_360, Q_NB360_332, Q_NB345_360, Q_NB360_345, Q_NB346_360, Q_NB360_346, Q_BK359_e12, Q_BK360_e13, Q_X10_, Q_X11_⟩ hb_ hon hoff
        refine ⟨_, rfl, fun K hK => ?_⟩
        have e11 : a.tmps[11]? = some (m10_) := by rw [ha]; exact putSel_on (e := (10, 11, m10_)) 8 rfl rfl (hon 10 (by kernel_rfl)) rfl
        rw [Q_X10_ (hon 10 (by kernel_rfl))] at e11
        have e31 : a.tmps[31]? = some (.agg #[.bool t353, .int .i64 t354, .int .i64 t355]) := by rw [ha]; exact putSel_on (e := (8, 31, .agg #[.bool t353, .int .i64 t354, .int .i64 t355])) 6 rfl rfl (hon 8 (by kernel_rfl)) rfl
        replace ha := Aside0.mk ha
        have BK331 := Bk.mk Q_BK331
        have BK332 := Bk.mk Q_BK332
        have BK345 := Bk.mk Q_BK345
        have BK346 := Bk.mk Q_BK346
        have HB := Bl.mk Q_HB
        have NB360_359 := Nb.mk (Q_NB360_359 (hon 10 (by kernel_rfl)) (hon 11 (by kernel_rfl)))
        have NB359_360 := Nb.mk (Q_NB359_360 (hon 10 (by kernel_rfl)) (hon 11 (by kernel_rfl)))
        have BK359 := Bk.mk (Q_BK359 (hon 10 (by kernel_rfl)) hb_)
        have GW359 := Aside0.mk (Q_GW359 (hon 10 (by kernel_rfl)))
        have GE359 := Gl.mk (Q_GE359 (hon 10 (by kernel_rfl)))
        have NB331_359 := Nb.mk (Q_NB331_359 (hon 10 (by kernel_rfl)))
        have NB359_331 := Nb.mk (Q_NB359_331 (hon 10 (by kernel_rfl)))
        have NB332_359 := Nb.mk (Q_NB332_359 (hon 10 (by kernel_rfl)))
        have NB359_332 := Nb.mk (Q_NB359_332 (hon 10 (by kernel_rfl)))
        have NB345_359 := Nb.mk (Q_NB345_359 (hon 10 (by kernel_rfl)))
        have NB359_345 := Nb.mk (Q_NB359_345 (hon 10 (by kernel_rfl)))
        have NB346_359 := Nb.mk (Q_NB346_359 (hon 10 (by kernel_rfl)))
        have NB359_346 := Nb.mk (Q_NB359_346 (hon 10 (by kernel_rfl)))
        have BK360 := Bk.mk (Q_BK360 (hon 11 (by kernel_rfl)) (hoff 13 (by kernel_rfl)))
        have GW360 := Aside0.mk (Q_GW360 (hon 11 (by kernel_rfl)))
        have GE360 := Gl.mk (Q_GE360 (hon 11 (by kernel_rfl)))
        have NB331_360 := Nb.mk (Q_NB331_360 (hon 11 (by kernel_rfl)))
        have NB360_331 := Nb.mk (Q_NB360_331 (hon 11 (by kernel_rfl)))
        have NB332_360 := Nb.mk (Q_NB332_360 (hon 11 (by kernel_rfl)))
        have NB360_332 := Nb.mk (Q_NB360_332 (hon 11 (by kernel_rfl)))
        have NB345_360 := Nb.mk (Q_NB345_360 (hon 11 (by kernel_rfl)))
        have NB360_345 := Nb.mk (Q_NB360_345 (hon 11 (by kernel_rfl)))
        have NB346_360 := Nb.mk (Q_NB346_360 (hon 11 (by kernel_rfl)))
        have NB360_346 := Nb.mk (Q_NB360_346 (hon 11 (by kernel_rfl)))
        have hs133 : w'.cell? ⟨gb359, 0, none⟩ = some (.bool false) := (blk_cell BK359.out 0).trans rfl
        have hfs133 := blk_frozen BK359.out 0
        have hns133_0 := NB331_359.out
        have hns133_1 := NB332_359.out
        have hns133_2 := NB345_359.out
        have hns133_3 := NB346_359.out
        have hns133_5 := NB360_359.out
        have hms133_0 := NB359_331.out
        have hms133_1 := NB359_332.out
        have hms133_2 := NB359_345.out
        have hms133_3 := NB359_346.out
        have hms133_5 := NB359_360.out
        have hs134 : w'.cell? ⟨gb359, 1, none⟩ = some (.int .i64 0) := (blk_cell BK359.out 1).trans rfl
        have hfs134 := blk_frozen BK359.out 1
        have hns134_0 := NB331_359.out
        have hns134_1 := NB332_359.out
        have hns134_2 := NB345_359.out
        have hns134_3 := NB346_359.out
        have hns134_5 := NB360_359.out
        have hms134_0 := NB359_331.out
        have hms134_1 := NB359_332.out
        have hms134_2 := NB359_345.out
        have hms134_3 := NB359_346.out
        have hms134_5 := NB359_360.out
        have hs135 : w'.cell? ⟨gb359, 2, none⟩ = some (.int .i64 0) := (blk_cell BK359.out 2).trans rfl
        have hfs135 := blk_frozen BK359.out 2
        have hns135_0 := NB331_359.out
        have hns135_1 := NB332_359.out
        have hns135_2 := NB345_359.out
        have hns135_3 := NB346_359.out
        have hns135_5 := NB360_359.out
        have hms135_0 := NB359_331.out
        have hms135_1 := NB359_332.out
        have hms135_2 := NB359_345.out
        have hms135_3 := NB359_346.out
        have hms135_5 := NB359_360.out
        refine skip_ (w1 := ?_) (by rfl) rfl ?_ ?_
        rotate_left
        · go_simp
          rfl
        refine hK.out _ _ ⟨gb359, gb360, m10_, m11_, (by rw [ha.out]; exact putSel_none (v := undef) rfl), bk, bk, bk, bk, bl, fun _ _ => NB360_359.out, fun _ _ => NB359_360.out, fun _ h1_ => absurd ((up_self b 12).symm.trans h1_) (by decide), fun _ => GW359.out, fun _ => GE359.out, fun _ => NB331_359.out, fun _ => NB359_331.out, fun _ => NB332_359.out, fun _ => NB359_332.out, fun _ => NB345_359.out, fun _ => NB359_345.out, fun _ => NB346_359.out, fun _ => NB359_346.out, fun _ _ => bk, fun _ => GW360.out, fun _ => GE360.out, fun _ => NB331_360.out, fun _ => NB360_331.out, fun _ => NB332_360.out, fun _ => NB360_332.out, fun _ => NB345_360.out, fun _ => NB360_345.out, fun _ => NB346_360.out, fun _ => NB360_346.out, fun _ => bk, fun h0_ => absurd ((hoff 13 (by kernel_rfl)).symm.trans h0_) (by decide), Q_X10_, Q_X11_⟩
      refine steps_cons ?_ ?_
      · rintro b a w' ⟨gb359, gb360, m10_, m11_, ha, Q_BK331, Q_BK332, Q_BK345, Q_BK346, Q_HB, Q_NB360_359, Q_NB359_360, Q_BK359, Q_GW359, Q_GE359, Q_NB331_359, Q_NB359_331, Q_NB332_359, Q_NB359_332, Q_NB345_359, Q_NB359_345, Q_NB346_359, Q_NB359_346, Q_BK360, Q_GW360, Q_GE360, Q_NB331_360, Q_NB360_331, Q_NB332_360, Q_NB360_332, Q_NB345_360, Q_NB360_345, Q_NB346_360, Q_NB360_346, Q_BK359_e12, Q_BK360_e13, Q_X10_, Q_X11_⟩ hb_ hon hoff
        refine ⟨_, rfl, fun K hK => ?_⟩
        have e12 : a.tmps[12]? = some (m11_) := by rw [ha]; exact putSel_on (e := (11, 12, m11_)) 9 rfl rfl (hon 11 (by kernel_rfl)) rfl
        rw [Q_X11_ (hon 11 (by kernel_rfl))] at e12
        have e32 : a.tmps[32]? = some (.agg #[.bool t356, .int .i64 t357, .int .i64 t358]) := by rw [ha]; exact putSel_on (e := (9, 32, .agg #[.bool t356, .int .i64 t357, .int .i64 t358])) 7 rfl rfl (hon 9 (by kernel_rfl)) rfl
        replace ha := Aside0.mk ha
        have BK331 := Bk.mk Q_BK331
        have BK332 := Bk.mk Q_BK332
        have BK345 := Bk.mk Q_BK345
        have BK346 := Bk.mk Q_BK346
        have HB := Bl.mk Q_HB
        have NB360_359 := Nb.mk (Q_NB360_359 (hon 10 (by kernel_rfl)) (hon 11 (by kernel_rfl)))
        have NB359_360 := Nb.mk (Q_NB359_360 (hon 10 (by kernel_rfl)) (hon 11 (by kernel_rfl)))
        have GW359 := Aside0.mk (Q_GW359 (hon 10 (by kernel_rfl)))
        have GE359 := Gl.mk (Q_GE359 (hon 10 (by kernel_rfl)))
        have NB331_359 := Nb.mk (Q_NB331_359 (hon 10 (by kernel_rfl)))
        have NB359_331 := Nb.mk (Q_NB359_331 (hon 10 (by kernel_rfl)))
        have NB332_359 := Nb.mk (Q_NB332_359 (hon 10 (by kernel_rfl)))
        have NB359_332 := Nb.mk (Q_NB359_332 (hon 10 (by kernel_rfl)))
        have NB345_359 := Nb.mk (Q_NB345_359 (hon 10 (by kernel_rfl)))
        have NB359_345 := Nb.mk (Q_NB359_345 (hon 10 (by kernel_rfl)))
        have NB346_359 := Nb.mk (Q_NB346_359 (hon 10 (by kernel_rfl)))
        have NB359_346 := Nb.mk (Q_NB359_346 (hon 10 (by kernel_rfl)))
        have BK360 := Bk.mk (Q_BK360 (hon 11 (by kernel_rfl)) hb_)
        have GW360 := Aside0.mk (Q_GW360 (hon 11 (by kernel_rfl)))
        have GE360 := Gl.mk (Q_GE360 (hon 11 (by kernel_rfl)))
        have NB331_360 := Nb.mk (Q_NB331_360 (hon 11 (by kernel_rfl)))
        have NB360_331 := Nb.mk (Q_NB360_331 (hon 11 (by kernel_rfl)))
        have NB332_360 := Nb.mk (Q_NB332_360 (hon 11 (by kernel_rfl)))
        have NB360_332 := Nb.mk (Q_NB360_332 (hon 11 (by kernel_rfl)))
        have NB345_360 := Nb.mk (Q_NB345_360 (hon 11 (by kernel_rfl)))
        have NB360_345 := Nb.mk (Q_NB360_345 (hon 11 (by kernel_rfl)))
        have NB346_360 := Nb.mk (Q_NB346_360 (hon 11 (by kernel_rfl)))
        have NB360_346 := Nb.mk (Q_NB360_346 (hon 11 (by kernel_rfl)))
        have BK359 := Bk.mk (Q_BK359_e12 (hon 12 (by kernel_rfl)))
        have hs136 : w'.cell? ⟨gb360, 0, none⟩ = some (.bool false) := (blk_cell BK360.out 0).trans rfl
        have hfs136 := blk_frozen BK360.out 0
        have hns136_0 := NB331_360.out
        have hns136_1 := NB332_360.out
        have hns136_2 := NB345_360.out
        have hns136_3 := NB346_360.out
        have hns136_4 := NB359_360.out
        have hms136_0 := NB360_331.out
        have hms136_1 := NB360_332.out
        have hms136_2 := NB360_345.out
        have hms136_3 := NB360_346.out
        have hms136_4 := NB360_359.out
        have hs137 : w'.cell? ⟨gb360, 1, none⟩ = some (.int .i64 0) := (blk_cell BK360.out 1).trans rfl
        have hfs137 := blk_frozen BK360.out 1
        have hns137_0 := NB331_360.out
        have hns137_1 := NB332_360.out
        have hns137_2 := NB345_360.out
        have hns137_3 := NB346_360.out
        have hns137_4 := NB359_360.out
        have hms137_0 := NB360_331.out
        have hms137_1 := NB360_332.out
        have hms137_2 := NB360_345.out
        have hms137_3 := NB360_346.out
        have hms137_4 := NB360_359.out
        have hs138 : w'.cell? ⟨gb360, 2, none⟩ = some (.int .i64 0) := (blk_cell BK360.out 2).trans rfl
        have hfs138 := blk_frozen BK360.out 2
        have hns138_0 := NB331_360.out
        have hns138_1 := NB332_360.out
        have hns138_2 := NB345_360.out
        have hns138_3 := NB346_360.out
        have hns138_4 := NB359_360.out
        have hms138_0 := NB360_331.out
        have hms138_1 := NB360_332.out
        have hms138_2 := NB360_345.out
        have hms138_3 := NB360_346.out
        have hms138_4 := NB360_359.out
        refine skip_ (w1 := ?_) (by rfl) rfl ?_ ?_
        rotate_left
        · go_simp
          rfl
        refine hK.out _ _ ⟨gb359, gb360, m10_, m11_, (by rw [ha.out]; exact putSel_none (v := undef) rfl), bk, bk, bk, bk, bl, fun _ _ => NB360_359.out, fun _ _ => NB359_360.out, fun _ h1_ => absurd ((hon 12 (by kernel_rfl)).symm.trans h1_) (by decide), fun _ => GW359.out, fun _ => GE359.out, fun _ => NB331_359.out, fun _ => NB359_331.out, fun _ => NB332_359.out, fun _ => NB359_332.out, fun _ => NB345_359.out, fun _ => NB359_345.out, fun _ => NB346_359.out, fun _ => NB359_346.out, fun _ h1_ => absurd ((up_self b 13).symm.trans h1_) (by decide), fun _ => GW360.out, fun _ => GE360.out, fun _ => NB331_360.out, fun _ => NB360_331.out, fun _ => NB332_360.out, fun _ => NB360_332.out, fun _ => NB345_360.out, fun _ => NB360_345.out, fun _ => NB346_360.out, fun _ => NB360_346.out, fun _ => bk, fun _ => bk, Q_X10_, Q_X11_⟩
      exact steps_nil
    rintro b a w138 hall ⟨gb359, gb360, m10_, m11_, ha, Q_BK331, Q_BK332, Q_BK345, Q_BK346, Q_HB, Q_NB360_359, Q_NB359_360, Q_BK359, Q_GW359, Q_GE359, Q_NB331_359, Q_NB359_331, Q_NB332_359, Q_NB359_332, Q_NB345_359, Q_NB359_345, Q_NB346_359, Q_NB359_346, Q_BK360, Q_GW360, Q_GE360, Q_NB331_360, Q_NB360_331, Q_NB332_360, Q_NB360_332, Q_NB345_360, Q_NB360_345, Q_NB346_360, Q_NB360_346, Q_BK359_e12, Q_BK360_e13, Q_X10_, Q_X11_⟩
    clear BK331 BK332 BK345 BK346 HB
    have hb1_ := hall 1 (by kernel_rfl)
    have hb2_ := hall 2 (by kernel_rfl)
    have hb3_ := hall 3 (by kernel_rfl)
    have hb4_ := hall 4 (by kernel_rfl)
    have hb6_ := hall 6 (by kernel_rfl)
    have hb7_ := hall 7 (by kernel_rfl)
    have hb8_ := hall 8 (by kernel_rfl)
    have hb9_ := hall 9 (by kernel_rfl)
    have hb10_ := hall 10 (by kernel_rfl)
    have hb11_ := hall 11 (by kernel_rfl)
    have hb12_ := hall 12 (by kernel_rfl)
    have hb13_ := hall 13 (by kernel_rfl)
    subst ha
    obtain rfl := Q_X10_ hb10_
    obtain rfl := Q_X11_ hb11_
    simp only [putSel, hb1_, hb2_, hb3_, hb4_, hb6_, hb7_, hb8_, hb9_, hb10_, hb11_, hb12_, hb13_, if_true, Act.put, List.setIfInBounds_toArray, List.set_cons_zero, List.set_cons_succ]
    have BK331 := Bk.mk Q_BK331
    clear Q_BK331
    have BK332 := Bk.mk Q_BK332
    clear Q_BK332
    have BK345 := Bk.mk Q_BK345
    clear Q_BK345
    have BK346 := Bk.mk Q_BK346
    clear Q_BK346
    have HB := Bl.mk Q_HB
    clear Q_HB
    have NB360_359 := Nb.mk (Q_NB360_359 hb10_ hb11_)
    clear Q_NB360_359
    have NB359_360 := Nb.mk (Q_NB359_360 hb10_ hb11_)
    clear Q_NB359_360
    clear Q_BK359
    have GW359 := Aside0.mk (Q_GW359 hb10_)
    clear Q_GW359
    have GE359 := Gl.mk (Q_GE359 hb10_)
    clear Q_GE359
    have NB331_359 := Nb.mk (Q_NB331_359 hb10_)
    clear Q_NB331_359
    have NB359_331 := Nb.mk (Q_NB359_331 hb10_)
    clear Q_NB359_331
    have NB332_359 := Nb.mk (Q_NB332_359 hb10_)
    clear Q_NB332_359
    have NB359_332 := Nb.mk (Q_NB359_332 hb10_)
    clear Q_NB359_332
    have NB345_359 := Nb.mk (Q_NB345_359 hb10_)
    clear Q_NB345_359
    have NB359_345 := Nb.mk (Q_NB359_345 hb10_)
    clear Q_NB359_345
    have NB346_359 := Nb.mk (Q_NB346_359 hb10_)
    clear Q_NB346_359
    have NB359_346 := Nb.mk (Q_NB359_346 hb10_)
    clear Q_NB359_346
    clear Q_BK360
    have GW360 := Aside0.mk (Q_GW360 hb11_)
    clear Q_GW360
    have GE360 := Gl.mk (Q_GE360 hb11_)
    clear Q_GE360
    have NB331_360 := Nb.mk (Q_NB331_360 hb11_)
    clear Q_NB331_360
    have NB360_331 := Nb.mk (Q_NB360_331 hb11_)
    clear Q_NB360_331
    have NB332_360 := Nb.mk (Q_NB332_360 hb11_)
    clear Q_NB332_360
    have NB360_332 := Nb.mk (Q_NB360_332 hb11_)
    clear Q_NB360_332
    have NB345_360 := Nb.mk (Q_NB345_360 hb11_)
    clear Q_NB345_360
    have NB360_345 := Nb.mk (Q_NB360_345 hb11_)
    clear Q_NB360_345
    have NB346_360 := Nb.mk (Q_NB346_360 hb11_)
    clear Q_NB346_360
    have NB360_346 := Nb.mk (Q_NB360_346 hb11_)
    clear Q_NB360_346
    have BK359 := Bk.mk (Q_BK359_e12 hb12_)
    clear Q_BK359_e12
    have BK360 := Bk.mk (Q_BK360_e13 hb13_)
    clear Q_BK360_e13
    clear hall hb1_ hb2_ hb3_ hb4_ hb6_ hb7_ hb8_ hb9_ hb10_ hb11_ hb12_ hb13_
    have hnb139 := NB359_331.out
    have hnc139 := NB331_359.out
    have hnb140 := NB359_332.out
    have hnc140 := NB332_359.out
    have hnb141 := NB359_345.out
    have hnc141 := NB345_359.out
    have hnb142 := NB359_346.out
    have hnc142 := NB346_359.out
    have hnb143 := NB359_360.out
    have hnc143 := NB360_359.out
    have hcz144_0 := bc0 BK359.out
    have hcz144_1 := bc1 BK359.out
    have hcz144_2 := bc2 BK359.out
    have hfz144_0 := blk_frozen BK359.out 0
    have hfz144_1 := blk_frozen BK359.out 1
    have hfz144_2 := blk_frozen BK359.out 2
    have hnb145 := NB345_331.out
    have hnc145 := NB331_345.out
    have hnb146 := NB345_332.out
    have hnc146 := NB332_345.out
    have hnb147 := NB345_346.out
    have hnc147 := NB346_345.out
    have hnb148 := NB345_360.out
    have hnc148 := NB360_345.out
    have hcz149_0 := bc0 BK345.out
    have hcz149_1 := bc1 BK345.out
    have hcz149_2 := bc2 BK345.out
    have hfz149_0 := blk_frozen BK345.out 0
    have hfz149_1 := blk_frozen BK345.out 1
    have hfz149_2 := blk_frozen BK345.out 2
    try go_wp2_with (first | ((with_reducible refine gate_callee (f := 20) rfl ?_); refine goesL_ (some 35) rfl rfl Try.func20 (by kernel_rfl) rfl #[.agg #[.bool t353, .int .i64 t354, .int .i64 t355], .agg #[.bool t339, .int .i64 t340, .int .i64 t341]] rfl (by (try simp only [List.map_toArray, List.map_cons, List.map_nil]); first | done | rfl | (simp only [List.length_drop, List.length_take]; rfl)) ?_; (with_reducible refine (laws_eqSpan.calls t353 t354 t355 t339 t340 t341 false _ A11.out).mono ?_); rintro e w150 ⟨rfl, hb⟩; refine ⟨_, rfl, ?_⟩; have n0_ := Bk.mk (blk_below (g := gb331) bk hb); have n1_ := Bk.mk (blk_below (g := gb332) bk hb); have n2_ := Bk.mk (blk_below (g := gb345) bk hb); have n3_ := Bk.mk (blk_below (g := gb346) bk hb); have n4_ := Bk.mk (blk_below (g := gb359) bk hb); have n5_ := Bk.mk (blk_below (g := gb360) bk hb); have n6_ := Bl.mk (below_step bl hb); clear BK331; clear BK332; clear BK345; clear BK346; clear BK359; clear BK360; clear HB; have BK331 := n0_; have BK332 := n1_; have BK345 := n2_; have BK346 := n3_; have BK359 := n4_; have BK360 := n5_; have HB := n6_; clear n0_ n1_ n2_ n3_ n4_ n5_ n6_; (try clear hb); (try clear hb2); (try clear hk); (try clear hi)))
    go_ret
    exact ⟨by first | rfl | (simp [errW_none, errW_some] <;> rfl) | (simp [*, errW_none, errW_some] <;> rfl), bl⟩

end Go.Proofs.Ytekmapilhomdgaa.P
