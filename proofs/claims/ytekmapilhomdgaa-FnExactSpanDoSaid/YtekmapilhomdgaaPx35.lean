/- The contracts of Go functions of this seat: each call comes to what the Lean function of the same name says. -/
import Derived.Test.YtekmapilhomdgaaPx0
import Derived.Test.YtekmapilhomdgaaPx21
import Derived.Test.YtekmapilhomdgaaPx27
import Derived.Test.YtekmapilhomdgaaPx31
import Derived.Test.YtekmapilhomdgaaPx34
namespace Go.Proofs.Ytekmapilhomdgaa.P
open Go.RowKit Go.Proofs.YtekmapilhomdgaaW.PrintWords Go.Proofs.YtekmapilhomdgaaW.PrintLast Go.Proofs.YtekmapilhomdgaaW.PrintMore
attribute [local go_sem] max2_int min2_int max_two min_two max_three min_three max_four min_four   -- for this text's walks alone
set_option linter.unusedVariables false
set_option linter.unusedSimpArgs false

/-! ### laws_FnExactSpanDo: function 7 -/
def laws_FnExactSpanDo.f (k : Nat) (a0 : Int) (a1_0 : Bool) (a1_1 : Int) (a1_2 : Int) (a2_0 : Bool) (a2_1 : Int) (a2_2 : Int) : Option (Bool) := (laws_toSpan.f a1_0 a1_1 a1_2).bind fun bt462 => ((laws_toSpan.f a2_0 a2_1 a2_2).bind fun bt465 => ((spec_SpanDo.f k a0 bt462.1 bt462.2.1 bt462.2.2 bt465.1 bt465.2.1 bt465.2.2).bind fun bt468 => ((laws_toSpan.f a1_0 a1_1 a1_2).bind fun bt472 => ((laws_toSpan.f a2_0 a2_1 a2_2).bind fun bt475 => ((impl_SpanDo.f k a0 bt472.1 bt472.2.1 bt472.2.2 bt475.1 bt475.2.1 bt475.2.2).bind fun bt478 => ((laws_eqSpan.f bt478.1 bt478.2.1 bt478.2.2 bt468.1 bt468.2.1 bt468.2.2).bind fun t482 => (if t482 = true then (some true) else (some false))))))))
theorem laws_FnExactSpanDo.mono : ∀ a0 a1 a2 a3 a4 a5 a6 k, LeO (laws_FnExactSpanDo.f k a0 a1 a2 a3 a4 a5 a6) (laws_FnExactSpanDo.f (k + 1) a0 a1 a2 a3 a4 a5 a6) := by
  intro a0 a1 a2 a3 a4 a5 a6 k
  unfold laws_FnExactSpanDo.f
  repeat' first
      | (with_reducible exact impl_SpanDo.mono _ _ _ _ _ _ _ _)
      | (with_reducible exact spec_SpanDo.mono _ _ _ _ _ _ _ _)
      | (with_reducible exact LeO.refl _)
      | (with_reducible exact LeO.none _)
      | (with_reducible refine LeO.ite ?_ ?_)
      | (with_reducible refine LeO.bind ?_ (fun _ => ?_))
      | exact impl_SpanDo.mono _ _ _ _ _ _ _ _
      | exact spec_SpanDo.mono _ _ _ _ _ _ _ _
      | exact LeO.none _
      | refine LeO.ite ?_ ?_
      | refine LeO.bind ?_ (fun _ => ?_)
def laws_FnExactSpanDo.T1 : Bool × List (List Nat × List Nat) := (true, [([], []), ([], []), ([1], [1]), ([], []), ([3, 2], [3]), ([0, 2, 4, 4], [0, 2, 4]), ([], []), ([6, 5, 5, 0, 1, 2, 3, 4, 5, 6], [5, 6])])
def laws_FnExactSpanDo.B1 : List Nat := [0, 0, 2, 0, 14, 31, 0, 127]
theorem laws_FnExactSpanDo.tab1 : rtab .any (opsOf Try.f7 1) = laws_FnExactSpanDo.T1 := by kernel_rfl
theorem laws_FnExactSpanDo.bits1 : waitsOk laws_FnExactSpanDo.T1.2 laws_FnExactSpanDo.B1 = true := by kernel_rfl
def laws_FnExactSpanDo.T2 : Bool × List (List Nat × List Nat) := (true, [([], []), ([], []), ([1], [1]), ([], []), ([3, 2], [3]), ([0, 2, 4, 4], [0, 2, 4]), ([], []), ([6, 5, 5, 0, 1, 2, 3, 4, 5, 6], [5, 6])])
def laws_FnExactSpanDo.B2 : List Nat := [0, 0, 2, 0, 14, 31, 0, 127]
theorem laws_FnExactSpanDo.tab2 : rtab .any (opsOf Try.f7 2) = laws_FnExactSpanDo.T2 := by kernel_rfl
theorem laws_FnExactSpanDo.bits2 : waitsOk laws_FnExactSpanDo.T2.2 laws_FnExactSpanDo.B2 = true := by kernel_rfl
set_option maxHeartbeats 8000000 in
set_option maxRecDepth 100000 in
theorem laws_FnExactSpanDo.calls (k : Nat) (a0 : Int) (a1_0 : Bool) (a1_1 : Int) (a1_2 : Int) (a2_0 : Bool) (a2_1 : Int) (a2_2 : Int) (r : Bool) (w : World) (h : laws_FnExactSpanDo.f k a0 a1_0 a1_1 a1_2 a2_0 a2_1 a2_2 = some r) :
    Calls Try.prog 7 #[.int .i64 a0, .agg #[.bool a1_0, .int .i64 a1_1, .int .i64 a1_2], .agg #[.bool a2_0, .int .i64 a2_1, .int .i64 a2_2]] w fun e w' => e = .returned (.bool r) ∧ Below w.heap.size w w' := by
  have hu34 := Try.underlying34
  have hu30 := Try.underlying30
  have HB := Bl.mk (Below.refl w.heap.size w)
  unfold laws_FnExactSpanDo.f at h
  have H := h
  clear h
  replace H := Option.bind_eq_some_iff.mp H
  obtain ⟨⟨t462, t463, t464⟩, A40, H⟩ := H
  try dsimp only at H
  have A4 := Aside0.mk A40
  clear A40
  replace H := Option.bind_eq_some_iff.mp H
  obtain ⟨⟨t465, t466, t467⟩, A50, H⟩ := H
  try dsimp only at H
  have A5 := Aside0.mk A50
  clear A50
  replace H := Option.bind_eq_some_iff.mp H
  obtain ⟨⟨t468, t469, t470⟩, A60, H⟩ := H
  try dsimp only at H
  have A6 := Aside0.mk A60
  clear A60
  replace H := Option.bind_eq_some_iff.mp H
  obtain ⟨⟨t472, t473, t474⟩, A70, H⟩ := H
  obtain ⟨rfl, rfl, rfl⟩ : t462 = t472 ∧ t463 = t473 ∧ t464 = t474 := by simpa using A4.out.symm.trans A70
  try dsimp only at H
  have A7 := Aside0.mk A70
  clear A70
  replace H := Option.bind_eq_some_iff.mp H
  obtain ⟨⟨t475, t476, t477⟩, A80, H⟩ := H
  obtain ⟨rfl, rfl, rfl⟩ : t465 = t475 ∧ t466 = t476 ∧ t467 = t477 := by simpa using A5.out.symm.trans A80
  try dsimp only at H
  have A8 := Aside0.mk A80
  clear A80
  replace H := Option.bind_eq_some_iff.mp H
  obtain ⟨⟨t478, t479, t480⟩, A90, H⟩ := H
  try dsimp only at H
  have A9 := Aside0.mk A90
  clear A90
  replace H := Option.bind_eq_some_iff.mp H
  obtain ⟨t482, A100, H⟩ := H
  try dsimp only at H
  have A10 := Aside0.mk A100
  clear A100
  by_cases c11 : t482 = true
  · subst c11
    rw [if_pos rfl] at H
    obtain rfl := Option.some.inj H
    go_enter Try.func7, Try.ntmps7
    try go_wp2_with (first | ((with_reducible refine gate_dst (N := 4) rfl ?_); refine box_event ?hg (N := 4) ?hd (cs := #[.bool a1_0, .int .i64 a1_1, .int .i64 a1_2]) (t := 34) ?hr ?_; (case hd => rfl); (case hg => rfl); (case hr => first | (go_simp; done) | (go_simp; rfl)); intro gb460 hg w12 hbox hb; have n0_ := Bl.mk (below_step bl hb); have n1_ := Bk.mk (hbox); have n2_ := Aside0.mk ((by rw [hg]; exact (below_size bl) : w.heap.size ≤ gb460)); have n3_ := Gl.mk ((by rw [hg]; exact (below_size bl) : w.heap.size ≤ gb460)); clear HB; have HB := n0_; have BK460 := n1_; have GW460 := n2_; have GE460 := n3_; clear n0_ n1_ n2_ n3_; clear hb hbox hg) | ((with_reducible refine gate_dst (N := 5) rfl ?_); refine box_event ?hg (N := 5) ?hd (cs := #[.bool a2_0, .int .i64 a2_1, .int .i64 a2_2]) (t := 34) ?hr ?_; (case hd => rfl); (case hg => rfl); (case hr => first | (go_simp; done) | (go_simp; rfl)); intro gb461 hg w13 hbox hb; have n0_ := Bk.mk (blk_below (g := gb460) bk hb); have n1_ := Bl.mk (below_step bl hb); have n2_ := Bk.mk (hbox); have n3_ := Aside0.mk ((by rw [hg]; exact (below_size bl) : w.heap.size ≤ gb461)); have n4_ := Gl.mk ((by rw [hg]; exact (below_size bl) : w.heap.size ≤ gb461)); have n5_ := Nb.mk ((by rw [hg]; exact Nat.ne_of_lt (blk_lt (g := gb460) bk) : gb460 ≠ gb461)); have n6_ := Nb.mk ((by rw [hg]; exact Nat.ne_of_gt (blk_lt (g := gb460) bk) : gb461 ≠ gb460)); clear BK460; clear HB; have BK460 := n0_; have HB := n1_; have BK461 := n2_; have GW461 := n3_; have GE461 := n4_; have NB460_461 := n5_; have NB461_460 := n6_; clear n0_ n1_ n2_ n3_ n4_ n5_ n6_; clear hb hbox hg))
    have n0_ := Bk.mk (blk_drew BK460.out)
    have n1_ := Bk.mk (blk_drew BK461.out)
    have n2_ := Bl.mk (below_drew1 HB.out)
    clear BK460
    clear BK461
    clear HB
    have BK460 := n0_
    have BK461 := n1_
    have HB := n2_
    clear n0_ n1_ n2_
    refine start_ (n := 8) (S := fun w' => True) (ds := []) #[false, false, false, false, false, false, false, false] (by kernel_rfl) rfl rfl trivial (fun hHeld => ?_); refine with_tabW laws_FnExactSpanDo.tab1 laws_FnExactSpanDo.bits1 (fun HT_ HW_ => ?_)
    generalize w13.drew = w14 at BK460 BK461 HB hHeld ⊢
    refine pure_ (i := 0) (N := some 9) (v := ?_) (a' := ?_) #[true, false, false, false, false, false, false, false] rfl rfl (any_of HT_.out (by kernel_rfl)) (fun _ _ _ h => h) (Or.inl ⟨by rfl, ?_⟩) ?_ ?_
    rotate_left
    · intro w'
      go_simp
      with_reducible rfl
    rotate_left
    · simp only [Act.put, List.setIfInBounds_toArray, List.set_cons_zero, List.set_cons_succ, i64_w, i32_w]
      rfl
    refine inv_at [1, 2, 3, 4, 5, 6, 7] (fun a0_ b a w' => ∃ (gb471 : Nat) (m6_ : Value), a = putSel a0_ b [(1, 10, .agg #[.bool a1_0, .int .i64 a1_1, .int .i64 a1_2]), (2, 11, .agg #[.bool t462, .int .i64 t463, .int .i64 t464]), (3, 12, .agg #[.bool a2_0, .int .i64 a2_1, .int .i64 a2_2]), (4, 13, .agg #[.bool t465, .int .i64 t466, .int .i64 t467]), (5, 14, .agg #[.bool t468, .int .i64 t469, .int .i64 t470]), (6, 7, m6_)] ∧ (w'.heap[gb460]? = some (.cells #[.bool a1_0, .int .i64 a1_1, .int .i64 a1_2] 34 (0, 0))) ∧ (w'.heap[gb461]? = some (.cells #[.bool a2_0, .int .i64 a2_1, .int .i64 a2_2] 34 (0, 0))) ∧ (Below w.heap.size w w') ∧ (b 6 = true → b 7 = false → w'.heap[gb471]? = some (.cells #[.bool false, .int .i64 0, .int .i64 0] 30 (0, 0))) ∧ (b 6 = true → w.heap.size ≤ gb471) ∧ (b 6 = true → w.heap.size ≤ gb471) ∧ (b 6 = true → gb460 ≠ gb471) ∧ (b 6 = true → gb471 ≠ gb460) ∧ (b 6 = true → gb461 ≠ gb471) ∧ (b 6 = true → gb471 ≠ gb461) ∧ (b 7 = true → w'.heap[gb471]? = some (.cells #[.bool t468, .int .i64 t469, .int .i64 t470] 30 (0, 0))) ∧ (b 6 = true → (m6_ : Value) = .pointer (some ⟨gb471, 0, none⟩))) HT_.out HW_.out (by kernel_rfl) (by kernel_rfl) ?_ ?_ ?_
    · exact ⟨0, .bool false, by simp only [putSel, Bool.false_eq_true, if_false], BK460.out, BK461.out, HB.out, fun h_ => absurd h_ (by decide), fun h_ => absurd h_ (by decide), fun h_ => absurd h_ (by decide), fun h_ => absurd h_ (by decide), fun h_ => absurd h_ (by decide), fun h_ => absurd h_ (by decide), fun h_ => absurd h_ (by decide), fun h_ => absurd h_ (by decide), fun h_ => absurd h_ (by decide)⟩
    · skip
      clear BK460 BK461 HB
      refine steps_cons ?_ ?_
      · rintro b a w' ⟨gb471, m6_, ha, Q_BK460, Q_BK461, Q_HB, Q_BK471, Q_GW471, Q_GE471, Q_NB460_471, Q_NB471_460, Q_NB461_471, Q_NB471_461, Q_BK471_e7, Q_X6_⟩ hb_ hon hoff
        refine ⟨_, rfl, fun K hK => ?_⟩
        have e4 : a.tmps[4]? = some (.pointer (some ⟨gb460, 0, none⟩)) := by rw [ha]; exact (putSel_off rfl).trans rfl
        replace ha := Aside0.mk ha
        have BK460 := Bk.mk Q_BK460
        have BK461 := Bk.mk Q_BK461
        have HB := Bl.mk Q_HB
        have hc0_ : w'.cell? ⟨gb460, 0, none⟩ = some (.bool a1_0) := (blk_cell BK460.out 0).trans rfl
        have hc1_ : w'.cell? ⟨gb460, 1, none⟩ = some (.int .i64 a1_1) := (blk_cell BK460.out 1).trans rfl
        have hc2_ : w'.cell? ⟨gb460, 2, none⟩ = some (.int .i64 a1_2) := (blk_cell BK460.out 2).trans rfl
        refine value_ (w1 := w') (v := .agg #[.bool a1_0, .int .i64 a1_1, .int .i64 a1_2]) (by rfl) rfl ?_ ?_
        · go_simp
          (try simp only [i64_w])
          try rfl
        refine hK.out _ _ ⟨gb471, m6_, (by rw [ha.out]; exact putSel_upk 0 hb_ rfl rfl rfl), Q_BK460, Q_BK461, Q_HB, Q_BK471, Q_GW471, Q_GE471, Q_NB460_471, Q_NB471_460, Q_NB461_471, Q_NB471_461, fun h0_ => absurd ((hoff 7 (by kernel_rfl)).symm.trans h0_) (by decide), Q_X6_⟩
      refine steps_cons ?_ ?_
      · rintro b a w' ⟨gb471, m6_, ha, Q_BK460, Q_BK461, Q_HB, Q_BK471, Q_GW471, Q_GE471, Q_NB460_471, Q_NB471_460, Q_NB461_471, Q_NB471_461, Q_BK471_e7, Q_X6_⟩ hb_ hon hoff
        refine ⟨_, rfl, fun K hK => ?_⟩
        have e10 : a.tmps[10]? = some (.agg #[.bool a1_0, .int .i64 a1_1, .int .i64 a1_2]) := by rw [ha]; exact putSel_on (e := (1, 10, .agg #[.bool a1_0, .int .i64 a1_1, .int .i64 a1_2])) 0 rfl rfl (hon 1 (by kernel_rfl)) rfl
        replace ha := Aside0.mk ha
        have BK460 := Bk.mk Q_BK460
        have BK461 := Bk.mk Q_BK461
        have HB := Bl.mk Q_HB
        refine goes_ Try.func18 (by kernel_rfl) rfl #[.agg #[.bool a1_0, .int .i64 a1_1, .int .i64 a1_2]] (by rfl) rfl rfl (by first | (simp only [List.map_toArray, List.map_cons, List.map_nil, Act.eval, Array.getD_eq_getD_getElem?, Option.getD_some, e10]; done) | (simp only [List.map_toArray, List.map_cons, List.map_nil, Act.eval, Array.getD_eq_getD_getElem?, Option.getD_some, e10]; rfl)) ?_
        with_reducible refine (laws_toSpan.calls a1_0 a1_1 a1_2 t462 t463 t464 _ A4.out).mono ?_
        rintro e w15 ⟨rfl, hb⟩
        refine ⟨_, rfl, ?_⟩
        have n0_ := Bk.mk (blk_below (g := gb460) bk hb)
        have n1_ := Bk.mk (blk_below (g := gb461) bk hb)
        have n2_ := Bl.mk (below_step bl hb)
        have z_BK471 := fun (h0_ : b 6 = true) (h1_ : b 7 = false) => (show w15.heap[gb471]? = some (.cells #[.bool false, .int .i64 0, .int .i64 0] 30 (0, 0)) from by first | exact (blk_below (g := gb471) (o := .cells #[.bool false, .int .i64 0, .int .i64 0] 30 (0, 0)) (by (with_reducible repeat (first | refine blk_drewN ?_ _ | refine blk_drew ?_ | refine blk_alloc ?_ _)); exact (Q_BK471 h0_ h1_)) hb))
        clear BK460
        clear BK461
        clear HB
        have BK460 := n0_
        have BK461 := n1_
        have HB := n2_
        clear n0_ n1_ n2_
        (try clear hb)
        (try clear hb2)
        (try clear hk)
        (try clear hi)
        refine hK.out _ _ ⟨gb471, m6_, (by rw [ha.out]; exact putSel_upk 1 hb_ rfl rfl rfl), bk, bk, bl, z_BK471, Q_GW471, Q_GE471, Q_NB460_471, Q_NB471_460, Q_NB461_471, Q_NB471_461, fun h0_ => absurd ((hoff 7 (by kernel_rfl)).symm.trans h0_) (by decide), Q_X6_⟩
      refine steps_cons ?_ ?_
      · rintro b a w' ⟨gb471, m6_, ha, Q_BK460, Q_BK461, Q_HB, Q_BK471, Q_GW471, Q_GE471, Q_NB460_471, Q_NB471_460, Q_NB461_471, Q_NB471_461, Q_BK471_e7, Q_X6_⟩ hb_ hon hoff
        refine ⟨_, rfl, fun K hK => ?_⟩
        have e5 : a.tmps[5]? = some (.pointer (some ⟨gb461, 0, none⟩)) := by rw [ha]; exact (putSel_off rfl).trans rfl
        replace ha := Aside0.mk ha
        have BK460 := Bk.mk Q_BK460
        have BK461 := Bk.mk Q_BK461
        have HB := Bl.mk Q_HB
        have hc0_ : w'.cell? ⟨gb461, 0, none⟩ = some (.bool a2_0) := (blk_cell BK461.out 0).trans rfl
        have hc1_ : w'.cell? ⟨gb461, 1, none⟩ = some (.int .i64 a2_1) := (blk_cell BK461.out 1).trans rfl
        have hc2_ : w'.cell? ⟨gb461, 2, none⟩ = some (.int .i64 a2_2) := (blk_cell BK461.out 2).trans rfl
        refine value_ (w1 := w') (v := .agg #[.bool a2_0, .int .i64 a2_1, .int .i64 a2_2]) (by rfl) rfl ?_ ?_
        · go_simp
          (try simp only [i64_w])
          try rfl
        refine hK.out _ _ ⟨gb471, m6_, (by rw [ha.out]; exact putSel_upk 2 hb_ rfl rfl rfl), Q_BK460, Q_BK461, Q_HB, Q_BK471, Q_GW471, Q_GE471, Q_NB460_471, Q_NB471_460, Q_NB461_471, Q_NB471_461, fun h0_ => absurd ((hoff 7 (by kernel_rfl)).symm.trans h0_) (by decide), Q_X6_⟩
      refine steps_cons ?_ ?_
      · rintro b a w' ⟨gb471, m6_, ha, Q_BK460, Q_BK461, Q_HB, Q_BK471, Q_GW471, Q_GE471, Q_NB460_471, Q_NB471_460, Q_NB461_471, Q_NB471_461, Q_BK471_e7, Q_X6_⟩ hb_ hon hoff
        refine ⟨_, rfl, fun K hK => ?_⟩
        have e12 : a.tmps[12]? = some (.agg #[.bool a2_0, .int .i64 a2_1, .int .i64 a2_2]) := by rw [ha]; exact putSel_on (e := (3, 12, .agg #[.bool a2_0, .int .i64 a2_1, .int .i64 a2_2])) 2 rfl rfl (hon 3 (by kernel_rfl)) rfl
        replace ha := Aside0.mk ha
        have BK460 := Bk.mk Q_BK460
        have BK461 := Bk.mk Q_BK461
        have HB := Bl.mk Q_HB
        refine goes_ Try.func18 (by kernel_rfl) rfl #[.agg #[.bool a2_0, .int .i64 a2_1, .int .i64 a2_2]] (by rfl) rfl rfl (by first | (simp only [List.map_toArray, List.map_cons, List.map_nil, Act.eval, Array.getD_eq_getD_getElem?, Option.getD_some, e12]; done) | (simp only [List.map_toArray, List.map_cons, List.map_nil, Act.eval, Array.getD_eq_getD_getElem?, Option.getD_some, e12]; rfl)) ?_
        with_reducible refine (laws_toSpan.calls a2_0 a2_1 a2_2 t465 t466 t467 _ A5.out).mono ?_
        rintro e w17 ⟨rfl, hb⟩
        refine ⟨_, rfl, ?_⟩
        have n0_ := Bk.mk (blk_below (g := gb460) bk hb)
        have n1_ := Bk.mk (blk_below (g := gb461) bk hb)
        have n2_ := Bl.mk (below_step bl hb)
        have z_BK471 := fun (h0_ : b 6 = true) (h1_ : b 7 = false) => (show w17.heap[gb471]? = some (.cells #[.bool false, .int .i64 0, .int .i64 0] 30 (0, 0)) from by first | exact (blk_below (g := gb471) (o := .cells #[.bool false, .int .i64 0, .int .i64 0] 30 (0, 0)) (by (with_reducible repeat (first | refine blk_drewN ?_ _ | refine blk_drew ?_ | refine blk_alloc ?_ _)); exact (Q_BK471 h0_ h1_)) hb))
        clear BK460
        clear BK461
        clear HB
        have BK460 := n0_
        have BK461 := n1_
        have HB := n2_
        clear n0_ n1_ n2_
        (try clear hb)
        (try clear hb2)
        (try clear hk)
        (try clear hi)
        refine hK.out _ _ ⟨gb471, m6_, (by rw [ha.out]; exact putSel_upk 3 hb_ rfl rfl rfl), bk, bk, bl, z_BK471, Q_GW471, Q_GE471, Q_NB460_471, Q_NB471_460, Q_NB461_471, Q_NB471_461, fun h0_ => absurd ((hoff 7 (by kernel_rfl)).symm.trans h0_) (by decide), Q_X6_⟩
      refine steps_cons ?_ ?_
      · rintro b a w' ⟨gb471, m6_, ha, Q_BK460, Q_BK461, Q_HB, Q_BK471, Q_GW471, Q_GE471, Q_NB460_471, Q_NB471_460, Q_NB461_471, Q_NB471_461, Q_BK471_e7, Q_X6_⟩ hb_ hon hoff
        refine ⟨_, rfl, fun K hK => ?_⟩
        have e9 : a.tmps[9]? = some (.int .i64 a0) := by rw [ha]; exact (putSel_off rfl).trans rfl
        have e11 : a.tmps[11]? = some (.agg #[.bool t462, .int .i64 t463, .int .i64 t464]) := by rw [ha]; exact putSel_on (e := (2, 11, .agg #[.bool t462, .int .i64 t463, .int .i64 t464])) 1 rfl rfl (hon 2 (by kernel_rfl)) rfl
        have e13 : a.tmps[13]? = some (.agg #[.bool t465, .int .i64 t466, .int .i64 t467]) := by rw [ha]; exact putSel_on (e := (4, 13, .agg #[.bool t465, .int .i64 t466, .int .i64 t467])) 3 rfl rfl (hon 4 (by kernel_rfl)) rfl
        replace ha := Aside0.mk ha
        have BK460 := Bk.mk Q_BK460
        have BK461 := Bk.mk Q_BK461
        have HB := Bl.mk Q_HB
        refine goes_ Try.func21 (by kernel_rfl) rfl #[.int .i64 a0, .agg #[.bool t462, .int .i64 t463, .int .i64 t464], .agg #[.bool t465, .int .i64 t466, .int .i64 t467]] (by rfl) rfl rfl (by first | (simp only [List.map_toArray, List.map_cons, List.map_nil, Act.eval, Array.getD_eq_getD_getElem?, Option.getD_some, e9, e11, e13]; done) | (simp only [List.map_toArray, List.map_cons, List.map_nil, Act.eval, Array.getD_eq_getD_getElem?, Option.getD_some, e9, e11, e13]; rfl)) ?_
        with_reducible refine (spec_SpanDo.calls k a0 t462 t463 t464 t465 t466 t467 t468 t469 t470 _ A6.out).mono ?_
        rintro e w18 ⟨rfl, hb⟩
        refine ⟨_, rfl, ?_⟩
        have n0_ := Bk.mk (blk_below (g := gb460) bk hb)
        have n1_ := Bk.mk (blk_below (g := gb461) bk hb)
        have n2_ := Bl.mk (below_step bl hb)
        have z_BK471 := fun (h0_ : b 6 = true) (h1_ : b 7 = false) => (show w18.heap[gb471]? = some (.cells #[.bool false, .int .i64 0, .int .i64 0] 30 (0, 0)) from by first | exact (blk_below (g := gb471) (o := .cells #[.bool false, .int .i64 0, .int .i64 0] 30 (0, 0)) (by (with_reducible repeat (first | refine blk_drewN ?_ _ | refine blk_drew ?_ | refine blk_alloc ?_ _)); exact (Q_BK471 h0_ h1_)) hb))
        clear BK460
        clear BK461
        clear HB
        have BK460 := n0_
        have BK461 := n1_
        have HB := n2_
        clear n0_ n1_ n2_
        (try clear hb)
        (try clear hb2)
        (try clear hk)
        (try clear hi)
        refine hK.out _ _ ⟨gb471, m6_, (by rw [ha.out]; exact putSel_upk 4 hb_ rfl rfl rfl), bk, bk, bl, z_BK471, Q_GW471, Q_GE471, Q_NB460_471, Q_NB471_460, Q_NB461_471, Q_NB471_461, fun h0_ => absurd ((hoff 7 (by kernel_rfl)).symm.trans h0_) (by decide), Q_X6_⟩
      refine steps_cons ?_ ?_
      · rintro b a w' ⟨gb471, m6_, ha, Q_BK460, Q_BK461, Q_HB, Q_BK471, Q_GW471, Q_GE471, Q_NB460_471, Q_NB471_460, Q_NB461_471, Q_NB471_461, Q_BK471_e7, Q_X6_⟩ hb_ hon hoff
        refine ⟨_, rfl, fun K hK => ?_⟩
        replace ha := Aside0.mk ha
        have BK460 := Bk.mk Q_BK460
        have BK461 := Bk.mk Q_BK461
        have HB := Bl.mk Q_HB
        refine box_step ?hg (N := 7) ?hd (cs := #[.bool false, .int .i64 0, .int .i64 0]) (t := 30) ?hr ?_; (case hd => rfl); (case hg => rfl); (case hr => first | (go_simp; done) | (go_simp; rfl))
        intro gb471 hg w15 hbox hb
        have n0_ := Bk.mk (blk_below (g := gb460) bk hb)
        have n1_ := Bk.mk (blk_below (g := gb461) bk hb)
        have n2_ := Bl.mk (below_step bl hb)
        have n3_ := Bk.mk (hbox)
        have n4_ := Aside0.mk ((by rw [hg]; exact (below_size bl) : w.heap.size ≤ gb471))
        have n5_ := Gl.mk ((by rw [hg]; exact (below_size bl) : w.heap.size ≤ gb471))
        have n6_ := Nb.mk ((by rw [hg]; exact Nat.ne_of_lt (blk_lt (g := gb460) bk) : gb460 ≠ gb471))
        have n7_ := Nb.mk ((by rw [hg]; exact Nat.ne_of_gt (blk_lt (g := gb460) bk) : gb471 ≠ gb460))
        have n8_ := Nb.mk ((by rw [hg]; exact Nat.ne_of_lt (blk_lt (g := gb461) bk) : gb461 ≠ gb471))
        have n9_ := Nb.mk ((by rw [hg]; exact Nat.ne_of_gt (blk_lt (g := gb461) bk) : gb471 ≠ gb461))
        clear BK460
        clear BK461
        clear HB
        have BK460 := n0_
        have BK461 := n1_
        have HB := n2_
        have BK471 := n3_
        have GW471 := n4_
        have GE471 := n5_
        have NB460_471 := n6_
        have NB471_460 := n7_
        have NB461_471 := n8_
        have NB471_461 := n9_
        clear n0_ n1_ n2_ n3_ n4_ n5_ n6_ n7_ n8_ n9_
        clear hb hbox hg
        refine hK.out _ _ ⟨gb471, (.pointer (some ⟨gb471, 0, none⟩)), (by rw [ha.out]; exact putSel_upk 5 hb_ rfl rfl rfl), bk, bk, bl, fun _ _ => bk, fun _ => GW471.out, fun _ => GE471.out, fun _ => NB460_471.out, fun _ => NB471_460.out, fun _ => NB461_471.out, fun _ => NB471_461.out, fun h0_ => absurd ((hoff 7 (by kernel_rfl)).symm.trans h0_) (by decide), fun _ => rfl⟩
      refine steps_cons ?_ ?_
      · rintro b a w' ⟨gb471, m6_, ha, Q_BK460, Q_BK461, Q_HB, Q_BK471, Q_GW471, Q_GE471, Q_NB460_471, Q_NB471_460, Q_NB461_471, Q_NB471_461, Q_BK471_e7, Q_X6_⟩ hb_ hon hoff
        refine ⟨_, rfl, fun K hK => ?_⟩
        have e7 : a.tmps[7]? = some (m6_) := by rw [ha]; exact putSel_on (e := (6, 7, m6_)) 5 rfl rfl (hon 6 (by kernel_rfl)) rfl
        rw [Q_X6_ (hon 6 (by kernel_rfl))] at e7
        have e14 : a.tmps[14]? = some (.agg #[.bool t468, .int .i64 t469, .int .i64 t470]) := by rw [ha]; exact putSel_on (e := (5, 14, .agg #[.bool t468, .int .i64 t469, .int .i64 t470])) 4 rfl rfl (hon 5 (by kernel_rfl)) rfl
        replace ha := Aside0.mk ha
        have BK460 := Bk.mk Q_BK460
        have BK461 := Bk.mk Q_BK461
        have HB := Bl.mk Q_HB
        have BK471 := Bk.mk (Q_BK471 (hon 6 (by kernel_rfl)) hb_)
        have GW471 := Aside0.mk (Q_GW471 (hon 6 (by kernel_rfl)))
        have GE471 := Gl.mk (Q_GE471 (hon 6 (by kernel_rfl)))
        have NB460_471 := Nb.mk (Q_NB460_471 (hon 6 (by kernel_rfl)))
        have NB471_460 := Nb.mk (Q_NB471_460 (hon 6 (by kernel_rfl)))
        have NB461_471 := Nb.mk (Q_NB461_471 (hon 6 (by kernel_rfl)))
        have NB471_461 := Nb.mk (Q_NB471_461 (hon 6 (by kernel_rfl)))
        have hs20 : w'.cell? ⟨gb471, 0, none⟩ = some (.bool false) := (blk_cell BK471.out 0).trans rfl
        have hfs20 := blk_frozen BK471.out 0
        have hns20_0 := NB460_471.out
        have hns20_1 := NB461_471.out
        have hms20_0 := NB471_460.out
        have hms20_1 := NB471_461.out
        have hs21 : w'.cell? ⟨gb471, 1, none⟩ = some (.int .i64 0) := (blk_cell BK471.out 1).trans rfl
        have hfs21 := blk_frozen BK471.out 1
        have hns21_0 := NB460_471.out
        have hns21_1 := NB461_471.out
        have hms21_0 := NB471_460.out
        have hms21_1 := NB471_461.out
        have hs22 : w'.cell? ⟨gb471, 2, none⟩ = some (.int .i64 0) := (blk_cell BK471.out 2).trans rfl
        have hfs22 := blk_frozen BK471.out 2
        have hns22_0 := NB460_471.out
        have hns22_1 := NB461_471.out
        have hms22_0 := NB471_460.out
        have hms22_1 := NB471_461.out
        refine skip_ (w1 := ?_) (by rfl) rfl ?_ ?_
        rotate_left
        · go_simp
          rfl
        refine hK.out _ _ ⟨gb471, m6_, (by rw [ha.out]; exact putSel_none (v := undef) rfl), bk, bk, bl, fun _ h1_ => absurd ((up_self b 7).symm.trans h1_) (by decide), fun _ => GW471.out, fun _ => GE471.out, fun _ => NB460_471.out, fun _ => NB471_460.out, fun _ => NB461_471.out, fun _ => NB471_461.out, fun _ => bk, Q_X6_⟩
      exact steps_nil
    rintro b a w22 hall ⟨gb471, m6_, ha, Q_BK460, Q_BK461, Q_HB, Q_BK471, Q_GW471, Q_GE471, Q_NB460_471, Q_NB471_460, Q_NB461_471, Q_NB471_461, Q_BK471_e7, Q_X6_⟩
    clear BK460 BK461 HB
    have hb1_ := hall 1 (by kernel_rfl)
    have hb2_ := hall 2 (by kernel_rfl)
    have hb3_ := hall 3 (by kernel_rfl)
    have hb4_ := hall 4 (by kernel_rfl)
    have hb5_ := hall 5 (by kernel_rfl)
    have hb6_ := hall 6 (by kernel_rfl)
    have hb7_ := hall 7 (by kernel_rfl)
    subst ha
    obtain rfl := Q_X6_ hb6_
    simp only [putSel, hb1_, hb2_, hb3_, hb4_, hb5_, hb6_, hb7_, if_true, Act.put, List.setIfInBounds_toArray, List.set_cons_zero, List.set_cons_succ]
    have BK460 := Bk.mk Q_BK460
    clear Q_BK460
    have BK461 := Bk.mk Q_BK461
    clear Q_BK461
    have HB := Bl.mk Q_HB
    clear Q_HB
    clear Q_BK471
    have GW471 := Aside0.mk (Q_GW471 hb6_)
    clear Q_GW471
    have GE471 := Gl.mk (Q_GE471 hb6_)
    clear Q_GE471
    have NB460_471 := Nb.mk (Q_NB460_471 hb6_)
    clear Q_NB460_471
    have NB471_460 := Nb.mk (Q_NB471_460 hb6_)
    clear Q_NB471_460
    have NB461_471 := Nb.mk (Q_NB461_471 hb6_)
    clear Q_NB461_471
    have NB471_461 := Nb.mk (Q_NB471_461 hb6_)
    clear Q_NB471_461
    have BK471 := Bk.mk (Q_BK471_e7 hb7_)
    clear Q_BK471_e7
    clear hall hb1_ hb2_ hb3_ hb4_ hb5_ hb6_ hb7_
    try go_wp2
    have n0_ := Bk.mk (blk_drew BK460.out)
    have n1_ := Bk.mk (blk_drew BK461.out)
    have n2_ := Bk.mk (blk_drew BK471.out)
    have n3_ := Bl.mk (below_drew1 HB.out)
    clear BK460
    clear BK461
    clear BK471
    clear HB
    have BK460 := n0_
    have BK461 := n1_
    have BK471 := n2_
    have HB := n3_
    clear n0_ n1_ n2_ n3_
    refine start_ (n := 8) (S := fun w' => True) (ds := []) #[false, false, false, false, false, false, false, false] (by kernel_rfl) rfl rfl trivial (fun hHeld => ?_); refine with_tabW laws_FnExactSpanDo.tab2 laws_FnExactSpanDo.bits2 (fun HT_ HW_ => ?_)
    generalize w22.drew = w23 at BK460 BK461 BK471 HB hHeld ⊢
    refine pure_ (i := 0) (N := some 15) (v := ?_) (a' := ?_) #[true, false, false, false, false, false, false, false] rfl rfl (any_of HT_.out (by kernel_rfl)) (fun _ _ _ h => h) (Or.inl ⟨by rfl, ?_⟩) ?_ ?_
    rotate_left
    · intro w'
      go_simp
      with_reducible rfl
    rotate_left
    · simp only [Act.put, List.setIfInBounds_toArray, List.set_cons_zero, List.set_cons_succ, i64_w, i32_w]
      rfl
    refine inv_at [1, 2, 3, 4, 5, 6, 7] (fun a0_ b a w' => ∃ (gb481 : Nat) (m6_ : Value), a = putSel a0_ b [(1, 16, .agg #[.bool a1_0, .int .i64 a1_1, .int .i64 a1_2]), (2, 17, .agg #[.bool t462, .int .i64 t463, .int .i64 t464]), (3, 18, .agg #[.bool a2_0, .int .i64 a2_1, .int .i64 a2_2]), (4, 19, .agg #[.bool t465, .int .i64 t466, .int .i64 t467]), (5, 20, .agg #[.bool t478, .int .i64 t479, .int .i64 t480]), (6, 8, m6_)] ∧ (w'.heap[gb460]? = some (.cells #[.bool a1_0, .int .i64 a1_1, .int .i64 a1_2] 34 (0, 0))) ∧ (w'.heap[gb461]? = some (.cells #[.bool a2_0, .int .i64 a2_1, .int .i64 a2_2] 34 (0, 0))) ∧ (w'.heap[gb471]? = some (.cells #[.bool t468, .int .i64 t469, .int .i64 t470] 30 (0, 0))) ∧ (Below w.heap.size w w') ∧ (b 6 = true → b 7 = false → w'.heap[gb481]? = some (.cells #[.bool false, .int .i64 0, .int .i64 0] 30 (0, 0))) ∧ (b 6 = true → w.heap.size ≤ gb481) ∧ (b 6 = true → w.heap.size ≤ gb481) ∧ (b 6 = true → gb460 ≠ gb481) ∧ (b 6 = true → gb481 ≠ gb460) ∧ (b 6 = true → gb461 ≠ gb481) ∧ (b 6 = true → gb481 ≠ gb461) ∧ (b 6 = true → gb471 ≠ gb481) ∧ (b 6 = true → gb481 ≠ gb471) ∧ (b 7 = true → w'.heap[gb481]? = some (.cells #[.bool t478, .int .i64 t479, .int .i64 t480] 30 (0, 0))) ∧ (b 6 = true → (m6_ : Value) = .pointer (some ⟨gb481, 0, none⟩))) HT_.out HW_.out (by kernel_rfl) (by kernel_rfl) ?_ ?_ ?_
    · exact ⟨0, .bool false, by simp only [putSel, Bool.false_eq_true, if_false], BK460.out, BK461.out, BK471.out, HB.out, fun h_ => absurd h_ (by decide), fun h_ => absurd h_ (by decide), fun h_ => absurd h_ (by decide), fun h_ => absurd h_ (by decide), fun h_ => absurd h_ (by decide), fun h_ => absurd h_ (by decide), fun h_ => absurd h_ (by decide), fun h_ => absurd h_ (by decide), fun h_ => absurd h_ (by decide), fun h_ => absurd h_ (by decide), fun h_ => absurd h_ (by decide)⟩
    · skip
      clear BK460 BK461 BK471 HB
      refine steps_cons ?_ ?_
      · rintro b a w' ⟨gb481, m6_, ha, Q_BK460, Q_BK461, Q_BK471, Q_HB, Q_BK481, Q_GW481, Q_GE481, Q_NB460_481, Q_NB481_460, Q_NB461_481, Q_NB481_461, Q_NB471_481, Q_NB481_471, Q_BK481_e7, Q_X6_⟩ hb_ hon hoff
        refine ⟨_, rfl, fun K hK => ?_⟩
        have e4 : a.tmps[4]? = some (.pointer (some ⟨gb460, 0, none⟩)) := by rw [ha]; exact (putSel_off rfl).trans rfl
        replace ha := Aside0.mk ha
        have BK460 := Bk.mk Q_BK460
        have BK461 := Bk.mk Q_BK461
        have BK471 := Bk.mk Q_BK471
        have HB := Bl.mk Q_HB
        have hc0_ : w'.cell? ⟨gb460, 0, none⟩ = some (.bool a1_0) := (blk_cell BK460.out 0).trans rfl
        have hc1_ : w'.cell? ⟨gb460, 1, none⟩ = some (.int .i64 a1_1) := (blk_cell BK460.out 1).trans rfl
        have hc2_ : w'.cell? ⟨gb460, 2, none⟩ = some (.int .i64 a1_2) := (blk_cell BK460.out 2).trans rfl
        refine value_ (w1 := w') (v := .agg #[.bool a1_0, .int .i64 a1_1, .int .i64 a1_2]) (by rfl) rfl ?_ ?_
        · go_simp
          (try simp only [i64_w])
          try rfl
        refine hK.out _ _ ⟨gb481, m6_, (by rw [ha.out]; exact putSel_upk 0 hb_ rfl rfl rfl), Q_BK460, Q_BK461, Q_BK471, Q_HB, Q_BK481, Q_GW481, Q_GE481, Q_NB460_481, Q_NB481_460, Q_NB461_481, Q_NB481_461, Q_NB471_481, Q_NB481_471, fun h0_ => absurd ((hoff 7 (by kernel_rfl)).symm.trans h0_) (by decide), Q_X6_⟩
      refine steps_cons ?_ ?_
      · rintro b a w' ⟨gb481, m6_, ha, Q_BK460, Q_BK461, Q_BK471, Q_HB, Q_BK481, Q_GW481, Q_GE481, Q_NB460_481, Q_NB481_460, Q_NB461_481, Q_NB481_461, Q_NB471_481, Q_NB481_471, Q_BK481_e7, Q_X6_⟩ hb_ hon hoff
        refine ⟨_, rfl, fun K hK => ?_⟩
        have e16 : a.tmps[16]? = some (.agg #[.bool a1_0, .int .i64 a1_1, .int .i64 a1_2]) := by rw [ha]; exact putSel_on (e := (1, 16, .agg #[.bool a1_0, .int .i64 a1_1, .int .i64 a1_2])) 0 rfl rfl (hon 1 (by kernel_rfl)) rfl
        replace ha := Aside0.mk ha
        have BK460 := Bk.mk Q_BK460
        have BK461 := Bk.mk Q_BK461
        have BK471 := Bk.mk Q_BK471
        have HB := Bl.mk Q_HB
        refine goes_ Try.func18 (by kernel_rfl) rfl #[.agg #[.bool a1_0, .int .i64 a1_1, .int .i64 a1_2]] (by rfl) rfl rfl (by first | (simp only [List.map_toArray, List.map_cons, List.map_nil, Act.eval, Array.getD_eq_getD_getElem?, Option.getD_some, e16]; done) | (simp only [List.map_toArray, List.map_cons, List.map_nil, Act.eval, Array.getD_eq_getD_getElem?, Option.getD_some, e16]; rfl)) ?_
        with_reducible refine (laws_toSpan.calls a1_0 a1_1 a1_2 t462 t463 t464 _ A7.out).mono ?_
        rintro e w24 ⟨rfl, hb⟩
        refine ⟨_, rfl, ?_⟩
        have n0_ := Bk.mk (blk_below (g := gb460) bk hb)
        have n1_ := Bk.mk (blk_below (g := gb461) bk hb)
        have n2_ := Bk.mk (blk_below (g := gb471) bk hb)
        have n3_ := Bl.mk (below_step bl hb)
        have z_BK481 := fun (h0_ : b 6 = true) (h1_ : b 7 = false) => (show w24.heap[gb481]? = some (.cells #[.bool false, .int .i64 0, .int .i64 0] 30 (0, 0)) from by first | exact (blk_below (g := gb481) (o := .cells #[.bool false, .int .i64 0, .int .i64 0] 30 (0, 0)) (by (with_reducible repeat (first | refine blk_drewN ?_ _ | refine blk_drew ?_ | refine blk_alloc ?_ _)); exact (Q_BK481 h0_ h1_)) hb))
        clear BK460
        clear BK461
        clear BK471
        clear HB
        have BK460 := n0_
        have BK461 := n1_
        have BK471 := n2_
        have HB := n3_
        clear n0_ n1_ n2_ n3_
        (try clear hb)
        (try clear hb2)
        (try clear hk)
        (try clear hi)
        refine hK.out _ _ ⟨gb481, m6_, (by rw [ha.out]; exact putSel_upk 1 hb_ rfl rfl rfl), bk, bk, bk, bl, z_BK481, Q_GW481, Q_GE481, Q_NB460_481, Q_NB481_460, Q_NB461_481, Q_NB481_461, Q_NB471_481, Q_NB481_471, fun h0_ => absurd ((hoff 7 (by kernel_rfl)).symm.trans h0_) (by decide), Q_X6_⟩
      refine steps_cons ?_ ?_
      · rintro b a w' ⟨gb481, m6_, ha, Q_BK460, Q_BK461, Q_BK471, Q_HB, Q_BK481, Q_GW481, Q_GE481, Q_NB460_481, Q_NB481_460, Q_NB461_481, Q_NB481_461, Q_NB471_481, Q_NB481_471, Q_BK481_e7, Q_X6_⟩ hb_ hon hoff
        refine ⟨_, rfl, fun K hK => ?_⟩
        have e5 : a.tmps[5]? = some (.pointer (some ⟨gb461, 0, none⟩)) := by rw [ha]; exact (putSel_off rfl).trans rfl
        replace ha := Aside0.mk ha
        have BK460 := Bk.mk Q_BK460
        have BK461 := Bk.mk Q_BK461
        have BK471 := Bk.mk Q_BK471
        have HB := Bl.mk Q_HB
        have hc0_ : w'.cell? ⟨gb461, 0, none⟩ = some (.bool a2_0) := (blk_cell BK461.out 0).trans rfl
        have hc1_ : w'.cell? ⟨gb461, 1, none⟩ = some (.int .i64 a2_1) := (blk_cell BK461.out 1).trans rfl
        have hc2_ : w'.cell? ⟨gb461, 2, none⟩ = some (.int .i64 a2_2) := (blk_cell BK461.out 2).trans rfl
        refine value_ (w1 := w') (v := .agg #[.bool a2_0, .int .i64 a2_1, .int .i64 a2_2]) (by rfl) rfl ?_ ?_
        · go_simp
          (try simp only [i64_w])
          try rfl
        refine hK.out _ _ ⟨gb481, m6_, (by rw [ha.out]; exact putSel_upk 2 hb_ rfl rfl rfl), Q_BK460, Q_BK461, Q_BK471, Q_HB, Q_BK481, Q_GW481, Q_GE481, Q_NB460_481, Q_NB481_460, Q_NB461_481, Q_NB481_461, Q_NB471_481, Q_NB481_471, fun h0_ => absurd ((hoff 7 (by kernel_rfl)).symm.trans h0_) (by decide), Q_X6_⟩
      refine steps_cons ?_ ?_
      · rintro b a w' ⟨gb481, m6_, ha, Q_BK460, Q_BK461, Q_BK471, Q_HB, Q_BK481, Q_GW481, Q_GE481, Q_NB460_481, Q_NB481_460, Q_NB461_481, Q_NB481_461, Q_NB471_481, Q_NB481_471, Q_BK481_e7, Q_X6_⟩ hb_ hon hoff
        refine ⟨_, rfl, fun K hK => ?_⟩
        have e18 : a.tmps[18]? = some (.agg #[.bool a2_0, .int .i64 a2_1, .int .i64 a2_2]) := by rw [ha]; exact putSel_on (e := (3, 18, .agg #[.bool a2_0, .int .i64 a2_1, .int .i64 a2_2])) 2 rfl rfl (hon 3 (by kernel_rfl)) rfl
        replace ha := Aside0.mk ha
        have BK460 := Bk.mk Q_BK460
        have BK461 := Bk.mk Q_BK461
        have BK471 := Bk.mk Q_BK471
        have HB := Bl.mk Q_HB
        refine goes_ Try.func18 (by kernel_rfl) rfl #[.agg #[.bool a2_0, .int .i64 a2_1, .int .i64 a2_2]] (by rfl) rfl rfl (by first | (simp only [List.map_toArray, List.map_cons, List.map_nil, Act.eval, Array.getD_eq_getD_getElem?, Option.getD_some, e18]; done) | (simp only [List.map_toArray, List.map_cons, List.map_nil, Act.eval, Array.getD_eq_getD_getElem?, Option.getD_some, e18]; rfl)) ?_
        with_reducible refine (laws_toSpan.calls a2_0 a2_1 a2_2 t465 t466 t467 _ A8.out).mono ?_
        rintro e w26 ⟨rfl, hb⟩
        refine ⟨_, rfl, ?_⟩
        have n0_ := Bk.mk (blk_below (g := gb460) bk hb)
        have n1_ := Bk.mk (blk_below (g := gb461) bk hb)
        have n2_ := Bk.mk (blk_below (g := gb471) bk hb)
        have n3_ := Bl.mk (below_step bl hb)
        have z_BK481 := fun (h0_ : b 6 = true) (h1_ : b 7 = false) => (show w26.heap[gb481]? = some (.cells #[.bool false, .int .i64 0, .int .i64 0] 30 (0, 0)) from by first | exact (blk_below (g := gb481) (o := .cells #[.bool false, .int .i64 0, .int .i64 0] 30 (0, 0)) (by (with_reducible repeat (first | refine blk_drewN ?_ _ | refine blk_drew ?_ | refine blk_alloc ?_ _)); exact (Q_BK481 h0_ h1_)) hb))
        clear BK460
        clear BK461
        clear BK471
        clear HB
        have BK460 := n0_
        have BK461 := n1_
        have BK471 := n2_
        have HB := n3_
        clear n0_ n1_ n2_ n3_
        (try clear hb)
        (try clear hb2)
        (try clear hk)
        (try clear hi)
        refine hK.out _ _ ⟨gb481, m6_, (by rw [ha.out]; exact putSel_upk 3 hb_ rfl rfl rfl), bk, bk, bk, bl, z_BK481, Q_GW481, Q_GE481, Q_NB460_481, Q_NB481_460, Q_NB461_481, Q_NB481_461, Q_NB471_481, Q_NB481_471, fun h0_ => absurd ((hoff 7 (by kernel_rfl)).symm.trans h0_) (by decide), Q_X6_⟩
      refine steps_cons ?_ ?_
      · rintro b a w' ⟨gb481, m6_, ha, Q_BK460, Q_BK461, Q_BK471, Q_HB, Q_BK481, Q_GW481, Q_GE481, Q_NB460_481, Q_NB481_460, Q_NB461_481, Q_NB481_461, Q_NB471_481, Q_NB481_471, Q_BK481_e7, Q_X6_⟩ hb_ hon hoff
        refine ⟨_, rfl, fun K hK => ?_⟩
        have e15 : a.tmps[15]? = some (.int .i64 a0) := by rw [ha]; exact (putSel_off rfl).trans rfl
        have e17 : a.tmps[17]? = some (.agg #[.bool t462, .int .i64 t463, .int .i64 t464]) := by rw [ha]; exact putSel_on (e := (2, 17, .agg #[.bool t462, .int .i64 t463, .int .i64 t464])) 1 rfl rfl (hon 2 (by kernel_rfl)) rfl
        have e19 : a.tmps[19]? = some (.agg #[.bool t465, .int .i64 t466, .int .i64 t467]) := by rw [ha]; exact putSel_on (e := (4, 19, .agg #[.bool t465, .int .i64 t466, .int .i64 t467])) 3 rfl rfl (hon 4 (by kernel_rfl)) rfl
        replace ha := Aside0.mk ha
        have BK460 := Bk.mk Q_BK460
        have BK461 := Bk.mk Q_BK461
        have BK471 := Bk.mk Q_BK471
        have HB := Bl.mk Q_HB
        refine goes_ Try.func22 (by kernel_rfl) rfl #[.int .i64 a0, .agg #[.bool t462, .int .i64 t463, .int .i64 t464], .agg #[.bool t465, .int .i64 t466, .int .i64 t467]] (by rfl) rfl rfl (by first | (simp only [List.map_toArray, List.map_cons, List.map_nil, Act.eval, Array.getD_eq_getD_getElem?, Option.getD_some, e15, e17, e19]; done) | (simp only [List.map_toArray, List.map_cons, List.map_nil, Act.eval, Array.getD_eq_getD_getElem?, Option.getD_some, e15, e17, e19]; rfl)) ?_
        with_reducible refine (impl_SpanDo.calls k a0 t462 t463 t464 t465 t466 t467 t478 t479 t480 _ A9.out).mono ?_
        rintro e w27 ⟨rfl, hb⟩
        refine ⟨_, rfl, ?_⟩
        have n0_ := Bk.mk (blk_below (g := gb460) bk hb)
        have n1_ := Bk.mk (blk_below (g := gb461) bk hb)
        have n2_ := Bk.mk (blk_below (g := gb471) bk hb)
        have n3_ := Bl.mk (below_step bl hb)
        have z_BK481 := fun (h0_ : b 6 = true) (h1_ : b 7 = false) => (show w27.heap[gb481]? = some (.cells #[.bool false, .int .i64 0, .int .i64 0] 30 (0, 0)) from by first | exact (blk_below (g := gb481) (o := .cells #[.bool false, .int .i64 0, .int .i64 0] 30 (0, 0)) (by (with_reducible repeat (first | refine blk_drewN ?_ _ | refine blk_drew ?_ | refine blk_alloc ?_ _)); exact (Q_BK481 h0_ h1_)) hb))
        clear BK460
        clear BK461
        clear BK471
        clear HB
        have BK460 := n0_
        have BK461 := n1_
        have BK471 := n2_
        have HB := n3_
        clear n0_ n1_ n2_ n3_
        (try clear hb)
        (try clear hb2)
        (try clear hk)
        (try clear hi)
        refine hK.out _ _ ⟨gb481, m6_, (by rw [ha.out]; exact putSel_upk 4 hb_ rfl rfl rfl), bk, bk, bk, bl, z_BK481, Q_GW481, Q_GE481, Q_NB460_481, Q_NB481_460, Q_NB461_481, Q_NB481_461, Q_NB471_481, Q_NB481_471, fun h0_ => absurd ((hoff 7 (by kernel_rfl)).symm.trans h0_) (by decide), Q_X6_⟩
      refine steps_cons ?_ ?_
      · rintro b a w' ⟨gb481, m6_, ha, Q_BK460, Q_BK461, Q_BK471, Q_HB, Q_BK481, Q_GW481, Q_GE481, Q_NB460_481, Q_NB481_460, Q_NB461_481, Q_NB481_461, Q_NB471_481, Q_NB481_471, Q_BK481_e7, Q_X6_⟩ hb_ hon hoff
        refine ⟨_, rfl, fun K hK => ?_⟩
        replace ha := Aside0.mk ha
        have BK460 := Bk.mk Q_BK460
        have BK461 := Bk.mk Q_BK461
        have BK471 := Bk.mk Q_BK471
        have HB := Bl.mk Q_HB
        refine box_step ?hg (N := 8) ?hd (cs := #[.bool false, .int .i64 0, .int .i64 0]) (t := 30) ?hr ?_; (case hd => rfl); (case hg => rfl); (case hr => first | (go_simp; done) | (go_simp; rfl))
        intro gb481 hg w24 hbox hb
        have n0_ := Bk.mk (blk_below (g := gb460) bk hb)
        have n1_ := Bk.mk (blk_below (g := gb461) bk hb)
        have n2_ := Bk.mk (blk_below (g := gb471) bk hb)
        have n3_ := Bl.mk (below_step bl hb)
        have n4_ := Bk.mk (hbox)
        have n5_ := Aside0.mk ((by rw [hg]; exact (below_size bl) : w.heap.size ≤ gb481))
        have n6_ := Gl.mk ((by rw [hg]; exact (below_size bl) : w.heap.size ≤ gb481))
        have n7_ := Nb.mk ((by rw [hg]; exact Nat.ne_of_lt (blk_lt (g := gb460) bk) : gb460 ≠ gb481))
        have n8_ := Nb.mk ((by rw [hg]; exact Nat.ne_of_gt (blk_lt (g := gb460) bk) : gb481 ≠ gb460))
        have n9_ := Nb.mk ((by rw [hg]; exact Nat.ne_of_lt (blk_lt (g := gb461) bk) : gb461 ≠ gb481))
        have n10_ := Nb.mk ((by rw [hg]; exact Nat.ne_of_gt (blk_lt (g := gb461) bk) : gb481 ≠ gb461))
        have n11_ := Nb.mk ((by rw [hg]; exact Nat.ne_of_lt (blk_lt (g := gb471) bk) : gb471 ≠ gb481))
        have n12_ := Nb.mk ((by rw [hg]; exact Nat.ne_of_gt (blk_lt (g := gb471) bk) : gb481 ≠ gb471))
        clear BK460
        clear BK461
        clear BK471
        clear HB
        have BK460 := n0_
        have BK461 := n1_
        have BK471 := n2_
        have HB := n3_
        have BK481 := n4_
        have GW481 := n5_
        have GE481 := n6_
        have NB460_481 := n7_
        have NB481_460 := n8_
        have NB461_481 := n9_
        have NB481_461 := n10_
        have NB471_481 := n11_
        have NB481_471 := n12_
        clear n0_ n1_ n2_ n3_ n4_ n5_ n6_ n7_ n8_ n9_ n10_ n11_ n12_
        clear hb hbox hg
        refine hK.out _ _ ⟨gb481, (.pointer (some ⟨gb481, 0, none⟩)), (by rw [ha.out]; exact putSel_upk 5 hb_ rfl rfl rfl), bk, bk, bk, bl, fun _ _ => bk, fun _ => GW481.out, fun _ => GE481.out, fun _ => NB460_481.out, fun _ => NB481_460.out, fun _ => NB461_481.out, fun _ => NB481_461.out, fun _ => NB471_481.out, fun _ => NB481_471.out, fun h0_ => absurd ((hoff 7 (by kernel_rfl)).symm.trans h0_) (by decide), fun _ => rfl⟩
      refine steps_cons ?_ ?_
      · rintro b a w' ⟨gb481, m6_, ha, Q_BK460, Q_BK461, Q_BK471, Q_HB, Q_BK481, Q_GW481, Q_GE481, Q_NB460_481, Q_NB481_460, Q_NB461_481, Q_NB481_461, Q_NB471_481, Q_NB481_471, Q_BK481_e7, Q_X6_⟩ hb_ hon hoff
        refine ⟨_, rfl, fun K hK => ?_⟩
        have e8 : a.tmps[8]? = some (m6_) := by rw [ha]; exact putSel_on (e := (6, 8, m6_)) 5 rfl rfl (hon 6 (by kernel_rfl)) rfl
        rw [Q_X6_ (hon 6 (by kernel_rfl))] at e8
        have e20 : a.tmps[20]? = some (.agg #[.bool t478, .int .i64 t479, .int .i64 t480]) := by rw [ha]; exact putSel_on (e := (5, 20, .agg #[.bool t478, .int .i64 t479, .int .i64 t480])) 4 rfl rfl (hon 5 (by kernel_rfl)) rfl
        replace ha := Aside0.mk ha
        have BK460 := Bk.mk Q_BK460
        have BK461 := Bk.mk Q_BK461
        have BK471 := Bk.mk Q_BK471
        have HB := Bl.mk Q_HB
        have BK481 := Bk.mk (Q_BK481 (hon 6 (by kernel_rfl)) hb_)
        have GW481 := Aside0.mk (Q_GW481 (hon 6 (by kernel_rfl)))
        have GE481 := Gl.mk (Q_GE481 (hon 6 (by kernel_rfl)))
        have NB460_481 := Nb.mk (Q_NB460_481 (hon 6 (by kernel_rfl)))
        have NB481_460 := Nb.mk (Q_NB481_460 (hon 6 (by kernel_rfl)))
        have NB461_481 := Nb.mk (Q_NB461_481 (hon 6 (by kernel_rfl)))
        have NB481_461 := Nb.mk (Q_NB481_461 (hon 6 (by kernel_rfl)))
        have NB471_481 := Nb.mk (Q_NB471_481 (hon 6 (by kernel_rfl)))
        have NB481_471 := Nb.mk (Q_NB481_471 (hon 6 (by kernel_rfl)))
        have hs29 : w'.cell? ⟨gb481, 0, none⟩ = some (.bool false) := (blk_cell BK481.out 0).trans rfl
        have hfs29 := blk_frozen BK481.out 0
        have hns29_0 := NB460_481.out
        have hns29_1 := NB461_481.out
        have hns29_2 := NB471_481.out
        have hms29_0 := NB481_460.out
        have hms29_1 := NB481_461.out
        have hms29_2 := NB481_471.out
        have hs30 : w'.cell? ⟨gb481, 1, none⟩ = some (.int .i64 0) := (blk_cell BK481.out 1).trans rfl
        have hfs30 := blk_frozen BK481.out 1
        have hns30_0 := NB460_481.out
        have hns30_1 := NB461_481.out
        have hns30_2 := NB471_481.out
        have hms30_0 := NB481_460.out
        have hms30_1 := NB481_461.out
        have hms30_2 := NB481_471.out
        have hs31 : w'.cell? ⟨gb481, 2, none⟩ = some (.int .i64 0) := (blk_cell BK481.out 2).trans rfl
        have hfs31 := blk_frozen BK481.out 2
        have hns31_0 := NB460_481.out
        have hns31_1 := NB461_481.out
        have hns31_2 := NB471_481.out
        have hms31_0 := NB481_460.out
        have hms31_1 := NB481_461.out
        have hms31_2 := NB481_471.out
        refine skip_ (w1 := ?_) (by rfl) rfl ?_ ?_
        rotate_left
        · go_simp
          rfl
        refine hK.out _ _ ⟨gb481, m6_, (by rw [ha.out]; exact putSel_none (v := undef) rfl), bk, bk, bk, bl, fun _ h1_ => absurd ((up_self b 7).symm.trans h1_) (by decide), fun _ => GW481.out, fun _ => GE481.out, fun _ => NB460_481.out, fun _ => NB481_460.out, fun _ => NB461_481.out, fun _ => NB481_461.out, fun _ => NB471_481.out, fun _ => NB481_471.out, fun _ => bk, Q_X6_⟩
      exact steps_nil
    rintro b a w31 hall ⟨gb481, m6_, ha, Q_BK460, Q_BK461, Q_BK471, Q_HB, Q_BK481, Q_GW481, Q_GE481, Q_NB460_481, Q_NB481_460, Q_NB461_481, Q_NB481_461, Q_NB471_481, Q_NB481_471, Q_BK481_e7, Q_X6_⟩
    clear BK460 BK461 BK471 HB
    have hb1_ := hall 1 (by kernel_rfl)
    have hb2_ := hall 2 (by kernel_rfl)
    have hb3_ := hall 3 (by kernel_rfl)
    have hb4_ := hall 4 (by kernel_rfl)
    have hb5_ := hall 5 (by kernel_rfl)
    have hb6_ := hall 6 (by kernel_rfl)
    have hb7_ := hall 7 (by kernel_rfl)
    subst ha
    obtain rfl := Q_X6_ hb6_
    simp only [putSel, hb1_, hb2_, hb3_, hb4_, hb5_, hb6_, hb7_, if_true, Act.put, List.setIfInBounds_toArray, List.set_cons_zero, List.set_cons_succ]
    have BK460 := Bk.mk Q_BK460
    clear Q_BK460
    have BK461 := Bk.mk Q_BK461
    clear Q_BK461
    have BK471 := Bk.mk Q_BK471
    clear Q_BK471
    have HB := Bl.mk Q_HB
    clear Q_HB
    clear Q_BK481
    have GW481 := Aside0.mk (Q_GW481 hb6_)
    clear Q_GW481
    have GE481 := Gl.mk (Q_GE481 hb6_)
    clear Q_GE481
    have NB460_481 := Nb.mk (Q_NB460_481 hb6_)
    clear Q_NB460_481
    have NB481_460 := Nb.mk (Q_NB481_460 hb6_)
    clear Q_NB481_460
    have NB461_481 := Nb.mk (Q_NB461_481 hb6_)
    clear Q_NB461_481
    have NB481_461 := Nb.mk (Q_NB481_461 hb6_)
    clear Q_NB481_461
    have NB471_481 := Nb.mk (Q_NB471_481 hb6_)
    clear Q_NB471_481
    have NB481_471 := Nb.mk (Q_NB481_471 hb6_)
    clear Q_NB481_471
    have BK481 := Bk.mk (Q_BK481_e7 hb7_)
    clear Q_BK481_e7
    clear hall hb1_ hb2_ hb3_ hb4_ hb5_ hb6_ hb7_
    have hnb32 := NB481_460.out
    have hnc32 := NB460_481.out
    have hnb33 := NB481_461.out
    have hnc33 := NB461_481.out
    have hnb34 := NB481_471.out
    have hnc34 := NB471_481.out
    have hcz35_0 := bc0 BK481.out
    have hcz35_1 := bc1 BK481.out
    have hcz35_2 := bc2 BK481.out
    have hfz35_0 := blk_frozen BK481.out 0
    have hfz35_1 := blk_frozen BK481.out 1
    have hfz35_2 := blk_frozen BK481.out 2
    have hnb36 := NB471_460.out
    have hnc36 := NB460_471.out
    have hnb37 := NB471_461.out
    have hnc37 := NB461_471.out
    have hcz38_0 := bc0 BK471.out
    have hcz38_1 := bc1 BK471.out
    have hcz38_2 := bc2 BK471.out
    have hfz38_0 := blk_frozen BK471.out 0
    have hfz38_1 := blk_frozen BK471.out 1
    have hfz38_2 := blk_frozen BK471.out 2
    try go_wp2_with (first | ((with_reducible refine gate_callee (f := 20) rfl ?_); refine goesL_ (some 23) rfl rfl Try.func20 (by kernel_rfl) rfl #[.agg #[.bool t478, .int .i64 t479, .int .i64 t480], .agg #[.bool t468, .int .i64 t469, .int .i64 t470]] rfl (by (try simp only [List.map_toArray, List.map_cons, List.map_nil]); first | done | rfl | (simp only [List.length_drop, List.length_take]; rfl)) ?_; (with_reducible refine (laws_eqSpan.calls t478 t479 t480 t468 t469 t470 true _ A10.out).mono ?_); rintro e w39 ⟨rfl, hb⟩; refine ⟨_, rfl, ?_⟩; have n0_ := Bk.mk (blk_below (g := gb460) bk hb); have n1_ := Bk.mk (blk_below (g := gb461) bk hb); have n2_ := Bk.mk (blk_below (g := gb471) bk hb); have n3_ := Bk.mk (blk_below (g := gb481) bk hb); have n4_ := Bl.mk (below_step bl hb); clear BK460; clear BK461; clear BK471; clear BK481; clear HB; have BK460 := n0_; have BK461 := n1_; have BK471 := n2_; have BK481 := n3_; have HB := n4_; clear n0_ n1_ n2_ n3_ n4_; (try clear hb); (try clear hb2); (try clear hk); (try clear hi)))
    go_ret
    exact ⟨by first | rfl | (simp [errW_none, errW_some] <;> rfl) | (simp [*, errW_none, errW_some] <;> rfl), bl⟩
  · replace c11 := Bool.eq_false_iff.mpr c11
    subst c11
    rw [if_neg (show ¬ (false = true) by decide)] at H
    obtain rfl := Option.some.inj H
    go_enter Try.func7, Try.ntmps7
    try go_wp2_with (first | ((with_reducible refine gate_dst (N := 4) rfl ?_); refine box_event ?hg (N := 4) ?hd (cs := #[.bool a1_0, .int .i64 a1_1, .int .i64 a1_2]) (t := 34) ?hr ?_; (case hd => rfl); (case hg => rfl); (case hr => first | (go_simp; done) | (go_simp; rfl)); intro gb460 hg w40 hbox hb; have n0_ := Bl.mk (below_step bl hb); have n1_ := Bk.mk (hbox); have n2_ := Aside0.mk ((by rw [hg]; exact (below_size bl) : w.heap.size ≤ gb460)); have n3_ := Gl.mk ((by rw [hg]; exact (below_size bl) : w.heap.size ≤ gb460)); clear HB; have HB := n0_; have BK460 := n1_; have GW460 := n2_; have GE460 := n3_; clear n0_ n1_ n2_ n3_; clear hb hbox hg) | ((with_reducible refine gate_dst (N := 5) rfl ?_); refine box_event ?hg (N := 5) ?hd (cs := #[.bool a2_0, .int .i64 a2_1, .int .i64 a2_2]) (t := 34) ?hr ?_; (case hd => rfl); (case hg => rfl); (case hr => first | (go_simp; done) | (go_simp; rfl)); intro gb461 hg w41 hbox hb; have n0_ := Bk.mk (blk_below (g := gb460) bk hb); have n1_ := Bl.mk (below_step bl hb); have n2_ := Bk.mk (hbox); have n3_ := Aside0.mk ((by rw [hg]; exact (below_size bl) : w.heap.size ≤ gb461)); have n4_ := Gl.mk ((by rw [hg]; exact (below_size bl) : w.heap.size ≤ gb461)); have n5_ := Nb.mk ((by rw [hg]; exact Nat.ne_of_lt (blk_lt (g := gb460) bk) : gb460 ≠ gb461)); have n6_ := Nb.mk ((by rw [hg]; exact Nat.ne_of_gt (blk_lt (g := gb460) bk) : gb461 ≠ gb460)); clear BK460; clear HB; have BK460 := n0_; have HB := n1_; have BK461 := n2_; have GW461 := n3_; have GE461 := n4_; have NB460_461 := n5_; have NB461_460 := n6_; clear n0_ n1_ n2_ n3_ n4_ n5_ n6_; clear hb hbox hg))
    have n0_ := Bk.mk (blk_drew BK460.out)
    have n1_ := Bk.mk (blk_drew BK461.out)
    have n2_ := Bl.mk (below_drew1 HB.out)
    clear BK460
    clear BK461
    clear HB
    have BK460 := n0_
    have BK461 := n1_
    have HB := n2_
    clear n0_ n1_ n2_
    refine start_ (n := 8) (S := fun w' => True) (ds := []) #[false, false, false, false, false, false, false, false] (by kernel_rfl) rfl rfl trivial (fun hHeld => ?_); refine with_tabW laws_FnExactSpanDo.tab1 laws_FnExactSpanDo.bits1 (fun HT_ HW_ => ?_)
    generalize w41.drew = w42 at BK460 BK461 HB hHeld ⊢
    refine pure_ (i := 0) (N := some 9) (v := ?_) (a' := ?_) #[true, false, false, false, false, false, false, false] rfl rfl (any_of HT_.out (by kernel_rfl)) (fun _ _ _ h => h) (Or.inl ⟨by rfl, ?_⟩) ?_ ?_
    rotate_left
    · intro w'
      go_simp
      with_reducible rfl
    rotate_left
    · simp only [Act.put, List.setIfInBounds_toArray, List.set_cons_zero, List.set_cons_succ, i64_w, i32_w]
      rfl
    refine inv_at [1, 2, 3, 4, 5, 6, 7] (fun a0_ b a w' => ∃ (gb471 : Nat) (m6_ : Value), a = putSel a0_ b [(1, 10, .agg #[.bool a1_0, .int .i64 a1_1, .int .i64 a1_2]), (2, 11, .agg #[.bool t462, .int .i64 t463, .int .i64 t464]), (3, 12, .agg #[.bool a2_0, .int .i64 a2_1, .int .i64 a2_2]), (4, 13, .agg #[.bool t465, .int .i64 t466, .int .i64 t467]), (5, 14, .agg #[.bool t468, .int .i64 t469, .int .i64 t470]), (6, 7, m6_)] ∧ (w'.heap[gb460]? = some (.cells #[.bool a1_0, .int .i64 a1_1, .int .i64 a1_2] 34 (0, 0))) ∧ (w'.heap[gb461]? = some (.cells #[.bool a2_0, .int .i64 a2_1, .int .i64 a2_2] 34 (0, 0))) ∧ (Below w.heap.size w w') ∧ (b 6 = true → b 7 = false → w'.heap[gb471]? = some (.cells #[.bool false, .int .i64 0, .int .i64 0] 30 (0, 0))) ∧ (b 6 = true → w.heap.size ≤ gb471) ∧ (b 6 = true → w.heap.size ≤ gb471) ∧ (b 6 = true → gb460 ≠ gb471) ∧ (b 6 = true → gb471 ≠ gb460) ∧ (b 6 = true → gb461 ≠ gb471) ∧ (b 6 = true → gb471 ≠ gb461) ∧ (b 7 = true → w'.heap[gb471]? = some (.cells #[.bool t468, .int .i64 t469, .int .i64 t470] 30 (0, 0))) ∧ (b 6 = true → (m6_ : Value) = .pointer (some ⟨gb471, 0, none⟩))) HT_.out HW_.out (by kernel_rfl) (by kernel_rfl) ?_ ?_ ?_
    · exact ⟨0, .bool false, by simp only [putSel, Bool.false_eq_true, if_false], BK460.out, BK461.out, HB.out, fun h_ => absurd h_ (by decide), fun h_ => absurd h_ (by decide), fun h_ => absurd h_ (by decide), fun h_ => absurd h_ (by decide), fun h_ => absurd h_ (by decide), fun h_ => absurd h_ (by decide), fun h_ => absurd h_ (by decide), fun h_ => absurd h_ (by decide), fun h_ => absurd h_ (by decide)⟩
    · skip
      clear BK460 BK461 HB
      refine steps_cons ?_ ?_
      · rintro b a w' ⟨gb471, m6_, ha, Q_BK460, Q_BK461, Q_HB, Q_BK471, Q_GW471, Q_GE471, Q_NB460_471, Q_NB471_460, Q_NB461_471, Q_NB471_461, Q_BK471_e7, Q_X6_⟩ hb_ hon hoff
        refine ⟨_, rfl, fun K hK => ?_⟩
        have e4 : a.tmps[4]? = some (.pointer (some ⟨gb460, 0, none⟩)) := by rw [ha]; exact (putSel_off rfl).trans rfl
        replace ha := Aside0.mk ha
        have BK460 := Bk.mk Q_BK460
        have BK461 := Bk.mk Q_BK461
        have HB := Bl.mk Q_HB
        have hc0_ : w'.cell? ⟨gb460, 0, none⟩ = some (.bool a1_0) := (blk_cell BK460.out 0).trans rfl
        have hc1_ : w'.cell? ⟨gb460, 1, none⟩ = some (.int .i64 a1_1) := (blk_cell BK460.out 1).trans rfl
        have hc2_ : w'.cell? ⟨gb460, 2, none⟩ = some (.int .i64 a1_2) := (blk_cell BK460.out 2).trans rfl
        refine value_ (w1 := w') (v := .agg #[.bool a1_0, .int .i64 a1_1, .int .i64 a1_2]) (by rfl) rfl ?_ ?_
        · go_simp
          (try simp only [i64_w])
          try rfl
        refine hK.out _ _ ⟨gb471, m6_, (by rw [ha.out]; exact putSel_upk 0 hb_ rfl rfl rfl), Q_BK460, Q_BK461, Q_HB, Q_BK471, Q_GW471, Q_GE471, Q_NB460_471, Q_NB471_460, Q_NB461_471, Q_NB471_461, fun h0_ => absurd ((hoff 7 (by kernel_rfl)).symm.trans h0_) (by decide), Q_X6_⟩
      refine steps_cons ?_ ?_
      · rintro b a w' ⟨gb471, m6_, ha, Q_BK460, Q_BK461, Q_HB, Q_BK471, Q_GW471, Q_GE471, Q_NB460_471, Q_NB471_460, Q_NB461_471, Q_NB471_461, Q_BK471_e7, Q_X6_⟩ hb_ hon hoff
        refine ⟨_, rfl, fun K hK => ?_⟩
        have e10 : a.tmps[10]? = some (.agg #[.bool a1_0, .int .i64 a1_1, .int .i64 a1_2]) := by rw [ha]; exact putSel_on (e := (1, 10, .agg #[.bool a1_0, .int .i64 a1_1, .int .i64 a1_2])) 0 rfl rfl (hon 1 (by kernel_rfl)) rfl
        replace ha := Aside0.mk ha
        have BK460 := Bk.mk Q_BK460
        have BK461 := Bk.mk Q_BK461
        have HB := Bl.mk Q_HB
        refine goes_ Try.func18 (by kernel_rfl) rfl #[.agg #[.bool a1_0, .int .i64 a1_1, .int .i64 a1_2]] (by rfl) rfl rfl (by first | (simp only [List.map_toArray, List.map_cons, List.map_nil, Act.eval, Array.getD_eq_getD_getElem?, Option.getD_some, e10]; done) | (simp only [List.map_toArray, List.map_cons, List.map_nil, Act.eval, Array.getD_eq_getD_getElem?, Option.getD_some, e10]; rfl)) ?_
        with_reducible refine (laws_toSpan.calls a1_0 a1_1 a1_2 t462 t463 t464 _ A4.out).mono ?_
        rintro e w43 ⟨rfl, hb⟩
        refine ⟨_, rfl, ?_⟩
        have n0_ := Bk.mk (blk_below (g := gb460) bk hb)
        have n1_ := Bk.mk (blk_below (g := gb461) bk hb)
        have n2_ := Bl.mk (below_step bl hb)
        have z_BK471 := fun (h0_ : b 6 = true) (h1_ : b 7 = false) => (show w43.heap[gb471]? = some (.cells #[.bool false, .int .i64 0, .int .i64 0] 30 (0, 0)) from by first | exact (blk_below (g := gb471) (o := .cells #[.bool false, .int .i64 0, .int .i64 0] 30 (0, 0)) (by (with_reducible repeat (first | refine blk_drewN ?_ _ | refine blk_drew ?_ | refine blk_alloc ?_ _)); exact (Q_BK471 h0_ h1_)) hb))
        clear BK460
        clear BK461
        clear HB
        have BK460 := n0_
        have BK461 := n1_
        have HB := n2_
        clear n0_ n1_ n2_
        (try clear hb)
        (try clear hb2)
        (try clear hk)
        (try clear hi)
        refine hK.out _ _ ⟨gb471, m6_, (by rw [ha.out]; exact putSel_upk 1 hb_ rfl rfl rfl), bk, bk, bl, z_BK471, Q_GW471, Q_GE471, Q_NB460_471, Q_NB471_460, Q_NB461_471, Q_NB471_461, fun h0_ => absurd ((hoff 7 (by kernel_rfl)).symm.trans h0_) (by decide), Q_X6_⟩
      refine steps_cons ?_ ?_
      · rintro b a w' ⟨gb471, m6_, ha, Q_BK460, Q_BK461, Q_HB, Q_BK471, Q_GW471, Q_GE471, Q_NB460_471, Q_NB471_460, Q_NB461_471, Q_NB471_461, Q_BK471_e7, Q_X6_⟩ hb_ hon hoff
        refine ⟨_, rfl, fun K hK => ?_⟩
        have e5 : a.tmps[5]? = some (.pointer (some ⟨gb461, 0, none⟩)) := by rw [ha]; exact (putSel_off rfl).trans rfl
        replace ha := Aside0.mk ha
        have BK460 := Bk.mk Q_BK460
        have BK461 := Bk.mk Q_BK461
        have HB := Bl.mk Q_HB
        have hc0_ : w'.cell? ⟨gb461, 0, none⟩ = some (.bool a2_0) := (blk_cell BK461.out 0).trans rfl
        have hc1_ : w'.cell? ⟨gb461, 1, none⟩ = some (.int .i64 a2_1) := (blk_cell BK461.out 1).trans rfl
        have hc2_ : w'.cell? ⟨gb461, 2, none⟩ = some (.int .i64 a2_2) := (blk_cell BK461.out 2).trans rfl
        refine value_ (w1 := w') (v := .agg #[.bool a2_0, .int .i64 a2_1, .int .i64 a2_2]) (by rfl) rfl ?_ ?_
        · go_simp
          (try simp only [i64_w])
          try rfl
        refine hK.out _ _ ⟨gb471, m6_, (by rw [ha.out]; exact putSel_upk 2 hb_ rfl rfl rfl), Q_BK460, Q_BK461, Q_HB, Q_BK471, Q_GW471, Q_GE471, Q_NB460_471, Q_NB471_460, Q_NB461_471, Q_NB471_461, fun h0_ => absurd ((hoff 7 (by kernel_rfl)).symm.trans h0_) (by decide), Q_X6_⟩
      refine steps_cons ?_ ?_
      · rintro b a w' ⟨gb471, m6_, ha, Q_BK460, Q_BK461, Q_HB, Q_BK471, Q_GW471, Q_GE471, Q_NB460_471, Q_NB471_460, Q_NB461_471, Q_NB471_461, Q_BK471_e7, Q_X6_⟩ hb_ hon hoff
        refine ⟨_, rfl, fun K hK => ?_⟩
        have e12 : a.tmps[12]? = some (.agg #[.bool a2_0, .int .i64 a2_1, .int .i64 a2_2]) := by rw [ha]; exact putSel_on (e := (3, 12, .agg #[.bool a2_0, .int .i64 a2_1, .int .i64 a2_2])) 2 rfl rfl (hon 3 (by kernel_rfl)) rfl
        replace ha := Aside0.mk ha
        have BK460 := Bk.mk Q_BK460
        have BK461 := Bk.mk Q_BK461
        have HB := Bl.mk Q_HB
        refine goes_ Try.func18 (by kernel_rfl) rfl #[.agg #[.bool a2_0, .int .i64 a2_1, .int .i64 a2_2]] (by rfl) rfl rfl (by first | (simp only [List.map_toArray, List.map_cons, List.map_nil, Act.eval, Array.getD_eq_getD_getElem?, Option.getD_some, e12]; done) | (simp only [List.map_toArray, List.map_cons, List.map_nil, Act.eval, Array.getD_eq_getD_getElem?, Option.getD_some, e12]; rfl)) ?_
        with_reducible refine (laws_toSpan.calls a2_0 a2_1 a2_2 t465 t466 t467 _ A5.out).mono ?_
        rintro e w45 ⟨rfl, hb⟩
        refine ⟨_, rfl, ?_⟩
        have n0_ := Bk.mk (blk_below (g := gb460) bk hb)
        have n1_ := Bk.mk (blk_below (g := gb461) bk hb)
        have n2_ := Bl.mk (below_step bl hb)
        have z_BK471 := fun (h0_ : b 6 = true) (h1_ : b 7 = false) => (show w45.heap[gb471]? = some (.cells #[.bool false, .int .i64 0, .int .i64 0] 30 (0, 0)) from by first | exact (blk_below (g := gb471) (o := .cells #[.bool false, .int .i64 0, .int .i64 0] 30 (0, 0)) (by (with_reducible repeat (first | refine blk_drewN ?_ _ | refine blk_drew ?_ | refine blk_alloc ?_ _)); exact (Q_BK471 h0_ h1_)) hb))
        clear BK460
        clear BK461
        clear HB
        have BK460 := n0_
        have BK461 := n1_
        have HB := n2_
        clear n0_ n1_ n2_
        (try clear hb)
        (try clear hb2)
        (try clear hk)
        (try clear hi)
        refine hK.out _ _ ⟨gb471, m6_, (by rw [ha.out]; exact putSel_upk 3 hb_ rfl rfl rfl), bk, bk, bl, z_BK471, Q_GW471, Q_GE471, Q_NB460_471, Q_NB471_460, Q_NB461_471, Q_NB471_461, fun h0_ => absurd ((hoff 7 (by kernel_rfl)).symm.trans h0_) (by decide), Q_X6_⟩
      refine steps_cons ?_ ?_
      · rintro b a w' ⟨gb471, m6_, ha, Q_BK460, Q_BK461, Q_HB, Q_BK471, Q_GW471, Q_GE471, Q_NB460_471, Q_NB471_460, Q_NB461_471, Q_NB471_461, Q_BK471_e7, Q_X6_⟩ hb_ hon hoff
        refine ⟨_, rfl, fun K hK => ?_⟩
        have e9 : a.tmps[9]? = some (.int .i64 a0) := by rw [ha]; exact (putSel_off rfl).trans rfl
        have e11 : a.tmps[11]? = some (.agg #[.bool t462, .int .i64 t463, .int .i64 t464]) := by rw [ha]; exact putSel_on (e := (2, 11, .agg #[.bool t462, .int .i64 t463, .int .i64 t464])) 1 rfl rfl (hon 2 (by kernel_rfl)) rfl
        have e13 : a.tmps[13]? = some (.agg #[.bool t465, .int .i64 t466, .int .i64 t467]) := by rw [ha]; exact putSel_on (e := (4, 13, .agg #[.bool t465, .int .i64 t466, .int .i64 t467])) 3 rfl rfl (hon 4 (by kernel_rfl)) rfl
        replace ha := Aside0.mk ha
        have BK460 := Bk.mk Q_BK460
        have BK461 := Bk.mk Q_BK461
        have HB := Bl.mk Q_HB
        refine goes_ Try.func21 (by kernel_rfl) rfl #[.int .i64 a0, .agg #[.bool t462, .int .i64 t463, .int .i64 t464], .agg #[.bool t465, .int .i64 t466, .int .i64 t467]] (by rfl) rfl rfl (by first | (simp only [List.map_toArray, List.map_cons, List.map_nil, Act.eval, Array.getD_eq_getD_getElem?, Option.getD_some, e9, e11, e13]; done) | (simp only [List.map_toArray, List.map_cons, List.map_nil, Act.eval, Array.getD_eq_getD_getElem?, Option.getD_some, e9, e11, e13]; rfl)) ?_
        with_reducible refine (spec_SpanDo.calls k a0 t462 t463 t464 t465 t466 t467 t468 t469 t470 _ A6.out).mono ?_
        rintro e w46 ⟨rfl, hb⟩
        refine ⟨_, rfl, ?_⟩
        have n0_ := Bk.mk (blk_below (g := gb460) bk hb)
        have n1_ := Bk.mk (blk_below (g := gb461) bk hb)
        have n2_ := Bl.mk (below_step bl hb)
        have z_BK471 := fun (h0_ : b 6 = true) (h1_ : b 7 = false) => (show w46.heap[gb471]? = some (.cells #[.bool false, .int .i64 0, .int .i64 0] 30 (0, 0)) from by first | exact (blk_below (g := gb471) (o := .cells #[.bool false, .int .i64 0, .int .i64 0] 30 (0, 0)) (by (with_reducible repeat (first | refine blk_drewN ?_ _ | refine blk_drew ?_ | refine blk_alloc ?_ _)); exact (Q_BK471 h0_ h1_)) hb))
        clear BK460
        clear BK461
        clear HB
        have BK460 := n0_
        have BK461 := n1_
        have HB := n2_
        clear n0_ n1_ n2_
        (try clear hb)
        (try clear hb2)
        (try clear hk)
        (try clear hi)
        refine hK.out _ _ ⟨gb471, m6_, (by rw [ha.out]; exact putSel_upk 4 hb_ rfl rfl rfl), bk, bk, bl, z_BK471, Q_GW471, Q_GE471, Q_NB460_471, Q_NB471_460, Q_NB461_471, Q_NB471_461, fun h0_ => absurd ((hoff 7 (by kernel_rfl)).symm.trans h0_) (by decide), Q_X6_⟩
      refine steps_cons ?_ ?_
      · rintro b a w' ⟨gb471, m6_, ha, Q_BK460, Q_BK461, Q_HB, Q_BK471, Q_GW471, Q_GE471, Q_NB460_471, Q_NB471_460, Q_NB461_471, Q_NB471_461, Q_BK471_e7, Q_X6_⟩ hb_ hon hoff
        refine ⟨_, rfl, fun K hK => ?_⟩
        replace ha := Aside0.mk ha
        have BK460 := Bk.mk Q_BK460
        have BK461 := Bk.mk Q_BK461
        have HB := Bl.mk Q_HB
        refine box_step ?hg (N := 7) ?hd (cs := #[.bool false, .int .i64 0, .int .i64 0]) (t := 30) ?hr ?_; (case hd => rfl); (case hg => rfl); (case hr => first | (go_simp; done) | (go_simp; rfl))
        intro gb471 hg w43 hbox hb
        have n0_ := Bk.mk (blk_below (g := gb460) bk hb)
        have n1_ := Bk.mk (blk_below (g := gb461) bk hb)
        have n2_ := Bl.mk (below_step bl hb)
        have n3_ := Bk.mk (hbox)
        have n4_ := Aside0.mk ((by rw [hg]; exact (below_size bl) : w.heap.size ≤ gb471))
        have n5_ := Gl.mk ((by rw [hg]; exact (below_size bl) : w.heap.size ≤ gb471))
        have n6_ := Nb.mk ((by rw [hg]; exact Nat.ne_of_lt (blk_lt (g := gb460) bk) : gb460 ≠ gb471))
        have n7_ := Nb.mk ((by rw [hg]; exact Nat.ne_of_gt (blk_lt (g := gb460) bk) : gb471 ≠ gb460))
        have n8_ := Nb.mk ((by rw [hg]; exact Nat.ne_of_lt (blk_lt (g := gb461) bk) : gb461 ≠ gb471))
        have n9_ := Nb.mk ((by rw [hg]; exact Nat.ne_of_gt (blk_lt (g := gb461) bk) : gb471 ≠ gb461))
        clear BK460
        clear BK461
        clear HB
        have BK460 := n0_
        have BK461 := n1_
        have HB := n2_
        have BK471 := n3_
        have GW471 := n4_
        have GE471 := n5_
        have NB460_471 := n6_
        have NB471_460 := n7_
        have NB461_471 := n8_
        have NB471_461 := n9_
        clear n0_ n1_ n2_ n3_ n4_ n5_ n6_ n7_ n8_ n9_
        clear hb hbox hg
        refine hK.out _ _ ⟨gb471, (.pointer (some ⟨gb471, 0, none⟩)), (by rw [ha.out]; exact putSel_upk 5 hb_ rfl rfl rfl), bk, bk, bl, fun _ _ => bk, fun _ => GW471.out, fun _ => GE471.out, fun _ => NB460_471.out, fun _ => NB471_460.out, fun _ => NB461_471.out, fun _ => NB471_461.out, fun h0_ => absurd ((hoff 7 (by kernel_rfl)).symm.trans h0_) (by decide), fun _ => rfl⟩
      refine steps_cons ?_ ?_
      · rintro b a w' ⟨gb471, m6_, ha, Q_BK460, Q_BK461, Q_HB, Q_BK471, Q_GW471, Q_GE471, Q_NB460_471, Q_NB471_460, Q_NB461_471, Q_NB471_461, Q_BK471_e7, Q_X6_⟩ hb_ hon hoff
        refine ⟨_, rfl, fun K hK => ?_⟩
        have e7 : a.tmps[7]? = some (m6_) := by rw [ha]; exact putSel_on (e := (6, 7, m6_)) 5 rfl rfl (hon 6 (by kernel_rfl)) rfl
        rw [Q_X6_ (hon 6 (by kernel_rfl))] at e7
        have e14 : a.tmps[14]? = some (.agg #[.bool t468, .int .i64 t469, .int .i64 t470]) := by rw [ha]; exact putSel_on (e := (5, 14, .agg #[.bool t468, .int .i64 t469, .int .i64 t470])) 4 rfl rfl (hon 5 (by kernel_rfl)) rfl
        replace ha := Aside0.mk ha
        have BK460 := Bk.mk Q_BK460
        have BK461 := Bk.mk Q_BK461
        have HB := Bl.mk Q_HB
        have BK471 := Bk.mk (Q_BK471 (hon 6 (by kernel_rfl)) hb_)
        have GW471 := Aside0.mk (Q_GW471 (hon 6 (by kernel_rfl)))
        have GE471 := Gl.mk (Q_GE471 (hon 6 (by kernel_rfl)))
        have NB460_471 := Nb.mk (Q_NB460_471 (hon 6 (by kernel_rfl)))
        have NB471_460 := Nb.mk (Q_NB471_460 (hon 6 (by kernel_rfl)))
        have NB461_471 := Nb.mk (Q_NB461_471 (hon 6 (by kernel_rfl)))
        have NB471_461 := Nb.mk (Q_NB471_461 (hon 6 (by kernel_rfl)))
        have hs48 : w'.cell? ⟨gb471, 0, none⟩ = some (.bool false) := (blk_cell BK471.out 0).trans rfl
        have hfs48 := blk_frozen BK471.out 0
        have hns48_0 := NB460_471.out
        have hns48_1 := NB461_471.out
        have hms48_0 := NB471_460.out
        have hms48_1 := NB471_461.out
        have hs49 : w'.cell? ⟨gb471, 1, none⟩ = some (.int .i64 0) := (blk_cell BK471.out 1).trans rfl
        have hfs49 := blk_frozen BK471.out 1
        have hns49_0 := NB460_471.out
        have hns49_1 := NB461_471.out
        have hms49_0 := NB471_460.out
        have hms49_1 := NB471_461.out
        have hs50 : w'.cell? ⟨gb471, 2, none⟩ = some (.int .i64 0) := (blk_cell BK471.out 2).trans rfl
        have hfs50 := blk_frozen BK471.out 2
        have hns50_0 := NB460_471.out
        have hns50_1 := NB461_471.out
        have hms50_0 := NB471_460.out
        have hms50_1 := NB471_461.out
        refine skip_ (w1 := ?_) (by rfl) rfl ?_ ?_
        rotate_left
        · go_simp
          rfl
        refine hK.out _ _ ⟨gb471, m6_, (by rw [ha.out]; exact putSel_none (v := undef) rfl), bk, bk, bl, fun _ h1_ => absurd ((up_self b 7).symm.trans h1_) (by decide), fun _ => GW471.out, fun _ => GE471.out, fun _ => NB460_471.out, fun _ => NB471_460.out, fun _ => NB461_471.out, fun _ => NB471_461.out, fun _ => bk, Q_X6_⟩
      exact steps_nil
    rintro b a w50 hall ⟨gb471, m6_, ha, Q_BK460, Q_BK461, Q_HB, Q_BK471, Q_GW471, Q_GE471, Q_NB460_471, Q_NB471_460, Q_NB461_471, Q_NB471_461, Q_BK471_e7, Q_X6_⟩
    clear BK460 BK461 HB
    have hb1_ := hall 1 (by kernel_rfl)
    have hb2_ := hall 2 (by kernel_rfl)
    have hb3_ := hall 3 (by kernel_rfl)
    have hb4_ := hall 4 (by kernel_rfl)
    have hb5_ := hall 5 (by kernel_rfl)
    have hb6_ := hall 6 (by kernel_rfl)
    have hb7_ := hall 7 (by kernel_rfl)
    subst ha
    obtain rfl := Q_X6_ hb6_
    simp only [putSel, hb1_, hb2_, hb3_, hb4_, hb5_, hb6_, hb7_, if_true, Act.put, List.setIfInBounds_toArray, List.set_cons_zero, List.set_cons_succ]
    have BK460 := Bk.mk Q_BK460
    clear Q_BK460
    have BK461 := Bk.mk Q_BK461
    clear Q_BK461
    have HB := Bl.mk Q_HB
    clear Q_HB
    clear Q_BK471
    have GW471 := Aside0.mk (Q_GW471 hb6_)
    clear Q_GW471
    have GE471 := Gl.mk (Q_GE471 hb6_)
    clear Q_GE471
    have NB460_471 := Nb.mk (Q_NB460_471 hb6_)
    clear Q_NB460_471
    have NB471_460 := Nb.mk (Q_NB471_460 hb6_)
    clear Q_NB471_460
    have NB461_471 := Nb.mk (Q_NB461_471 hb6_)
    clear Q_NB461_471
    have NB471_461 := Nb.mk (Q_NB471_461 hb6_)
    clear Q_NB471_461
    have BK471 := Bk.mk (Q_BK471_e7 hb7_)
    clear Q_BK471_e7
    clear hall hb1_ hb2_ hb3_ hb4_ hb5_ hb6_ hb7_
    try go_wp2
    have n0_ := Bk.mk (blk_drew BK460.out)
    have n1_ := Bk.mk (blk_drew BK461.out)
    have n2_ := Bk.mk (blk_drew BK471.out)
    have n3_ := Bl.mk (below_drew1 HB.out)
    clear BK460
    clear BK461
    clear BK471
    clear HB
    have BK460 := n0_
    have BK461 := n1_
    have BK471 := n2_
    have HB := n3_
    clear n0_ n1_ n2_ n3_
    refine start_ (n := 8) (S := fun w' => True) (ds := []) #[false, false, false, false, false, false, false, false] (by kernel_rfl) rfl rfl trivial (fun hHeld => ?_); refine with_tabW laws_FnExactSpanDo.tab2 laws_FnExactSpanDo.bits2 (fun HT_ HW_ => ?_)
    generalize w50.drew = w51 at BK460 BK461 BK471 HB hHeld ⊢
    refine pure_ (i := 0) (N := some 15) (v := ?_) (a' := ?_) #[true, false, false, false, false, false, false, false] rfl rfl (any_of HT_.out (by kernel_rfl)) (fun _ _ _ h => h) (Or.inl ⟨by rfl, ?_⟩) ?_ ?_
    rotate_left
    · intro w'
      go_simp
      with_reducible rfl
    rotate_left
    · simp only [Act.put, List.setIfInBounds_toArray, List.set_cons_zero, List.set_cons_succ, i64_w, i32_w]
      rfl
    refine inv_at [1, 2, 3, 4, 5, 6, 7] (fun a0_ b a w' => ∃ (gb481 : Nat) (m6_ : Value), a = putSel a0_ b [(1, 16, .agg #[.bool a1_0, .int .i64 a1_1, .int .i64 a1_2]), (2, 17, .agg #[.bool t462, .int .i64 t463, .int .i64 t464]), (3, 18, .agg #[.bool a2_0, .int .i64 a2_1, .int .i64 a2_2]), (4, 19, .agg #[.bool t465, .int .i64 t466, .int .i64 t467]), (5, 20, .agg #[.bool t478, .int .i64 t479, .int .i64 t480]), (6, 8, m6_)] ∧ (w'.heap[gb460]? = some (.cells #[.bool a1_0, .int .i64 a1_1, .int .i64 a1_2] 34 (0, 0))) ∧ (w'.heap[gb461]? = some (.cells #[.bool a2_0, .int .i64 a2_1, .int .i64 a2_2] 34 (0, 0))) ∧ (w'.heap[gb471]? = some (.cells #[.bool t468, .int .i64 t469, .int .i64 t470] 30 (0, 0))) ∧ (Below w.heap.size w w') ∧ (b 6 = true → b 7 = false → w'.heap[gb481]? = some (.cells #[.bool false, .int .i64 0, .int .i64 0] 30 (0, 0))) ∧ (b 6 = true → w.heap.size ≤ gb481) ∧ (b 6 = true → w.heap.size ≤ gb481) ∧ (b 6 = true → gb460 ≠ gb481) ∧ (b 6 = true → gb481 ≠ gb460) ∧ (b 6 = true → gb461 ≠ gb481) ∧ (b 6 = true → gb481 ≠ gb461) ∧ (b 6 = true → gb471 ≠ gb481) ∧ (b 6 = true → gb481 ≠ gb471) ∧ (b 7 = true → w'.heap[gb481]? = some (.cells #[.bool t478, .int .i64 t479, .int .i64 t480] 30 (0, 0))) ∧ (b 6 = true → (m6_ : Value) = .pointer (some ⟨gb481, 0, none⟩))) HT_.out HW_.out (by kernel_rfl) (by kernel_rfl) ?_ ?_ ?_
    · exact ⟨0, .bool false, by simp only [putSel, Bool.false_eq_true, if_false], BK460.out, BK461.out, BK471.out, HB.out, fun h_ => absurd h_ (by decide), fun h_ => absurd h_ (by decide), fun h_ => absurd h_ (by decide), fun h_ => absurd h_ (by decide), fun h_ => absurd h_ (by decide), fun h_ => absurd h_ (by decide), fun h_ => absurd h_ (by decide), fun h_ => absurd h_ (by decide), fun h_ => absurd h_ (by decide), fun h_ => absurd h_ (by decide), fun h_ => absurd h_ (by decide)⟩
    · skip
      clear BK460 BK461 BK471 HB
      refine steps_cons ?_ ?_
      · rintro b a w' ⟨gb481, m6_, ha, Q_BK460, Q_BK461, Q_BK471, Q_HB, Q_BK481, Q_GW481, Q_GE481, Q_NB460_481, Q_NB481_460, Q_NB461_481, Q_NB481_461, Q_NB471_481, Q_NB481_471, Q_BK481_e7, Q_X6_⟩ hb_ hon hoff
        refine ⟨_, rfl, fun K hK => ?_⟩
        have e4 : a.tmps[4]? = some (.pointer (some ⟨gb460, 0, none⟩)) := by rw [ha]; exact (putSel_off rfl).trans rfl
        replace ha := Aside0.mk ha
        have BK460 := Bk.mk Q_BK460
        have BK461 := Bk.mk Q_BK461
        have BK471 := Bk.mk Q_BK471
        have HB := Bl.mk Q_HB
        have hc0_ : w'.cell? ⟨gb460, 0, none⟩ = some (.bool a1_0) := (blk_cell BK460.out 0).trans rfl
        have hc1_ : w'.cell? ⟨gb460, 1, none⟩ = some (.int .i64 a1_1) := (blk_cell BK460.out 1).trans rfl
        have hc2_ : w'.cell? ⟨gb460, 2, none⟩ = some (.int .i64 a1_2) := (blk_cell BK460.out 2).trans rfl
        refine value_ (w1 := w') (v := .agg #[.bool a1_0, .int .i64 a1_1, .int .i64 a1_2]) (by rfl) rfl ?_ ?_
        · go_simp
          (try simp only [i64_w])
          try rfl
        refine hK.out _ _ ⟨gb481, m6_, (by rw [ha.out]; exact putSel_upk 0 hb_ rfl rfl rfl), Q_BK460, Q_BK461, Q_BK471, Q_HB, Q_BK481, Q_GW481, Q_GE481, Q_NB460_481, Q_NB481_460, Q_NB461_481, Q_NB481_461, Q_NB471_481, Q_NB481_471, fun h0_ => absurd ((hoff 7 (by kernel_rfl)).symm.trans h0_) (by decide), Q_X6_⟩
      refine steps_cons ?_ ?_
      · rintro b a w' ⟨gb481, m6_, ha, Q_BK460, Q_BK461, Q_BK471, Q_HB, Q_BK481, Q_GW481, Q_GE481, Q_NB460_481, Q_NB481_460, Q_NB461_481, Q_NB481_461, Q_NB471_481, Q_NB481_471, Q_BK481_e7, Q_X6_⟩ hb_ hon hoff
        refine ⟨_, rfl, fun K hK => ?_⟩
        have e16 : a.tmps[16]? = some (.agg #[.bool a1_0, .int .i64 a1_1, .int .i64 a1_2]) := by rw [ha]; exact putSel_on (e := (1, 16, .agg #[.bool a1_0, .int .i64 a1_1, .int .i64 a1_2])) 0 rfl rfl (hon 1 (by kernel_rfl)) rfl
        replace ha := Aside0.mk ha
        have BK460 := Bk.mk Q_BK460
        have BK461 := Bk.mk Q_BK461
        have BK471 := Bk.mk Q_BK471
        have HB := Bl.mk Q_HB
        refine goes_ Try.func18 (by kernel_rfl) rfl #[.agg #[.bool a1_0, .int .i64 a1_1, .int .i64 a1_2]] (by rfl) rfl rfl (by first | (simp only [List.map_toArray, List.map_cons, List.map_nil, Act.eval, Array.getD_eq_getD_getElem?, Option.getD_some, e16]; done) | (simp only [List.map_toArray, List.map_cons, List.map_nil, Act.eval, Array.getD_eq_getD_getElem?, Option.getD_some, e16]; rfl)) ?_
        with_reducible refine (laws_toSpan.calls a1_0 a1_1 a1_2 t462 t463 t464 _ A7.out).mono ?_
        rintro e w52 ⟨rfl, hb⟩
        refine ⟨_, rfl, ?_⟩
        have n0_ := Bk.mk (blk_below (g := gb460) bk hb)
        have n1_ := Bk.mk (blk_below (g := gb461) bk hb)
        have n2_ := Bk.mk (blk_below (g := gb471) bk hb)
        have n3_ := Bl.mk (below_step bl hb)
        have z_BK481 := fun (h0_ : b 6 = true) (h1_ : b 7 = false) => (show w52.heap[gb481]? = some (.cells #[.bool false, .int .i64 0, .int .i64 0] 30 (0, 0)) from by first | exact (blk_below (g := gb481) (o := .cells #[.bool false, .int .i64 0, .int .i64 0] 30 (0, 0)) (by (with_reducible repeat (first | refine blk_drewN ?_ _ | refine blk_drew ?_ | refine blk_alloc ?_ _)); exact (Q_BK481 h0_ h1_)) hb))
        clear BK460
        clear BK461
        clear BK471
        clear HB
        have BK460 := n0_
        have BK461 := n1_
        have BK471 := n2_
        have HB := n3_
        clear n0_ n1_ n2_ n3_
        (try clear hb)
        (try clear hb2)
        (try clear hk)
        (try clear hi)
        refine hK.out _ _ ⟨gb481, m6_, (by rw [ha.out]; exact putSel_upk 1 hb_ rfl rfl rfl), bk, bk, bk, bl, z_BK481, Q_GW481, Q_GE481, Q_NB460_481, Q_NB481_460, Q_NB461_481, Q_NB481_461, Q_NB471_481, Q_NB481_471, fun h0_ => absurd ((hoff 7 (by kernel_rfl)).symm.trans h0_) (by decide), Q_X6_⟩
      refine steps_cons ?_ ?_
      · rintro b a w' ⟨gb481, m6_, ha, Q_BK460, Q_BK461, Q_BK471, Q_HB, Q_BK481, Q_GW481, Q_GE481, Q_NB460_481, Q_NB481_460, Q_NB461_481, Q_NB481_461, Q_NB471_481, Q_NB481_471, Q_BK481_e7, Q_X6_⟩ hb_ hon hoff
        refine ⟨_, rfl, fun K hK => ?_⟩
        have e5 : a.tmps[5]? = some (.pointer (some ⟨gb461, 0, none⟩)) := by rw [ha]; exact (putSel_off rfl).trans rfl
        replace ha := Aside0.mk ha
        have BK460 := Bk.mk Q_BK460
        have BK461 := Bk.mk Q_BK461
        have BK471 := Bk.mk Q_BK471
        have HB := Bl.mk Q_HB
        have hc0_ : w'.cell? ⟨gb461, 0, none⟩ = some (.bool a2_0) := (blk_cell BK461.out 0).trans rfl
        have hc1_ : w'.cell? ⟨gb461, 1, none⟩ = some (.int .i64 a2_1) := (blk_cell BK461.out 1).trans rfl
        have hc2_ : w'.cell? ⟨gb461, 2, none⟩ = some (.int .i64 a2_2) := (blk_cell BK461.out 2).trans rfl
        refine value_ (w1 := w') (v := .agg #[.bool a2_0, .int .i64 a2_1, .int .i64 a2_2]) (by rfl) rfl ?_ ?_
        · go_simp
          (try simp only [i64_w])
          try rfl
        refine hK.out _ _ ⟨gb481, m6_, (by rw [ha.out]; exact putSel_upk 2 hb_ rfl rfl rfl), Q_BK460, Q_BK461, Q_BK471, Q_HB, Q_BK481, Q_GW481, Q_GE481, Q_NB460_481, Q_NB481_460, Q_NB461_481, Q_NB481_461, Q_NB471_481, Q_NB481_471, fun h0_ => absurd ((hoff 7 (by kernel_rfl)).symm.trans h0_) (by decide), Q_X6_⟩
      refine steps_cons ?_ ?_
      · rintro b a w' ⟨gb481, m6_, ha, Q_BK460, Q_BK461, Q_BK471, Q_HB, Q_BK481, Q_GW481, Q_GE481, Q_NB460_481, Q_NB481_460, Q_NB461_481, Q_NB481_461, Q_NB471_481, Q_NB481_471, Q_BK481_e7, Q_X6_⟩ hb_ hon hoff
        refine ⟨_, rfl, fun K hK => ?_⟩
        have e18 : a.tmps[18]? = some (.agg #[.bool a2_0, .int .i64 a2_1, .int .i64 a2_2]) := by rw [ha]; exact putSel_on (e := (3, 18, .agg #[.bool a2_0, .int .i64 a2_1, .int .i64 a2_2])) 2 rfl rfl (hon 3 (by kernel_rfl)) rfl
        replace ha := Aside0.mk ha
        have BK460 := Bk.mk Q_BK460
        have BK461 := Bk.mk Q_BK461
        have BK471 := Bk.mk Q_BK471
        have HB := Bl.mk Q_HB
        refine goes_ Try.func18 (by kernel_rfl) rfl #[.agg #[.bool a2_0, .int .i64 a2_1, .int .i64 a2_2]] (by rfl) rfl rfl (by first | (simp only [List.map_toArray, List.map_cons, List.map_nil, Act.eval, Array.getD_eq_getD_getElem?, Option.getD_some, e18]; done) | (simp only [List.map_toArray, List.map_cons, List.map_nil, Act.eval, Array.getD_eq_getD_getElem?, Option.getD_some, e18]; rfl)) ?_
        with_reducible refine (laws_toSpan.calls a2_0 a2_1 a2_2 t465 t466 t467 _ A8.out).mono ?_
        rintro e w54 ⟨rfl, hb⟩
        refine ⟨_, rfl, ?_⟩
        have n0_ := Bk.mk (blk_below (g := gb460) bk hb)
        have n1_ := Bk.mk (blk_below (g := gb461) bk hb)
        have n2_ := Bk.mk (blk_below (g := gb471) bk hb)
        have n3_ := Bl.mk (below_step bl hb)
        have z_BK481 := fun (h0_ : b 6 = true) (h1_ : b 7 = false) => (show w54.heap[gb481]? = some (.cells #[.bool false, .int .i64 0, .int .i64 0] 30 (0, 0)) from by first | exact (blk_below (g := gb481) (o := .cells #[.bool false, .int .i64 0, .int .i64 0] 30 (0, 0)) (by (with_reducible repeat (first | refine blk_drewN ?_ _ | refine blk_drew ?_ | refine blk_alloc ?_ _)); exact (Q_BK481 h0_ h1_)) hb))
        clear BK460
        clear BK461
        clear BK471
        clear HB
        have BK460 := n0_
        have BK461 := n1_
        have BK471 := n2_
        have HB := n3_
        clear n0_ n1_ n2_ n3_
        (try clear hb)
        (try clear hb2)
        (try clear hk)
        (try clear hi)
        refine hK.out _ _ ⟨gb481, m6_, (by rw [ha.out]; exact putSel_upk 3 hb_ rfl rfl rfl), bk, bk, bk, bl, z_BK481, Q_GW481, Q_GE481, Q_NB460_481, Q_NB481_460, Q_NB461_481, Q_NB481_461, Q_NB471_481, Q_NB481_471, fun h0_ => absurd ((hoff 7 (by kernel_rfl)).symm.trans h0_) (by decide), Q_X6_⟩
      refine steps_cons ?_ ?_
      · rintro b a w' ⟨gb481, m6_, ha, Q_BK460, Q_BK461, Q_BK471, Q_HB, Q_BK481, Q_GW481, Q_GE481, Q_NB460_481, Q_NB481_460, Q_NB461_481, Q_NB481_461, Q_NB471_481, Q_NB481_471, Q_BK481_e7, Q_X6_⟩ hb_ hon hoff
        refine ⟨_, rfl, fun K hK => ?_⟩
        have e15 : a.tmps[15]? = some (.int .i64 a0) := by rw [ha]; exact (putSel_off rfl).trans rfl
        have e17 : a.tmps[17]? = some (.agg #[.bool t462, .int .i64 t463, .int .i64 t464]) := by rw [ha]; exact putSel_on (e := (2, 17, .agg #[.bool t462, .int .i64 t463, .int .i64 t464])) 1 rfl rfl (hon 2 (by kernel_rfl)) rfl
        have e19 : a.tmps[19]? = some (.agg #[.bool t465, .int .i64 t466, .int .i64 t467]) := by rw [ha]; exact putSel_on (e := (4, 19, .agg #[.bool t465, .int .i64 t466, .int .i64 t467])) 3 rfl rfl (hon 4 (by kernel_rfl)) rfl
        replace ha := Aside0.mk ha
        have BK460 := Bk.mk Q_BK460
        have BK461 := Bk.mk Q_BK461
        have BK471 := Bk.mk Q_BK471
        have HB := Bl.mk Q_HB
        refine goes_ Try.func22 (by kernel_rfl) rfl #[.int .i64 a0, .agg #[.bool t462, .int .i64 t463, .int .i64 t464], .agg #[.bool t465, .int .i64 t466, .int .i64 t467]] (by rfl) rfl rfl (by first | (simp only [List.map_toArray, List.map_cons, List.map_nil, Act.eval, Array.getD_eq_getD_getElem?, Option.getD_some, e15, e17, e19]; done) | (simp only [List.map_toArray, List.map_cons, List.map_nil, Act.eval, Array.getD_eq_getD_getElem?, Option.getD_some, e15, e17, e19]; rfl)) ?_
        with_reducible refine (impl_SpanDo.calls k a0 t462 t463 t464 t465 t466 t467 t478 t479 t480 _ A9.out).mono ?_
        rintro e w55 ⟨rfl, hb⟩
        refine ⟨_, rfl, ?_⟩
        have n0_ := Bk.mk (blk_below (g := gb460) bk hb)
        have n1_ := Bk.mk (blk_below (g := gb461) bk hb)
        have n2_ := Bk.mk (blk_below (g := gb471) bk hb)
        have n3_ := Bl.mk (below_step bl hb)
        have z_BK481 := fun (h0_ : b 6 = true) (h1_ : b 7 = false) => (show w55.heap[gb481]? = some (.cells #[.bool false, .int .i64 0, .int .i64 0] 30 (0, 0)) from by first | exact (blk_below (g := gb481) (o := .cells #[.bool false, .int .i64 0, .int .i64 0] 30 (0, 0)) (by (with_reducible repeat (first | refine blk_drewN ?_ _ | refine blk_drew ?_ | refine blk_alloc ?_ _)); exact (Q_BK481 h0_ h1_)) hb))
        clear BK460
        clear BK461
        clear BK471
        clear HB
        have BK460 := n0_
        have BK461 := n1_
        have BK471 := n2_
        have HB := n3_
        clear n0_ n1_ n2_ n3_
        (try clear hb)
        (try clear hb2)
        (try clear hk)
        (try clear hi)
        refine hK.out _ _ ⟨gb481, m6_, (by rw [ha.out]; exact putSel_upk 4 hb_ rfl rfl rfl), bk, bk, bk, bl, z_BK481, Q_GW481, Q_GE481, Q_NB460_481, Q_NB481_460, Q_NB461_481, Q_NB481_461, Q_NB471_481, Q_NB481_471, fun h0_ => absurd ((hoff 7 (by kernel_rfl)).symm.trans h0_) (by decide), Q_X6_⟩
      refine steps_cons ?_ ?_
      · rintro b a w' ⟨gb481, m6_, ha, Q_BK460, Q_BK461, Q_BK471, Q_HB, Q_BK481, Q_GW481, Q_GE481, Q_NB460_481, Q_NB481_460, Q_NB461_481, Q_NB481_461, Q_NB471_481, Q_NB481_471, Q_BK481_e7, Q_X6_⟩ hb_ hon hoff
        refine ⟨_, rfl, fun K hK => ?_⟩
        replace ha := Aside0.mk ha
        have BK460 := Bk.mk Q_BK460
        have BK461 := Bk.mk Q_BK461
        have BK471 := Bk.mk Q_BK471
        have HB := Bl.mk Q_HB
        refine box_step ?hg (N := 8) ?hd (cs := #[.bool false, .int .i64 0, .int .i64 0]) (t := 30) ?hr ?_; (case hd => rfl); (case hg => rfl); (case hr => first | (go_simp; done) | (go_simp; rfl))
        intro gb481 hg w52 hbox hb
        have n0_ := Bk.mk (blk_below (g := gb460) bk hb)
        have n1_ := Bk.mk (blk_below (g := gb461) bk hb)
        have n2_ := Bk.mk (blk_below (g := gb471) bk hb)
        have n3_ := Bl.mk (below_step bl hb)
        have n4_ := Bk.mk (hbox)
        have n5_ := Aside0.mk ((by rw [hg]; exact (below_size bl) : w.heap.size ≤ gb481))
        have n6_ := Gl.mk ((by rw [hg]; exact (below_size bl) : w.heap.size ≤ gb481))
        have n7_ := Nb.mk ((by rw [hg]; exact Nat.ne_of_lt (blk_lt (g := gb460) bk) : gb460 ≠ gb481))
        have n8_ := Nb.mk ((by rw [hg]; exact Nat.ne_of_gt (blk_lt (g := gb460) bk) : gb481 ≠ gb460))
        have n9_ := Nb.mk ((by rw [hg]; exact Nat.ne_of_lt (blk_lt (g := gb461) bk) : gb461 ≠ gb481))
        have n10_ := Nb.mk ((by rw [hg]; exact Nat.ne_of_gt (blk_lt (g := gb461) bk) : gb481 ≠ gb461))
        have n11_ := Nb.mk ((by rw [hg]; exact Nat.ne_of_lt (blk_lt (g := gb471) bk) : gb471 ≠ gb481))
        have n12_ := Nb.mk ((by rw [hg]; exact Nat.ne_of_gt (blk_lt (g := gb471) bk) : gb481 ≠ gb471))
        clear BK460
        clear BK461
        clear BK471
        clear HB
        have BK460 := n0_
        have BK461 := n1_
        have BK471 := n2_
        have HB := n3_
        have BK481 := n4_
        have GW481 := n5_
        have GE481 := n6_
        have NB460_481 := n7_
        have NB481_460 := n8_
        have NB461_481 := n9_
        have NB481_461 := n10_
        have NB471_481 := n11_
        have NB481_471 := n12_
        clear n0_ n1_ n2_ n3_ n4_ n5_ n6_ n7_ n8_ n9_ n10_ n11_ n12_
        clear hb hbox hg
        refine hK.out _ _ ⟨gb481, (.pointer (some ⟨gb481, 0, none⟩)), (by rw [ha.out]; exact putSel_upk 5 hb_ rfl rfl rfl), bk, bk, bk, bl, fun _ _ => bk, fun _ => GW481.out, fun _ => GE481.out, fun _ => NB460_481.out, fun _ => NB481_460.out, fun _ => NB461_481.out, fun _ => NB481_461.out, fun _ => NB471_481.out, fun _ => NB481_471.out, fun h0_ => absurd ((hoff 7 (by kernel_rfl)).symm.trans h0_) (by decide), fun _ => rfl⟩
      refine steps_cons ?_ ?_
      · rintro b a w' ⟨gb481, m6_, ha, Q_BK460, Q_BK461, Q_BK471, Q_HB, Q_BK481, Q_GW481, Q_GE481, Q_NB460_481, Q_NB481_460, Q_NB461_481, Q_NB481_461, Q_NB471_481, Q_NB481_471, Q_BK481_e7, Q_X6_⟩ hb_ hon hoff
        refine ⟨_, rfl, fun K hK => ?_⟩
        have e8 : a.tmps[8]? = some (m6_) := by rw [ha]; exact putSel_on (e := (6, 8, m6_)) 5 rfl rfl (hon 6 (by kernel_rfl)) rfl
        rw [Q_X6_ (hon 6 (by kernel_rfl))] at e8
        have e20 : a.tmps[20]? = some (.agg #[.bool t478, .int .i64 t479, .int .i64 t480]) := by rw [ha]; exact putSel_on (e := (5, 20, .agg #[.bool t478, .int .i64 t479, .int .i64 t480])) 4 rfl rfl (hon 5 (by kernel_rfl)) rfl
        replace ha := Aside0.mk ha
        have BK460 := Bk.mk Q_BK460
        have BK461 := Bk.mk Q_BK461
        have BK471 := Bk.mk Q_BK471
        have HB := Bl.mk Q_HB
        have BK481 := Bk.mk (Q_BK481 (hon 6 (by kernel_rfl)) hb_)
        have GW481 := Aside0.mk (Q_GW481 (hon 6 (by kernel_rfl)))
        have GE481 := Gl.mk (Q_GE481 (hon 6 (by kernel_rfl)))
        have NB460_481 := Nb.mk (Q_NB460_481 (hon 6 (by kernel_rfl)))
        have NB481_460 := Nb.mk (Q_NB481_460 (hon 6 (by kernel_rfl)))
        have NB461_481 := Nb.mk (Q_NB461_481 (hon 6 (by kernel_rfl)))
        have NB481_461 := Nb.mk (Q_NB481_461 (hon 6 (by kernel_rfl)))
        have NB471_481 := Nb.mk (Q_NB471_481 (hon 6 (by kernel_rfl)))
        have NB481_471 := Nb.mk (Q_NB481_471 (hon 6 (by kernel_rfl)))
        have hs57 : w'.cell? ⟨gb481, 0, none⟩ = some (.bool false) := (blk_cell BK481.out 0).trans rfl
        have hfs57 := blk_frozen BK481.out 0
        have hns57_0 := NB460_481.out
        have hns57_1 := NB461_481.out
        have hns57_2 := NB471_481.out
        have hms57_0 := NB481_460.out
        have hms57_1 := NB481_461.out
        have hms57_2 := NB481_471.out
        have hs58 : w'.cell? ⟨gb481, 1, none⟩ = some (.int .i64 0) := (blk_cell BK481.out 1).trans rfl
        have hfs58 := blk_frozen BK481.out 1
        have hns58_0 := NB460_481.out
        have hns58_1 := NB461_481.out
        have hns58_2 := NB471_481.out
        have hms58_0 := NB481_460.out
        have hms58_1 := NB481_461.out
        have hms58_2 := NB481_471.out
        have hs59 : w'.cell? ⟨gb481, 2, none⟩ = some (.int .i64 0) := (blk_cell BK481.out 2).trans rfl
        have hfs59 := blk_frozen BK481.out 2
        have hns59_0 := NB460_481.out
        have hns59_1 := NB461_481.out
        have hns59_2 := NB471_481.out
        have hms59_0 := NB481_460.out
        have hms59_1 := NB481_461.out
        have hms59_2 := NB481_471.out
        refine skip_ (w1 := ?_) (by rfl) rfl ?_ ?_
        rotate_left
        · go_simp
          rfl
        refine hK.out _ _ ⟨gb481, m6_, (by rw [ha.out]; exact putSel_none (v := undef) rfl), bk, bk, bk, bl, fun _ h1_ => absurd ((up_self b 7).symm.trans h1_) (by decide), fun _ => GW481.out, fun _ => GE481.out, fun _ => NB460_481.out, fun _ => NB481_460.out, fun _ => NB461_481.out, fun _ => NB481_461.out, fun _ => NB471_481.out, fun _ => NB481_471.out, fun _ => bk, Q_X6_⟩
      exact steps_nil
    rintro b a w59 hall ⟨gb481, m6_, ha, Q_BK460, Q_BK461, Q_BK471, Q_HB, Q_BK481, Q_GW481, Q_GE481, Q_NB460_481, Q_NB481_460, Q_NB461_481, Q_NB481_461, Q_NB471_481, Q_NB481_471, Q_BK481_e7, Q_X6_⟩
    clear BK460 BK461 BK471 HB
    have hb1_ := hall 1 (by kernel_rfl)
    have hb2_ := hall 2 (by kernel_rfl)
    have hb3_ := hall 3 (by kernel_rfl)
    have hb4_ := hall 4 (by kernel_rfl)
    have hb5_ := hall 5 (by kernel_rfl)
    have hb6_ := hall 6 (by kernel_rfl)
    have hb7_ := hall 7 (by kernel_rfl)
    subst ha
    obtain rfl := Q_X6_ hb6_
    simp only [putSel, hb1_, hb2_, hb3_, hb4_, hb5_, hb6_, hb7_, if_true, Act.put, List.setIfInBounds_toArray, List.set_cons_zero, List.set_cons_succ]
    have BK460 := Bk.mk Q_BK460
    clear Q_BK460
    have BK461 := Bk.mk Q_BK461
    clear Q_BK461
    have BK471 := Bk.mk Q_BK471
    clear Q_BK471
    have HB := Bl.mk Q_HB
    clear Q_HB
    clear Q_BK481
    have GW481 := Aside0.mk (Q_GW481 hb6_)
    clear Q_GW481
    have GE481 := Gl.mk (Q_GE481 hb6_)
    clear Q_GE481
    have NB460_481 := Nb.mk (Q_NB460_481 hb6_)
    clear Q_NB460_481
    have NB481_460 := Nb.mk (Q_NB481_460 hb6_)
    clear Q_NB481_460
    have NB461_481 := Nb.mk (Q_NB461_481 hb6_)
    clear Q_NB461_481
    have NB481_461 := Nb.mk (Q_NB481_461 hb6_)
    clear Q_NB481_461
    have NB471_481 := Nb.mk (Q_NB471_481 hb6_)
    clear Q_NB471_481
    have NB481_471 := Nb.mk (Q_NB481_471 hb6_)
    clear Q_NB481_471
    have BK481 := Bk.mk (Q_BK481_e7 hb7_)
    clear Q_BK481_e7
    clear hall hb1_ hb2_ hb3_ hb4_ hb5_ hb6_ hb7_
    have hnb60 := NB481_460.out
    have hnc60 := NB460_481.out
    have hnb61 := NB481_461.out
    have hnc61 := NB461_481.out
    have hnb62 := NB481_471.out
    have hnc62 := NB471_481.out
    have hcz63_0 := bc0 BK481.out
    have hcz63_1 := bc1 BK481.out
    have hcz63_2 := bc2 BK481.out
    have hfz63_0 := blk_frozen BK481.out 0
    have hfz63_1 := blk_frozen BK481.out 1
    have hfz63_2 := blk_frozen BK481.out 2
    have hnb64 := NB471_460.out
    have hnc64 := NB460_471.out
    have hnb65 := NB471_461.out
    have hnc65 := NB461_471.out
    have hcz66_0 := bc0 BK471.out
    have hcz66_1 := bc1 BK471.out
    have hcz66_2 := bc2 BK471.out
    have hfz66_0 := blk_frozen BK471.out 0
    have hfz66_1 := blk_frozen BK471.out 1
    have hfz66_2 := blk_frozen BK471.out 2
    try go_wp2_with (first | ((with_reducible refine gate_callee (f := 20) rfl ?_); refine goesL_ (some 23) rfl rfl Try.func20 (by kernel_rfl) rfl #[.agg #[.bool t478, .int .i64 t479, .int .i64 t480], .agg #[.bool t468, .int .i64 t469, .int .i64 t470]] rfl (by (try simp only [List.map_toArray, List.map_cons, List.map_nil]); first | done | rfl | (simp only [List.length_drop, List.length_take]; rfl)) ?_; (with_reducible refine (laws_eqSpan.calls t478 t479 t480 t468 t469 t470 false _ A10.out).mono ?_); rintro e w67 ⟨rfl, hb⟩; refine ⟨_, rfl, ?_⟩; have n0_ := Bk.mk (blk_below (g := gb460) bk hb); have n1_ := Bk.mk (blk_below (g := gb461) bk hb); have n2_ := Bk.mk (blk_below (g := gb471) bk hb); have n3_ := Bk.mk (blk_below (g := gb481) bk hb); have n4_ := Bl.mk (below_step bl hb); clear BK460; clear BK461; clear BK471; clear BK481; clear HB; have BK460 := n0_; have BK461 := n1_; have BK471 := n2_; have BK481 := n3_; have HB := n4_; clear n0_ n1_ n2_ n3_ n4_; (try clear hb); (try clear hb2); (try clear hk); (try clear hi)))
    go_ret
    exact ⟨by first | rfl | (simp [errW_none, errW_some] <;> rfl) | (simp [*, errW_none, errW_some] <;> rfl), bl⟩

end Go.Proofs.Ytekmapilhomdgaa.P
