/- The contracts of Go functions of this seat: each call comes to what the Lean function of the same name says. -/
import Derived.Test.YtekmapilhomdgaaPx0
import Derived.Test.YtekmapilhomdgaaPx21
import Derived.Test.YtekmapilhomdgaaPx22
import Derived.Test.YtekmapilhomdgaaPx25
namespace Go.Proofs.Ytekmapilhomdgaa.P
open Go.RowKit Go.Proofs.YtekmapilhomdgaaW.PrintWords Go.Proofs.YtekmapilhomdgaaW.PrintLast Go.Proofs.YtekmapilhomdgaaW.PrintMore
attribute [local go_sem] max2_int min2_int max_two min_two max_three min_three max_four min_four   -- for this text's walks alone
set_option linter.unusedVariables false
set_option linter.unusedSimpArgs false

/-! ### impl_SpanJoin: function 25 -/
def impl_SpanJoin.f (k : Nat) (a0_0 : Bool) (a0_1 : Int) (a0_2 : Int) (a1_0 : Bool) (a1_1 : Int) (a1_2 : Int) : Option (Bool × Int × Int) := (impl_bothOk.f a0_0 a0_1 a0_2 a1_0 a1_1 a1_2).bind fun t563 => (if t563 = true then ((impl_Span_words.f k a0_0 a0_1 a0_2).bind fun t564 => ((impl_Span_words.f k a1_0 a1_1 a1_2).bind fun t567 => (if t564.length + t567.length < 17592186044416 then ((impl_spanned.f k (t564 ++ t567)).bind fun bt573 => (some (bt573.1, bt573.2.1, bt573.2.2))) else (none)))) else (some (false, 0, 0)))
theorem impl_SpanJoin.mono : ∀ a0 a1 a2 a3 a4 a5 k, LeO (impl_SpanJoin.f k a0 a1 a2 a3 a4 a5) (impl_SpanJoin.f (k + 1) a0 a1 a2 a3 a4 a5) := by
  intro a0 a1 a2 a3 a4 a5 k
  unfold impl_SpanJoin.f
  repeat' first
      | (with_reducible exact impl_Span_words.mono _ _ _ _)
      | (with_reducible exact impl_spanned.mono _ _)
      | (with_reducible exact LeO.refl _)
      | (with_reducible exact LeO.none _)
      | (with_reducible refine LeO.ite ?_ ?_)
      | (with_reducible refine LeO.bind ?_ (fun _ => ?_))
      | exact impl_Span_words.mono _ _ _ _
      | exact impl_spanned.mono _ _
      | exact LeO.none _
      | refine LeO.ite ?_ ?_
      | refine LeO.bind ?_ (fun _ => ?_)
set_option maxHeartbeats 8000000 in
set_option maxRecDepth 100000 in
theorem impl_SpanJoin.calls (k : Nat) (a0_0 : Bool) (a0_1 : Int) (a0_2 : Int) (a1_0 : Bool) (a1_1 : Int) (a1_2 : Int) (r1 : Bool) (r2 : Int) (r3 : Int) (w : World) (h : impl_SpanJoin.f k a0_0 a0_1 a0_2 a1_0 a1_1 a1_2 = some (r1, r2, r3)) :
    Calls Try.prog 25 #[.agg #[.bool a0_0, .int .i64 a0_1, .int .i64 a0_2], .agg #[.bool a1_0, .int .i64 a1_1, .int .i64 a1_2]] w fun e w' => e = .returned (.agg #[.bool r1, .int .i64 r2, .int .i64 r3]) ∧ Below w.heap.size w w' := by
  have hu30 := Try.underlying30
  have HB := Bl.mk (Below.refl w.heap.size w)
  unfold impl_SpanJoin.f at h
  have H := h
  clear h
  replace H := Option.bind_eq_some_iff.mp H
  obtain ⟨t563, A30, H⟩ := H
  try dsimp only at H
  have A3 := Aside0.mk A30
  clear A30
  by_cases c4 : t563 = true
  · subst c4
    rw [if_pos rfl] at H
    replace H := Option.bind_eq_some_iff.mp H
    obtain ⟨t564, A50, H⟩ := H
    try dsimp only at H
    have A5 := Aside0.mk A50
    clear A50
    replace H := Option.bind_eq_some_iff.mp H
    obtain ⟨t567, A60, H⟩ := H
    try dsimp only at H
    have A6 := Aside0.mk A60
    clear A60
    by_cases c7 : t564.length + t567.length < 17592186044416
    · rw [if_pos c7] at H
      have LMc7 := Aside0.mk c7
      clear c7
      obtain ⟨y570, hy570⟩ : ∃ y_ : List Int, y_ = (t564 ++ t567) := ⟨_, rfl⟩
      replace H : ((impl_spanned.f k y570).bind fun bt573 => (some (bt573.1, bt573.2.1, bt573.2.2))) = some (r1, r2, r3) := by first | (rw [hy570]; with_reducible exact H) | (have H2_ := (Option.bind_some _ _).symm.trans H; rw [hy570]; with_reducible exact H2_) | (have H2_ := (Option.bind_some _ _).symm.trans H; with_reducible exact H2_) | with_reducible exact H | (rw [hy570]; exact H) | exact H
      have Ny570 := Aside0.mk hy570
      clear hy570
      replace H := Option.bind_eq_some_iff.mp H
      obtain ⟨⟨t573, t574, t575⟩, A80, H⟩ := H
      try dsimp only at H
      have A8 := Aside0.mk A80
      clear A80
      simp only [Option.some.injEq, Prod.mk.injEq] at H
      obtain ⟨rfl, rfl, rfl⟩ := H
      go_enter Try.func25, Try.ntmps25
      try go_wp2_with (first | ((with_reducible refine gate_dst (N := 2) rfl ?_); refine box_event ?hg (N := 2) ?hd (cs := #[.bool a0_0, .int .i64 a0_1, .int .i64 a0_2]) (t := 30) ?hr ?_; (case hd => rfl); (case hg => rfl); (case hr => first | (go_simp; done) | (go_simp; rfl)); intro gb560 hg w9 hbox hb; have n0_ := Bl.mk (below_step bl hb); have n1_ := Bk.mk (hbox); have n2_ := Aside0.mk ((by rw [hg]; exact (below_size bl) : w.heap.size ≤ gb560)); have n3_ := Gl.mk ((by rw [hg]; exact (below_size bl) : w.heap.size ≤ gb560)); clear HB; have HB := n0_; have BK560 := n1_; have GW560 := n2_; have GE560 := n3_; clear n0_ n1_ n2_ n3_; clear hb hbox hg) | ((with_reducible refine gate_dst (N := 3) rfl ?_); refine box_event ?hg (N := 3) ?hd (cs := #[.bool a1_0, .int .i64 a1_1, .int .i64 a1_2]) (t := 30) ?hr ?_; (case hd => rfl); (case hg => rfl); (case hr => first | (go_simp; done) | (go_simp; rfl)); intro gb561 hg w10 hbox hb; have n0_ := Bk.mk (blk_below (g := gb560) bk hb); have n1_ := Bl.mk (below_step bl hb); have n2_ := Bk.mk (hbox); have n3_ := Aside0.mk ((by rw [hg]; exact (below_size bl) : w.heap.size ≤ gb561)); have n4_ := Gl.mk ((by rw [hg]; exact (below_size bl) : w.heap.size ≤ gb561)); have n5_ := Nb.mk ((by rw [hg]; exact Nat.ne_of_lt (blk_lt (g := gb560) bk) : gb560 ≠ gb561)); have n6_ := Nb.mk ((by rw [hg]; exact Nat.ne_of_gt (blk_lt (g := gb560) bk) : gb561 ≠ gb560)); clear BK560; clear HB; have BK560 := n0_; have HB := n1_; have BK561 := n2_; have GW561 := n3_; have GE561 := n4_; have NB560_561 := n5_; have NB561_560 := n6_; clear n0_ n1_ n2_ n3_ n4_ n5_ n6_; clear hb hbox hg) | ((with_reducible refine gate_dst (N := 4) rfl ?_); refine box_event ?hg (N := 4) ?hd (cs := #[.bool false, .int .i64 0, .int .i64 0]) (t := 30) ?hr ?_; (case hd => rfl); (case hg => rfl); (case hr => first | (go_simp; done) | (go_simp; rfl)); intro gb562 hg w11 hbox hb; have n0_ := Bk.mk (blk_below (g := gb560) bk hb); have n1_ := Bk.mk (blk_below (g := gb561) bk hb); have n2_ := Bl.mk (below_step bl hb); have n3_ := Bk.mk (hbox); have n4_ := Aside0.mk ((by rw [hg]; exact (below_size bl) : w.heap.size ≤ gb562)); have n5_ := Gl.mk ((by rw [hg]; exact (below_size bl) : w.heap.size ≤ gb562)); have n6_ := Nb.mk ((by rw [hg]; exact Nat.ne_of_lt (blk_lt (g := gb560) bk) : gb560 ≠ gb562)); have n7_ := Nb.mk ((by rw [hg]; exact Nat.ne_of_gt (blk_lt (g := gb560) bk) : gb562 ≠ gb560)); have n8_ := Nb.mk ((by rw [hg]; exact Nat.ne_of_lt (blk_lt (g := gb561) bk) : gb561 ≠ gb562)); have n9_ := Nb.mk ((by rw [hg]; exact Nat.ne_of_gt (blk_lt (g := gb561) bk) : gb562 ≠ gb561)); clear BK560; clear BK561; clear HB; have BK560 := n0_; have BK561 := n1_; have HB := n2_; have BK562 := n3_; have GW562 := n4_; have GE562 := n5_; have NB560_562 := n6_; have NB562_560 := n7_; have NB561_562 := n8_; have NB562_561 := n9_; clear n0_ n1_ n2_ n3_ n4_ n5_ n6_ n7_ n8_ n9_; clear hb hbox hg; have hnb12 := NB560_561.out; have hnc12 := NB561_560.out; have hnb13 := NB560_562.out; have hnc13 := NB562_560.out; have hcz14_0 := bc0 BK560.out; have hcz14_1 := bc1 BK560.out; have hcz14_2 := bc2 BK560.out; have hfz14_0 := blk_frozen BK560.out 0; have hfz14_1 := blk_frozen BK560.out 1; have hfz14_2 := blk_frozen BK560.out 2; have hnb15 := NB561_562.out; have hnc15 := NB562_561.out; have hcz16_0 := bc0 BK561.out; have hcz16_1 := bc1 BK561.out; have hcz16_2 := bc2 BK561.out; have hfz16_0 := blk_frozen BK561.out 0; have hfz16_1 := blk_frozen BK561.out 1; have hfz16_2 := blk_frozen BK561.out 2) | ((with_reducible refine gate_callee (f := 45) rfl ?_); refine goesL_ (some 7) rfl rfl Try.func45 (by kernel_rfl) rfl #[.agg #[.bool a0_0, .int .i64 a0_1, .int .i64 a0_2], .agg #[.bool a1_0, .int .i64 a1_1, .int .i64 a1_2]] rfl (by (try simp only [List.map_toArray, List.map_cons, List.map_nil]); first | done | rfl | (simp only [List.length_drop, List.length_take]; rfl)) ?_; (with_reducible refine (impl_bothOk.calls a0_0 a0_1 a0_2 a1_0 a1_1 a1_2 true _ A3.out).mono ?_); rintro e w17 ⟨rfl, hb⟩; refine ⟨_, rfl, ?_⟩; have n0_ := Bk.mk (blk_below (g := gb560) bk hb); have n1_ := Bk.mk (blk_below (g := gb561) bk hb); have n2_ := Bk.mk (blk_below (g := gb562) bk hb); have n3_ := Bl.mk (below_step bl hb); clear BK560; clear BK561; clear BK562; clear HB; have BK560 := n0_; have BK561 := n1_; have BK562 := n2_; have HB := n3_; clear n0_ n1_ n2_ n3_; (try clear hb); (try clear hb2); (try clear hk); (try clear hi)))
      have n0_ := Bk.mk (blk_drew BK560.out)
      have n1_ := Bk.mk (blk_drew BK561.out)
      have n2_ := Bk.mk (blk_drew BK562.out)
      have n3_ := Bl.mk (below_drew1 HB.out)
      clear BK560
      clear BK561
      clear BK562
      clear HB
      have BK560 := n0_
      have BK561 := n1_
      have BK562 := n2_
      have HB := n3_
      clear n0_ n1_ n2_ n3_
      refine start_ (n := 7) (S := fun w' => w'.cell? ⟨gb560, 0, none⟩ = some (.bool a0_0) ∧ w'.cell? ⟨gb560, 1, none⟩ = some (.int .i64 a0_1) ∧ w'.cell? ⟨gb560, 2, none⟩ = some (.int .i64 a0_2) ∧ w'.cell? ⟨gb561, 0, none⟩ = some (.bool a1_0) ∧ w'.cell? ⟨gb561, 1, none⟩ = some (.int .i64 a1_1) ∧ w'.cell? ⟨gb561, 2, none⟩ = some (.int .i64 a1_2)) (ds := []) #[false, false, false, false, false, false, false] (by kernel_rfl) rfl rfl ⟨(blk_cell BK560.out 0).trans rfl, (blk_cell BK560.out 1).trans rfl, (blk_cell BK560.out 2).trans rfl, (blk_cell BK561.out 0).trans rfl, (blk_cell BK561.out 1).trans rfl, (blk_cell BK561.out 2).trans rfl⟩ (fun hHeld => ?_)
      generalize w17.drew = w18 at BK560 BK561 BK562 HB hHeld ⊢
      refine take_ (i := 0) (N := some 10) (v := ?_) (a' := ?_) #[true, false, false, false, false, false, false] rfl rfl (by kernel_rfl) (fun _ _ _ h => h) (Or.inl ⟨by rfl, ?_⟩) hHeld ?_ ?_
      rotate_left
      · rintro w' ⟨s0, s1, s2, s3, s4, s5⟩
        go_simp
        with_reducible rfl
      rotate_left
      · simp only [Act.put, List.setIfInBounds_toArray, List.set_cons_zero, List.set_cons_succ, i64_w, i32_w]
        rfl
      refine take_ (i := 2) (N := some 12) (v := ?_) (a' := ?_) #[true, false, true, false, false, false, false] rfl rfl (by kernel_rfl) (fun _ _ _ h => h) (Or.inl ⟨by rfl, ?_⟩) hHeld ?_ ?_
      rotate_left
      · rintro w' ⟨s0, s1, s2, s3, s4, s5⟩
        go_simp
        with_reducible rfl
      rotate_left
      · simp only [Act.put, List.setIfInBounds_toArray, List.set_cons_zero, List.set_cons_succ, i64_w, i32_w]
        rfl
      refine one_ (i := 1) (N := some 11) #[true, true, true, false, false, false, false] rfl rfl (by kernel_rfl) (by decide) (fun K hK => ?_)
      refine goes_ Try.func46 (by kernel_rfl) rfl #[.agg #[.bool a0_0, .int .i64 a0_1, .int .i64 a0_2]] (by rfl) rfl rfl (by (try simp only [List.map_toArray, List.map_cons, List.map_nil]); first | done | rfl | (simp only [List.length_drop, List.length_take]; rfl)) ?_
      with_reducible refine (impl_Span_words.calls k a0_0 a0_1 a0_2 t564 _ A5.out).mono ?_
      rintro e w19 ⟨v565, rfl, ho0, hb⟩
      refine ⟨_, rfl, ?_⟩
      have n0_ := Aside0.mk (Kd.R_lower ho0 (below_size bl))
      have n1_ := Bk.mk (blk_below (g := gb560) bk hb)
      have n2_ := Bk.mk (blk_below (g := gb561) bk hb)
      have n3_ := Bk.mk (blk_below (g := gb562) bk hb)
      have n4_ := Bl.mk (below_step bl hb)
      clear BK560
      clear BK561
      clear BK562
      clear HB
      have HO566 := n0_
      have BK560 := n1_
      have BK561 := n2_
      have BK562 := n3_
      have HB := n4_
      clear n0_ n1_ n2_ n3_ n4_
      (try clear hb)
      (try clear hb2)
      (try clear hk)
      (try clear hi)
      (try clear ho0)
      refine hK.out _ _ ⟨(blk_cell BK560.out 0).trans rfl, (blk_cell BK560.out 1).trans rfl, (blk_cell BK560.out 2).trans rfl, (blk_cell BK561.out 0).trans rfl, (blk_cell BK561.out 1).trans rfl, (blk_cell BK561.out 2).trans rfl⟩ (fun hHeld => ?_)
      clear hK K
      refine norm_ (a' := ?_) ?_ ?_
      rotate_left
      · show Act.put _ (some 11) _ = _
        simp only [Act.put, List.setIfInBounds_toArray, List.set_cons_zero, List.set_cons_succ, i64_w, i32_w]
        rfl
      refine one_ (i := 3) (N := some 13) #[true, true, true, true, false, false, false] rfl rfl (by kernel_rfl) (by decide) (fun K hK => ?_)
      refine goes_ Try.func46 (by kernel_rfl) rfl #[.agg #[.bool a1_0, .int .i64 a1_1, .int .i64 a1_2]] (by rfl) rfl rfl (by (try simp only [List.map_toArray, List.map_cons, List.map_nil]); first | done | rfl | (simp only [List.length_drop, List.length_take]; rfl)) ?_
      with_reducible refine (impl_Span_words.calls k a1_0 a1_1 a1_2 t567 _ A6.out).mono ?_
      rintro e w20 ⟨v568, rfl, ho0, hb⟩
      refine ⟨_, rfl, ?_⟩
      have n0_ := Aside0.mk (Kd.R_elder' (by (with_reducible repeat (first | apply Kd.R_alloc | apply Kd.R_drewN | apply Kd.R_drew)); exact HO566.out) (Kd.R_base ho0) hb)
      have n1_ := Aside0.mk (Kd.R_lower (Kd.R_new' ho0 (Kd.R_lt (by (with_reducible repeat (first | apply Kd.R_alloc | apply Kd.R_drewN | apply Kd.R_drew)); exact HO566.out))) (below_size bl))
      have n2_ := Bk.mk (blk_below (g := gb560) bk hb)
      have n3_ := Bk.mk (blk_below (g := gb561) bk hb)
      have n4_ := Bk.mk (blk_below (g := gb562) bk hb)
      have n5_ := Bl.mk (below_step bl hb)
      clear HO566
      clear BK560
      clear BK561
      clear BK562
      clear HB
      have HO566 := n0_
      have HO569 := n1_
      have BK560 := n2_
      have BK561 := n3_
      have BK562 := n4_
      have HB := n5_
      clear n0_ n1_ n2_ n3_ n4_ n5_
      (try clear hb)
      (try clear hb2)
      (try clear hk)
      (try clear hi)
      (try clear ho0)
      obtain ⟨Ao22, co22, eo22⟩ := Kd.R_slice HO569.out
      (first | subst eo22 | (injection eo22 with f1_ f2_ f3_; have f4_ := f1_.symm; have f5_ := f3_.symm; clear f1_ f2_ f3_; subst f4_; subst f5_))
      refine hK.out _ _ ⟨(blk_cell BK560.out 0).trans rfl, (blk_cell BK560.out 1).trans rfl, (blk_cell BK560.out 2).trans rfl, (blk_cell BK561.out 0).trans rfl, (blk_cell BK561.out 1).trans rfl, (blk_cell BK561.out 2).trans rfl⟩ (fun hHeld => ?_)
      clear hK K
      refine norm_ (a' := ?_) ?_ ?_
      rotate_left
      · show Act.put _ (some 13) _ = _
        simp only [Act.put, List.setIfInBounds_toArray, List.set_cons_zero, List.set_cons_succ, i64_w, i32_w]
        rfl
      refine one_ (i := 4) (N := some 14) #[true, true, true, true, true, false, false] rfl rfl (by kernel_rfl) (by decide) (fun K hK => ?_)
      refine Kd.R_append_rows_step (Kd.int .i64) (w0 := w) w.heap.size (by rfl) (.tmp 11) (.tmp 13) 56 3 (.int .i64 0) 8 rfl Try.underlying56 info3 rfl (by decide) (by omega) v565 t564 t567 _ _ _ (fun k_ => some k_ ≠ (.slice Ao22 t567.length co22 : Value).ownBlock) (fun _ => False) rfl rfl ?aO ?aR (fun _ _ h => h) (fun _ h => h.elim) ?aF ?aB ?aS ?aL ?_
      (case aR => repeat (first | exact (Kd.R_reads' HO569.out).2.2 | (with_reducible refine Kd.C_alloc ?_ _) | (with_reducible refine Kd.C_drewN ?_ _) | (with_reducible refine Kd.C_drew ?_)))
      (case aB => exact bl)
      (case aF => exact (fun k_ hk => Kd.fresh' (Kd.R_lt (by (with_reducible repeat (first | apply Kd.R_alloc | apply Kd.R_drewN | apply Kd.R_drew)); exact HO569.out)) k_ hk))
      (case aO => exact (by (with_reducible repeat (first | apply Kd.R_alloc | apply Kd.R_drewN | apply Kd.R_drew)); exact Kd.R_mono HO566.out (fun _ hk => hk.2)))
      (case aS => exact (below_size bl))
      (case aL => have := LMc7.out; omega)
      intro v571 w21 ho hb hg hat
      rw [← Ny570.out] at ho
      have n0_ := Bk.mk (blk_grown (g := gb560) (o := .cells #[.bool a0_0, .int .i64 a0_1, .int .i64 a0_2] 30 (0, 0)) bk hg (Kd.R_ne HO566.out BK560.out (by decide)))
      have n1_ := Bk.mk (blk_grown (g := gb561) (o := .cells #[.bool a1_0, .int .i64 a1_1, .int .i64 a1_2] 30 (0, 0)) bk hg (Kd.R_ne HO566.out BK561.out (by decide)))
      have n2_ := Bk.mk (blk_grown (g := gb562) (o := .cells #[.bool false, .int .i64 0, .int .i64 0] 30 (0, 0)) bk hg (Kd.R_ne HO566.out BK562.out (by decide)))
      have n3_ := Aside0.mk (Kd.R_after (ok := (fun _ => True)) (by (with_reducible repeat (first | apply Kd.R_alloc | apply Kd.R_drewN | apply Kd.R_drew)); exact HO569.out) hg hat)
      have n4_ := Bl.mk (hb)
      have n5_ := Aside0.mk (ho)
      clear BK560
      clear BK561
      clear BK562
      clear HO569
      clear HB
      clear HO566
      have BK560 := n0_
      have BK561 := n1_
      have BK562 := n2_
      have HO569 := n3_
      have HB := n4_
      have HO572 := n5_
      clear n0_ n1_ n2_ n3_ n4_ n5_
      clear ho hb hg hat
      obtain ⟨Ao23, co23, eo23⟩ := Kd.R_slice HO572.out
      (first | subst eo23 | (injection eo23 with f1_ f2_ f3_; have f4_ := f1_.symm; have f5_ := f3_.symm; clear f1_ f2_ f3_; subst f4_; subst f5_))
      refine hK.out _ _ ⟨(blk_cell BK560.out 0).trans rfl, (blk_cell BK560.out 1).trans rfl, (blk_cell BK560.out 2).trans rfl, (blk_cell BK561.out 0).trans rfl, (blk_cell BK561.out 1).trans rfl, (blk_cell BK561.out 2).trans rfl⟩ (fun hHeld => ?_)
      clear hK K
      refine norm_ (a' := ?_) ?_ ?_
      rotate_left
      · show Act.put _ (some 14) _ = _
        simp only [Act.put, List.setIfInBounds_toArray, List.set_cons_zero, List.set_cons_succ, i64_w, i32_w]
        rfl
      refine one_ (i := 5) (N := some 15) #[true, true, true, true, true, true, false] rfl rfl (by kernel_rfl) (by decide) (fun K hK => ?_)
      refine goes_ Try.func47 (by kernel_rfl) rfl #[.slice Ao23 y570.length co23] (by rfl) rfl rfl (by (try simp only [List.map_toArray, List.map_cons, List.map_nil]); first | done | rfl | (simp only [List.length_drop, List.length_take]; rfl)) ?_
      with_reducible refine (impl_spanned.calls k _ _ y570 t573 t574 t575 _ ?side1 ?side2 A8.out).mono ?_
      (case side1 => repeat (first | exact (Kd.R_reads' HO572.out).2.2 | (with_reducible refine Kd.C_alloc ?_ _) | (with_reducible refine Kd.C_drewN ?_ _) | (with_reducible refine Kd.C_drew ?_)))
      (case side2 => exact (Kd.R_reads' HO572.out).2.1)
      rintro e w24 ⟨rfl, hb⟩
      refine ⟨_, rfl, ?_⟩
      have n0_ := Aside0.mk (Kd.R_below (by (with_reducible repeat (first | apply Kd.R_alloc | apply Kd.R_drewN | apply Kd.R_drew)); exact HO569.out) hb)
      have n1_ := Aside0.mk (Kd.R_below (by (with_reducible repeat (first | apply Kd.R_alloc | apply Kd.R_drewN | apply Kd.R_drew)); exact HO572.out) hb)
      have n2_ := Bk.mk (blk_below (g := gb560) bk hb)
      have n3_ := Bk.mk (blk_below (g := gb561) bk hb)
      have n4_ := Bk.mk (blk_below (g := gb562) bk hb)
      have n5_ := Bl.mk (below_step bl hb)
      clear HO569
      clear HO572
      clear BK560
      clear BK561
      clear BK562
      clear HB
      have HO569 := n0_
      have HO572 := n1_
      have BK560 := n2_
      have BK561 := n3_
      have BK562 := n4_
      have HB := n5_
      clear n0_ n1_ n2_ n3_ n4_ n5_
      (try clear hb)
      (try clear hb2)
      (try clear hk)
      (try clear hi)
      refine hK.out _ _ ⟨(blk_cell BK560.out 0).trans rfl, (blk_cell BK560.out 1).trans rfl, (blk_cell BK560.out 2).trans rfl, (blk_cell BK561.out 0).trans rfl, (blk_cell BK561.out 1).trans rfl, (blk_cell BK561.out 2).trans rfl⟩ (fun hHeld => ?_)
      clear hK K
      refine norm_ (a' := ?_) ?_ ?_
      rotate_left
      · show Act.put _ (some 15) _ = _
        simp only [Act.put, List.setIfInBounds_toArray, List.set_cons_zero, List.set_cons_succ, i64_w, i32_w]
        rfl
      refine one_ (i := 6) (N := none) #[true, true, true, true, true, true, true] rfl rfl (by kernel_rfl) (by decide) (fun K hK => ?_)
      have hs25 : w24.cell? ⟨gb562, 0, none⟩ = some (.bool false) := (blk_cell BK562.out 0).trans rfl
      have hfs25 := blk_frozen BK562.out 0
      have hns25_0 := NB560_562.out
      have hns25_1 := NB561_562.out
      have hms25_0 := NB562_560.out
      have hms25_1 := NB562_561.out
      have hs26 : w24.cell? ⟨gb562, 1, none⟩ = some (.int .i64 0) := (blk_cell BK562.out 1).trans rfl
      have hfs26 := blk_frozen BK562.out 1
      have hns26_0 := NB560_562.out
      have hns26_1 := NB561_562.out
      have hms26_0 := NB562_560.out
      have hms26_1 := NB562_561.out
      have hs27 : w24.cell? ⟨gb562, 2, none⟩ = some (.int .i64 0) := (blk_cell BK562.out 2).trans rfl
      have hfs27 := blk_frozen BK562.out 2
      have hns27_0 := NB560_562.out
      have hns27_1 := NB561_562.out
      have hms27_0 := NB562_560.out
      have hms27_1 := NB562_561.out
      refine skip_ (w1 := ?_) (by rfl) rfl ?_ ?_
      rotate_left
      · go_simp
        rfl
      refine hK.out _ _ ⟨((cell_far (p := ⟨gb562, _, none⟩) NB560_562.out _).trans (((cell_far (p := ⟨gb562, _, none⟩) NB560_562.out _).trans (((cell_far (p := ⟨gb562, _, none⟩) NB560_562.out _).trans (hHeld.1)))))), ((cell_far (p := ⟨gb562, _, none⟩) NB560_562.out _).trans (((cell_far (p := ⟨gb562, _, none⟩) NB560_562.out _).trans (((cell_far (p := ⟨gb562, _, none⟩) NB560_562.out _).trans (hHeld.2.1)))))), ((cell_far (p := ⟨gb562, _, none⟩) NB560_562.out _).trans (((cell_far (p := ⟨gb562, _, none⟩) NB560_562.out _).trans (((cell_far (p := ⟨gb562, _, none⟩) NB560_562.out _).trans (hHeld.2.2.1)))))), ((cell_far (p := ⟨gb562, _, none⟩) NB561_562.out _).trans (((cell_far (p := ⟨gb562, _, none⟩) NB561_562.out _).trans (((cell_far (p := ⟨gb562, _, none⟩) NB561_562.out _).trans (hHeld.2.2.2.1)))))), ((cell_far (p := ⟨gb562, _, none⟩) NB561_562.out _).trans (((cell_far (p := ⟨gb562, _, none⟩) NB561_562.out _).trans (((cell_far (p := ⟨gb562, _, none⟩) NB561_562.out _).trans (hHeld.2.2.2.2.1)))))), ((cell_far (p := ⟨gb562, _, none⟩) NB561_562.out _).trans (((cell_far (p := ⟨gb562, _, none⟩) NB561_562.out _).trans (((cell_far (p := ⟨gb562, _, none⟩) NB561_562.out _).trans (hHeld.2.2.2.2.2))))))⟩ (fun hHeld => ?_)
      clear hK K
      refine done_ (by kernel_rfl) ?_
      try go_wp2
      refine bodyPost_ret (results_cell_row rfl _ _ gb562 30 #[.bool t573, .int .i64 t574, .int .i64 t575] (0, 0) _ rfl bk Try.underlying30 rfl (by kernel_rfl)) rfl ?_
      exact ⟨by first | rfl | (simp [errW_none, errW_some] <;> rfl) | (simp [*, errW_none, errW_some] <;> rfl), bl⟩
    · rw [if_neg c7] at H
      exact absurd H (by simp)
  · replace c4 := Bool.eq_false_iff.mpr c4
    subst c4
    rw [if_neg (show ¬ (false = true) by decide)] at H
    simp only [Option.some.injEq, Prod.mk.injEq] at H
    obtain ⟨rfl, rfl, rfl⟩ := H
    go_enter Try.func25, Try.ntmps25
    go_wp2_with (first | ((with_reducible refine gate_dst (N := 2) rfl ?_); refine box_event ?hg (N := 2) ?hd (cs := #[.bool a0_0, .int .i64 a0_1, .int .i64 a0_2]) (t := 30) ?hr ?_; (case hd => rfl); (case hg => rfl); (case hr => first | (go_simp; done) | (go_simp; rfl)); intro gb560 hg w28 hbox hb; have n0_ := Bl.mk (below_step bl hb); have n1_ := Bk.mk (hbox); have n2_ := Aside0.mk ((by rw [hg]; exact (below_size bl) : w.heap.size ≤ gb560)); have n3_ := Gl.mk ((by rw [hg]; exact (below_size bl) : w.heap.size ≤ gb560)); clear HB; have HB := n0_; have BK560 := n1_; have GW560 := n2_; have GE560 := n3_; clear n0_ n1_ n2_ n3_; clear hb hbox hg) | ((with_reducible refine gate_dst (N := 3) rfl ?_); refine box_event ?hg (N := 3) ?hd (cs := #[.bool a1_0, .int .i64 a1_1, .int .i64 a1_2]) (t := 30) ?hr ?_; (case hd => rfl); (case hg => rfl); (case hr => first | (go_simp; done) | (go_simp; rfl)); intro gb561 hg w29 hbox hb; have n0_ := Bk.mk (blk_below (g := gb560) bk hb); have n1_ := Bl.mk (below_step bl hb); have n2_ := Bk.mk (hbox); have n3_ := Aside0.mk ((by rw [hg]; exact (below_size bl) : w.heap.size ≤ gb561)); have n4_ := Gl.mk ((by rw [hg]; exact (below_size bl) : w.heap.size ≤ gb561)); have n5_ := Nb.mk ((by rw [hg]; exact Nat.ne_of_lt (blk_lt (g := gb560) bk) : gb560 ≠ gb561)); have n6_ := Nb.mk ((by rw [hg]; exact Nat.ne_of_gt (blk_lt (g := gb560) bk) : gb561 ≠ gb560)); clear BK560; clear HB; have BK560 := n0_; have HB := n1_; have BK561 := n2_; have GW561 := n3_; have GE561 := n4_; have NB560_561 := n5_; have NB561_560 := n6_; clear n0_ n1_ n2_ n3_ n4_ n5_ n6_; clear hb hbox hg) | ((with_reducible refine gate_dst (N := 4) rfl ?_); refine box_event ?hg (N := 4) ?hd (cs := #[.bool false, .int .i64 0, .int .i64 0]) (t := 30) ?hr ?_; (case hd => rfl); (case hg => rfl); (case hr => first | (go_simp; done) | (go_simp; rfl)); intro gb562 hg w30 hbox hb; have n0_ := Bk.mk (blk_below (g := gb560) bk hb); have n1_ := Bk.mk (blk_below (g := gb561) bk hb); have n2_ := Bl.mk (below_step bl hb); have n3_ := Bk.mk (hbox); have n4_ := Aside0.mk ((by rw [hg]; exact (below_size bl) : w.heap.size ≤ gb562)); have n5_ := Gl.mk ((by rw [hg]; exact (below_size bl) : w.heap.size ≤ gb562)); have n6_ := Nb.mk ((by rw [hg]; exact Nat.ne_of_lt (blk_lt (g := gb560) bk) : gb560 ≠ gb562)); have n7_ := Nb.mk ((by rw [hg]; exact Nat.ne_of_gt (blk_lt (g := gb560) bk) : gb562 ≠ gb560)); have n8_ := Nb.mk ((by rw [hg]; exact Nat.ne_of_lt (blk_lt (g := gb561) bk) : gb561 ≠ gb562)); have n9_ := Nb.mk ((by rw [hg]; exact Nat.ne_of_gt (blk_lt (g := gb561) bk) : gb562 ≠ gb561)); clear BK560; clear BK561; clear HB; have BK560 := n0_; have BK561 := n1_; have HB := n2_; have BK562 := n3_; have GW562 := n4_; have GE562 := n5_; have NB560_562 := n6_; have NB562_560 := n7_; have NB561_562 := n8_; have NB562_561 := n9_; clear n0_ n1_ n2_ n3_ n4_ n5_ n6_ n7_ n8_ n9_; clear hb hbox hg; have hnb31 := NB560_561.out; have hnc31 := NB561_560.out; have hnb32 := NB560_562.out; have hnc32 := NB562_560.out; have hcz33_0 := bc0 BK560.out; have hcz33_1 := bc1 BK560.out; have hcz33_2 := bc2 BK560.out; have hfz33_0 := blk_frozen BK560.out 0; have hfz33_1 := blk_frozen BK560.out 1; have hfz33_2 := blk_frozen BK560.out 2; have hnb34 := NB561_562.out; have hnc34 := NB562_561.out; have hcz35_0 := bc0 BK561.out; have hcz35_1 := bc1 BK561.out; have hcz35_2 := bc2 BK561.out; have hfz35_0 := blk_frozen BK561.out 0; have hfz35_1 := blk_frozen BK561.out 1; have hfz35_2 := blk_frozen BK561.out 2) | ((with_reducible refine gate_callee (f := 45) rfl ?_); refine goesL_ (some 7) rfl rfl Try.func45 (by kernel_rfl) rfl #[.agg #[.bool a0_0, .int .i64 a0_1, .int .i64 a0_2], .agg #[.bool a1_0, .int .i64 a1_1, .int .i64 a1_2]] rfl (by (try simp only [List.map_toArray, List.map_cons, List.map_nil]); first | done | rfl | (simp only [List.length_drop, List.length_take]; rfl)) ?_; (with_reducible refine (impl_bothOk.calls a0_0 a0_1 a0_2 a1_0 a1_1 a1_2 false _ A3.out).mono ?_); rintro e w36 ⟨rfl, hb⟩; refine ⟨_, rfl, ?_⟩; have n0_ := Bk.mk (blk_below (g := gb560) bk hb); have n1_ := Bk.mk (blk_below (g := gb561) bk hb); have n2_ := Bk.mk (blk_below (g := gb562) bk hb); have n3_ := Bl.mk (below_step bl hb); clear BK560; clear BK561; clear BK562; clear HB; have BK560 := n0_; have BK561 := n1_; have BK562 := n2_; have HB := n3_; clear n0_ n1_ n2_ n3_; (try clear hb); (try clear hb2); (try clear hk); (try clear hi); have hcz37_0 := bc0 BK562.out; have hcz37_1 := bc1 BK562.out; have hcz37_2 := bc2 BK562.out; have hfz37_0 := blk_frozen BK562.out 0; have hfz37_1 := blk_frozen BK562.out 1; have hfz37_2 := blk_frozen BK562.out 2))
    refine bodyPost_ret (results_cell_row rfl _ _ gb562 30 #[.bool false, .int .i64 0, .int .i64 0] (0, 0) _ rfl bk Try.underlying30 rfl (by kernel_rfl)) rfl ?_
    exact ⟨by first | rfl | (simp [errW_none, errW_some] <;> rfl) | (simp [*, errW_none, errW_some] <;> rfl), bl⟩

end Go.Proofs.Ytekmapilhomdgaa.P
