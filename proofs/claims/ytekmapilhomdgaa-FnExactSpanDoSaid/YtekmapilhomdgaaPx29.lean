/- The contracts of Go functions of this seat: each call comes to what the Lean function of the same name says. -/
import Derived.Test.YtekmapilhomdgaaPx0
import Derived.Test.YtekmapilhomdgaaPx1
import Derived.Test.YtekmapilhomdgaaPx15
import Derived.Test.YtekmapilhomdgaaPx19
namespace Go.Proofs.Ytekmapilhomdgaa.P
open Go.RowKit Go.Proofs.YtekmapilhomdgaaW.PrintWords Go.Proofs.YtekmapilhomdgaaW.PrintLast Go.Proofs.YtekmapilhomdgaaW.PrintMore
attribute [local go_sem] max2_int min2_int max_two min_two max_three min_three max_four min_four   -- for this text's walks alone
set_option linter.unusedVariables false
set_option linter.unusedSimpArgs false

attribute [local go_sem high] eqA30
/-! ### spec_l1Same: function 48 -/
def spec_l1Same.j0 : Nat → Bool → Option (Bool × Int × Int)
  | 0, _ => none
  | k + 1, x22 => if x22 = true then ((spec_l1Of.f 1 1).bind fun bt373 => (some (bt373.1, bt373.2.1, bt373.2.2))) else ((spec_l1Of.f 0 1).bind fun bt376 => (some (bt376.1, bt376.2.1, bt376.2.2)))
def spec_l1Same.f (k : Nat) (a0_0 : Bool) (a0_1 : Int) (a0_2 : Int) (a1_0 : Bool) (a1_1 : Int) (a1_2 : Int) : Option (Bool × Int × Int) := (spec_SpanMeet.f a0_0 a0_1 a0_2 a1_0 a1_1 a1_2).bind fun bt366 => (if bt366.1 = true then (if (a0_0 == a1_0 && (a0_1 == a1_1 && (a0_2 == a1_2))) = true then (spec_l1Same.j0 k (a0_1 == a0_2)) else (spec_l1Same.j0 k false)) else ((spec_l1Of.f 0 0).bind fun bt370 => (some (bt370.1, bt370.2.1, bt370.2.2))))
theorem spec_l1Same.mono_l : ∀ k, (∀ y0, LeO (spec_l1Same.j0 k y0) (spec_l1Same.j0 (k + 1) y0))
  | 0 => fun _ r h => by simp [spec_l1Same.j0] at h
  | k + 1 => by
    have ih0 := spec_l1Same.mono_l k
    · intro y0
      unfold spec_l1Same.j0
      repeat' first
      | (with_reducible exact ih0 _)
      | (with_reducible exact LeO.refl _)
      | (with_reducible exact LeO.none _)
      | (with_reducible refine LeO.ite ?_ ?_)
      | (with_reducible refine LeO.bind ?_ (fun _ => ?_))
      | exact ih0 _
      | exact LeO.none _
      | refine LeO.ite ?_ ?_
      | refine LeO.bind ?_ (fun _ => ?_)
theorem spec_l1Same.mono : ∀ a0 a1 a2 a3 a4 a5 k, LeO (spec_l1Same.f k a0 a1 a2 a3 a4 a5) (spec_l1Same.f (k + 1) a0 a1 a2 a3 a4 a5) := by
  intro a0 a1 a2 a3 a4 a5 k
  have ih0 := spec_l1Same.mono_l k
  unfold spec_l1Same.f
  repeat' first
      | (with_reducible exact ih0 _)
      | (with_reducible exact LeO.refl _)
      | (with_reducible exact LeO.none _)
      | (with_reducible refine LeO.ite ?_ ?_)
      | (with_reducible refine LeO.bind ?_ (fun _ => ?_))
      | exact ih0 _
      | exact LeO.none _
      | refine LeO.ite ?_ ?_
      | refine LeO.bind ?_ (fun _ => ?_)
set_option maxHeartbeats 8000000 in
set_option maxRecDepth 100000 in
theorem spec_l1Same.calls (k : Nat) (a0_0 : Bool) (a0_1 : Int) (a0_2 : Int) (a1_0 : Bool) (a1_1 : Int) (a1_2 : Int) (r1 : Bool) (r2 : Int) (r3 : Int) (w : World) (h : spec_l1Same.f k a0_0 a0_1 a0_2 a1_0 a1_1 a1_2 = some (r1, r2, r3)) :
    Calls Try.prog 48 #[.agg #[.bool a0_0, .int .i64 a0_1, .int .i64 a0_2], .agg #[.bool a1_0, .int .i64 a1_1, .int .i64 a1_2]] w fun e w' => e = .returned (.agg #[.bool r1, .int .i64 r2, .int .i64 r3]) ∧ Below w.heap.size w w' := by
  have hu30 := Try.underlying30
  have HB := Bl.mk (Below.refl w.heap.size w)
  unfold spec_l1Same.f at h
  have H := h
  clear h
  replace H := Option.bind_eq_some_iff.mp H
  obtain ⟨⟨t366, t367, t368⟩, A30, H⟩ := H
  try dsimp only at H
  have A3 := Aside0.mk A30
  clear A30
  by_cases c4 : t366 = true
  · subst c4
    rw [if_pos rfl] at H
    have HC5 := Aside0.mk H
    clear H
    go_enter Try.func48, Try.ntmps48
    go_upto_region 4 with (first | ((with_reducible refine gate_dst (N := 2) rfl ?_); refine box_event ?hg (N := 2) ?hd (cs := #[.bool a0_0, .int .i64 a0_1, .int .i64 a0_2]) (t := 30) ?hr ?_; (case hd => rfl); (case hg => rfl); (case hr => first | (go_simp; done) | (go_simp; rfl)); intro gb363 hg w6 hbox hb; have n0_ := Bl.mk (below_step bl hb); have n1_ := Bk.mk (hbox); have n2_ := Aside0.mk ((by rw [hg]; exact (below_size bl) : w.heap.size ≤ gb363)); have n3_ := Gl.mk ((by rw [hg]; exact (below_size bl) : w.heap.size ≤ gb363)); clear HB; have HB := n0_; have BK363 := n1_; have GW363 := n2_; have GE363 := n3_; clear n0_ n1_ n2_ n3_; clear hb hbox hg) | ((with_reducible refine gate_dst (N := 3) rfl ?_); refine box_event ?hg (N := 3) ?hd (cs := #[.bool a1_0, .int .i64 a1_1, .int .i64 a1_2]) (t := 30) ?hr ?_; (case hd => rfl); (case hg => rfl); (case hr => first | (go_simp; done) | (go_simp; rfl)); intro gb364 hg w7 hbox hb; have n0_ := Bk.mk (blk_below (g := gb363) bk hb); have n1_ := Bl.mk (below_step bl hb); have n2_ := Bk.mk (hbox); have n3_ := Aside0.mk ((by rw [hg]; exact (below_size bl) : w.heap.size ≤ gb364)); have n4_ := Gl.mk ((by rw [hg]; exact (below_size bl) : w.heap.size ≤ gb364)); have n5_ := Nb.mk ((by rw [hg]; exact Nat.ne_of_lt (blk_lt (g := gb363) bk) : gb363 ≠ gb364)); have n6_ := Nb.mk ((by rw [hg]; exact Nat.ne_of_gt (blk_lt (g := gb363) bk) : gb364 ≠ gb363)); clear BK363; clear HB; have BK363 := n0_; have HB := n1_; have BK364 := n2_; have GW364 := n3_; have GE364 := n4_; have NB363_364 := n5_; have NB364_363 := n6_; clear n0_ n1_ n2_ n3_ n4_ n5_ n6_; clear hb hbox hg) | ((with_reducible refine gate_dst (N := 4) rfl ?_); refine box_event ?hg (N := 4) ?hd (cs := #[.bool false, .int .i64 0, .int .i64 0]) (t := 30) ?hr ?_; (case hd => rfl); (case hg => rfl); (case hr => first | (go_simp; done) | (go_simp; rfl)); intro gb365 hg w8 hbox hb; have n0_ := Bk.mk (blk_below (g := gb363) bk hb); have n1_ := Bk.mk (blk_below (g := gb364) bk hb); have n2_ := Bl.mk (below_step bl hb); have n3_ := Bk.mk (hbox); have n4_ := Aside0.mk ((by rw [hg]; exact (below_size bl) : w.heap.size ≤ gb365)); have n5_ := Gl.mk ((by rw [hg]; exact (below_size bl) : w.heap.size ≤ gb365)); have n6_ := Nb.mk ((by rw [hg]; exact Nat.ne_of_lt (blk_lt (g := gb363) bk) : gb363 ≠ gb365)); have n7_ := Nb.mk ((by rw [hg]; exact Nat.ne_of_gt (blk_lt (g := gb363) bk) : gb365 ≠ gb363)); have n8_ := Nb.mk ((by rw [hg]; exact Nat.ne_of_lt (blk_lt (g := gb364) bk) : gb364 ≠ gb365)); have n9_ := Nb.mk ((by rw [hg]; exact Nat.ne_of_gt (blk_lt (g := gb364) bk) : gb365 ≠ gb364)); clear BK363; clear BK364; clear HB; have BK363 := n0_; have BK364 := n1_; have HB := n2_; have BK365 := n3_; have GW365 := n4_; have GE365 := n5_; have NB363_365 := n6_; have NB365_363 := n7_; have NB364_365 := n8_; have NB365_364 := n9_; clear n0_ n1_ n2_ n3_ n4_ n5_ n6_ n7_ n8_ n9_; clear hb hbox hg; have hnb9 := NB363_364.out; have hnc9 := NB364_363.out; have hnb10 := NB363_365.out; have hnc10 := NB365_363.out; have hcz11_0 := bc0 BK363.out; have hcz11_1 := bc1 BK363.out; have hcz11_2 := bc2 BK363.out; have hfz11_0 := blk_frozen BK363.out 0; have hfz11_1 := blk_frozen BK363.out 1; have hfz11_2 := blk_frozen BK363.out 2; have hnb12 := NB364_365.out; have hnc12 := NB365_364.out; have hcz13_0 := bc0 BK364.out; have hcz13_1 := bc1 BK364.out; have hcz13_2 := bc2 BK364.out; have hfz13_0 := blk_frozen BK364.out 0; have hfz13_1 := blk_frozen BK364.out 1; have hfz13_2 := blk_frozen BK364.out 2) | ((with_reducible refine gate_callee (f := 44) rfl ?_); refine goesL_ (some 8) rfl rfl Try.func44 (by kernel_rfl) rfl #[.agg #[.bool a0_0, .int .i64 a0_1, .int .i64 a0_2], .agg #[.bool a1_0, .int .i64 a1_1, .int .i64 a1_2]] rfl (by (try simp only [List.map_toArray, List.map_cons, List.map_nil]); first | done | rfl | (simp only [List.length_drop, List.length_take]; rfl)) ?_; (with_reducible refine (spec_SpanMeet.calls a0_0 a0_1 a0_2 a1_0 a1_1 a1_2 true t367 t368 _ A3.out).mono ?_); rintro e w14 ⟨rfl, hb⟩; refine ⟨_, rfl, ?_⟩; have n0_ := Bk.mk (blk_below (g := gb363) bk hb); have n1_ := Bk.mk (blk_below (g := gb364) bk hb); have n2_ := Bk.mk (blk_below (g := gb365) bk hb); have n3_ := Bl.mk (below_step bl hb); clear BK363; clear BK364; clear BK365; clear HB; have BK363 := n0_; have BK364 := n1_; have BK365 := n2_; have HB := n3_; clear n0_ n1_ n2_ n3_; (try clear hb); (try clear hb2); (try clear hk); (try clear hi)) | ((with_reducible refine gate_dst (N := 5) rfl ?_); refine box_event ?hg (N := 5) ?hd (cs := #[.bool false, .int .i64 0, .int .i64 0]) (t := 30) ?hr ?_; (case hd => rfl); (case hg => rfl); (case hr => first | (go_simp; done) | (go_simp; rfl)); intro gb369 hg w15 hbox hb; have n0_ := Bk.mk (blk_below (g := gb363) bk hb); have n1_ := Bk.mk (blk_below (g := gb364) bk hb); have n2_ := Bk.mk (blk_below (g := gb365) bk hb); have n3_ := Bl.mk (below_step bl hb); have n4_ := Bk.mk (hbox); have n5_ := Aside0.mk ((by rw [hg]; exact (below_size bl) : w.heap.size ≤ gb369)); have n6_ := Gl.mk ((by rw [hg]; exact (below_size bl) : w.heap.size ≤ gb369)); have n7_ := Nb.mk ((by rw [hg]; exact Nat.ne_of_lt (blk_lt (g := gb363) bk) : gb363 ≠ gb369)); have n8_ := Nb.mk ((by rw [hg]; exact Nat.ne_of_gt (blk_lt (g := gb363) bk) : gb369 ≠ gb363)); have n9_ := Nb.mk ((by rw [hg]; exact Nat.ne_of_lt (blk_lt (g := gb364) bk) : gb364 ≠ gb369)); have n10_ := Nb.mk ((by rw [hg]; exact Nat.ne_of_gt (blk_lt (g := gb364) bk) : gb369 ≠ gb364)); have n11_ := Nb.mk ((by rw [hg]; exact Nat.ne_of_lt (blk_lt (g := gb365) bk) : gb365 ≠ gb369)); have n12_ := Nb.mk ((by rw [hg]; exact Nat.ne_of_gt (blk_lt (g := gb365) bk) : gb369 ≠ gb365)); clear BK363; clear BK364; clear BK365; clear HB; have BK363 := n0_; have BK364 := n1_; have BK365 := n2_; have HB := n3_; have BK369 := n4_; have GW369 := n5_; have GE369 := n6_; have NB363_369 := n7_; have NB369_363 := n8_; have NB364_369 := n9_; have NB369_364 := n10_; have NB365_369 := n11_; have NB369_365 := n12_; clear n0_ n1_ n2_ n3_ n4_ n5_ n6_ n7_ n8_ n9_ n10_ n11_ n12_; clear hb hbox hg; have hnb16 := NB369_363.out; have hnc16 := NB363_369.out; have hnb17 := NB369_364.out; have hnc17 := NB364_369.out; have hnb18 := NB369_365.out; have hnc18 := NB365_369.out; have hcz19_0 := bc0 BK369.out; have hcz19_1 := bc1 BK369.out; have hcz19_2 := bc2 BK369.out; have hfz19_0 := blk_frozen BK369.out 0; have hfz19_1 := blk_frozen BK369.out 1; have hfz19_2 := blk_frozen BK369.out 2))
    (try simp only [Act.put, List.setIfInBounds_toArray, List.set_cons_zero, List.set_cons_succ])
    go_cut [22] (fun v22 wc => ∃ (kq : Nat) (x22_4 : Bool), v22 = .bool x22_4 ∧ Aside0 (spec_l1Same.j0 kq x22_4 = some (r1, r2, r3)) ∧ Aside0 (kq ≤ k) ∧ Bk wc gb363 (.cells #[.bool a0_0, .int .i64 a0_1, .int .i64 a0_2] 30 (0, 0)) ∧ Bk wc gb364 (.cells #[.bool a1_0, .int .i64 a1_1, .int .i64 a1_2] 30 (0, 0)) ∧ Bk wc gb365 (.cells #[.bool false, .int .i64 0, .int .i64 0] 30 (0, 0)) ∧ Bk wc gb369 (.cells #[.bool true, .int .i64 t367, .int .i64 t368] 30 (0, 0)) ∧ Bl w.heap.size w wc)
    case first =>
      have H := HC5.out
      clear HC5
      by_cases c20 : (a0_0 == a1_0 && (a0_1 == a1_1 && (a0_2 == a1_2))) = true
      · rw [if_pos c20] at H
        have c20b0 : (a0_0 == a1_0 && (a0_1 == a1_1 && (a0_2 == a1_2))) = true := c20
        (try (have c20b1 : decide (a0_0 = a1_0 && (a0_1 == a1_1 && (a0_2 == a1_2))) = true := by simpa using c20))
        (try (have c20b2 : (a0_0 == a1_0 && (a0_1 == a1_1 && (a0_2 == a1_2))) = true := by simpa using c20))
        clear c20
        (first | rw [c20b0] | (simp only [i64_w, i32_w]; rw [c20b0]) | skip)
        have H' := Aside0.mk H
        clear H
        have hnb21 := NB363_364.out
        have hnc21 := NB364_363.out
        have hnb22 := NB363_365.out
        have hnc22 := NB365_363.out
        have hnb23 := NB363_369.out
        have hnc23 := NB369_363.out
        have hcz24_0 := bc0 BK363.out
        have hcz24_1 := bc1 BK363.out
        have hcz24_2 := bc2 BK363.out
        have hfz24_0 := blk_frozen BK363.out 0
        have hfz24_1 := blk_frozen BK363.out 1
        have hfz24_2 := blk_frozen BK363.out 2
        have hnb25 := NB364_365.out
        have hnc25 := NB365_364.out
        have hnb26 := NB364_369.out
        have hnc26 := NB369_364.out
        have hcz27_0 := bc0 BK364.out
        have hcz27_1 := bc1 BK364.out
        have hcz27_2 := bc2 BK364.out
        have hfz27_0 := blk_frozen BK364.out 0
        have hfz27_1 := blk_frozen BK364.out 1
        have hfz27_2 := blk_frozen BK364.out 2
        go_wp2
        go_meet
        case rel => exact ⟨_, ((a0_1 == a0_2)), (by first | rfl | (simp; done) | (simp [*]; done)), H', ⟨by first | omega | exact Nat.le_refl _⟩, ⟨bk⟩, ⟨bk⟩, ⟨bk⟩, ⟨bk⟩, ⟨bl⟩⟩
      · rw [if_neg c20] at H
        have c20b0 : (a0_0 == a1_0 && (a0_1 == a1_1 && (a0_2 == a1_2))) = false := by simpa using c20
        (try (have c20b1 : decide (a0_0 = a1_0 && (a0_1 == a1_1 && (a0_2 == a1_2))) = false := by simpa using c20))
        (try (have c20b2 : (a0_0 == a1_0 && (a0_1 == a1_1 && (a0_2 == a1_2))) = false := by simpa using c20))
        (try (have c20b3 : ¬ (a0_0 = a1_0 && (a0_1 == a1_1 && (a0_2 == a1_2))) := by simpa using c20))
        clear c20
        (first | rw [c20b0] | (simp only [i64_w, i32_w]; rw [c20b0]) | skip)
        have H' := Aside0.mk H
        clear H
        have hnb28 := NB363_364.out
        have hnc28 := NB364_363.out
        have hnb29 := NB363_365.out
        have hnc29 := NB365_363.out
        have hnb30 := NB363_369.out
        have hnc30 := NB369_363.out
        have hcz31_0 := bc0 BK363.out
        have hcz31_1 := bc1 BK363.out
        have hcz31_2 := bc2 BK363.out
        have hfz31_0 := blk_frozen BK363.out 0
        have hfz31_1 := blk_frozen BK363.out 1
        have hfz31_2 := blk_frozen BK363.out 2
        have hnb32 := NB364_365.out
        have hnc32 := NB365_364.out
        have hnb33 := NB364_369.out
        have hnc33 := NB369_364.out
        have hcz34_0 := bc0 BK364.out
        have hcz34_1 := bc1 BK364.out
        have hcz34_2 := bc2 BK364.out
        have hfz34_0 := blk_frozen BK364.out 0
        have hfz34_1 := blk_frozen BK364.out 1
        have hfz34_2 := blk_frozen BK364.out 2
        go_wp2
        go_meet
        case rel => exact ⟨_, (false), (by first | rfl | (simp; done) | (simp [*]; done)), H', ⟨by first | omega | exact Nat.le_refl _⟩, ⟨bk⟩, ⟨bk⟩, ⟨bk⟩, ⟨bk⟩, ⟨bl⟩⟩
    case rest =>
      clear HC5
      try clear c1
      try clear c2
      try clear p2
      try clear c3
      try clear c4
      try clear c9
      try clear c10
      try clear c12
      try clear c16
      try clear c17
      try clear c18
      try clear c20
      try clear c20b0
      try clear c20b1
      try clear c20b2
      try clear c21
      try clear c22
      try clear c23
      try clear c25
      try clear c26
      try clear c28
      try clear c29
      try clear c30
      try clear c32
      try clear c33
      try clear hcz11_0
      try clear hcz11_1
      try clear hcz11_2
      try clear hcz13_0
      try clear hcz13_1
      try clear hcz13_2
      try clear hcz19_0
      try clear hcz19_1
      try clear hcz19_2
      try clear hcz24_0
      try clear hcz24_1
      try clear hcz24_2
      try clear hcz27_0
      try clear hcz27_1
      try clear hcz27_2
      try clear hcz31_0
      try clear hcz31_1
      try clear hcz31_2
      try clear hcz34_0
      try clear hcz34_1
      try clear hcz34_2
      try clear hfz11_0
      try clear hfz11_1
      try clear hfz11_2
      try clear hfz13_0
      try clear hfz13_1
      try clear hfz13_2
      try clear hfz19_0
      try clear hfz19_1
      try clear hfz19_2
      try clear hfz24_0
      try clear hfz24_1
      try clear hfz24_2
      try clear hfz27_0
      try clear hfz27_1
      try clear hfz27_2
      try clear hfz31_0
      try clear hfz31_1
      try clear hfz31_2
      try clear hfz34_0
      try clear hfz34_1
      try clear hfz34_2
      obtain ⟨kq, x22_4, rfl, HA, HJ4, BK363, BK364, BK365, BK369, HB⟩ := hcut
      cases kq with
      | zero => exact absurd HA.out (by simp [spec_l1Same.j0])
      | succ kj4 =>
        have H := HA.out
        clear HA
        simp only [spec_l1Same.j0] at H
        by_cases c35 : x22_4 = true
        · subst c35
          rw [if_pos rfl] at H
          replace H := Option.bind_eq_some_iff.mp H
          obtain ⟨⟨t373, t374, t375⟩, A360, H⟩ := H
          try dsimp only at H
          have A36 := Aside0.mk A360
          clear A360
          simp only [Option.some.injEq, Prod.mk.injEq] at H
          obtain ⟨rfl, rfl, rfl⟩ := H
          go_wp2_with (first | ((with_reducible refine gate_callee (f := 41) rfl ?_); refine goesL_ (some 23) rfl rfl Try.func41 (by kernel_rfl) rfl #[.int .i64 1, .int .i64 1] rfl (by (try simp only [List.map_toArray, List.map_cons, List.map_nil]); first | done | rfl | (simp only [List.length_drop, List.length_take]; rfl)) ?_; (with_reducible refine (spec_l1Of.calls 1 1 t373 t374 t375 _ A36.out).mono ?_); rintro e w37 ⟨rfl, hb⟩; refine ⟨_, rfl, ?_⟩; have n0_ := Bk.mk (blk_below (g := gb363) bk hb); have n1_ := Bk.mk (blk_below (g := gb364) bk hb); have n2_ := Bk.mk (blk_below (g := gb365) bk hb); have n3_ := Bk.mk (blk_below (g := gb369) bk hb); have n4_ := Bl.mk (below_step bl hb); clear BK363; clear BK364; clear BK365; clear BK369; clear HB; have BK363 := n0_; have BK364 := n1_; have BK365 := n2_; have BK369 := n3_; have HB := n4_; clear n0_ n1_ n2_ n3_ n4_; (try clear hb); (try clear hb2); (try clear hk); (try clear hi); have hnb38 := NB365_363.out; have hnc38 := NB363_365.out; have hnb39 := NB365_364.out; have hnc39 := NB364_365.out; have hnb40 := NB365_369.out; have hnc40 := NB369_365.out; have hcz41_0 := bc0 BK365.out; have hcz41_1 := bc1 BK365.out; have hcz41_2 := bc2 BK365.out; have hfz41_0 := blk_frozen BK365.out 0; have hfz41_1 := blk_frozen BK365.out 1; have hfz41_2 := blk_frozen BK365.out 2))
          refine bodyPost_ret (results_cell_row rfl _ _ gb365 30 #[.bool t373, .int .i64 t374, .int .i64 t375] (0, 0) _ rfl bk Try.underlying30 rfl (by kernel_rfl)) rfl ?_
          exact ⟨by first | rfl | (simp [errW_none, errW_some] <;> rfl) | (simp [*, errW_none, errW_some] <;> rfl), bl⟩
        · replace c35 := Bool.eq_false_iff.mpr c35
          subst c35
          rw [if_neg (show ¬ (false = true) by decide)] at H
          replace H := Option.bind_eq_some_iff.mp H
          obtain ⟨⟨t376, t377, t378⟩, A420, H⟩ := H
          try dsimp only at H
          have A42 := Aside0.mk A420
          clear A420
          simp only [Option.some.injEq, Prod.mk.injEq] at H
          obtain ⟨rfl, rfl, rfl⟩ := H
          go_wp2_with (first | ((with_reducible refine gate_callee (f := 41) rfl ?_); refine goesL_ (some 24) rfl rfl Try.func41 (by kernel_rfl) rfl #[.int .i64 0, .int .i64 1] rfl (by (try simp only [List.map_toArray, List.map_cons, List.map_nil]); first | done | rfl | (simp only [List.length_drop, List.length_take]; rfl)) ?_; (with_reducible refine (spec_l1Of.calls 0 1 t376 t377 t378 _ A42.out).mono ?_); rintro e w43 ⟨rfl, hb⟩; refine ⟨_, rfl, ?_⟩; have n0_ := Bk.mk (blk_below (g := gb363) bk hb); have n1_ := Bk.mk (blk_below (g := gb364) bk hb); have n2_ := Bk.mk (blk_below (g := gb365) bk hb); have n3_ := Bk.mk (blk_below (g := gb369) bk hb); have n4_ := Bl.mk (below_step bl hb); clear BK363; clear BK364; clear BK365; clear BK369; clear HB; have BK363 := n0_; have BK364 := n1_; have BK365 := n2_; have BK369 := n3_; have HB := n4_; clear n0_ n1_ n2_ n3_ n4_; (try clear hb); (try clear hb2); (try clear hk); (try clear hi); have hnb44 := NB365_363.out; have hnc44 := NB363_365.out; have hnb45 := NB365_364.out; have hnc45 := NB364_365.out; have hnb46 := NB365_369.out; have hnc46 := NB369_365.out; have hcz47_0 := bc0 BK365.out; have hcz47_1 := bc1 BK365.out; have hcz47_2 := bc2 BK365.out; have hfz47_0 := blk_frozen BK365.out 0; have hfz47_1 := blk_frozen BK365.out 1; have hfz47_2 := blk_frozen BK365.out 2))
          refine bodyPost_ret (results_cell_row rfl _ _ gb365 30 #[.bool t376, .int .i64 t377, .int .i64 t378] (0, 0) _ rfl bk Try.underlying30 rfl (by kernel_rfl)) rfl ?_
          exact ⟨by first | rfl | (simp [errW_none, errW_some] <;> rfl) | (simp [*, errW_none, errW_some] <;> rfl), bl⟩
  · replace c4 := Bool.eq_false_iff.mpr c4
    subst c4
    rw [if_neg (show ¬ (false = true) by decide)] at H
    replace H := Option.bind_eq_some_iff.mp H
    obtain ⟨⟨t370, t371, t372⟩, A480, H⟩ := H
    try dsimp only at H
    have A48 := Aside0.mk A480
    clear A480
    simp only [Option.some.injEq, Prod.mk.injEq] at H
    obtain ⟨rfl, rfl, rfl⟩ := H
    go_enter Try.func48, Try.ntmps48
    go_wp2_with (first | ((with_reducible refine gate_dst (N := 2) rfl ?_); refine box_event ?hg (N := 2) ?hd (cs := #[.bool a0_0, .int .i64 a0_1, .int .i64 a0_2]) (t := 30) ?hr ?_; (case hd => rfl); (case hg => rfl); (case hr => first | (go_simp; done) | (go_simp; rfl)); intro gb363 hg w49 hbox hb; have n0_ := Bl.mk (below_step bl hb); have n1_ := Bk.mk (hbox); have n2_ := Aside0.mk ((by rw [hg]; exact (below_size bl) : w.heap.size ≤ gb363)); have n3_ := Gl.mk ((by rw [hg]; exact (below_size bl) : w.heap.size ≤ gb363)); clear HB; have HB := n0_; have BK363 := n1_; have GW363 := n2_; have GE363 := n3_; clear n0_ n1_ n2_ n3_; clear hb hbox hg) | ((with_reducible refine gate_dst (N := 3) rfl ?_); refine box_event ?hg (N := 3) ?hd (cs := #[.bool a1_0, .int .i64 a1_1, .int .i64 a1_2]) (t := 30) ?hr ?_; (case hd => rfl); (case hg => rfl); (case hr => first | (go_simp; done) | (go_simp; rfl)); intro gb364 hg w50 hbox hb; have n0_ := Bk.mk (blk_below (g := gb363) bk hb); have n1_ := Bl.mk (below_step bl hb); have n2_ := Bk.mk (hbox); have n3_ := Aside0.mk ((by rw [hg]; exact (below_size bl) : w.heap.size ≤ gb364)); have n4_ := Gl.mk ((by rw [hg]; exact (below_size bl) : w.heap.size ≤ gb364)); have n5_ := Nb.mk ((by rw [hg]; exact Nat.ne_of_lt (blk_lt (g := gb363) bk) : gb363 ≠ gb364)); have n6_ := Nb.mk ((by rw [hg]; exact Nat.ne_of_gt (blk_lt (g := gb363) bk) : gb364 ≠ gb363)); clear BK363; clear HB; have BK363 := n0_; have HB := n1_; have BK364 := n2_; have GW364 := n3_; have GE364 := n4_; have NB363_364 := n5_; have NB364_363 := n6_; clear n0_ n1_ n2_ n3_ n4_ n5_ n6_; clear hb hbox hg) | ((with_reducible refine gate_dst (N := 4) rfl ?_); refine box_event ?hg (N := 4) ?hd (cs := #[.bool false, .int .i64 0, .int .i64 0]) (t := 30) ?hr ?_; (case hd => rfl); (case hg => rfl); (case hr => first | (go_simp; done) | (go_simp; rfl)); intro gb365 hg w51 hbox hb; have n0_ := Bk.mk (blk_below (g := gb363) bk hb); have n1_ := Bk.mk (blk_below (g := gb364) bk hb); have n2_ := Bl.mk (below_step bl hb); have n3_ := Bk.mk (hbox); have n4_ := Aside0.mk ((by rw [hg]; exact (below_size bl) : w.heap.size ≤ gb365)); have n5_ := Gl.mk ((by rw [hg]; exact (below_size bl) : w.heap.size ≤ gb365)); have n6_ := Nb.mk ((by rw [hg]; exact Nat.ne_of_lt (blk_lt (g := gb363) bk) : gb363 ≠ gb365)); have n7_ := Nb.mk ((by rw [hg]; exact Nat.ne_of_gt (blk_lt (g := gb363) bk) : gb365 ≠ gb363)); have n8_ := Nb.mk ((by rw [hg]; exact Nat.ne_of_lt (blk_lt (g := gb364) bk) : gb364 ≠ gb365)); have n9_ := Nb.mk ((by rw [hg]; exact Nat.ne_of_gt (blk_lt (g := gb364) bk) : gb365 ≠ gb364)); clear BK363; clear BK364; clear HB; have BK363 := n0_; have BK364 := n1_; have HB := n2_; have BK365 := n3_; have GW365 := n4_; have GE365 := n5_; have NB363_365 := n6_; have NB365_363 := n7_; have NB364_365 := n8_; have NB365_364 := n9_; clear n0_ n1_ n2_ n3_ n4_ n5_ n6_ n7_ n8_ n9_; clear hb hbox hg; have hnb52 := NB363_364.out; have hnc52 := NB364_363.out; have hnb53 := NB363_365.out; have hnc53 := NB365_363.out; have hcz54_0 := bc0 BK363.out; have hcz54_1 := bc1 BK363.out; have hcz54_2 := bc2 BK363.out; have hfz54_0 := blk_frozen BK363.out 0; have hfz54_1 := blk_frozen BK363.out 1; have hfz54_2 := blk_frozen BK363.out 2; have hnb55 := NB364_365.out; have hnc55 := NB365_364.out; have hcz56_0 := bc0 BK364.out; have hcz56_1 := bc1 BK364.out; have hcz56_2 := bc2 BK364.out; have hfz56_0 := blk_frozen BK364.out 0; have hfz56_1 := blk_frozen BK364.out 1; have hfz56_2 := blk_frozen BK364.out 2) | ((with_reducible refine gate_callee (f := 44) rfl ?_); refine goesL_ (some 8) rfl rfl Try.func44 (by kernel_rfl) rfl #[.agg #[.bool a0_0, .int .i64 a0_1, .int .i64 a0_2], .agg #[.bool a1_0, .int .i64 a1_1, .int .i64 a1_2]] rfl (by (try simp only [List.map_toArray, List.map_cons, List.map_nil]); first | done | rfl | (simp only [List.length_drop, List.length_take]; rfl)) ?_; (with_reducible refine (spec_SpanMeet.calls a0_0 a0_1 a0_2 a1_0 a1_1 a1_2 false t367 t368 _ A3.out).mono ?_); rintro e w57 ⟨rfl, hb⟩; refine ⟨_, rfl, ?_⟩; have n0_ := Bk.mk (blk_below (g := gb363) bk hb); have n1_ := Bk.mk (blk_below (g := gb364) bk hb); have n2_ := Bk.mk (blk_below (g := gb365) bk hb); have n3_ := Bl.mk (below_step bl hb); clear BK363; clear BK364; clear BK365; clear HB; have BK363 := n0_; have BK364 := n1_; have BK365 := n2_; have HB := n3_; clear n0_ n1_ n2_ n3_; (try clear hb); (try clear hb2); (try clear hk); (try clear hi)) | ((with_reducible refine gate_dst (N := 5) rfl ?_); refine box_event ?hg (N := 5) ?hd (cs := #[.bool false, .int .i64 0, .int .i64 0]) (t := 30) ?hr ?_; (case hd => rfl); (case hg => rfl); (case hr => first | (go_simp; done) | (go_simp; rfl)); intro gb369 hg w58 hbox hb; have n0_ := Bk.mk (blk_below (g := gb363) bk hb); have n1_ := Bk.mk (blk_below (g := gb364) bk hb); have n2_ := Bk.mk (blk_below (g := gb365) bk hb); have n3_ := Bl.mk (below_step bl hb); have n4_ := Bk.mk (hbox); have n5_ := Aside0.mk ((by rw [hg]; exact (below_size bl) : w.heap.size ≤ gb369)); have n6_ := Gl.mk ((by rw [hg]; exact (below_size bl) : w.heap.size ≤ gb369)); have n7_ := Nb.mk ((by rw [hg]; exact Nat.ne_of_lt (blk_lt (g := gb363) bk) : gb363 ≠ gb369)); have n8_ := Nb.mk ((by rw [hg]; exact Nat.ne_of_gt (blk_lt (g := gb363) bk) : gb369 ≠ gb363)); have n9_ := Nb.mk ((by rw [hg]; exact Nat.ne_of_lt (blk_lt (g := gb364) bk) : gb364 ≠ gb369)); have n10_ := Nb.mk ((by rw [hg]; exact Nat.ne_of_gt (blk_lt (g := gb364) bk) : gb369 ≠ gb364)); have n11_ := Nb.mk ((by rw [hg]; exact Nat.ne_of_lt (blk_lt (g := gb365) bk) : gb365 ≠ gb369)); have n12_ := Nb.mk ((by rw [hg]; exact Nat.ne_of_gt (blk_lt (g := gb365) bk) : gb369 ≠ gb365)); clear BK363; clear BK364; clear BK365; clear HB; have BK363 := n0_; have BK364 := n1_; have BK365 := n2_; have HB := n3_; have BK369 := n4_; have GW369 := n5_; have GE369 := n6_; have NB363_369 := n7_; have NB369_363 := n8_; have NB364_369 := n9_; have NB369_364 := n10_; have NB365_369 := n11_; have NB369_365 := n12_; clear n0_ n1_ n2_ n3_ n4_ n5_ n6_ n7_ n8_ n9_ n10_ n11_ n12_; clear hb hbox hg; have hnb59 := NB369_363.out; have hnc59 := NB363_369.out; have hnb60 := NB369_364.out; have hnc60 := NB364_369.out; have hnb61 := NB369_365.out; have hnc61 := NB365_369.out; have hcz62_0 := bc0 BK369.out; have hcz62_1 := bc1 BK369.out; have hcz62_2 := bc2 BK369.out; have hfz62_0 := blk_frozen BK369.out 0; have hfz62_1 := blk_frozen BK369.out 1; have hfz62_2 := blk_frozen BK369.out 2) | ((with_reducible refine gate_callee (f := 41) rfl ?_); refine goesL_ (some 12) rfl rfl Try.func41 (by kernel_rfl) rfl #[.int .i64 0, .int .i64 0] rfl (by (try simp only [List.map_toArray, List.map_cons, List.map_nil]); first | done | rfl | (simp only [List.length_drop, List.length_take]; rfl)) ?_; (with_reducible refine (spec_l1Of.calls 0 0 t370 t371 t372 _ A48.out).mono ?_); rintro e w63 ⟨rfl, hb⟩; refine ⟨_, rfl, ?_⟩; have n0_ := Bk.mk (blk_below (g := gb363) (o := .cells #[.bool a0_0, .int .i64 a0_1, .int .i64 a0_2] 30 (0, 0)) bk hb); have n1_ := Bk.mk (blk_below (g := gb364) (o := .cells #[.bool a1_0, .int .i64 a1_1, .int .i64 a1_2] 30 (0, 0)) bk hb); have n2_ := Bk.mk (blk_below (g := gb365) (o := .cells #[.bool false, .int .i64 0, .int .i64 0] 30 (0, 0)) bk hb); have n3_ := Bk.mk (blk_below (g := gb369) (o := .cells #[.bool false, .int .i64 t367, .int .i64 t368] 30 (0, 0)) bk hb); have n4_ := Bl.mk (below_step bl hb); clear BK363; clear BK364; clear BK365; clear BK369; clear HB; have BK363 := n0_; have BK364 := n1_; have BK365 := n2_; have BK369 := n3_; have HB := n4_; clear n0_ n1_ n2_ n3_ n4_; (try clear hb); (try clear hb2); (try clear hk); (try clear hi); have hcz64_0 := bc0 BK365.out; have hcz64_1 := bc1 BK365.out; have hcz64_2 := bc2 BK365.out; have hfz64_0 := blk_frozen BK365.out 0; have hfz64_1 := blk_frozen BK365.out 1; have hfz64_2 := blk_frozen BK365.out 2))
    refine bodyPost_ret (results_cell_row rfl _ _ gb365 30 #[.bool t370, .int .i64 t371, .int .i64 t372] (0, 0) _ rfl bk Try.underlying30 rfl (by kernel_rfl)) rfl ?_
    exact ⟨by first | rfl | (simp [errW_none, errW_some] <;> rfl) | (simp [*, errW_none, errW_some] <;> rfl), bl⟩

end Go.Proofs.Ytekmapilhomdgaa.P
