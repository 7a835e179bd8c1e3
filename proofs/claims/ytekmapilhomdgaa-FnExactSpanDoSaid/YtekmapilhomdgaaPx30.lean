/- The contracts of Go functions of this seat: each call comes to what the Lean function of the same name says. -/
import Derived.Test.YtekmapilhomdgaaPx0
import Derived.Test.YtekmapilhomdgaaPx2
namespace Go.Proofs.Ytekmapilhomdgaa.P
open Go.RowKit Go.Proofs.YtekmapilhomdgaaW.PrintWords Go.Proofs.YtekmapilhomdgaaW.PrintLast Go.Proofs.YtekmapilhomdgaaW.PrintMore
attribute [local go_sem] max2_int min2_int max_two min_two max_three min_three max_four min_four   -- for this text's walks alone
set_option linter.unusedVariables false
set_option linter.unusedSimpArgs false

/-! ### spec_l1Ends: function 49 -/
def spec_l1Ends.l0 : Nat → Int → List Int → List Int → Int → Bool → Int → Int → Option (List Int)
  | 0, _, _, _, _, _, _, _ => none
  | k + 1, x0, x5, x6, x7, x380000, x380001, x380002 => if x7 < (x6.length : Int) then (if 0 ≤ x7 then ((spec_l6In.f (rd x6 x7) x380001 x380002).bind fun t387 => (if t387 = true then (if x0 = 4 then (if ((rd x6 x7) = 0) then (spec_l1Ends.l0 k x0 x5 x6 (wrap64 (x7 + 1)) x380000 x380001 x380002) else (if x5.length < 17592186044416 then (spec_l1Ends.l0 k x0 (x5 ++ [rd x6 x7]) x6 (wrap64 (x7 + 1)) x380000 x380001 x380002) else (none))) else (if x5.length < 17592186044416 then (spec_l1Ends.l0 k x0 (x5 ++ [rd x6 x7]) x6 (wrap64 (x7 + 1)) x380000 x380001 x380002) else (none))) else (spec_l1Ends.l0 k x0 x5 x6 (wrap64 (x7 + 1)) x380000 x380001 x380002))) else (none)) else (some x5)
def spec_l1Ends.f (k : Nat) (a0 : Int) (a1_0 : Bool) (a1_1 : Int) (a1_2 : Int) : Option (List Int) := spec_l1Ends.l0 k a0 (([] : List Int)) (([a1_1, a1_2, (-1), 1] : List Int)) 0 a1_0 a1_1 a1_2
theorem spec_l1Ends.mono_l : ∀ k, (∀ y0 y1 y2 y3 y4 y5 y6, LeO (spec_l1Ends.l0 k y0 y1 y2 y3 y4 y5 y6) (spec_l1Ends.l0 (k + 1) y0 y1 y2 y3 y4 y5 y6))
  | 0 => fun _ _ _ _ _ _ _ r h => by simp [spec_l1Ends.l0] at h
  | k + 1 => by
    have ih0 := spec_l1Ends.mono_l k
    · intro y0 y1 y2 y3 y4 y5 y6
      unfold spec_l1Ends.l0
      repeat' first
      | (with_reducible exact ih0 _ _ _ _ _ _ _)
      | (with_reducible exact LeO.refl _)
      | (with_reducible exact LeO.none _)
      | (with_reducible refine LeO.ite ?_ ?_)
      | (with_reducible refine LeO.bind ?_ (fun _ => ?_))
      | exact ih0 _ _ _ _ _ _ _
      | exact LeO.none _
      | refine LeO.ite ?_ ?_
      | refine LeO.bind ?_ (fun _ => ?_)
theorem spec_l1Ends.mono : ∀ a0 a1 a2 a3 k, LeO (spec_l1Ends.f k a0 a1 a2 a3) (spec_l1Ends.f (k + 1) a0 a1 a2 a3) := by
  intro a0 a1 a2 a3 k
  have ih0 := spec_l1Ends.mono_l k
  unfold spec_l1Ends.f
  repeat' first
      | (with_reducible exact ih0 _ _ _ _ _ _ _)
      | (with_reducible exact LeO.refl _)
      | (with_reducible exact LeO.none _)
      | (with_reducible refine LeO.ite ?_ ?_)
      | (with_reducible refine LeO.bind ?_ (fun _ => ?_))
      | exact ih0 _ _ _ _ _ _ _
      | exact LeO.none _
      | refine LeO.ite ?_ ?_
      | refine LeO.bind ?_ (fun _ => ?_)
set_option maxHeartbeats 8000000 in
set_option maxRecDepth 100000 in
theorem spec_l1Ends.calls (k : Nat) (a0 : Int) (a1_0 : Bool) (a1_1 : Int) (a1_2 : Int) (r : List Int) (w : World) (h : spec_l1Ends.f k a0 a1_0 a1_1 a1_2 = some r) :
    Calls Try.prog 49 #[.int .i64 a0, .agg #[.bool a1_0, .int .i64 a1_1, .int .i64 a1_2]] w fun e w' => ∃ v0_ : Value, e = .returned (v0_) ∧ Kd.R (Kd.int .i64) 3 w' w.heap.size (fun _ => True) v0_ r ∧ Below w.heap.size w w' := by
  have hu30 := Try.underlying30
  have HB := Bl.mk (Below.refl w.heap.size w)
  unfold spec_l1Ends.f at h
  have H := h
  clear h
  obtain ⟨y380, hy380⟩ : ∃ y_ : List Int, y_ = (([] : List Int)) := ⟨_, rfl⟩
  replace H : (spec_l1Ends.l0 k a0 y380 (([a1_1, a1_2, (-1), 1] : List Int)) 0 a1_0 a1_1 a1_2) = some r := by first | (rw [hy380]; with_reducible exact H) | (have H2_ := (Option.bind_some _ _).symm.trans H; rw [hy380]; with_reducible exact H2_) | (have H2_ := (Option.bind_some _ _).symm.trans H; with_reducible exact H2_) | with_reducible exact H | (rw [hy380]; exact H) | exact H
  have Ny380 := Aside0.mk hy380
  clear hy380
  obtain ⟨y383, hy383⟩ : ∃ y_ : List Int, y_ = (([a1_1, a1_2, (-1), 1] : List Int)) := ⟨_, rfl⟩
  replace H : (spec_l1Ends.l0 k a0 y380 y383 0 a1_0 a1_1 a1_2) = some r := by first | (rw [hy383]; with_reducible exact H) | (have H2_ := (Option.bind_some _ _).symm.trans H; rw [hy383]; with_reducible exact H2_) | (have H2_ := (Option.bind_some _ _).symm.trans H; with_reducible exact H2_) | with_reducible exact H | (rw [hy383]; exact H) | exact H
  have Ny383 := Aside0.mk hy383
  clear hy383
  have H' := Aside0.mk H
  clear H
  go_enter Try.func49, Try.ntmps49
  go_wp2_with (first | ((with_reducible refine gate_dst (N := 3) rfl ?_); refine box_event ?hg (N := 3) ?hd (cs := #[.bool a1_0, .int .i64 a1_1, .int .i64 a1_2]) (t := 30) ?hr ?_; (case hd => rfl); (case hg => rfl); (case hr => first | (go_simp; done) | (go_simp; rfl)); intro gb379 hg w3 hbox hb; have n0_ := Bl.mk (below_step bl hb); have n1_ := Bk.mk (hbox); have n2_ := Aside0.mk ((by rw [hg]; exact (below_size bl) : w.heap.size ≤ gb379)); have n3_ := Gl.mk ((by rw [hg]; exact (below_size bl) : w.heap.size ≤ gb379)); clear HB; have HB := n0_; have BK379 := n1_; have GW379 := n2_; have GE379 := n3_; clear n0_ n1_ n2_ n3_; clear hb hbox hg) | ((with_reducible refine gate_dst (N := 8) rfl ?_); refine Kd.R_lit (Kd.int .i64) _ 3 ?hg (N := 8) ?hd (xs := ([] : List Int)) (inner := []) (ok := fun _ => True) (okp := fun _ => True) ?hr ?hp (fun _ hk => hk) trivial (Below.refl _ _) (Nat.le_refl _) (by simp) ?_; (case hd => rfl); (case hg => rfl); (case hr => first | (go_simp; done) | (go_simp; rfl)); (case hp => exact (Reps.none _ _)); intro v381 w4 ho5 hb hg_ hnew_; clear hg_ hnew_; (first | rw [← Ny380.out] at ho5 | (simp only [Int.reduceToNat] at ho5; rw [← Ny380.out] at ho5)); have n0_ := Aside0.mk (Kd.R_lower ho5 (below_size bl)); have n1_ := Bk.mk (blk_below (g := gb379) bk hb); have n2_ := Bl.mk (below_step bl hb); clear BK379; clear HB; have HO382 := n0_; have BK379 := n1_; have HB := n2_; clear n0_ n1_ n2_; clear hb ho5; have hcz6_0 := bc0 BK379.out; have hcz6_1 := bc1 BK379.out; have hcz6_2 := bc2 BK379.out; have hfz6_0 := blk_frozen BK379.out 0; have hfz6_1 := blk_frozen BK379.out 1; have hfz6_2 := blk_frozen BK379.out 2) | ((with_reducible refine gate_dst (N := 13) rfl ?_); refine Kd.R_lit (Kd.int .i64) _ 3 ?hg (N := 13) ?hd (xs := ([a1_1, a1_2, (-1), 1] : List Int)) (inner := [.int .i64 a1_1, .int .i64 a1_2, .int .i64 (-1), .int .i64 1]) (ok := fun _ => True) (okp := fun _ => True) ?hr ?hp (fun _ hk => hk) trivial (Below.refl _ _) (Nat.le_refl _) (by simp) ?_; (case hd => rfl); (case hg => rfl); (case hr => first | (go_simp; done) | (go_simp; rfl)); (case hp => exact (Reps.one (show Kd.M (Kd.int .i64) _ _ _ a1_1 [.int .i64 a1_1] from rfl) (Reps.one (show Kd.M (Kd.int .i64) _ _ _ a1_2 [.int .i64 a1_2] from rfl) (Reps.one (show Kd.M (Kd.int .i64) _ _ _ (-1) [.int .i64 (-1)] from rfl) (Reps.one (show Kd.M (Kd.int .i64) _ _ _ 1 [.int .i64 1] from rfl) (Reps.none _ _)))))); intro v384 w7 ho8 hb hg_ hnew_; clear hg_ hnew_; (first | rw [← Ny383.out] at ho8 | (simp only [Int.reduceToNat] at ho8; rw [← Ny383.out] at ho8)); have n0_ := Aside0.mk (Kd.R_elder' (by (with_reducible repeat (first | apply Kd.R_alloc | apply Kd.R_drewN | apply Kd.R_drew)); exact HO382.out) (Kd.R_base ho8) hb); have n1_ := Aside0.mk (Kd.R_lower (Kd.R_new' ho8 (Kd.R_lt (by (with_reducible repeat (first | apply Kd.R_alloc | apply Kd.R_drewN | apply Kd.R_drew)); exact HO382.out))) (below_size bl)); have n2_ := Bk.mk (blk_below (g := gb379) bk hb); have n3_ := Bl.mk (below_step bl hb); clear HO382; clear BK379; clear HB; have HO382 := n0_; have HO385 := n1_; have BK379 := n2_; have HB := n3_; clear n0_ n1_ n2_ n3_; clear hb ho8))
  repeat (go_quiet (first | ((with_reducible refine gate_dst (N := 3) rfl ?_); refine box_event ?hg (N := 3) ?hd (cs := #[.bool a1_0, .int .i64 a1_1, .int .i64 a1_2]) (t := 30) ?hr ?_; (case hd => rfl); (case hg => rfl); (case hr => first | (go_simp; done) | (go_simp; rfl)); intro gb379 hg w3 hbox hb; have n0_ := Bl.mk (below_step bl hb); have n1_ := Bk.mk (hbox); have n2_ := Aside0.mk ((by rw [hg]; exact (below_size bl) : w.heap.size ≤ gb379)); have n3_ := Gl.mk ((by rw [hg]; exact (below_size bl) : w.heap.size ≤ gb379)); clear HB; have HB := n0_; have BK379 := n1_; have GW379 := n2_; have GE379 := n3_; clear n0_ n1_ n2_ n3_; clear hb hbox hg) | ((with_reducible refine gate_dst (N := 8) rfl ?_); refine Kd.R_lit (Kd.int .i64) _ 3 ?hg (N := 8) ?hd (xs := ([] : List Int)) (inner := []) (ok := fun _ => True) (okp := fun _ => True) ?hr ?hp (fun _ hk => hk) trivial (Below.refl _ _) (Nat.le_refl _) (by simp) ?_; (case hd => rfl); (case hg => rfl); (case hr => first | (go_simp; done) | (go_simp; rfl)); (case hp => exact (Reps.none _ _)); intro v381 w4 ho5 hb hg_ hnew_; clear hg_ hnew_; (first | rw [← Ny380.out] at ho5 | (simp only [Int.reduceToNat] at ho5; rw [← Ny380.out] at ho5)); have n0_ := Aside0.mk (Kd.R_lower ho5 (below_size bl)); have n1_ := Bk.mk (blk_below (g := gb379) bk hb); have n2_ := Bl.mk (below_step bl hb); clear BK379; clear HB; have HO382 := n0_; have BK379 := n1_; have HB := n2_; clear n0_ n1_ n2_; clear hb ho5; have hcz6_0 := bc0 BK379.out; have hcz6_1 := bc1 BK379.out; have hcz6_2 := bc2 BK379.out; have hfz6_0 := blk_frozen BK379.out 0; have hfz6_1 := blk_frozen BK379.out 1; have hfz6_2 := blk_frozen BK379.out 2) | ((with_reducible refine gate_dst (N := 13) rfl ?_); refine Kd.R_lit (Kd.int .i64) _ 3 ?hg (N := 13) ?hd (xs := ([a1_1, a1_2, (-1), 1] : List Int)) (inner := [.int .i64 a1_1, .int .i64 a1_2, .int .i64 (-1), .int .i64 1]) (ok := fun _ => True) (okp := fun _ => True) ?hr ?hp (fun _ hk => hk) trivial (Below.refl _ _) (Nat.le_refl _) (by simp) ?_; (case hd => rfl); (case hg => rfl); (case hr => first | (go_simp; done) | (go_simp; rfl)); (case hp => exact (Reps.one (show Kd.M (Kd.int .i64) _ _ _ a1_1 [.int .i64 a1_1] from rfl) (Reps.one (show Kd.M (Kd.int .i64) _ _ _ a1_2 [.int .i64 a1_2] from rfl) (Reps.one (show Kd.M (Kd.int .i64) _ _ _ (-1) [.int .i64 (-1)] from rfl) (Reps.one (show Kd.M (Kd.int .i64) _ _ _ 1 [.int .i64 1] from rfl) (Reps.none _ _)))))); intro v384 w7 ho8 hb hg_ hnew_; clear hg_ hnew_; (first | rw [← Ny383.out] at ho8 | (simp only [Int.reduceToNat] at ho8; rw [← Ny383.out] at ho8)); have n0_ := Aside0.mk (Kd.R_elder' (by (with_reducible repeat (first | apply Kd.R_alloc | apply Kd.R_drewN | apply Kd.R_drew)); exact HO382.out) (Kd.R_base ho8) hb); have n1_ := Aside0.mk (Kd.R_lower (Kd.R_new' ho8 (Kd.R_lt (by (with_reducible repeat (first | apply Kd.R_alloc | apply Kd.R_drewN | apply Kd.R_drew)); exact HO382.out))) (below_size bl)); have n2_ := Bk.mk (blk_below (g := gb379) bk hb); have n3_ := Bl.mk (below_step bl hb); clear HO382; clear BK379; clear HB; have HO382 := n0_; have HO385 := n1_; have BK379 := n2_; have HB := n3_; clear n0_ n1_ n2_ n3_; clear hb ho8)); try go_wp2_with (first | ((with_reducible refine gate_dst (N := 3) rfl ?_); refine box_event ?hg (N := 3) ?hd (cs := #[.bool a1_0, .int .i64 a1_1, .int .i64 a1_2]) (t := 30) ?hr ?_; (case hd => rfl); (case hg => rfl); (case hr => first | (go_simp; done) | (go_simp; rfl)); intro gb379 hg w3 hbox hb; have n0_ := Bl.mk (below_step bl hb); have n1_ := Bk.mk (hbox); have n2_ := Aside0.mk ((by rw [hg]; exact (below_size bl) : w.heap.size ≤ gb379)); have n3_ := Gl.mk ((by rw [hg]; exact (below_size bl) : w.heap.size ≤ gb379)); clear HB; have HB := n0_; have BK379 := n1_; have GW379 := n2_; have GE379 := n3_; clear n0_ n1_ n2_ n3_; clear hb hbox hg) | ((with_reducible refine gate_dst (N := 8) rfl ?_); refine Kd.R_lit (Kd.int .i64) _ 3 ?hg (N := 8) ?hd (xs := ([] : List Int)) (inner := []) (ok := fun _ => True) (okp := fun _ => True) ?hr ?hp (fun _ hk => hk) trivial (Below.refl _ _) (Nat.le_refl _) (by simp) ?_; (case hd => rfl); (case hg => rfl); (case hr => first | (go_simp; done) | (go_simp; rfl)); (case hp => exact (Reps.none _ _)); intro v381 w4 ho5 hb hg_ hnew_; clear hg_ hnew_; (first | rw [← Ny380.out] at ho5 | (simp only [Int.reduceToNat] at ho5; rw [← Ny380.out] at ho5)); have n0_ := Aside0.mk (Kd.R_lower ho5 (below_size bl)); have n1_ := Bk.mk (blk_below (g := gb379) bk hb); have n2_ := Bl.mk (below_step bl hb); clear BK379; clear HB; have HO382 := n0_; have BK379 := n1_; have HB := n2_; clear n0_ n1_ n2_; clear hb ho5; have hcz6_0 := bc0 BK379.out; have hcz6_1 := bc1 BK379.out; have hcz6_2 := bc2 BK379.out; have hfz6_0 := blk_frozen BK379.out 0; have hfz6_1 := blk_frozen BK379.out 1; have hfz6_2 := blk_frozen BK379.out 2) | ((with_reducible refine gate_dst (N := 13) rfl ?_); refine Kd.R_lit (Kd.int .i64) _ 3 ?hg (N := 13) ?hd (xs := ([a1_1, a1_2, (-1), 1] : List Int)) (inner := [.int .i64 a1_1, .int .i64 a1_2, .int .i64 (-1), .int .i64 1]) (ok := fun _ => True) (okp := fun _ => True) ?hr ?hp (fun _ hk => hk) trivial (Below.refl _ _) (Nat.le_refl _) (by simp) ?_; (case hd => rfl); (case hg => rfl); (case hr => first | (go_simp; done) | (go_simp; rfl)); (case hp => exact (Reps.one (show Kd.M (Kd.int .i64) _ _ _ a1_1 [.int .i64 a1_1] from rfl) (Reps.one (show Kd.M (Kd.int .i64) _ _ _ a1_2 [.int .i64 a1_2] from rfl) (Reps.one (show Kd.M (Kd.int .i64) _ _ _ (-1) [.int .i64 (-1)] from rfl) (Reps.one (show Kd.M (Kd.int .i64) _ _ _ 1 [.int .i64 1] from rfl) (Reps.none _ _)))))); intro v384 w7 ho8 hb hg_ hnew_; clear hg_ hnew_; (first | rw [← Ny383.out] at ho8 | (simp only [Int.reduceToNat] at ho8; rw [← Ny383.out] at ho8)); have n0_ := Aside0.mk (Kd.R_elder' (by (with_reducible repeat (first | apply Kd.R_alloc | apply Kd.R_drewN | apply Kd.R_drew)); exact HO382.out) (Kd.R_base ho8) hb); have n1_ := Aside0.mk (Kd.R_lower (Kd.R_new' ho8 (Kd.R_lt (by (with_reducible repeat (first | apply Kd.R_alloc | apply Kd.R_drewN | apply Kd.R_drew)); exact HO382.out))) (below_size bl)); have n2_ := Bk.mk (blk_below (g := gb379) bk hb); have n3_ := Bl.mk (below_step bl hb); clear HO382; clear BK379; clear HB; have HO382 := n0_; have HO385 := n1_; have BK379 := n2_; have HB := n3_; clear n0_ n1_ n2_ n3_; clear hb ho8)))
  go_loopg [5, 7] k (fun kq v5 v7 w' => ∃ (x5_1 : List Int) (x7_1 : Int), v7 = .int .i64 x7_1 ∧ Aside0 (spec_l1Ends.l0 kq a0 x5_1 y383 x7_1 a1_0 a1_1 a1_2 = some r) ∧ Aside0 (kq ≤ k) ∧ Aside0 (Kd.R (Kd.int .i64) 3 w' w.heap.size (fun k_ => some k_ ≠ (v384 : Value).ownBlock) v5 x5_1) ∧ Aside0 (Kd.R (Kd.int .i64) 3 w' w.heap.size (fun k_ => some k_ ≠ (v5 : Value).ownBlock) v384 y383) ∧ Bk w' gb379 (.cells #[.bool a1_0, .int .i64 a1_1, .int .i64 a1_2] 30 (0, 0)) ∧ Bl w.heap.size w w')
  case atStart => exact ⟨(y380), (0), (by first | rfl | (simp; done) | (simp [*]; done)), H', ⟨Nat.le_refl _⟩, ⟨by (with_reducible repeat (first | apply Kd.R_alloc | apply Kd.R_drewN | apply Kd.R_drew)); exact Kd.R_mono HO382.out (fun _ hk => hk.2)⟩, ⟨by (with_reducible repeat (first | apply Kd.R_alloc | apply Kd.R_drewN | apply Kd.R_drew)); exact Kd.R_mono HO385.out (fun _ hk => hk.2)⟩, ⟨bk⟩, ⟨bl⟩⟩
  case round =>
    clear H'
    try clear p2
    try clear c4
    try clear hcz6_0
    try clear hcz6_1
    try clear hcz6_2
    try clear hfz6_0
    try clear hfz6_1
    try clear hfz6_2
    obtain ⟨x5_1, x7_1, rfl, HA, HK1, HO_5, HO_6, BK379, HB⟩ := hrel
    cases gk with
    | zero => exact absurd HA.out (by simp [spec_l1Ends.l0])
    | succ k1 =>
      have H := HA.out
      clear HA
      simp only [spec_l1Ends.l0] at H
      by_cases c9 : x7_1 < (y383.length : Int)
      · rw [if_pos c9] at H
        have c9b0 : decide (x7_1 < (y383.length : Int)) = true := decide_eq_true c9
        clear c9
        by_cases c10 : 0 ≤ x7_1
        · rw [if_pos c10] at H
          have c10b0 : decide (0 ≤ x7_1) = true := decide_eq_true c10
          clear c10
          replace H := Option.bind_eq_some_iff.mp H
          obtain ⟨t387, A110, H⟩ := H
          try dsimp only at H
          have A11 := Aside0.mk A110
          clear A110
          by_cases c12 : t387 = true
          · subst c12
            rw [if_pos rfl] at H
            by_cases c13 : a0 = 4
            · rw [if_pos c13] at H
              have c13b0 : (a0 == 4) = true := beq_iff_eq.mpr c13
              have c13b1 : (a0 != 4) = false := bne_eq_false_iff_eq.mpr c13
              clear c13
              by_cases c14 : ((rd y383 x7_1) = 0)
              · rw [if_pos c14] at H
                have c14b0 : ((rd y383 x7_1) == 0) = true := beq_iff_eq.mpr c14
                have c14b1 : ((rd y383 x7_1) != 0) = false := bne_eq_false_iff_eq.mpr c14
                clear c14
                have H' := Aside0.mk H
                clear H
                obtain ⟨Ao15, co15, eo15⟩ := Kd.R_slice HO_6.out
                subst eo15
                have p386 : 0 ≤ (x7_1 : Int) := of_decide_eq_true (by first | (with_reducible assumption) | assumption)
                have q386 : x7_1 < (y383.length : Int) := of_decide_eq_true (by first | (with_reducible assumption) | assumption)
                obtain ⟨ad386, e386, hx386_0⟩ := Kd.at_int (Kd.R_reads' HO_6.out).2.2 x7_1 p386 q386
                cases e386
                replace p386 := eq_true p386
                replace q386 := eq_true q386
                have hcz16_0 := bc0 BK379.out
                have hcz16_1 := bc1 BK379.out
                have hcz16_2 := bc2 BK379.out
                have hfz16_0 := blk_frozen BK379.out 0
                have hfz16_1 := blk_frozen BK379.out 1
                have hfz16_2 := blk_frozen BK379.out 2
                go_wp2_with (first | (go_at_call 30; (with_reducible refine (spec_l6In.calls (rd y383 x7_1) a1_1 a1_2 true _ A11.out).mono ?_); rintro e w' ⟨rfl, ⟨nd, rfl⟩⟩; (try first | exact ⟨rfl, _, World.drewN_drewN _ _ _⟩ | exact ⟨rfl, _, Eq.trans (World.drewN_drewN _ _ _) (congrArg (World.drewN _) (Nat.add_assoc _ _ _))⟩); have p388 : 0 ≤ (x7_1 : Int) := of_decide_eq_true (by first | (with_reducible assumption) | assumption); have q388 : x7_1 < (y383.length : Int) := of_decide_eq_true (by first | (with_reducible assumption) | assumption); obtain ⟨ad388, e388, hx388_0⟩ := Kd.at_int (Kd.R_reads' HO_6.out).2.2 x7_1 p388 q388; obtain rfl : ad386 = ad388 := (by injection e388); replace p388 := eq_true p388; replace q388 := eq_true q388))
                repeat (go_quiet (first | (go_at_call 30; (with_reducible refine (spec_l6In.calls (rd y383 x7_1) a1_1 a1_2 true _ A11.out).mono ?_); rintro e w' ⟨rfl, ⟨nd, rfl⟩⟩; (try first | exact ⟨rfl, _, World.drewN_drewN _ _ _⟩ | exact ⟨rfl, _, Eq.trans (World.drewN_drewN _ _ _) (congrArg (World.drewN _) (Nat.add_assoc _ _ _))⟩); have p388 : 0 ≤ (x7_1 : Int) := of_decide_eq_true (by first | (with_reducible assumption) | assumption); have q388 : x7_1 < (y383.length : Int) := of_decide_eq_true (by first | (with_reducible assumption) | assumption); obtain ⟨ad388, e388, hx388_0⟩ := Kd.at_int (Kd.R_reads' HO_6.out).2.2 x7_1 p388 q388; obtain rfl : ad386 = ad388 := (by injection e388); replace p388 := eq_true p388; replace q388 := eq_true q388)); try go_wp2_with (first | (go_at_call 30; (with_reducible refine (spec_l6In.calls (rd y383 x7_1) a1_1 a1_2 true _ A11.out).mono ?_); rintro e w' ⟨rfl, ⟨nd, rfl⟩⟩; (try first | exact ⟨rfl, _, World.drewN_drewN _ _ _⟩ | exact ⟨rfl, _, Eq.trans (World.drewN_drewN _ _ _) (congrArg (World.drewN _) (Nat.add_assoc _ _ _))⟩); have p388 : 0 ≤ (x7_1 : Int) := of_decide_eq_true (by first | (with_reducible assumption) | assumption); have q388 : x7_1 < (y383.length : Int) := of_decide_eq_true (by first | (with_reducible assumption) | assumption); obtain ⟨ad388, e388, hx388_0⟩ := Kd.at_int (Kd.R_reads' HO_6.out).2.2 x7_1 p388 q388; obtain rfl : ad386 = ad388 := (by injection e388); replace p388 := eq_true p388; replace q388 := eq_true q388)))
                go_roundg k1
                case measure => have := HK1.out; omega
                case rel => exact ⟨(x5_1), (wrap64 (x7_1 + 1)), (by first | rfl | (simp; done) | (simp [*]; done)), H', ⟨by have := HK1.out; omega⟩, ⟨by (with_reducible repeat (first | apply Kd.R_alloc | apply Kd.R_drewN | apply Kd.R_drew)); exact HO_5.out⟩, ⟨by (with_reducible repeat (first | apply Kd.R_alloc | apply Kd.R_drewN | apply Kd.R_drew)); exact HO_6.out⟩, ⟨bk⟩, ⟨bl⟩⟩
              · rw [if_neg c14] at H
                have c14b0 : ((rd y383 x7_1) == 0) = false := beq_eq_false_iff_ne.mpr c14
                have c14b1 : ((rd y383 x7_1) != 0) = true := bne_iff_ne.mpr c14
                by_cases c17 : x5_1.length < 17592186044416
                · rw [if_pos c17] at H
                  have LMc17 := Aside0.mk c17
                  clear c17
                  obtain ⟨y390, hy390⟩ : ∃ y_ : List Int, y_ = (x5_1 ++ [rd y383 x7_1]) := ⟨_, rfl⟩
                  replace H : (spec_l1Ends.l0 k1 a0 y390 y383 (wrap64 (x7_1 + 1)) a1_0 a1_1 a1_2) = some r := by first | (rw [hy390]; with_reducible exact H) | (have H2_ := (Option.bind_some _ _).symm.trans H; rw [hy390]; with_reducible exact H2_) | (have H2_ := (Option.bind_some _ _).symm.trans H; with_reducible exact H2_) | with_reducible exact H | (rw [hy390]; exact H) | exact H
                  have Ny390 := Aside0.mk hy390
                  clear hy390
                  have H' := Aside0.mk H
                  clear H
                  obtain ⟨Ao18, co18, eo18⟩ := Kd.R_slice HO_6.out
                  subst eo18
                  have p386 : 0 ≤ (x7_1 : Int) := of_decide_eq_true (by first | (with_reducible assumption) | assumption)
                  have q386 : x7_1 < (y383.length : Int) := of_decide_eq_true (by first | (with_reducible assumption) | assumption)
                  obtain ⟨ad386, e386, hx386_0⟩ := Kd.at_int (Kd.R_reads' HO_6.out).2.2 x7_1 p386 q386
                  cases e386
                  replace p386 := eq_true p386
                  replace q386 := eq_true q386
                  have hcz19_0 := bc0 BK379.out
                  have hcz19_1 := bc1 BK379.out
                  have hcz19_2 := bc2 BK379.out
                  have hfz19_0 := blk_frozen BK379.out 0
                  have hfz19_1 := blk_frozen BK379.out 1
                  have hfz19_2 := blk_frozen BK379.out 2
                  go_wp2_with (first | (go_at_call 30; (with_reducible refine (spec_l6In.calls (rd y383 x7_1) a1_1 a1_2 true _ A11.out).mono ?_); rintro e w' ⟨rfl, ⟨nd, rfl⟩⟩; (try first | exact ⟨rfl, _, World.drewN_drewN _ _ _⟩ | exact ⟨rfl, _, Eq.trans (World.drewN_drewN _ _ _) (congrArg (World.drewN _) (Nat.add_assoc _ _ _))⟩); have p388 : 0 ≤ (x7_1 : Int) := of_decide_eq_true (by first | (with_reducible assumption) | assumption); have q388 : x7_1 < (y383.length : Int) := of_decide_eq_true (by first | (with_reducible assumption) | assumption); obtain ⟨ad388, e388, hx388_0⟩ := Kd.at_int (Kd.R_reads' HO_6.out).2.2 x7_1 p388 q388; obtain rfl : ad386 = ad388 := (by injection e388); replace p388 := eq_true p388; replace q388 := eq_true q388; have p389 : 0 ≤ (x7_1 : Int) := of_decide_eq_true (by first | (with_reducible assumption) | assumption); have q389 : x7_1 < (y383.length : Int) := of_decide_eq_true (by first | (with_reducible assumption) | assumption); obtain ⟨ad389, e389, hx389_0⟩ := Kd.at_int (Kd.R_reads' HO_6.out).2.2 x7_1 p389 q389; obtain rfl : ad386 = ad389 := (by injection e389); replace p389 := eq_true p389; replace q389 := eq_true q389) | ((with_reducible refine gate_builtin (b := .append) (xs := #[.tmp 41, .tmp 46]) rfl ?_); at_builtin; refine Kd.R_append (Kd.int .i64) (w0 := w) w.heap.size rfl (.tmp 41) (.tmp 46) 56 3 (.int .i64 0) 8 rfl Try.underlying56 info3 rfl (by decide) (by omega) u5 x5_1 (rd y383 x7_1) [.int .i64 (rd y383 x7_1)] (fun k_ => some k_ ≠ (.slice (some ad386) y383.length co18 : Value).ownBlock) (fun _ => False) rfl rfl ?aP (fun _ hk => hk.elim) ?aF ?aO ?aB ?aS ?aL ?_; (case aP => exact rfl); (case aB => exact bl); (case aF => exact (fun k_ hk => Kd.fresh' (Kd.R_lt (by (with_reducible repeat (first | apply Kd.R_alloc | apply Kd.R_drewN | apply Kd.R_drew)); exact HO_6.out)) k_ hk)); (case aO => exact (by (with_reducible repeat (first | apply Kd.R_alloc | apply Kd.R_drewN | apply Kd.R_drew)); exact HO_5.out)); (case aS => exact (below_size bl)); (case aL => have := LMc17.out; omega); intro v391 w20 ho hb hg hat; rw [← Ny390.out] at ho; have n0_ := Aside0.mk (Kd.R_after (ok := (fun _ => True)) (by (with_reducible repeat (first | apply Kd.R_alloc | apply Kd.R_drewN | apply Kd.R_drew)); exact Kd.R_mono HO_6.out (fun _ hk => ⟨trivial, hk⟩)) hg hat); have n1_ := Bk.mk (blk_grown (g := gb379) (o := .cells #[.bool a1_0, .int .i64 a1_1, .int .i64 a1_2] 30 (0, 0)) bk hg (Kd.R_ne HO_5.out BK379.out (by decide))); have n2_ := Bl.mk (hb); have n3_ := Aside0.mk (ho); clear HO_6; clear BK379; clear HB; clear HO_5; have HO_6 := n0_; have BK379 := n1_; have HB := n2_; have HO392 := n3_; clear n0_ n1_ n2_ n3_; clear ho hb hg hat))
                  repeat (go_quiet (first | (go_at_call 30; (with_reducible refine (spec_l6In.calls (rd y383 x7_1) a1_1 a1_2 true _ A11.out).mono ?_); rintro e w' ⟨rfl, ⟨nd, rfl⟩⟩; (try first | exact ⟨rfl, _, World.drewN_drewN _ _ _⟩ | exact ⟨rfl, _, Eq.trans (World.drewN_drewN _ _ _) (congrArg (World.drewN _) (Nat.add_assoc _ _ _))⟩); have p388 : 0 ≤ (x7_1 : Int) := of_decide_eq_true (by first | (with_reducible assumption) | assumption); have q388 : x7_1 < (y383.length : Int) := of_decide_eq_true (by first | (with_reducible assumption) | assumption); obtain ⟨ad388, e388, hx388_0⟩ := Kd.at_int (Kd.R_reads' HO_6.out).2.2 x7_1 p388 q388; obtain rfl : ad386 = ad388 := (by injection e388); replace p388 := eq_true p388; replace q388 := eq_true q388; have p389 : 0 ≤ (x7_1 : Int) := of_decide_eq_true (by first | (with_reducible assumption) | assumption); have q389 : x7_1 < (y383.length : Int) := of_decide_eq_true (by first | (with_reducible assumption) | assumption); obtain ⟨ad389, e389, hx389_0⟩ := Kd.at_int (Kd.R_reads' HO_6.out).2.2 x7_1 p389 q389; obtain rfl : ad386 = ad389 := (by injection e389); replace p389 := eq_true p389; replace q389 := eq_true q389) | ((with_reducible refine gate_builtin (b := .append) (xs := #[.tmp 41, .tmp 46]) rfl ?_); at_builtin; refine Kd.R_append (Kd.int .i64) (w0 := w) w.heap.size rfl (.tmp 41) (.tmp 46) 56 3 (.int .i64 0) 8 rfl Try.underlying56 info3 rfl (by decide) (by omega) u5 x5_1 (rd y383 x7_1) [.int .i64 (rd y383 x7_1)] (fun k_ => some k_ ≠ (.slice (some ad386) y383.length co18 : Value).ownBlock) (fun _ => False) rfl rfl ?aP (fun _ hk => hk.elim) ?aF ?aO ?aB ?aS ?aL ?_; (case aP => exact rfl); (case aB => exact bl); (case aF => exact (fun k_ hk => Kd.fresh' (Kd.R_lt (by (with_reducible repeat (first | apply Kd.R_alloc | apply Kd.R_drewN | apply Kd.R_drew)); exact HO_6.out)) k_ hk)); (case aO => exact (by (with_reducible repeat (first | apply Kd.R_alloc | apply Kd.R_drewN | apply Kd.R_drew)); exact HO_5.out)); (case aS => exact (below_size bl)); (case aL => have := LMc17.out; omega); intro v391 w20 ho hb hg hat; rw [← Ny390.out] at ho; have n0_ := Aside0.mk (Kd.R_after (ok := (fun _ => True)) (by (with_reducible repeat (first | apply Kd.R_alloc | apply Kd.R_drewN | apply Kd.R_drew)); exact Kd.R_mono HO_6.out (fun _ hk => ⟨trivial, hk⟩)) hg hat); have n1_ := Bk.mk (blk_grown (g := gb379) (o := .cells #[.bool a1_0, .int .i64 a1_1, .int .i64 a1_2] 30 (0, 0)) bk hg (Kd.R_ne HO_5.out BK379.out (by decide))); have n2_ := Bl.mk (hb); have n3_ := Aside0.mk (ho); clear HO_6; clear BK379; clear HB; clear HO_5; have HO_6 := n0_; have BK379 := n1_; have HB := n2_; have HO392 := n3_; clear n0_ n1_ n2_ n3_; clear ho hb hg hat)); try go_wp2_with (first | (go_at_call 30; (with_reducible refine (spec_l6In.calls (rd y383 x7_1) a1_1 a1_2 true _ A11.out).mono ?_); rintro e w' ⟨rfl, ⟨nd, rfl⟩⟩; (try first | exact ⟨rfl, _, World.drewN_drewN _ _ _⟩ | exact ⟨rfl, _, Eq.trans (World.drewN_drewN _ _ _) (congrArg (World.drewN _) (Nat.add_assoc _ _ _))⟩); have p388 : 0 ≤ (x7_1 : Int) := of_decide_eq_true (by first | (with_reducible assumption) | assumption); have q388 : x7_1 < (y383.length : Int) := of_decide_eq_true (by first | (with_reducible assumption) | assumption); obtain ⟨ad388, e388, hx388_0⟩ := Kd.at_int (Kd.R_reads' HO_6.out).2.2 x7_1 p388 q388; obtain rfl : ad386 = ad388 := (by injection e388); replace p388 := eq_true p388; replace q388 := eq_true q388; have p389 : 0 ≤ (x7_1 : Int) := of_decide_eq_true (by first | (with_reducible assumption) | assumption); have q389 : x7_1 < (y383.length : Int) := of_decide_eq_true (by first | (with_reducible assumption) | assumption); obtain ⟨ad389, e389, hx389_0⟩ := Kd.at_int (Kd.R_reads' HO_6.out).2.2 x7_1 p389 q389; obtain rfl : ad386 = ad389 := (by injection e389); replace p389 := eq_true p389; replace q389 := eq_true q389) | ((with_reducible refine gate_builtin (b := .append) (xs := #[.tmp 41, .tmp 46]) rfl ?_); at_builtin; refine Kd.R_append (Kd.int .i64) (w0 := w) w.heap.size rfl (.tmp 41) (.tmp 46) 56 3 (.int .i64 0) 8 rfl Try.underlying56 info3 rfl (by decide) (by omega) u5 x5_1 (rd y383 x7_1) [.int .i64 (rd y383 x7_1)] (fun k_ => some k_ ≠ (.slice (some ad386) y383.length co18 : Value).ownBlock) (fun _ => False) rfl rfl ?aP (fun _ hk => hk.elim) ?aF ?aO ?aB ?aS ?aL ?_; (case aP => exact rfl); (case aB => exact bl); (case aF => exact (fun k_ hk => Kd.fresh' (Kd.R_lt (by (with_reducible repeat (first | apply Kd.R_alloc | apply Kd.R_drewN | apply Kd.R_drew)); exact HO_6.out)) k_ hk)); (case aO => exact (by (with_reducible repeat (first | apply Kd.R_alloc | apply Kd.R_drewN | apply Kd.R_drew)); exact HO_5.out)); (case aS => exact (below_size bl)); (case aL => have := LMc17.out; omega); intro v391 w20 ho hb hg hat; rw [← Ny390.out] at ho; have n0_ := Aside0.mk (Kd.R_after (ok := (fun _ => True)) (by (with_reducible repeat (first | apply Kd.R_alloc | apply Kd.R_drewN | apply Kd.R_drew)); exact Kd.R_mono HO_6.out (fun _ hk => ⟨trivial, hk⟩)) hg hat); have n1_ := Bk.mk (blk_grown (g := gb379) (o := .cells #[.bool a1_0, .int .i64 a1_1, .int .i64 a1_2] 30 (0, 0)) bk hg (Kd.R_ne HO_5.out BK379.out (by decide))); have n2_ := Bl.mk (hb); have n3_ := Aside0.mk (ho); clear HO_6; clear BK379; clear HB; clear HO_5; have HO_6 := n0_; have BK379 := n1_; have HB := n2_; have HO392 := n3_; clear n0_ n1_ n2_ n3_; clear ho hb hg hat)))
                  go_roundg k1
                  case measure => have := HK1.out; omega
                  case rel => exact ⟨(y390), (wrap64 (x7_1 + 1)), (by first | rfl | (simp; done) | (simp [*]; done)), H', ⟨by have := HK1.out; omega⟩, ⟨by (with_reducible repeat (first | apply Kd.R_alloc | apply Kd.R_drewN | apply Kd.R_drew)); exact HO392.out⟩, ⟨by (with_reducible repeat (first | apply Kd.R_alloc | apply Kd.R_drewN | apply Kd.R_drew)); exact Kd.R_mono HO_6.out (fun _ hk => hk.2)⟩, ⟨bk⟩, ⟨bl⟩⟩
                · rw [if_neg c17] at H
                  exact absurd H (by simp)
            · rw [if_neg c13] at H
              have c13b0 : (a0 == 4) = false := beq_eq_false_iff_ne.mpr c13
              have c13b1 : (a0 != 4) = true := bne_iff_ne.mpr c13
              by_cases c21 : x5_1.length < 17592186044416
              · rw [if_pos c21] at H
                have LMc21 := Aside0.mk c21
                clear c21
                obtain ⟨y394, hy394⟩ : ∃ y_ : List Int, y_ = (x5_1 ++ [rd y383 x7_1]) := ⟨_, rfl⟩
                replace H : (spec_l1Ends.l0 k1 a0 y394 y383 (wrap64 (x7_1 + 1)) a1_0 a1_1 a1_2) = some r := by first | (rw [hy394]; with_reducible exact H) | (have H2_ := (Option.bind_some _ _).symm.trans H; rw [hy394]; with_reducible exact H2_) | (have H2_ := (Option.bind_some _ _).symm.trans H; with_reducible exact H2_) | with_reducible exact H | (rw [hy394]; exact H) | exact H
                have Ny394 := Aside0.mk hy394
                clear hy394
                have H' := Aside0.mk H
                clear H
                obtain ⟨Ao22, co22, eo22⟩ := Kd.R_slice HO_6.out
                subst eo22
                have p386 : 0 ≤ (x7_1 : Int) := of_decide_eq_true (by first | (with_reducible assumption) | assumption)
                have q386 : x7_1 < (y383.length : Int) := of_decide_eq_true (by first | (with_reducible assumption) | assumption)
                obtain ⟨ad386, e386, hx386_0⟩ := Kd.at_int (Kd.R_reads' HO_6.out).2.2 x7_1 p386 q386
                cases e386
                replace p386 := eq_true p386
                replace q386 := eq_true q386
                have hcz23_0 := bc0 BK379.out
                have hcz23_1 := bc1 BK379.out
                have hcz23_2 := bc2 BK379.out
                have hfz23_0 := blk_frozen BK379.out 0
                have hfz23_1 := blk_frozen BK379.out 1
                have hfz23_2 := blk_frozen BK379.out 2
                go_wp2_with (first | (go_at_call 30; (with_reducible refine (spec_l6In.calls (rd y383 x7_1) a1_1 a1_2 true _ A11.out).mono ?_); rintro e w' ⟨rfl, ⟨nd, rfl⟩⟩; (try first | exact ⟨rfl, _, World.drewN_drewN _ _ _⟩ | exact ⟨rfl, _, Eq.trans (World.drewN_drewN _ _ _) (congrArg (World.drewN _) (Nat.add_assoc _ _ _))⟩); have p393 : 0 ≤ (x7_1 : Int) := of_decide_eq_true (by first | (with_reducible assumption) | assumption); have q393 : x7_1 < (y383.length : Int) := of_decide_eq_true (by first | (with_reducible assumption) | assumption); obtain ⟨ad393, e393, hx393_0⟩ := Kd.at_int (Kd.R_reads' HO_6.out).2.2 x7_1 p393 q393; obtain rfl : ad386 = ad393 := (by injection e393); replace p393 := eq_true p393; replace q393 := eq_true q393) | ((with_reducible refine gate_builtin (b := .append) (xs := #[.tmp 41, .tmp 46]) rfl ?_); at_builtin; refine Kd.R_append (Kd.int .i64) (w0 := w) w.heap.size rfl (.tmp 41) (.tmp 46) 56 3 (.int .i64 0) 8 rfl Try.underlying56 info3 rfl (by decide) (by omega) u5 x5_1 (rd y383 x7_1) [.int .i64 (rd y383 x7_1)] (fun k_ => some k_ ≠ (.slice (some ad386) y383.length co22 : Value).ownBlock) (fun _ => False) rfl rfl ?aP (fun _ hk => hk.elim) ?aF ?aO ?aB ?aS ?aL ?_; (case aP => exact rfl); (case aB => exact bl); (case aF => exact (fun k_ hk => Kd.fresh' (Kd.R_lt (by (with_reducible repeat (first | apply Kd.R_alloc | apply Kd.R_drewN | apply Kd.R_drew)); exact HO_6.out)) k_ hk)); (case aO => exact (by (with_reducible repeat (first | apply Kd.R_alloc | apply Kd.R_drewN | apply Kd.R_drew)); exact HO_5.out)); (case aS => exact (below_size bl)); (case aL => have := LMc21.out; omega); intro v395 w24 ho hb hg hat; rw [← Ny394.out] at ho; have n0_ := Aside0.mk (Kd.R_after (ok := (fun _ => True)) (by (with_reducible repeat (first | apply Kd.R_alloc | apply Kd.R_drewN | apply Kd.R_drew)); exact Kd.R_mono HO_6.out (fun _ hk => ⟨trivial, hk⟩)) hg hat); have n1_ := Bk.mk (blk_grown (g := gb379) (o := .cells #[.bool a1_0, .int .i64 a1_1, .int .i64 a1_2] 30 (0, 0)) bk hg (Kd.R_ne HO_5.out BK379.out (by decide))); have n2_ := Bl.mk (hb); have n3_ := Aside0.mk (ho); clear HO_6; clear BK379; clear HB; clear HO_5; have HO_6 := n0_; have BK379 := n1_; have HB := n2_; have HO396 := n3_; clear n0_ n1_ n2_ n3_; clear ho hb hg hat))
                repeat (go_quiet (first | (go_at_call 30; (with_reducible refine (spec_l6In.calls (rd y383 x7_1) a1_1 a1_2 true _ A11.out).mono ?_); rintro e w' ⟨rfl, ⟨nd, rfl⟩⟩; (try first | exact ⟨rfl, _, World.drewN_drewN _ _ _⟩ | exact ⟨rfl, _, Eq.trans (World.drewN_drewN _ _ _) (congrArg (World.drewN _) (Nat.add_assoc _ _ _))⟩); have p393 : 0 ≤ (x7_1 : Int) := of_decide_eq_true (by first | (with_reducible assumption) | assumption); have q393 : x7_1 < (y383.length : Int) := of_decide_eq_true (by first | (with_reducible assumption) | assumption); obtain ⟨ad393, e393, hx393_0⟩ := Kd.at_int (Kd.R_reads' HO_6.out).2.2 x7_1 p393 q393; obtain rfl : ad386 = ad393 := (by injection e393); replace p393 := eq_true p393; replace q393 := eq_true q393) | ((with_reducible refine gate_builtin (b := .append) (xs := #[.tmp 41, .tmp 46]) rfl ?_); at_builtin; refine Kd.R_append (Kd.int .i64) (w0 := w) w.heap.size rfl (.tmp 41) (.tmp 46) 56 3 (.int .i64 0) 8 rfl Try.underlying56 info3 rfl (by decide) (by omega) u5 x5_1 (rd y383 x7_1) [.int .i64 (rd y383 x7_1)] (fun k_ => some k_ ≠ (.slice (some ad386) y383.length co22 : Value).ownBlock) (fun _ => False) rfl rfl ?aP (fun _ hk => hk.elim) ?aF ?aO ?aB ?aS ?aL ?_; (case aP => exact rfl); (case aB => exact bl); (case aF => exact (fun k_ hk => Kd.fresh' (Kd.R_lt (by (with_reducible repeat (first | apply Kd.R_alloc | apply Kd.R_drewN | apply Kd.R_drew)); exact HO_6.out)) k_ hk)); (case aO => exact (by (with_reducible repeat (first | apply Kd.R_alloc | apply Kd.R_drewN | apply Kd.R_drew)); exact HO_5.out)); (case aS => exact (below_size bl)); (case aL => have := LMc21.out; omega); intro v395 w24 ho hb hg hat; rw [← Ny394.out] at ho; have n0_ := Aside0.mk (Kd.R_after (ok := (fun _ => True)) (by (with_reducible repeat (first | apply Kd.R_alloc | apply Kd.R_drewN | apply Kd.R_drew)); exact Kd.R_mono HO_6.out (fun _ hk => ⟨trivial, hk⟩)) hg hat); have n1_ := Bk.mk (blk_grown (g := gb379) (o := .cells #[.bool a1_0, .int .i64 a1_1, .int .i64 a1_2] 30 (0, 0)) bk hg (Kd.R_ne HO_5.out BK379.out (by decide))); have n2_ := Bl.mk (hb); have n3_ := Aside0.mk (ho); clear HO_6; clear BK379; clear HB; clear HO_5; have HO_6 := n0_; have BK379 := n1_; have HB := n2_; have HO396 := n3_; clear n0_ n1_ n2_ n3_; clear ho hb hg hat)); try go_wp2_with (first | (go_at_call 30; (with_reducible refine (spec_l6In.calls (rd y383 x7_1) a1_1 a1_2 true _ A11.out).mono ?_); rintro e w' ⟨rfl, ⟨nd, rfl⟩⟩; (try first | exact ⟨rfl, _, World.drewN_drewN _ _ _⟩ | exact ⟨rfl, _, Eq.trans (World.drewN_drewN _ _ _) (congrArg (World.drewN _) (Nat.add_assoc _ _ _))⟩); have p393 : 0 ≤ (x7_1 : Int) := of_decide_eq_true (by first | (with_reducible assumption) | assumption); have q393 : x7_1 < (y383.length : Int) := of_decide_eq_true (by first | (with_reducible assumption) | assumption); obtain ⟨ad393, e393, hx393_0⟩ := Kd.at_int (Kd.R_reads' HO_6.out).2.2 x7_1 p393 q393; obtain rfl : ad386 = ad393 := (by injection e393); replace p393 := eq_true p393; replace q393 := eq_true q393) | ((with_reducible refine gate_builtin (b := .append) (xs := #[.tmp 41, .tmp 46]) rfl ?_); at_builtin; refine Kd.R_append (Kd.int .i64) (w0 := w) w.heap.size rfl (.tmp 41) (.tmp 46) 56 3 (.int .i64 0) 8 rfl Try.underlying56 info3 rfl (by decide) (by omega) u5 x5_1 (rd y383 x7_1) [.int .i64 (rd y383 x7_1)] (fun k_ => some k_ ≠ (.slice (some ad386) y383.length co22 : Value).ownBlock) (fun _ => False) rfl rfl ?aP (fun _ hk => hk.elim) ?aF ?aO ?aB ?aS ?aL ?_; (case aP => exact rfl); (case aB => exact bl); (case aF => exact (fun k_ hk => Kd.fresh' (Kd.R_lt (by (with_reducible repeat (first | apply Kd.R_alloc | apply Kd.R_drewN | apply Kd.R_drew)); exact HO_6.out)) k_ hk)); (case aO => exact (by (with_reducible repeat (first | apply Kd.R_alloc | apply Kd.R_drewN | apply Kd.R_drew)); exact HO_5.out)); (case aS => exact (below_size bl)); (case aL => have := LMc21.out; omega); intro v395 w24 ho hb hg hat; rw [← Ny394.out] at ho; have n0_ := Aside0.mk (Kd.R_after (ok := (fun _ => True)) (by (with_reducible repeat (first | apply Kd.R_alloc | apply Kd.R_drewN | apply Kd.R_drew)); exact Kd.R_mono HO_6.out (fun _ hk => ⟨trivial, hk⟩)) hg hat); have n1_ := Bk.mk (blk_grown (g := gb379) (o := .cells #[.bool a1_0, .int .i64 a1_1, .int .i64 a1_2] 30 (0, 0)) bk hg (Kd.R_ne HO_5.out BK379.out (by decide))); have n2_ := Bl.mk (hb); have n3_ := Aside0.mk (ho); clear HO_6; clear BK379; clear HB; clear HO_5; have HO_6 := n0_; have BK379 := n1_; have HB := n2_; have HO396 := n3_; clear n0_ n1_ n2_ n3_; clear ho hb hg hat)))
                go_roundg k1
                case measure => have := HK1.out; omega
                case rel => exact ⟨(y394), (wrap64 (x7_1 + 1)), (by first | rfl | (simp; done) | (simp [*]; done)), H', ⟨by have := HK1.out; omega⟩, ⟨by (with_reducible repeat (first | apply Kd.R_alloc | apply Kd.R_drewN | apply Kd.R_drew)); exact HO396.out⟩, ⟨by (with_reducible repeat (first | apply Kd.R_alloc | apply Kd.R_drewN | apply Kd.R_drew)); exact Kd.R_mono HO_6.out (fun _ hk => hk.2)⟩, ⟨bk⟩, ⟨bl⟩⟩
              · rw [if_neg c21] at H
                exact absurd H (by simp)
          · replace c12 := Bool.eq_false_iff.mpr c12
            subst c12
            rw [if_neg (show ¬ (false = true) by decide)] at H
            have H' := Aside0.mk H
            clear H
            obtain ⟨Ao25, co25, eo25⟩ := Kd.R_slice HO_6.out
            subst eo25
            have p386 : 0 ≤ (x7_1 : Int) := of_decide_eq_true (by first | (with_reducible assumption) | assumption)
            have q386 : x7_1 < (y383.length : Int) := of_decide_eq_true (by first | (with_reducible assumption) | assumption)
            obtain ⟨ad386, e386, hx386_0⟩ := Kd.at_int (Kd.R_reads' HO_6.out).2.2 x7_1 p386 q386
            cases e386
            replace p386 := eq_true p386
            replace q386 := eq_true q386
            have hcz26_0 := bc0 BK379.out
            have hcz26_1 := bc1 BK379.out
            have hcz26_2 := bc2 BK379.out
            have hfz26_0 := blk_frozen BK379.out 0
            have hfz26_1 := blk_frozen BK379.out 1
            have hfz26_2 := blk_frozen BK379.out 2
            go_wp2_with (first | (go_at_call 30; (with_reducible refine (spec_l6In.calls (rd y383 x7_1) a1_1 a1_2 false _ A11.out).mono ?_); rintro e w' ⟨rfl, ⟨nd, rfl⟩⟩; (try first | exact ⟨rfl, _, World.drewN_drewN _ _ _⟩ | exact ⟨rfl, _, Eq.trans (World.drewN_drewN _ _ _) (congrArg (World.drewN _) (Nat.add_assoc _ _ _))⟩)))
            repeat (go_quiet (first | (go_at_call 30; (with_reducible refine (spec_l6In.calls (rd y383 x7_1) a1_1 a1_2 false _ A11.out).mono ?_); rintro e w' ⟨rfl, ⟨nd, rfl⟩⟩; (try first | exact ⟨rfl, _, World.drewN_drewN _ _ _⟩ | exact ⟨rfl, _, Eq.trans (World.drewN_drewN _ _ _) (congrArg (World.drewN _) (Nat.add_assoc _ _ _))⟩))); try go_wp2_with (first | (go_at_call 30; (with_reducible refine (spec_l6In.calls (rd y383 x7_1) a1_1 a1_2 false _ A11.out).mono ?_); rintro e w' ⟨rfl, ⟨nd, rfl⟩⟩; (try first | exact ⟨rfl, _, World.drewN_drewN _ _ _⟩ | exact ⟨rfl, _, Eq.trans (World.drewN_drewN _ _ _) (congrArg (World.drewN _) (Nat.add_assoc _ _ _))⟩))))
            go_roundg k1
            case measure => have := HK1.out; omega
            case rel => exact ⟨(x5_1), (wrap64 (x7_1 + 1)), (by first | rfl | (simp; done) | (simp [*]; done)), H', ⟨by have := HK1.out; omega⟩, ⟨by (with_reducible repeat (first | apply Kd.R_alloc | apply Kd.R_drewN | apply Kd.R_drew)); exact HO_5.out⟩, ⟨by (with_reducible repeat (first | apply Kd.R_alloc | apply Kd.R_drewN | apply Kd.R_drew)); exact HO_6.out⟩, ⟨bk⟩, ⟨bl⟩⟩
        · rw [if_neg c10] at H
          exact absurd H (by simp)
      · rw [if_neg c9] at H
        have c9b0 : decide (x7_1 < (y383.length : Int)) = false := decide_eq_false c9
        clear c9
        obtain rfl := Option.some.inj H
        obtain ⟨Ao27, co27, eo27⟩ := Kd.R_slice HO_6.out
        subst eo27
        go_wp2
        repeat (go_quiet (fail); try go_wp2)
        go_ret
        exact ⟨_, by first | rfl | (simp [errW_none, errW_some] <;> rfl) | (simp [*, errW_none, errW_some] <;> rfl), by (with_reducible repeat (first | apply Kd.R_alloc | apply Kd.R_drewN | apply Kd.R_drew)); exact Kd.R_mono HO_5.out (fun _ hk => trivial), bl⟩

end Go.Proofs.Ytekmapilhomdgaa.P
