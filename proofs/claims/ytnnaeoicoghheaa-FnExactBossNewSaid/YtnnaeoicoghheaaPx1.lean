/- The contracts of Go functions of this seat: each call comes to what the Lean function of the same name says. -/
import Derived.Test.YtnnaeoicoghheaaPx0
namespace Go.Proofs.Ytnnaeoicoghheaa.P
open Go.RowKit Go.Proofs.YtnnaeoicoghheaaW.PrintWords Go.Proofs.YtnnaeoicoghheaaW.PrintLast Go.Proofs.YtnnaeoicoghheaaW.PrintMore
attribute [local go_sem] max2_int min2_int max_two min_two max_three min_three max_four min_four   -- for this text's walks alone
set_option linter.unusedVariables false
set_option linter.unusedSimpArgs false

/-! ### spec_BossNew: function 13 -/
def spec_BossNew.f  : Option (Bool × Int × Int × Bool × (List (S148)) × (List (S152)) × Int) := some (true, 0, 0, false, ([] : List (S148)), ([] : List (S152)), 0)
set_option maxHeartbeats 8000000 in
set_option maxRecDepth 100000 in
theorem spec_BossNew.calls  (r1 : Bool) (r2 : Int) (r3 : Int) (r4 : Bool) (r5 : List (S148)) (r6 : List (S152)) (r7 : Int) (w : World) (h : spec_BossNew.f  = some (r1, r2, r3, r4, r5, r6, r7)) :
    Calls Try.prog 13 #[] w fun e w' => ∃ v4_ v5_ : Value, e = .returned (.agg #[.bool r1, .int .i64 r2, .int .i64 r3, .bool r4, v4_, v5_, .int .i64 r7]) ∧ Kd.R k148 148 w' w.heap.size (fun _ => True) v4_ r5 ∧ Kd.R k152 152 w' w.heap.size (fun _ => True) v5_ r6 ∧ Below w.heap.size w w' := by
  have hu25 := Try.underlying25
  have HB := Bl.mk (Below.refl w.heap.size w)
  unfold spec_BossNew.f at h
  have H := h
  clear h
  simp only [Option.some.injEq, Prod.mk.injEq] at H
  obtain ⟨rfl, rfl, rfl, rfl, rfl, rfl, rfl⟩ := H
  go_enter Try.func13, Try.ntmps13
  go_wp2_with (first | ((with_reducible refine gate_dst (N := 0) rfl ?_); refine box_event ?hg (N := 0) ?hd (cs := #[.bool false, .int .i64 0, .int .i64 0, .bool false, .slice none 0 0, .slice none 0 0, .int .i64 0]) (t := 25) ?hr ?_; (case hd => rfl); (case hg => rfl); (case hr => first | (go_simp; done) | (go_simp; rfl)); intro gb101 hg w1 hbox hb; have n0_ := Bl.mk (below_step bl hb); have n1_ := Bk.mk (hbox); have n2_ := Aside0.mk ((by rw [hg]; exact (below_size bl) : w.heap.size ≤ gb101)); have n3_ := Gl.mk ((by rw [hg]; exact (below_size bl) : w.heap.size ≤ gb101)); clear HB; have HB := n0_; have BK101 := n1_; have GW101 := n2_; have GE101 := n3_; clear n0_ n1_ n2_ n3_; clear hb hbox hg; have hcz2_0 := bc0 BK101.out; have hcz2_1 := bc1 BK101.out; have hcz2_2 := bc2 BK101.out; have hcz2_3 := bc3 BK101.out; have hcz2_4 := bc4 BK101.out; have hcz2_5 := bc5 BK101.out; have hcz2_6 : w1.cell? ⟨gb101, 6, none⟩ = some (.int .i64 0) := (blk_cell BK101.out 6).trans rfl; have hfz2_0 := blk_frozen BK101.out 0; have hfz2_1 := blk_frozen BK101.out 1; have hfz2_2 := blk_frozen BK101.out 2; have hfz2_3 := blk_frozen BK101.out 3; have hfz2_4 := blk_frozen BK101.out 4; have hfz2_5 := blk_frozen BK101.out 5; have hfz2_6 := blk_frozen BK101.out 6))
  refine bodyPost_ret (results_cell_row rfl _ _ gb101 25 #[.bool true, .int .i64 0, .int .i64 0, .bool false, .slice none 0 0, .slice none 0 0, .int .i64 0] (0, 0) _ rfl bk Try.underlying25 rfl (by kernel_rfl)) rfl ?_
  exact ⟨_, _, by first | rfl | (simp [errW_none, errW_some] <;> rfl) | (simp [*, errW_none, errW_some] <;> rfl), by first | exact Kd.R_nil _ _ _ _ _ | exact Kd.N_nil _ _ _ _ _ | exact Kd.V_nil _ _ _ _ _ | exact Kd.Q_nil _ _ _ _ _ | exact Kd.S_nil _ _ _ _ _, by first | exact Kd.R_nil _ _ _ _ _ | exact Kd.N_nil _ _ _ _ _ | exact Kd.V_nil _ _ _ _ _ | exact Kd.Q_nil _ _ _ _ _ | exact Kd.S_nil _ _ _ _ _, bl⟩

/-! ### impl_BossNew: function 14 -/
def impl_BossNew.f  : Option (Bool × Int × Int × Bool × (List (S148)) × (List (S152)) × Int) := some (true, 0, 0, false, ([] : List (S148)), ([] : List (S152)), 0)
set_option maxHeartbeats 8000000 in
set_option maxRecDepth 100000 in
theorem impl_BossNew.calls  (r1 : Bool) (r2 : Int) (r3 : Int) (r4 : Bool) (r5 : List (S148)) (r6 : List (S152)) (r7 : Int) (w : World) (h : impl_BossNew.f  = some (r1, r2, r3, r4, r5, r6, r7)) :
    Calls Try.prog 14 #[] w fun e w' => ∃ v4_ v5_ : Value, e = .returned (.agg #[.bool r1, .int .i64 r2, .int .i64 r3, .bool r4, v4_, v5_, .int .i64 r7]) ∧ Kd.R k148 148 w' w.heap.size (fun _ => True) v4_ r5 ∧ Kd.R k152 152 w' w.heap.size (fun _ => True) v5_ r6 ∧ Below w.heap.size w w' := by
  have hu25 := Try.underlying25
  have HB := Bl.mk (Below.refl w.heap.size w)
  unfold impl_BossNew.f at h
  have H := h
  clear h
  simp only [Option.some.injEq, Prod.mk.injEq] at H
  obtain ⟨rfl, rfl, rfl, rfl, rfl, rfl, rfl⟩ := H
  go_enter Try.func14, Try.ntmps14
  go_wp2_with (first | ((with_reducible refine gate_dst (N := 0) rfl ?_); refine box_event ?hg (N := 0) ?hd (cs := #[.bool false, .int .i64 0, .int .i64 0, .bool false, .slice none 0 0, .slice none 0 0, .int .i64 0]) (t := 25) ?hr ?_; (case hd => rfl); (case hg => rfl); (case hr => first | (go_simp; done) | (go_simp; rfl)); intro gb102 hg w1 hbox hb; have n0_ := Bl.mk (below_step bl hb); have n1_ := Bk.mk (hbox); have n2_ := Aside0.mk ((by rw [hg]; exact (below_size bl) : w.heap.size ≤ gb102)); have n3_ := Gl.mk ((by rw [hg]; exact (below_size bl) : w.heap.size ≤ gb102)); clear HB; have HB := n0_; have BK102 := n1_; have GW102 := n2_; have GE102 := n3_; clear n0_ n1_ n2_ n3_; clear hb hbox hg; have hcz2_0 := bc0 BK102.out; have hcz2_1 := bc1 BK102.out; have hcz2_2 := bc2 BK102.out; have hcz2_3 := bc3 BK102.out; have hcz2_4 := bc4 BK102.out; have hcz2_5 := bc5 BK102.out; have hcz2_6 : w1.cell? ⟨gb102, 6, none⟩ = some (.int .i64 0) := (blk_cell BK102.out 6).trans rfl; have hfz2_0 := blk_frozen BK102.out 0; have hfz2_1 := blk_frozen BK102.out 1; have hfz2_2 := blk_frozen BK102.out 2; have hfz2_3 := blk_frozen BK102.out 3; have hfz2_4 := blk_frozen BK102.out 4; have hfz2_5 := blk_frozen BK102.out 5; have hfz2_6 := blk_frozen BK102.out 6))
  refine bodyPost_ret (results_cell_row rfl _ _ gb102 25 #[.bool true, .int .i64 0, .int .i64 0, .bool false, .slice none 0 0, .slice none 0 0, .int .i64 0] (0, 0) _ rfl bk Try.underlying25 rfl (by kernel_rfl)) rfl ?_
  exact ⟨_, _, by first | rfl | (simp [errW_none, errW_some] <;> rfl) | (simp [*, errW_none, errW_some] <;> rfl), by first | exact Kd.R_nil _ _ _ _ _ | exact Kd.N_nil _ _ _ _ _ | exact Kd.V_nil _ _ _ _ _ | exact Kd.Q_nil _ _ _ _ _ | exact Kd.S_nil _ _ _ _ _, by first | exact Kd.R_nil _ _ _ _ _ | exact Kd.N_nil _ _ _ _ _ | exact Kd.V_nil _ _ _ _ _ | exact Kd.Q_nil _ _ _ _ _ | exact Kd.S_nil _ _ _ _ _, bl⟩

/-! ### laws_eqLease: function 114 -/
def laws_eqLease.f (a0_0 : Int) (a0_1 : Int) (a0_2 : Int) (a1_0 : Int) (a1_1 : Int) (a1_2 : Int) : Option (Bool) := if a0_0 = a1_0 then (if a0_1 = a1_1 then (if a0_2 = a1_2 then (some true) else (some false)) else (some false)) else (some false)
set_option maxHeartbeats 8000000 in
set_option maxRecDepth 100000 in
theorem laws_eqLease.calls (a0_0 : Int) (a0_1 : Int) (a0_2 : Int) (a1_0 : Int) (a1_1 : Int) (a1_2 : Int) (r : Bool) (w : World) (h : laws_eqLease.f a0_0 a0_1 a0_2 a1_0 a1_1 a1_2 = some r) :
    Calls Try.prog 114 #[.agg #[.int .i64 a0_0, .int .i64 a0_1, .int .i64 a0_2], .agg #[.int .i64 a1_0, .int .i64 a1_1, .int .i64 a1_2]] w fun e w' => e = .returned (.bool r) ∧ Below w.heap.size w w' := by
  have hu148 := Try.underlying148
  have HB := Bl.mk (Below.refl w.heap.size w)
  unfold laws_eqLease.f at h
  have H := h
  clear h
  by_cases c3 : a0_0 = a1_0
  · rw [if_pos c3] at H
    have c3b0 : (a0_0 == a1_0) = true := beq_iff_eq.mpr c3
    have c3b1 : (a0_0 != a1_0) = false := bne_eq_false_iff_eq.mpr c3
    clear c3
    by_cases c4 : a0_1 = a1_1
    · rw [if_pos c4] at H
      have c4b0 : (a0_1 == a1_1) = true := beq_iff_eq.mpr c4
      have c4b1 : (a0_1 != a1_1) = false := bne_eq_false_iff_eq.mpr c4
      clear c4
      by_cases c5 : a0_2 = a1_2
      · rw [if_pos c5] at H
        have c5b0 : (a0_2 == a1_2) = true := beq_iff_eq.mpr c5
        have c5b1 : (a0_2 != a1_2) = false := bne_eq_false_iff_eq.mpr c5
        clear c5
        obtain rfl := Option.some.inj H
        go_enter Try.func114, Try.ntmps114
        go_wp2_with (first | ((with_reducible refine gate_dst (N := 2) rfl ?_); refine box_event ?hg (N := 2) ?hd (cs := #[.int .i64 a0_0, .int .i64 a0_1, .int .i64 a0_2]) (t := 148) ?hr ?_; (case hd => rfl); (case hg => rfl); (case hr => first | (go_simp; done) | (go_simp; rfl)); intro gb103 hg w6 hbox hb; have n0_ := Bl.mk (below_step bl hb); have n1_ := Bk.mk (hbox); have n2_ := Aside0.mk ((by rw [hg]; exact (below_size bl) : w.heap.size ≤ gb103)); have n3_ := Gl.mk ((by rw [hg]; exact (below_size bl) : w.heap.size ≤ gb103)); clear HB; have HB := n0_; have BK103 := n1_; have GW103 := n2_; have GE103 := n3_; clear n0_ n1_ n2_ n3_; clear hb hbox hg) | ((with_reducible refine gate_dst (N := 3) rfl ?_); refine box_event ?hg (N := 3) ?hd (cs := #[.int .i64 a1_0, .int .i64 a1_1, .int .i64 a1_2]) (t := 148) ?hr ?_; (case hd => rfl); (case hg => rfl); (case hr => first | (go_simp; done) | (go_simp; rfl)); intro gb104 hg w7 hbox hb; have n0_ := Bk.mk (blk_below (g := gb103) bk hb); have n1_ := Bl.mk (below_step bl hb); have n2_ := Bk.mk (hbox); have n3_ := Aside0.mk ((by rw [hg]; exact (below_size bl) : w.heap.size ≤ gb104)); have n4_ := Gl.mk ((by rw [hg]; exact (below_size bl) : w.heap.size ≤ gb104)); have n5_ := Nb.mk ((by rw [hg]; exact Nat.ne_of_lt (blk_lt (g := gb103) bk) : gb103 ≠ gb104)); have n6_ := Nb.mk ((by rw [hg]; exact Nat.ne_of_gt (blk_lt (g := gb103) bk) : gb104 ≠ gb103)); clear BK103; clear HB; have BK103 := n0_; have HB := n1_; have BK104 := n2_; have GW104 := n3_; have GE104 := n4_; have NB103_104 := n5_; have NB104_103 := n6_; clear n0_ n1_ n2_ n3_ n4_ n5_ n6_; clear hb hbox hg; have hnb8 := NB103_104.out; have hnc8 := NB104_103.out; have hcz9_0 := bc0 BK103.out; have hcz9_1 := bc1 BK103.out; have hcz9_2 := bc2 BK103.out; have hfz9_0 := blk_frozen BK103.out 0; have hfz9_1 := blk_frozen BK103.out 1; have hfz9_2 := blk_frozen BK103.out 2; have hcz10_0 := bc0 BK104.out; have hcz10_1 := bc1 BK104.out; have hcz10_2 := bc2 BK104.out; have hfz10_0 := blk_frozen BK104.out 0; have hfz10_1 := blk_frozen BK104.out 1; have hfz10_2 := blk_frozen BK104.out 2))
        go_ret
        exact ⟨by first | rfl | (simp [errW_none, errW_some] <;> rfl) | (simp [*, errW_none, errW_some] <;> rfl), bl⟩
      · rw [if_neg c5] at H
        have c5b0 : (a0_2 == a1_2) = false := beq_eq_false_iff_ne.mpr c5
        have c5b1 : (a0_2 != a1_2) = true := bne_iff_ne.mpr c5
        obtain rfl := Option.some.inj H
        go_enter Try.func114, Try.ntmps114
        go_wp2_with (first | ((with_reducible refine gate_dst (N := 2) rfl ?_); refine box_event ?hg (N := 2) ?hd (cs := #[.int .i64 a0_0, .int .i64 a0_1, .int .i64 a0_2]) (t := 148) ?hr ?_; (case hd => rfl); (case hg => rfl); (case hr => first | (go_simp; done) | (go_simp; rfl)); intro gb103 hg w11 hbox hb; have n0_ := Bl.mk (below_step bl hb); have n1_ := Bk.mk (hbox); have n2_ := Aside0.mk ((by rw [hg]; exact (below_size bl) : w.heap.size ≤ gb103)); have n3_ := Gl.mk ((by rw [hg]; exact (below_size bl) : w.heap.size ≤ gb103)); clear HB; have HB := n0_; have BK103 := n1_; have GW103 := n2_; have GE103 := n3_; clear n0_ n1_ n2_ n3_; clear hb hbox hg) | ((with_reducible refine gate_dst (N := 3) rfl ?_); refine box_event ?hg (N := 3) ?hd (cs := #[.int .i64 a1_0, .int .i64 a1_1, .int .i64 a1_2]) (t := 148) ?hr ?_; (case hd => rfl); (case hg => rfl); (case hr => first | (go_simp; done) | (go_simp; rfl)); intro gb104 hg w12 hbox hb; have n0_ := Bk.mk (blk_below (g := gb103) bk hb); have n1_ := Bl.mk (below_step bl hb); have n2_ := Bk.mk (hbox); have n3_ := Aside0.mk ((by rw [hg]; exact (below_size bl) : w.heap.size ≤ gb104)); have n4_ := Gl.mk ((by rw [hg]; exact (below_size bl) : w.heap.size ≤ gb104)); have n5_ := Nb.mk ((by rw [hg]; exact Nat.ne_of_lt (blk_lt (g := gb103) bk) : gb103 ≠ gb104)); have n6_ := Nb.mk ((by rw [hg]; exact Nat.ne_of_gt (blk_lt (g := gb103) bk) : gb104 ≠ gb103)); clear BK103; clear HB; have BK103 := n0_; have HB := n1_; have BK104 := n2_; have GW104 := n3_; have GE104 := n4_; have NB103_104 := n5_; have NB104_103 := n6_; clear n0_ n1_ n2_ n3_ n4_ n5_ n6_; clear hb hbox hg; have hnb13 := NB103_104.out; have hnc13 := NB104_103.out; have hcz14_0 := bc0 BK103.out; have hcz14_1 := bc1 BK103.out; have hcz14_2 := bc2 BK103.out; have hfz14_0 := blk_frozen BK103.out 0; have hfz14_1 := blk_frozen BK103.out 1; have hfz14_2 := blk_frozen BK103.out 2; have hcz15_0 := bc0 BK104.out; have hcz15_1 := bc1 BK104.out; have hcz15_2 := bc2 BK104.out; have hfz15_0 := blk_frozen BK104.out 0; have hfz15_1 := blk_frozen BK104.out 1; have hfz15_2 := blk_frozen BK104.out 2))
        go_ret
        exact ⟨by first | rfl | (simp [errW_none, errW_some] <;> rfl) | (simp [*, errW_none, errW_some] <;> rfl), bl⟩
    · rw [if_neg c4] at H
      have c4b0 : (a0_1 == a1_1) = false := beq_eq_false_iff_ne.mpr c4
      have c4b1 : (a0_1 != a1_1) = true := bne_iff_ne.mpr c4
      obtain rfl := Option.some.inj H
      go_enter Try.func114, Try.ntmps114
      go_wp2_with (first | ((with_reducible refine gate_dst (N := 2) rfl ?_); refine box_event ?hg (N := 2) ?hd (cs := #[.int .i64 a0_0, .int .i64 a0_1, .int .i64 a0_2]) (t := 148) ?hr ?_; (case hd => rfl); (case hg => rfl); (case hr => first | (go_simp; done) | (go_simp; rfl)); intro gb103 hg w16 hbox hb; have n0_ := Bl.mk (below_step bl hb); have n1_ := Bk.mk (hbox); have n2_ := Aside0.mk ((by rw [hg]; exact (below_size bl) : w.heap.size ≤ gb103)); have n3_ := Gl.mk ((by rw [hg]; exact (below_size bl) : w.heap.size ≤ gb103)); clear HB; have HB := n0_; have BK103 := n1_; have GW103 := n2_; have GE103 := n3_; clear n0_ n1_ n2_ n3_; clear hb hbox hg) | ((with_reducible refine gate_dst (N := 3) rfl ?_); refine box_event ?hg (N := 3) ?hd (cs := #[.int .i64 a1_0, .int .i64 a1_1, .int .i64 a1_2]) (t := 148) ?hr ?_; (case hd => rfl); (case hg => rfl); (case hr => first | (go_simp; done) | (go_simp; rfl)); intro gb104 hg w17 hbox hb; have n0_ := Bk.mk (blk_below (g := gb103) bk hb); have n1_ := Bl.mk (below_step bl hb); have n2_ := Bk.mk (hbox); have n3_ := Aside0.mk ((by rw [hg]; exact (below_size bl) : w.heap.size ≤ gb104)); have n4_ := Gl.mk ((by rw [hg]; exact (below_size bl) : w.heap.size ≤ gb104)); have n5_ := Nb.mk ((by rw [hg]; exact Nat.ne_of_lt (blk_lt (g := gb103) bk) : gb103 ≠ gb104)); have n6_ := Nb.mk ((by rw [hg]; exact Nat.ne_of_gt (blk_lt (g := gb103) bk) : gb104 ≠ gb103)); clear BK103; clear HB; have BK103 := n0_; have HB := n1_; have BK104 := n2_; have GW104 := n3_; have GE104 := n4_; have NB103_104 := n5_; have NB104_103 := n6_; clear n0_ n1_ n2_ n3_ n4_ n5_ n6_; clear hb hbox hg; have hnb18 := NB103_104.out; have hnc18 := NB104_103.out; have hcz19_0 := bc0 BK103.out; have hcz19_1 := bc1 BK103.out; have hcz19_2 := bc2 BK103.out; have hfz19_0 := blk_frozen BK103.out 0; have hfz19_1 := blk_frozen BK103.out 1; have hfz19_2 := blk_frozen BK103.out 2; have hcz20_0 := bc0 BK104.out; have hcz20_1 := bc1 BK104.out; have hcz20_2 := bc2 BK104.out; have hfz20_0 := blk_frozen BK104.out 0; have hfz20_1 := blk_frozen BK104.out 1; have hfz20_2 := blk_frozen BK104.out 2))
      go_ret
      exact ⟨by first | rfl | (simp [errW_none, errW_some] <;> rfl) | (simp [*, errW_none, errW_some] <;> rfl), bl⟩
  · rw [if_neg c3] at H
    have c3b0 : (a0_0 == a1_0) = false := beq_eq_false_iff_ne.mpr c3
    have c3b1 : (a0_0 != a1_0) = true := bne_iff_ne.mpr c3
    obtain rfl := Option.some.inj H
    go_enter Try.func114, Try.ntmps114
    go_wp2_with (first | ((with_reducible refine gate_dst (N := 2) rfl ?_); refine box_event ?hg (N := 2) ?hd (cs := #[.int .i64 a0_0, .int .i64 a0_1, .int .i64 a0_2]) (t := 148) ?hr ?_; (case hd => rfl); (case hg => rfl); (case hr => first | (go_simp; done) | (go_simp; rfl)); intro gb103 hg w21 hbox hb; have n0_ := Bl.mk (below_step bl hb); have n1_ := Bk.mk (hbox); have n2_ := Aside0.mk ((by rw [hg]; exact (below_size bl) : w.heap.size ≤ gb103)); have n3_ := Gl.mk ((by rw [hg]; exact (below_size bl) : w.heap.size ≤ gb103)); clear HB; have HB := n0_; have BK103 := n1_; have GW103 := n2_; have GE103 := n3_; clear n0_ n1_ n2_ n3_; clear hb hbox hg) | ((with_reducible refine gate_dst (N := 3) rfl ?_); refine box_event ?hg (N := 3) ?hd (cs := #[.int .i64 a1_0, .int .i64 a1_1, .int .i64 a1_2]) (t := 148) ?hr ?_; (case hd => rfl); (case hg => rfl); (case hr => first | (go_simp; done) | (go_simp; rfl)); intro gb104 hg w22 hbox hb; have n0_ := Bk.mk (blk_below (g := gb103) bk hb); have n1_ := Bl.mk (below_step bl hb); have n2_ := Bk.mk (hbox); have n3_ := Aside0.mk ((by rw [hg]; exact (below_size bl) : w.heap.size ≤ gb104)); have n4_ := Gl.mk ((by rw [hg]; exact (below_size bl) : w.heap.size ≤ gb104)); have n5_ := Nb.mk ((by rw [hg]; exact Nat.ne_of_lt (blk_lt (g := gb103) bk) : gb103 ≠ gb104)); have n6_ := Nb.mk ((by rw [hg]; exact Nat.ne_of_gt (blk_lt (g := gb103) bk) : gb104 ≠ gb103)); clear BK103; clear HB; have BK103 := n0_; have HB := n1_; have BK104 := n2_; have GW104 := n3_; have GE104 := n4_; have NB103_104 := n5_; have NB104_103 := n6_; clear n0_ n1_ n2_ n3_ n4_ n5_ n6_; clear hb hbox hg; have hnb23 := NB103_104.out; have hnc23 := NB104_103.out; have hcz24_0 := bc0 BK103.out; have hcz24_1 := bc1 BK103.out; have hcz24_2 := bc2 BK103.out; have hfz24_0 := blk_frozen BK103.out 0; have hfz24_1 := blk_frozen BK103.out 1; have hfz24_2 := blk_frozen BK103.out 2; have hcz25_0 := bc0 BK104.out; have hcz25_1 := bc1 BK104.out; have hcz25_2 := bc2 BK104.out; have hfz25_0 := blk_frozen BK104.out 0; have hfz25_1 := blk_frozen BK104.out 1; have hfz25_2 := blk_frozen BK104.out 2))
    go_ret
    exact ⟨by first | rfl | (simp [errW_none, errW_some] <;> rfl) | (simp [*, errW_none, errW_some] <;> rfl), bl⟩

end Go.Proofs.Ytnnaeoicoghheaa.P
