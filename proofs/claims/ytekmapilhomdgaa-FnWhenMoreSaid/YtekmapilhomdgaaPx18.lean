/- The contracts of Go functions of this seat: each call comes to what the Lean function of the same name says. -/
import Derived.Test.YtekmapilhomdgaaPx0
import Derived.Test.YtekmapilhomdgaaPx15
namespace Go.Proofs.Ytekmapilhomdgaa.P
open Go.RowKit Go.Proofs.YtekmapilhomdgaaW.PrintWords Go.Proofs.YtekmapilhomdgaaW.PrintLast Go.Proofs.YtekmapilhomdgaaW.PrintMore
attribute [local go_sem] max2_int min2_int max_two min_two max_three min_three max_four min_four   -- for this text's walks alone
set_option linter.unusedVariables false
set_option linter.unusedSimpArgs false

/-! ### spec_l1Not: function 43 -/
def spec_l1Not.j0 : Nat → Int → Int → Bool → Bool → Int → Int → Option (Bool × Int × Int)
  | 0, _, _, _, _, _, _ => none
  | k + 1, x5, x6, x21, x222000, x222001, x222002 => if x21 = true then (if x222001 = x222002 then (if x6 = x222001 then ((spec_l1Of.f (wrap64 (x5 + 1)) (wrap64 (x6 - 1))).bind fun bt223 => (some (bt223.1, bt223.2.1, bt223.2.2))) else ((spec_l1Of.f (wrap64 (x5 + 1)) x6).bind fun bt226 => (some (bt226.1, bt226.2.1, bt226.2.2)))) else ((spec_l1Of.f (wrap64 (x5 + 1)) x6).bind fun bt229 => (some (bt229.1, bt229.2.1, bt229.2.2)))) else (if x222001 = x222002 then (if x6 = x222001 then ((spec_l1Of.f x5 (wrap64 (x6 - 1))).bind fun bt232 => (some (bt232.1, bt232.2.1, bt232.2.2))) else ((spec_l1Of.f x5 x6).bind fun bt235 => (some (bt235.1, bt235.2.1, bt235.2.2)))) else ((spec_l1Of.f x5 x6).bind fun bt238 => (some (bt238.1, bt238.2.1, bt238.2.2))))
def spec_l1Not.f (k : Nat) (a0_0 : Bool) (a0_1 : Int) (a0_2 : Int) (a1_0 : Bool) (a1_1 : Int) (a1_2 : Int) : Option (Bool × Int × Int) := if a1_1 = a1_2 then (spec_l1Not.j0 k a0_1 a0_2 (a0_1 == a1_1) a1_0 a1_1 a1_2) else (spec_l1Not.j0 k a0_1 a0_2 false a1_0 a1_1 a1_2)
theorem spec_l1Not.mono_l : ∀ k, (∀ y0 y1 y2 y3 y4 y5, LeO (spec_l1Not.j0 k y0 y1 y2 y3 y4 y5) (spec_l1Not.j0 (k + 1) y0 y1 y2 y3 y4 y5))
  | 0 => fun _ _ _ _ _ _ r h => by simp [spec_l1Not.j0] at h
  | k + 1 => by
    have ih0 := spec_l1Not.mono_l k
    · intro y0 y1 y2 y3 y4 y5
      unfold spec_l1Not.j0
      repeat' first
      | (with_reducible exact ih0 _ _ _ _ _ _)
      | (with_reducible exact LeO.refl _)
      | (with_reducible exact LeO.none _)
      | (with_reducible refine LeO.ite ?_ ?_)
      | (with_reducible refine LeO.bind ?_ (fun _ => ?_))
      | exact ih0 _ _ _ _ _ _
      | exact LeO.none _
      | refine LeO.ite ?_ ?_
      | refine LeO.bind ?_ (fun _ => ?_)
theorem spec_l1Not.mono : ∀ a0 a1 a2 a3 a4 a5 k, LeO (spec_l1Not.f k a0 a1 a2 a3 a4 a5) (spec_l1Not.f (k + 1) a0 a1 a2 a3 a4 a5) := by
  intro a0 a1 a2 a3 a4 a5 k
  have ih0 := spec_l1Not.mono_l k
  unfold spec_l1Not.f
  repeat' first
      | (with_reducible exact ih0 _ _ _ _ _ _)
      | (with_reducible exact LeO.refl _)
      | (with_reducible exact LeO.none _)
      | (with_reducible refine LeO.ite ?_ ?_)
      | (with_reducible refine LeO.bind ?_ (fun _ => ?_))
      | exact ih0 _ _ _ _ _ _
      | exact LeO.none _
      | refine LeO.ite ?_ ?_
      | refine LeO.bind ?_ (fun _ => ?_)
set_option maxHeartbeats 8000000 in
set_option maxRecDepth 100000 in
theorem spec_l1Not.calls (k : Nat) (a0_0 : Bool) (a0_1 : Int) (a0_2 : Int) (a1_0 : Bool) (a1_1 : Int) (a1_2 : Int) (r1 : Bool) (r2 : Int) (r3 : Int) (w : World) (h : spec_l1Not.f k a0_0 a0_1 a0_2 a1_0 a1_1 a1_2 = some (r1, r2, r3)) :
    Calls Try.prog 43 #[.agg #[.bool a0_0, .int .i64 a0_1, .int .i64 a0_2], .agg #[.bool a1_0, .int .i64 a1_1, .int .i64 a1_2]] w fun e w' => e = .returned (.agg #[.bool r1, .int .i64 r2, .int .i64 r3]) ∧ Below w.heap.size w w' := by
  have hu30 := Try.underlying30
  have HB := Bl.mk (Below.refl w.heap.size w)
  unfold spec_l1Not.f at h
  have H := h
  clear h
  have HC3 := Aside0.mk H
  clear H
  go_enter Try.func43, Try.ntmps43
  go_upto_region 3 with (first | ((with_reducible refine gate_dst (N := 2) rfl ?_); refine box_event ?hg (N := 2) ?hd (cs := #[.bool a0_0, .int .i64 a0_1, .int .i64 a0_2]) (t := 30) ?hr ?_; (case hd => rfl); (case hg => rfl); (case hr => first | (go_simp; done) | (go_simp; rfl)); intro gb220 hg w4 hbox hb; have n0_ := Bl.mk (below_step bl hb); have n1_ := Bk.mk (hbox); have n2_ := Aside0.mk ((by rw [hg]; exact (below_size bl) : w.heap.size ≤ gb220)); have n3_ := Gl.mk ((by rw [hg]; exact (below_size bl) : w.heap.size ≤ gb220)); clear HB; have HB := n0_; have BK220 := n1_; have GW220 := n2_; have GE220 := n3_; clear n0_ n1_ n2_ n3_; clear hb hbox hg) | ((with_reducible refine gate_dst (N := 3) rfl ?_); refine box_event ?hg (N := 3) ?hd (cs := #[.bool a1_0, .int .i64 a1_1, .int .i64 a1_2]) (t := 30) ?hr ?_; (case hd => rfl); (case hg => rfl); (case hr => first | (go_simp; done) | (go_simp; rfl)); intro gb221 hg w5 hbox hb; have n0_ := Bk.mk (blk_below (g := gb220) bk hb); have n1_ := Bl.mk (below_step bl hb); have n2_ := Bk.mk (hbox); have n3_ := Aside0.mk ((by rw [hg]; exact (below_size bl) : w.heap.size ≤ gb221)); have n4_ := Gl.mk ((by rw [hg]; exact (below_size bl) : w.heap.size ≤ gb221)); have n5_ := Nb.mk ((by rw [hg]; exact Nat.ne_of_lt (blk_lt (g := gb220) bk) : gb220 ≠ gb221)); have n6_ := Nb.mk ((by rw [hg]; exact Nat.ne_of_gt (blk_lt (g := gb220) bk) : gb221 ≠ gb220)); clear BK220; clear HB; have BK220 := n0_; have HB := n1_; have BK221 := n2_; have GW221 := n3_; have GE221 := n4_; have NB220_221 := n5_; have NB221_220 := n6_; clear n0_ n1_ n2_ n3_ n4_ n5_ n6_; clear hb hbox hg) | ((with_reducible refine gate_dst (N := 4) rfl ?_); refine box_event ?hg (N := 4) ?hd (cs := #[.bool false, .int .i64 0, .int .i64 0]) (t := 30) ?hr ?_; (case hd => rfl); (case hg => rfl); (case hr => first | (go_simp; done) | (go_simp; rfl)); intro gb222 hg w6 hbox hb; have n0_ := Bk.mk (blk_below (g := gb220) bk hb); have n1_ := Bk.mk (blk_below (g := gb221) bk hb); have n2_ := Bl.mk (below_step bl hb); have n3_ := Bk.mk (hbox); have n4_ := Aside0.mk ((by rw [hg]; exact (below_size bl) : w.heap.size ≤ gb222)); have n5_ := Gl.mk ((by rw [hg]; exact (below_size bl) : w.heap.size ≤ gb222)); have n6_ := Nb.mk ((by rw [hg]; exact Nat.ne_of_lt (blk_lt (g := gb220) bk) : gb220 ≠ gb222)); have n7_ := Nb.mk ((by rw [hg]; exact Nat.ne_of_gt (blk_lt (g := gb220) bk) : gb222 ≠ gb220)); have n8_ := Nb.mk ((by rw [hg]; exact Nat.ne_of_lt (blk_lt (g := gb221) bk) : gb221 ≠ gb222)); have n9_ := Nb.mk ((by rw [hg]; exact Nat.ne_of_gt (blk_lt (g := gb221) bk) : gb222 ≠ gb221)); clear BK220; clear BK221; clear HB; have BK220 := n0_; have BK221 := n1_; have HB := n2_; have BK222 := n3_; have GW222 := n4_; have GE222 := n5_; have NB220_222 := n6_; have NB222_220 := n7_; have NB221_222 := n8_; have NB222_221 := n9_; clear n0_ n1_ n2_ n3_ n4_ n5_ n6_ n7_ n8_ n9_; clear hb hbox hg; have hnb7 := NB220_221.out; have hnc7 := NB221_220.out; have hnb8 := NB220_222.out; have hnc8 := NB222_220.out; have hcz9_0 := bc0 BK220.out; have hcz9_1 := bc1 BK220.out; have hcz9_2 := bc2 BK220.out; have hfz9_0 := blk_frozen BK220.out 0; have hfz9_1 := blk_frozen BK220.out 1; have hfz9_2 := blk_frozen BK220.out 2))
  (try simp only [Act.put, List.setIfInBounds_toArray, List.set_cons_zero, List.set_cons_succ])
  go_cut [21] (fun v21 wc => ∃ (kq : Nat) (x21_2 : Bool), v21 = .bool x21_2 ∧ Aside0 (spec_l1Not.j0 kq a0_1 a0_2 x21_2 a1_0 a1_1 a1_2 = some (r1, r2, r3)) ∧ Aside0 (kq ≤ k) ∧ Bk wc gb220 (.cells #[.bool a0_0, .int .i64 a0_1, .int .i64 a0_2] 30 (0, 0)) ∧ Bk wc gb221 (.cells #[.bool a1_0, .int .i64 a1_1, .int .i64 a1_2] 30 (0, 0)) ∧ Bk wc gb222 (.cells #[.bool false, .int .i64 0, .int .i64 0] 30 (0, 0)) ∧ Bl w.heap.size w wc)
  case first =>
    have H := HC3.out
    clear HC3
    by_cases c10 : a1_1 = a1_2
    · rw [if_pos c10] at H
      have c10b0 : (a1_1 == a1_2) = true := beq_iff_eq.mpr c10
      have c10b1 : (a1_1 != a1_2) = false := bne_eq_false_iff_eq.mpr c10
      clear c10
      (first | rw [c10b0] | (simp only [i64_w, i32_w]; rw [c10b0]) | skip)
      have H' := Aside0.mk H
      clear H
      have hnb11 := NB221_220.out
      have hnc11 := NB220_221.out
      have hnb12 := NB221_222.out
      have hnc12 := NB222_221.out
      have hcz13_0 := bc0 BK221.out
      have hcz13_1 := bc1 BK221.out
      have hcz13_2 := bc2 BK221.out
      have hfz13_0 := blk_frozen BK221.out 0
      have hfz13_1 := blk_frozen BK221.out 1
      have hfz13_2 := blk_frozen BK221.out 2
      go_wp2
      go_meet
      case rel => exact ⟨_, ((a0_1 == a1_1)), (by first | rfl | (simp; done) | (simp [*]; done)), H', ⟨by first | omega | exact Nat.le_refl _⟩, ⟨bk⟩, ⟨bk⟩, ⟨bk⟩, ⟨bl⟩⟩
    · rw [if_neg c10] at H
      have c10b0 : (a1_1 == a1_2) = false := beq_eq_false_iff_ne.mpr c10
      have c10b1 : (a1_1 != a1_2) = true := bne_iff_ne.mpr c10
      (first | rw [c10b0] | (simp only [i64_w, i32_w]; rw [c10b0]) | skip)
      have H' := Aside0.mk H
      clear H
      have hnb14 := NB221_220.out
      have hnc14 := NB220_221.out
      have hnb15 := NB221_222.out
      have hnc15 := NB222_221.out
      have hcz16_0 := bc0 BK221.out
      have hcz16_1 := bc1 BK221.out
      have hcz16_2 := bc2 BK221.out
      have hfz16_0 := blk_frozen BK221.out 0
      have hfz16_1 := blk_frozen BK221.out 1
      have hfz16_2 := blk_frozen BK221.out 2
      go_wp2
      go_meet
      case rel => exact ⟨_, (false), (by first | rfl | (simp; done) | (simp [*]; done)), H', ⟨by first | omega | exact Nat.le_refl _⟩, ⟨bk⟩, ⟨bk⟩, ⟨bk⟩, ⟨bl⟩⟩
  case rest =>
    clear HC3
    try clear c1
    try clear p2
    try clear c4
    try clear c7
    try clear c8
    try clear c10
    try clear c10b0
    try clear c10b1
    try clear c11
    try clear c12
    try clear c14
    try clear c15
    try clear hcz13_0
    try clear hcz13_1
    try clear hcz13_2
    try clear hcz16_0
    try clear hcz16_1
    try clear hcz16_2
    try clear hcz9_0
    try clear hcz9_1
    try clear hcz9_2
    try clear hfz13_0
    try clear hfz13_1
    try clear hfz13_2
    try clear hfz16_0
    try clear hfz16_1
    try clear hfz16_2
    try clear hfz9_0
    try clear hfz9_1
    try clear hfz9_2
    obtain ⟨kq, x21_2, rfl, HA, HJ2, BK220, BK221, BK222, HB⟩ := hcut
    cases kq with
    | zero => exact absurd HA.out (by simp [spec_l1Not.j0])
    | succ kj2 =>
      have H := HA.out
      clear HA
      simp only [spec_l1Not.j0] at H
      by_cases c17 : x21_2 = true
      · subst c17
        rw [if_pos rfl] at H
        by_cases c18 : a1_1 = a1_2
        · rw [if_pos c18] at H
          have c18b0 : (a1_1 == a1_2) = true := beq_iff_eq.mpr c18
          have c18b1 : (a1_1 != a1_2) = false := bne_eq_false_iff_eq.mpr c18
          clear c18
          by_cases c19 : a0_2 = a1_1
          · rw [if_pos c19] at H
            have c19b0 : (a0_2 == a1_1) = true := beq_iff_eq.mpr c19
            have c19b1 : (a0_2 != a1_1) = false := bne_eq_false_iff_eq.mpr c19
            clear c19
            replace H := Option.bind_eq_some_iff.mp H
            obtain ⟨⟨t223, t224, t225⟩, A200, H⟩ := H
            try dsimp only at H
            have A20 := Aside0.mk A200
            clear A200
            simp only [Option.some.injEq, Prod.mk.injEq] at H
            obtain ⟨rfl, rfl, rfl⟩ := H
            have hnb21 := NB221_220.out
            have hnc21 := NB220_221.out
            have hnb22 := NB221_222.out
            have hnc22 := NB222_221.out
            have hcz23_0 := bc0 BK221.out
            have hcz23_1 := bc1 BK221.out
            have hcz23_2 := bc2 BK221.out
            have hfz23_0 := blk_frozen BK221.out 0
            have hfz23_1 := blk_frozen BK221.out 1
            have hfz23_2 := blk_frozen BK221.out 2
            go_wp2_with (first | ((with_reducible refine gate_callee (f := 41) rfl ?_); refine goesL_ (some 39) rfl rfl Try.func41 (by kernel_rfl) rfl #[.int .i64 (wrap64 (a0_1 + 1)), .int .i64 (wrap64 (a0_2 - 1))] rfl (by (try simp only [List.map_toArray, List.map_cons, List.map_nil]); first | done | rfl | (simp only [List.length_drop, List.length_take]; rfl)) ?_; (with_reducible refine (spec_l1Of.calls (wrap64 (a0_1 + 1)) (wrap64 (a0_2 - 1)) t223 t224 t225 _ A20.out).mono ?_); rintro e w24 ⟨rfl, hb⟩; refine ⟨_, rfl, ?_⟩; have n0_ := Bk.mk (blk_below (g := gb220) bk hb); have n1_ := Bk.mk (blk_below (g := gb221) bk hb); have n2_ := Bk.mk (blk_below (g := gb222) bk hb); have n3_ := Bl.mk (below_step bl hb); clear BK220; clear BK221; clear BK222; clear HB; have BK220 := n0_; have BK221 := n1_; have BK222 := n2_; have HB := n3_; clear n0_ n1_ n2_ n3_; (try clear hb); (try clear hb2); (try clear hk); (try clear hi); have hnb25 := NB222_220.out; have hnc25 := NB220_222.out; have hcz26_0 := bc0 BK222.out; have hcz26_1 := bc1 BK222.out; have hcz26_2 := bc2 BK222.out; have hfz26_0 := blk_frozen BK222.out 0; have hfz26_1 := blk_frozen BK222.out 1; have hfz26_2 := blk_frozen BK222.out 2))
            refine bodyPost_ret (results_cell_row rfl _ _ gb222 30 #[.bool t223, .int .i64 t224, .int .i64 t225] (0, 0) _ rfl bk Try.underlying30 rfl (by kernel_rfl)) rfl ?_
            exact ⟨by first | rfl | (simp [errW_none, errW_some] <;> rfl) | (simp [*, errW_none, errW_some] <;> rfl), bl⟩
          · rw [if_neg c19] at H
            have c19b0 : (a0_2 == a1_1) = false := beq_eq_false_iff_ne.mpr c19
            have c19b1 : (a0_2 != a1_1) = true := bne_iff_ne.mpr c19
            replace H := Option.bind_eq_some_iff.mp H
            obtain ⟨⟨t226, t227, t228⟩, A270, H⟩ := H
            try dsimp only at H
            have A27 := Aside0.mk A270
            clear A270
            simp only [Option.some.injEq, Prod.mk.injEq] at H
            obtain ⟨rfl, rfl, rfl⟩ := H
            have hnb28 := NB221_220.out
            have hnc28 := NB220_221.out
            have hnb29 := NB221_222.out
            have hnc29 := NB222_221.out
            have hcz30_0 := bc0 BK221.out
            have hcz30_1 := bc1 BK221.out
            have hcz30_2 := bc2 BK221.out
            have hfz30_0 := blk_frozen BK221.out 0
            have hfz30_1 := blk_frozen BK221.out 1
            have hfz30_2 := blk_frozen BK221.out 2
            go_wp2_with (first | ((with_reducible refine gate_callee (f := 41) rfl ?_); refine goesL_ (some 39) rfl rfl Try.func41 (by kernel_rfl) rfl #[.int .i64 (wrap64 (a0_1 + 1)), .int .i64 a0_2] rfl (by (try simp only [List.map_toArray, List.map_cons, List.map_nil]); first | done | rfl | (simp only [List.length_drop, List.length_take]; rfl)) ?_; (with_reducible refine (spec_l1Of.calls (wrap64 (a0_1 + 1)) a0_2 t226 t227 t228 _ A27.out).mono ?_); rintro e w31 ⟨rfl, hb⟩; refine ⟨_, rfl, ?_⟩; have n0_ := Bk.mk (blk_below (g := gb220) bk hb); have n1_ := Bk.mk (blk_below (g := gb221) bk hb); have n2_ := Bk.mk (blk_below (g := gb222) bk hb); have n3_ := Bl.mk (below_step bl hb); clear BK220; clear BK221; clear BK222; clear HB; have BK220 := n0_; have BK221 := n1_; have BK222 := n2_; have HB := n3_; clear n0_ n1_ n2_ n3_; (try clear hb); (try clear hb2); (try clear hk); (try clear hi); have hnb32 := NB222_220.out; have hnc32 := NB220_222.out; have hcz33_0 := bc0 BK222.out; have hcz33_1 := bc1 BK222.out; have hcz33_2 := bc2 BK222.out; have hfz33_0 := blk_frozen BK222.out 0; have hfz33_1 := blk_frozen BK222.out 1; have hfz33_2 := blk_frozen BK222.out 2))
            refine bodyPost_ret (results_cell_row rfl _ _ gb222 30 #[.bool t226, .int .i64 t227, .int .i64 t228] (0, 0) _ rfl bk Try.underlying30 rfl (by kernel_rfl)) rfl ?_
            exact ⟨by first | rfl | (simp [errW_none, errW_some] <;> rfl) | (simp [*, errW_none, errW_some] <;> rfl), bl⟩
        · rw [if_neg c18] at H
          have c18b0 : (a1_1 == a1_2) = false := beq_eq_false_iff_ne.mpr c18
          have c18b1 : (a1_1 != a1_2) = true := bne_iff_ne.mpr c18
          replace H := Option.bind_eq_some_iff.mp H
          obtain ⟨⟨t229, t230, t231⟩, A340, H⟩ := H
          try dsimp only at H
          have A34 := Aside0.mk A340
          clear A340
          simp only [Option.some.injEq, Prod.mk.injEq] at H
          obtain ⟨rfl, rfl, rfl⟩ := H
          have hnb35 := NB221_220.out
          have hnc35 := NB220_221.out
          have hnb36 := NB221_222.out
          have hnc36 := NB222_221.out
          have hcz37_0 := bc0 BK221.out
          have hcz37_1 := bc1 BK221.out
          have hcz37_2 := bc2 BK221.out
          have hfz37_0 := blk_frozen BK221.out 0
          have hfz37_1 := blk_frozen BK221.out 1
          have hfz37_2 := blk_frozen BK221.out 2
          go_wp2_with (first | ((with_reducible refine gate_callee (f := 41) rfl ?_); refine goesL_ (some 39) rfl rfl Try.func41 (by kernel_rfl) rfl #[.int .i64 (wrap64 (a0_1 + 1)), .int .i64 a0_2] rfl (by (try simp only [List.map_toArray, List.map_cons, List.map_nil]); first | done | rfl | (simp only [List.length_drop, List.length_take]; rfl)) ?_; (with_reducible refine (spec_l1Of.calls (wrap64 (a0_1 + 1)) a0_2 t229 t230 t231 _ A34.out).mono ?_); rintro e w38 ⟨rfl, hb⟩; refine ⟨_, rfl, ?_⟩; have n0_ := Bk.mk (blk_below (g := gb220) bk hb); have n1_ := Bk.mk (blk_below (g := gb221) bk hb); have n2_ := Bk.mk (blk_below (g := gb222) bk hb); have n3_ := Bl.mk (below_step bl hb); clear BK220; clear BK221; clear BK222; clear HB; have BK220 := n0_; have BK221 := n1_; have BK222 := n2_; have HB := n3_; clear n0_ n1_ n2_ n3_; (try clear hb); (try clear hb2); (try clear hk); (try clear hi); have hnb39 := NB222_220.out; have hnc39 := NB220_222.out; have hcz40_0 := bc0 BK222.out; have hcz40_1 := bc1 BK222.out; have hcz40_2 := bc2 BK222.out; have hfz40_0 := blk_frozen BK222.out 0; have hfz40_1 := blk_frozen BK222.out 1; have hfz40_2 := blk_frozen BK222.out 2))
          refine bodyPost_ret (results_cell_row rfl _ _ gb222 30 #[.bool t229, .int .i64 t230, .int .i64 t231] (0, 0) _ rfl bk Try.underlying30 rfl (by kernel_rfl)) rfl ?_
          exact ⟨by first | rfl | (simp [errW_none, errW_some] <;> rfl) | (simp [*, errW_none, errW_some] <;> rfl), bl⟩
      · replace c17 := Bool.eq_false_iff.mpr c17
        subst c17
        rw [if_neg (show ¬ (false = true) by decide)] at H
        by_cases c41 : a1_1 = a1_2
        · rw [if_pos c41] at H
          have c41b0 : (a1_1 == a1_2) = true := beq_iff_eq.mpr c41
          have c41b1 : (a1_1 != a1_2) = false := bne_eq_false_iff_eq.mpr c41
          clear c41
          by_cases c42 : a0_2 = a1_1
          · rw [if_pos c42] at H
            have c42b0 : (a0_2 == a1_1) = true := beq_iff_eq.mpr c42
            have c42b1 : (a0_2 != a1_1) = false := bne_eq_false_iff_eq.mpr c42
            clear c42
            replace H := Option.bind_eq_some_iff.mp H
            obtain ⟨⟨t232, t233, t234⟩, A430, H⟩ := H
            try dsimp only at H
            have A43 := Aside0.mk A430
            clear A430
            simp only [Option.some.injEq, Prod.mk.injEq] at H
            obtain ⟨rfl, rfl, rfl⟩ := H
            have hnb44 := NB221_220.out
            have hnc44 := NB220_221.out
            have hnb45 := NB221_222.out
            have hnc45 := NB222_221.out
            have hcz46_0 := bc0 BK221.out
            have hcz46_1 := bc1 BK221.out
            have hcz46_2 := bc2 BK221.out
            have hfz46_0 := blk_frozen BK221.out 0
            have hfz46_1 := blk_frozen BK221.out 1
            have hfz46_2 := blk_frozen BK221.out 2
            go_wp2_with (first | ((with_reducible refine gate_callee (f := 41) rfl ?_); refine goesL_ (some 39) rfl rfl Try.func41 (by kernel_rfl) rfl #[.int .i64 a0_1, .int .i64 (wrap64 (a0_2 - 1))] rfl (by (try simp only [List.map_toArray, List.map_cons, List.map_nil]); first | done | rfl | (simp only [List.length_drop, List.length_take]; rfl)) ?_; (with_reducible refine (spec_l1Of.calls a0_1 (wrap64 (a0_2 - 1)) t232 t233 t234 _ A43.out).mono ?_); rintro e w47 ⟨rfl, hb⟩; refine ⟨_, rfl, ?_⟩; have n0_ := Bk.mk (blk_below (g := gb220) bk hb); have n1_ := Bk.mk (blk_below (g := gb221) bk hb); have n2_ := Bk.mk (blk_below (g := gb222) bk hb); have n3_ := Bl.mk (below_step bl hb); clear BK220; clear BK221; clear BK222; clear HB; have BK220 := n0_; have BK221 := n1_; have BK222 := n2_; have HB := n3_; clear n0_ n1_ n2_ n3_; (try clear hb); (try clear hb2); (try clear hk); (try clear hi); have hnb48 := NB222_220.out; have hnc48 := NB220_222.out; have hcz49_0 := bc0 BK222.out; have hcz49_1 := bc1 BK222.out; have hcz49_2 := bc2 BK222.out; have hfz49_0 := blk_frozen BK222.out 0; have hfz49_1 := blk_frozen BK222.out 1; have hfz49_2 := blk_frozen BK222.out 2))
            refine bodyPost_ret (results_cell_row rfl _ _ gb222 30 #[.bool t232, .int .i64 t233, .int .i64 t234] (0, 0) _ rfl bk Try.underlying30 rfl (by kernel_rfl)) rfl ?_
            exact ⟨by first | rfl | (simp [errW_none, errW_some] <;> rfl) | (simp [*, errW_none, errW_some] <;> rfl), bl⟩
          · rw [if_neg c42] at H
            have c42b0 : (a0_2 == a1_1) = false := beq_eq_false_iff_ne.mpr c42
            have c42b1 : (a0_2 != a1_1) = true := bne_iff_ne.mpr c42
            replace H := Option.bind_eq_some_iff.mp H
            obtain ⟨⟨t235, t236, t237⟩, A500, H⟩ := H
            try dsimp only at H
            have A50 := Aside0.mk A500
            clear A500
            simp only [Option.some.injEq, Prod.mk.injEq] at H
            obtain ⟨rfl, rfl, rfl⟩ := H
            have hnb51 := NB221_220.out
            have hnc51 := NB220_221.out
            have hnb52 := NB221_222.out
            have hnc52 := NB222_221.out
            have hcz53_0 := bc0 BK221.out
            have hcz53_1 := bc1 BK221.out
            have hcz53_2 := bc2 BK221.out
            have hfz53_0 := blk_frozen BK221.out 0
            have hfz53_1 := blk_frozen BK221.out 1
            have hfz53_2 := blk_frozen BK221.out 2
            go_wp2_with (first | ((with_reducible refine gate_callee (f := 41) rfl ?_); refine goesL_ (some 39) rfl rfl Try.func41 (by kernel_rfl) rfl #[.int .i64 a0_1, .int .i64 a0_2] rfl (by (try simp only [List.map_toArray, List.map_cons, List.map_nil]); first | done | rfl | (simp only [List.length_drop, List.length_take]; rfl)) ?_; (with_reducible refine (spec_l1Of.calls a0_1 a0_2 t235 t236 t237 _ A50.out).mono ?_); rintro e w54 ⟨rfl, hb⟩; refine ⟨_, rfl, ?_⟩; have n0_ := Bk.mk (blk_below (g := gb220) bk hb); have n1_ := Bk.mk (blk_below (g := gb221) bk hb); have n2_ := Bk.mk (blk_below (g := gb222) bk hb); have n3_ := Bl.mk (below_step bl hb); clear BK220; clear BK221; clear BK222; clear HB; have BK220 := n0_; have BK221 := n1_; have BK222 := n2_; have HB := n3_; clear n0_ n1_ n2_ n3_; (try clear hb); (try clear hb2); (try clear hk); (try clear hi); have hnb55 := NB222_220.out; have hnc55 := NB220_222.out; have hcz56_0 := bc0 BK222.out; have hcz56_1 := bc1 BK222.out; have hcz56_2 := bc2 BK222.out; have hfz56_0 := blk_frozen BK222.out 0; have hfz56_1 := blk_frozen BK222.out 1; have hfz56_2 := blk_frozen BK222.out 2))
            refine bodyPost_ret (results_cell_row rfl _ _ gb222 30 #[.bool t235, .int .i64 t236, .int .i64 t237] (0, 0) _ rfl bk Try.underlying30 rfl (by kernel_rfl)) rfl ?_
            exact ⟨by first | rfl | (simp [errW_none, errW_some] <;> rfl) | (simp [*, errW_none, errW_some] <;> rfl), bl⟩
        · rw [if_neg c41] at H
          have c41b0 : (a1_1 == a1_2) = false := beq_eq_false_iff_ne.mpr c41
          have c41b1 : (a1_1 != a1_2) = true := bne_iff_ne.mpr c41
          replace H := Option.bind_eq_some_iff.mp H
          obtain ⟨⟨t238, t239, t240⟩, A570, H⟩ := H
          try dsimp only at H
          have A57 := Aside0.mk A570
          clear A570
          simp only [Option.some.injEq, Prod.mk.injEq] at H
          obtain ⟨rfl, rfl, rfl⟩ := H
          have hnb58 := NB221_220.out
          have hnc58 := NB220_221.out
          have hnb59 := NB221_222.out
          have hnc59 := NB222_221.out
          have hcz60_0 := bc0 BK221.out
          have hcz60_1 := bc1 BK221.out
          have hcz60_2 := bc2 BK221.out
          have hfz60_0 := blk_frozen BK221.out 0
          have hfz60_1 := blk_frozen BK221.out 1
          have hfz60_2 := blk_frozen BK221.out 2
          go_wp2_with (first | ((with_reducible refine gate_callee (f := 41) rfl ?_); refine goesL_ (some 39) rfl rfl Try.func41 (by kernel_rfl) rfl #[.int .i64 a0_1, .int .i64 a0_2] rfl (by (try simp only [List.map_toArray, List.map_cons, List.map_nil]); first | done | rfl | (simp only [List.length_drop, List.length_take]; rfl)) ?_; (with_reducible refine (spec_l1Of.calls a0_1 a0_2 t238 t239 t240 _ A57.out).mono ?_); rintro e w61 ⟨rfl, hb⟩; refine ⟨_, rfl, ?_⟩; have n0_ := Bk.mk (blk_below (g := gb220) bk hb); have n1_ := Bk.mk (blk_below (g := gb221) bk hb); have n2_ := Bk.mk (blk_below (g := gb222) bk hb); have n3_ := Bl.mk (below_step bl hb); clear BK220; clear BK221; clear BK222; clear HB; have BK220 := n0_; have BK221 := n1_; have BK222 := n2_; have HB := n3_; clear n0_ n1_ n2_ n3_; (try clear hb); (try clear hb2); (try clear hk); (try clear hi); have hnb62 := NB222_220.out; have hnc62 := NB220_222.out; have hcz63_0 := bc0 BK222.out; have hcz63_1 := bc1 BK222.out; have hcz63_2 := bc2 BK222.out; have hfz63_0 := blk_frozen BK222.out 0; have hfz63_1 := blk_frozen BK222.out 1; have hfz63_2 := blk_frozen BK222.out 2))
          refine bodyPost_ret (results_cell_row rfl _ _ gb222 30 #[.bool t238, .int .i64 t239, .int .i64 t240] (0, 0) _ rfl bk Try.underlying30 rfl (by kernel_rfl)) rfl ?_
          exact ⟨by first | rfl | (simp [errW_none, errW_some] <;> rfl) | (simp [*, errW_none, errW_some] <;> rfl), bl⟩

end Go.Proofs.Ytekmapilhomdgaa.P
