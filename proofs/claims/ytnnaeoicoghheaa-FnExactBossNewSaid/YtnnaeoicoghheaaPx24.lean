/- The contracts of Go functions of this seat: each call comes to what the Lean function of the same name says. -/
import Derived.Test.YtnnaeoicoghheaaPx0
import Derived.Test.YtnnaeoicoghheaaPx23
namespace Go.Proofs.Ytnnaeoicoghheaa.P
open Go.RowKit Go.Proofs.YtnnaeoicoghheaaW.PrintWords Go.Proofs.YtnnaeoicoghheaaW.PrintLast Go.Proofs.YtnnaeoicoghheaaW.PrintMore
attribute [local go_sem] max2_int min2_int max_two min_two max_three min_three max_four min_four   -- for this text's walks alone
set_option linter.unusedVariables false
set_option linter.unusedSimpArgs false

/-! ### laws_heldStateS: function 158 -/
def laws_heldStateS.l0 : Nat → List (S45) → Int → Int → Option (Int)
  | 0, _, _, _ => none
  | k + 1, x0, x1, x5 => if x5 < (x0.length : Int) then (if 0 ≤ x5 then (if (((rd_T45 x0 x5).f0) != ((Int.tmod x1 3) == 0)) = true then (some (-1)) else ((laws_heldSpanS.f k ((rd_T45 x0 x5).f1) (wrap64 (x1 + 1))).bind fun t174 => (if t174 < 0 then (some (-1)) else (if (((rd_T45 x0 x5).f2.f0) != ((Int.tmod t174 3) == 0)) = true then (some (-1)) else (if ((rd_T45 x0 x5).f2.f1) = (wrap64 (t174 + 1)) then (if ((rd_T45 x0 x5).f2.f2) = (wrap64 ((wrap64 (t174 + 1)) + 1)) then (laws_heldStateS.l0 k x0 (wrap64 ((wrap64 ((wrap64 (t174 + 1)) + 1)) + 1)) (wrap64 (x5 + 1))) else (some (-1))) else (some (-1))))))) else (none)) else (some x1)
def laws_heldStateS.f (k : Nat) (l0 : List (S45)) (a1 : Int) : Option (Int) := laws_heldStateS.l0 k l0 a1 0
theorem laws_heldStateS.mono_l : ∀ k, (∀ y0 y1 y2, LeO (laws_heldStateS.l0 k y0 y1 y2) (laws_heldStateS.l0 (k + 1) y0 y1 y2))
  | 0 => fun _ _ _ r h => by simp [laws_heldStateS.l0] at h
  | k + 1 => by
    have ih0 := laws_heldStateS.mono_l k
    · intro y0 y1 y2
      unfold laws_heldStateS.l0
      repeat' first
      | (with_reducible exact ih0 _ _ _)
      | (with_reducible exact laws_heldSpanS.mono _ _ _)
      | (with_reducible exact LeO.refl _)
      | (with_reducible exact LeO.none _)
      | (with_reducible refine LeO.ite ?_ ?_)
      | (with_reducible refine LeO.bind ?_ (fun _ => ?_))
      | exact ih0 _ _ _
      | exact laws_heldSpanS.mono _ _ _
      | exact LeO.none _
      | refine LeO.ite ?_ ?_
      | refine LeO.bind ?_ (fun _ => ?_)
theorem laws_heldStateS.mono : ∀ a0 a1 k, LeO (laws_heldStateS.f k a0 a1) (laws_heldStateS.f (k + 1) a0 a1) := by
  intro a0 a1 k
  have ih0 := laws_heldStateS.mono_l k
  unfold laws_heldStateS.f
  repeat' first
      | (with_reducible exact ih0 _ _ _)
      | (with_reducible exact laws_heldSpanS.mono _ _ _)
      | (with_reducible exact LeO.refl _)
      | (with_reducible exact LeO.none _)
      | (with_reducible refine LeO.ite ?_ ?_)
      | (with_reducible refine LeO.bind ?_ (fun _ => ?_))
      | exact ih0 _ _ _
      | exact laws_heldSpanS.mono _ _ _
      | exact LeO.none _
      | refine LeO.ite ?_ ?_
      | refine LeO.bind ?_ (fun _ => ?_)
set_option maxHeartbeats 8000000 in
set_option maxRecDepth 100000 in
theorem laws_heldStateS.calls (k : Nat) (A0 : Option Addr) (c0 : Nat) (l0 : List (S45)) (a1 : Int) (r : Int) (w : World) (hr0 : Kd.C k45 w A0 l0.length l0) (hc0 : l0.length ≤ c0) (h : laws_heldStateS.f k l0 a1 = some r) :
    Calls Try.prog 158 #[.slice A0 l0.length c0, .int .i64 a1] w fun e w' => e = .returned (.int .i64 r) ∧ Drawn0 w w' := by
  have HR0 := Aside0.mk hr0
  have HC0 := Aside0.mk hc0
  clear hr0 hc0
  unfold laws_heldStateS.f at h
  have H := h
  clear h
  have H' := Aside0.mk H
  clear H
  go_enter Try.func158, Try.ntmps158
  go_wp2
  go_loopg [1, 5] k (fun kq v1 v5 w' => ∃ (x1_1 : Int) (x5_1 : Int), v1 = .int .i64 x1_1 ∧ v5 = .int .i64 x5_1 ∧ Aside0 (laws_heldStateS.l0 kq l0 x1_1 x5_1 = some r) ∧ Aside0 (kq ≤ k) ∧ Drawn0 w w')
  case atStart => exact ⟨(a1), (0), (by first | rfl | (simp; done) | (simp [*]; done)), (by first | rfl | (simp; done) | (simp [*]; done)), H', ⟨Nat.le_refl _⟩, by repeat (first | exact Drawn0.refl _ | apply Drawn0.step)⟩
  case round =>
    clear H'
    try clear c1
    try clear p2
    obtain ⟨x1_1, x5_1, rfl, rfl, HA, HK1, ⟨m1, rfl⟩⟩ := hrel
    cases gk with
    | zero => exact absurd HA.out (by simp [laws_heldStateS.l0])
    | succ k1 =>
      have H := HA.out
      clear HA
      simp only [laws_heldStateS.l0] at H
      by_cases c3 : x5_1 < (l0.length : Int)
      · rw [if_pos c3] at H
        have c3b0 : decide (x5_1 < (l0.length : Int)) = true := decide_eq_true c3
        clear c3
        by_cases c4 : 0 ≤ x5_1
        · rw [if_pos c4] at H
          have c4b0 : decide (0 ≤ x5_1) = true := decide_eq_true c4
          clear c4
          by_cases c5 : (((rd_T45 l0 x5_1).f0) != ((Int.tmod x1_1 3) == 0)) = true
          · rw [if_pos c5] at H
            have c5b0 : (((rd_T45 l0 x5_1).f0) != ((Int.tmod x1_1 3) == 0)) = true := c5
            (try (have c5b1 : decide (((rd_T45 l0 x5_1).f0) = ((Int.tmod x1_1 3) == 0)) = false := by simpa using c5))
            (try (have c5b2 : (((rd_T45 l0 x5_1).f0) == ((Int.tmod x1_1 3) == 0)) = false := by simpa using c5))
            (try (have c5b3 : ¬ (((rd_T45 l0 x5_1).f0) = ((Int.tmod x1_1 3) == 0)) := by simpa using c5))
            clear c5
            obtain rfl := Option.some.inj H
            have p172 : 0 ≤ (x5_1 : Int) := of_decide_eq_true (by first | (with_reducible assumption) | assumption)
            have q172 : x5_1 < (l0.length : Int) := of_decide_eq_true (by first | (with_reducible assumption) | assumption)
            obtain ⟨ad172, A172_1, c172_1, e172, hx172_0, hx172_1, hx172_2, hx172_3, hx172_4, hl172_1, hi172_1⟩ := at_T45 HR0.out x5_1 p172 q172
            cases e172
            have HR172_1 := Aside0.mk hi172_1
            have HC172_1 := Aside0.mk hl172_1
            clear hi172_1 hl172_1
            replace p172 := eq_true p172
            replace q172 := eq_true q172
            go_wp2
            go_ret
            exact ⟨by first | rfl | (simp; done) | (simp [*]; done), by repeat (first | exact Drawn0.refl _ | apply Drawn0.step)⟩
          · rw [if_neg c5] at H
            have c5b0 : (((rd_T45 l0 x5_1).f0) != ((Int.tmod x1_1 3) == 0)) = false := by simpa using c5
            (try (have c5b1 : decide (((rd_T45 l0 x5_1).f0) = ((Int.tmod x1_1 3) == 0)) = true := by simpa using c5))
            (try (have c5b2 : (((rd_T45 l0 x5_1).f0) == ((Int.tmod x1_1 3) == 0)) = true := by simpa using c5))
            clear c5
            replace H := Option.bind_eq_some_iff.mp H
            obtain ⟨t174, A60, H⟩ := H
            try dsimp only at H
            have A6 := Aside0.mk A60
            clear A60
            by_cases c7 : t174 < 0
            · rw [if_pos c7] at H
              have c7b0 : decide (t174 < 0) = true := decide_eq_true c7
              clear c7
              obtain rfl := Option.some.inj H
              have p172 : 0 ≤ (x5_1 : Int) := of_decide_eq_true (by first | (with_reducible assumption) | assumption)
              have q172 : x5_1 < (l0.length : Int) := of_decide_eq_true (by first | (with_reducible assumption) | assumption)
              obtain ⟨ad172, A172_1, c172_1, e172, hx172_0, hx172_1, hx172_2, hx172_3, hx172_4, hl172_1, hi172_1⟩ := at_T45 HR0.out x5_1 p172 q172
              cases e172
              have HR172_1 := Aside0.mk hi172_1
              have HC172_1 := Aside0.mk hl172_1
              clear hi172_1 hl172_1
              replace p172 := eq_true p172
              replace q172 := eq_true q172
              have p173 : 0 ≤ (x5_1 : Int) := of_decide_eq_true (by first | (with_reducible assumption) | assumption)
              have q173 : x5_1 < (l0.length : Int) := of_decide_eq_true (by first | (with_reducible assumption) | assumption)
              obtain ⟨ad173, A173_1, c173_1, e173, hx173_0, hx173_1, hx173_2, hx173_3, hx173_4, hl173_1, hi173_1⟩ := at_T45 HR0.out x5_1 p173 q173
              obtain rfl : ad172 = ad173 := (by injection e173)
              have HR173_1 := Aside0.mk hi173_1
              have HC173_1 := Aside0.mk hl173_1
              clear hi173_1 hl173_1
              replace p173 := eq_true p173
              replace q173 := eq_true q173
              have ea_ := Option.some.inj (hx172_1.symm.trans hx173_1)
              injection ea_ with ea_ en_ ec_
              subst ea_
              subst ec_
              clear en_
              go_wp2_with (first | ((with_reducible refine gate_callee (f := 188) rfl ?_); refine goesL_ (some 29) rfl rfl Try.func188 (by kernel_rfl) rfl #[.slice A172_1 ((rd_T45 l0 x5_1).f1).length c172_1, .int .i64 (wrap64 (x1_1 + 1))] rfl (by (try simp only [List.map_toArray, List.map_cons, List.map_nil]); first | done | rfl | (simp only [List.length_drop, List.length_take]; rfl)) ?_; (with_reducible refine (laws_heldSpanS.calls k1 _ _ ((rd_T45 l0 x5_1).f1) (wrap64 (x1_1 + 1)) t174 _ ?side1 ?side2 A6.out).mono ?_); (case side1 => repeat (first | exact HR173_1.out | (with_reducible refine Kd.C_alloc ?_ _) | (with_reducible refine Kd.C_drewN ?_ _) | (with_reducible refine Kd.C_drew ?_))); (case side2 => exact HC173_1.out); rintro e w' ⟨rfl, ⟨nd, rfl⟩⟩; refine ⟨_, rfl, ?_⟩))
              go_ret
              exact ⟨by first | rfl | (simp; done) | (simp [*]; done), by repeat (first | exact Drawn0.refl _ | apply Drawn0.step)⟩
            · rw [if_neg c7] at H
              have c7b0 : decide (t174 < 0) = false := decide_eq_false c7
              clear c7
              by_cases c8 : (((rd_T45 l0 x5_1).f2.f0) != ((Int.tmod t174 3) == 0)) = true
              · rw [if_pos c8] at H
                have c8b0 : (((rd_T45 l0 x5_1).f2.f0) != ((Int.tmod t174 3) == 0)) = true := c8
                (try (have c8b1 : decide (((rd_T45 l0 x5_1).f2.f0) = ((Int.tmod t174 3) == 0)) = false := by simpa using c8))
                (try (have c8b2 : (((rd_T45 l0 x5_1).f2.f0) == ((Int.tmod t174 3) == 0)) = false := by simpa using c8))
                (try (have c8b3 : ¬ (((rd_T45 l0 x5_1).f2.f0) = ((Int.tmod t174 3) == 0)) := by simpa using c8))
                clear c8
                obtain rfl := Option.some.inj H
                have p172 : 0 ≤ (x5_1 : Int) := of_decide_eq_true (by first | (with_reducible assumption) | assumption)
                have q172 : x5_1 < (l0.length : Int) := of_decide_eq_true (by first | (with_reducible assumption) | assumption)
                obtain ⟨ad172, A172_1, c172_1, e172, hx172_0, hx172_1, hx172_2, hx172_3, hx172_4, hl172_1, hi172_1⟩ := at_T45 HR0.out x5_1 p172 q172
                cases e172
                have HR172_1 := Aside0.mk hi172_1
                have HC172_1 := Aside0.mk hl172_1
                clear hi172_1 hl172_1
                replace p172 := eq_true p172
                replace q172 := eq_true q172
                have p173 : 0 ≤ (x5_1 : Int) := of_decide_eq_true (by first | (with_reducible assumption) | assumption)
                have q173 : x5_1 < (l0.length : Int) := of_decide_eq_true (by first | (with_reducible assumption) | assumption)
                obtain ⟨ad173, A173_1, c173_1, e173, hx173_0, hx173_1, hx173_2, hx173_3, hx173_4, hl173_1, hi173_1⟩ := at_T45 HR0.out x5_1 p173 q173
                obtain rfl : ad172 = ad173 := (by injection e173)
                have HR173_1 := Aside0.mk hi173_1
                have HC173_1 := Aside0.mk hl173_1
                clear hi173_1 hl173_1
                replace p173 := eq_true p173
                replace q173 := eq_true q173
                have ea_ := Option.some.inj (hx172_1.symm.trans hx173_1)
                injection ea_ with ea_ en_ ec_
                subst ea_
                subst ec_
                clear en_
                go_wp2_with (first | ((with_reducible refine gate_callee (f := 188) rfl ?_); refine goesL_ (some 29) rfl rfl Try.func188 (by kernel_rfl) rfl #[.slice A172_1 ((rd_T45 l0 x5_1).f1).length c172_1, .int .i64 (wrap64 (x1_1 + 1))] rfl (by (try simp only [List.map_toArray, List.map_cons, List.map_nil]); first | done | rfl | (simp only [List.length_drop, List.length_take]; rfl)) ?_; (with_reducible refine (laws_heldSpanS.calls k1 _ _ ((rd_T45 l0 x5_1).f1) (wrap64 (x1_1 + 1)) t174 _ ?side1 ?side2 A6.out).mono ?_); (case side1 => repeat (first | exact HR173_1.out | (with_reducible refine Kd.C_alloc ?_ _) | (with_reducible refine Kd.C_drewN ?_ _) | (with_reducible refine Kd.C_drew ?_))); (case side2 => exact HC173_1.out); rintro e w' ⟨rfl, ⟨nd, rfl⟩⟩; refine ⟨_, rfl, ?_⟩; have p175 : 0 ≤ (x5_1 : Int) := of_decide_eq_true (by first | (with_reducible assumption) | assumption); have q175 : x5_1 < (l0.length : Int) := of_decide_eq_true (by first | (with_reducible assumption) | assumption); obtain ⟨ad175, A175_1, c175_1, e175, hx175_0, hx175_1, hx175_2, hx175_3, hx175_4, hl175_1, hi175_1⟩ := at_T45 HR0.out x5_1 p175 q175; obtain rfl : ad172 = ad175 := (by injection e175); have HR175_1 := Aside0.mk hi175_1; have HC175_1 := Aside0.mk hl175_1; clear hi175_1 hl175_1; replace p175 := eq_true p175; replace q175 := eq_true q175; have ea_ := Option.some.inj (hx172_1.symm.trans hx175_1); injection ea_ with ea_ en_ ec_; subst ea_; subst ec_; clear en_))
                go_ret
                exact ⟨by first | rfl | (simp; done) | (simp [*]; done), by repeat (first | exact Drawn0.refl _ | apply Drawn0.step)⟩
              · rw [if_neg c8] at H
                have c8b0 : (((rd_T45 l0 x5_1).f2.f0) != ((Int.tmod t174 3) == 0)) = false := by simpa using c8
                (try (have c8b1 : decide (((rd_T45 l0 x5_1).f2.f0) = ((Int.tmod t174 3) == 0)) = true := by simpa using c8))
                (try (have c8b2 : (((rd_T45 l0 x5_1).f2.f0) == ((Int.tmod t174 3) == 0)) = true := by simpa using c8))
                clear c8
                by_cases c9 : ((rd_T45 l0 x5_1).f2.f1) = (wrap64 (t174 + 1))
                · rw [if_pos c9] at H
                  have c9b0 : (((rd_T45 l0 x5_1).f2.f1) == (wrap64 (t174 + 1))) = true := beq_iff_eq.mpr c9
                  have c9b1 : (((rd_T45 l0 x5_1).f2.f1) != (wrap64 (t174 + 1))) = false := bne_eq_false_iff_eq.mpr c9
                  clear c9
                  by_cases c10 : ((rd_T45 l0 x5_1).f2.f2) = (wrap64 ((wrap64 (t174 + 1)) + 1))
                  · rw [if_pos c10] at H
                    have c10b0 : (((rd_T45 l0 x5_1).f2.f2) == (wrap64 ((wrap64 (t174 + 1)) + 1))) = true := beq_iff_eq.mpr c10
                    have c10b1 : (((rd_T45 l0 x5_1).f2.f2) != (wrap64 ((wrap64 (t174 + 1)) + 1))) = false := bne_eq_false_iff_eq.mpr c10
                    clear c10
                    have H' := Aside0.mk H
                    clear H
                    have p172 : 0 ≤ (x5_1 : Int) := of_decide_eq_true (by first | (with_reducible assumption) | assumption)
                    have q172 : x5_1 < (l0.length : Int) := of_decide_eq_true (by first | (with_reducible assumption) | assumption)
                    obtain ⟨ad172, A172_1, c172_1, e172, hx172_0, hx172_1, hx172_2, hx172_3, hx172_4, hl172_1, hi172_1⟩ := at_T45 HR0.out x5_1 p172 q172
                    cases e172
                    have HR172_1 := Aside0.mk hi172_1
                    have HC172_1 := Aside0.mk hl172_1
                    clear hi172_1 hl172_1
                    replace p172 := eq_true p172
                    replace q172 := eq_true q172
                    have p173 : 0 ≤ (x5_1 : Int) := of_decide_eq_true (by first | (with_reducible assumption) | assumption)
                    have q173 : x5_1 < (l0.length : Int) := of_decide_eq_true (by first | (with_reducible assumption) | assumption)
                    obtain ⟨ad173, A173_1, c173_1, e173, hx173_0, hx173_1, hx173_2, hx173_3, hx173_4, hl173_1, hi173_1⟩ := at_T45 HR0.out x5_1 p173 q173
                    obtain rfl : ad172 = ad173 := (by injection e173)
                    have HR173_1 := Aside0.mk hi173_1
                    have HC173_1 := Aside0.mk hl173_1
                    clear hi173_1 hl173_1
                    replace p173 := eq_true p173
                    replace q173 := eq_true q173
                    have ea_ := Option.some.inj (hx172_1.symm.trans hx173_1)
                    injection ea_ with ea_ en_ ec_
                    subst ea_
                    subst ec_
                    clear en_
                    go_wp2_with (first | ((with_reducible refine gate_callee (f := 188) rfl ?_); refine goesL_ (some 29) rfl rfl Try.func188 (by kernel_rfl) rfl #[.slice A172_1 ((rd_T45 l0 x5_1).f1).length c172_1, .int .i64 (wrap64 (x1_1 + 1))] rfl (by (try simp only [List.map_toArray, List.map_cons, List.map_nil]); first | done | rfl | (simp only [List.length_drop, List.length_take]; rfl)) ?_; (with_reducible refine (laws_heldSpanS.calls k1 _ _ ((rd_T45 l0 x5_1).f1) (wrap64 (x1_1 + 1)) t174 _ ?side1 ?side2 A6.out).mono ?_); (case side1 => repeat (first | exact HR173_1.out | (with_reducible refine Kd.C_alloc ?_ _) | (with_reducible refine Kd.C_drewN ?_ _) | (with_reducible refine Kd.C_drew ?_))); (case side2 => exact HC173_1.out); rintro e w' ⟨rfl, ⟨nd, rfl⟩⟩; refine ⟨_, rfl, ?_⟩; have p175 : 0 ≤ (x5_1 : Int) := of_decide_eq_true (by first | (with_reducible assumption) | assumption); have q175 : x5_1 < (l0.length : Int) := of_decide_eq_true (by first | (with_reducible assumption) | assumption); obtain ⟨ad175, A175_1, c175_1, e175, hx175_0, hx175_1, hx175_2, hx175_3, hx175_4, hl175_1, hi175_1⟩ := at_T45 HR0.out x5_1 p175 q175; obtain rfl : ad172 = ad175 := (by injection e175); have HR175_1 := Aside0.mk hi175_1; have HC175_1 := Aside0.mk hl175_1; clear hi175_1 hl175_1; replace p175 := eq_true p175; replace q175 := eq_true q175; have ea_ := Option.some.inj (hx172_1.symm.trans hx175_1); injection ea_ with ea_ en_ ec_; subst ea_; subst ec_; clear en_; have p176 : 0 ≤ (x5_1 : Int) := of_decide_eq_true (by first | (with_reducible assumption) | assumption); have q176 : x5_1 < (l0.length : Int) := of_decide_eq_true (by first | (with_reducible assumption) | assumption); obtain ⟨ad176, A176_1, c176_1, e176, hx176_0, hx176_1, hx176_2, hx176_3, hx176_4, hl176_1, hi176_1⟩ := at_T45 HR0.out x5_1 p176 q176; obtain rfl : ad172 = ad176 := (by injection e176); have HR176_1 := Aside0.mk hi176_1; have HC176_1 := Aside0.mk hl176_1; clear hi176_1 hl176_1; replace p176 := eq_true p176; replace q176 := eq_true q176; have ea_ := Option.some.inj (hx172_1.symm.trans hx176_1); injection ea_ with ea_ en_ ec_; subst ea_; subst ec_; clear en_; have p177 : 0 ≤ (x5_1 : Int) := of_decide_eq_true (by first | (with_reducible assumption) | assumption); have q177 : x5_1 < (l0.length : Int) := of_decide_eq_true (by first | (with_reducible assumption) | assumption); obtain ⟨ad177, A177_1, c177_1, e177, hx177_0, hx177_1, hx177_2, hx177_3, hx177_4, hl177_1, hi177_1⟩ := at_T45 HR0.out x5_1 p177 q177; obtain rfl : ad172 = ad177 := (by injection e177); have HR177_1 := Aside0.mk hi177_1; have HC177_1 := Aside0.mk hl177_1; clear hi177_1 hl177_1; replace p177 := eq_true p177; replace q177 := eq_true q177; have ea_ := Option.some.inj (hx172_1.symm.trans hx177_1); injection ea_ with ea_ en_ ec_; subst ea_; subst ec_; clear en_))
                    go_roundg k1
                    case measure => have := HK1.out; omega
                    case rel => exact ⟨(wrap64 ((wrap64 ((wrap64 (t174 + 1)) + 1)) + 1)), (wrap64 (x5_1 + 1)), (by first | rfl | (simp; done) | (simp [*]; done)), (by first | rfl | (simp; done) | (simp [*]; done)), H', ⟨by have := HK1.out; omega⟩, by repeat (first | exact Drawn0.refl _ | apply Drawn0.step)⟩
                  · rw [if_neg c10] at H
                    have c10b0 : (((rd_T45 l0 x5_1).f2.f2) == (wrap64 ((wrap64 (t174 + 1)) + 1))) = false := beq_eq_false_iff_ne.mpr c10
                    have c10b1 : (((rd_T45 l0 x5_1).f2.f2) != (wrap64 ((wrap64 (t174 + 1)) + 1))) = true := bne_iff_ne.mpr c10
                    obtain rfl := Option.some.inj H
                    have p172 : 0 ≤ (x5_1 : Int) := of_decide_eq_true (by first | (with_reducible assumption) | assumption)
                    have q172 : x5_1 < (l0.length : Int) := of_decide_eq_true (by first | (with_reducible assumption) | assumption)
                    obtain ⟨ad172, A172_1, c172_1, e172, hx172_0, hx172_1, hx172_2, hx172_3, hx172_4, hl172_1, hi172_1⟩ := at_T45 HR0.out x5_1 p172 q172
                    cases e172
                    have HR172_1 := Aside0.mk hi172_1
                    have HC172_1 := Aside0.mk hl172_1
                    clear hi172_1 hl172_1
                    replace p172 := eq_true p172
                    replace q172 := eq_true q172
                    have p173 : 0 ≤ (x5_1 : Int) := of_decide_eq_true (by first | (with_reducible assumption) | assumption)
                    have q173 : x5_1 < (l0.length : Int) := of_decide_eq_true (by first | (with_reducible assumption) | assumption)
                    obtain ⟨ad173, A173_1, c173_1, e173, hx173_0, hx173_1, hx173_2, hx173_3, hx173_4, hl173_1, hi173_1⟩ := at_T45 HR0.out x5_1 p173 q173
                    obtain rfl : ad172 = ad173 := (by injection e173)
                    have HR173_1 := Aside0.mk hi173_1
                    have HC173_1 := Aside0.mk hl173_1
                    clear hi173_1 hl173_1
                    replace p173 := eq_true p173
                    replace q173 := eq_true q173
                    have ea_ := Option.some.inj (hx172_1.symm.trans hx173_1)
                    injection ea_ with ea_ en_ ec_
                    subst ea_
                    subst ec_
                    clear en_
                    go_wp2_with (first | ((with_reducible refine gate_callee (f := 188) rfl ?_); refine goesL_ (some 29) rfl rfl Try.func188 (by kernel_rfl) rfl #[.slice A172_1 ((rd_T45 l0 x5_1).f1).length c172_1, .int .i64 (wrap64 (x1_1 + 1))] rfl (by (try simp only [List.map_toArray, List.map_cons, List.map_nil]); first | done | rfl | (simp only [List.length_drop, List.length_take]; rfl)) ?_; (with_reducible refine (laws_heldSpanS.calls k1 _ _ ((rd_T45 l0 x5_1).f1) (wrap64 (x1_1 + 1)) t174 _ ?side1 ?side2 A6.out).mono ?_); (case side1 => repeat (first | exact HR173_1.out | (with_reducible refine Kd.C_alloc ?_ _) | (with_reducible refine Kd.C_drewN ?_ _) | (with_reducible refine Kd.C_drew ?_))); (case side2 => exact HC173_1.out); rintro e w' ⟨rfl, ⟨nd, rfl⟩⟩; refine ⟨_, rfl, ?_⟩; have p175 : 0 ≤ (x5_1 : Int) := of_decide_eq_true (by first | (with_reducible assumption) | assumption); have q175 : x5_1 < (l0.length : Int) := of_decide_eq_true (by first | (with_reducible assumption) | assumption); obtain ⟨ad175, A175_1, c175_1, e175, hx175_0, hx175_1, hx175_2, hx175_3, hx175_4, hl175_1, hi175_1⟩ := at_T45 HR0.out x5_1 p175 q175; obtain rfl : ad172 = ad175 := (by injection e175); have HR175_1 := Aside0.mk hi175_1; have HC175_1 := Aside0.mk hl175_1; clear hi175_1 hl175_1; replace p175 := eq_true p175; replace q175 := eq_true q175; have ea_ := Option.some.inj (hx172_1.symm.trans hx175_1); injection ea_ with ea_ en_ ec_; subst ea_; subst ec_; clear en_; have p176 : 0 ≤ (x5_1 : Int) := of_decide_eq_true (by first | (with_reducible assumption) | assumption); have q176 : x5_1 < (l0.length : Int) := of_decide_eq_true (by first | (with_reducible assumption) | assumption); obtain ⟨ad176, A176_1, c176_1, e176, hx176_0, hx176_1, hx176_2, hx176_3, hx176_4, hl176_1, hi176_1⟩ := at_T45 HR0.out x5_1 p176 q176; obtain rfl : ad172 = ad176 := (by injection e176); have HR176_1 := Aside0.mk hi176_1; have HC176_1 := Aside0.mk hl176_1; clear hi176_1 hl176_1; replace p176 := eq_true p176; replace q176 := eq_true q176; have ea_ := Option.some.inj (hx172_1.symm.trans hx176_1); injection ea_ with ea_ en_ ec_; subst ea_; subst ec_; clear en_; have p177 : 0 ≤ (x5_1 : Int) := of_decide_eq_true (by first | (with_reducible assumption) | assumption); have q177 : x5_1 < (l0.length : Int) := of_decide_eq_true (by first | (with_reducible assumption) | assumption); obtain ⟨ad177, A177_1, c177_1, e177, hx177_0, hx177_1, hx177_2, hx177_3, hx177_4, hl177_1, hi177_1⟩ := at_T45 HR0.out x5_1 p177 q177; obtain rfl : ad172 = ad177 := (by injection e177); have HR177_1 := Aside0.mk hi177_1; have HC177_1 := Aside0.mk hl177_1; clear hi177_1 hl177_1; replace p177 := eq_true p177; replace q177 := eq_true q177; have ea_ := Option.some.inj (hx172_1.symm.trans hx177_1); injection ea_ with ea_ en_ ec_; subst ea_; subst ec_; clear en_))
                    go_ret
                    exact ⟨by first | rfl | (simp; done) | (simp [*]; done), by repeat (first | exact Drawn0.refl _ | apply Drawn0.step)⟩
                · rw [if_neg c9] at H
                  have c9b0 : (((rd_T45 l0 x5_1).f2.f1) == (wrap64 (t174 + 1))) = false := beq_eq_false_iff_ne.mpr c9
                  have c9b1 : (((rd_T45 l0 x5_1).f2.f1) != (wrap64 (t174 + 1))) = true := bne_iff_ne.mpr c9
                  obtain rfl := Option.some.inj H
                  have p172 : 0 ≤ (x5_1 : Int) := of_decide_eq_true (by first | (with_reducible assumption) | assumption)
                  have q172 : x5_1 < (l0.length : Int) := of_decide_eq_true (by first | (with_reducible assumption) | assumption)
                  obtain ⟨ad172, A172_1, c172_1, e172, hx172_0, hx172_1, hx172_2, hx172_3, hx172_4, hl172_1, hi172_1⟩ := at_T45 HR0.out x5_1 p172 q172
                  cases e172
                  have HR172_1 := Aside0.mk hi172_1
                  have HC172_1 := Aside0.mk hl172_1
                  clear hi172_1 hl172_1
                  replace p172 := eq_true p172
                  replace q172 := eq_true q172
                  have p173 : 0 ≤ (x5_1 : Int) := of_decide_eq_true (by first | (with_reducible assumption) | assumption)
                  have q173 : x5_1 < (l0.length : Int) := of_decide_eq_true (by first | (with_reducible assumption) | assumption)
                  obtain ⟨ad173, A173_1, c173_1, e173, hx173_0, hx173_1, hx173_2, hx173_3, hx173_4, hl173_1, hi173_1⟩ := at_T45 HR0.out x5_1 p173 q173
                  obtain rfl : ad172 = ad173 := (by injection e173)
                  have HR173_1 := Aside0.mk hi173_1
                  have HC173_1 := Aside0.mk hl173_1
                  clear hi173_1 hl173_1
                  replace p173 := eq_true p173
                  replace q173 := eq_true q173
                  have ea_ := Option.some.inj (hx172_1.symm.trans hx173_1)
                  injection ea_ with ea_ en_ ec_
                  subst ea_
                  subst ec_
                  clear en_
                  go_wp2_with (first | ((with_reducible refine gate_callee (f := 188) rfl ?_); refine goesL_ (some 29) rfl rfl Try.func188 (by kernel_rfl) rfl #[.slice A172_1 ((rd_T45 l0 x5_1).f1).length c172_1, .int .i64 (wrap64 (x1_1 + 1))] rfl (by (try simp only [List.map_toArray, List.map_cons, List.map_nil]); first | done | rfl | (simp only [List.length_drop, List.length_take]; rfl)) ?_; (with_reducible refine (laws_heldSpanS.calls k1 _ _ ((rd_T45 l0 x5_1).f1) (wrap64 (x1_1 + 1)) t174 _ ?side1 ?side2 A6.out).mono ?_); (case side1 => repeat (first | exact HR173_1.out | (with_reducible refine Kd.C_alloc ?_ _) | (with_reducible refine Kd.C_drewN ?_ _) | (with_reducible refine Kd.C_drew ?_))); (case side2 => exact HC173_1.out); rintro e w' ⟨rfl, ⟨nd, rfl⟩⟩; refine ⟨_, rfl, ?_⟩; have p175 : 0 ≤ (x5_1 : Int) := of_decide_eq_true (by first | (with_reducible assumption) | assumption); have q175 : x5_1 < (l0.length : Int) := of_decide_eq_true (by first | (with_reducible assumption) | assumption); obtain ⟨ad175, A175_1, c175_1, e175, hx175_0, hx175_1, hx175_2, hx175_3, hx175_4, hl175_1, hi175_1⟩ := at_T45 HR0.out x5_1 p175 q175; obtain rfl : ad172 = ad175 := (by injection e175); have HR175_1 := Aside0.mk hi175_1; have HC175_1 := Aside0.mk hl175_1; clear hi175_1 hl175_1; replace p175 := eq_true p175; replace q175 := eq_true q175; have ea_ := Option.some.inj (hx172_1.symm.trans hx175_1); injection ea_ with ea_ en_ ec_; subst ea_; subst ec_; clear en_; have p176 : 0 ≤ (x5_1 : Int) := of_decide_eq_true (by first | (with_reducible assumption) | assumption); have q176 : x5_1 < (l0.length : Int) := of_decide_eq_true (by first | (with_reducible assumption) | assumption); obtain ⟨ad176, A176_1, c176_1, e176, hx176_0, hx176_1, hx176_2, hx176_3, hx176_4, hl176_1, hi176_1⟩ := at_T45 HR0.out x5_1 p176 q176; obtain rfl : ad172 = ad176 := (by injection e176); have HR176_1 := Aside0.mk hi176_1; have HC176_1 := Aside0.mk hl176_1; clear hi176_1 hl176_1; replace p176 := eq_true p176; replace q176 := eq_true q176; have ea_ := Option.some.inj (hx172_1.symm.trans hx176_1); injection ea_ with ea_ en_ ec_; subst ea_; subst ec_; clear en_))
                  go_ret
                  exact ⟨by first | rfl | (simp; done) | (simp [*]; done), by repeat (first | exact Drawn0.refl _ | apply Drawn0.step)⟩
        · rw [if_neg c4] at H
          exact absurd H (by simp)
      · rw [if_neg c3] at H
        have c3b0 : decide (x5_1 < (l0.length : Int)) = false := decide_eq_false c3
        clear c3
        obtain rfl := Option.some.inj H
        go_wp2
        go_ret
        exact ⟨by first | rfl | (simp; done) | (simp [*]; done), by repeat (first | exact Drawn0.refl _ | apply Drawn0.step)⟩

end Go.Proofs.Ytnnaeoicoghheaa.P
