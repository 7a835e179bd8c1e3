/- The contracts of Go functions of this seat: each call comes to what the Lean function of the same name says. -/
import Derived.Test.YtnnaeoicoghheaaPx0
import Derived.Test.YtnnaeoicoghheaaPx22
import Derived.Test.YtnnaeoicoghheaaPx24
import Derived.Test.YtnnaeoicoghheaaPx25
namespace Go.Proofs.Ytnnaeoicoghheaa.P
open Go.RowKit Go.Proofs.YtnnaeoicoghheaaW.PrintWords Go.Proofs.YtnnaeoicoghheaaW.PrintLast Go.Proofs.YtnnaeoicoghheaaW.PrintMore
attribute [local go_sem] max2_int min2_int max_two min_two max_three min_three max_four min_four   -- for this text's walks alone
set_option linter.unusedVariables false
set_option linter.unusedSimpArgs false

/-! ### laws_heldCertS: function 117 -/
def laws_heldCertS.l0 : Nat → List (S202) → Int → Int → Option (Int)
  | 0, _, _, _ => none
  | k + 1, x0, x1, x5 => if x5 < (x0.length : Int) then (if 0 ≤ x5 then (if ((rd_T202 x0 x5).f0) = x1 then (if ((rd_T202 x0 x5).f1) = (wrap64 (x1 + 1)) then ((laws_heldStateS.f k ((rd_T202 x0 x5).f2) (wrap64 ((wrap64 (x1 + 1)) + 1))).bind fun t183 => (if t183 < 0 then (some (-1)) else (if (((rd_T202 x0 x5).f3.f0.f0) != ((Int.tmod t183 3) == 0)) = true then (some (-1)) else (if ((rd_T202 x0 x5).f3.f0.f1) = (wrap64 (t183 + 1)) then (if ((rd_T202 x0 x5).f3.f0.f2) = (wrap64 ((wrap64 (t183 + 1)) + 1)) then ((laws_heldSiteS.f k ((rd_T202 x0 x5).f3.f1) (wrap64 ((wrap64 ((wrap64 (t183 + 1)) + 1)) + 1))).bind fun t188 => (if t188 < 0 then (some (-1)) else ((laws_heldCallS.f k ((rd_T202 x0 x5).f3.f2) t188).bind fun t190 => (if t190 < 0 then (some (-1)) else (laws_heldCertS.l0 k x0 t190 (wrap64 (x5 + 1))))))) else (some (-1))) else (some (-1)))))) else (some (-1))) else (some (-1))) else (none)) else (some x1)
def laws_heldCertS.f (k : Nat) (l0 : List (S202)) (a1 : Int) : Option (Int) := laws_heldCertS.l0 k l0 a1 0
theorem laws_heldCertS.mono_l : ∀ k, (∀ y0 y1 y2, LeO (laws_heldCertS.l0 k y0 y1 y2) (laws_heldCertS.l0 (k + 1) y0 y1 y2))
  | 0 => fun _ _ _ r h => by simp [laws_heldCertS.l0] at h
  | k + 1 => by
    have ih0 := laws_heldCertS.mono_l k
    · intro y0 y1 y2
      unfold laws_heldCertS.l0
      repeat' first
      | (with_reducible exact ih0 _ _ _)
      | (with_reducible exact laws_heldCallS.mono _ _ _)
      | (with_reducible exact laws_heldSiteS.mono _ _ _)
      | (with_reducible exact laws_heldStateS.mono _ _ _)
      | (with_reducible exact LeO.refl _)
      | (with_reducible exact LeO.none _)
      | (with_reducible refine LeO.ite ?_ ?_)
      | (with_reducible refine LeO.bind ?_ (fun _ => ?_))
      | exact ih0 _ _ _
      | exact laws_heldCallS.mono _ _ _
      | exact laws_heldSiteS.mono _ _ _
      | exact laws_heldStateS.mono _ _ _
      | exact LeO.none _
      | refine LeO.ite ?_ ?_
      | refine LeO.bind ?_ (fun _ => ?_)
theorem laws_heldCertS.mono : ∀ a0 a1 k, LeO (laws_heldCertS.f k a0 a1) (laws_heldCertS.f (k + 1) a0 a1) := by
  intro a0 a1 k
  have ih0 := laws_heldCertS.mono_l k
  unfold laws_heldCertS.f
  repeat' first
      | (with_reducible exact ih0 _ _ _)
      | (with_reducible exact laws_heldCallS.mono _ _ _)
      | (with_reducible exact laws_heldSiteS.mono _ _ _)
      | (with_reducible exact laws_heldStateS.mono _ _ _)
      | (with_reducible exact LeO.refl _)
      | (with_reducible exact LeO.none _)
      | (with_reducible refine LeO.ite ?_ ?_)
      | (with_reducible refine LeO.bind ?_ (fun _ => ?_))
      | exact ih0 _ _ _
      | exact laws_heldCallS.mono _ _ _
      | exact laws_heldSiteS.mono _ _ _
      | exact laws_heldStateS.mono _ _ _
      | exact LeO.none _
      | refine LeO.ite ?_ ?_
      | refine LeO.bind ?_ (fun _ => ?_)
set_option maxHeartbeats 8000000 in
set_option maxRecDepth 100000 in
theorem laws_heldCertS.calls (k : Nat) (A0 : Option Addr) (c0 : Nat) (l0 : List (S202)) (a1 : Int) (r : Int) (w : World) (hr0 : Kd.C k202 w A0 l0.length l0) (hc0 : l0.length ≤ c0) (h : laws_heldCertS.f k l0 a1 = some r) :
    Calls Try.prog 117 #[.slice A0 l0.length c0, .int .i64 a1] w fun e w' => e = .returned (.int .i64 r) ∧ Drawn0 w w' := by
  have HR0 := Aside0.mk hr0
  have HC0 := Aside0.mk hc0
  clear hr0 hc0
  unfold laws_heldCertS.f at h
  have H := h
  clear h
  have H' := Aside0.mk H
  clear H
  go_enter Try.func117, Try.ntmps117
  go_wp2
  go_loopg [1, 5] k (fun kq v1 v5 w' => ∃ (x1_1 : Int) (x5_1 : Int), v1 = .int .i64 x1_1 ∧ v5 = .int .i64 x5_1 ∧ Aside0 (laws_heldCertS.l0 kq l0 x1_1 x5_1 = some r) ∧ Aside0 (kq ≤ k) ∧ Drawn0 w w')
  case atStart => exact ⟨(a1), (0), (by first | rfl | (simp; done) | (simp [*]; done)), (by first | rfl | (simp; done) | (simp [*]; done)), H', ⟨Nat.le_refl _⟩, by repeat (first | exact Drawn0.refl _ | apply Drawn0.step)⟩
  case round =>
    clear H'
    try clear c1
    try clear p2
    obtain ⟨x1_1, x5_1, rfl, rfl, HA, HK1, ⟨m1, rfl⟩⟩ := hrel
    cases gk with
    | zero => exact absurd HA.out (by simp [laws_heldCertS.l0])
    | succ k1 =>
      have H := HA.out
      clear HA
      simp only [laws_heldCertS.l0] at H
      by_cases c3 : x5_1 < (l0.length : Int)
      · rw [if_pos c3] at H
        have c3b0 : decide (x5_1 < (l0.length : Int)) = true := decide_eq_true c3
        clear c3
        by_cases c4 : 0 ≤ x5_1
        · rw [if_pos c4] at H
          have c4b0 : decide (0 ≤ x5_1) = true := decide_eq_true c4
          clear c4
          by_cases c5 : ((rd_T202 l0 x5_1).f0) = x1_1
          · rw [if_pos c5] at H
            have c5b0 : (((rd_T202 l0 x5_1).f0) == x1_1) = true := beq_iff_eq.mpr c5
            have c5b1 : (((rd_T202 l0 x5_1).f0) != x1_1) = false := bne_eq_false_iff_eq.mpr c5
            clear c5
            by_cases c6 : ((rd_T202 l0 x5_1).f1) = (wrap64 (x1_1 + 1))
            · rw [if_pos c6] at H
              have c6b0 : (((rd_T202 l0 x5_1).f1) == (wrap64 (x1_1 + 1))) = true := beq_iff_eq.mpr c6
              have c6b1 : (((rd_T202 l0 x5_1).f1) != (wrap64 (x1_1 + 1))) = false := bne_eq_false_iff_eq.mpr c6
              clear c6
              replace H := Option.bind_eq_some_iff.mp H
              obtain ⟨t183, A70, H⟩ := H
              try dsimp only at H
              have A7 := Aside0.mk A70
              clear A70
              by_cases c8 : t183 < 0
              · rw [if_pos c8] at H
                have c8b0 : decide (t183 < 0) = true := decide_eq_true c8
                clear c8
                obtain rfl := Option.some.inj H
                have p180 : 0 ≤ (x5_1 : Int) := of_decide_eq_true (by first | (with_reducible assumption) | assumption)
                have q180 : x5_1 < (l0.length : Int) := of_decide_eq_true (by first | (with_reducible assumption) | assumption)
                obtain ⟨ad180, A180_2, c180_2, A180_6, c180_6, A180_7, c180_7, e180, hx180_0, hx180_1, hx180_2, hx180_3, hx180_4, hx180_5, hx180_6, hx180_7, hl180_2, hi180_2, hl180_6, hi180_6, hl180_7, hi180_7⟩ := at_T202 HR0.out x5_1 p180 q180
                cases e180
                have HR180_2 := Aside0.mk hi180_2
                have HC180_2 := Aside0.mk hl180_2
                clear hi180_2 hl180_2
                have HR180_6 := Aside0.mk hi180_6
                have HC180_6 := Aside0.mk hl180_6
                clear hi180_6 hl180_6
                have HR180_7 := Aside0.mk hi180_7
                have HC180_7 := Aside0.mk hl180_7
                clear hi180_7 hl180_7
                replace p180 := eq_true p180
                replace q180 := eq_true q180
                have p181 : 0 ≤ (x5_1 : Int) := of_decide_eq_true (by first | (with_reducible assumption) | assumption)
                have q181 : x5_1 < (l0.length : Int) := of_decide_eq_true (by first | (with_reducible assumption) | assumption)
                obtain ⟨ad181, A181_2, c181_2, A181_6, c181_6, A181_7, c181_7, e181, hx181_0, hx181_1, hx181_2, hx181_3, hx181_4, hx181_5, hx181_6, hx181_7, hl181_2, hi181_2, hl181_6, hi181_6, hl181_7, hi181_7⟩ := at_T202 HR0.out x5_1 p181 q181
                obtain rfl : ad180 = ad181 := (by injection e181)
                have HR181_2 := Aside0.mk hi181_2
                have HC181_2 := Aside0.mk hl181_2
                clear hi181_2 hl181_2
                have HR181_6 := Aside0.mk hi181_6
                have HC181_6 := Aside0.mk hl181_6
                clear hi181_6 hl181_6
                have HR181_7 := Aside0.mk hi181_7
                have HC181_7 := Aside0.mk hl181_7
                clear hi181_7 hl181_7
                replace p181 := eq_true p181
                replace q181 := eq_true q181
                have ea_ := Option.some.inj (hx180_2.symm.trans hx181_2)
                injection ea_ with ea_ en_ ec_
                subst ea_
                subst ec_
                clear en_
                have ea_ := Option.some.inj (hx180_6.symm.trans hx181_6)
                injection ea_ with ea_ en_ ec_
                subst ea_
                subst ec_
                clear en_
                have ea_ := Option.some.inj (hx180_7.symm.trans hx181_7)
                injection ea_ with ea_ en_ ec_
                subst ea_
                subst ec_
                clear en_
                have p182 : 0 ≤ (x5_1 : Int) := of_decide_eq_true (by first | (with_reducible assumption) | assumption)
                have q182 : x5_1 < (l0.length : Int) := of_decide_eq_true (by first | (with_reducible assumption) | assumption)
                obtain ⟨ad182, A182_2, c182_2, A182_6, c182_6, A182_7, c182_7, e182, hx182_0, hx182_1, hx182_2, hx182_3, hx182_4, hx182_5, hx182_6, hx182_7, hl182_2, hi182_2, hl182_6, hi182_6, hl182_7, hi182_7⟩ := at_T202 HR0.out x5_1 p182 q182
                obtain rfl : ad180 = ad182 := (by injection e182)
                have HR182_2 := Aside0.mk hi182_2
                have HC182_2 := Aside0.mk hl182_2
                clear hi182_2 hl182_2
                have HR182_6 := Aside0.mk hi182_6
                have HC182_6 := Aside0.mk hl182_6
                clear hi182_6 hl182_6
                have HR182_7 := Aside0.mk hi182_7
                have HC182_7 := Aside0.mk hl182_7
                clear hi182_7 hl182_7
                replace p182 := eq_true p182
                replace q182 := eq_true q182
                have ea_ := Option.some.inj (hx180_2.symm.trans hx182_2)
                injection ea_ with ea_ en_ ec_
                subst ea_
                subst ec_
                clear en_
                have ea_ := Option.some.inj (hx180_6.symm.trans hx182_6)
                injection ea_ with ea_ en_ ec_
                subst ea_
                subst ec_
                clear en_
                have ea_ := Option.some.inj (hx180_7.symm.trans hx182_7)
                injection ea_ with ea_ en_ ec_
                subst ea_
                subst ec_
                clear en_
                go_wp2_with (first | ((with_reducible refine gate_callee (f := 158) rfl ?_); refine goesL_ (some 36) rfl rfl Try.func158 (by kernel_rfl) rfl #[.slice A180_2 ((rd_T202 l0 x5_1).f2).length c180_2, .int .i64 (wrap64 ((wrap64 (x1_1 + 1)) + 1))] rfl (by (try simp only [List.map_toArray, List.map_cons, List.map_nil]); first | done | rfl | (simp only [List.length_drop, List.length_take]; rfl)) ?_; (with_reducible refine (laws_heldStateS.calls k1 _ _ ((rd_T202 l0 x5_1).f2) (wrap64 ((wrap64 (x1_1 + 1)) + 1)) t183 _ ?side1 ?side2 A7.out).mono ?_); (case side1 => repeat (first | exact HR182_2.out | (with_reducible refine Kd.C_alloc ?_ _) | (with_reducible refine Kd.C_drewN ?_ _) | (with_reducible refine Kd.C_drew ?_))); (case side2 => exact HC182_2.out); rintro e w' ⟨rfl, ⟨nd, rfl⟩⟩; refine ⟨_, rfl, ?_⟩))
                go_ret
                exact ⟨by first | rfl | (simp; done) | (simp [*]; done), by repeat (first | exact Drawn0.refl _ | apply Drawn0.step)⟩
              · rw [if_neg c8] at H
                have c8b0 : decide (t183 < 0) = false := decide_eq_false c8
                clear c8
                by_cases c9 : (((rd_T202 l0 x5_1).f3.f0.f0) != ((Int.tmod t183 3) == 0)) = true
                · rw [if_pos c9] at H
                  have c9b0 : (((rd_T202 l0 x5_1).f3.f0.f0) != ((Int.tmod t183 3) == 0)) = true := c9
                  (try (have c9b1 : decide (((rd_T202 l0 x5_1).f3.f0.f0) = ((Int.tmod t183 3) == 0)) = false := by simpa using c9))
                  (try (have c9b2 : (((rd_T202 l0 x5_1).f3.f0.f0) == ((Int.tmod t183 3) == 0)) = false := by simpa using c9))
                  (try (have c9b3 : ¬ (((rd_T202 l0 x5_1).f3.f0.f0) = ((Int.tmod t183 3) == 0)) := by simpa using c9))
                  clear c9
                  obtain rfl := Option.some.inj H
                  have p180 : 0 ≤ (x5_1 : Int) := of_decide_eq_true (by first | (with_reducible assumption) | assumption)
                  have q180 : x5_1 < (l0.length : Int) := of_decide_eq_true (by first | (with_reducible assumption) | assumption)
                  obtain ⟨ad180, A180_2, c180_2, A180_6, c180_6, A180_7, c180_7, e180, hx180_0, hx180_1, hx180_2, hx180_3, hx180_4, hx180_5, hx180_6, hx180_7, hl180_2, hi180_2, hl180_6, hi180_6, hl180_7, hi180_7⟩ := at_T202 HR0.out x5_1 p180 q180
                  cases e180
                  have HR180_2 := Aside0.mk hi180_2
                  have HC180_2 := Aside0.mk hl180_2
                  clear hi180_2 hl180_2
                  have HR180_6 := Aside0.mk hi180_6
                  have HC180_6 := Aside0.mk hl180_6
                  clear hi180_6 hl180_6
                  have HR180_7 := Aside0.mk hi180_7
                  have HC180_7 := Aside0.mk hl180_7
                  clear hi180_7 hl180_7
                  replace p180 := eq_true p180
                  replace q180 := eq_true q180
                  have p181 : 0 ≤ (x5_1 : Int) := of_decide_eq_true (by first | (with_reducible assumption) | assumption)
                  have q181 : x5_1 < (l0.length : Int) := of_decide_eq_true (by first | (with_reducible assumption) | assumption)
                  obtain ⟨ad181, A181_2, c181_2, A181_6, c181_6, A181_7, c181_7, e181, hx181_0, hx181_1, hx181_2, hx181_3, hx181_4, hx181_5, hx181_6, hx181_7, hl181_2, hi181_2, hl181_6, hi181_6, hl181_7, hi181_7⟩ := at_T202 HR0.out x5_1 p181 q181
                  obtain rfl : ad180 = ad181 := (by injection e181)
                  have HR181_2 := Aside0.mk hi181_2
                  have HC181_2 := Aside0.mk hl181_2
                  clear hi181_2 hl181_2
                  have HR181_6 := Aside0.mk hi181_6
                  have HC181_6 := Aside0.mk hl181_6
                  clear hi181_6 hl181_6
                  have HR181_7 := Aside0.mk hi181_7
                  have HC181_7 := Aside0.mk hl181_7
                  clear hi181_7 hl181_7
                  replace p181 := eq_true p181
                  replace q181 := eq_true q181
                  have ea_ := Option.some.inj (hx180_2.symm.trans hx181_2)
                  injection ea_ with ea_ en_ ec_
                  subst ea_
                  subst ec_
                  clear en_
                  have ea_ := Option.some.inj (hx180_6.symm.trans hx181_6)
                  injection ea_ with ea_ en_ ec_
                  subst ea_
                  subst ec_
                  clear en_
                  have ea_ := Option.some.inj (hx180_7.symm.trans hx181_7)
                  injection ea_ with ea_ en_ ec_
                  subst ea_
                  subst ec_
                  clear en_
                  have p182 : 0 ≤ (x5_1 : Int) := of_decide_eq_true (by first | (with_reducible assumption) | assumption)
                  have q182 : x5_1 < (l0.length : Int) := of_decide_eq_true (by first | (with_reducible assumption) | assumption)
                  obtain ⟨ad182, A182_2, c182_2, A182_6, c182_6, A182_7, c182_7, e182, hx182_0, hx182_1, hx182_2, hx182_3, hx182_4, hx182_5, hx182_6, hx182_7, hl182_2, hi182_2, hl182_6, hi182_6, hl182_7, hi182_7⟩ := at_T202 HR0.out x5_1 p182 q182
                  obtain rfl : ad180 = ad182 := (by injection e182)
                  have HR182_2 := Aside0.mk hi182_2
                  have HC182_2 := Aside0.mk hl182_2
                  clear hi182_2 hl182_2
                  have HR182_6 := Aside0.mk hi182_6
                  have HC182_6 := Aside0.mk hl182_6
                  clear hi182_6 hl182_6
                  have HR182_7 := Aside0.mk hi182_7
                  have HC182_7 := Aside0.mk hl182_7
                  clear hi182_7 hl182_7
                  replace p182 := eq_true p182
                  replace q182 := eq_true q182
                  have ea_ := Option.some.inj (hx180_2.symm.trans hx182_2)
                  injection ea_ with ea_ en_ ec_
                  subst ea_
                  subst ec_
                  clear en_
                  have ea_ := Option.some.inj (hx180_6.symm.trans hx182_6)
                  injection ea_ with ea_ en_ ec_
                  subst ea_
                  subst ec_
                  clear en_
                  have ea_ := Option.some.inj (hx180_7.symm.trans hx182_7)
                  injection ea_ with ea_ en_ ec_
                  subst ea_
                  subst ec_
                  clear en_
                  go_wp2_with (first | ((with_reducible refine gate_callee (f := 158) rfl ?_); refine goesL_ (some 36) rfl rfl Try.func158 (by kernel_rfl) rfl #[.slice A180_2 ((rd_T202 l0 x5_1).f2).length c180_2, .int .i64 (wrap64 ((wrap64 (x1_1 + 1)) + 1))] rfl (by (try simp only [List.map_toArray, List.map_cons, List.map_nil]); first | done | rfl | (simp only [List.length_drop, List.length_take]; rfl)) ?_; (with_reducible refine (laws_heldStateS.calls k1 _ _ ((rd_T202 l0 x5_1).f2) (wrap64 ((wrap64 (x1_1 + 1)) + 1)) t183 _ ?side1 ?side2 A7.out).mono ?_); (case side1 => repeat (first | exact HR182_2.out | (with_reducible refine Kd.C_alloc ?_ _) | (with_reducible refine Kd.C_drewN ?_ _) | (with_reducible refine Kd.C_drew ?_))); (case side2 => exact HC182_2.out); rintro e w' ⟨rfl, ⟨nd, rfl⟩⟩; refine ⟨_, rfl, ?_⟩; have p184 : 0 ≤ (x5_1 : Int) := of_decide_eq_true (by first | (with_reducible assumption) | assumption); have q184 : x5_1 < (l0.length : Int) := of_decide_eq_true (by first | (with_reducible assumption) | assumption); obtain ⟨ad184, A184_2, c184_2, A184_6, c184_6, A184_7, c184_7, e184, hx184_0, hx184_1, hx184_2, hx184_3, hx184_4, hx184_5, hx184_6, hx184_7, hl184_2, hi184_2, hl184_6, hi184_6, hl184_7, hi184_7⟩ := at_T202 HR0.out x5_1 p184 q184; obtain rfl : ad180 = ad184 := (by injection e184); have HR184_2 := Aside0.mk hi184_2; have HC184_2 := Aside0.mk hl184_2; clear hi184_2 hl184_2; have HR184_6 := Aside0.mk hi184_6; have HC184_6 := Aside0.mk hl184_6; clear hi184_6 hl184_6; have HR184_7 := Aside0.mk hi184_7; have HC184_7 := Aside0.mk hl184_7; clear hi184_7 hl184_7; replace p184 := eq_true p184; replace q184 := eq_true q184; have ea_ := Option.some.inj (hx180_2.symm.trans hx184_2); injection ea_ with ea_ en_ ec_; subst ea_; subst ec_; clear en_; have ea_ := Option.some.inj (hx180_6.symm.trans hx184_6); injection ea_ with ea_ en_ ec_; subst ea_; subst ec_; clear en_; have ea_ := Option.some.inj (hx180_7.symm.trans hx184_7); injection ea_ with ea_ en_ ec_; subst ea_; subst ec_; clear en_))
                  go_ret
                  exact ⟨by first | rfl | (simp; done) | (simp [*]; done), by repeat (first | exact Drawn0.refl _ | apply Drawn0.step)⟩
                · rw [if_neg c9] at H
                  have c9b0 : (((rd_T202 l0 x5_1).f3.f0.f0) != ((Int.tmod t183 3) == 0)) = false := by simpa using c9
                  (try (have c9b1 : decide (((rd_T202 l0 x5_1).f3.f0.f0) = ((Int.tmod t183 3) == 0)) = true := by simpa using c9))
                  (try (have c9b2 : (((rd_T202 l0 x5_1).f3.f0.f0) == ((Int.tmod t183 3) == 0)) = true := by simpa using c9))
                  clear c9
                  by_cases c10 : ((rd_T202 l0 x5_1).f3.f0.f1) = (wrap64 (t183 + 1))
                  · rw [if_pos c10] at H
                    have c10b0 : (((rd_T202 l0 x5_1).f3.f0.f1) == (wrap64 (t183 + 1))) = true := beq_iff_eq.mpr c10
                    have c10b1 : (((rd_T202 l0 x5_1).f3.f0.f1) != (wrap64 (t183 + 1))) = false := bne_eq_false_iff_eq.mpr c10
                    clear c10
                    by_cases c11 : ((rd_T202 l0 x5_1).f3.f0.f2) = (wrap64 ((wrap64 (t183 + 1)) + 1))
                    · rw [if_pos c11] at H
                      have c11b0 : (((rd_T202 l0 x5_1).f3.f0.f2) == (wrap64 ((wrap64 (t183 + 1)) + 1))) = true := beq_iff_eq.mpr c11
                      have c11b1 : (((rd_T202 l0 x5_1).f3.f0.f2) != (wrap64 ((wrap64 (t183 + 1)) + 1))) = false := bne_eq_false_iff_eq.mpr c11
                      clear c11
                      replace H := Option.bind_eq_some_iff.mp H
                      obtain ⟨t188, A120, H⟩ := H
                      try dsimp only at H
                      have A12 := Aside0.mk A120
                      clear A120
                      by_cases c13 : t188 < 0
                      · rw [if_pos c13] at H
                        have c13b0 : decide (t188 < 0) = true := decide_eq_true c13
                        clear c13
                        obtain rfl := Option.some.inj H
                        have p180 : 0 ≤ (x5_1 : Int) := of_decide_eq_true (by first | (with_reducible assumption) | assumption)
                        have q180 : x5_1 < (l0.length : Int) := of_decide_eq_true (by first | (with_reducible assumption) | assumption)
                        obtain ⟨ad180, A180_2, c180_2, A180_6, c180_6, A180_7, c180_7, e180, hx180_0, hx180_1, hx180_2, hx180_3, hx180_4, hx180_5, hx180_6, hx180_7, hl180_2, hi180_2, hl180_6, hi180_6, hl180_7, hi180_7⟩ := at_T202 HR0.out x5_1 p180 q180
                        cases e180
                        have HR180_2 := Aside0.mk hi180_2
                        have HC180_2 := Aside0.mk hl180_2
                        clear hi180_2 hl180_2
                        have HR180_6 := Aside0.mk hi180_6
                        have HC180_6 := Aside0.mk hl180_6
                        clear hi180_6 hl180_6
                        have HR180_7 := Aside0.mk hi180_7
                        have HC180_7 := Aside0.mk hl180_7
                        clear hi180_7 hl180_7
                        replace p180 := eq_true p180
                        replace q180 := eq_true q180
                        have p181 : 0 ≤ (x5_1 : Int) := of_decide_eq_true (by first | (with_reducible assumption) | assumption)
                        have q181 : x5_1 < (l0.length : Int) := of_decide_eq_true (by first | (with_reducible assumption) | assumption)
                        obtain ⟨ad181, A181_2, c181_2, A181_6, c181_6, A181_7, c181_7, e181, hx181_0, hx181_1, hx181_2, hx181_3, hx181_4, hx181_5, hx181_6, hx181_7, hl181_2, hi181_2, hl181_6, hi181_6, hl181_7, hi181_7⟩ := at_T202 HR0.out x5_1 p181 q181
                        obtain rfl : ad180 = ad181 := (by injection e181)
                        have HR181_2 := Aside0.mk hi181_2
                        have HC181_2 := Aside0.mk hl181_2
                        clear hi181_2 hl181_2
                        have HR181_6 := Aside0.mk hi181_6
                        have HC181_6 := Aside0.mk hl181_6
                        clear hi181_6 hl181_6
                        have HR181_7 := Aside0.mk hi181_7
                        have HC181_7 := Aside0.mk hl181_7
                        clear hi181_7 hl181_7
                        replace p181 := eq_true p181
                        replace q181 := eq_true q181
                        have ea_ := Option.some.inj (hx180_2.symm.trans hx181_2)
                        injection ea_ with ea_ en_ ec_
                        subst ea_
                        subst ec_
                        clear en_
                        have ea_ := Option.some.inj (hx180_6.symm.trans hx181_6)
                        injection ea_ with ea_ en_ ec_
                        subst ea_
                        subst ec_
                        clear en_
                        have ea_ := Option.some.inj (hx180_7.symm.trans hx181_7)
                        injection ea_ with ea_ en_ ec_
                        subst ea_
                        subst ec_
                        clear en_
                        have p182 : 0 ≤ (x5_1 : Int) := of_decide_eq_true (by first | (with_reducible assumption) | assumption)
                        have q182 : x5_1 < (l0.length : Int) := of_decide_eq_true (by first | (with_reducible assumption) | assumption)
                        obtain ⟨ad182, A182_2, c182_2, A182_6, c182_6, A182_7, c182_7, e182, hx182_0, hx182_1, hx182_2, hx182_3, hx182_4, hx182_5, hx182_6, hx182_7, hl182_2, hi182_2, hl182_6, hi182_6, hl182_7, hi182_7⟩ := at_T202 HR0.out x5_1 p182 q182
                        obtain rfl : ad180 = ad182 := (by injection e182)
                        have HR182_2 := Aside0.mk hi182_2
                        have HC182_2 := Aside0.mk hl182_2
                        clear hi182_2 hl182_2
                        have HR182_6 := Aside0.mk hi182_6
                        have HC182_6 := Aside0.mk hl182_6
                        clear hi182_6 hl182_6
                        have HR182_7 := Aside0.mk hi182_7
                        have HC182_7 := Aside0.mk hl182_7
                        clear hi182_7 hl182_7
                        replace p182 := eq_true p182
                        replace q182 := eq_true q182
                        have ea_ := Option.some.inj (hx180_2.symm.trans hx182_2)
                        injection ea_ with ea_ en_ ec_
                        subst ea_
                        subst ec_
                        clear en_
                        have ea_ := Option.some.inj (hx180_6.symm.trans hx182_6)
                        injection ea_ with ea_ en_ ec_
                        subst ea_
                        subst ec_
                        clear en_
                        have ea_ := Option.some.inj (hx180_7.symm.trans hx182_7)
                        injection ea_ with ea_ en_ ec_
                        subst ea_
                        subst ec_
                        clear en_
                        go_wp2_with (first | ((with_reducible refine gate_callee (f := 158) rfl ?_); refine goesL_ (some 36) rfl rfl Try.func158 (by kernel_rfl) rfl #[.slice A180_2 ((rd_T202 l0 x5_1).f2).length c180_2, .int .i64 (wrap64 ((wrap64 (x1_1 + 1)) + 1))] rfl (by (try simp only [List.map_toArray, List.map_cons, List.map_nil]); first | done | rfl | (simp only [List.length_drop, List.length_take]; rfl)) ?_; (with_reducible refine (laws_heldStateS.calls k1 _ _ ((rd_T202 l0 x5_1).f2) (wrap64 ((wrap64 (x1_1 + 1)) + 1)) t183 _ ?side1 ?side2 A7.out).mono ?_); (case side1 => repeat (first | exact HR182_2.out | (with_reducible refine Kd.C_alloc ?_ _) | (with_reducible refine Kd.C_drewN ?_ _) | (with_reducible refine Kd.C_drew ?_))); (case side2 => exact HC182_2.out); rintro e w' ⟨rfl, ⟨nd, rfl⟩⟩; refine ⟨_, rfl, ?_⟩; have p184 : 0 ≤ (x5_1 : Int) := of_decide_eq_true (by first | (with_reducible assumption) | assumption); have q184 : x5_1 < (l0.length : Int) := of_decide_eq_true (by first | (with_reducible assumption) | assumption); obtain ⟨ad184, A184_2, c184_2, A184_6, c184_6, A184_7, c184_7, e184, hx184_0, hx184_1, hx184_2, hx184_3, hx184_4, hx184_5, hx184_6, hx184_7, hl184_2, hi184_2, hl184_6, hi184_6, hl184_7, hi184_7⟩ := at_T202 HR0.out x5_1 p184 q184; obtain rfl : ad180 = ad184 := (by injection e184); have HR184_2 := Aside0.mk hi184_2; have HC184_2 := Aside0.mk hl184_2; clear hi184_2 hl184_2; have HR184_6 := Aside0.mk hi184_6; have HC184_6 := Aside0.mk hl184_6; clear hi184_6 hl184_6; have HR184_7 := Aside0.mk hi184_7; have HC184_7 := Aside0.mk hl184_7; clear hi184_7 hl184_7; replace p184 := eq_true p184; replace q184 := eq_true q184; have ea_ := Option.some.inj (hx180_2.symm.trans hx184_2); injection ea_ with ea_ en_ ec_; subst ea_; subst ec_; clear en_; have ea_ := Option.some.inj (hx180_6.symm.trans hx184_6); injection ea_ with ea_ en_ ec_; subst ea_; subst ec_; clear en_; have ea_ := Option.some.inj (hx180_7.symm.trans hx184_7); injection ea_ with ea_ en_ ec_; subst ea_; subst ec_; clear en_; have p185 : 0 ≤ (x5_1 : Int) := of_decide_eq_true (by first | (with_reducible assumption) | assumption); have q185 : x5_1 < (l0.length : Int) := of_decide_eq_true (by first | (with_reducible assumption) | assumption); obtain ⟨ad185, A185_2, c185_2, A185_6, c185_6, A185_7, c185_7, e185, hx185_0, hx185_1, hx185_2, hx185_3, hx185_4, hx185_5, hx185_6, hx185_7, hl185_2, hi185_2, hl185_6, hi185_6, hl185_7, hi185_7⟩ := at_T202 HR0.out x5_1 p185 q185; obtain rfl : ad180 = ad185 := (by injection e185); have HR185_2 := Aside0.mk hi185_2; have HC185_2 := Aside0.mk hl185_2; clear hi185_2 hl185_2; have HR185_6 := Aside0.mk hi185_6; have HC185_6 := Aside0.mk hl185_6; clear hi185_6 hl185_6; have HR185_7 := Aside0.mk hi185_7; have HC185_7 := Aside0.mk hl185_7; clear hi185_7 hl185_7; replace p185 := eq_true p185; replace q185 := eq_true q185; have ea_ := Option.some.inj (hx180_2.symm.trans hx185_2); injection ea_ with ea_ en_ ec_; subst ea_; subst ec_; clear en_; have ea_ := Option.some.inj (hx180_6.symm.trans hx185_6); injection ea_ with ea_ en_ ec_; subst ea_; subst ec_; clear en_; have ea_ := Option.some.inj (hx180_7.symm.trans hx185_7); injection ea_ with ea_ en_ ec_; subst ea_; subst ec_; clear en_; have p186 : 0 ≤ (x5_1 : Int) := of_decide_eq_true (by first | (with_reducible assumption) | assumption); have q186 : x5_1 < (l0.length : Int) := of_decide_eq_true (by first | (with_reducible assumption) | assumption); obtain ⟨ad186, A186_2, c186_2, A186_6, c186_6, A186_7, c186_7, e186, hx186_0, hx186_1, hx186_2, hx186_3, hx186_4, hx186_5, hx186_6, hx186_7, hl186_2, hi186_2, hl186_6, hi186_6, hl186_7, hi186_7⟩ := at_T202 HR0.out x5_1 p186 q186; obtain rfl : ad180 = ad186 := (by injection e186); have HR186_2 := Aside0.mk hi186_2; have HC186_2 := Aside0.mk hl186_2; clear hi186_2 hl186_2; have HR186_6 := Aside0.mk hi186_6; have HC186_6 := Aside0.mk hl186_6; clear hi186_6 hl186_6; have HR186_7 := Aside0.mk hi186_7; have HC186_7 := Aside0.mk hl186_7; clear hi186_7 hl186_7; replace p186 := eq_true p186; replace q186 := eq_true q186; have ea_ := Option.some.inj (hx180_2.symm.trans hx186_2); injection ea_ with ea_ en_ ec_; subst ea_; subst ec_; clear en_; have ea_ := Option.some.inj (hx180_6.symm.trans hx186_6); injection ea_ with ea_ en_ ec_; subst ea_; subst ec_; clear en_; have ea_ := Option.some.inj (hx180_7.symm.trans hx186_7); injection ea_ with ea_ en_ ec_; subst ea_; subst ec_; clear en_; have p187 : 0 ≤ (x5_1 : Int) := of_decide_eq_true (by first | (with_reducible assumption) | assumption); have q187 : x5_1 < (l0.length : Int) := of_decide_eq_true (by first | (with_reducible assumption) | assumption); obtain ⟨ad187, A187_2, c187_2, A187_6, c187_6, A187_7, c187_7, e187, hx187_0, hx187_1, hx187_2, hx187_3, hx187_4, hx187_5, hx187_6, hx187_7, hl187_2, hi187_2, hl187_6, hi187_6, hl187_7, hi187_7⟩ := at_T202 HR0.out x5_1 p187 q187; obtain rfl : ad180 = ad187 := (by injection e187); have HR187_2 := Aside0.mk hi187_2; have HC187_2 := Aside0.mk hl187_2; clear hi187_2 hl187_2; have HR187_6 := Aside0.mk hi187_6; have HC187_6 := Aside0.mk hl187_6; clear hi187_6 hl187_6; have HR187_7 := Aside0.mk hi187_7; have HC187_7 := Aside0.mk hl187_7; clear hi187_7 hl187_7; replace p187 := eq_true p187; replace q187 := eq_true q187; have ea_ := Option.some.inj (hx180_2.symm.trans hx187_2); injection ea_ with ea_ en_ ec_; subst ea_; subst ec_; clear en_; have ea_ := Option.some.inj (hx180_6.symm.trans hx187_6); injection ea_ with ea_ en_ ec_; subst ea_; subst ec_; clear en_; have ea_ := Option.some.inj (hx180_7.symm.trans hx187_7); injection ea_ with ea_ en_ ec_; subst ea_; subst ec_; clear en_) | ((with_reducible refine gate_callee (f := 30) rfl ?_); refine goesL_ (some 81) rfl rfl Try.func30 (by kernel_rfl) rfl #[.slice A180_6 ((rd_T202 l0 x5_1).f3.f1).length c180_6, .int .i64 (wrap64 ((wrap64 ((wrap64 (t183 + 1)) + 1)) + 1))] rfl (by (try simp only [List.map_toArray, List.map_cons, List.map_nil]); first | done | rfl | (simp only [List.length_drop, List.length_take]; rfl)) ?_; (with_reducible refine (laws_heldSiteS.calls k1 _ _ ((rd_T202 l0 x5_1).f3.f1) (wrap64 ((wrap64 ((wrap64 (t183 + 1)) + 1)) + 1)) t188 _ ?side1 ?side2 A12.out).mono ?_); (case side1 => repeat (first | exact HR187_6.out | (with_reducible refine Kd.C_alloc ?_ _) | (with_reducible refine Kd.C_drewN ?_ _) | (with_reducible refine Kd.C_drew ?_))); (case side2 => exact HC187_6.out); rintro e w' ⟨rfl, ⟨nd, rfl⟩⟩; refine ⟨_, rfl, ?_⟩))
                        go_ret
                        exact ⟨by first | rfl | (simp; done) | (simp [*]; done), by repeat (first | exact Drawn0.refl _ | apply Drawn0.step)⟩
                      · rw [if_neg c13] at H
                        have c13b0 : decide (t188 < 0) = false := decide_eq_false c13
                        clear c13
                        replace H := Option.bind_eq_some_iff.mp H
                        obtain ⟨t190, A140, H⟩ := H
                        try dsimp only at H
                        have A14 := Aside0.mk A140
                        clear A140
                        by_cases c15 : t190 < 0
                        · rw [if_pos c15] at H
                          have c15b0 : decide (t190 < 0) = true := decide_eq_true c15
                          clear c15
                          obtain rfl := Option.some.inj H
                          have p180 : 0 ≤ (x5_1 : Int) := of_decide_eq_true (by first | (with_reducible assumption) | assumption)
                          have q180 : x5_1 < (l0.length : Int) := of_decide_eq_true (by first | (with_reducible assumption) | assumption)
                          obtain ⟨ad180, A180_2, c180_2, A180_6, c180_6, A180_7, c180_7, e180, hx180_0, hx180_1, hx180_2, hx180_3, hx180_4, hx180_5, hx180_6, hx180_7, hl180_2, hi180_2, hl180_6, hi180_6, hl180_7, hi180_7⟩ := at_T202 HR0.out x5_1 p180 q180
                          cases e180
                          have HR180_2 := Aside0.mk hi180_2
                          have HC180_2 := Aside0.mk hl180_2
                          clear hi180_2 hl180_2
                          have HR180_6 := Aside0.mk hi180_6
                          have HC180_6 := Aside0.mk hl180_6
                          clear hi180_6 hl180_6
                          have HR180_7 := Aside0.mk hi180_7
                          have HC180_7 := Aside0.mk hl180_7
                          clear hi180_7 hl180_7
                          replace p180 := eq_true p180
                          replace q180 := eq_true q180
                          have p181 : 0 ≤ (x5_1 : Int) := of_decide_eq_true (by first | (with_reducible assumption) | assumption)
                          have q181 : x5_1 < (l0.length : Int) := of_decide_eq_true (by first | (with_reducible assumption) | assumption)
                          obtain ⟨ad181, A181_2, c181_2, A181_6, c181_6, A181_7, c181_7, e181, hx181_0, hx181_1, hx181_2, hx181_3, hx181_4, hx181_5, hx181_6, hx181_7, hl181_2, hi181_2, hl181_6, hi181_6, hl181_7, hi181_7⟩ := at_T202 HR0.out x5_1 p181 q181
                          obtain rfl : ad180 = ad181 := (by injection e181)
                          have HR181_2 := Aside0.mk hi181_2
                          have HC181_2 := Aside0.mk hl181_2
                          clear hi181_2 hl181_2
                          have HR181_6 := Aside0.mk hi181_6
                          have HC181_6 := Aside0.mk hl181_6
                          clear hi181_6 hl181_6
                          have HR181_7 := Aside0.mk hi181_7
                          have HC181_7 := Aside0.mk hl181_7
                          clear hi181_7 hl181_7
                          replace p181 := eq_true p181
                          replace q181 := eq_true q181
                          have ea_ := Option.some.inj (hx180_2.symm.trans hx181_2)
                          injection ea_ with ea_ en_ ec_
                          subst ea_
                          subst ec_
                          clear en_
                          have ea_ := Option.some.inj (hx180_6.symm.trans hx181_6)
                          injection ea_ with ea_ en_ ec_
                          subst ea_
                          subst ec_
                          clear en_
                          have ea_ := Option.some.inj (hx180_7.symm.trans hx181_7)
                          injection ea_ with ea_ en_ ec_
                          subst ea_
                          subst ec_
                          clear en_
                          have p182 : 0 ≤ (x5_1 : Int) := of_decide_eq_true (by first | (with_reducible assumption) | assumption)
                          have q182 : x5_1 < (l0.length : Int) := of_decide_eq_true (by first | (with_reducible assumption) | assumption)
                          obtain ⟨ad182, A182_2, c182_2, A182_6, c182_6, A182_7, c182_7, e182, hx182_0, hx182_1, hx182_2, hx182_3, hx182_4, hx182_5, hx182_6, hx182_7, hl182_2, hi182_2, hl182_6, hi182_6, hl182_7, hi182_7⟩ := at_T202 HR0.out x5_1 p182 q182
                          obtain rfl : ad180 = ad182 := (by injection e182)
                          have HR182_2 := Aside0.mk hi182_2
                          have HC182_2 := Aside0.mk hl182_2
                          clear hi182_2 hl182_2
                          have HR182_6 := Aside0.mk hi182_6
                          have HC182_6 := Aside0.mk hl182_6
                          clear hi182_6 hl182_6
                          have HR182_7 := Aside0.mk hi182_7
                          have HC182_7 := Aside0.mk hl182_7
                          clear hi182_7 hl182_7
                          replace p182 := eq_true p182
                          replace q182 := eq_true q182
                          have ea_ := Option.some.inj (hx180_2.symm.trans hx182_2)
                          injection ea_ with ea_ en_ ec_
                          subst ea_
                          subst ec_
                          clear en_
                          have ea_ := Option.some.inj (hx180_6.symm.trans hx182_6)
                          injection ea_ with ea_ en_ ec_
                          subst ea_
                          subst ec_
                          clear en_
                          have ea_ := Option.some.inj (hx180_7.symm.trans hx182_7)
                          injection ea_ with ea_ en_ ec_
                          subst ea_
                          subst ec_
                          clear en_
                          go_wp2_with (first | ((with_reducible refine gate_callee (f := 158) rfl ?_); refine goesL_ (some 36) rfl rfl Try.func158 (by kernel_rfl) rfl #[.slice A180_2 ((rd_T202 l0 x5_1).f2).length c180_2, .int .i64 (wrap64 ((wrap64 (x1_1 + 1)) + 1))] rfl (by (try simp only [List.map_toArray, List.map_cons, List.map_nil]); first | done | rfl | (simp only [List.length_drop, List.length_take]; rfl)) ?_; (with_reducible refine (laws_heldStateS.calls k1 _ _ ((rd_T202 l0 x5_1).f2) (wrap64 ((wrap64 (x1_1 + 1)) + 1)) t183 _ ?side1 ?side2 A7.out).mono ?_); (case side1 => repeat (first | exact HR182_2.out | (with_reducible refine Kd.C_alloc ?_ _) | (with_reducible refine Kd.C_drewN ?_ _) | (with_reducible refine Kd.C_drew ?_))); (case side2 => exact HC182_2.out); rintro e w' ⟨rfl, ⟨nd, rfl⟩⟩; refine ⟨_, rfl, ?_⟩; have p184 : 0 ≤ (x5_1 : Int) := of_decide_eq_true (by first | (with_reducible assumption) | assumption); have q184 : x5_1 < (l0.length : Int) := of_decide_eq_true (by first | (with_reducible assumption) | assumption); obtain ⟨ad184, A184_2, c184_2, A184_6, c184_6, A184_7, c184_7, e184, hx184_0, hx184_1, hx184_2, hx184_3, hx184_4, hx184_5, hx184_6, hx184_7, hl184_2, hi184_2, hl184_6, hi184_6, hl184_7, hi184_7⟩ := at_T202 HR0.out x5_1 p184 q184; obtain rfl : ad180 = ad184 := (by injection e184); have HR184_2 := Aside0.mk hi184_2; have HC184_2 := Aside0.mk hl184_2; clear hi184_2 hl184_2; have HR184_6 := Aside0.mk hi184_6; have HC184_6 := Aside0.mk hl184_6; clear hi184_6 hl184_6; have HR184_7 := Aside0.mk hi184_7; have HC184_7 := Aside0.mk hl184_7; clear hi184_7 hl184_7; replace p184 := eq_true p184; replace q184 := eq_true q184; have ea_ := Option.some.inj (hx180_2.symm.trans hx184_2); injection ea_ with ea_ en_ ec_; subst ea_; subst ec_; clear en_; have ea_ := Option.some.inj (hx180_6.symm.trans hx184_6); injection ea_ with ea_ en_ ec_; subst ea_; subst ec_; clear en_; have ea_ := Option.some.inj (hx180_7.symm.trans hx184_7); injection ea_ with ea_ en_ ec_; subst ea_; subst ec_; clear en_; have p185 : 0 ≤ (x5_1 : Int) := of_decide_eq_true (by first | (with_reducible assumption) | assumption); have q185 : x5_1 < (l0.length : Int) := of_decide_eq_true (by first | (with_reducible assumption) | assumption); obtain ⟨ad185, A185_2, c185_2, A185_6, c185_6, A185_7, c185_7, e185, hx185_0, hx185_1, hx185_2, hx185_3, hx185_4, hx185_5, hx185_6, hx185_7, hl185_2, hi185_2, hl185_6, hi185_6, hl185_7, hi185_7⟩ := at_T202 HR0.out x5_1 p185 q185; obtain rfl : ad180 = ad185 := (by injection e185); have HR185_2 := Aside0.mk hi185_2; have HC185_2 := Aside0.mk hl185_2; clear hi185_2 hl185_2; have HR185_6 := Aside0.mk hi185_6; have HC185_6 := Aside0.mk hl185_6; clear hi185_6 hl185_6; have HR185_7 := Aside0.mk hi185_7; have HC185_7 := Aside0.mk hl185_7; clear hi185_7 hl185_7; replace p185 := eq_true p185; replace q185 := eq_true q185; have ea_ := Option.some.inj (hx180_2.symm.trans hx185_2); injection ea_ with ea_ en_ ec_; subst ea_; subst ec_; clear en_; have ea_ := Option.some.inj (hx180_6.symm.trans hx185_6); injection ea_ with ea_ en_ ec_; subst ea_; subst ec_; clear en_; have ea_ := Option.some.inj (hx180_7.symm.trans hx185_7); injection ea_ with ea_ en_ ec_; subst ea_; subst ec_; clear en_; have p186 : 0 ≤ (x5_1 : Int) := of_decide_eq_true (by first | (with_reducible assumption) | assumption); have q186 : x5_1 < (l0.length : Int) := of_decide_eq_true (by first | (with_reducible assumption) | assumption); obtain ⟨ad186, A186_2, c186_2, A186_6, c186_6, A186_7, c186_7, e186, hx186_0, hx186_1, hx186_2, hx186_3, hx186_4, hx186_5, hx186_6, hx186_7, hl186_2, hi186_2, hl186_6, hi186_6, hl186_7, hi186_7⟩ := at_T202 HR0.out x5_1 p186 q186; obtain rfl : ad180 = ad186 := (by injection e186); have HR186_2 := Aside0.mk hi186_2; have HC186_2 := Aside0.mk hl186_2; clear hi186_2 hl186_2; have HR186_6 := Aside0.mk hi186_6; have HC186_6 := Aside0.mk hl186_6; clear hi186_6 hl186_6; have HR186_7 := Aside0.mk hi186_7; have HC186_7 := Aside0.mk hl186_7; clear hi186_7 hl186_7; replace p186 := eq_true p186; replace q186 := eq_true q186; have ea_ := Option.some.inj (hx180_2.symm.trans hx186_2); injection ea_ with ea_ en_ ec_; subst ea_; subst ec_; clear en_; have ea_ := Option.some.inj (hx180_6.symm.trans hx186_6); injection ea_ with ea_ en_ ec_; subst ea_; subst ec_; clear en_; have ea_ := Option.some.inj (hx180_7.symm.trans hx186_7); injection ea_ with ea_ en_ ec_; subst ea_; subst ec_; clear en_; have p187 : 0 ≤ (x5_1 : Int) := of_decide_eq_true (by first | (with_reducible assumption) | assumption); have q187 : x5_1 < (l0.length : Int) := of_decide_eq_true (by first | (with_reducible assumption) | assumption); obtain ⟨ad187, A187_2, c187_2, A187_6, c187_6, A187_7, c187_7, e187, hx187_0, hx187_1, hx187_2, hx187_3, hx187_4, hx187_5, hx187_6, hx187_7, hl187_2, hi187_2, hl187_6, hi187_6, hl187_7, hi187_7⟩ := at_T202 HR0.out x5_1 p187 q187; obtain rfl : ad180 = ad187 := (by injection e187); have HR187_2 := Aside0.mk hi187_2; have HC187_2 := Aside0.mk hl187_2; clear hi187_2 hl187_2; have HR187_6 := Aside0.mk hi187_6; have HC187_6 := Aside0.mk hl187_6; clear hi187_6 hl187_6; have HR187_7 := Aside0.mk hi187_7; have HC187_7 := Aside0.mk hl187_7; clear hi187_7 hl187_7; replace p187 := eq_true p187; replace q187 := eq_true q187; have ea_ := Option.some.inj (hx180_2.symm.trans hx187_2); injection ea_ with ea_ en_ ec_; subst ea_; subst ec_; clear en_; have ea_ := Option.some.inj (hx180_6.symm.trans hx187_6); injection ea_ with ea_ en_ ec_; subst ea_; subst ec_; clear en_; have ea_ := Option.some.inj (hx180_7.symm.trans hx187_7); injection ea_ with ea_ en_ ec_; subst ea_; subst ec_; clear en_) | ((with_reducible refine gate_callee (f := 30) rfl ?_); refine goesL_ (some 81) rfl rfl Try.func30 (by kernel_rfl) rfl #[.slice A180_6 ((rd_T202 l0 x5_1).f3.f1).length c180_6, .int .i64 (wrap64 ((wrap64 ((wrap64 (t183 + 1)) + 1)) + 1))] rfl (by (try simp only [List.map_toArray, List.map_cons, List.map_nil]); first | done | rfl | (simp only [List.length_drop, List.length_take]; rfl)) ?_; (with_reducible refine (laws_heldSiteS.calls k1 _ _ ((rd_T202 l0 x5_1).f3.f1) (wrap64 ((wrap64 ((wrap64 (t183 + 1)) + 1)) + 1)) t188 _ ?side1 ?side2 A12.out).mono ?_); (case side1 => repeat (first | exact HR187_6.out | (with_reducible refine Kd.C_alloc ?_ _) | (with_reducible refine Kd.C_drewN ?_ _) | (with_reducible refine Kd.C_drew ?_))); (case side2 => exact HC187_6.out); rintro e w' ⟨rfl, ⟨nd, rfl⟩⟩; refine ⟨_, rfl, ?_⟩; have p189 : 0 ≤ (x5_1 : Int) := of_decide_eq_true (by first | (with_reducible assumption) | assumption); have q189 : x5_1 < (l0.length : Int) := of_decide_eq_true (by first | (with_reducible assumption) | assumption); obtain ⟨ad189, A189_2, c189_2, A189_6, c189_6, A189_7, c189_7, e189, hx189_0, hx189_1, hx189_2, hx189_3, hx189_4, hx189_5, hx189_6, hx189_7, hl189_2, hi189_2, hl189_6, hi189_6, hl189_7, hi189_7⟩ := at_T202 HR0.out x5_1 p189 q189; obtain rfl : ad180 = ad189 := (by injection e189); have HR189_2 := Aside0.mk hi189_2; have HC189_2 := Aside0.mk hl189_2; clear hi189_2 hl189_2; have HR189_6 := Aside0.mk hi189_6; have HC189_6 := Aside0.mk hl189_6; clear hi189_6 hl189_6; have HR189_7 := Aside0.mk hi189_7; have HC189_7 := Aside0.mk hl189_7; clear hi189_7 hl189_7; replace p189 := eq_true p189; replace q189 := eq_true q189; have ea_ := Option.some.inj (hx180_2.symm.trans hx189_2); injection ea_ with ea_ en_ ec_; subst ea_; subst ec_; clear en_; have ea_ := Option.some.inj (hx180_6.symm.trans hx189_6); injection ea_ with ea_ en_ ec_; subst ea_; subst ec_; clear en_; have ea_ := Option.some.inj (hx180_7.symm.trans hx189_7); injection ea_ with ea_ en_ ec_; subst ea_; subst ec_; clear en_) | ((with_reducible refine gate_callee (f := 159) rfl ?_); refine goesL_ (some 91) rfl rfl Try.func159 (by kernel_rfl) rfl #[.slice A180_7 ((rd_T202 l0 x5_1).f3.f2).length c180_7, .int .i64 t188] rfl (by (try simp only [List.map_toArray, List.map_cons, List.map_nil]); first | done | rfl | (simp only [List.length_drop, List.length_take]; rfl)) ?_; (with_reducible refine (laws_heldCallS.calls k1 _ _ ((rd_T202 l0 x5_1).f3.f2) t188 t190 _ ?side1 ?side2 A14.out).mono ?_); (case side1 => repeat (first | exact HR189_7.out | (with_reducible refine Kd.C_alloc ?_ _) | (with_reducible refine Kd.C_drewN ?_ _) | (with_reducible refine Kd.C_drew ?_))); (case side2 => exact HC189_7.out); rintro e w' ⟨rfl, ⟨nd, rfl⟩⟩; refine ⟨_, rfl, ?_⟩))
                          go_ret
                          exact ⟨by first | rfl | (simp; done) | (simp [*]; done), by repeat (first | exact Drawn0.refl _ | apply Drawn0.step)⟩
                        · rw [if_neg c15] at H
                          have c15b0 : decide (t190 < 0) = false := decide_eq_false c15
                          clear c15
                          have H' := Aside0.mk H
                          clear H
                          have p180 : 0 ≤ (x5_1 : Int) := of_decide_eq_true (by first | (with_reducible assumption) | assumption)
                          have q180 : x5_1 < (l0.length : Int) := of_decide_eq_true (by first | (with_reducible assumption) | assumption)
                          obtain ⟨ad180, A180_2, c180_2, A180_6, c180_6, A180_7, c180_7, e180, hx180_0, hx180_1, hx180_2, hx180_3, hx180_4, hx180_5, hx180_6, hx180_7, hl180_2, hi180_2, hl180_6, hi180_6, hl180_7, hi180_7⟩ := at_T202 HR0.out x5_1 p180 q180
                          cases e180
                          have HR180_2 := Aside0.mk hi180_2
                          have HC180_2 := Aside0.mk hl180_2
                          clear hi180_2 hl180_2
                          have HR180_6 := Aside0.mk hi180_6
                          have HC180_6 := Aside0.mk hl180_6
                          clear hi180_6 hl180_6
                          have HR180_7 := Aside0.mk hi180_7
                          have HC180_7 := Aside0.mk hl180_7
                          clear hi180_7 hl180_7
                          replace p180 := eq_true p180
                          replace q180 := eq_true q180
                          have p181 : 0 ≤ (x5_1 : Int) := of_decide_eq_true (by first | (with_reducible assumption) | assumption)
                          have q181 : x5_1 < (l0.length : Int) := of_decide_eq_true (by first | (with_reducible assumption) | assumption)
                          obtain ⟨ad181, A181_2, c181_2, A181_6, c181_6, A181_7, c181_7, e181, hx181_0, hx181_1, hx181_2, hx181_3, hx181_4, hx181_5, hx181_6, hx181_7, hl181_2, hi181_2, hl181_6, hi181_6, hl181_7, hi181_7⟩ := at_T202 HR0.out x5_1 p181 q181
                          obtain rfl : ad180 = ad181 := (by injection e181)
                          have HR181_2 := Aside0.mk hi181_2
                          have HC181_2 := Aside0.mk hl181_2
                          clear hi181_2 hl181_2
                          have HR181_6 := Aside0.mk hi181_6
                          have HC181_6 := Aside0.mk hl181_6
                          clear hi181_6 hl181_6
                          have HR181_7 := Aside0.mk hi181_7
                          have HC181_7 := Aside0.mk hl181_7
                          clear hi181_7 hl181_7
                          replace p181 := eq_true p181
                          replace q181 := eq_true q181
                          have ea_ := Option.some.inj (hx180_2.symm.trans hx181_2)
                          injection ea_ with ea_ en_ ec_
                          subst ea_
                          subst ec_
                          clear en_
                          have ea_ := Option.some.inj (hx180_6.symm.trans hx181_6)
                          injection ea_ with ea_ en_ ec_
                          subst ea_
                          subst ec_
                          clear en_
                          have ea_ := Option.some.inj (hx180_7.symm.trans hx181_7)
                          injection ea_ with ea_ en_ ec_
                          subst ea_
                          subst ec_
                          clear en_
                          have p182 : 0 ≤ (x5_1 : Int) := of_decide_eq_true (by first | (with_reducible assumption) | assumption)
                          have q182 : x5_1 < (l0.length : Int) := of_decide_eq_true (by first | (with_reducible assumption) | assumption)
                          obtain ⟨ad182, A182_2, c182_2, A182_6, c182_6, A182_7, c182_7, e182, hx182_0, hx182_1, hx182_2, hx182_3, hx182_4, hx182_5, hx182_6, hx182_7, hl182_2, hi182_2, hl182_6, hi182_6, hl182_7, hi182_7⟩ := at_T202 HR0.out x5_1 p182 q182
                          obtain rfl : ad180 = ad182 := (by injection e182)
                          have HR182_2 := Aside0.mk hi182_2
                          have HC182_2 := Aside0.mk hl182_2
                          clear hi182_2 hl182_2
                          have HR182_6 := Aside0.mk hi182_6
                          have HC182_6 := Aside0.mk hl182_6
                          clear hi182_6 hl182_6
                          have HR182_7 := Aside0.mk hi182_7
                          have HC182_7 := Aside0.mk hl182_7
                          clear hi182_7 hl182_7
                          replace p182 := eq_true p182
                          replace q182 := eq_true q182
                          have ea_ := Option.some.inj (hx180_2.symm.trans hx182_2)
                          injection ea_ with ea_ en_ ec_
                          subst ea_
                          subst ec_
                          clear en_
                          have ea_ := Option.some.inj (hx180_6.symm.trans hx182_6)
                          injection ea_ with ea_ en_ ec_
                          subst ea_
                          subst ec_
                          clear en_
                          have ea_ := Option.some.inj (hx180_7.symm.trans hx182_7)
                          injection ea_ with ea_ en_ ec_
                          subst ea_
                          subst ec_
                          clear en_
                          go_wp2_with (first | ((with_reducible refine gate_callee (f := 158) rfl ?_); refine goesL_ (some 36) rfl rfl Try.func158 (by kernel_rfl) rfl #[.slice A180_2 ((rd_T202 l0 x5_1).f2).length c180_2, .int .i64 (wrap64 ((wrap64 (x1_1 + 1)) + 1))] rfl (by (try simp only [List.map_toArray, List.map_cons, List.map_nil]); first | done | rfl | (simp only [List.length_drop, List.length_take]; rfl)) ?_; (with_reducible refine (laws_heldStateS.calls k1 _ _ ((rd_T202 l0 x5_1).f2) (wrap64 ((wrap64 (x1_1 + 1)) + 1)) t183 _ ?side1 ?side2 A7.out).mono ?_); (case side1 => repeat (first | exact HR182_2.out | (with_reducible refine Kd.C_alloc ?_ _) | (with_reducible refine Kd.C_drewN ?_ _) | (with_reducible refine Kd.C_drew ?_))); (case side2 => exact HC182_2.out); rintro e w' ⟨rfl, ⟨nd, rfl⟩⟩; refine ⟨_, rfl, ?_⟩; have p184 : 0 ≤ (x5_1 : Int) := of_decide_eq_true (by first | (with_reducible assumption) | assumption); have q184 : x5_1 < (l0.length : Int) := of_decide_eq_true (by first | (with_reducible assumption) | assumption); obtain ⟨ad184, A184_2, c184_2, A184_6, c184_6, A184_7, c184_7, e184, hx184_0, hx184_1, hx184_2, hx184_3, hx184_4, hx184_5, hx184_6, hx184_7, hl184_2, hi184_2, hl184_6, hi184_6, hl184_7, hi184_7⟩ := at_T202 HR0.out x5_1 p184 q184; obtain rfl : ad180 = ad184 := (by injection e184); have HR184_2 := Aside0.mk hi184_2; have HC184_2 := Aside0.mk hl184_2; clear hi184_2 hl184_2; have HR184_6 := Aside0.mk hi184_6; have HC184_6 := Aside0.mk hl184_6; clear hi184_6 hl184_6; have HR184_7 := Aside0.mk hi184_7; have HC184_7 := Aside0.mk hl184_7; clear hi184_7 hl184_7; replace p184 := eq_true p184; replace q184 := eq_true q184; have ea_ := Option.some.inj (hx180_2.symm.trans hx184_2); injection ea_ with ea_ en_ ec_; subst ea_; subst ec_; clear en_; have ea_ := Option.some.inj (hx180_6.symm.trans hx184_6); injection ea_ with ea_ en_ ec_; subst ea_; subst ec_; clear en_; have ea_ := Option.some.inj (hx180_7.symm.trans hx184_7); injection ea_ with ea_ en_ ec_; subst ea_; subst ec_; clear en_; have p185 : 0 ≤ (x5_1 : Int) := of_decide_eq_true (by first | (with_reducible assumption) | assumption); have q185 : x5_1 < (l0.length : Int) := of_decide_eq_true (by first | (with_reducible assumption) | assumption); obtain ⟨ad185, A185_2, c185_2, A185_6, c185_6, A185_7, c185_7, e185, hx185_0, hx185_1, hx185_2, hx185_3, hx185_4, hx185_5, hx185_6, hx185_7, hl185_2, hi185_2, hl185_6, hi185_6, hl185_7, hi185_7⟩ := at_T202 HR0.out x5_1 p185 q185; obtain rfl : ad180 = ad185 := (by injection e185); have HR185_2 := Aside0.mk hi185_2; have HC185_2 := Aside0.mk hl185_2; clear hi185_2 hl185_2; have HR185_6 := Aside0.mk hi185_6; have HC185_6 := Aside0.mk hl185_6; clear hi185_6 hl185_6; have HR185_7 := Aside0.mk hi185_7; have HC185_7 := Aside0.mk hl185_7; clear hi185_7 hl185_7; replace p185 := eq_true p185; replace q185 := eq_true q185; have ea_ := Option.some.inj (hx180_2.symm.trans hx185_2); injection ea_ with ea_ en_ ec_; subst ea_; subst ec_; clear en_; have ea_ := Option.some.inj (hx180_6.symm.trans hx185_6); injection ea_ with ea_ en_ ec_; subst ea_; subst ec_; clear en_; have ea_ := Option.some.inj (hx180_7.symm.trans hx185_7); injection ea_ with ea_ en_ ec_; subst ea_; subst ec_; clear en_; have p186 : 0 ≤ (x5_1 : Int) := of_decide_eq_true (by first | (with_reducible assumption) | assumption); have q186 : x5_1 < (l0.length : Int) := of_decide_eq_true (by first | (with_reducible assumption) | assumption); obtain ⟨ad186, A186_2, c186_2, A186_6, c186_6, A186_7, c186_7, e186, hx186_0, hx186_1, hx186_2, hx186_3, hx186_4, hx186_5, hx186_6, hx186_7, hl186_2, hi186_2, hl186_6, hi186_6, hl186_7, hi186_7⟩ := at_T202 HR0.out x5_1 p186 q186; obtain rfl : ad180 = ad186 := (by injection e186); have HR186_2 := Aside0.mk hi186_2; have HC186_2 := Aside0.mk hl186_2; clear hi186_2 hl186_2; have HR186_6 := Aside0.mk hi186_6; have HC186_6 := Aside0.mk hl186_6; clear hi186_6 hl186_6; have HR186_7 := Aside0.mk hi186_7; have HC186_7 := Aside0.mk hl186_7; clear hi186_7 hl186_7; replace p186 := eq_true p186; replace q186 := eq_true q186; have ea_ := Option.some.inj (hx180_2.symm.trans hx186_2); injection ea_ with ea_ en_ ec_; subst ea_; subst ec_; clear en_; have ea_ := Option.some.inj (hx180_6.symm.trans hx186_6); injection ea_ with ea_ en_ ec_; subst ea_; subst ec_; clear en_; have ea_ := Option.some.inj (hx180_7.symm.trans hx186_7); injection ea_ with ea_ en_ ec_; subst ea_; subst ec_; clear en_; have p187 : 0 ≤ (x5_1 : Int) := of_decide_eq_true (by first | (with_reducible assumption) | assumption); have q187 : x5_1 < (l0.length : Int) := of_decide_eq_true (by first | (with_reducible assumption) | assumption); obtain ⟨ad187, A187_2, c187_2, A187_6, c187_6, A187_7, c187_7, e187, hx187_0, hx187_1, hx187_2, hx187_3, hx187_4, hx187_5, hx187_6, hx187_7, hl187_2, hi187_2, hl187_6, hi187_6, hl187_7, hi187_7⟩ := at_T202 HR0.out x5_1 p187 q187; obtain rfl : ad180 = ad187 := (by injection e187); have HR187_2 := Aside0.mk hi187_2; have HC187_2 := Aside0.mk hl187_2; clear hi187_2 hl187_2; have HR187_6 := Aside0.mk hi187_6; have HC187_6 := Aside0.mk hl187_6; clear hi187_6 hl187_6; have HR187_7 := Aside0.mk hi187_7; have HC187_7 := Aside0.mk hl187_7; clear hi187_7 hl187_7; replace p187 := eq_true p187; replace q187 := eq_true q187; have ea_ := Option.some.inj (hx180_2.symm.trans hx187_2); injection ea_ with ea_ en_ ec_; subst ea_; subst ec_; clear en_; have ea_ := Option.some.inj (hx180_6.symm.trans hx187_6); injection ea_ with ea_ en_ ec_; subst ea_; subst ec_; clear en_; have ea_ := Option.some.inj (hx180_7.symm.trans hx187_7); injection ea_ with ea_ en_ ec_; subst ea_; subst ec_; clear en_) | ((with_reducible refine gate_callee (f := 30) rfl ?_); refine goesL_ (some 81) rfl rfl Try.func30 (by kernel_rfl) rfl #[.slice A180_6 ((rd_T202 l0 x5_1).f3.f1).length c180_6, .int .i64 (wrap64 ((wrap64 ((wrap64 (t183 + 1)) + 1)) + 1))] rfl (by (try simp only [List.map_toArray, List.map_cons, List.map_nil]); first | done | rfl | (simp only [List.length_drop, List.length_take]; rfl)) ?_; (with_reducible refine (laws_heldSiteS.calls k1 _ _ ((rd_T202 l0 x5_1).f3.f1) (wrap64 ((wrap64 ((wrap64 (t183 + 1)) + 1)) + 1)) t188 _ ?side1 ?side2 A12.out).mono ?_); (case side1 => repeat (first | exact HR187_6.out | (with_reducible refine Kd.C_alloc ?_ _) | (with_reducible refine Kd.C_drewN ?_ _) | (with_reducible refine Kd.C_drew ?_))); (case side2 => exact HC187_6.out); rintro e w' ⟨rfl, ⟨nd, rfl⟩⟩; refine ⟨_, rfl, ?_⟩; have p189 : 0 ≤ (x5_1 : Int) := of_decide_eq_true (by first | (with_reducible assumption) | assumption); have q189 : x5_1 < (l0.length : Int) := of_decide_eq_true (by first | (with_reducible assumption) | assumption); obtain ⟨ad189, A189_2, c189_2, A189_6, c189_6, A189_7, c189_7, e189, hx189_0, hx189_1, hx189_2, hx189_3, hx189_4, hx189_5, hx189_6, hx189_7, hl189_2, hi189_2, hl189_6, hi189_6, hl189_7, hi189_7⟩ := at_T202 HR0.out x5_1 p189 q189; obtain rfl : ad180 = ad189 := (by injection e189); have HR189_2 := Aside0.mk hi189_2; have HC189_2 := Aside0.mk hl189_2; clear hi189_2 hl189_2; have HR189_6 := Aside0.mk hi189_6; have HC189_6 := Aside0.mk hl189_6; clear hi189_6 hl189_6; have HR189_7 := Aside0.mk hi189_7; have HC189_7 := Aside0.mk hl189_7; clear hi189_7 hl189_7; replace p189 := eq_true p189; replace q189 := eq_true q189; have ea_ := Option.some.inj (hx180_2.symm.trans hx189_2); injection ea_ with ea_ en_ ec_; subst ea_; subst ec_; clear en_; have ea_ := Option.some.inj (hx180_6.symm.trans hx189_6); injection ea_ with ea_ en_ ec_; subst ea_; subst ec_; clear en_; have ea_ := Option.some.inj (hx180_7.symm.trans hx189_7); injection ea_ with ea_ en_ ec_; subst ea_; subst ec_; clear en_) | ((with_reducible refine gate_callee (f := 159) rfl ?_); refine goesL_ (some 91) rfl rfl Try.func159 (by kernel_rfl) rfl #[.slice A180_7 ((rd_T202 l0 x5_1).f3.f2).length c180_7, .int .i64 t188] rfl (by (try simp only [List.map_toArray, List.map_cons, List.map_nil]); first | done | rfl | (simp only [List.length_drop, List.length_take]; rfl)) ?_; (with_reducible refine (laws_heldCallS.calls k1 _ _ ((rd_T202 l0 x5_1).f3.f2) t188 t190 _ ?side1 ?side2 A14.out).mono ?_); (case side1 => repeat (first | exact HR189_7.out | (with_reducible refine Kd.C_alloc ?_ _) | (with_reducible refine Kd.C_drewN ?_ _) | (with_reducible refine Kd.C_drew ?_))); (case side2 => exact HC189_7.out); rintro e w' ⟨rfl, ⟨nd, rfl⟩⟩; refine ⟨_, rfl, ?_⟩))
                          go_roundg k1
                          case measure => have := HK1.out; omega
                          case rel => exact ⟨(t190), (wrap64 (x5_1 + 1)), (by first | rfl | (simp; done) | (simp [*]; done)), (by first | rfl | (simp; done) | (simp [*]; done)), H', ⟨by have := HK1.out; omega⟩, by repeat (first | exact Drawn0.refl _ | apply Drawn0.step)⟩
                    · rw [if_neg c11] at H
                      have c11b0 : (((rd_T202 l0 x5_1).f3.f0.f2) == (wrap64 ((wrap64 (t183 + 1)) + 1))) = false := beq_eq_false_iff_ne.mpr c11
                      have c11b1 : (((rd_T202 l0 x5_1).f3.f0.f2) != (wrap64 ((wrap64 (t183 + 1)) + 1))) = true := bne_iff_ne.mpr c11
                      obtain rfl := Option.some.inj H
                      have p180 : 0 ≤ (x5_1 : Int) := of_decide_eq_true (by first | (with_reducible assumption) | assumption)
                      have q180 : x5_1 < (l0.length : Int) := of_decide_eq_true (by first | (with_reducible assumption) | assumption)
                      obtain ⟨ad180, A180_2, c180_2, A180_6, c180_6, A180_7, c180_7, e180, hx180_0, hx180_1, hx180_2, hx180_3, hx180_4, hx180_5, hx180_6, hx180_7, hl180_2, hi180_2, hl180_6, hi180_6, hl180_7, hi180_7⟩ := at_T202 HR0.out x5_1 p180 q180
                      cases e180
                      have HR180_2 := Aside0.mk hi180_2
                      have HC180_2 := Aside0.mk hl180_2
                      clear hi180_2 hl180_2
                      have HR180_6 := Aside0.mk hi180_6
                      have HC180_6 := Aside0.mk hl180_6
                      clear hi180_6 hl180_6
                      have HR180_7 := Aside0.mk hi180_7
                      have HC180_7 := Aside0.mk hl180_7
                      clear hi180_7 hl180_7
                      replace p180 := eq_true p180
                      replace q180 := eq_true q180
                      have p181 : 0 ≤ (x5_1 : Int) := of_decide_eq_true (by first | (with_reducible assumption) | assumption)
                      have q181 : x5_1 < (l0.length : Int) := of_decide_eq_true (by first | (with_reducible assumption) | assumption)
                      obtain ⟨ad181, A181_2, c181_2, A181_6, c181_6, A181_7, c181_7, e181, hx181_0, hx181_1, hx181_2, hx181_3, hx181_4, hx181_5, hx181_6, hx181_7, hl181_2, hi181_2, hl181_6, hi181_6, hl181_7, hi181_7⟩ := at_T202 HR0.out x5_1 p181 q181
                      obtain rfl : ad180 = ad181 := (by injection e181)
                      have HR181_2 := Aside0.mk hi181_2
                      have HC181_2 := Aside0.mk hl181_2
                      clear hi181_2 hl181_2
                      have HR181_6 := Aside0.mk hi181_6
                      have HC181_6 := Aside0.mk hl181_6
                      clear hi181_6 hl181_6
                      have HR181_7 := Aside0.mk hi181_7
                      have HC181_7 := Aside0.mk hl181_7
                      clear hi181_7 hl181_7
                      replace p181 := eq_true p181
                      replace q181 := eq_true q181
                      have ea_ := Option.some.inj (hx180_2.symm.trans hx181_2)
                      injection ea_ with ea_ en_ ec_
                      subst ea_
                      subst ec_
                      clear en_
                      have ea_ := Option.some.inj (hx180_6.symm.trans hx181_6)
                      injection ea_ with ea_ en_ ec_
                      subst ea_
                      subst ec_
                      clear en_
                      have ea_ := Option.some.inj (hx180_7.symm.trans hx181_7)
                      injection ea_ with ea_ en_ ec_
                      subst ea_
                      subst ec_
                      clear en_
                      have p182 : 0 ≤ (x5_1 : Int) := of_decide_eq_true (by first | (with_reducible assumption) | assumption)
                      have q182 : x5_1 < (l0.length : Int) := of_decide_eq_true (by first | (with_reducible assumption) | assumption)
                      obtain ⟨ad182, A182_2, c182_2, A182_6, c182_6, A182_7, c182_7, e182, hx182_0, hx182_1, hx182_2, hx182_3, hx182_4, hx182_5, hx182_6, hx182_7, hl182_2, hi182_2, hl182_6, hi182_6, hl182_7, hi182_7⟩ := at_T202 HR0.out x5_1 p182 q182
                      obtain rfl : ad180 = ad182 := (by injection e182)
                      have HR182_2 := Aside0.mk hi182_2
                      have HC182_2 := Aside0.mk hl182_2
                      clear hi182_2 hl182_2
                      have HR182_6 := Aside0.mk hi182_6
                      have HC182_6 := Aside0.mk hl182_6
                      clear hi182_6 hl182_6
                      have HR182_7 := Aside0.mk hi182_7
                      have HC182_7 := Aside0.mk hl182_7
                      clear hi182_7 hl182_7
                      replace p182 := eq_true p182
                      replace q182 := eq_true q182
                      have ea_ := Option.some.inj (hx180_2.symm.trans hx182_2)
                      injection ea_ with ea_ en_ ec_
                      subst ea_
                      subst ec_
                      clear en_
                      have ea_ := Option.some.inj (hx180_6.symm.trans hx182_6)
                      injection ea_ with ea_ en_ ec_
                      subst ea_
                      subst ec_
                      clear en_
                      have ea_ := Option.some.inj (hx180_7.symm.trans hx182_7)
                      injection ea_ with ea_ en_ ec_
                      subst ea_
                      subst ec_
                      clear en_
                      go_wp2_with (first | ((with_reducible refine gate_callee (f := 158) rfl ?_); refine goesL_ (some 36) rfl rfl Try.func158 (by kernel_rfl) rfl #[.slice A180_2 ((rd_T202 l0 x5_1).f2).length c180_2, .int .i64 (wrap64 ((wrap64 (x1_1 + 1)) + 1))] rfl (by (try simp only [List.map_toArray, List.map_cons, List.map_nil]); first | done | rfl | (simp only [List.length_drop, List.length_take]; rfl)) ?_; (with_reducible refine (laws_heldStateS.calls k1 _ _ ((rd_T202 l0 x5_1).f2) (wrap64 ((wrap64 (x1_1 + 1)) + 1)) t183 _ ?side1 ?side2 A7.out).mono ?_); (case side1 => repeat (first | exact HR182_2.out | (with_reducible refine Kd.C_alloc ?_ _) | (with_reducible refine Kd.C_drewN ?_ _) | (with_reducible refine Kd.C_drew ?_))); (case side2 => exact HC182_2.out); rintro e w' ⟨rfl, ⟨nd, rfl⟩⟩; refine ⟨_, rfl, ?_⟩; have p184 : 0 ≤ (x5_1 : Int) := of_decide_eq_true (by first | (with_reducible assumption) | assumption); have q184 : x5_1 < (l0.length : Int) := of_decide_eq_true (by first | (with_reducible assumption) | assumption); obtain ⟨ad184, A184_2, c184_2, A184_6, c184_6, A184_7, c184_7, e184, hx184_0, hx184_1, hx184_2, hx184_3, hx184_4, hx184_5, hx184_6, hx184_7, hl184_2, hi184_2, hl184_6, hi184_6, hl184_7, hi184_7⟩ := at_T202 HR0.out x5_1 p184 q184; obtain rfl : ad180 = ad184 := (by injection e184); have HR184_2 := Aside0.mk hi184_2; have HC184_2 := Aside0.mk hl184_2; clear hi184_2 hl184_2; have HR184_6 := Aside0.mk hi184_6; have HC184_6 := Aside0.mk hl184_6; clear hi184_6 hl184_6; have HR184_7 := Aside0.mk hi184_7; have HC184_7 := Aside0.mk hl184_7; clear hi184_7 hl184_7; replace p184 := eq_true p184; replace q184 := eq_true q184; have ea_ := Option.some.inj (hx180_2.symm.trans hx184_2); injection ea_ with ea_ en_ ec_; subst ea_; subst ec_; clear en_; have ea_ := Option.some.inj (hx180_6.symm.trans hx184_6); injection ea_ with ea_ en_ ec_; subst ea_; subst ec_; clear en_; have ea_ := Option.some.inj (hx180_7.symm.trans hx184_7); injection ea_ with ea_ en_ ec_; subst ea_; subst ec_; clear en_; have p185 : 0 ≤ (x5_1 : Int) := of_decide_eq_true (by first | (with_reducible assumption) | assumption); have q185 : x5_1 < (l0.length : Int) := of_decide_eq_true (by first | (with_reducible assumption) | assumption); obtain ⟨ad185, A185_2, c185_2, A185_6, c185_6, A185_7, c185_7, e185, hx185_0, hx185_1, hx185_2, hx185_3, hx185_4, hx185_5, hx185_6, hx185_7, hl185_2, hi185_2, hl185_6, hi185_6, hl185_7, hi185_7⟩ := at_T202 HR0.out x5_1 p185 q185; obtain rfl : ad180 = ad185 := (by injection e185); have HR185_2 := Aside0.mk hi185_2; have HC185_2 := Aside0.mk hl185_2; clear hi185_2 hl185_2; have HR185_6 := Aside0.mk hi185_6; have HC185_6 := Aside0.mk hl185_6; clear hi185_6 hl185_6; have HR185_7 := Aside0.mk hi185_7; have HC185_7 := Aside0.mk hl185_7; clear hi185_7 hl185_7; replace p185 := eq_true p185; replace q185 := eq_true q185; have ea_ := Option.some.inj (hx180_2.symm.trans hx185_2); injection ea_ with ea_ en_ ec_; subst ea_; subst ec_; clear en_; have ea_ := Option.some.inj (hx180_6.symm.trans hx185_6); injection ea_ with ea_ en_ ec_; subst ea_; subst ec_; clear en_; have ea_ := Option.some.inj (hx180_7.symm.trans hx185_7); injection ea_ with ea_ en_ ec_; subst ea_; subst ec_; clear en_; have p186 : 0 ≤ (x5_1 : Int) := of_decide_eq_true (by first | (with_reducible assumption) | assumption); have q186 : x5_1 < (l0.length : Int) := of_decide_eq_true (by first | (with_reducible assumption) | assumption); obtain ⟨ad186, A186_2, c186_2, A186_6, c186_6, A186_7, c186_7, e186, hx186_0, hx186_1, hx186_2, hx186_3, hx186_4, hx186_5, hx186_6, hx186_7, hl186_2, hi186_2, hl186_6, hi186_6, hl186_7, hi186_7⟩ := at_T202 HR0.out x5_1 p186 q186; obtain rfl : ad180 = ad186 := (by injection e186); have HR186_2 := Aside0.mk hi186_2; have HC186_2 := Aside0.mk hl186_2; clear hi186_2 hl186_2; have HR186_6 := Aside0.mk hi186_6; have HC186_6 := Aside0.mk hl186_6; clear hi186_6 hl186_6; have HR186_7 := Aside0.mk hi186_7; have HC186_7 := Aside0.mk hl186_7; clear hi186_7 hl186_7; replace p186 := eq_true p186; replace q186 := eq_true q186; have ea_ := Option.some.inj (hx180_2.symm.trans hx186_2); injection ea_ with ea_ en_ ec_; subst ea_; subst ec_; clear en_; have ea_ := Option.some.inj (hx180_6.symm.trans hx186_6); injection ea_ with ea_ en_ ec_; subst ea_; subst ec_; clear en_; have ea_ := Option.some.inj (hx180_7.symm.trans hx186_7); injection ea_ with ea_ en_ ec_; subst ea_; subst ec_; clear en_))
                      go_ret
                      exact ⟨by first | rfl | (simp; done) | (simp [*]; done), by repeat (first | exact Drawn0.refl _ | apply Drawn0.step)⟩
                  · rw [if_neg c10] at H
                    have c10b0 : (((rd_T202 l0 x5_1).f3.f0.f1) == (wrap64 (t183 + 1))) = false := beq_eq_false_iff_ne.mpr c10
                    have c10b1 : (((rd_T202 l0 x5_1).f3.f0.f1) != (wrap64 (t183 + 1))) = true := bne_iff_ne.mpr c10
                    obtain rfl := Option.some.inj H
                    have p180 : 0 ≤ (x5_1 : Int) := of_decide_eq_true (by first | (with_reducible assumption) | assumption)
                    have q180 : x5_1 < (l0.length : Int) := of_decide_eq_true (by first | (with_reducible assumption) | assumption)
                    obtain ⟨ad180, A180_2, c180_2, A180_6, c180_6, A180_7, c180_7, e180, hx180_0, hx180_1, hx180_2, hx180_3, hx180_4, hx180_5, hx180_6, hx180_7, hl180_2, hi180_2, hl180_6, hi180_6, hl180_7, hi180_7⟩ := at_T202 HR0.out x5_1 p180 q180
                    cases e180
                    have HR180_2 := Aside0.mk hi180_2
                    have HC180_2 := Aside0.mk hl180_2
                    clear hi180_2 hl180_2
                    have HR180_6 := Aside0.mk hi180_6
                    have HC180_6 := Aside0.mk hl180_6
                    clear hi180_6 hl180_6
                    have HR180_7 := Aside0.mk hi180_7
                    have HC180_7 := Aside0.mk hl180_7
                    clear hi180_7 hl180_7
                    replace p180 := eq_true p180
                    replace q180 := eq_true q180
                    have p181 : 0 ≤ (x5_1 : Int) := of_decide_eq_true (by first | (with_reducible assumption) | assumption)
                    have q181 : x5_1 < (l0.length : Int) := of_decide_eq_true (by first | (with_reducible assumption) | assumption)
                    obtain ⟨ad181, A181_2, c181_2, A181_6, c181_6, A181_7, c181_7, e181, hx181_0, hx181_1, hx181_2, hx181_3, hx181_4, hx181_5, hx181_6, hx181_7, hl181_2, hi181_2, hl181_6, hi181_6, hl181_7, hi181_7⟩ := at_T202 HR0.out x5_1 p181 q181
                    obtain rfl : ad180 = ad181 := (by injection e181)
                    have HR181_2 := Aside0.mk hi181_2
                    have HC181_2 := Aside0.mk hl181_2
                    clear hi181_2 hl181_2
                    have HR181_6 := Aside0.mk hi181_6
                    have HC181_6 := Aside0.mk hl181_6
                    clear hi181_6 hl181_6
                    have HR181_7 := Aside0.mk hi181_7
                    have HC181_7 := Aside0.mk hl181_7
                    clear hi181_7 hl181_7
                    replace p181 := eq_true p181
                    replace q181 := eq_true q181
                    have ea_ := Option.some.inj (hx180_2.symm.trans hx181_2)
                    injection ea_ with ea_ en_ ec_
                    subst ea_
                    subst ec_
                    clear en_
                    have ea_ := Option.some.inj (hx180_6.symm.trans hx181_6)
                    injection ea_ with ea_ en_ ec_
                    subst ea_
                    subst ec_
                    clear en_
                    have ea_ := Option.some.inj (hx180_7.symm.trans hx181_7)
                    injection ea_ with ea_ en_ ec_
                    subst ea_
                    subst ec_
                    clear en_
                    have p182 : 0 ≤ (x5_1 : Int) := of_decide_eq_true (by first | (with_reducible assumption) | assumption)
                    have q182 : x5_1 < (l0.length : Int) := of_decide_eq_true (by first | (with_reducible assumption) | assumption)
                    obtain ⟨ad182, A182_2, c182_2, A182_6, c182_6, A182_7, c182_7, e182, hx182_0, hx182_1, hx182_2, hx182_3, hx182_4, hx182_5, hx182_6, hx182_7, hl182_2, hi182_2, hl182_6, hi182_6, hl182_7, hi182_7⟩ := at_T202 HR0.out x5_1 p182 q182
                    obtain rfl : ad180 = ad182 := (by injection e182)
                    have HR182_2 := Aside0.mk hi182_2
                    have HC182_2 := Aside0.mk hl182_2
                    clear hi182_2 hl182_2
                    have HR182_6 := Aside0.mk hi182_6
                    have HC182_6 := Aside0.mk hl182_6
                    clear hi182_6 hl182_6
                    have HR182_7 := Aside0.mk hi182_7
                    have HC182_7 := Aside0.mk hl182_7
                    clear hi182_7 hl182_7
                    replace p182 := eq_true p182
                    replace q182 := eq_true q182
                    have ea_ := Option.some.inj (hx180_2.symm.trans hx182_2)
                    injection ea_ with ea_ en_ ec_
                    subst ea_
                    subst ec_
                    clear en_
                    have ea_ := Option.some.inj (hx180_6.symm.trans hx182_6)
                    injection ea_ with ea_ en_ ec_
                    subst ea_
                    subst ec_
                    clear en_
                    have ea_ := Option.some.inj (hx180_7.symm.trans hx182_7)
                    injection ea_ with ea_ en_ ec_
                    subst ea_
                    subst ec_
                    clear en_
                    go_wp2_with (first | ((with_reducible refine gate_callee (f := 158) rfl ?_); refine goesL_ (some 36) rfl rfl Try.func158 (by kernel_rfl) rfl #[.slice A180_2 ((rd_T202 l0 x5_1).f2).length c180_2, .int .i64 (wrap64 ((wrap64 (x1_1 + 1)) + 1))] rfl (by (try simp only [List.map_toArray, List.map_cons, List.map_nil]); first | done | rfl | (simp only [List.length_drop, List.length_take]; rfl)) ?_; (with_reducible refine (laws_heldStateS.calls k1 _ _ ((rd_T202 l0 x5_1).f2) (wrap64 ((wrap64 (x1_1 + 1)) + 1)) t183 _ ?side1 ?side2 A7.out).mono ?_); (case side1 => repeat (first | exact HR182_2.out | (with_reducible refine Kd.C_alloc ?_ _) | (with_reducible refine Kd.C_drewN ?_ _) | (with_reducible refine Kd.C_drew ?_))); (case side2 => exact HC182_2.out); rintro e w' ⟨rfl, ⟨nd, rfl⟩⟩; refine ⟨_, rfl, ?_⟩; have p184 : 0 ≤ (x5_1 : Int) := of_decide_eq_true (by first | (with_reducible assumption) | assumption); have q184 : x5_1 < (l0.length : Int) := of_decide_eq_true (by first | (with_reducible assumption) | assumption); obtain ⟨ad184, A184_2, c184_2, A184_6, c184_6, A184_7, c184_7, e184, hx184_0, hx184_1, hx184_2, hx184_3, hx184_4, hx184_5, hx184_6, hx184_7, hl184_2, hi184_2, hl184_6, hi184_6, hl184_7, hi184_7⟩ := at_T202 HR0.out x5_1 p184 q184; obtain rfl : ad180 = ad184 := (by injection e184); have HR184_2 := Aside0.mk hi184_2; have HC184_2 := Aside0.mk hl184_2; clear hi184_2 hl184_2; have HR184_6 := Aside0.mk hi184_6; have HC184_6 := Aside0.mk hl184_6; clear hi184_6 hl184_6; have HR184_7 := Aside0.mk hi184_7; have HC184_7 := Aside0.mk hl184_7; clear hi184_7 hl184_7; replace p184 := eq_true p184; replace q184 := eq_true q184; have ea_ := Option.some.inj (hx180_2.symm.trans hx184_2); injection ea_ with ea_ en_ ec_; subst ea_; subst ec_; clear en_; have ea_ := Option.some.inj (hx180_6.symm.trans hx184_6); injection ea_ with ea_ en_ ec_; subst ea_; subst ec_; clear en_; have ea_ := Option.some.inj (hx180_7.symm.trans hx184_7); injection ea_ with ea_ en_ ec_; subst ea_; subst ec_; clear en_; have p185 : 0 ≤ (x5_1 : Int) := of_decide_eq_true (by first | (with_reducible assumption) | assumption); have q185 : x5_1 < (l0.length : Int) := of_decide_eq_true (by first | (with_reducible assumption) | assumption); obtain ⟨ad185, A185_2, c185_2, A185_6, c185_6, A185_7, c185_7, e185, hx185_0, hx185_1, hx185_2, hx185_3, hx185_4, hx185_5, hx185_6, hx185_7, hl185_2, hi185_2, hl185_6, hi185_6, hl185_7, hi185_7⟩ := at_T202 HR0.out x5_1 p185 q185; obtain rfl : ad180 = ad185 := (by injection e185); have HR185_2 := Aside0.mk hi185_2; have HC185_2 := Aside0.mk hl185_2; clear hi185_2 hl185_2; have HR185_6 := Aside0.mk hi185_6; have HC185_6 := Aside0.mk hl185_6; clear hi185_6 hl185_6; have HR185_7 := Aside0.mk hi185_7; have HC185_7 := Aside0.mk hl185_7; clear hi185_7 hl185_7; replace p185 := eq_true p185; replace q185 := eq_true q185; have ea_ := Option.some.inj (hx180_2.symm.trans hx185_2); injection ea_ with ea_ en_ ec_; subst ea_; subst ec_; clear en_; have ea_ := Option.some.inj (hx180_6.symm.trans hx185_6); injection ea_ with ea_ en_ ec_; subst ea_; subst ec_; clear en_; have ea_ := Option.some.inj (hx180_7.symm.trans hx185_7); injection ea_ with ea_ en_ ec_; subst ea_; subst ec_; clear en_))
                    go_ret
                    exact ⟨by first | rfl | (simp; done) | (simp [*]; done), by repeat (first | exact Drawn0.refl _ | apply Drawn0.step)⟩
            · rw [if_neg c6] at H
              have c6b0 : (((rd_T202 l0 x5_1).f1) == (wrap64 (x1_1 + 1))) = false := beq_eq_false_iff_ne.mpr c6
              have c6b1 : (((rd_T202 l0 x5_1).f1) != (wrap64 (x1_1 + 1))) = true := bne_iff_ne.mpr c6
              obtain rfl := Option.some.inj H
              have p180 : 0 ≤ (x5_1 : Int) := of_decide_eq_true (by first | (with_reducible assumption) | assumption)
              have q180 : x5_1 < (l0.length : Int) := of_decide_eq_true (by first | (with_reducible assumption) | assumption)
              obtain ⟨ad180, A180_2, c180_2, A180_6, c180_6, A180_7, c180_7, e180, hx180_0, hx180_1, hx180_2, hx180_3, hx180_4, hx180_5, hx180_6, hx180_7, hl180_2, hi180_2, hl180_6, hi180_6, hl180_7, hi180_7⟩ := at_T202 HR0.out x5_1 p180 q180
              cases e180
              have HR180_2 := Aside0.mk hi180_2
              have HC180_2 := Aside0.mk hl180_2
              clear hi180_2 hl180_2
              have HR180_6 := Aside0.mk hi180_6
              have HC180_6 := Aside0.mk hl180_6
              clear hi180_6 hl180_6
              have HR180_7 := Aside0.mk hi180_7
              have HC180_7 := Aside0.mk hl180_7
              clear hi180_7 hl180_7
              replace p180 := eq_true p180
              replace q180 := eq_true q180
              have p181 : 0 ≤ (x5_1 : Int) := of_decide_eq_true (by first | (with_reducible assumption) | assumption)
              have q181 : x5_1 < (l0.length : Int) := of_decide_eq_true (by first | (with_reducible assumption) | assumption)
              obtain ⟨ad181, A181_2, c181_2, A181_6, c181_6, A181_7, c181_7, e181, hx181_0, hx181_1, hx181_2, hx181_3, hx181_4, hx181_5, hx181_6, hx181_7, hl181_2, hi181_2, hl181_6, hi181_6, hl181_7, hi181_7⟩ := at_T202 HR0.out x5_1 p181 q181
              obtain rfl : ad180 = ad181 := (by injection e181)
              have HR181_2 := Aside0.mk hi181_2
              have HC181_2 := Aside0.mk hl181_2
              clear hi181_2 hl181_2
              have HR181_6 := Aside0.mk hi181_6
              have HC181_6 := Aside0.mk hl181_6
              clear hi181_6 hl181_6
              have HR181_7 := Aside0.mk hi181_7
              have HC181_7 := Aside0.mk hl181_7
              clear hi181_7 hl181_7
              replace p181 := eq_true p181
              replace q181 := eq_true q181
              have ea_ := Option.some.inj (hx180_2.symm.trans hx181_2)
              injection ea_ with ea_ en_ ec_
              subst ea_
              subst ec_
              clear en_
              have ea_ := Option.some.inj (hx180_6.symm.trans hx181_6)
              injection ea_ with ea_ en_ ec_
              subst ea_
              subst ec_
              clear en_
              have ea_ := Option.some.inj (hx180_7.symm.trans hx181_7)
              injection ea_ with ea_ en_ ec_
              subst ea_
              subst ec_
              clear en_
              go_wp2
              go_ret
              exact ⟨by first | rfl | (simp; done) | (simp [*]; done), by repeat (first | exact Drawn0.refl _ | apply Drawn0.step)⟩
          · rw [if_neg c5] at H
            have c5b0 : (((rd_T202 l0 x5_1).f0) == x1_1) = false := beq_eq_false_iff_ne.mpr c5
            have c5b1 : (((rd_T202 l0 x5_1).f0) != x1_1) = true := bne_iff_ne.mpr c5
            obtain rfl := Option.some.inj H
            have p180 : 0 ≤ (x5_1 : Int) := of_decide_eq_true (by first | (with_reducible assumption) | assumption)
            have q180 : x5_1 < (l0.length : Int) := of_decide_eq_true (by first | (with_reducible assumption) | assumption)
            obtain ⟨ad180, A180_2, c180_2, A180_6, c180_6, A180_7, c180_7, e180, hx180_0, hx180_1, hx180_2, hx180_3, hx180_4, hx180_5, hx180_6, hx180_7, hl180_2, hi180_2, hl180_6, hi180_6, hl180_7, hi180_7⟩ := at_T202 HR0.out x5_1 p180 q180
            cases e180
            have HR180_2 := Aside0.mk hi180_2
            have HC180_2 := Aside0.mk hl180_2
            clear hi180_2 hl180_2
            have HR180_6 := Aside0.mk hi180_6
            have HC180_6 := Aside0.mk hl180_6
            clear hi180_6 hl180_6
            have HR180_7 := Aside0.mk hi180_7
            have HC180_7 := Aside0.mk hl180_7
            clear hi180_7 hl180_7
            replace p180 := eq_true p180
            replace q180 := eq_true q180
            go_wp2
            go_ret
            exact ⟨by first | rfl | (simp; done) | (simp [*]; done), by repeat (first | exact Drawn0.refl _ | apply Drawn0.step)⟩
        · rw [if_neg c4] at H
          exact absurd H (by simp)
      · rw [if_neg c3] at H
        have c3b0 : decide (x5_1 < (l0.length : Int)) = false := decide_eq_false c3
        clear c3
        obtain rfl := Option.some.inj H
        go_wp2
        go_ret
        exact ⟨by first | rfl | (simp; done) | (simp [*]; done), by repeat (first | exact Drawn0.refl _ | apply Drawn0.step)⟩

end Go.Proofs.Ytnnaeoicoghheaa.P
