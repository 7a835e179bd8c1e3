/- The contracts of Go functions of this seat: each call comes to what the Lean function of the same name says. -/
import Derived.Test.YtekmapilhomdgaaPx0
import Derived.Test.YtekmapilhomdgaaPx1
import Derived.Test.YtekmapilhomdgaaPx6
import Derived.Test.YtekmapilhomdgaaPx13
import Derived.Test.YtekmapilhomdgaaPx20
import Derived.Test.YtekmapilhomdgaaPx26
import Derived.Test.YtekmapilhomdgaaPx38
import Derived.Test.YtekmapilhomdgaaPx39
import Derived.Test.YtekmapilhomdgaaPx42
namespace Go.Proofs.Ytekmapilhomdgaa.P
open Go.RowKit Go.Proofs.YtekmapilhomdgaaW.PrintWords Go.Proofs.YtekmapilhomdgaaW.PrintLast Go.Proofs.YtekmapilhomdgaaW.PrintMore
attribute [local go_sem] max2_int min2_int max_two min_two max_three min_three max_four min_four   -- for this text's walks alone
set_option linter.unusedVariables false
set_option linter.unusedSimpArgs false

attribute [local go_sem high] eqA30
/-! ### laws_FnSpanWhen: function 9 -/
mutual
def laws_FnSpanWhen.j0 : Nat → Int → Bool → Bool → Bool → Int → Int → Bool → Int → Int → Bool → Int → Int → Bool → Int → Int → Bool → Int → Int → Bool → Int → Int → Option (Bool)
  | 0, _, _, _, _, _, _, _, _, _, _, _, _, _, _, _, _, _, _, _, _, _ => none
  | k + 1, x3, x6, x68, x646000, x646001, x646002, x647000, x647001, x647002, x654000, x654001, x654002, x655000, x655001, x655002, x662000, x662001, x662002, x663000, x663001, x663002 => if x68 = true then (if (x654000 == x662000 && (x654001 == x662001 && (x654002 == x662002))) = true then (some (x655000 == x663000 && (x655001 == x663001 && (x655002 == x663002)))) else (some false)) else (laws_FnSpanWhen.l0 k x3 x6 (-16) x646000 x646001 x646002 x647000 x647001 x647002 x654000 x654001 x654002 x655000 x655001 x655002 false 0 0 false 0 0)
def laws_FnSpanWhen.l0 : Nat → Int → Bool → Int → Bool → Int → Int → Bool → Int → Int → Bool → Int → Int → Bool → Int → Int → Bool → Int → Int → Bool → Int → Int → Option (Bool)
  | 0, _, _, _, _, _, _, _, _, _, _, _, _, _, _, _, _, _, _, _, _, _ => none
  | k + 1, x3, x6, x13, x646000, x646001, x646002, x647000, x647001, x647002, x654000, x654001, x654002, x655000, x655001, x655002, x666000, x666001, x666002, x667000, x667001, x667002 => if x13 ≤ 15 then (laws_FnSpanWhen.l1 k x3 x6 x13 (-16) x646000 x646001 x646002 x647000 x647001 x647002 x654000 x654001 x654002 x655000 x655001 x655002 x666000 x666001 x666002 x667000 x667001 x667002) else (if (x654000 == x666000 && (x654001 == x666001 && (x654002 == x666002))) = true then (some (x655000 == x667000 && (x655001 == x667001 && (x655002 == x667002)))) else (some false))
def laws_FnSpanWhen.l1 : Nat → Int → Bool → Int → Int → Bool → Int → Int → Bool → Int → Int → Bool → Int → Int → Bool → Int → Int → Bool → Int → Int → Bool → Int → Int → Option (Bool)
  | 0, _, _, _, _, _, _, _, _, _, _, _, _, _, _, _, _, _, _, _, _, _, _ => none
  | k + 1, x3, x6, x13, x14, x646000, x646001, x646002, x647000, x647001, x647002, x654000, x654001, x654002, x655000, x655001, x655002, x666000, x666001, x666002, x667000, x667001, x667002 => if x14 ≤ 15 then ((impl_NumDo.f k x3 x13 x14).bind fun bt667 => ((impl_SpanHas.f x646000 x646001 x646002 x13).bind fun t669 => (if t669 = true then ((impl_SpanHas.f x647000 x647001 x647002 x14).bind fun t670 => (if t670 = true then (laws_FnSpanWhen.j3 k x3 x6 x13 x14 ((bt667.1 == 1) == x6) x646000 x646001 x646002 x647000 x647001 x647002 x654000 x654001 x654002 x655000 x655001 x655002 x666000 x666001 x666002 x667000 x667001 x667002) else (laws_FnSpanWhen.j3 k x3 x6 x13 x14 false x646000 x646001 x646002 x647000 x647001 x647002 x654000 x654001 x654002 x655000 x655001 x655002 x666000 x666001 x666002 x667000 x667001 x667002))) else (laws_FnSpanWhen.j3 k x3 x6 x13 x14 false x646000 x646001 x646002 x647000 x647001 x647002 x654000 x654001 x654002 x655000 x655001 x655002 x666000 x666001 x666002 x667000 x667001 x667002)))) else (laws_FnSpanWhen.l0 k x3 x6 (wrap64 (x13 + 1)) x646000 x646001 x646002 x647000 x647001 x647002 x654000 x654001 x654002 x655000 x655001 x655002 x666000 x666001 x666002 x667000 x667001 x667002)
def laws_FnSpanWhen.j3 : Nat → Int → Bool → Int → Int → Bool → Bool → Int → Int → Bool → Int → Int → Bool → Int → Int → Bool → Int → Int → Bool → Int → Int → Bool → Int → Int → Option (Bool)
  | 0, _, _, _, _, _, _, _, _, _, _, _, _, _, _, _, _, _, _, _, _, _, _, _ => none
  | k + 1, x3, x6, x13, x14, x107, x646000, x646001, x646002, x647000, x647001, x647002, x654000, x654001, x654002, x655000, x655001, x655002, x666000, x666001, x666002, x667000, x667001, x667002 => if x107 = true then ((impl_SpanOf.f x13).bind fun bt671 => ((impl_SpanJoin.f k x666000 x666001 x666002 bt671.1 bt671.2.1 bt671.2.2).bind fun bt674 => ((impl_SpanOf.f x14).bind fun bt677 => ((impl_SpanJoin.f k x667000 x667001 x667002 bt677.1 bt677.2.1 bt677.2.2).bind fun bt680 => (laws_FnSpanWhen.l1 k x3 x6 x13 (wrap64 (x14 + 1)) x646000 x646001 x646002 x647000 x647001 x647002 x654000 x654001 x654002 x655000 x655001 x655002 bt674.1 bt674.2.1 bt674.2.2 bt680.1 bt680.2.1 bt680.2.2))))) else (laws_FnSpanWhen.l1 k x3 x6 x13 (wrap64 (x14 + 1)) x646000 x646001 x646002 x647000 x647001 x647002 x654000 x654001 x654002 x655000 x655001 x655002 x666000 x666001 x666002 x667000 x667001 x667002)
end
def laws_FnSpanWhen.f (k : Nat) (l0 : List Int) : Option (Bool) := if (l0.length : Int) > 1048576 then (some true) else ((spec_DrawSpanWhen.f k l0).bind fun bt637 => ((impl_SpanWhen.f k bt637.1 bt637.2.1 bt637.2.2.1 bt637.2.2.2.1 bt637.2.2.2.2.1 bt637.2.2.2.2.2.1 bt637.2.2.2.2.2.2.1 bt637.2.2.2.2.2.2.2).bind fun bt647 => ((spec_SpanWhen.f k bt637.1 bt637.2.1 bt637.2.2.1 bt637.2.2.2.1 bt637.2.2.2.2.1 bt637.2.2.2.2.2.1 bt637.2.2.2.2.2.2.1 bt637.2.2.2.2.2.2.2).bind fun bt655 => (if (!(bt647.1 == bt655.1) || (!(bt647.2.1 == bt655.2.1) || (!(bt647.2.2.1 == bt655.2.2.1)))) = true then (laws_FnSpanWhen.j0 k bt637.1 bt637.2.2.2.2.2.2.2 true bt637.2.1 bt637.2.2.1 bt637.2.2.2.1 bt637.2.2.2.2.1 bt637.2.2.2.2.2.1 bt637.2.2.2.2.2.2.1 bt647.1 bt647.2.1 bt647.2.2.1 bt647.2.2.2.1 bt647.2.2.2.2.1 bt647.2.2.2.2.2 bt655.1 bt655.2.1 bt655.2.2.1 bt655.2.2.2.1 bt655.2.2.2.2.1 bt655.2.2.2.2.2) else (if (!(bt647.2.2.2.1 == bt655.2.2.2.1) || (!(bt647.2.2.2.2.1 == bt655.2.2.2.2.1) || (!(bt647.2.2.2.2.2 == bt655.2.2.2.2.2)))) = true then (laws_FnSpanWhen.j0 k bt637.1 bt637.2.2.2.2.2.2.2 true bt637.2.1 bt637.2.2.1 bt637.2.2.2.1 bt637.2.2.2.2.1 bt637.2.2.2.2.2.1 bt637.2.2.2.2.2.2.1 bt647.1 bt647.2.1 bt647.2.2.1 bt647.2.2.2.1 bt647.2.2.2.2.1 bt647.2.2.2.2.2 bt655.1 bt655.2.1 bt655.2.2.1 bt655.2.2.2.1 bt655.2.2.2.2.1 bt655.2.2.2.2.2) else ((spec_SpanOk.f bt637.2.1 bt637.2.2.1 bt637.2.2.2.1).bind fun t663 => (if t663 = true then ((spec_SpanOk.f bt637.2.2.2.2.1 bt637.2.2.2.2.2.1 bt637.2.2.2.2.2.2.1).bind fun t664 => (if t664 = true then (if bt637.1 = 5 then (laws_FnSpanWhen.j0 k bt637.1 bt637.2.2.2.2.2.2.2 false bt637.2.1 bt637.2.2.1 bt637.2.2.2.1 bt637.2.2.2.2.1 bt637.2.2.2.2.2.1 bt637.2.2.2.2.2.2.1 bt647.1 bt647.2.1 bt647.2.2.1 bt647.2.2.2.1 bt647.2.2.2.2.1 bt647.2.2.2.2.2 bt655.1 bt655.2.1 bt655.2.2.1 bt655.2.2.2.1 bt655.2.2.2.2.1 bt655.2.2.2.2.2) else (laws_FnSpanWhen.j0 k bt637.1 bt637.2.2.2.2.2.2.2 (bt637.1 != 6) bt637.2.1 bt637.2.2.1 bt637.2.2.2.1 bt637.2.2.2.2.1 bt637.2.2.2.2.2.1 bt637.2.2.2.2.2.2.1 bt647.1 bt647.2.1 bt647.2.2.1 bt647.2.2.2.1 bt647.2.2.2.2.1 bt647.2.2.2.2.2 bt655.1 bt655.2.1 bt655.2.2.1 bt655.2.2.2.1 bt655.2.2.2.2.1 bt655.2.2.2.2.2)) else (laws_FnSpanWhen.j0 k bt637.1 bt637.2.2.2.2.2.2.2 true bt637.2.1 bt637.2.2.1 bt637.2.2.2.1 bt637.2.2.2.2.1 bt637.2.2.2.2.2.1 bt637.2.2.2.2.2.2.1 bt647.1 bt647.2.1 bt647.2.2.1 bt647.2.2.2.1 bt647.2.2.2.2.1 bt647.2.2.2.2.2 bt655.1 bt655.2.1 bt655.2.2.1 bt655.2.2.2.1 bt655.2.2.2.2.1 bt655.2.2.2.2.2))) else (laws_FnSpanWhen.j0 k bt637.1 bt637.2.2.2.2.2.2.2 true bt637.2.1 bt637.2.2.1 bt637.2.2.2.1 bt637.2.2.2.2.1 bt637.2.2.2.2.2.1 bt637.2.2.2.2.2.2.1 bt647.1 bt647.2.1 bt647.2.2.1 bt647.2.2.2.1 bt647.2.2.2.2.1 bt647.2.2.2.2.2 bt655.1 bt655.2.1 bt655.2.2.1 bt655.2.2.2.1 bt655.2.2.2.2.1 bt655.2.2.2.2.2))))))))
theorem laws_FnSpanWhen.mono_l : ∀ k, (∀ y0 y1 y2 y3 y4 y5 y6 y7 y8 y9 y10 y11 y12 y13 y14 y15 y16 y17 y18 y19 y20, LeO (laws_FnSpanWhen.j0 k y0 y1 y2 y3 y4 y5 y6 y7 y8 y9 y10 y11 y12 y13 y14 y15 y16 y17 y18 y19 y20) (laws_FnSpanWhen.j0 (k + 1) y0 y1 y2 y3 y4 y5 y6 y7 y8 y9 y10 y11 y12 y13 y14 y15 y16 y17 y18 y19 y20)) ∧ (∀ y0 y1 y2 y3 y4 y5 y6 y7 y8 y9 y10 y11 y12 y13 y14 y15 y16 y17 y18 y19 y20, LeO (laws_FnSpanWhen.l0 k y0 y1 y2 y3 y4 y5 y6 y7 y8 y9 y10 y11 y12 y13 y14 y15 y16 y17 y18 y19 y20) (laws_FnSpanWhen.l0 (k + 1) y0 y1 y2 y3 y4 y5 y6 y7 y8 y9 y10 y11 y12 y13 y14 y15 y16 y17 y18 y19 y20)) ∧ (∀ y0 y1 y2 y3 y4 y5 y6 y7 y8 y9 y10 y11 y12 y13 y14 y15 y16 y17 y18 y19 y20 y21, LeO (laws_FnSpanWhen.l1 k y0 y1 y2 y3 y4 y5 y6 y7 y8 y9 y10 y11 y12 y13 y14 y15 y16 y17 y18 y19 y20 y21) (laws_FnSpanWhen.l1 (k + 1) y0 y1 y2 y3 y4 y5 y6 y7 y8 y9 y10 y11 y12 y13 y14 y15 y16 y17 y18 y19 y20 y21)) ∧ (∀ y0 y1 y2 y3 y4 y5 y6 y7 y8 y9 y10 y11 y12 y13 y14 y15 y16 y17 y18 y19 y20 y21 y22, LeO (laws_FnSpanWhen.j3 k y0 y1 y2 y3 y4 y5 y6 y7 y8 y9 y10 y11 y12 y13 y14 y15 y16 y17 y18 y19 y20 y21 y22) (laws_FnSpanWhen.j3 (k + 1) y0 y1 y2 y3 y4 y5 y6 y7 y8 y9 y10 y11 y12 y13 y14 y15 y16 y17 y18 y19 y20 y21 y22))
  | 0 => ⟨fun _ _ _ _ _ _ _ _ _ _ _ _ _ _ _ _ _ _ _ _ _ r h => by simp [laws_FnSpanWhen.j0] at h, fun _ _ _ _ _ _ _ _ _ _ _ _ _ _ _ _ _ _ _ _ _ r h => by simp [laws_FnSpanWhen.l0] at h, fun _ _ _ _ _ _ _ _ _ _ _ _ _ _ _ _ _ _ _ _ _ _ r h => by simp [laws_FnSpanWhen.l1] at h, fun _ _ _ _ _ _ _ _ _ _ _ _ _ _ _ _ _ _ _ _ _ _ _ r h => by simp [laws_FnSpanWhen.j3] at h⟩
  | k + 1 => by
    obtain ⟨ih0, ih1, ih2, ih3⟩ := laws_FnSpanWhen.mono_l k
    refine ⟨?_, ?_, ?_, ?_⟩
    · intro y0 y1 y2 y3 y4 y5 y6 y7 y8 y9 y10 y11 y12 y13 y14 y15 y16 y17 y18 y19 y20
      unfold laws_FnSpanWhen.j0
      repeat' first
      | (with_reducible exact ih0 _ _ _ _ _ _ _ _ _ _ _ _ _ _ _ _ _ _ _ _ _)
      | (with_reducible exact ih1 _ _ _ _ _ _ _ _ _ _ _ _ _ _ _ _ _ _ _ _ _)
      | (with_reducible exact ih2 _ _ _ _ _ _ _ _ _ _ _ _ _ _ _ _ _ _ _ _ _ _)
      | (with_reducible exact ih3 _ _ _ _ _ _ _ _ _ _ _ _ _ _ _ _ _ _ _ _ _ _ _)
      | (with_reducible exact impl_NumDo.mono _ _ _ _)
      | (with_reducible exact impl_SpanJoin.mono _ _ _ _ _ _ _)
      | (with_reducible exact impl_SpanWhen.mono _ _ _ _ _ _ _ _ _)
      | (with_reducible exact spec_DrawSpanWhen.mono _ _)
      | (with_reducible exact spec_SpanWhen.mono _ _ _ _ _ _ _ _ _)
      | (with_reducible exact LeO.refl _)
      | (with_reducible exact LeO.none _)
      | (with_reducible refine LeO.ite ?_ ?_)
      | (with_reducible refine LeO.bind ?_ (fun _ => ?_))
      | exact ih0 _ _ _ _ _ _ _ _ _ _ _ _ _ _ _ _ _ _ _ _ _
      | exact ih1 _ _ _ _ _ _ _ _ _ _ _ _ _ _ _ _ _ _ _ _ _
      | exact ih2 _ _ _ _ _ _ _ _ _ _ _ _ _ _ _ _ _ _ _ _ _ _
      | exact ih3 _ _ _ _ _ _ _ _ _ _ _ _ _ _ _ _ _ _ _ _ _ _ _
      | exact impl_NumDo.mono _ _ _ _
      | exact impl_SpanJoin.mono _ _ _ _ _ _ _
      | exact impl_SpanWhen.mono _ _ _ _ _ _ _ _ _
      | exact spec_DrawSpanWhen.mono _ _
      | exact spec_SpanWhen.mono _ _ _ _ _ _ _ _ _
      | exact LeO.none _
      | refine LeO.ite ?_ ?_
      | refine LeO.bind ?_ (fun _ => ?_)
    · intro y0 y1 y2 y3 y4 y5 y6 y7 y8 y9 y10 y11 y12 y13 y14 y15 y16 y17 y18 y19 y20
      unfold laws_FnSpanWhen.l0
      repeat' first
      | (with_reducible exact ih0 _ _ _ _ _ _ _ _ _ _ _ _ _ _ _ _ _ _ _ _ _)
      | (with_reducible exact ih1 _ _ _ _ _ _ _ _ _ _ _ _ _ _ _ _ _ _ _ _ _)
      | (with_reducible exact ih2 _ _ _ _ _ _ _ _ _ _ _ _ _ _ _ _ _ _ _ _ _ _)
      | (with_reducible exact ih3 _ _ _ _ _ _ _ _ _ _ _ _ _ _ _ _ _ _ _ _ _ _ _)
      | (with_reducible exact impl_NumDo.mono _ _ _ _)
      | (with_reducible exact impl_SpanJoin.mono _ _ _ _ _ _ _)
      | (with_reducible exact impl_SpanWhen.mono _ _ _ _ _ _ _ _ _)
      | (with_reducible exact spec_DrawSpanWhen.mono _ _)
      | (with_reducible exact spec_SpanWhen.mono _ _ _ _ _ _ _ _ _)
      | (with_reducible exact LeO.refl _)
      | (with_reducible exact LeO.none _)
      | (with_reducible refine LeO.ite ?_ ?_)
      | (with_reducible refine LeO.bind ?_ (fun _ => ?_))
      | exact ih0 _ _ _ _ _ _ _ _ _ _ _ _ _ _ _ _ _ _ _ _ _
      | exact ih1 _ _ _ _ _ _ _ _ _ _ _ _ _ _ _ _ _ _ _ _ _
      | exact ih2 _ _ _ _ _ _ _ _ _ _ _ _ _ _ _ _ _ _ _ _ _ _
      | exact ih3 _ _ _ _ _ _ _ _ _ _ _ _ _ _ _ _ _ _ _ _ _ _ _
      | exact impl_NumDo.mono _ _ _ _
      | exact impl_SpanJoin.mono _ _ _ _ _ _ _
      | exact impl_SpanWhen.mono _ _ _ _ _ _ _ _ _
      | exact spec_DrawSpanWhen.mono _ _
      | exact spec_SpanWhen.mono _ _ _ _ _ _ _ _ _
      | exact LeO.none _
      | refine LeO.ite ?_ ?_
      | refine LeO.bind ?_ (fun _ => ?_)
    · intro y0 y1 y2 y3 y4 y5 y6 y7 y8 y9 y10 y11 y12 y13 y14 y15 y16 y17 y18 y19 y20 y21
      unfold laws_FnSpanWhen.l1
      repeat' first
      | (with_reducible exact ih0 _ _ _ _ _ _ _ _ _ _ _ _ _ _ _ _ _ _ _ _ _)
      | (with_reducible exact ih1 _ _ _ _ _ _ _ _ _ _ _ _ _ _ _ _ _ _ _ _ _)
      | (with_reducible exact ih2 _ _ _ _ _ _ _ _ _ _ _ _ _ _ _ _ _ _ _ _ _ _)
      | (with_reducible exact ih3 _ _ _ _ _ _ _ _ _ _ _ _ _ _ _ _ _ _ _ _ _ _ _)
      | (with_reducible exact impl_NumDo.mono _ _ _ _)
      | (with_reducible exact impl_SpanJoin.mono _ _ _ _ _ _ _)
      | (with_reducible exact impl_SpanWhen.mono _ _ _ _ _ _ _ _ _)
      | (with_reducible exact spec_DrawSpanWhen.mono _ _)
      | (with_reducible exact spec_SpanWhen.mono _ _ _ _ _ _ _ _ _)
      | (with_reducible exact LeO.refl _)
      | (with_reducible exact LeO.none _)
      | (with_reducible refine LeO.ite ?_ ?_)
      | (with_reducible refine LeO.bind ?_ (fun _ => ?_))
      | exact ih0 _ _ _ _ _ _ _ _ _ _ _ _ _ _ _ _ _ _ _ _ _
      | exact ih1 _ _ _ _ _ _ _ _ _ _ _ _ _ _ _ _ _ _ _ _ _
      | exact ih2 _ _ _ _ _ _ _ _ _ _ _ _ _ _ _ _ _ _ _ _ _ _
      | exact ih3 _ _ _ _ _ _ _ _ _ _ _ _ _ _ _ _ _ _ _ _ _ _ _
      | exact impl_NumDo.mono _ _ _ _
      | exact impl_SpanJoin.mono _ _ _ _ _ _ _
      | exact impl_SpanWhen.mono _ _ _ _ _ _ _ _ _
      | exact spec_DrawSpanWhen.mono _ _
      | exact spec_SpanWhen.mono _ _ _ _ _ _ _ _ _
      | exact LeO.none _
      | refine LeO.ite ?_ ?_
      | refine LeO.bind ?_ (fun _ => ?_)
    · intro y0 y1 y2 y3 y4 y5 y6 y7 y8 y9 y10 y11 y12 y13 y14 y15 y16 y17 y18 y19 y20 y21 y22
      unfold laws_FnSpanWhen.j3
      repeat' first
      | (with_reducible exact ih0 _ _ _ _ _ _ _ _ _ _ _ _ _ _ _ _ _ _ _ _ _)
      | (with_reducible exact ih1 _ _ _ _ _ _ _ _ _ _ _ _ _ _ _ _ _ _ _ _ _)
      | (with_reducible exact ih2 _ _ _ _ _ _ _ _ _ _ _ _ _ _ _ _ _ _ _ _ _ _)
      | (with_reducible exact ih3 _ _ _ _ _ _ _ _ _ _ _ _ _ _ _ _ _ _ _ _ _ _ _)
      | (with_reducible exact impl_NumDo.mono _ _ _ _)
      | (with_reducible exact impl_SpanJoin.mono _ _ _ _ _ _ _)
      | (with_reducible exact impl_SpanWhen.mono _ _ _ _ _ _ _ _ _)
      | (with_reducible exact spec_DrawSpanWhen.mono _ _)
      | (with_reducible exact spec_SpanWhen.mono _ _ _ _ _ _ _ _ _)
      | (with_reducible exact LeO.refl _)
      | (with_reducible exact LeO.none _)
      | (with_reducible refine LeO.ite ?_ ?_)
      | (with_reducible refine LeO.bind ?_ (fun _ => ?_))
      | exact ih0 _ _ _ _ _ _ _ _ _ _ _ _ _ _ _ _ _ _ _ _ _
      | exact ih1 _ _ _ _ _ _ _ _ _ _ _ _ _ _ _ _ _ _ _ _ _
      | exact ih2 _ _ _ _ _ _ _ _ _ _ _ _ _ _ _ _ _ _ _ _ _ _
      | exact ih3 _ _ _ _ _ _ _ _ _ _ _ _ _ _ _ _ _ _ _ _ _ _ _
      | exact impl_NumDo.mono _ _ _ _
      | exact impl_SpanJoin.mono _ _ _ _ _ _ _
      | exact impl_SpanWhen.mono _ _ _ _ _ _ _ _ _
      | exact spec_DrawSpanWhen.mono _ _
      | exact spec_SpanWhen.mono _ _ _ _ _ _ _ _ _
      | exact LeO.none _
      | refine LeO.ite ?_ ?_
      | refine LeO.bind ?_ (fun _ => ?_)
theorem laws_FnSpanWhen.mono : ∀ a0 k, LeO (laws_FnSpanWhen.f k a0) (laws_FnSpanWhen.f (k + 1) a0) := by
  intro a0 k
  obtain ⟨ih0, ih1, ih2, ih3⟩ := laws_FnSpanWhen.mono_l k
  unfold laws_FnSpanWhen.f
  repeat' first
      | (with_reducible exact ih0 _ _ _ _ _ _ _ _ _ _ _ _ _ _ _ _ _ _ _ _ _)
      | (with_reducible exact ih1 _ _ _ _ _ _ _ _ _ _ _ _ _ _ _ _ _ _ _ _ _)
      | (with_reducible exact ih2 _ _ _ _ _ _ _ _ _ _ _ _ _ _ _ _ _ _ _ _ _ _)
      | (with_reducible exact ih3 _ _ _ _ _ _ _ _ _ _ _ _ _ _ _ _ _ _ _ _ _ _ _)
      | (with_reducible exact impl_NumDo.mono _ _ _ _)
      | (with_reducible exact impl_SpanJoin.mono _ _ _ _ _ _ _)
      | (with_reducible exact impl_SpanWhen.mono _ _ _ _ _ _ _ _ _)
      | (with_reducible exact spec_DrawSpanWhen.mono _ _)
      | (with_reducible exact spec_SpanWhen.mono _ _ _ _ _ _ _ _ _)
      | (with_reducible exact LeO.refl _)
      | (with_reducible exact LeO.none _)
      | (with_reducible refine LeO.ite ?_ ?_)
      | (with_reducible refine LeO.bind ?_ (fun _ => ?_))
      | exact ih0 _ _ _ _ _ _ _ _ _ _ _ _ _ _ _ _ _ _ _ _ _
      | exact ih1 _ _ _ _ _ _ _ _ _ _ _ _ _ _ _ _ _ _ _ _ _
      | exact ih2 _ _ _ _ _ _ _ _ _ _ _ _ _ _ _ _ _ _ _ _ _ _
      | exact ih3 _ _ _ _ _ _ _ _ _ _ _ _ _ _ _ _ _ _ _ _ _ _ _
      | exact impl_NumDo.mono _ _ _ _
      | exact impl_SpanJoin.mono _ _ _ _ _ _ _
      | exact impl_SpanWhen.mono _ _ _ _ _ _ _ _ _
      | exact spec_DrawSpanWhen.mono _ _
      | exact spec_SpanWhen.mono _ _ _ _ _ _ _ _ _
      | exact LeO.none _
      | refine LeO.ite ?_ ?_
      | refine LeO.bind ?_ (fun _ => ?_)
set_option maxHeartbeats 8000000 in
set_option maxRecDepth 100000 in
theorem laws_FnSpanWhen.calls (k : Nat) (A0 : Option Addr) (c0 : Nat) (l0 : List Int) (r : Bool) (w : World) (hr0 : Kd.C (Kd.int .u8) w A0 l0.length l0) (hc0 : l0.length ≤ c0) (h : laws_FnSpanWhen.f k l0 = some r) :
    Calls Try.prog 9 #[.slice A0 l0.length c0] w fun e w' => e = .returned (.bool r) ∧ Below w.heap.size w w' := by
  have hu30 := Try.underlying30
  have HR0 := Aside0.mk hr0
  have HC0 := Aside0.mk hc0
  clear hr0 hc0
  have HB := Bl.mk (Below.refl w.heap.size w)
  unfold laws_FnSpanWhen.f at h
  have H := h
  clear h
  by_cases c2 : (l0.length : Int) > 1048576
  · rw [if_pos c2] at H
    have c2b0 : decide (1048576 < (l0.length : Int)) = true := decide_eq_true c2
    have c2b1 : decide (1048576 < l0.length) = true := decide_eq_true (by omega)
    clear c2
    obtain rfl := Option.some.inj H
    go_enter Try.func9, Try.ntmps9
    go_wp2
    go_ret
    exact ⟨by first | rfl | (simp [errW_none, errW_some] <;> rfl) | (simp [*, errW_none, errW_some] <;> rfl), bl⟩
  · rw [if_neg c2] at H
    have c2b0 : decide (1048576 < (l0.length : Int)) = false := decide_eq_false c2
    have c2b1 : decide (1048576 < l0.length) = false := decide_eq_false (by omega)
    clear c2
    replace H := Option.bind_eq_some_iff.mp H
    obtain ⟨⟨t637, t638, t639, t640, t641, t642, t643, t644⟩, A30, H⟩ := H
    try dsimp only at H
    have A3 := Aside0.mk A30
    clear A30
    replace H := Option.bind_eq_some_iff.mp H
    obtain ⟨⟨t647, t648, t649, t650, t651, t652⟩, A40, H⟩ := H
    try dsimp only at H
    have A4 := Aside0.mk A40
    clear A40
    replace H := Option.bind_eq_some_iff.mp H
    obtain ⟨⟨t655, t656, t657, t658, t659, t660⟩, A50, H⟩ := H
    try dsimp only at H
    have A5 := Aside0.mk A50
    clear A50
    have HC6 := Aside0.mk H
    clear H
    go_enter Try.func9, Try.ntmps9
    go_upto_region 6 with (first | ((with_reducible refine gate_callee (f := 23) rfl ?_); refine goesL_ (some 22) rfl rfl Try.func23 (by kernel_rfl) rfl #[.slice A0 l0.length c0] rfl (by (try simp only [List.map_toArray, List.map_cons, List.map_nil]); first | done | rfl | (simp only [List.length_drop, List.length_take]; rfl)) ?_; (with_reducible refine (spec_DrawSpanWhen.calls k _ _ l0 t637 t638 t639 t640 t641 t642 t643 t644 _ ?side1 ?side2 A3.out).mono ?_); (case side1 => repeat (first | exact HR0.out | (with_reducible refine Kd.C_alloc ?_ _) | (with_reducible refine Kd.C_drewN ?_ _) | (with_reducible refine Kd.C_drew ?_))); (case side2 => exact HC0.out); rintro e w7 ⟨rfl, hb⟩; refine ⟨_, rfl, ?_⟩; have n0_ := Bl.mk (below_step bl hb); clear HB; have HB := n0_; clear n0_; (try clear hb); (try clear hb2); (try clear hk); (try clear hi)) | ((with_reducible refine gate_dst (N := 4) rfl ?_); refine box_event ?hg (N := 4) ?hd (cs := #[.bool false, .int .i64 0, .int .i64 0]) (t := 30) ?hr ?_; (case hd => rfl); (case hg => rfl); (case hr => first | (go_simp; done) | (go_simp; rfl)); intro gb645 hg w8 hbox hb; have n0_ := Bl.mk (below_step bl hb); have n1_ := Bk.mk (hbox); have n2_ := Aside0.mk ((by rw [hg]; exact (below_size bl) : w.heap.size ≤ gb645)); have n3_ := Gl.mk ((by rw [hg]; exact (below_size bl) : w.heap.size ≤ gb645)); clear HB; have HB := n0_; have BK645 := n1_; have GW645 := n2_; have GE645 := n3_; clear n0_ n1_ n2_ n3_; clear hb hbox hg) | ((with_reducible refine gate_dst (N := 5) rfl ?_); refine box_event ?hg (N := 5) ?hd (cs := #[.bool false, .int .i64 0, .int .i64 0]) (t := 30) ?hr ?_; (case hd => rfl); (case hg => rfl); (case hr => first | (go_simp; done) | (go_simp; rfl)); intro gb646 hg w9 hbox hb; have n0_ := Bk.mk (blk_below (g := gb645) bk hb); have n1_ := Bl.mk (below_step bl hb); have n2_ := Bk.mk (hbox); have n3_ := Aside0.mk ((by rw [hg]; exact (below_size bl) : w.heap.size ≤ gb646)); have n4_ := Gl.mk ((by rw [hg]; exact (below_size bl) : w.heap.size ≤ gb646)); have n5_ := Nb.mk ((by rw [hg]; exact Nat.ne_of_lt (blk_lt (g := gb645) bk) : gb645 ≠ gb646)); have n6_ := Nb.mk ((by rw [hg]; exact Nat.ne_of_gt (blk_lt (g := gb645) bk) : gb646 ≠ gb645)); clear BK645; clear HB; have BK645 := n0_; have HB := n1_; have BK646 := n2_; have GW646 := n3_; have GE646 := n4_; have NB645_646 := n5_; have NB646_645 := n6_; clear n0_ n1_ n2_ n3_ n4_ n5_ n6_; clear hb hbox hg; have hnb10 := NB645_646.out; have hnc10 := NB646_645.out; have hcz11_0 := bc0 BK645.out; have hcz11_1 := bc1 BK645.out; have hcz11_2 := bc2 BK645.out; have hfz11_0 := blk_frozen BK645.out 0; have hfz11_1 := blk_frozen BK645.out 1; have hfz11_2 := blk_frozen BK645.out 2; have hcz12_0 := bc0 BK646.out; have hcz12_1 := bc1 BK646.out; have hcz12_2 := bc2 BK646.out; have hfz12_0 := blk_frozen BK646.out 0; have hfz12_1 := blk_frozen BK646.out 1; have hfz12_2 := blk_frozen BK646.out 2) | ((with_reducible refine gate_callee (f := 19) rfl ?_); refine goesL_ (some 32) rfl rfl Try.func19 (by kernel_rfl) rfl #[.int .i64 t637, .agg #[.bool t638, .int .i64 t639, .int .i64 t640], .agg #[.bool t641, .int .i64 t642, .int .i64 t643], .bool t644] rfl (by (try simp only [List.map_toArray, List.map_cons, List.map_nil]); first | done | rfl | (simp only [List.length_drop, List.length_take]; rfl)) ?_; (with_reducible refine (impl_SpanWhen.calls k t637 t638 t639 t640 t641 t642 t643 t644 t647 t648 t649 t650 t651 t652 _ A4.out).mono ?_); rintro e w13 ⟨rfl, hb⟩; refine ⟨_, rfl, ?_⟩; have n0_ := Bk.mk (blk_below (g := gb645) (o := .cells #[.bool t638, .int .i64 t639, .int .i64 t640] 30 (0, 0)) bk hb); have n1_ := Bk.mk (blk_below (g := gb646) (o := .cells #[.bool t641, .int .i64 t642, .int .i64 t643] 30 (0, 0)) bk hb); have n2_ := Bl.mk (below_step bl hb); clear BK645; clear BK646; clear HB; have BK645 := n0_; have BK646 := n1_; have HB := n2_; clear n0_ n1_ n2_; (try clear hb); (try clear hb2); (try clear hk); (try clear hi)) | ((with_reducible refine gate_dst (N := 7) rfl ?_); refine box_event ?hg (N := 7) ?hd (cs := #[.bool false, .int .i64 0, .int .i64 0]) (t := 30) ?hr ?_; (case hd => rfl); (case hg => rfl); (case hr => first | (go_simp; done) | (go_simp; rfl)); intro gb653 hg w14 hbox hb; have n0_ := Bk.mk (blk_below (g := gb645) bk hb); have n1_ := Bk.mk (blk_below (g := gb646) bk hb); have n2_ := Bl.mk (below_step bl hb); have n3_ := Bk.mk (hbox); have n4_ := Aside0.mk ((by rw [hg]; exact (below_size bl) : w.heap.size ≤ gb653)); have n5_ := Gl.mk ((by rw [hg]; exact (below_size bl) : w.heap.size ≤ gb653)); have n6_ := Nb.mk ((by rw [hg]; exact Nat.ne_of_lt (blk_lt (g := gb645) bk) : gb645 ≠ gb653)); have n7_ := Nb.mk ((by rw [hg]; exact Nat.ne_of_gt (blk_lt (g := gb645) bk) : gb653 ≠ gb645)); have n8_ := Nb.mk ((by rw [hg]; exact Nat.ne_of_lt (blk_lt (g := gb646) bk) : gb646 ≠ gb653)); have n9_ := Nb.mk ((by rw [hg]; exact Nat.ne_of_gt (blk_lt (g := gb646) bk) : gb653 ≠ gb646)); clear BK645; clear BK646; clear HB; have BK645 := n0_; have BK646 := n1_; have HB := n2_; have BK653 := n3_; have GW653 := n4_; have GE653 := n5_; have NB645_653 := n6_; have NB653_645 := n7_; have NB646_653 := n8_; have NB653_646 := n9_; clear n0_ n1_ n2_ n3_ n4_ n5_ n6_ n7_ n8_ n9_; clear hb hbox hg) | ((with_reducible refine gate_dst (N := 8) rfl ?_); refine box_event ?hg (N := 8) ?hd (cs := #[.bool false, .int .i64 0, .int .i64 0]) (t := 30) ?hr ?_; (case hd => rfl); (case hg => rfl); (case hr => first | (go_simp; done) | (go_simp; rfl)); intro gb654 hg w15 hbox hb; have n0_ := Bk.mk (blk_below (g := gb645) bk hb); have n1_ := Bk.mk (blk_below (g := gb646) bk hb); have n2_ := Bk.mk (blk_below (g := gb653) bk hb); have n3_ := Bl.mk (below_step bl hb); have n4_ := Bk.mk (hbox); have n5_ := Aside0.mk ((by rw [hg]; exact (below_size bl) : w.heap.size ≤ gb654)); have n6_ := Gl.mk ((by rw [hg]; exact (below_size bl) : w.heap.size ≤ gb654)); have n7_ := Nb.mk ((by rw [hg]; exact Nat.ne_of_lt (blk_lt (g := gb645) bk) : gb645 ≠ gb654)); have n8_ := Nb.mk ((by rw [hg]; exact Nat.ne_of_gt (blk_lt (g := gb645) bk) : gb654 ≠ gb645)); have n9_ := Nb.mk ((by rw [hg]; exact Nat.ne_of_lt (blk_lt (g := gb646) bk) : gb646 ≠ gb654)); have n10_ := Nb.mk ((by rw [hg]; exact Nat.ne_of_gt (blk_lt (g := gb646) bk) : gb654 ≠ gb646)); have n11_ := Nb.mk ((by rw [hg]; exact Nat.ne_of_lt (blk_lt (g := gb653) bk) : gb653 ≠ gb654)); have n12_ := Nb.mk ((by rw [hg]; exact Nat.ne_of_gt (blk_lt (g := gb653) bk) : gb654 ≠ gb653)); clear BK645; clear BK646; clear BK653; clear HB; have BK645 := n0_; have BK646 := n1_; have BK653 := n2_; have HB := n3_; have BK654 := n4_; have GW654 := n5_; have GE654 := n6_; have NB645_654 := n7_; have NB654_645 := n8_; have NB646_654 := n9_; have NB654_646 := n10_; have NB653_654 := n11_; have NB654_653 := n12_; clear n0_ n1_ n2_ n3_ n4_ n5_ n6_ n7_ n8_ n9_ n10_ n11_ n12_; clear hb hbox hg; have hnb16 := NB653_645.out; have hnc16 := NB645_653.out; have hnb17 := NB653_646.out; have hnc17 := NB646_653.out; have hnb18 := NB653_654.out; have hnc18 := NB654_653.out; have hcz19_0 := bc0 BK653.out; have hcz19_1 := bc1 BK653.out; have hcz19_2 := bc2 BK653.out; have hfz19_0 := blk_frozen BK653.out 0; have hfz19_1 := blk_frozen BK653.out 1; have hfz19_2 := blk_frozen BK653.out 2; have hnb20 := NB654_645.out; have hnc20 := NB645_654.out; have hnb21 := NB654_646.out; have hnc21 := NB646_654.out; have hcz22_0 := bc0 BK654.out; have hcz22_1 := bc1 BK654.out; have hcz22_2 := bc2 BK654.out; have hfz22_0 := blk_frozen BK654.out 0; have hfz22_1 := blk_frozen BK654.out 1; have hfz22_2 := blk_frozen BK654.out 2; have hcz23_0 := bc0 BK645.out; have hcz23_1 := bc1 BK645.out; have hcz23_2 := bc2 BK645.out; have hfz23_0 := blk_frozen BK645.out 0; have hfz23_1 := blk_frozen BK645.out 1; have hfz23_2 := blk_frozen BK645.out 2; have hcz24_0 := bc0 BK646.out; have hcz24_1 := bc1 BK646.out; have hcz24_2 := bc2 BK646.out; have hfz24_0 := blk_frozen BK646.out 0; have hfz24_1 := blk_frozen BK646.out 1; have hfz24_2 := blk_frozen BK646.out 2) | ((with_reducible refine gate_callee (f := 17) rfl ?_); refine goesL_ (some 40) rfl rfl Try.func17 (by kernel_rfl) rfl #[.int .i64 t637, .agg #[.bool t638, .int .i64 t639, .int .i64 t640], .agg #[.bool t641, .int .i64 t642, .int .i64 t643], .bool t644] rfl (by (try simp only [List.map_toArray, List.map_cons, List.map_nil]); first | done | rfl | (simp only [List.length_drop, List.length_take]; rfl)) ?_; (with_reducible refine (spec_SpanWhen.calls k t637 t638 t639 t640 t641 t642 t643 t644 t655 t656 t657 t658 t659 t660 _ A5.out).mono ?_); rintro e w25 ⟨rfl, hb⟩; refine ⟨_, rfl, ?_⟩; have n0_ := Bk.mk (blk_below (g := gb645) (o := .cells #[.bool t638, .int .i64 t639, .int .i64 t640] 30 (0, 0)) bk hb); have n1_ := Bk.mk (blk_below (g := gb646) (o := .cells #[.bool t641, .int .i64 t642, .int .i64 t643] 30 (0, 0)) bk hb); have n2_ := Bk.mk (blk_below (g := gb653) (o := .cells #[.bool t647, .int .i64 t648, .int .i64 t649] 30 (0, 0)) bk hb); have n3_ := Bk.mk (blk_below (g := gb654) (o := .cells #[.bool t650, .int .i64 t651, .int .i64 t652] 30 (0, 0)) bk hb); have n4_ := Bl.mk (below_step bl hb); clear BK645; clear BK646; clear BK653; clear BK654; clear HB; have BK645 := n0_; have BK646 := n1_; have BK653 := n2_; have BK654 := n3_; have HB := n4_; clear n0_ n1_ n2_ n3_ n4_; (try clear hb); (try clear hb2); (try clear hk); (try clear hi)) | ((with_reducible refine gate_dst (N := 9) rfl ?_); refine box_event ?hg (N := 9) ?hd (cs := #[.bool false, .int .i64 0, .int .i64 0]) (t := 30) ?hr ?_; (case hd => rfl); (case hg => rfl); (case hr => first | (go_simp; done) | (go_simp; rfl)); intro gb661 hg w26 hbox hb; have n0_ := Bk.mk (blk_below (g := gb645) bk hb); have n1_ := Bk.mk (blk_below (g := gb646) bk hb); have n2_ := Bk.mk (blk_below (g := gb653) bk hb); have n3_ := Bk.mk (blk_below (g := gb654) bk hb); have n4_ := Bl.mk (below_step bl hb); have n5_ := Bk.mk (hbox); have n6_ := Aside0.mk ((by rw [hg]; exact (below_size bl) : w.heap.size ≤ gb661)); have n7_ := Gl.mk ((by rw [hg]; exact (below_size bl) : w.heap.size ≤ gb661)); have n8_ := Nb.mk ((by rw [hg]; exact Nat.ne_of_lt (blk_lt (g := gb645) bk) : gb645 ≠ gb661)); have n9_ := Nb.mk ((by rw [hg]; exact Nat.ne_of_gt (blk_lt (g := gb645) bk) : gb661 ≠ gb645)); have n10_ := Nb.mk ((by rw [hg]; exact Nat.ne_of_lt (blk_lt (g := gb646) bk) : gb646 ≠ gb661)); have n11_ := Nb.mk ((by rw [hg]; exact Nat.ne_of_gt (blk_lt (g := gb646) bk) : gb661 ≠ gb646)); have n12_ := Nb.mk ((by rw [hg]; exact Nat.ne_of_lt (blk_lt (g := gb653) bk) : gb653 ≠ gb661)); have n13_ := Nb.mk ((by rw [hg]; exact Nat.ne_of_gt (blk_lt (g := gb653) bk) : gb661 ≠ gb653)); have n14_ := Nb.mk ((by rw [hg]; exact Nat.ne_of_lt (blk_lt (g := gb654) bk) : gb654 ≠ gb661)); have n15_ := Nb.mk ((by rw [hg]; exact Nat.ne_of_gt (blk_lt (g := gb654) bk) : gb661 ≠ gb654)); clear BK645; clear BK646; clear BK653; clear BK654; clear HB; have BK645 := n0_; have BK646 := n1_; have BK653 := n2_; have BK654 := n3_; have HB := n4_; have BK661 := n5_; have GW661 := n6_; have GE661 := n7_; have NB645_661 := n8_; have NB661_645 := n9_; have NB646_661 := n10_; have NB661_646 := n11_; have NB653_661 := n12_; have NB661_653 := n13_; have NB654_661 := n14_; have NB661_654 := n15_; clear n0_ n1_ n2_ n3_ n4_ n5_ n6_ n7_ n8_ n9_ n10_ n11_ n12_ n13_ n14_ n15_; clear hb hbox hg) | ((with_reducible refine gate_dst (N := 10) rfl ?_); refine box_event ?hg (N := 10) ?hd (cs := #[.bool false, .int .i64 0, .int .i64 0]) (t := 30) ?hr ?_; (case hd => rfl); (case hg => rfl); (case hr => first | (go_simp; done) | (go_simp; rfl)); intro gb662 hg w27 hbox hb; have n0_ := Bk.mk (blk_below (g := gb645) bk hb); have n1_ := Bk.mk (blk_below (g := gb646) bk hb); have n2_ := Bk.mk (blk_below (g := gb653) bk hb); have n3_ := Bk.mk (blk_below (g := gb654) bk hb); have n4_ := Bk.mk (blk_below (g := gb661) bk hb); have n5_ := Bl.mk (below_step bl hb); have n6_ := Bk.mk (hbox); have n7_ := Aside0.mk ((by rw [hg]; exact (below_size bl) : w.heap.size ≤ gb662)); have n8_ := Gl.mk ((by rw [hg]; exact (below_size bl) : w.heap.size ≤ gb662)); have n9_ := Nb.mk ((by rw [hg]; exact Nat.ne_of_lt (blk_lt (g := gb645) bk) : gb645 ≠ gb662)); have n10_ := Nb.mk ((by rw [hg]; exact Nat.ne_of_gt (blk_lt (g := gb645) bk) : gb662 ≠ gb645)); have n11_ := Nb.mk ((by rw [hg]; exact Nat.ne_of_lt (blk_lt (g := gb646) bk) : gb646 ≠ gb662)); have n12_ := Nb.mk ((by rw [hg]; exact Nat.ne_of_gt (blk_lt (g := gb646) bk) : gb662 ≠ gb646)); have n13_ := Nb.mk ((by rw [hg]; exact Nat.ne_of_lt (blk_lt (g := gb653) bk) : gb653 ≠ gb662)); have n14_ := Nb.mk ((by rw [hg]; exact Nat.ne_of_gt (blk_lt (g := gb653) bk) : gb662 ≠ gb653)); have n15_ := Nb.mk ((by rw [hg]; exact Nat.ne_of_lt (blk_lt (g := gb654) bk) : gb654 ≠ gb662)); have n16_ := Nb.mk ((by rw [hg]; exact Nat.ne_of_gt (blk_lt (g := gb654) bk) : gb662 ≠ gb654)); have n17_ := Nb.mk ((by rw [hg]; exact Nat.ne_of_lt (blk_lt (g := gb661) bk) : gb661 ≠ gb662)); have n18_ := Nb.mk ((by rw [hg]; exact Nat.ne_of_gt (blk_lt (g := gb661) bk) : gb662 ≠ gb661)); clear BK645; clear BK646; clear BK653; clear BK654; clear BK661; clear HB; have BK645 := n0_; have BK646 := n1_; have BK653 := n2_; have BK654 := n3_; have BK661 := n4_; have HB := n5_; have BK662 := n6_; have GW662 := n7_; have GE662 := n8_; have NB645_662 := n9_; have NB662_645 := n10_; have NB646_662 := n11_; have NB662_646 := n12_; have NB653_662 := n13_; have NB662_653 := n14_; have NB654_662 := n15_; have NB662_654 := n16_; have NB661_662 := n17_; have NB662_661 := n18_; clear n0_ n1_ n2_ n3_ n4_ n5_ n6_ n7_ n8_ n9_ n10_ n11_ n12_ n13_ n14_ n15_ n16_ n17_ n18_; clear hb hbox hg; have hnb28 := NB661_645.out; have hnc28 := NB645_661.out; have hnb29 := NB661_646.out; have hnc29 := NB646_661.out; have hnb30 := NB661_653.out; have hnc30 := NB653_661.out; have hnb31 := NB661_654.out; have hnc31 := NB654_661.out; have hnb32 := NB661_662.out; have hnc32 := NB662_661.out; have hcz33_0 := bc0 BK661.out; have hcz33_1 := bc1 BK661.out; have hcz33_2 := bc2 BK661.out; have hfz33_0 := blk_frozen BK661.out 0; have hfz33_1 := blk_frozen BK661.out 1; have hfz33_2 := blk_frozen BK661.out 2; have hnb34 := NB662_645.out; have hnc34 := NB645_662.out; have hnb35 := NB662_646.out; have hnc35 := NB646_662.out; have hnb36 := NB662_653.out; have hnc36 := NB653_662.out; have hnb37 := NB662_654.out; have hnc37 := NB654_662.out; have hcz38_0 := bc0 BK662.out; have hcz38_1 := bc1 BK662.out; have hcz38_2 := bc2 BK662.out; have hfz38_0 := blk_frozen BK662.out 0; have hfz38_1 := blk_frozen BK662.out 1; have hfz38_2 := blk_frozen BK662.out 2))
    (try simp only [Act.put, List.setIfInBounds_toArray, List.set_cons_zero, List.set_cons_succ])
    go_cut [68] (fun v68 wc => ∃ (kq : Nat) (x68_5 : Bool), v68 = .bool x68_5 ∧ Aside0 (laws_FnSpanWhen.j0 kq t637 t644 x68_5 t638 t639 t640 t641 t642 t643 t647 t648 t649 t650 t651 t652 t655 t656 t657 t658 t659 t660 = some r) ∧ Aside0 (kq ≤ k) ∧ Bk wc gb645 (.cells #[.bool t638, .int .i64 t639, .int .i64 t640] 30 (0, 0)) ∧ Bk wc gb646 (.cells #[.bool t641, .int .i64 t642, .int .i64 t643] 30 (0, 0)) ∧ Bk wc gb653 (.cells #[.bool t647, .int .i64 t648, .int .i64 t649] 30 (0, 0)) ∧ Bk wc gb654 (.cells #[.bool t650, .int .i64 t651, .int .i64 t652] 30 (0, 0)) ∧ Bk wc gb661 (.cells #[.bool t655, .int .i64 t656, .int .i64 t657] 30 (0, 0)) ∧ Bk wc gb662 (.cells #[.bool t658, .int .i64 t659, .int .i64 t660] 30 (0, 0)) ∧ Bl w.heap.size w wc)
    case first =>
      have H := HC6.out
      clear HC6
      by_cases c39 : (!(t647 == t655) || (!(t648 == t656) || (!(t649 == t657)))) = true
      · rw [if_pos c39] at H
        have c39b0 : (!(t647 == t655) || (!(t648 == t656) || (!(t649 == t657)))) = true := c39
        clear c39
        (first | rw [c39b0] | (simp only [i64_w, i32_w]; rw [c39b0]) | skip)
        have H' := Aside0.mk H
        clear H
        have hnb40 := NB653_645.out
        have hnc40 := NB645_653.out
        have hnb41 := NB653_646.out
        have hnc41 := NB646_653.out
        have hnb42 := NB653_654.out
        have hnc42 := NB654_653.out
        have hnb43 := NB653_661.out
        have hnc43 := NB661_653.out
        have hnb44 := NB653_662.out
        have hnc44 := NB662_653.out
        have hcz45_0 := bc0 BK653.out
        have hcz45_1 := bc1 BK653.out
        have hcz45_2 := bc2 BK653.out
        have hfz45_0 := blk_frozen BK653.out 0
        have hfz45_1 := blk_frozen BK653.out 1
        have hfz45_2 := blk_frozen BK653.out 2
        have hnb46 := NB661_645.out
        have hnc46 := NB645_661.out
        have hnb47 := NB661_646.out
        have hnc47 := NB646_661.out
        have hnb48 := NB661_654.out
        have hnc48 := NB654_661.out
        have hnb49 := NB661_662.out
        have hnc49 := NB662_661.out
        have hcz50_0 := bc0 BK661.out
        have hcz50_1 := bc1 BK661.out
        have hcz50_2 := bc2 BK661.out
        have hfz50_0 := blk_frozen BK661.out 0
        have hfz50_1 := blk_frozen BK661.out 1
        have hfz50_2 := blk_frozen BK661.out 2
        go_wp2
        go_meet
        case rel => exact ⟨_, (true), (by first | rfl | (simp; done) | (simp [*]; done)), H', ⟨by first | omega | exact Nat.le_refl _⟩, ⟨bk⟩, ⟨bk⟩, ⟨bk⟩, ⟨bk⟩, ⟨bk⟩, ⟨bk⟩, ⟨bl⟩⟩
      · rw [if_neg c39] at H
        have c39b0 : (!(t647 == t655) || (!(t648 == t656) || (!(t649 == t657)))) = false := by simpa using c39
        clear c39
        (first | rw [c39b0] | (simp only [i64_w, i32_w]; rw [c39b0]) | skip)
        by_cases c51 : (!(t650 == t658) || (!(t651 == t659) || (!(t652 == t660)))) = true
        · rw [if_pos c51] at H
          have c51b0 : (!(t650 == t658) || (!(t651 == t659) || (!(t652 == t660)))) = true := c51
          clear c51
          have H' := Aside0.mk H
          clear H
          have hnb52 := NB653_645.out
          have hnc52 := NB645_653.out
          have hnb53 := NB653_646.out
          have hnc53 := NB646_653.out
          have hnb54 := NB653_654.out
          have hnc54 := NB654_653.out
          have hnb55 := NB653_661.out
          have hnc55 := NB661_653.out
          have hnb56 := NB653_662.out
          have hnc56 := NB662_653.out
          have hcz57_0 := bc0 BK653.out
          have hcz57_1 := bc1 BK653.out
          have hcz57_2 := bc2 BK653.out
          have hfz57_0 := blk_frozen BK653.out 0
          have hfz57_1 := blk_frozen BK653.out 1
          have hfz57_2 := blk_frozen BK653.out 2
          have hnb58 := NB661_645.out
          have hnc58 := NB645_661.out
          have hnb59 := NB661_646.out
          have hnc59 := NB646_661.out
          have hnb60 := NB661_654.out
          have hnc60 := NB654_661.out
          have hnb61 := NB661_662.out
          have hnc61 := NB662_661.out
          have hcz62_0 := bc0 BK661.out
          have hcz62_1 := bc1 BK661.out
          have hcz62_2 := bc2 BK661.out
          have hfz62_0 := blk_frozen BK661.out 0
          have hfz62_1 := blk_frozen BK661.out 1
          have hfz62_2 := blk_frozen BK661.out 2
          have hnb63 := NB654_645.out
          have hnc63 := NB645_654.out
          have hnb64 := NB654_646.out
          have hnc64 := NB646_654.out
          have hnb65 := NB654_662.out
          have hnc65 := NB662_654.out
          have hcz66_0 := bc0 BK654.out
          have hcz66_1 := bc1 BK654.out
          have hcz66_2 := bc2 BK654.out
          have hfz66_0 := blk_frozen BK654.out 0
          have hfz66_1 := blk_frozen BK654.out 1
          have hfz66_2 := blk_frozen BK654.out 2
          have hnb67 := NB662_645.out
          have hnc67 := NB645_662.out
          have hnb68 := NB662_646.out
          have hnc68 := NB646_662.out
          have hcz69_0 := bc0 BK662.out
          have hcz69_1 := bc1 BK662.out
          have hcz69_2 := bc2 BK662.out
          have hfz69_0 := blk_frozen BK662.out 0
          have hfz69_1 := blk_frozen BK662.out 1
          have hfz69_2 := blk_frozen BK662.out 2
          go_wp2
          go_meet
          case rel => exact ⟨_, (true), (by first | rfl | (simp; done) | (simp [*]; done)), H', ⟨by first | omega | exact Nat.le_refl _⟩, ⟨bk⟩, ⟨bk⟩, ⟨bk⟩, ⟨bk⟩, ⟨bk⟩, ⟨bk⟩, ⟨bl⟩⟩
        · rw [if_neg c51] at H
          have c51b0 : (!(t650 == t658) || (!(t651 == t659) || (!(t652 == t660)))) = false := by simpa using c51
          clear c51
          replace H := Option.bind_eq_some_iff.mp H
          obtain ⟨t663, A700, H⟩ := H
          try dsimp only at H
          have A70 := Aside0.mk A700
          clear A700
          by_cases c71 : t663 = true
          · subst c71
            rw [if_pos rfl] at H
            replace H := Option.bind_eq_some_iff.mp H
            obtain ⟨t664, A720, H⟩ := H
            try dsimp only at H
            have A72 := Aside0.mk A720
            clear A720
            by_cases c73 : t664 = true
            · subst c73
              rw [if_pos rfl] at H
              by_cases c74 : t637 = 5
              · rw [if_pos c74] at H
                have c74b0 : (t637 == 5) = true := beq_iff_eq.mpr c74
                have c74b1 : (t637 != 5) = false := bne_eq_false_iff_eq.mpr c74
                clear c74
                have H' := Aside0.mk H
                clear H
                have hnb75 := NB653_645.out
                have hnc75 := NB645_653.out
                have hnb76 := NB653_646.out
                have hnc76 := NB646_653.out
                have hnb77 := NB653_654.out
                have hnc77 := NB654_653.out
                have hnb78 := NB653_661.out
                have hnc78 := NB661_653.out
                have hnb79 := NB653_662.out
                have hnc79 := NB662_653.out
                have hcz80_0 := bc0 BK653.out
                have hcz80_1 := bc1 BK653.out
                have hcz80_2 := bc2 BK653.out
                have hfz80_0 := blk_frozen BK653.out 0
                have hfz80_1 := blk_frozen BK653.out 1
                have hfz80_2 := blk_frozen BK653.out 2
                have hnb81 := NB661_645.out
                have hnc81 := NB645_661.out
                have hnb82 := NB661_646.out
                have hnc82 := NB646_661.out
                have hnb83 := NB661_654.out
                have hnc83 := NB654_661.out
                have hnb84 := NB661_662.out
                have hnc84 := NB662_661.out
                have hcz85_0 := bc0 BK661.out
                have hcz85_1 := bc1 BK661.out
                have hcz85_2 := bc2 BK661.out
                have hfz85_0 := blk_frozen BK661.out 0
                have hfz85_1 := blk_frozen BK661.out 1
                have hfz85_2 := blk_frozen BK661.out 2
                have hnb86 := NB654_645.out
                have hnc86 := NB645_654.out
                have hnb87 := NB654_646.out
                have hnc87 := NB646_654.out
                have hnb88 := NB654_662.out
                have hnc88 := NB662_654.out
                have hcz89_0 := bc0 BK654.out
                have hcz89_1 := bc1 BK654.out
                have hcz89_2 := bc2 BK654.out
                have hfz89_0 := blk_frozen BK654.out 0
                have hfz89_1 := blk_frozen BK654.out 1
                have hfz89_2 := blk_frozen BK654.out 2
                have hnb90 := NB662_645.out
                have hnc90 := NB645_662.out
                have hnb91 := NB662_646.out
                have hnc91 := NB646_662.out
                have hcz92_0 := bc0 BK662.out
                have hcz92_1 := bc1 BK662.out
                have hcz92_2 := bc2 BK662.out
                have hfz92_0 := blk_frozen BK662.out 0
                have hfz92_1 := blk_frozen BK662.out 1
                have hfz92_2 := blk_frozen BK662.out 2
                have hnb93 := NB645_646.out
                have hnc93 := NB646_645.out
                have hcz94_0 := bc0 BK645.out
                have hcz94_1 := bc1 BK645.out
                have hcz94_2 := bc2 BK645.out
                have hfz94_0 := blk_frozen BK645.out 0
                have hfz94_1 := blk_frozen BK645.out 1
                have hfz94_2 := blk_frozen BK645.out 2
                go_wp2_with (first | (go_at_call 15; (with_reducible refine (spec_SpanOk.calls t638 t639 t640 true _ A70.out).mono ?_); rintro e w95 ⟨rfl, hb⟩; have n0_ := Bk.mk (blk_below (g := gb645) (o := .cells #[.bool t638, .int .i64 t639, .int .i64 t640] 30 (0, 0)) bk hb); have n1_ := Bk.mk (blk_below (g := gb646) (o := .cells #[.bool t641, .int .i64 t642, .int .i64 t643] 30 (0, 0)) bk hb); have n2_ := Bk.mk (blk_below (g := gb653) (o := .cells #[.bool t647, .int .i64 t648, .int .i64 t649] 30 (0, 0)) bk hb); have n3_ := Bk.mk (blk_below (g := gb654) (o := .cells #[.bool t650, .int .i64 t651, .int .i64 t652] 30 (0, 0)) bk hb); have n4_ := Bk.mk (blk_below (g := gb661) (o := .cells #[.bool t655, .int .i64 t656, .int .i64 t657] 30 (0, 0)) bk hb); have n5_ := Bk.mk (blk_below (g := gb662) (o := .cells #[.bool t658, .int .i64 t659, .int .i64 t660] 30 (0, 0)) bk hb); have n6_ := Bl.mk (below_step bl hb); clear BK645; clear BK646; clear BK653; clear BK654; clear BK661; clear BK662; clear HB; have BK645 := n0_; have BK646 := n1_; have BK653 := n2_; have BK654 := n3_; have BK661 := n4_; have BK662 := n5_; have HB := n6_; clear n0_ n1_ n2_ n3_ n4_ n5_ n6_; (try clear hb); (try clear hb2); (try clear hk); (try clear hi); have hcz96_0 := bc0 BK646.out; have hcz96_1 := bc1 BK646.out; have hcz96_2 := bc2 BK646.out; have hfz96_0 := blk_frozen BK646.out 0; have hfz96_1 := blk_frozen BK646.out 1; have hfz96_2 := blk_frozen BK646.out 2) | (go_at_call 15; (with_reducible refine (spec_SpanOk.calls t641 t642 t643 true _ A72.out).mono ?_); rintro e w97 ⟨rfl, hb⟩; have n0_ := Bk.mk (blk_below (g := gb645) bk hb); have n1_ := Bk.mk (blk_below (g := gb646) bk hb); have n2_ := Bk.mk (blk_below (g := gb653) bk hb); have n3_ := Bk.mk (blk_below (g := gb654) bk hb); have n4_ := Bk.mk (blk_below (g := gb661) bk hb); have n5_ := Bk.mk (blk_below (g := gb662) bk hb); have n6_ := Bl.mk (below_step bl hb); clear BK645; clear BK646; clear BK653; clear BK654; clear BK661; clear BK662; clear HB; have BK645 := n0_; have BK646 := n1_; have BK653 := n2_; have BK654 := n3_; have BK661 := n4_; have BK662 := n5_; have HB := n6_; clear n0_ n1_ n2_ n3_ n4_ n5_ n6_; (try clear hb); (try clear hb2); (try clear hk); (try clear hi)))
                go_meet
                case rel => exact ⟨_, (false), (by first | rfl | (simp; done) | (simp [*]; done)), H', ⟨by first | omega | exact Nat.le_refl _⟩, ⟨bk⟩, ⟨bk⟩, ⟨bk⟩, ⟨bk⟩, ⟨bk⟩, ⟨bk⟩, ⟨bl⟩⟩
              · rw [if_neg c74] at H
                have c74b0 : (t637 == 5) = false := beq_eq_false_iff_ne.mpr c74
                have c74b1 : (t637 != 5) = true := bne_iff_ne.mpr c74
                have H' := Aside0.mk H
                clear H
                have hnb98 := NB653_645.out
                have hnc98 := NB645_653.out
                have hnb99 := NB653_646.out
                have hnc99 := NB646_653.out
                have hnb100 := NB653_654.out
                have hnc100 := NB654_653.out
                have hnb101 := NB653_661.out
                have hnc101 := NB661_653.out
                have hnb102 := NB653_662.out
                have hnc102 := NB662_653.out
                have hcz103_0 := bc0 BK653.out
                have hcz103_1 := bc1 BK653.out
                have hcz103_2 := bc2 BK653.out
                have hfz103_0 := blk_frozen BK653.out 0
                have hfz103_1 := blk_frozen BK653.out 1
                have hfz103_2 := blk_frozen BK653.out 2
                have hnb104 := NB661_645.out
                have hnc104 := NB645_661.out
                have hnb105 := NB661_646.out
                have hnc105 := NB646_661.out
                have hnb106 := NB661_654.out
                have hnc106 := NB654_661.out
                have hnb107 := NB661_662.out
                have hnc107 := NB662_661.out
                have hcz108_0 := bc0 BK661.out
                have hcz108_1 := bc1 BK661.out
                have hcz108_2 := bc2 BK661.out
                have hfz108_0 := blk_frozen BK661.out 0
                have hfz108_1 := blk_frozen BK661.out 1
                have hfz108_2 := blk_frozen BK661.out 2
                have hnb109 := NB654_645.out
                have hnc109 := NB645_654.out
                have hnb110 := NB654_646.out
                have hnc110 := NB646_654.out
                have hnb111 := NB654_662.out
                have hnc111 := NB662_654.out
                have hcz112_0 := bc0 BK654.out
                have hcz112_1 := bc1 BK654.out
                have hcz112_2 := bc2 BK654.out
                have hfz112_0 := blk_frozen BK654.out 0
                have hfz112_1 := blk_frozen BK654.out 1
                have hfz112_2 := blk_frozen BK654.out 2
                have hnb113 := NB662_645.out
                have hnc113 := NB645_662.out
                have hnb114 := NB662_646.out
                have hnc114 := NB646_662.out
                have hcz115_0 := bc0 BK662.out
                have hcz115_1 := bc1 BK662.out
                have hcz115_2 := bc2 BK662.out
                have hfz115_0 := blk_frozen BK662.out 0
                have hfz115_1 := blk_frozen BK662.out 1
                have hfz115_2 := blk_frozen BK662.out 2
                have hnb116 := NB645_646.out
                have hnc116 := NB646_645.out
                have hcz117_0 := bc0 BK645.out
                have hcz117_1 := bc1 BK645.out
                have hcz117_2 := bc2 BK645.out
                have hfz117_0 := blk_frozen BK645.out 0
                have hfz117_1 := blk_frozen BK645.out 1
                have hfz117_2 := blk_frozen BK645.out 2
                go_wp2_with (first | (go_at_call 15; (with_reducible refine (spec_SpanOk.calls t638 t639 t640 true _ A70.out).mono ?_); rintro e w118 ⟨rfl, hb⟩; have n0_ := Bk.mk (blk_below (g := gb645) (o := .cells #[.bool t638, .int .i64 t639, .int .i64 t640] 30 (0, 0)) bk hb); have n1_ := Bk.mk (blk_below (g := gb646) (o := .cells #[.bool t641, .int .i64 t642, .int .i64 t643] 30 (0, 0)) bk hb); have n2_ := Bk.mk (blk_below (g := gb653) (o := .cells #[.bool t647, .int .i64 t648, .int .i64 t649] 30 (0, 0)) bk hb); have n3_ := Bk.mk (blk_below (g := gb654) (o := .cells #[.bool t650, .int .i64 t651, .int .i64 t652] 30 (0, 0)) bk hb); have n4_ := Bk.mk (blk_below (g := gb661) (o := .cells #[.bool t655, .int .i64 t656, .int .i64 t657] 30 (0, 0)) bk hb); have n5_ := Bk.mk (blk_below (g := gb662) (o := .cells #[.bool t658, .int .i64 t659, .int .i64 t660] 30 (0, 0)) bk hb); have n6_ := Bl.mk (below_step bl hb); clear BK645; clear BK646; clear BK653; clear BK654; clear BK661; clear BK662; clear HB; have BK645 := n0_; have BK646 := n1_; have BK653 := n2_; have BK654 := n3_; have BK661 := n4_; have BK662 := n5_; have HB := n6_; clear n0_ n1_ n2_ n3_ n4_ n5_ n6_; (try clear hb); (try clear hb2); (try clear hk); (try clear hi); have hcz119_0 := bc0 BK646.out; have hcz119_1 := bc1 BK646.out; have hcz119_2 := bc2 BK646.out; have hfz119_0 := blk_frozen BK646.out 0; have hfz119_1 := blk_frozen BK646.out 1; have hfz119_2 := blk_frozen BK646.out 2) | (go_at_call 15; (with_reducible refine (spec_SpanOk.calls t641 t642 t643 true _ A72.out).mono ?_); rintro e w120 ⟨rfl, hb⟩; have n0_ := Bk.mk (blk_below (g := gb645) bk hb); have n1_ := Bk.mk (blk_below (g := gb646) bk hb); have n2_ := Bk.mk (blk_below (g := gb653) bk hb); have n3_ := Bk.mk (blk_below (g := gb654) bk hb); have n4_ := Bk.mk (blk_below (g := gb661) bk hb); have n5_ := Bk.mk (blk_below (g := gb662) bk hb); have n6_ := Bl.mk (below_step bl hb); clear BK645; clear BK646; clear BK653; clear BK654; clear BK661; clear BK662; clear HB; have BK645 := n0_; have BK646 := n1_; have BK653 := n2_; have BK654 := n3_; have BK661 := n4_; have BK662 := n5_; have HB := n6_; clear n0_ n1_ n2_ n3_ n4_ n5_ n6_; (try clear hb); (try clear hb2); (try clear hk); (try clear hi)))
                go_meet
                case rel => exact ⟨_, ((t637 != 6)), (by first | rfl | (simp; done) | (simp [*]; done)), H', ⟨by first | omega | exact Nat.le_refl _⟩, ⟨bk⟩, ⟨bk⟩, ⟨bk⟩, ⟨bk⟩, ⟨bk⟩, ⟨bk⟩, ⟨bl⟩⟩
            · replace c73 := Bool.eq_false_iff.mpr c73
              subst c73
              rw [if_neg (show ¬ (false = true) by decide)] at H
              have H' := Aside0.mk H
              clear H
              have hnb121 := NB653_645.out
              have hnc121 := NB645_653.out
              have hnb122 := NB653_646.out
              have hnc122 := NB646_653.out
              have hnb123 := NB653_654.out
              have hnc123 := NB654_653.out
              have hnb124 := NB653_661.out
              have hnc124 := NB661_653.out
              have hnb125 := NB653_662.out
              have hnc125 := NB662_653.out
              have hcz126_0 := bc0 BK653.out
              have hcz126_1 := bc1 BK653.out
              have hcz126_2 := bc2 BK653.out
              have hfz126_0 := blk_frozen BK653.out 0
              have hfz126_1 := blk_frozen BK653.out 1
              have hfz126_2 := blk_frozen BK653.out 2
              have hnb127 := NB661_645.out
              have hnc127 := NB645_661.out
              have hnb128 := NB661_646.out
              have hnc128 := NB646_661.out
              have hnb129 := NB661_654.out
              have hnc129 := NB654_661.out
              have hnb130 := NB661_662.out
              have hnc130 := NB662_661.out
              have hcz131_0 := bc0 BK661.out
              have hcz131_1 := bc1 BK661.out
              have hcz131_2 := bc2 BK661.out
              have hfz131_0 := blk_frozen BK661.out 0
              have hfz131_1 := blk_frozen BK661.out 1
              have hfz131_2 := blk_frozen BK661.out 2
              have hnb132 := NB654_645.out
              have hnc132 := NB645_654.out
              have hnb133 := NB654_646.out
              have hnc133 := NB646_654.out
              have hnb134 := NB654_662.out
              have hnc134 := NB662_654.out
              have hcz135_0 := bc0 BK654.out
              have hcz135_1 := bc1 BK654.out
              have hcz135_2 := bc2 BK654.out
              have hfz135_0 := blk_frozen BK654.out 0
              have hfz135_1 := blk_frozen BK654.out 1
              have hfz135_2 := blk_frozen BK654.out 2
              have hnb136 := NB662_645.out
              have hnc136 := NB645_662.out
              have hnb137 := NB662_646.out
              have hnc137 := NB646_662.out
              have hcz138_0 := bc0 BK662.out
              have hcz138_1 := bc1 BK662.out
              have hcz138_2 := bc2 BK662.out
              have hfz138_0 := blk_frozen BK662.out 0
              have hfz138_1 := blk_frozen BK662.out 1
              have hfz138_2 := blk_frozen BK662.out 2
              have hnb139 := NB645_646.out
              have hnc139 := NB646_645.out
              have hcz140_0 := bc0 BK645.out
              have hcz140_1 := bc1 BK645.out
              have hcz140_2 := bc2 BK645.out
              have hfz140_0 := blk_frozen BK645.out 0
              have hfz140_1 := blk_frozen BK645.out 1
              have hfz140_2 := blk_frozen BK645.out 2
              go_wp2_with (first | (go_at_call 15; (with_reducible refine (spec_SpanOk.calls t638 t639 t640 true _ A70.out).mono ?_); rintro e w141 ⟨rfl, hb⟩; have n0_ := Bk.mk (blk_below (g := gb645) (o := .cells #[.bool t638, .int .i64 t639, .int .i64 t640] 30 (0, 0)) bk hb); have n1_ := Bk.mk (blk_below (g := gb646) (o := .cells #[.bool t641, .int .i64 t642, .int .i64 t643] 30 (0, 0)) bk hb); have n2_ := Bk.mk (blk_below (g := gb653) (o := .cells #[.bool t647, .int .i64 t648, .int .i64 t649] 30 (0, 0)) bk hb); have n3_ := Bk.mk (blk_below (g := gb654) (o := .cells #[.bool t650, .int .i64 t651, .int .i64 t652] 30 (0, 0)) bk hb); have n4_ := Bk.mk (blk_below (g := gb661) (o := .cells #[.bool t655, .int .i64 t656, .int .i64 t657] 30 (0, 0)) bk hb); have n5_ := Bk.mk (blk_below (g := gb662) (o := .cells #[.bool t658, .int .i64 t659, .int .i64 t660] 30 (0, 0)) bk hb); have n6_ := Bl.mk (below_step bl hb); clear BK645; clear BK646; clear BK653; clear BK654; clear BK661; clear BK662; clear HB; have BK645 := n0_; have BK646 := n1_; have BK653 := n2_; have BK654 := n3_; have BK661 := n4_; have BK662 := n5_; have HB := n6_; clear n0_ n1_ n2_ n3_ n4_ n5_ n6_; (try clear hb); (try clear hb2); (try clear hk); (try clear hi); have hcz142_0 := bc0 BK646.out; have hcz142_1 := bc1 BK646.out; have hcz142_2 := bc2 BK646.out; have hfz142_0 := blk_frozen BK646.out 0; have hfz142_1 := blk_frozen BK646.out 1; have hfz142_2 := blk_frozen BK646.out 2) | (go_at_call 15; (with_reducible refine (spec_SpanOk.calls t641 t642 t643 false _ A72.out).mono ?_); rintro e w143 ⟨rfl, hb⟩; have n0_ := Bk.mk (blk_below (g := gb645) bk hb); have n1_ := Bk.mk (blk_below (g := gb646) bk hb); have n2_ := Bk.mk (blk_below (g := gb653) bk hb); have n3_ := Bk.mk (blk_below (g := gb654) bk hb); have n4_ := Bk.mk (blk_below (g := gb661) bk hb); have n5_ := Bk.mk (blk_below (g := gb662) bk hb); have n6_ := Bl.mk (below_step bl hb); clear BK645; clear BK646; clear BK653; clear BK654; clear BK661; clear BK662; clear HB; have BK645 := n0_; have BK646 := n1_; have BK653 := n2_; have BK654 := n3_; have BK661 := n4_; have BK662 := n5_; have HB := n6_; clear n0_ n1_ n2_ n3_ n4_ n5_ n6_; (try clear hb); (try clear hb2); (try clear hk); (try clear hi)))
              go_meet
              case rel => exact ⟨_, (true), (by first | rfl | (simp; done) | (simp [*]; done)), H', ⟨by first | omega | exact Nat.le_refl _⟩, ⟨bk⟩, ⟨bk⟩, ⟨bk⟩, ⟨bk⟩, ⟨bk⟩, ⟨bk⟩, ⟨bl⟩⟩
          · replace c71 := Bool.eq_false_iff.mpr c71
            subst c71
            rw [if_neg (show ¬ (false = true) by decide)] at H
            have H' := Aside0.mk H
            clear H
            have hnb144 := NB653_645.out
            have hnc144 := NB645_653.out
            have hnb145 := NB653_646.out
            have hnc145 := NB646_653.out
            have hnb146 := NB653_654.out
            have hnc146 := NB654_653.out
            have hnb147 := NB653_661.out
            have hnc147 := NB661_653.out
            have hnb148 := NB653_662.out
            have hnc148 := NB662_653.out
            have hcz149_0 := bc0 BK653.out
            have hcz149_1 := bc1 BK653.out
            have hcz149_2 := bc2 BK653.out
            have hfz149_0 := blk_frozen BK653.out 0
            have hfz149_1 := blk_frozen BK653.out 1
            have hfz149_2 := blk_frozen BK653.out 2
            have hnb150 := NB661_645.out
            have hnc150 := NB645_661.out
            have hnb151 := NB661_646.out
            have hnc151 := NB646_661.out
            have hnb152 := NB661_654.out
            have hnc152 := NB654_661.out
            have hnb153 := NB661_662.out
            have hnc153 := NB662_661.out
            have hcz154_0 := bc0 BK661.out
            have hcz154_1 := bc1 BK661.out
            have hcz154_2 := bc2 BK661.out
            have hfz154_0 := blk_frozen BK661.out 0
            have hfz154_1 := blk_frozen BK661.out 1
            have hfz154_2 := blk_frozen BK661.out 2
            have hnb155 := NB654_645.out
            have hnc155 := NB645_654.out
            have hnb156 := NB654_646.out
            have hnc156 := NB646_654.out
            have hnb157 := NB654_662.out
            have hnc157 := NB662_654.out
            have hcz158_0 := bc0 BK654.out
            have hcz158_1 := bc1 BK654.out
            have hcz158_2 := bc2 BK654.out
            have hfz158_0 := blk_frozen BK654.out 0
            have hfz158_1 := blk_frozen BK654.out 1
            have hfz158_2 := blk_frozen BK654.out 2
            have hnb159 := NB662_645.out
            have hnc159 := NB645_662.out
            have hnb160 := NB662_646.out
            have hnc160 := NB646_662.out
            have hcz161_0 := bc0 BK662.out
            have hcz161_1 := bc1 BK662.out
            have hcz161_2 := bc2 BK662.out
            have hfz161_0 := blk_frozen BK662.out 0
            have hfz161_1 := blk_frozen BK662.out 1
            have hfz161_2 := blk_frozen BK662.out 2
            have hnb162 := NB645_646.out
            have hnc162 := NB646_645.out
            have hcz163_0 := bc0 BK645.out
            have hcz163_1 := bc1 BK645.out
            have hcz163_2 := bc2 BK645.out
            have hfz163_0 := blk_frozen BK645.out 0
            have hfz163_1 := blk_frozen BK645.out 1
            have hfz163_2 := blk_frozen BK645.out 2
            go_wp2_with (first | (go_at_call 15; (with_reducible refine (spec_SpanOk.calls t638 t639 t640 false _ A70.out).mono ?_); rintro e w164 ⟨rfl, hb⟩; have n0_ := Bk.mk (blk_below (g := gb645) (o := .cells #[.bool t638, .int .i64 t639, .int .i64 t640] 30 (0, 0)) bk hb); have n1_ := Bk.mk (blk_below (g := gb646) (o := .cells #[.bool t641, .int .i64 t642, .int .i64 t643] 30 (0, 0)) bk hb); have n2_ := Bk.mk (blk_below (g := gb653) (o := .cells #[.bool t647, .int .i64 t648, .int .i64 t649] 30 (0, 0)) bk hb); have n3_ := Bk.mk (blk_below (g := gb654) (o := .cells #[.bool t650, .int .i64 t651, .int .i64 t652] 30 (0, 0)) bk hb); have n4_ := Bk.mk (blk_below (g := gb661) (o := .cells #[.bool t655, .int .i64 t656, .int .i64 t657] 30 (0, 0)) bk hb); have n5_ := Bk.mk (blk_below (g := gb662) (o := .cells #[.bool t658, .int .i64 t659, .int .i64 t660] 30 (0, 0)) bk hb); have n6_ := Bl.mk (below_step bl hb); clear BK645; clear BK646; clear BK653; clear BK654; clear BK661; clear BK662; clear HB; have BK645 := n0_; have BK646 := n1_; have BK653 := n2_; have BK654 := n3_; have BK661 := n4_; have BK662 := n5_; have HB := n6_; clear n0_ n1_ n2_ n3_ n4_ n5_ n6_; (try clear hb); (try clear hb2); (try clear hk); (try clear hi)))
            go_meet
            case rel => exact ⟨_, (true), (by first | rfl | (simp; done) | (simp [*]; done)), H', ⟨by first | omega | exact Nat.le_refl _⟩, ⟨bk⟩, ⟨bk⟩, ⟨bk⟩, ⟨bk⟩, ⟨bk⟩, ⟨bk⟩, ⟨bl⟩⟩
    case rest =>
      clear HC6
      try clear c1
      try clear c2
      try clear c2b0
      try clear c2b1
      try clear p2
      try clear c3
      try clear c4
      try clear c5
      try clear c6
      try clear c7
      try clear c8
      try clear c9
      try clear c10
      try clear c11
      try clear c12
      try clear c13
      try clear c14
      try clear c15
      try clear c16
      try clear c17
      try clear c18
      try clear c19
      try clear c20
      try clear c21
      try clear c23
      try clear c28
      try clear c29
      try clear c30
      try clear c31
      try clear c32
      try clear c34
      try clear c35
      try clear c36
      try clear c37
      try clear c39
      try clear c39b0
      try clear c40
      try clear c41
      try clear c42
      try clear c43
      try clear c44
      try clear c46
      try clear c47
      try clear c48
      try clear c49
      try clear c51
      try clear c51b0
      try clear c52
      try clear c53
      try clear c54
      try clear c55
      try clear c56
      try clear c58
      try clear c59
      try clear c60
      try clear c61
      try clear c63
      try clear c64
      try clear c65
      try clear c67
      try clear c68
      try clear c71
      try clear c73
      try clear c74
      try clear c74b0
      try clear c74b1
      try clear c75
      try clear c76
      try clear c77
      try clear c78
      try clear c79
      try clear c81
      try clear c82
      try clear c83
      try clear c84
      try clear c86
      try clear c87
      try clear c88
      try clear c90
      try clear c91
      try clear c93
      try clear c98
      try clear c99
      try clear c100
      try clear c101
      try clear c102
      try clear c104
      try clear c105
      try clear c106
      try clear c107
      try clear c109
      try clear c110
      try clear c111
      try clear c113
      try clear c114
      try clear c116
      try clear c121
      try clear c122
      try clear c123
      try clear c124
      try clear c125
      try clear c127
      try clear c128
      try clear c129
      try clear c130
      try clear c132
      try clear c133
      try clear c134
      try clear c136
      try clear c137
      try clear c139
      try clear c144
      try clear c145
      try clear c146
      try clear c147
      try clear c148
      try clear c150
      try clear c151
      try clear c152
      try clear c153
      try clear c155
      try clear c156
      try clear c157
      try clear c159
      try clear c160
      try clear c162
      try clear hcz103_0
      try clear hcz103_1
      try clear hcz103_2
      try clear hcz108_0
      try clear hcz108_1
      try clear hcz108_2
      try clear hcz112_0
      try clear hcz112_1
      try clear hcz112_2
      try clear hcz115_0
      try clear hcz115_1
      try clear hcz115_2
      try clear hcz117_0
      try clear hcz117_1
      try clear hcz117_2
      try clear hcz119_0
      try clear hcz119_1
      try clear hcz119_2
      try clear hcz11_0
      try clear hcz11_1
      try clear hcz11_2
      try clear hcz126_0
      try clear hcz126_1
      try clear hcz126_2
      try clear hcz12_0
      try clear hcz12_1
      try clear hcz12_2
      try clear hcz131_0
      try clear hcz131_1
      try clear hcz131_2
      try clear hcz135_0
      try clear hcz135_1
      try clear hcz135_2
      try clear hcz138_0
      try clear hcz138_1
      try clear hcz138_2
      try clear hcz140_0
      try clear hcz140_1
      try clear hcz140_2
      try clear hcz142_0
      try clear hcz142_1
      try clear hcz142_2
      try clear hcz149_0
      try clear hcz149_1
      try clear hcz149_2
      try clear hcz154_0
      try clear hcz154_1
      try clear hcz154_2
      try clear hcz158_0
      try clear hcz158_1
      try clear hcz158_2
      try clear hcz161_0
      try clear hcz161_1
      try clear hcz161_2
      try clear hcz163_0
      try clear hcz163_1
      try clear hcz163_2
      try clear hcz19_0
      try clear hcz19_1
      try clear hcz19_2
      try clear hcz22_0
      try clear hcz22_1
      try clear hcz22_2
      try clear hcz23_0
      try clear hcz23_1
      try clear hcz23_2
      try clear hcz24_0
      try clear hcz24_1
      try clear hcz24_2
      try clear hcz33_0
      try clear hcz33_1
      try clear hcz33_2
      try clear hcz38_0
      try clear hcz38_1
      try clear hcz38_2
      try clear hcz45_0
      try clear hcz45_1
      try clear hcz45_2
      try clear hcz50_0
      try clear hcz50_1
      try clear hcz50_2
      try clear hcz57_0
      try clear hcz57_1
      try clear hcz57_2
      try clear hcz62_0
      try clear hcz62_1
      try clear hcz62_2
      try clear hcz66_0
      try clear hcz66_1
      try clear hcz66_2
      try clear hcz69_0
      try clear hcz69_1
      try clear hcz69_2
      try clear hcz80_0
      try clear hcz80_1
      try clear hcz80_2
      try clear hcz85_0
      try clear hcz85_1
      try clear hcz85_2
      try clear hcz89_0
      try clear hcz89_1
      try clear hcz89_2
      try clear hcz92_0
      try clear hcz92_1
      try clear hcz92_2
      try clear hcz94_0
      try clear hcz94_1
      try clear hcz94_2
      try clear hcz96_0
      try clear hcz96_1
      try clear hcz96_2
      try clear hfz103_0
      try clear hfz103_1
      try clear hfz103_2
      try clear hfz108_0
      try clear hfz108_1
      try clear hfz108_2
      try clear hfz112_0
      try clear hfz112_1
      try clear hfz112_2
      try clear hfz115_0
      try clear hfz115_1
      try clear hfz115_2
      try clear hfz117_0
      try clear hfz117_1
      try clear hfz117_2
      try clear hfz119_0
      try clear hfz119_1
      try clear hfz119_2
      try clear hfz11_0
      try clear hfz11_1
      try clear hfz11_2
      try clear hfz126_0
      try clear hfz126_1
      try clear hfz126_2
      try clear hfz12_0
      try clear hfz12_1
      try clear hfz12_2
      try clear hfz131_0
      try clear hfz131_1
      try clear hfz131_2
      try clear hfz135_0
      try clear hfz135_1
      try clear hfz135_2
      try clear hfz138_0
      try clear hfz138_1
      try clear hfz138_2
      try clear hfz140_0
      try clear hfz140_1
      try clear hfz140_2
      try clear hfz142_0
      try clear hfz142_1
      try clear hfz142_2
      try clear hfz149_0
      try clear hfz149_1
      try clear hfz149_2
      try clear hfz154_0
      try clear hfz154_1
      try clear hfz154_2
      try clear hfz158_0
      try clear hfz158_1
      try clear hfz158_2
      try clear hfz161_0
      try clear hfz161_1
      try clear hfz161_2
      try clear hfz163_0
      try clear hfz163_1
      try clear hfz163_2
      try clear hfz19_0
      try clear hfz19_1
      try clear hfz19_2
      try clear hfz22_0
      try clear hfz22_1
      try clear hfz22_2
      try clear hfz23_0
      try clear hfz23_1
      try clear hfz23_2
      try clear hfz24_0
      try clear hfz24_1
      try clear hfz24_2
      try clear hfz33_0
      try clear hfz33_1
      try clear hfz33_2
      try clear hfz38_0
      try clear hfz38_1
      try clear hfz38_2
      try clear hfz45_0
      try clear hfz45_1
      try clear hfz45_2
      try clear hfz50_0
      try clear hfz50_1
      try clear hfz50_2
      try clear hfz57_0
      try clear hfz57_1
      try clear hfz57_2
      try clear hfz62_0
      try clear hfz62_1
      try clear hfz62_2
      try clear hfz66_0
      try clear hfz66_1
      try clear hfz66_2
      try clear hfz69_0
      try clear hfz69_1
      try clear hfz69_2
      try clear hfz80_0
      try clear hfz80_1
      try clear hfz80_2
      try clear hfz85_0
      try clear hfz85_1
      try clear hfz85_2
      try clear hfz89_0
      try clear hfz89_1
      try clear hfz89_2
      try clear hfz92_0
      try clear hfz92_1
      try clear hfz92_2
      try clear hfz94_0
      try clear hfz94_1
      try clear hfz94_2
      try clear hfz96_0
      try clear hfz96_1
      try clear hfz96_2
      obtain ⟨kq, x68_5, rfl, HA, HJ5, BK645, BK646, BK653, BK654, BK661, BK662, HB⟩ := hcut
      cases kq with
      | zero => exact absurd HA.out (by simp [laws_FnSpanWhen.j0])
      | succ kj5 =>
        have H := HA.out
        clear HA
        simp only [laws_FnSpanWhen.j0] at H
        by_cases c165 : x68_5 = true
        · subst c165
          rw [if_pos rfl] at H
          by_cases c166 : (t647 == t655 && (t648 == t656 && (t649 == t657))) = true
          · rw [if_pos c166] at H
            have c166b0 : (t647 == t655 && (t648 == t656 && (t649 == t657))) = true := c166
            (try (have c166b1 : decide (t647 = t655 && (t648 == t656 && (t649 == t657))) = true := by simpa using c166))
            (try (have c166b2 : (t647 == t655 && (t648 == t656 && (t649 == t657))) = true := by simpa using c166))
            clear c166
            obtain rfl := Option.some.inj H
            have hnb167 := NB653_645.out
            have hnc167 := NB645_653.out
            have hnb168 := NB653_646.out
            have hnc168 := NB646_653.out
            have hnb169 := NB653_654.out
            have hnc169 := NB654_653.out
            have hnb170 := NB653_661.out
            have hnc170 := NB661_653.out
            have hnb171 := NB653_662.out
            have hnc171 := NB662_653.out
            have hcz172_0 := bc0 BK653.out
            have hcz172_1 := bc1 BK653.out
            have hcz172_2 := bc2 BK653.out
            have hfz172_0 := blk_frozen BK653.out 0
            have hfz172_1 := blk_frozen BK653.out 1
            have hfz172_2 := blk_frozen BK653.out 2
            have hnb173 := NB661_645.out
            have hnc173 := NB645_661.out
            have hnb174 := NB661_646.out
            have hnc174 := NB646_661.out
            have hnb175 := NB661_654.out
            have hnc175 := NB654_661.out
            have hnb176 := NB661_662.out
            have hnc176 := NB662_661.out
            have hcz177_0 := bc0 BK661.out
            have hcz177_1 := bc1 BK661.out
            have hcz177_2 := bc2 BK661.out
            have hfz177_0 := blk_frozen BK661.out 0
            have hfz177_1 := blk_frozen BK661.out 1
            have hfz177_2 := blk_frozen BK661.out 2
            have hnb178 := NB654_645.out
            have hnc178 := NB645_654.out
            have hnb179 := NB654_646.out
            have hnc179 := NB646_654.out
            have hnb180 := NB654_662.out
            have hnc180 := NB662_654.out
            have hcz181_0 := bc0 BK654.out
            have hcz181_1 := bc1 BK654.out
            have hcz181_2 := bc2 BK654.out
            have hfz181_0 := blk_frozen BK654.out 0
            have hfz181_1 := blk_frozen BK654.out 1
            have hfz181_2 := blk_frozen BK654.out 2
            have hnb182 := NB662_645.out
            have hnc182 := NB645_662.out
            have hnb183 := NB662_646.out
            have hnc183 := NB646_662.out
            have hcz184_0 := bc0 BK662.out
            have hcz184_1 := bc1 BK662.out
            have hcz184_2 := bc2 BK662.out
            have hfz184_0 := blk_frozen BK662.out 0
            have hfz184_1 := blk_frozen BK662.out 1
            have hfz184_2 := blk_frozen BK662.out 2
            go_wp2
            go_ret
            exact ⟨by first | rfl | (simp [errW_none, errW_some] <;> rfl) | (simp [*, errW_none, errW_some] <;> rfl), bl⟩
          · rw [if_neg c166] at H
            have c166b0 : (t647 == t655 && (t648 == t656 && (t649 == t657))) = false := by simpa using c166
            (try (have c166b1 : decide (t647 = t655 && (t648 == t656 && (t649 == t657))) = false := by simpa using c166))
            (try (have c166b2 : (t647 == t655 && (t648 == t656 && (t649 == t657))) = false := by simpa using c166))
            (try (have c166b3 : ¬ (t647 = t655 && (t648 == t656 && (t649 == t657))) := by simpa using c166))
            clear c166
            obtain rfl := Option.some.inj H
            have hnb185 := NB653_645.out
            have hnc185 := NB645_653.out
            have hnb186 := NB653_646.out
            have hnc186 := NB646_653.out
            have hnb187 := NB653_654.out
            have hnc187 := NB654_653.out
            have hnb188 := NB653_661.out
            have hnc188 := NB661_653.out
            have hnb189 := NB653_662.out
            have hnc189 := NB662_653.out
            have hcz190_0 := bc0 BK653.out
            have hcz190_1 := bc1 BK653.out
            have hcz190_2 := bc2 BK653.out
            have hfz190_0 := blk_frozen BK653.out 0
            have hfz190_1 := blk_frozen BK653.out 1
            have hfz190_2 := blk_frozen BK653.out 2
            have hnb191 := NB661_645.out
            have hnc191 := NB645_661.out
            have hnb192 := NB661_646.out
            have hnc192 := NB646_661.out
            have hnb193 := NB661_654.out
            have hnc193 := NB654_661.out
            have hnb194 := NB661_662.out
            have hnc194 := NB662_661.out
            have hcz195_0 := bc0 BK661.out
            have hcz195_1 := bc1 BK661.out
            have hcz195_2 := bc2 BK661.out
            have hfz195_0 := blk_frozen BK661.out 0
            have hfz195_1 := blk_frozen BK661.out 1
            have hfz195_2 := blk_frozen BK661.out 2
            go_wp2
            go_ret
            exact ⟨by first | rfl | (simp [errW_none, errW_some] <;> rfl) | (simp [*, errW_none, errW_some] <;> rfl), bl⟩
        · replace c165 := Bool.eq_false_iff.mpr c165
          subst c165
          rw [if_neg (show ¬ (false = true) by decide)] at H
          have H' := Aside0.mk H
          clear H
          go_wp2_with (first | ((with_reducible refine gate_dst (N := 11) rfl ?_); refine box_event ?hg (N := 11) ?hd (cs := #[.bool false, .int .i64 0, .int .i64 0]) (t := 30) ?hr ?_; (case hd => rfl); (case hg => rfl); (case hr => first | (go_simp; done) | (go_simp; rfl)); intro gb665 hg w196 hbox hb; have n0_ := Bk.mk (blk_below (g := gb645) bk hb); have n1_ := Bk.mk (blk_below (g := gb646) bk hb); have n2_ := Bk.mk (blk_below (g := gb653) bk hb); have n3_ := Bk.mk (blk_below (g := gb654) bk hb); have n4_ := Bk.mk (blk_below (g := gb661) bk hb); have n5_ := Bk.mk (blk_below (g := gb662) bk hb); have n6_ := Bl.mk (below_step bl hb); have n7_ := Bk.mk (hbox); have n8_ := Aside0.mk ((by rw [hg]; exact (below_size bl) : w.heap.size ≤ gb665)); have n9_ := Gl.mk ((by rw [hg]; exact (below_size bl) : w.heap.size ≤ gb665)); have n10_ := Nb.mk ((by rw [hg]; exact Nat.ne_of_lt (blk_lt (g := gb645) bk) : gb645 ≠ gb665)); have n11_ := Nb.mk ((by rw [hg]; exact Nat.ne_of_gt (blk_lt (g := gb645) bk) : gb665 ≠ gb645)); have n12_ := Nb.mk ((by rw [hg]; exact Nat.ne_of_lt (blk_lt (g := gb646) bk) : gb646 ≠ gb665)); have n13_ := Nb.mk ((by rw [hg]; exact Nat.ne_of_gt (blk_lt (g := gb646) bk) : gb665 ≠ gb646)); have n14_ := Nb.mk ((by rw [hg]; exact Nat.ne_of_lt (blk_lt (g := gb653) bk) : gb653 ≠ gb665)); have n15_ := Nb.mk ((by rw [hg]; exact Nat.ne_of_gt (blk_lt (g := gb653) bk) : gb665 ≠ gb653)); have n16_ := Nb.mk ((by rw [hg]; exact Nat.ne_of_lt (blk_lt (g := gb654) bk) : gb654 ≠ gb665)); have n17_ := Nb.mk ((by rw [hg]; exact Nat.ne_of_gt (blk_lt (g := gb654) bk) : gb665 ≠ gb654)); have n18_ := Nb.mk ((by rw [hg]; exact Nat.ne_of_lt (blk_lt (g := gb661) bk) : gb661 ≠ gb665)); have n19_ := Nb.mk ((by rw [hg]; exact Nat.ne_of_gt (blk_lt (g := gb661) bk) : gb665 ≠ gb661)); have n20_ := Nb.mk ((by rw [hg]; exact Nat.ne_of_lt (blk_lt (g := gb662) bk) : gb662 ≠ gb665)); have n21_ := Nb.mk ((by rw [hg]; exact Nat.ne_of_gt (blk_lt (g := gb662) bk) : gb665 ≠ gb662)); clear BK645; clear BK646; clear BK653; clear BK654; clear BK661; clear BK662; clear HB; have BK645 := n0_; have BK646 := n1_; have BK653 := n2_; have BK654 := n3_; have BK661 := n4_; have BK662 := n5_; have HB := n6_; have BK665 := n7_; have GW665 := n8_; have GE665 := n9_; have NB645_665 := n10_; have NB665_645 := n11_; have NB646_665 := n12_; have NB665_646 := n13_; have NB653_665 := n14_; have NB665_653 := n15_; have NB654_665 := n16_; have NB665_654 := n17_; have NB661_665 := n18_; have NB665_661 := n19_; have NB662_665 := n20_; have NB665_662 := n21_; clear n0_ n1_ n2_ n3_ n4_ n5_ n6_ n7_ n8_ n9_ n10_ n11_ n12_ n13_ n14_ n15_ n16_ n17_ n18_ n19_ n20_ n21_; clear hb hbox hg; have hnb197 := NB665_645.out; have hnc197 := NB645_665.out; have hnb198 := NB665_646.out; have hnc198 := NB646_665.out; have hnb199 := NB665_653.out; have hnc199 := NB653_665.out; have hnb200 := NB665_654.out; have hnc200 := NB654_665.out; have hnb201 := NB665_661.out; have hnc201 := NB661_665.out; have hnb202 := NB665_662.out; have hnc202 := NB662_665.out; have hcz203_0 := bc0 BK665.out; have hcz203_1 := bc1 BK665.out; have hcz203_2 := bc2 BK665.out; have hfz203_0 := blk_frozen BK665.out 0; have hfz203_1 := blk_frozen BK665.out 1; have hfz203_2 := blk_frozen BK665.out 2) | ((with_reducible refine gate_dst (N := 12) rfl ?_); refine box_event ?hg (N := 12) ?hd (cs := #[.bool false, .int .i64 0, .int .i64 0]) (t := 30) ?hr ?_; (case hd => rfl); (case hg => rfl); (case hr => first | (go_simp; done) | (go_simp; rfl)); intro gb666 hg w204 hbox hb; have n0_ := Bk.mk (blk_below (g := gb645) (o := .cells #[.bool t638, .int .i64 t639, .int .i64 t640] 30 (0, 0)) bk hb); have n1_ := Bk.mk (blk_below (g := gb646) (o := .cells #[.bool t641, .int .i64 t642, .int .i64 t643] 30 (0, 0)) bk hb); have n2_ := Bk.mk (blk_below (g := gb653) (o := .cells #[.bool t647, .int .i64 t648, .int .i64 t649] 30 (0, 0)) bk hb); have n3_ := Bk.mk (blk_below (g := gb654) (o := .cells #[.bool t650, .int .i64 t651, .int .i64 t652] 30 (0, 0)) bk hb); have n4_ := Bk.mk (blk_below (g := gb661) (o := .cells #[.bool t655, .int .i64 t656, .int .i64 t657] 30 (0, 0)) bk hb); have n5_ := Bk.mk (blk_below (g := gb662) (o := .cells #[.bool t658, .int .i64 t659, .int .i64 t660] 30 (0, 0)) bk hb); have n6_ := Bk.mk (blk_below (g := gb665) (o := .cells #[.bool false, .int .i64 0, .int .i64 0] 30 (0, 0)) bk hb); have n7_ := Bl.mk (below_step bl hb); have n8_ := Bk.mk (hbox); have n9_ := Aside0.mk ((by rw [hg]; exact (below_size bl) : w.heap.size ≤ gb666)); have n10_ := Gl.mk ((by rw [hg]; exact (below_size bl) : w.heap.size ≤ gb666)); have n11_ := Nb.mk ((by rw [hg]; exact Nat.ne_of_lt (blk_lt (g := gb645) (o := .cells #[.bool t638, .int .i64 t639, .int .i64 t640] 30 (0, 0)) bk) : gb645 ≠ gb666)); have n12_ := Nb.mk ((by rw [hg]; exact Nat.ne_of_gt (blk_lt (g := gb645) (o := .cells #[.bool t638, .int .i64 t639, .int .i64 t640] 30 (0, 0)) bk) : gb666 ≠ gb645)); have n13_ := Nb.mk ((by rw [hg]; exact Nat.ne_of_lt (blk_lt (g := gb646) (o := .cells #[.bool t641, .int .i64 t642, .int .i64 t643] 30 (0, 0)) bk) : gb646 ≠ gb666)); have n14_ := Nb.mk ((by rw [hg]; exact Nat.ne_of_gt (blk_lt (g := gb646) (o := .cells #[.bool t641, .int .i64 t642, .int .i64 t643] 30 (0, 0)) bk) : gb666 ≠ gb646)); have n15_ := Nb.mk ((by rw [hg]; exact Nat.ne_of_lt (blk_lt (g := gb653) (o := .cells #[.bool t647, .int .i64 t648, .int .i64 t649] 30 (0, 0)) bk) : gb653 ≠ gb666)); have n16_ := Nb.mk ((by rw [hg]; exact Nat.ne_of_gt (blk_lt (g := gb653) (o := .cells #[.bool t647, .int .i64 t648, .int .i64 t649] 30 (0, 0)) bk) : gb666 ≠ gb653)); have n17_ := Nb.mk ((by rw [hg]; exact Nat.ne_of_lt (blk_lt (g := gb654) (o := .cells #[.bool t650, .int .i64 t651, .int .i64 t652] 30 (0, 0)) bk) : gb654 ≠ gb666)); have n18_ := Nb.mk ((by rw [hg]; exact Nat.ne_of_gt (blk_lt (g := gb654) (o := .cells #[.bool t650, .int .i64 t651, .int .i64 t652] 30 (0, 0)) bk) : gb666 ≠ gb654)); have n19_ := Nb.mk ((by rw [hg]; exact Nat.ne_of_lt (blk_lt (g := gb661) (o := .cells #[.bool t655, .int .i64 t656, .int .i64 t657] 30 (0, 0)) bk) : gb661 ≠ gb666)); have n20_ := Nb.mk ((by rw [hg]; exact Nat.ne_of_gt (blk_lt (g := gb661) (o := .cells #[.bool t655, .int .i64 t656, .int .i64 t657] 30 (0, 0)) bk) : gb666 ≠ gb661)); have n21_ := Nb.mk ((by rw [hg]; exact Nat.ne_of_lt (blk_lt (g := gb662) (o := .cells #[.bool t658, .int .i64 t659, .int .i64 t660] 30 (0, 0)) bk) : gb662 ≠ gb666)); have n22_ := Nb.mk ((by rw [hg]; exact Nat.ne_of_gt (blk_lt (g := gb662) (o := .cells #[.bool t658, .int .i64 t659, .int .i64 t660] 30 (0, 0)) bk) : gb666 ≠ gb662)); have n23_ := Nb.mk ((by rw [hg]; exact Nat.ne_of_lt (blk_lt (g := gb665) (o := .cells #[.bool false, .int .i64 0, .int .i64 0] 30 (0, 0)) bk) : gb665 ≠ gb666)); have n24_ := Nb.mk ((by rw [hg]; exact Nat.ne_of_gt (blk_lt (g := gb665) (o := .cells #[.bool false, .int .i64 0, .int .i64 0] 30 (0, 0)) bk) : gb666 ≠ gb665)); clear BK645; clear BK646; clear BK653; clear BK654; clear BK661; clear BK662; clear BK665; clear HB; have BK645 := n0_; have BK646 := n1_; have BK653 := n2_; have BK654 := n3_; have BK661 := n4_; have BK662 := n5_; have BK665 := n6_; have HB := n7_; have BK666 := n8_; have GW666 := n9_; have GE666 := n10_; have NB645_666 := n11_; have NB666_645 := n12_; have NB646_666 := n13_; have NB666_646 := n14_; have NB653_666 := n15_; have NB666_653 := n16_; have NB654_666 := n17_; have NB666_654 := n18_; have NB661_666 := n19_; have NB666_661 := n20_; have NB662_666 := n21_; have NB666_662 := n22_; have NB665_666 := n23_; have NB666_665 := n24_; clear n0_ n1_ n2_ n3_ n4_ n5_ n6_ n7_ n8_ n9_ n10_ n11_ n12_ n13_ n14_ n15_ n16_ n17_ n18_ n19_ n20_ n21_ n22_ n23_ n24_; clear hb hbox hg; have hnb205 := NB666_645.out; have hnc205 := NB645_666.out; have hnb206 := NB666_646.out; have hnc206 := NB646_666.out; have hnb207 := NB666_653.out; have hnc207 := NB653_666.out; have hnb208 := NB666_654.out; have hnc208 := NB654_666.out; have hnb209 := NB666_661.out; have hnc209 := NB661_666.out; have hnb210 := NB666_662.out; have hnc210 := NB662_666.out; have hnb211 := NB666_665.out; have hnc211 := NB665_666.out; have hcz212_0 := bc0 BK666.out; have hcz212_1 := bc1 BK666.out; have hcz212_2 := bc2 BK666.out; have hfz212_0 := blk_frozen BK666.out 0; have hfz212_1 := blk_frozen BK666.out 1; have hfz212_2 := blk_frozen BK666.out 2))
          go_loopg [13] kj5 (fun kq v13 w' => ∃ (x13_2 : Int) (x666000_2 : Bool) (x666001_2 : Int) (x666002_2 : Int) (x667000_2 : Bool) (x667001_2 : Int) (x667002_2 : Int), v13 = .int .i64 x13_2 ∧ Aside0 (laws_FnSpanWhen.l0 kq t637 t644 x13_2 t638 t639 t640 t641 t642 t643 t647 t648 t649 t650 t651 t652 x666000_2 x666001_2 x666002_2 x667000_2 x667001_2 x667002_2 = some r) ∧ Aside0 (kq ≤ kj5) ∧ Bk w' gb645 (.cells #[.bool t638, .int .i64 t639, .int .i64 t640] 30 (0, 0)) ∧ Bk w' gb646 (.cells #[.bool t641, .int .i64 t642, .int .i64 t643] 30 (0, 0)) ∧ Bk w' gb653 (.cells #[.bool t647, .int .i64 t648, .int .i64 t649] 30 (0, 0)) ∧ Bk w' gb654 (.cells #[.bool t650, .int .i64 t651, .int .i64 t652] 30 (0, 0)) ∧ Bk w' gb661 (.cells #[.bool t655, .int .i64 t656, .int .i64 t657] 30 (0, 0)) ∧ Bk w' gb662 (.cells #[.bool t658, .int .i64 t659, .int .i64 t660] 30 (0, 0)) ∧ Bk w' gb665 (.cells #[.bool x666000_2, .int .i64 x666001_2, .int .i64 x666002_2] 30 (0, 0)) ∧ Bk w' gb666 (.cells #[.bool x667000_2, .int .i64 x667001_2, .int .i64 x667002_2] 30 (0, 0)) ∧ Bl w.heap.size w w')
          case atStart => exact ⟨((-16)), (false), (0), (0), (false), (0), (0), (by first | rfl | (simp; done) | (simp [*]; done)), H', ⟨Nat.le_refl _⟩, ⟨bk⟩, ⟨bk⟩, ⟨bk⟩, ⟨bk⟩, ⟨bk⟩, ⟨bk⟩, ⟨bk⟩, ⟨bk⟩, ⟨bl⟩⟩
          case round =>
            clear H'
            try clear c1
            try clear c2
            try clear c2b0
            try clear c2b1
            try clear p2
            try clear c3
            try clear c4
            try clear c5
            try clear c6
            try clear c7
            try clear c8
            try clear c9
            try clear c10
            try clear c11
            try clear c12
            try clear c13
            try clear c14
            try clear c15
            try clear c16
            try clear c17
            try clear c18
            try clear c19
            try clear c20
            try clear c21
            try clear c23
            try clear c28
            try clear c29
            try clear c30
            try clear c31
            try clear c32
            try clear c34
            try clear c35
            try clear c36
            try clear c37
            try clear c39
            try clear c39b0
            try clear c40
            try clear c41
            try clear c42
            try clear c43
            try clear c44
            try clear c46
            try clear c47
            try clear c48
            try clear c49
            try clear c51
            try clear c51b0
            try clear c52
            try clear c53
            try clear c54
            try clear c55
            try clear c56
            try clear c58
            try clear c59
            try clear c60
            try clear c61
            try clear c63
            try clear c64
            try clear c65
            try clear c67
            try clear c68
            try clear c71
            try clear c73
            try clear c74
            try clear c74b0
            try clear c74b1
            try clear c75
            try clear c76
            try clear c77
            try clear c78
            try clear c79
            try clear c81
            try clear c82
            try clear c83
            try clear c84
            try clear c86
            try clear c87
            try clear c88
            try clear c90
            try clear c91
            try clear c93
            try clear c98
            try clear c99
            try clear c100
            try clear c101
            try clear c102
            try clear c104
            try clear c105
            try clear c106
            try clear c107
            try clear c109
            try clear c110
            try clear c111
            try clear c113
            try clear c114
            try clear c116
            try clear c121
            try clear c122
            try clear c123
            try clear c124
            try clear c125
            try clear c127
            try clear c128
            try clear c129
            try clear c130
            try clear c132
            try clear c133
            try clear c134
            try clear c136
            try clear c137
            try clear c139
            try clear c144
            try clear c145
            try clear c146
            try clear c147
            try clear c148
            try clear c150
            try clear c151
            try clear c152
            try clear c153
            try clear c155
            try clear c156
            try clear c157
            try clear c159
            try clear c160
            try clear c162
            try clear c165
            try clear c166
            try clear c166b0
            try clear c166b1
            try clear c166b2
            try clear c167
            try clear c168
            try clear c169
            try clear c170
            try clear c171
            try clear c173
            try clear c174
            try clear c175
            try clear c176
            try clear c178
            try clear c179
            try clear c180
            try clear c182
            try clear c183
            try clear c185
            try clear c186
            try clear c187
            try clear c188
            try clear c189
            try clear c191
            try clear c192
            try clear c193
            try clear c194
            try clear c197
            try clear c198
            try clear c199
            try clear c200
            try clear c201
            try clear c202
            try clear c205
            try clear c206
            try clear c207
            try clear c208
            try clear c209
            try clear c210
            try clear c211
            try clear hcz103_0
            try clear hcz103_1
            try clear hcz103_2
            try clear hcz108_0
            try clear hcz108_1
            try clear hcz108_2
            try clear hcz112_0
            try clear hcz112_1
            try clear hcz112_2
            try clear hcz115_0
            try clear hcz115_1
            try clear hcz115_2
            try clear hcz117_0
            try clear hcz117_1
            try clear hcz117_2
            try clear hcz119_0
            try clear hcz119_1
            try clear hcz119_2
            try clear hcz11_0
            try clear hcz11_1
            try clear hcz11_2
            try clear hcz126_0
            try clear hcz126_1
            try clear hcz126_2
            try clear hcz12_0
            try clear hcz12_1
            try clear hcz12_2
            try clear hcz131_0
            try clear hcz131_1
            try clear hcz131_2
            try clear hcz135_0
            try clear hcz135_1
            try clear hcz135_2
            try clear hcz138_0
            try clear hcz138_1
            try clear hcz138_2
            try clear hcz140_0
            try clear hcz140_1
            try clear hcz140_2
            try clear hcz142_0
            try clear hcz142_1
            try clear hcz142_2
            try clear hcz149_0
            try clear hcz149_1
            try clear hcz149_2
            try clear hcz154_0
            try clear hcz154_1
            try clear hcz154_2
            try clear hcz158_0
            try clear hcz158_1
            try clear hcz158_2
            try clear hcz161_0
            try clear hcz161_1
            try clear hcz161_2
            try clear hcz163_0
            try clear hcz163_1
            try clear hcz163_2
            try clear hcz172_0
            try clear hcz172_1
            try clear hcz172_2
            try clear hcz177_0
            try clear hcz177_1
            try clear hcz177_2
            try clear hcz181_0
            try clear hcz181_1
            try clear hcz181_2
            try clear hcz184_0
            try clear hcz184_1
            try clear hcz184_2
            try clear hcz190_0
            try clear hcz190_1
            try clear hcz190_2
            try clear hcz195_0
            try clear hcz195_1
            try clear hcz195_2
            try clear hcz19_0
            try clear hcz19_1
            try clear hcz19_2
            try clear hcz203_0
            try clear hcz203_1
            try clear hcz203_2
            try clear hcz212_0
            try clear hcz212_1
            try clear hcz212_2
            try clear hcz22_0
            try clear hcz22_1
            try clear hcz22_2
            try clear hcz23_0
            try clear hcz23_1
            try clear hcz23_2
            try clear hcz24_0
            try clear hcz24_1
            try clear hcz24_2
            try clear hcz33_0
            try clear hcz33_1
            try clear hcz33_2
            try clear hcz38_0
            try clear hcz38_1
            try clear hcz38_2
            try clear hcz45_0
            try clear hcz45_1
            try clear hcz45_2
            try clear hcz50_0
            try clear hcz50_1
            try clear hcz50_2
            try clear hcz57_0
            try clear hcz57_1
            try clear hcz57_2
            try clear hcz62_0
            try clear hcz62_1
            try clear hcz62_2
            try clear hcz66_0
            try clear hcz66_1
            try clear hcz66_2
            try clear hcz69_0
            try clear hcz69_1
            try clear hcz69_2
            try clear hcz80_0
            try clear hcz80_1
            try clear hcz80_2
            try clear hcz85_0
            try clear hcz85_1
            try clear hcz85_2
            try clear hcz89_0
            try clear hcz89_1
            try clear hcz89_2
            try clear hcz92_0
            try clear hcz92_1
            try clear hcz92_2
            try clear hcz94_0
            try clear hcz94_1
            try clear hcz94_2
            try clear hcz96_0
            try clear hcz96_1
            try clear hcz96_2
            try clear hfz103_0
            try clear hfz103_1
            try clear hfz103_2
            try clear hfz108_0
            try clear hfz108_1
            try clear hfz108_2
            try clear hfz112_0
            try clear hfz112_1
            try clear hfz112_2
            try clear hfz115_0
            try clear hfz115_1
            try clear hfz115_2
            try clear hfz117_0
            try clear hfz117_1
            try clear hfz117_2
            try clear hfz119_0
            try clear hfz119_1
            try clear hfz119_2
            try clear hfz11_0
            try clear hfz11_1
            try clear hfz11_2
            try clear hfz126_0
            try clear hfz126_1
            try clear hfz126_2
            try clear hfz12_0
            try clear hfz12_1
            try clear hfz12_2
            try clear hfz131_0
            try clear hfz131_1
            try clear hfz131_2
            try clear hfz135_0
            try clear hfz135_1
            try clear hfz135_2
            try clear hfz138_0
            try clear hfz138_1
            try clear hfz138_2
            try clear hfz140_0
            try clear hfz140_1
            try clear hfz140_2
            try clear hfz142_0
            try clear hfz142_1
            try clear hfz142_2
            try clear hfz149_0
            try clear hfz149_1
            try clear hfz149_2
            try clear hfz154_0
            try clear hfz154_1
            try clear hfz154_2
            try clear hfz158_0
            try clear hfz158_1
            try clear hfz158_2
            try clear hfz161_0
            try clear hfz161_1
            try clear hfz161_2
            try clear hfz163_0
            try clear hfz163_1
            try clear hfz163_2
            try clear hfz172_0
            try clear hfz172_1
            try clear hfz172_2
            try clear hfz177_0
            try clear hfz177_1
            try clear hfz177_2
            try clear hfz181_0
            try clear hfz181_1
            try clear hfz181_2
            try clear hfz184_0
            try clear hfz184_1
            try clear hfz184_2
            try clear hfz190_0
            try clear hfz190_1
            try clear hfz190_2
            try clear hfz195_0
            try clear hfz195_1
            try clear hfz195_2
            try clear hfz19_0
            try clear hfz19_1
            try clear hfz19_2
            try clear hfz203_0
            try clear hfz203_1
            try clear hfz203_2
            try clear hfz212_0
            try clear hfz212_1
            try clear hfz212_2
            try clear hfz22_0
            try clear hfz22_1
            try clear hfz22_2
            try clear hfz23_0
            try clear hfz23_1
            try clear hfz23_2
            try clear hfz24_0
            try clear hfz24_1
            try clear hfz24_2
            try clear hfz33_0
            try clear hfz33_1
            try clear hfz33_2
            try clear hfz38_0
            try clear hfz38_1
            try clear hfz38_2
            try clear hfz45_0
            try clear hfz45_1
            try clear hfz45_2
            try clear hfz50_0
            try clear hfz50_1
            try clear hfz50_2
            try clear hfz57_0
            try clear hfz57_1
            try clear hfz57_2
            try clear hfz62_0
            try clear hfz62_1
            try clear hfz62_2
            try clear hfz66_0
            try clear hfz66_1
            try clear hfz66_2
            try clear hfz69_0
            try clear hfz69_1
            try clear hfz69_2
            try clear hfz80_0
            try clear hfz80_1
            try clear hfz80_2
            try clear hfz85_0
            try clear hfz85_1
            try clear hfz85_2
            try clear hfz89_0
            try clear hfz89_1
            try clear hfz89_2
            try clear hfz92_0
            try clear hfz92_1
            try clear hfz92_2
            try clear hfz94_0
            try clear hfz94_1
            try clear hfz94_2
            try clear hfz96_0
            try clear hfz96_1
            try clear hfz96_2
            try clear p2
            obtain ⟨x13_2, x666000_2, x666001_2, x666002_2, x667000_2, x667001_2, x667002_2, rfl, HA, HK2, BK645, BK646, BK653, BK654, BK661, BK662, BK665, BK666, HB⟩ := hrel
            cases gk with
            | zero => exact absurd HA.out (by simp [laws_FnSpanWhen.l0])
            | succ k2 =>
              have H := HA.out
              clear HA
              simp only [laws_FnSpanWhen.l0] at H
              by_cases c213 : x13_2 ≤ 15
              · rw [if_pos c213] at H
                have c213b0 : decide (x13_2 ≤ 15) = true := decide_eq_true c213
                clear c213
                have H' := Aside0.mk H
                clear H
                go_wp2
                go_loopg [14] k2 (fun kq v14 w' => ∃ (x14_3 : Int) (x666000_3 : Bool) (x666001_3 : Int) (x666002_3 : Int) (x667000_3 : Bool) (x667001_3 : Int) (x667002_3 : Int), v14 = .int .i64 x14_3 ∧ Aside0 (laws_FnSpanWhen.l1 kq t637 t644 x13_2 x14_3 t638 t639 t640 t641 t642 t643 t647 t648 t649 t650 t651 t652 x666000_3 x666001_3 x666002_3 x667000_3 x667001_3 x667002_3 = some r) ∧ Aside0 (kq ≤ k2) ∧ Bk w' gb645 (.cells #[.bool t638, .int .i64 t639, .int .i64 t640] 30 (0, 0)) ∧ Bk w' gb646 (.cells #[.bool t641, .int .i64 t642, .int .i64 t643] 30 (0, 0)) ∧ Bk w' gb653 (.cells #[.bool t647, .int .i64 t648, .int .i64 t649] 30 (0, 0)) ∧ Bk w' gb654 (.cells #[.bool t650, .int .i64 t651, .int .i64 t652] 30 (0, 0)) ∧ Bk w' gb661 (.cells #[.bool t655, .int .i64 t656, .int .i64 t657] 30 (0, 0)) ∧ Bk w' gb662 (.cells #[.bool t658, .int .i64 t659, .int .i64 t660] 30 (0, 0)) ∧ Bk w' gb665 (.cells #[.bool x666000_3, .int .i64 x666001_3, .int .i64 x666002_3] 30 (0, 0)) ∧ Bk w' gb666 (.cells #[.bool x667000_3, .int .i64 x667001_3, .int .i64 x667002_3] 30 (0, 0)) ∧ Bl w.heap.size w w')
                case atStart => exact ⟨((-16)), (x666000_2), (x666001_2), (x666002_2), (x667000_2), (x667001_2), (x667002_2), (by first | rfl | (simp; done) | (simp [*]; done)), H', ⟨Nat.le_refl _⟩, ⟨bk⟩, ⟨bk⟩, ⟨bk⟩, ⟨bk⟩, ⟨bk⟩, ⟨bk⟩, ⟨bk⟩, ⟨bk⟩, ⟨bl⟩⟩
                case round =>
                  clear H'
                  try clear c1
                  try clear c2
                  try clear c2b0
                  try clear c2b1
                  try clear p2
                  try clear c3
                  try clear c4
                  try clear c5
                  try clear c6
                  try clear c7
                  try clear c8
                  try clear c9
                  try clear c10
                  try clear c11
                  try clear c12
                  try clear c13
                  try clear c14
                  try clear c15
                  try clear c16
                  try clear c17
                  try clear c18
                  try clear c19
                  try clear c20
                  try clear c21
                  try clear c23
                  try clear c28
                  try clear c29
                  try clear c30
                  try clear c31
                  try clear c32
                  try clear c34
                  try clear c35
                  try clear c36
                  try clear c37
                  try clear c39
                  try clear c39b0
                  try clear c40
                  try clear c41
                  try clear c42
                  try clear c43
                  try clear c44
                  try clear c46
                  try clear c47
                  try clear c48
                  try clear c49
                  try clear c51
                  try clear c51b0
                  try clear c52
                  try clear c53
                  try clear c54
                  try clear c55
                  try clear c56
                  try clear c58
                  try clear c59
                  try clear c60
                  try clear c61
                  try clear c63
                  try clear c64
                  try clear c65
                  try clear c67
                  try clear c68
                  try clear c71
                  try clear c73
                  try clear c74
                  try clear c74b0
                  try clear c74b1
                  try clear c75
                  try clear c76
                  try clear c77
                  try clear c78
                  try clear c79
                  try clear c81
                  try clear c82
                  try clear c83
                  try clear c84
                  try clear c86
                  try clear c87
                  try clear c88
                  try clear c90
                  try clear c91
                  try clear c93
                  try clear c98
                  try clear c99
                  try clear c100
                  try clear c101
                  try clear c102
                  try clear c104
                  try clear c105
                  try clear c106
                  try clear c107
                  try clear c109
                  try clear c110
                  try clear c111
                  try clear c113
                  try clear c114
                  try clear c116
                  try clear c121
                  try clear c122
                  try clear c123
                  try clear c124
                  try clear c125
                  try clear c127
                  try clear c128
                  try clear c129
                  try clear c130
                  try clear c132
                  try clear c133
                  try clear c134
                  try clear c136
                  try clear c137
                  try clear c139
                  try clear c144
                  try clear c145
                  try clear c146
                  try clear c147
                  try clear c148
                  try clear c150
                  try clear c151
                  try clear c152
                  try clear c153
                  try clear c155
                  try clear c156
                  try clear c157
                  try clear c159
                  try clear c160
                  try clear c162
                  try clear c165
                  try clear c166
                  try clear c166b0
                  try clear c166b1
                  try clear c166b2
                  try clear c167
                  try clear c168
                  try clear c169
                  try clear c170
                  try clear c171
                  try clear c173
                  try clear c174
                  try clear c175
                  try clear c176
                  try clear c178
                  try clear c179
                  try clear c180
                  try clear c182
                  try clear c183
                  try clear c185
                  try clear c186
                  try clear c187
                  try clear c188
                  try clear c189
                  try clear c191
                  try clear c192
                  try clear c193
                  try clear c194
                  try clear c197
                  try clear c198
                  try clear c199
                  try clear c200
                  try clear c201
                  try clear c202
                  try clear c205
                  try clear c206
                  try clear c207
                  try clear c208
                  try clear c209
                  try clear c210
                  try clear c211
                  try clear c213
                  try clear c213b0
                  try clear hcz103_0
                  try clear hcz103_1
                  try clear hcz103_2
                  try clear hcz108_0
                  try clear hcz108_1
                  try clear hcz108_2
                  try clear hcz112_0
                  try clear hcz112_1
                  try clear hcz112_2
                  try clear hcz115_0
                  try clear hcz115_1
                  try clear hcz115_2
                  try clear hcz117_0
                  try clear hcz117_1
                  try clear hcz117_2
                  try clear hcz119_0
                  try clear hcz119_1
                  try clear hcz119_2
                  try clear hcz11_0
                  try clear hcz11_1
                  try clear hcz11_2
                  try clear hcz126_0
                  try clear hcz126_1
                  try clear hcz126_2
                  try clear hcz12_0
                  try clear hcz12_1
                  try clear hcz12_2
                  try clear hcz131_0
                  try clear hcz131_1
                  try clear hcz131_2
                  try clear hcz135_0
                  try clear hcz135_1
                  try clear hcz135_2
                  try clear hcz138_0
                  try clear hcz138_1
                  try clear hcz138_2
                  try clear hcz140_0
                  try clear hcz140_1
                  try clear hcz140_2
                  try clear hcz142_0
                  try clear hcz142_1
                  try clear hcz142_2
                  try clear hcz149_0
                  try clear hcz149_1
                  try clear hcz149_2
                  try clear hcz154_0
                  try clear hcz154_1
                  try clear hcz154_2
                  try clear hcz158_0
                  try clear hcz158_1
                  try clear hcz158_2
                  try clear hcz161_0
                  try clear hcz161_1
                  try clear hcz161_2
                  try clear hcz163_0
                  try clear hcz163_1
                  try clear hcz163_2
                  try clear hcz172_0
                  try clear hcz172_1
                  try clear hcz172_2
                  try clear hcz177_0
                  try clear hcz177_1
                  try clear hcz177_2
                  try clear hcz181_0
                  try clear hcz181_1
                  try clear hcz181_2
                  try clear hcz184_0
                  try clear hcz184_1
                  try clear hcz184_2
                  try clear hcz190_0
                  try clear hcz190_1
                  try clear hcz190_2
                  try clear hcz195_0
                  try clear hcz195_1
                  try clear hcz195_2
                  try clear hcz19_0
                  try clear hcz19_1
                  try clear hcz19_2
                  try clear hcz203_0
                  try clear hcz203_1
                  try clear hcz203_2
                  try clear hcz212_0
                  try clear hcz212_1
                  try clear hcz212_2
                  try clear hcz22_0
                  try clear hcz22_1
                  try clear hcz22_2
                  try clear hcz23_0
                  try clear hcz23_1
                  try clear hcz23_2
                  try clear hcz24_0
                  try clear hcz24_1
                  try clear hcz24_2
                  try clear hcz33_0
                  try clear hcz33_1
                  try clear hcz33_2
                  try clear hcz38_0
                  try clear hcz38_1
                  try clear hcz38_2
                  try clear hcz45_0
                  try clear hcz45_1
                  try clear hcz45_2
                  try clear hcz50_0
                  try clear hcz50_1
                  try clear hcz50_2
                  try clear hcz57_0
                  try clear hcz57_1
                  try clear hcz57_2
                  try clear hcz62_0
                  try clear hcz62_1
                  try clear hcz62_2
                  try clear hcz66_0
                  try clear hcz66_1
                  try clear hcz66_2
                  try clear hcz69_0
                  try clear hcz69_1
                  try clear hcz69_2
                  try clear hcz80_0
                  try clear hcz80_1
                  try clear hcz80_2
                  try clear hcz85_0
                  try clear hcz85_1
                  try clear hcz85_2
                  try clear hcz89_0
                  try clear hcz89_1
                  try clear hcz89_2
                  try clear hcz92_0
                  try clear hcz92_1
                  try clear hcz92_2
                  try clear hcz94_0
                  try clear hcz94_1
                  try clear hcz94_2
                  try clear hcz96_0
                  try clear hcz96_1
                  try clear hcz96_2
                  try clear hfz103_0
                  try clear hfz103_1
                  try clear hfz103_2
                  try clear hfz108_0
                  try clear hfz108_1
                  try clear hfz108_2
                  try clear hfz112_0
                  try clear hfz112_1
                  try clear hfz112_2
                  try clear hfz115_0
                  try clear hfz115_1
                  try clear hfz115_2
                  try clear hfz117_0
                  try clear hfz117_1
                  try clear hfz117_2
                  try clear hfz119_0
                  try clear hfz119_1
                  try clear hfz119_2
                  try clear hfz11_0
                  try clear hfz11_1
                  try clear hfz11_2
                  try clear hfz126_0
                  try clear hfz126_1
                  try clear hfz126_2
                  try clear hfz12_0
                  try clear hfz12_1
                  try clear hfz12_2
                  try clear hfz131_0
                  try clear hfz131_1
                  try clear hfz131_2
                  try clear hfz135_0
                  try clear hfz135_1
                  try clear hfz135_2
                  try clear hfz138_0
                  try clear hfz138_1
                  try clear hfz138_2
                  try clear hfz140_0
                  try clear hfz140_1
                  try clear hfz140_2
                  try clear hfz142_0
                  try clear hfz142_1
                  try clear hfz142_2
                  try clear hfz149_0
                  try clear hfz149_1
                  try clear hfz149_2
                  try clear hfz154_0
                  try clear hfz154_1
                  try clear hfz154_2
                  try clear hfz158_0
                  try clear hfz158_1
                  try clear hfz158_2
                  try clear hfz161_0
                  try clear hfz161_1
                  try clear hfz161_2
                  try clear hfz163_0
                  try clear hfz163_1
                  try clear hfz163_2
                  try clear hfz172_0
                  try clear hfz172_1
                  try clear hfz172_2
                  try clear hfz177_0
                  try clear hfz177_1
                  try clear hfz177_2
                  try clear hfz181_0
                  try clear hfz181_1
                  try clear hfz181_2
                  try clear hfz184_0
                  try clear hfz184_1
                  try clear hfz184_2
                  try clear hfz190_0
                  try clear hfz190_1
                  try clear hfz190_2
                  try clear hfz195_0
                  try clear hfz195_1
                  try clear hfz195_2
                  try clear hfz19_0
                  try clear hfz19_1
                  try clear hfz19_2
                  try clear hfz203_0
                  try clear hfz203_1
                  try clear hfz203_2
                  try clear hfz212_0
                  try clear hfz212_1
                  try clear hfz212_2
                  try clear hfz22_0
                  try clear hfz22_1
                  try clear hfz22_2
                  try clear hfz23_0
                  try clear hfz23_1
                  try clear hfz23_2
                  try clear hfz24_0
                  try clear hfz24_1
                  try clear hfz24_2
                  try clear hfz33_0
                  try clear hfz33_1
                  try clear hfz33_2
                  try clear hfz38_0
                  try clear hfz38_1
                  try clear hfz38_2
                  try clear hfz45_0
                  try clear hfz45_1
                  try clear hfz45_2
                  try clear hfz50_0
                  try clear hfz50_1
                  try clear hfz50_2
                  try clear hfz57_0
                  try clear hfz57_1
                  try clear hfz57_2
                  try clear hfz62_0
                  try clear hfz62_1
                  try clear hfz62_2
                  try clear hfz66_0
                  try clear hfz66_1
                  try clear hfz66_2
                  try clear hfz69_0
                  try clear hfz69_1
                  try clear hfz69_2
                  try clear hfz80_0
                  try clear hfz80_1
                  try clear hfz80_2
                  try clear hfz85_0
                  try clear hfz85_1
                  try clear hfz85_2
                  try clear hfz89_0
                  try clear hfz89_1
                  try clear hfz89_2
                  try clear hfz92_0
                  try clear hfz92_1
                  try clear hfz92_2
                  try clear hfz94_0
                  try clear hfz94_1
                  try clear hfz94_2
                  try clear hfz96_0
                  try clear hfz96_1
                  try clear hfz96_2
                  try clear p2
                  obtain ⟨x14_3, x666000_3, x666001_3, x666002_3, x667000_3, x667001_3, x667002_3, rfl, HA, HK3, BK645, BK646, BK653, BK654, BK661, BK662, BK665, BK666, HB⟩ := hrel
                  cases gk with
                  | zero => exact absurd HA.out (by simp [laws_FnSpanWhen.l1])
                  | succ k3 =>
                    have H := HA.out
                    clear HA
                    simp only [laws_FnSpanWhen.l1] at H
                    by_cases c214 : x14_3 ≤ 15
                    · rw [if_pos c214] at H
                      have c214b0 : decide (x14_3 ≤ 15) = true := decide_eq_true c214
                      clear c214
                      replace H := Option.bind_eq_some_iff.mp H
                      obtain ⟨⟨t667, t668⟩, A2150, H⟩ := H
                      try dsimp only at H
                      have A215 := Aside0.mk A2150
                      clear A2150
                      have HC216 := Aside0.mk H
                      clear H
                      go_upto_region 17 with (first | ((with_reducible refine gate_callee (f := 13) rfl ?_); refine goesL_ (some 91) rfl rfl Try.func13 (by kernel_rfl) rfl #[.int .i64 t637, .int .i64 x13_2, .int .i64 x14_3] rfl (by (try simp only [List.map_toArray, List.map_cons, List.map_nil]); first | done | rfl | (simp only [List.length_drop, List.length_take]; rfl)) ?_; (with_reducible refine (impl_NumDo.calls k3 t637 x13_2 x14_3 t667 t668 _ A215.out).mono ?_); rintro e w217 ⟨rfl, hb⟩; refine ⟨_, rfl, ?_⟩; have n0_ := Bk.mk (blk_below (g := gb645) bk hb); have n1_ := Bk.mk (blk_below (g := gb646) bk hb); have n2_ := Bk.mk (blk_below (g := gb653) bk hb); have n3_ := Bk.mk (blk_below (g := gb654) bk hb); have n4_ := Bk.mk (blk_below (g := gb661) bk hb); have n5_ := Bk.mk (blk_below (g := gb662) bk hb); have n6_ := Bk.mk (blk_below (g := gb665) bk hb); have n7_ := Bk.mk (blk_below (g := gb666) bk hb); have n8_ := Bl.mk (below_step bl hb); clear BK645; clear BK646; clear BK653; clear BK654; clear BK661; clear BK662; clear BK665; clear BK666; clear HB; have BK645 := n0_; have BK646 := n1_; have BK653 := n2_; have BK654 := n3_; have BK661 := n4_; have BK662 := n5_; have BK665 := n6_; have BK666 := n7_; have HB := n8_; clear n0_ n1_ n2_ n3_ n4_ n5_ n6_ n7_ n8_; (try clear hb); (try clear hb2); (try clear hk); (try clear hi)))
                      (try simp only [Act.put, List.setIfInBounds_toArray, List.set_cons_zero, List.set_cons_succ])
                      go_cut [107] (fun v107 wc => ∃ (kq : Nat) (x107_215 : Bool), v107 = .bool x107_215 ∧ Aside0 (laws_FnSpanWhen.j3 kq t637 t644 x13_2 x14_3 x107_215 t638 t639 t640 t641 t642 t643 t647 t648 t649 t650 t651 t652 x666000_3 x666001_3 x666002_3 x667000_3 x667001_3 x667002_3 = some r) ∧ Aside0 (kq ≤ k3) ∧ Bk wc gb645 (.cells #[.bool t638, .int .i64 t639, .int .i64 t640] 30 (0, 0)) ∧ Bk wc gb646 (.cells #[.bool t641, .int .i64 t642, .int .i64 t643] 30 (0, 0)) ∧ Bk wc gb653 (.cells #[.bool t647, .int .i64 t648, .int .i64 t649] 30 (0, 0)) ∧ Bk wc gb654 (.cells #[.bool t650, .int .i64 t651, .int .i64 t652] 30 (0, 0)) ∧ Bk wc gb661 (.cells #[.bool t655, .int .i64 t656, .int .i64 t657] 30 (0, 0)) ∧ Bk wc gb662 (.cells #[.bool t658, .int .i64 t659, .int .i64 t660] 30 (0, 0)) ∧ Bk wc gb665 (.cells #[.bool x666000_3, .int .i64 x666001_3, .int .i64 x666002_3] 30 (0, 0)) ∧ Bk wc gb666 (.cells #[.bool x667000_3, .int .i64 x667001_3, .int .i64 x667002_3] 30 (0, 0)) ∧ Bl w.heap.size w wc)
                      case first =>
                        have H := HC216.out
                        clear HC216
                        replace H := Option.bind_eq_some_iff.mp H
                        obtain ⟨t669, A2180, H⟩ := H
                        try dsimp only at H
                        have A218 := Aside0.mk A2180
                        clear A2180
                        by_cases c219 : t669 = true
                        · subst c219
                          rw [if_pos rfl] at H
                          replace H := Option.bind_eq_some_iff.mp H
                          obtain ⟨t670, A2200, H⟩ := H
                          try dsimp only at H
                          have A220 := Aside0.mk A2200
                          clear A2200
                          by_cases c221 : t670 = true
                          · subst c221
                            rw [if_pos rfl] at H
                            have H' := Aside0.mk H
                            clear H
                            have hnb222 := NB645_646.out
                            have hnc222 := NB646_645.out
                            have hnb223 := NB645_653.out
                            have hnc223 := NB653_645.out
                            have hnb224 := NB645_654.out
                            have hnc224 := NB654_645.out
                            have hnb225 := NB645_661.out
                            have hnc225 := NB661_645.out
                            have hnb226 := NB645_662.out
                            have hnc226 := NB662_645.out
                            have hnb227 := NB645_665.out
                            have hnc227 := NB665_645.out
                            have hnb228 := NB645_666.out
                            have hnc228 := NB666_645.out
                            have hcz229_0 := bc0 BK645.out
                            have hcz229_1 := bc1 BK645.out
                            have hcz229_2 := bc2 BK645.out
                            have hfz229_0 := blk_frozen BK645.out 0
                            have hfz229_1 := blk_frozen BK645.out 1
                            have hfz229_2 := blk_frozen BK645.out 2
                            go_wp2_with (first | ((with_reducible refine gate_callee (f := 27) rfl ?_); refine goesL_ (some 96) rfl rfl Try.func27 (by kernel_rfl) rfl #[.agg #[.bool t638, .int .i64 t639, .int .i64 t640], .int .i64 x13_2] rfl (by (try simp only [List.map_toArray, List.map_cons, List.map_nil]); first | done | rfl | (simp only [List.length_drop, List.length_take]; rfl)) ?_; (with_reducible refine (impl_SpanHas.calls t638 t639 t640 x13_2 true _ A218.out).mono ?_); rintro e w230 ⟨rfl, hb⟩; refine ⟨_, rfl, ?_⟩; have n0_ := Bk.mk (blk_below (g := gb645) bk hb); have n1_ := Bk.mk (blk_below (g := gb646) bk hb); have n2_ := Bk.mk (blk_below (g := gb653) bk hb); have n3_ := Bk.mk (blk_below (g := gb654) bk hb); have n4_ := Bk.mk (blk_below (g := gb661) bk hb); have n5_ := Bk.mk (blk_below (g := gb662) bk hb); have n6_ := Bk.mk (blk_below (g := gb665) bk hb); have n7_ := Bk.mk (blk_below (g := gb666) bk hb); have n8_ := Bl.mk (below_step bl hb); clear BK645; clear BK646; clear BK653; clear BK654; clear BK661; clear BK662; clear BK665; clear BK666; clear HB; have BK645 := n0_; have BK646 := n1_; have BK653 := n2_; have BK654 := n3_; have BK661 := n4_; have BK662 := n5_; have BK665 := n6_; have BK666 := n7_; have HB := n8_; clear n0_ n1_ n2_ n3_ n4_ n5_ n6_ n7_ n8_; (try clear hb); (try clear hb2); (try clear hk); (try clear hi); have hnb231 := NB646_653.out; have hnc231 := NB653_646.out; have hnb232 := NB646_654.out; have hnc232 := NB654_646.out; have hnb233 := NB646_661.out; have hnc233 := NB661_646.out; have hnb234 := NB646_662.out; have hnc234 := NB662_646.out; have hnb235 := NB646_665.out; have hnc235 := NB665_646.out; have hnb236 := NB646_666.out; have hnc236 := NB666_646.out; have hcz237_0 := bc0 BK646.out; have hcz237_1 := bc1 BK646.out; have hcz237_2 := bc2 BK646.out; have hfz237_0 := blk_frozen BK646.out 0; have hfz237_1 := blk_frozen BK646.out 1; have hfz237_2 := blk_frozen BK646.out 2) | (go_at_call 27; (with_reducible refine (impl_SpanHas.calls t641 t642 t643 x14_3 true _ A220.out).mono ?_); rintro e w238 ⟨rfl, hb⟩; have n0_ := Bk.mk (blk_below (g := gb645) bk hb); have n1_ := Bk.mk (blk_below (g := gb646) bk hb); have n2_ := Bk.mk (blk_below (g := gb653) bk hb); have n3_ := Bk.mk (blk_below (g := gb654) bk hb); have n4_ := Bk.mk (blk_below (g := gb661) bk hb); have n5_ := Bk.mk (blk_below (g := gb662) bk hb); have n6_ := Bk.mk (blk_below (g := gb665) bk hb); have n7_ := Bk.mk (blk_below (g := gb666) bk hb); have n8_ := Bl.mk (below_step bl hb); clear BK645; clear BK646; clear BK653; clear BK654; clear BK661; clear BK662; clear BK665; clear BK666; clear HB; have BK645 := n0_; have BK646 := n1_; have BK653 := n2_; have BK654 := n3_; have BK661 := n4_; have BK662 := n5_; have BK665 := n6_; have BK666 := n7_; have HB := n8_; clear n0_ n1_ n2_ n3_ n4_ n5_ n6_ n7_ n8_; (try clear hb); (try clear hb2); (try clear hk); (try clear hi)))
                            go_meet
                            case rel => exact ⟨_, (((t667 == 1) == t644)), (by first | rfl | (simp; done) | (simp [*]; done)), H', ⟨by have := HJ5.out; have := HK2.out; have := HK3.out; first | omega | exact Nat.le_refl _⟩, ⟨bk⟩, ⟨bk⟩, ⟨bk⟩, ⟨bk⟩, ⟨bk⟩, ⟨bk⟩, ⟨bk⟩, ⟨bk⟩, ⟨bl⟩⟩
                          · replace c221 := Bool.eq_false_iff.mpr c221
                            subst c221
                            rw [if_neg (show ¬ (false = true) by decide)] at H
                            have H' := Aside0.mk H
                            clear H
                            have hnb239 := NB645_646.out
                            have hnc239 := NB646_645.out
                            have hnb240 := NB645_653.out
                            have hnc240 := NB653_645.out
                            have hnb241 := NB645_654.out
                            have hnc241 := NB654_645.out
                            have hnb242 := NB645_661.out
                            have hnc242 := NB661_645.out
                            have hnb243 := NB645_662.out
                            have hnc243 := NB662_645.out
                            have hnb244 := NB645_665.out
                            have hnc244 := NB665_645.out
                            have hnb245 := NB645_666.out
                            have hnc245 := NB666_645.out
                            have hcz246_0 := bc0 BK645.out
                            have hcz246_1 := bc1 BK645.out
                            have hcz246_2 := bc2 BK645.out
                            have hfz246_0 := blk_frozen BK645.out 0
                            have hfz246_1 := blk_frozen BK645.out 1
                            have hfz246_2 := blk_frozen BK645.out 2
                            go_wp2_with (first | ((with_reducible refine gate_callee (f := 27) rfl ?_); refine goesL_ (some 96) rfl rfl Try.func27 (by kernel_rfl) rfl #[.agg #[.bool t638, .int .i64 t639, .int .i64 t640], .int .i64 x13_2] rfl (by (try simp only [List.map_toArray, List.map_cons, List.map_nil]); first | done | rfl | (simp only [List.length_drop, List.length_take]; rfl)) ?_; (with_reducible refine (impl_SpanHas.calls t638 t639 t640 x13_2 true _ A218.out).mono ?_); rintro e w247 ⟨rfl, hb⟩; refine ⟨_, rfl, ?_⟩; have n0_ := Bk.mk (blk_below (g := gb645) bk hb); have n1_ := Bk.mk (blk_below (g := gb646) bk hb); have n2_ := Bk.mk (blk_below (g := gb653) bk hb); have n3_ := Bk.mk (blk_below (g := gb654) bk hb); have n4_ := Bk.mk (blk_below (g := gb661) bk hb); have n5_ := Bk.mk (blk_below (g := gb662) bk hb); have n6_ := Bk.mk (blk_below (g := gb665) bk hb); have n7_ := Bk.mk (blk_below (g := gb666) bk hb); have n8_ := Bl.mk (below_step bl hb); clear BK645; clear BK646; clear BK653; clear BK654; clear BK661; clear BK662; clear BK665; clear BK666; clear HB; have BK645 := n0_; have BK646 := n1_; have BK653 := n2_; have BK654 := n3_; have BK661 := n4_; have BK662 := n5_; have BK665 := n6_; have BK666 := n7_; have HB := n8_; clear n0_ n1_ n2_ n3_ n4_ n5_ n6_ n7_ n8_; (try clear hb); (try clear hb2); (try clear hk); (try clear hi); have hnb248 := NB646_653.out; have hnc248 := NB653_646.out; have hnb249 := NB646_654.out; have hnc249 := NB654_646.out; have hnb250 := NB646_661.out; have hnc250 := NB661_646.out; have hnb251 := NB646_662.out; have hnc251 := NB662_646.out; have hnb252 := NB646_665.out; have hnc252 := NB665_646.out; have hnb253 := NB646_666.out; have hnc253 := NB666_646.out; have hcz254_0 := bc0 BK646.out; have hcz254_1 := bc1 BK646.out; have hcz254_2 := bc2 BK646.out; have hfz254_0 := blk_frozen BK646.out 0; have hfz254_1 := blk_frozen BK646.out 1; have hfz254_2 := blk_frozen BK646.out 2) | (go_at_call 27; (with_reducible refine (impl_SpanHas.calls t641 t642 t643 x14_3 false _ A220.out).mono ?_); rintro e w255 ⟨rfl, hb⟩; have n0_ := Bk.mk (blk_below (g := gb645) bk hb); have n1_ := Bk.mk (blk_below (g := gb646) bk hb); have n2_ := Bk.mk (blk_below (g := gb653) bk hb); have n3_ := Bk.mk (blk_below (g := gb654) bk hb); have n4_ := Bk.mk (blk_below (g := gb661) bk hb); have n5_ := Bk.mk (blk_below (g := gb662) bk hb); have n6_ := Bk.mk (blk_below (g := gb665) bk hb); have n7_ := Bk.mk (blk_below (g := gb666) bk hb); have n8_ := Bl.mk (below_step bl hb); clear BK645; clear BK646; clear BK653; clear BK654; clear BK661; clear BK662; clear BK665; clear BK666; clear HB; have BK645 := n0_; have BK646 := n1_; have BK653 := n2_; have BK654 := n3_; have BK661 := n4_; have BK662 := n5_; have BK665 := n6_; have BK666 := n7_; have HB := n8_; clear n0_ n1_ n2_ n3_ n4_ n5_ n6_ n7_ n8_; (try clear hb); (try clear hb2); (try clear hk); (try clear hi)))
                            go_meet
                            case rel => exact ⟨_, (false), (by first | rfl | (simp; done) | (simp [*]; done)), H', ⟨by have := HJ5.out; have := HK2.out; have := HK3.out; first | omega | exact Nat.le_refl _⟩, ⟨bk⟩, ⟨bk⟩, ⟨bk⟩, ⟨bk⟩, ⟨bk⟩, ⟨bk⟩, ⟨bk⟩, ⟨bk⟩, ⟨bl⟩⟩
                        · replace c219 := Bool.eq_false_iff.mpr c219
                          subst c219
                          rw [if_neg (show ¬ (false = true) by decide)] at H
                          have H' := Aside0.mk H
                          clear H
                          have hnb256 := NB645_646.out
                          have hnc256 := NB646_645.out
                          have hnb257 := NB645_653.out
                          have hnc257 := NB653_645.out
                          have hnb258 := NB645_654.out
                          have hnc258 := NB654_645.out
                          have hnb259 := NB645_661.out
                          have hnc259 := NB661_645.out
                          have hnb260 := NB645_662.out
                          have hnc260 := NB662_645.out
                          have hnb261 := NB645_665.out
                          have hnc261 := NB665_645.out
                          have hnb262 := NB645_666.out
                          have hnc262 := NB666_645.out
                          have hcz263_0 := bc0 BK645.out
                          have hcz263_1 := bc1 BK645.out
                          have hcz263_2 := bc2 BK645.out
                          have hfz263_0 := blk_frozen BK645.out 0
                          have hfz263_1 := blk_frozen BK645.out 1
                          have hfz263_2 := blk_frozen BK645.out 2
                          go_wp2_with (first | ((with_reducible refine gate_callee (f := 27) rfl ?_); refine goesL_ (some 96) rfl rfl Try.func27 (by kernel_rfl) rfl #[.agg #[.bool t638, .int .i64 t639, .int .i64 t640], .int .i64 x13_2] rfl (by (try simp only [List.map_toArray, List.map_cons, List.map_nil]); first | done | rfl | (simp only [List.length_drop, List.length_take]; rfl)) ?_; (with_reducible refine (impl_SpanHas.calls t638 t639 t640 x13_2 false _ A218.out).mono ?_); rintro e w264 ⟨rfl, hb⟩; refine ⟨_, rfl, ?_⟩; have n0_ := Bk.mk (blk_below (g := gb645) bk hb); have n1_ := Bk.mk (blk_below (g := gb646) bk hb); have n2_ := Bk.mk (blk_below (g := gb653) bk hb); have n3_ := Bk.mk (blk_below (g := gb654) bk hb); have n4_ := Bk.mk (blk_below (g := gb661) bk hb); have n5_ := Bk.mk (blk_below (g := gb662) bk hb); have n6_ := Bk.mk (blk_below (g := gb665) bk hb); have n7_ := Bk.mk (blk_below (g := gb666) bk hb); have n8_ := Bl.mk (below_step bl hb); clear BK645; clear BK646; clear BK653; clear BK654; clear BK661; clear BK662; clear BK665; clear BK666; clear HB; have BK645 := n0_; have BK646 := n1_; have BK653 := n2_; have BK654 := n3_; have BK661 := n4_; have BK662 := n5_; have BK665 := n6_; have BK666 := n7_; have HB := n8_; clear n0_ n1_ n2_ n3_ n4_ n5_ n6_ n7_ n8_; (try clear hb); (try clear hb2); (try clear hk); (try clear hi)))
                          go_meet
                          case rel => exact ⟨_, (false), (by first | rfl | (simp; done) | (simp [*]; done)), H', ⟨by have := HJ5.out; have := HK2.out; have := HK3.out; first | omega | exact Nat.le_refl _⟩, ⟨bk⟩, ⟨bk⟩, ⟨bk⟩, ⟨bk⟩, ⟨bk⟩, ⟨bk⟩, ⟨bk⟩, ⟨bk⟩, ⟨bl⟩⟩
                      case rest =>
                        clear HC216
                        try clear c1
                        try clear c2
                        try clear c2b0
                        try clear c2b1
                        try clear p2
                        try clear c3
                        try clear c4
                        try clear c5
                        try clear c6
                        try clear c7
                        try clear c8
                        try clear c9
                        try clear c10
                        try clear c11
                        try clear c12
                        try clear c13
                        try clear c14
                        try clear c15
                        try clear c16
                        try clear c17
                        try clear c18
                        try clear c19
                        try clear c20
                        try clear c21
                        try clear c22
                        try clear c23
                        try clear c24
                        try clear c25
                        try clear c26
                        try clear c27
                        try clear c28
                        try clear c29
                        try clear c30
                        try clear c31
                        try clear c32
                        try clear c34
                        try clear c35
                        try clear c36
                        try clear c37
                        try clear c39
                        try clear c39b0
                        try clear c40
                        try clear c41
                        try clear c42
                        try clear c43
                        try clear c44
                        try clear c46
                        try clear c47
                        try clear c48
                        try clear c49
                        try clear c51
                        try clear c51b0
                        try clear c52
                        try clear c53
                        try clear c54
                        try clear c55
                        try clear c56
                        try clear c58
                        try clear c59
                        try clear c60
                        try clear c61
                        try clear c63
                        try clear c64
                        try clear c65
                        try clear c67
                        try clear c68
                        try clear c71
                        try clear c73
                        try clear c74
                        try clear c74b0
                        try clear c74b1
                        try clear c75
                        try clear c76
                        try clear c77
                        try clear c78
                        try clear c79
                        try clear c81
                        try clear c82
                        try clear c83
                        try clear c84
                        try clear c86
                        try clear c87
                        try clear c88
                        try clear c90
                        try clear c91
                        try clear c93
                        try clear c98
                        try clear c99
                        try clear c100
                        try clear c101
                        try clear c102
                        try clear c104
                        try clear c105
                        try clear c106
                        try clear c107
                        try clear c109
                        try clear c110
                        try clear c111
                        try clear c113
                        try clear c114
                        try clear c116
                        try clear c121
                        try clear c122
                        try clear c123
                        try clear c124
                        try clear c125
                        try clear c127
                        try clear c128
                        try clear c129
                        try clear c130
                        try clear c132
                        try clear c133
                        try clear c134
                        try clear c136
                        try clear c137
                        try clear c139
                        try clear c144
                        try clear c145
                        try clear c146
                        try clear c147
                        try clear c148
                        try clear c150
                        try clear c151
                        try clear c152
                        try clear c153
                        try clear c155
                        try clear c156
                        try clear c157
                        try clear c159
                        try clear c160
                        try clear c162
                        try clear c165
                        try clear c166
                        try clear c166b0
                        try clear c166b1
                        try clear c166b2
                        try clear c167
                        try clear c168
                        try clear c169
                        try clear c170
                        try clear c171
                        try clear c173
                        try clear c174
                        try clear c175
                        try clear c176
                        try clear c178
                        try clear c179
                        try clear c180
                        try clear c182
                        try clear c183
                        try clear c185
                        try clear c186
                        try clear c187
                        try clear c188
                        try clear c189
                        try clear c191
                        try clear c192
                        try clear c193
                        try clear c194
                        try clear c197
                        try clear c198
                        try clear c199
                        try clear c200
                        try clear c201
                        try clear c202
                        try clear c205
                        try clear c206
                        try clear c207
                        try clear c208
                        try clear c209
                        try clear c210
                        try clear c211
                        try clear c213
                        try clear c213b0
                        try clear c214
                        try clear c214b0
                        try clear c219
                        try clear c221
                        try clear c222
                        try clear c223
                        try clear c224
                        try clear c225
                        try clear c226
                        try clear c227
                        try clear c228
                        try clear c231
                        try clear c232
                        try clear c233
                        try clear c234
                        try clear c235
                        try clear c236
                        try clear c239
                        try clear c240
                        try clear c241
                        try clear c242
                        try clear c243
                        try clear c244
                        try clear c245
                        try clear c248
                        try clear c249
                        try clear c250
                        try clear c251
                        try clear c252
                        try clear c253
                        try clear c256
                        try clear c257
                        try clear c258
                        try clear c259
                        try clear c260
                        try clear c261
                        try clear c262
                        try clear hcz103_0
                        try clear hcz103_1
                        try clear hcz103_2
                        try clear hcz108_0
                        try clear hcz108_1
                        try clear hcz108_2
                        try clear hcz112_0
                        try clear hcz112_1
                        try clear hcz112_2
                        try clear hcz115_0
                        try clear hcz115_1
                        try clear hcz115_2
                        try clear hcz117_0
                        try clear hcz117_1
                        try clear hcz117_2
                        try clear hcz119_0
                        try clear hcz119_1
                        try clear hcz119_2
                        try clear hcz11_0
                        try clear hcz11_1
                        try clear hcz11_2
                        try clear hcz126_0
                        try clear hcz126_1
                        try clear hcz126_2
                        try clear hcz12_0
                        try clear hcz12_1
                        try clear hcz12_2
                        try clear hcz131_0
                        try clear hcz131_1
                        try clear hcz131_2
                        try clear hcz135_0
                        try clear hcz135_1
                        try clear hcz135_2
                        try clear hcz138_0
                        try clear hcz138_1
                        try clear hcz138_2
                        try clear hcz140_0
                        try clear hcz140_1
                        try clear hcz140_2
                        try clear hcz142_0
                        try clear hcz142_1
                        try clear hcz142_2
                        try clear hcz149_0
                        try clear hcz149_1
                        try clear hcz149_2
                        try clear hcz154_0
                        try clear hcz154_1
                        try clear hcz154_2
                        try clear hcz158_0
                        try clear hcz158_1
                        try clear hcz158_2
                        try clear hcz161_0
                        try clear hcz161_1
                        try clear hcz161_2
                        try clear hcz163_0
                        try clear hcz163_1
                        try clear hcz163_2
                        try clear hcz172_0
                        try clear hcz172_1
                        try clear hcz172_2
                        try clear hcz177_0
                        try clear hcz177_1
                        try clear hcz177_2
                        try clear hcz181_0
                        try clear hcz181_1
                        try clear hcz181_2
                        try clear hcz184_0
                        try clear hcz184_1
                        try clear hcz184_2
                        try clear hcz190_0
                        try clear hcz190_1
                        try clear hcz190_2
                        try clear hcz195_0
                        try clear hcz195_1
                        try clear hcz195_2
                        try clear hcz19_0
                        try clear hcz19_1
                        try clear hcz19_2
                        try clear hcz203_0
                        try clear hcz203_1
                        try clear hcz203_2
                        try clear hcz212_0
                        try clear hcz212_1
                        try clear hcz212_2
                        try clear hcz229_0
                        try clear hcz229_1
                        try clear hcz229_2
                        try clear hcz22_0
                        try clear hcz22_1
                        try clear hcz22_2
                        try clear hcz237_0
                        try clear hcz237_1
                        try clear hcz237_2
                        try clear hcz23_0
                        try clear hcz23_1
                        try clear hcz23_2
                        try clear hcz246_0
                        try clear hcz246_1
                        try clear hcz246_2
                        try clear hcz24_0
                        try clear hcz24_1
                        try clear hcz24_2
                        try clear hcz254_0
                        try clear hcz254_1
                        try clear hcz254_2
                        try clear hcz263_0
                        try clear hcz263_1
                        try clear hcz263_2
                        try clear hcz33_0
                        try clear hcz33_1
                        try clear hcz33_2
                        try clear hcz38_0
                        try clear hcz38_1
                        try clear hcz38_2
                        try clear hcz45_0
                        try clear hcz45_1
                        try clear hcz45_2
                        try clear hcz50_0
                        try clear hcz50_1
                        try clear hcz50_2
                        try clear hcz57_0
                        try clear hcz57_1
                        try clear hcz57_2
                        try clear hcz62_0
                        try clear hcz62_1
                        try clear hcz62_2
                        try clear hcz66_0
                        try clear hcz66_1
                        try clear hcz66_2
                        try clear hcz69_0
                        try clear hcz69_1
                        try clear hcz69_2
                        try clear hcz80_0
                        try clear hcz80_1
                        try clear hcz80_2
                        try clear hcz85_0
                        try clear hcz85_1
                        try clear hcz85_2
                        try clear hcz89_0
                        try clear hcz89_1
                        try clear hcz89_2
                        try clear hcz92_0
                        try clear hcz92_1
                        try clear hcz92_2
                        try clear hcz94_0
                        try clear hcz94_1
                        try clear hcz94_2
                        try clear hcz96_0
                        try clear hcz96_1
                        try clear hcz96_2
                        try clear hfz103_0
                        try clear hfz103_1
                        try clear hfz103_2
                        try clear hfz108_0
                        try clear hfz108_1
                        try clear hfz108_2
                        try clear hfz112_0
                        try clear hfz112_1
                        try clear hfz112_2
                        try clear hfz115_0
                        try clear hfz115_1
                        try clear hfz115_2
                        try clear hfz117_0
                        try clear hfz117_1
                        try clear hfz117_2
                        try clear hfz119_0
                        try clear hfz119_1
                        try clear hfz119_2
                        try clear hfz11_0
                        try clear hfz11_1
                        try clear hfz11_2
                        try clear hfz126_0
                        try clear hfz126_1
                        try clear hfz126_2
                        try clear hfz12_0
                        try clear hfz12_1
                        try clear hfz12_2
                        try clear hfz131_0
                        try clear hfz131_1
                        try clear hfz131_2
                        try clear hfz135_0
                        try clear hfz135_1
                        try clear hfz135_2
                        try clear hfz138_0
                        try clear hfz138_1
                        try clear hfz138_2
                        try clear hfz140_0
                        try clear hfz140_1
                        try clear hfz140_2
                        try clear hfz142_0
                        try clear hfz142_1
                        try clear hfz142_2
                        try clear hfz149_0
                        try clear hfz149_1
                        try clear hfz149_2
                        try clear hfz154_0
                        try clear hfz154_1
                        try clear hfz154_2
                        try clear hfz158_0
                        try clear hfz158_1
                        try clear hfz158_2
                        try clear hfz161_0
                        try clear hfz161_1
                        try clear hfz161_2
                        try clear hfz163_0
                        try clear hfz163_1
                        try clear hfz163_2
                        try clear hfz172_0
                        try clear hfz172_1
                        try clear hfz172_2
                        try clear hfz177_0
                        try clear hfz177_1
                        try clear hfz177_2
                        try clear hfz181_0
                        try clear hfz181_1
                        try clear hfz181_2
                        try clear hfz184_0
                        try clear hfz184_1
                        try clear hfz184_2
                        try clear hfz190_0
                        try clear hfz190_1
                        try clear hfz190_2
                        try clear hfz195_0
                        try clear hfz195_1
                        try clear hfz195_2
                        try clear hfz19_0
                        try clear hfz19_1
                        try clear hfz19_2
                        try clear hfz203_0
                        try clear hfz203_1
                        try clear hfz203_2
                        try clear hfz212_0
                        try clear hfz212_1
                        try clear hfz212_2
                        try clear hfz229_0
                        try clear hfz229_1
                        try clear hfz229_2
                        try clear hfz22_0
                        try clear hfz22_1
                        try clear hfz22_2
                        try clear hfz237_0
                        try clear hfz237_1
                        try clear hfz237_2
                        try clear hfz23_0
                        try clear hfz23_1
                        try clear hfz23_2
                        try clear hfz246_0
                        try clear hfz246_1
                        try clear hfz246_2
                        try clear hfz24_0
                        try clear hfz24_1
                        try clear hfz24_2
                        try clear hfz254_0
                        try clear hfz254_1
                        try clear hfz254_2
                        try clear hfz263_0
                        try clear hfz263_1
                        try clear hfz263_2
                        try clear hfz33_0
                        try clear hfz33_1
                        try clear hfz33_2
                        try clear hfz38_0
                        try clear hfz38_1
                        try clear hfz38_2
                        try clear hfz45_0
                        try clear hfz45_1
                        try clear hfz45_2
                        try clear hfz50_0
                        try clear hfz50_1
                        try clear hfz50_2
                        try clear hfz57_0
                        try clear hfz57_1
                        try clear hfz57_2
                        try clear hfz62_0
                        try clear hfz62_1
                        try clear hfz62_2
                        try clear hfz66_0
                        try clear hfz66_1
                        try clear hfz66_2
                        try clear hfz69_0
                        try clear hfz69_1
                        try clear hfz69_2
                        try clear hfz80_0
                        try clear hfz80_1
                        try clear hfz80_2
                        try clear hfz85_0
                        try clear hfz85_1
                        try clear hfz85_2
                        try clear hfz89_0
                        try clear hfz89_1
                        try clear hfz89_2
                        try clear hfz92_0
                        try clear hfz92_1
                        try clear hfz92_2
                        try clear hfz94_0
                        try clear hfz94_1
                        try clear hfz94_2
                        try clear hfz96_0
                        try clear hfz96_1
                        try clear hfz96_2
                        try clear p2
                        obtain ⟨kq, x107_215, rfl, HA, HJ215, BK645, BK646, BK653, BK654, BK661, BK662, BK665, BK666, HB⟩ := hcut
                        cases kq with
                        | zero => exact absurd HA.out (by simp [laws_FnSpanWhen.j3])
                        | succ kj215 =>
                          have H := HA.out
                          clear HA
                          simp only [laws_FnSpanWhen.j3] at H
                          by_cases c265 : x107_215 = true
                          · subst c265
                            rw [if_pos rfl] at H
                            replace H := Option.bind_eq_some_iff.mp H
                            obtain ⟨⟨t671, t672, t673⟩, A2660, H⟩ := H
                            try dsimp only at H
                            have A266 := Aside0.mk A2660
                            clear A2660
                            replace H := Option.bind_eq_some_iff.mp H
                            obtain ⟨⟨t674, t675, t676⟩, A2670, H⟩ := H
                            try dsimp only at H
                            have A267 := Aside0.mk A2670
                            clear A2670
                            replace H := Option.bind_eq_some_iff.mp H
                            obtain ⟨⟨t677, t678, t679⟩, A2680, H⟩ := H
                            try dsimp only at H
                            have A268 := Aside0.mk A2680
                            clear A2680
                            replace H := Option.bind_eq_some_iff.mp H
                            obtain ⟨⟨t680, t681, t682⟩, A2690, H⟩ := H
                            try dsimp only at H
                            have A269 := Aside0.mk A2690
                            clear A2690
                            have H' := Aside0.mk H
                            clear H
                            try go_wp2
                            have n0_ := Bk.mk (blk_drew BK645.out)
                            have n1_ := Bk.mk (blk_drew BK646.out)
                            have n2_ := Bk.mk (blk_drew BK653.out)
                            have n3_ := Bk.mk (blk_drew BK654.out)
                            have n4_ := Bk.mk (blk_drew BK661.out)
                            have n5_ := Bk.mk (blk_drew BK662.out)
                            have n6_ := Bk.mk (blk_drew BK665.out)
                            have n7_ := Bk.mk (blk_drew BK666.out)
                            have n8_ := Bl.mk (below_drew1 HB.out)
                            clear BK645
                            clear BK646
                            clear BK653
                            clear BK654
                            clear BK661
                            clear BK662
                            clear BK665
                            clear BK666
                            clear HB
                            have BK645 := n0_
                            have BK646 := n1_
                            have BK653 := n2_
                            have BK654 := n3_
                            have BK661 := n4_
                            have BK662 := n5_
                            have BK665 := n6_
                            have BK666 := n7_
                            have HB := n8_
                            clear n0_ n1_ n2_ n3_ n4_ n5_ n6_ n7_ n8_
                            refine start_ (n := 5) (S := fun w' => w'.cell? ⟨gb665, 0, none⟩ = some (.bool x666000_3) ∧ w'.cell? ⟨gb665, 1, none⟩ = some (.int .i64 x666001_3) ∧ w'.cell? ⟨gb665, 2, none⟩ = some (.int .i64 x666002_3)) (ds := [4]) #[false, false, false, false, false] (by kernel_rfl) rfl rfl ⟨(blk_cell BK665.out 0).trans rfl, (blk_cell BK665.out 1).trans rfl, (blk_cell BK665.out 2).trans rfl⟩ (fun hHeld => ?_)
                            generalize wc.drew = w270 at BK645 BK646 BK653 BK654 BK661 BK662 BK665 BK666 HB hHeld ⊢
                            refine pure_ (i := 1) (N := some 109) (v := ?_) (a' := ?_) #[false, true, false, false, false] rfl rfl (by kernel_rfl) (fun _ _ _ h => h) (Or.inl ⟨by rfl, ?_⟩) ?_ ?_
                            rotate_left
                            · intro w'
                              go_simp
                              with_reducible rfl
                            rotate_left
                            · simp only [Act.put, List.setIfInBounds_toArray, List.set_cons_zero, List.set_cons_succ, i64_w, i32_w]
                              rfl
                            refine take_ (i := 0) (N := some 108) (v := ?_) (a' := ?_) #[true, true, false, false, false] rfl rfl (by kernel_rfl) (fun _ _ _ h => h) (Or.inl ⟨by rfl, ?_⟩) hHeld ?_ ?_
                            rotate_left
                            · rintro w' ⟨s0, s1, s2⟩
                              go_simp
                              with_reducible rfl
                            rotate_left
                            · simp only [Act.put, List.setIfInBounds_toArray, List.set_cons_zero, List.set_cons_succ, i64_w, i32_w]
                              rfl
                            refine one_ (i := 2) (N := some 110) #[true, true, true, false, false] rfl rfl (by kernel_rfl) (by decide) (fun K hK => ?_)
                            refine goes_ Try.func28 (by kernel_rfl) rfl #[.int .i64 x13_2] (by rfl) rfl rfl (by (try simp only [List.map_toArray, List.map_cons, List.map_nil]); first | done | rfl | (simp only [List.length_drop, List.length_take]; rfl)) ?_
                            with_reducible refine (impl_SpanOf.calls x13_2 t671 t672 t673 _ A266.out).mono ?_
                            rintro e w271 ⟨rfl, hb⟩
                            refine ⟨_, rfl, ?_⟩
                            have n0_ := Bk.mk (blk_below (g := gb645) bk hb)
                            have n1_ := Bk.mk (blk_below (g := gb646) bk hb)
                            have n2_ := Bk.mk (blk_below (g := gb653) bk hb)
                            have n3_ := Bk.mk (blk_below (g := gb654) bk hb)
                            have n4_ := Bk.mk (blk_below (g := gb661) bk hb)
                            have n5_ := Bk.mk (blk_below (g := gb662) bk hb)
                            have n6_ := Bk.mk (blk_below (g := gb665) bk hb)
                            have n7_ := Bk.mk (blk_below (g := gb666) bk hb)
                            have n8_ := Bl.mk (below_step bl hb)
                            clear BK645
                            clear BK646
                            clear BK653
                            clear BK654
                            clear BK661
                            clear BK662
                            clear BK665
                            clear BK666
                            clear HB
                            have BK645 := n0_
                            have BK646 := n1_
                            have BK653 := n2_
                            have BK654 := n3_
                            have BK661 := n4_
                            have BK662 := n5_
                            have BK665 := n6_
                            have BK666 := n7_
                            have HB := n8_
                            clear n0_ n1_ n2_ n3_ n4_ n5_ n6_ n7_ n8_
                            (try clear hb)
                            (try clear hb2)
                            (try clear hk)
                            (try clear hi)
                            refine hK.out _ _ ⟨(blk_cell BK665.out 0).trans rfl, (blk_cell BK665.out 1).trans rfl, (blk_cell BK665.out 2).trans rfl⟩ (fun hHeld => ?_)
                            clear hK K
                            refine norm_ (a' := ?_) ?_ ?_
                            rotate_left
                            · show Act.put _ (some 110) _ = _
                              simp only [Act.put, List.setIfInBounds_toArray, List.set_cons_zero, List.set_cons_succ, i64_w, i32_w]
                              rfl
                            refine one_ (i := 3) (N := some 111) #[true, true, true, true, false] rfl rfl (by kernel_rfl) (by decide) (fun K hK => ?_)
                            refine goes_ Try.func25 (by kernel_rfl) rfl #[.agg #[.bool x666000_3, .int .i64 x666001_3, .int .i64 x666002_3], .agg #[.bool t671, .int .i64 t672, .int .i64 t673]] (by rfl) rfl rfl (by (try simp only [List.map_toArray, List.map_cons, List.map_nil]); first | done | rfl | (simp only [List.length_drop, List.length_take]; rfl)) ?_
                            with_reducible refine (impl_SpanJoin.calls kj215 x666000_3 x666001_3 x666002_3 t671 t672 t673 t674 t675 t676 _ A267.out).mono ?_
                            rintro e w272 ⟨rfl, hb⟩
                            refine ⟨_, rfl, ?_⟩
                            have n0_ := Bk.mk (blk_below (g := gb645) bk hb)
                            have n1_ := Bk.mk (blk_below (g := gb646) bk hb)
                            have n2_ := Bk.mk (blk_below (g := gb653) bk hb)
                            have n3_ := Bk.mk (blk_below (g := gb654) bk hb)
                            have n4_ := Bk.mk (blk_below (g := gb661) bk hb)
                            have n5_ := Bk.mk (blk_below (g := gb662) bk hb)
                            have n6_ := Bk.mk (blk_below (g := gb665) bk hb)
                            have n7_ := Bk.mk (blk_below (g := gb666) bk hb)
                            have n8_ := Bl.mk (below_step bl hb)
                            clear BK645
                            clear BK646
                            clear BK653
                            clear BK654
                            clear BK661
                            clear BK662
                            clear BK665
                            clear BK666
                            clear HB
                            have BK645 := n0_
                            have BK646 := n1_
                            have BK653 := n2_
                            have BK654 := n3_
                            have BK661 := n4_
                            have BK662 := n5_
                            have BK665 := n6_
                            have BK666 := n7_
                            have HB := n8_
                            clear n0_ n1_ n2_ n3_ n4_ n5_ n6_ n7_ n8_
                            (try clear hb)
                            (try clear hb2)
                            (try clear hk)
                            (try clear hi)
                            refine hK.out _ _ ⟨(blk_cell BK665.out 0).trans rfl, (blk_cell BK665.out 1).trans rfl, (blk_cell BK665.out 2).trans rfl⟩ (fun hHeld => ?_)
                            clear hK K
                            refine norm_ (a' := ?_) ?_ ?_
                            rotate_left
                            · show Act.put _ (some 111) _ = _
                              simp only [Act.put, List.setIfInBounds_toArray, List.set_cons_zero, List.set_cons_succ, i64_w, i32_w]
                              rfl
                            refine last_ (i := 4) (N := none) #[true, true, true, true, true] rfl rfl (by kernel_rfl) (by decide) (fun K hK => ?_)
                            have hs273 : w272.cell? ⟨gb665, 0, none⟩ = some (.bool x666000_3) := (blk_cell BK665.out 0).trans rfl
                            have hfs273 := blk_frozen BK665.out 0
                            have hns273_0 := NB645_665.out
                            have hns273_1 := NB646_665.out
                            have hns273_2 := NB653_665.out
                            have hns273_3 := NB654_665.out
                            have hns273_4 := NB661_665.out
                            have hns273_5 := NB662_665.out
                            have hns273_7 := NB666_665.out
                            have hms273_0 := NB665_645.out
                            have hms273_1 := NB665_646.out
                            have hms273_2 := NB665_653.out
                            have hms273_3 := NB665_654.out
                            have hms273_4 := NB665_661.out
                            have hms273_5 := NB665_662.out
                            have hms273_7 := NB665_666.out
                            have hs274 : w272.cell? ⟨gb665, 1, none⟩ = some (.int .i64 x666001_3) := (blk_cell BK665.out 1).trans rfl
                            have hfs274 := blk_frozen BK665.out 1
                            have hns274_0 := NB645_665.out
                            have hns274_1 := NB646_665.out
                            have hns274_2 := NB653_665.out
                            have hns274_3 := NB654_665.out
                            have hns274_4 := NB661_665.out
                            have hns274_5 := NB662_665.out
                            have hns274_7 := NB666_665.out
                            have hms274_0 := NB665_645.out
                            have hms274_1 := NB665_646.out
                            have hms274_2 := NB665_653.out
                            have hms274_3 := NB665_654.out
                            have hms274_4 := NB665_661.out
                            have hms274_5 := NB665_662.out
                            have hms274_7 := NB665_666.out
                            have hs275 : w272.cell? ⟨gb665, 2, none⟩ = some (.int .i64 x666002_3) := (blk_cell BK665.out 2).trans rfl
                            have hfs275 := blk_frozen BK665.out 2
                            have hns275_0 := NB645_665.out
                            have hns275_1 := NB646_665.out
                            have hns275_2 := NB653_665.out
                            have hns275_3 := NB654_665.out
                            have hns275_4 := NB661_665.out
                            have hns275_5 := NB662_665.out
                            have hns275_7 := NB666_665.out
                            have hms275_0 := NB665_645.out
                            have hms275_1 := NB665_646.out
                            have hms275_2 := NB665_653.out
                            have hms275_3 := NB665_654.out
                            have hms275_4 := NB665_661.out
                            have hms275_5 := NB665_662.out
                            have hms275_7 := NB665_666.out
                            refine skip_ (w1 := ?_) (by rfl) rfl ?_ ?_
                            rotate_left
                            · go_simp
                              rfl
                            refine hK.out _ _ ?_
                            clear hK K
                            refine done_ (by kernel_rfl) ?_
                            try go_wp2
                            have n0_ : Bk (((w272.setCell ⟨gb665, 0, none⟩ (.bool t674)).setCell ⟨gb665, 1, none⟩ (.int .i64 t675)).setCell ⟨gb665, 2, none⟩ (.int .i64 t676)) gb645 (.cells #[.bool t638, .int .i64 t639, .int .i64 t640] 30 (0, 0)) := ⟨bk⟩
                            have n1_ : Bk (((w272.setCell ⟨gb665, 0, none⟩ (.bool t674)).setCell ⟨gb665, 1, none⟩ (.int .i64 t675)).setCell ⟨gb665, 2, none⟩ (.int .i64 t676)) gb646 (.cells #[.bool t641, .int .i64 t642, .int .i64 t643] 30 (0, 0)) := ⟨bk⟩
                            have n2_ : Bk (((w272.setCell ⟨gb665, 0, none⟩ (.bool t674)).setCell ⟨gb665, 1, none⟩ (.int .i64 t675)).setCell ⟨gb665, 2, none⟩ (.int .i64 t676)) gb653 (.cells #[.bool t647, .int .i64 t648, .int .i64 t649] 30 (0, 0)) := ⟨bk⟩
                            have n3_ : Bk (((w272.setCell ⟨gb665, 0, none⟩ (.bool t674)).setCell ⟨gb665, 1, none⟩ (.int .i64 t675)).setCell ⟨gb665, 2, none⟩ (.int .i64 t676)) gb654 (.cells #[.bool t650, .int .i64 t651, .int .i64 t652] 30 (0, 0)) := ⟨bk⟩
                            have n4_ : Bk (((w272.setCell ⟨gb665, 0, none⟩ (.bool t674)).setCell ⟨gb665, 1, none⟩ (.int .i64 t675)).setCell ⟨gb665, 2, none⟩ (.int .i64 t676)) gb661 (.cells #[.bool t655, .int .i64 t656, .int .i64 t657] 30 (0, 0)) := ⟨bk⟩
                            have n5_ : Bk (((w272.setCell ⟨gb665, 0, none⟩ (.bool t674)).setCell ⟨gb665, 1, none⟩ (.int .i64 t675)).setCell ⟨gb665, 2, none⟩ (.int .i64 t676)) gb662 (.cells #[.bool t658, .int .i64 t659, .int .i64 t660] 30 (0, 0)) := ⟨bk⟩
                            have n6_ : Bk (((w272.setCell ⟨gb665, 0, none⟩ (.bool t674)).setCell ⟨gb665, 1, none⟩ (.int .i64 t675)).setCell ⟨gb665, 2, none⟩ (.int .i64 t676)) gb665 (.cells #[.bool t674, .int .i64 t675, .int .i64 t676] 30 (0, 0)) := ⟨bk⟩
                            have n7_ : Bk (((w272.setCell ⟨gb665, 0, none⟩ (.bool t674)).setCell ⟨gb665, 1, none⟩ (.int .i64 t675)).setCell ⟨gb665, 2, none⟩ (.int .i64 t676)) gb666 (.cells #[.bool x667000_3, .int .i64 x667001_3, .int .i64 x667002_3] 30 (0, 0)) := ⟨bk⟩
                            have n8_ : Bl w.heap.size w (((w272.setCell ⟨gb665, 0, none⟩ (.bool t674)).setCell ⟨gb665, 1, none⟩ (.int .i64 t675)).setCell ⟨gb665, 2, none⟩ (.int .i64 t676)) := ⟨bl⟩
                            (try clear BK645)
                            (try clear BK646)
                            (try clear BK653)
                            (try clear BK654)
                            (try clear BK661)
                            (try clear BK662)
                            (try clear BK665)
                            (try clear BK666)
                            (try clear HB)
                            generalize (((w272.setCell ⟨gb665, 0, none⟩ (.bool t674)).setCell ⟨gb665, 1, none⟩ (.int .i64 t675)).setCell ⟨gb665, 2, none⟩ (.int .i64 t676)) = w276 at n0_ n1_ n2_ n3_ n4_ n5_ n6_ n7_ n8_ ⊢
                            have BK645 := n0_
                            have BK646 := n1_
                            have BK653 := n2_
                            have BK654 := n3_
                            have BK661 := n4_
                            have BK662 := n5_
                            have BK665 := n6_
                            have BK666 := n7_
                            have HB := n8_
                            clear n0_ n1_ n2_ n3_ n4_ n5_ n6_ n7_ n8_
                            have n0_ := Bk.mk (blk_drew BK645.out)
                            have n1_ := Bk.mk (blk_drew BK646.out)
                            have n2_ := Bk.mk (blk_drew BK653.out)
                            have n3_ := Bk.mk (blk_drew BK654.out)
                            have n4_ := Bk.mk (blk_drew BK661.out)
                            have n5_ := Bk.mk (blk_drew BK662.out)
                            have n6_ := Bk.mk (blk_drew BK665.out)
                            have n7_ := Bk.mk (blk_drew BK666.out)
                            have n8_ := Bl.mk (below_drew1 HB.out)
                            clear BK645
                            clear BK646
                            clear BK653
                            clear BK654
                            clear BK661
                            clear BK662
                            clear BK665
                            clear BK666
                            clear HB
                            have BK645 := n0_
                            have BK646 := n1_
                            have BK653 := n2_
                            have BK654 := n3_
                            have BK661 := n4_
                            have BK662 := n5_
                            have BK665 := n6_
                            have BK666 := n7_
                            have HB := n8_
                            clear n0_ n1_ n2_ n3_ n4_ n5_ n6_ n7_ n8_
                            refine start_ (n := 5) (S := fun w' => w'.cell? ⟨gb666, 0, none⟩ = some (.bool x667000_3) ∧ w'.cell? ⟨gb666, 1, none⟩ = some (.int .i64 x667001_3) ∧ w'.cell? ⟨gb666, 2, none⟩ = some (.int .i64 x667002_3)) (ds := [4]) #[false, false, false, false, false] (by kernel_rfl) rfl rfl ⟨(blk_cell BK666.out 0).trans rfl, (blk_cell BK666.out 1).trans rfl, (blk_cell BK666.out 2).trans rfl⟩ (fun hHeld => ?_)
                            generalize w276.drew = w277 at BK645 BK646 BK653 BK654 BK661 BK662 BK665 BK666 HB hHeld ⊢
                            refine pure_ (i := 1) (N := some 113) (v := ?_) (a' := ?_) #[false, true, false, false, false] rfl rfl (by kernel_rfl) (fun _ _ _ h => h) (Or.inl ⟨by rfl, ?_⟩) ?_ ?_
                            rotate_left
                            · intro w'
                              go_simp
                              with_reducible rfl
                            rotate_left
                            · simp only [Act.put, List.setIfInBounds_toArray, List.set_cons_zero, List.set_cons_succ, i64_w, i32_w]
                              rfl
                            refine take_ (i := 0) (N := some 112) (v := ?_) (a' := ?_) #[true, true, false, false, false] rfl rfl (by kernel_rfl) (fun _ _ _ h => h) (Or.inl ⟨by rfl, ?_⟩) hHeld ?_ ?_
                            rotate_left
                            · rintro w' ⟨s0, s1, s2⟩
                              go_simp
                              with_reducible rfl
                            rotate_left
                            · simp only [Act.put, List.setIfInBounds_toArray, List.set_cons_zero, List.set_cons_succ, i64_w, i32_w]
                              rfl
                            refine one_ (i := 2) (N := some 114) #[true, true, true, false, false] rfl rfl (by kernel_rfl) (by decide) (fun K hK => ?_)
                            refine goes_ Try.func28 (by kernel_rfl) rfl #[.int .i64 x14_3] (by rfl) rfl rfl (by (try simp only [List.map_toArray, List.map_cons, List.map_nil]); first | done | rfl | (simp only [List.length_drop, List.length_take]; rfl)) ?_
                            with_reducible refine (impl_SpanOf.calls x14_3 t677 t678 t679 _ A268.out).mono ?_
                            rintro e w278 ⟨rfl, hb⟩
                            refine ⟨_, rfl, ?_⟩
                            have n0_ := Bk.mk (blk_below (g := gb645) bk hb)
                            have n1_ := Bk.mk (blk_below (g := gb646) bk hb)
                            have n2_ := Bk.mk (blk_below (g := gb653) bk hb)
                            have n3_ := Bk.mk (blk_below (g := gb654) bk hb)
                            have n4_ := Bk.mk (blk_below (g := gb661) bk hb)
                            have n5_ := Bk.mk (blk_below (g := gb662) bk hb)
                            have n6_ := Bk.mk (blk_below (g := gb665) bk hb)
                            have n7_ := Bk.mk (blk_below (g := gb666) bk hb)
                            have n8_ := Bl.mk (below_step bl hb)
                            clear BK645
                            clear BK646
                            clear BK653
                            clear BK654
                            clear BK661
                            clear BK662
                            clear BK665
                            clear BK666
                            clear HB
                            have BK645 := n0_
                            have BK646 := n1_
                            have BK653 := n2_
                            have BK654 := n3_
                            have BK661 := n4_
                            have BK662 := n5_
                            have BK665 := n6_
                            have BK666 := n7_
                            have HB := n8_
                            clear n0_ n1_ n2_ n3_ n4_ n5_ n6_ n7_ n8_
                            (try clear hb)
                            (try clear hb2)
                            (try clear hk)
                            (try clear hi)
                            refine hK.out _ _ ⟨(blk_cell BK666.out 0).trans rfl, (blk_cell BK666.out 1).trans rfl, (blk_cell BK666.out 2).trans rfl⟩ (fun hHeld => ?_)
                            clear hK K
                            refine norm_ (a' := ?_) ?_ ?_
                            rotate_left
                            · show Act.put _ (some 114) _ = _
                              simp only [Act.put, List.setIfInBounds_toArray, List.set_cons_zero, List.set_cons_succ, i64_w, i32_w]
                              rfl
                            refine one_ (i := 3) (N := some 115) #[true, true, true, true, false] rfl rfl (by kernel_rfl) (by decide) (fun K hK => ?_)
                            refine goes_ Try.func25 (by kernel_rfl) rfl #[.agg #[.bool x667000_3, .int .i64 x667001_3, .int .i64 x667002_3], .agg #[.bool t677, .int .i64 t678, .int .i64 t679]] (by rfl) rfl rfl (by (try simp only [List.map_toArray, List.map_cons, List.map_nil]); first | done | rfl | (simp only [List.length_drop, List.length_take]; rfl)) ?_
                            with_reducible refine (impl_SpanJoin.calls kj215 x667000_3 x667001_3 x667002_3 t677 t678 t679 t680 t681 t682 _ A269.out).mono ?_
                            rintro e w279 ⟨rfl, hb⟩
                            refine ⟨_, rfl, ?_⟩
                            have n0_ := Bk.mk (blk_below (g := gb645) bk hb)
                            have n1_ := Bk.mk (blk_below (g := gb646) bk hb)
                            have n2_ := Bk.mk (blk_below (g := gb653) bk hb)
                            have n3_ := Bk.mk (blk_below (g := gb654) bk hb)
                            have n4_ := Bk.mk (blk_below (g := gb661) bk hb)
                            have n5_ := Bk.mk (blk_below (g := gb662) bk hb)
                            have n6_ := Bk.mk (blk_below (g := gb665) bk hb)
                            have n7_ := Bk.mk (blk_below (g := gb666) bk hb)
                            have n8_ := Bl.mk (below_step bl hb)
                            clear BK645
                            clear BK646
                            clear BK653
                            clear BK654
                            clear BK661
                            clear BK662
                            clear BK665
                            clear BK666
                            clear HB
                            have BK645 := n0_
                            have BK646 := n1_
                            have BK653 := n2_
                            have BK654 := n3_
                            have BK661 := n4_
                            have BK662 := n5_
                            have BK665 := n6_
                            have BK666 := n7_
                            have HB := n8_
                            clear n0_ n1_ n2_ n3_ n4_ n5_ n6_ n7_ n8_
                            (try clear hb)
                            (try clear hb2)
                            (try clear hk)
                            (try clear hi)
                            refine hK.out _ _ ⟨(blk_cell BK666.out 0).trans rfl, (blk_cell BK666.out 1).trans rfl, (blk_cell BK666.out 2).trans rfl⟩ (fun hHeld => ?_)
                            clear hK K
                            refine norm_ (a' := ?_) ?_ ?_
                            rotate_left
                            · show Act.put _ (some 115) _ = _
                              simp only [Act.put, List.setIfInBounds_toArray, List.set_cons_zero, List.set_cons_succ, i64_w, i32_w]
                              rfl
                            refine last_ (i := 4) (N := none) #[true, true, true, true, true] rfl rfl (by kernel_rfl) (by decide) (fun K hK => ?_)
                            have hs280 : w279.cell? ⟨gb666, 0, none⟩ = some (.bool x667000_3) := (blk_cell BK666.out 0).trans rfl
                            have hfs280 := blk_frozen BK666.out 0
                            have hns280_0 := NB645_666.out
                            have hns280_1 := NB646_666.out
                            have hns280_2 := NB653_666.out
                            have hns280_3 := NB654_666.out
                            have hns280_4 := NB661_666.out
                            have hns280_5 := NB662_666.out
                            have hns280_6 := NB665_666.out
                            have hms280_0 := NB666_645.out
                            have hms280_1 := NB666_646.out
                            have hms280_2 := NB666_653.out
                            have hms280_3 := NB666_654.out
                            have hms280_4 := NB666_661.out
                            have hms280_5 := NB666_662.out
                            have hms280_6 := NB666_665.out
                            have hs281 : w279.cell? ⟨gb666, 1, none⟩ = some (.int .i64 x667001_3) := (blk_cell BK666.out 1).trans rfl
                            have hfs281 := blk_frozen BK666.out 1
                            have hns281_0 := NB645_666.out
                            have hns281_1 := NB646_666.out
                            have hns281_2 := NB653_666.out
                            have hns281_3 := NB654_666.out
                            have hns281_4 := NB661_666.out
                            have hns281_5 := NB662_666.out
                            have hns281_6 := NB665_666.out
                            have hms281_0 := NB666_645.out
                            have hms281_1 := NB666_646.out
                            have hms281_2 := NB666_653.out
                            have hms281_3 := NB666_654.out
                            have hms281_4 := NB666_661.out
                            have hms281_5 := NB666_662.out
                            have hms281_6 := NB666_665.out
                            have hs282 : w279.cell? ⟨gb666, 2, none⟩ = some (.int .i64 x667002_3) := (blk_cell BK666.out 2).trans rfl
                            have hfs282 := blk_frozen BK666.out 2
                            have hns282_0 := NB645_666.out
                            have hns282_1 := NB646_666.out
                            have hns282_2 := NB653_666.out
                            have hns282_3 := NB654_666.out
                            have hns282_4 := NB661_666.out
                            have hns282_5 := NB662_666.out
                            have hns282_6 := NB665_666.out
                            have hms282_0 := NB666_645.out
                            have hms282_1 := NB666_646.out
                            have hms282_2 := NB666_653.out
                            have hms282_3 := NB666_654.out
                            have hms282_4 := NB666_661.out
                            have hms282_5 := NB666_662.out
                            have hms282_6 := NB666_665.out
                            refine skip_ (w1 := ?_) (by rfl) rfl ?_ ?_
                            rotate_left
                            · go_simp
                              rfl
                            refine hK.out _ _ ?_
                            clear hK K
                            refine done_ (by kernel_rfl) ?_
                            try go_wp2
                            go_roundg kj215
                            case measure => have := HJ5.out; have := HK2.out; have := HK3.out; have := HJ215.out; omega
                            case rel => exact ⟨(wrap64 (x14_3 + 1)), (t674), (t675), (t676), (t680), (t681), (t682), (by first | rfl | (simp; done) | (simp [*]; done)), H', ⟨by have := HJ5.out; have := HK2.out; have := HK3.out; have := HJ215.out; omega⟩, ⟨bk⟩, ⟨bk⟩, ⟨bk⟩, ⟨bk⟩, ⟨bk⟩, ⟨bk⟩, ⟨bk⟩, ⟨bk⟩, ⟨bl⟩⟩
                          · replace c265 := Bool.eq_false_iff.mpr c265
                            subst c265
                            rw [if_neg (show ¬ (false = true) by decide)] at H
                            have H' := Aside0.mk H
                            clear H
                            go_wp2
                            go_roundg kj215
                            case measure => have := HJ5.out; have := HK2.out; have := HK3.out; have := HJ215.out; omega
                            case rel => exact ⟨(wrap64 (x14_3 + 1)), (x666000_3), (x666001_3), (x666002_3), (x667000_3), (x667001_3), (x667002_3), (by first | rfl | (simp; done) | (simp [*]; done)), H', ⟨by have := HJ5.out; have := HK2.out; have := HK3.out; have := HJ215.out; omega⟩, ⟨bk⟩, ⟨bk⟩, ⟨bk⟩, ⟨bk⟩, ⟨bk⟩, ⟨bk⟩, ⟨bk⟩, ⟨bk⟩, ⟨bl⟩⟩
                    · rw [if_neg c214] at H
                      have c214b0 : decide (x14_3 ≤ 15) = false := decide_eq_false c214
                      clear c214
                      have H' := Aside0.mk H
                      clear H
                      go_wp2
                      go_roundg k3
                      case measure => have := HJ5.out; have := HK2.out; have := HK3.out; omega
                      case rel => exact ⟨(wrap64 (x13_2 + 1)), (x666000_3), (x666001_3), (x666002_3), (x667000_3), (x667001_3), (x667002_3), (by first | rfl | (simp; done) | (simp [*]; done)), H', ⟨by have := HJ5.out; have := HK2.out; have := HK3.out; omega⟩, ⟨bk⟩, ⟨bk⟩, ⟨bk⟩, ⟨bk⟩, ⟨bk⟩, ⟨bk⟩, ⟨bk⟩, ⟨bk⟩, ⟨bl⟩⟩
              · rw [if_neg c213] at H
                have c213b0 : decide (x13_2 ≤ 15) = false := decide_eq_false c213
                clear c213
                by_cases c283 : (t647 == x666000_2 && (t648 == x666001_2 && (t649 == x666002_2))) = true
                · rw [if_pos c283] at H
                  have c283b0 : (t647 == x666000_2 && (t648 == x666001_2 && (t649 == x666002_2))) = true := c283
                  (try (have c283b1 : decide (t647 = x666000_2 && (t648 == x666001_2 && (t649 == x666002_2))) = true := by simpa using c283))
                  (try (have c283b2 : (t647 == x666000_2 && (t648 == x666001_2 && (t649 == x666002_2))) = true := by simpa using c283))
                  clear c283
                  obtain rfl := Option.some.inj H
                  have hnb284 := NB653_645.out
                  have hnc284 := NB645_653.out
                  have hnb285 := NB653_646.out
                  have hnc285 := NB646_653.out
                  have hnb286 := NB653_654.out
                  have hnc286 := NB654_653.out
                  have hnb287 := NB653_661.out
                  have hnc287 := NB661_653.out
                  have hnb288 := NB653_662.out
                  have hnc288 := NB662_653.out
                  have hnb289 := NB653_665.out
                  have hnc289 := NB665_653.out
                  have hnb290 := NB653_666.out
                  have hnc290 := NB666_653.out
                  have hcz291_0 := bc0 BK653.out
                  have hcz291_1 := bc1 BK653.out
                  have hcz291_2 := bc2 BK653.out
                  have hfz291_0 := blk_frozen BK653.out 0
                  have hfz291_1 := blk_frozen BK653.out 1
                  have hfz291_2 := blk_frozen BK653.out 2
                  have hnb292 := NB665_645.out
                  have hnc292 := NB645_665.out
                  have hnb293 := NB665_646.out
                  have hnc293 := NB646_665.out
                  have hnb294 := NB665_654.out
                  have hnc294 := NB654_665.out
                  have hnb295 := NB665_661.out
                  have hnc295 := NB661_665.out
                  have hnb296 := NB665_662.out
                  have hnc296 := NB662_665.out
                  have hnb297 := NB665_666.out
                  have hnc297 := NB666_665.out
                  have hcz298_0 := bc0 BK665.out
                  have hcz298_1 := bc1 BK665.out
                  have hcz298_2 := bc2 BK665.out
                  have hfz298_0 := blk_frozen BK665.out 0
                  have hfz298_1 := blk_frozen BK665.out 1
                  have hfz298_2 := blk_frozen BK665.out 2
                  have hnb299 := NB654_645.out
                  have hnc299 := NB645_654.out
                  have hnb300 := NB654_646.out
                  have hnc300 := NB646_654.out
                  have hnb301 := NB654_661.out
                  have hnc301 := NB661_654.out
                  have hnb302 := NB654_662.out
                  have hnc302 := NB662_654.out
                  have hnb303 := NB654_666.out
                  have hnc303 := NB666_654.out
                  have hcz304_0 := bc0 BK654.out
                  have hcz304_1 := bc1 BK654.out
                  have hcz304_2 := bc2 BK654.out
                  have hfz304_0 := blk_frozen BK654.out 0
                  have hfz304_1 := blk_frozen BK654.out 1
                  have hfz304_2 := blk_frozen BK654.out 2
                  have hnb305 := NB666_645.out
                  have hnc305 := NB645_666.out
                  have hnb306 := NB666_646.out
                  have hnc306 := NB646_666.out
                  have hnb307 := NB666_661.out
                  have hnc307 := NB661_666.out
                  have hnb308 := NB666_662.out
                  have hnc308 := NB662_666.out
                  have hcz309_0 := bc0 BK666.out
                  have hcz309_1 := bc1 BK666.out
                  have hcz309_2 := bc2 BK666.out
                  have hfz309_0 := blk_frozen BK666.out 0
                  have hfz309_1 := blk_frozen BK666.out 1
                  have hfz309_2 := blk_frozen BK666.out 2
                  go_wp2
                  go_ret
                  exact ⟨by first | rfl | (simp [errW_none, errW_some] <;> rfl) | (simp [*, errW_none, errW_some] <;> rfl), bl⟩
                · rw [if_neg c283] at H
                  have c283b0 : (t647 == x666000_2 && (t648 == x666001_2 && (t649 == x666002_2))) = false := by simpa using c283
                  (try (have c283b1 : decide (t647 = x666000_2 && (t648 == x666001_2 && (t649 == x666002_2))) = false := by simpa using c283))
                  (try (have c283b2 : (t647 == x666000_2 && (t648 == x666001_2 && (t649 == x666002_2))) = false := by simpa using c283))
                  (try (have c283b3 : ¬ (t647 = x666000_2 && (t648 == x666001_2 && (t649 == x666002_2))) := by simpa using c283))
                  clear c283
                  obtain rfl := Option.some.inj H
                  have hnb310 := NB653_645.out
                  have hnc310 := NB645_653.out
                  have hnb311 := NB653_646.out
                  have hnc311 := NB646_653.out
                  have hnb312 := NB653_654.out
                  have hnc312 := NB654_653.out
                  have hnb313 := NB653_661.out
                  have hnc313 := NB661_653.out
                  have hnb314 := NB653_662.out
                  have hnc314 := NB662_653.out
                  have hnb315 := NB653_665.out
                  have hnc315 := NB665_653.out
                  have hnb316 := NB653_666.out
                  have hnc316 := NB666_653.out
                  have hcz317_0 := bc0 BK653.out
                  have hcz317_1 := bc1 BK653.out
                  have hcz317_2 := bc2 BK653.out
                  have hfz317_0 := blk_frozen BK653.out 0
                  have hfz317_1 := blk_frozen BK653.out 1
                  have hfz317_2 := blk_frozen BK653.out 2
                  have hnb318 := NB665_645.out
                  have hnc318 := NB645_665.out
                  have hnb319 := NB665_646.out
                  have hnc319 := NB646_665.out
                  have hnb320 := NB665_654.out
                  have hnc320 := NB654_665.out
                  have hnb321 := NB665_661.out
                  have hnc321 := NB661_665.out
                  have hnb322 := NB665_662.out
                  have hnc322 := NB662_665.out
                  have hnb323 := NB665_666.out
                  have hnc323 := NB666_665.out
                  have hcz324_0 := bc0 BK665.out
                  have hcz324_1 := bc1 BK665.out
                  have hcz324_2 := bc2 BK665.out
                  have hfz324_0 := blk_frozen BK665.out 0
                  have hfz324_1 := blk_frozen BK665.out 1
                  have hfz324_2 := blk_frozen BK665.out 2
                  go_wp2
                  go_ret
                  exact ⟨by first | rfl | (simp [errW_none, errW_some] <;> rfl) | (simp [*, errW_none, errW_some] <;> rfl), bl⟩

/-- THE ONE PURE STATEMENT of laws_FnSpanWhen: yours. -/
def laws_FnSpanWhen.Pure : Prop := ∀ (l0 : List Int), l0.length ≤ maxLen → l0.length * 1 ≤ 140737488351232 → (∀ x ∈ l0, (Lit.int .u8 x).wf = true) → ∃ k, laws_FnSpanWhen.f k l0 = some true
theorem laws_FnSpanWhen.walk (P : laws_FnSpanWhen.Pure) (a0 : Option Addr) (len0 cap0 : Nat) (z0 : List Int) (w : World) (w0 : (a0 = none ∧ len0 = 0 ∧ cap0 = 0 ∧ z0 = []) ∨ ∃ x, a0 = some x ∧ len0 ≤ cap0 ∧ cap0 ≤ maxLen ∧ z0.length = cap0 ∧ (∀ i, i < z0.length → w.cell? (x.add i) = some (.int .u8 (z0.getD i 0))) ∧ ∀ n ∈ z0, (Lit.int .u8 n).wf = true) (y0 : len0 * 1 ≤ 140737488351232) :
    Calls Try.prog 9 #[.slice a0 len0 cap0] w fun e w' => e = .returned (.bool true) ∧ Below w.heap.size w w' := by
  obtain ⟨l0, rfl, hr0, hm0, hw0, hc0⟩ := ReadsInt.ofRowC w0
  obtain ⟨k, h⟩ := P l0 hm0 y0 hw0
  refine (laws_FnSpanWhen.calls k _ _ l0 true w (Kd.C_of_reads (d := (0 : Int)) (h1 := fun _ => rfl) hr0) hc0 h).mono ?_
  rintro e w' ⟨rfl, hd⟩
  exact ⟨rfl, hd⟩

end Go.Proofs.Ytekmapilhomdgaa.P
