/- The contracts of Go functions of this seat: each call comes to what the Lean function of the same name says. -/
import Derived.Test.YtekmapilhomdgaaPx0
import Derived.Test.YtekmapilhomdgaaPx1
import Derived.Test.YtekmapilhomdgaaPx6
import Derived.Test.YtekmapilhomdgaaPx13
import Derived.Test.YtekmapilhomdgaaPx31
import Derived.Test.YtekmapilhomdgaaPx34
import Derived.Test.YtekmapilhomdgaaPx39
import Derived.Test.YtekmapilhomdgaaPx42
import Derived.Test.YtekmapilhomdgaaPx44
namespace Go.Proofs.Ytekmapilhomdgaa.P
open Go.RowKit Go.Proofs.YtekmapilhomdgaaW.PrintWords Go.Proofs.YtekmapilhomdgaaW.PrintLast Go.Proofs.YtekmapilhomdgaaW.PrintMore
attribute [local go_sem] max2_int min2_int max_two min_two max_three min_three max_four min_four   -- for this text's walks alone
set_option linter.unusedVariables false
set_option linter.unusedSimpArgs false

attribute [local go_sem high] eqA30
/-! ### laws_FnSpanDo: function 11 -/
mutual
def laws_FnSpanDo.j0 : Nat → Int → Bool → Bool → Int → Int → Bool → Int → Int → Bool → Int → Int → Option (Bool)
  | 0, _, _, _, _, _, _, _, _, _, _, _ => none
  | k + 1, x3, x40, x747000, x747001, x747002, x748000, x748001, x748002, x752000, x752001, x752002 => if x40 = true then ((spec_SpanDo.f k x3 x747000 x747001 x747002 x748000 x748001 x748002).bind fun bt757 => (some (x752000 == bt757.1 && (x752001 == bt757.2.1 && (x752002 == bt757.2.2))))) else (laws_FnSpanDo.l0 k x3 (-16) x747000 x747001 x747002 x748000 x748001 x748002 x752000 x752001 x752002 false 0 0)
def laws_FnSpanDo.l0 : Nat → Int → Int → Bool → Int → Int → Bool → Int → Int → Bool → Int → Int → Bool → Int → Int → Option (Bool)
  | 0, _, _, _, _, _, _, _, _, _, _, _, _, _, _ => none
  | k + 1, x3, x8, x747000, x747001, x747002, x748000, x748001, x748002, x752000, x752001, x752002, x761000, x761001, x761002 => if x8 ≤ 15 then (laws_FnSpanDo.l1 k x3 x8 (-16) x747000 x747001 x747002 x748000 x748001 x748002 x752000 x752001 x752002 x761000 x761001 x761002) else (if (x752000 == x761000 && (x752001 == x761001 && (x752002 == x761002))) = true then (some true) else (some (x752000 && (x752001 == (-16) && (x752002 == 15)))))
def laws_FnSpanDo.l1 : Nat → Int → Int → Int → Bool → Int → Int → Bool → Int → Int → Bool → Int → Int → Bool → Int → Int → Option (Bool)
  | 0, _, _, _, _, _, _, _, _, _, _, _, _, _, _, _ => none
  | k + 1, x3, x8, x9, x747000, x747001, x747002, x748000, x748001, x748002, x752000, x752001, x752002, x761000, x761001, x761002 => if x9 ≤ 15 then ((impl_SpanHas.f x747000 x747001 x747002 x8).bind fun t761 => (if t761 = true then ((impl_SpanHas.f x748000 x748001 x748002 x9).bind fun t762 => (laws_FnSpanDo.j3 k x3 x8 x9 t762 x747000 x747001 x747002 x748000 x748001 x748002 x752000 x752001 x752002 x761000 x761001 x761002)) else (laws_FnSpanDo.j3 k x3 x8 x9 false x747000 x747001 x747002 x748000 x748001 x748002 x752000 x752001 x752002 x761000 x761001 x761002))) else (laws_FnSpanDo.l0 k x3 (wrap64 (x8 + 1)) x747000 x747001 x747002 x748000 x748001 x748002 x752000 x752001 x752002 x761000 x761001 x761002)
def laws_FnSpanDo.j3 : Nat → Int → Int → Int → Bool → Bool → Int → Int → Bool → Int → Int → Bool → Int → Int → Bool → Int → Int → Option (Bool)
  | 0, _, _, _, _, _, _, _, _, _, _, _, _, _, _, _, _ => none
  | k + 1, x3, x8, x9, x63, x747000, x747001, x747002, x748000, x748001, x748002, x752000, x752001, x752002, x761000, x761001, x761002 => if x63 = true then ((impl_NumDo.f k x3 x8 x9).bind fun bt763 => (if bt763.2 = true then ((impl_SpanHas.f x752000 x752001 x752002 bt763.1).bind fun t765 => (laws_FnSpanDo.j4 k x3 x8 x9 bt763.1 bt763.2 (!t765) x747000 x747001 x747002 x748000 x748001 x748002 x752000 x752001 x752002 x761000 x761001 x761002)) else (laws_FnSpanDo.j4 k x3 x8 x9 bt763.1 bt763.2 false x747000 x747001 x747002 x748000 x748001 x748002 x752000 x752001 x752002 x761000 x761001 x761002))) else (laws_FnSpanDo.l1 k x3 x8 (wrap64 (x9 + 1)) x747000 x747001 x747002 x748000 x748001 x748002 x752000 x752001 x752002 x761000 x761001 x761002)
def laws_FnSpanDo.j4 : Nat → Int → Int → Int → Int → Bool → Bool → Bool → Int → Int → Bool → Int → Int → Bool → Int → Int → Bool → Int → Int → Option (Bool)
  | 0, _, _, _, _, _, _, _, _, _, _, _, _, _, _, _, _, _, _ => none
  | k + 1, x3, x8, x9, x10, x11, x77, x747000, x747001, x747002, x748000, x748001, x748002, x752000, x752001, x752002, x761000, x761001, x761002 => if x77 = true then (some false) else (if x11 = true then ((impl_SpanOf.f x10).bind fun bt766 => ((impl_SpanJoin.f k x761000 x761001 x761002 bt766.1 bt766.2.1 bt766.2.2).bind fun bt769 => (laws_FnSpanDo.l1 k x3 x8 (wrap64 (x9 + 1)) x747000 x747001 x747002 x748000 x748001 x748002 x752000 x752001 x752002 bt769.1 bt769.2.1 bt769.2.2))) else (laws_FnSpanDo.l1 k x3 x8 (wrap64 (x9 + 1)) x747000 x747001 x747002 x748000 x748001 x748002 x752000 x752001 x752002 x761000 x761001 x761002))
end
def laws_FnSpanDo.f (k : Nat) (l0 : List Int) : Option (Bool) := if (l0.length : Int) > 1048576 then (some true) else ((spec_DrawSpanDo.f k l0).bind fun bt739 => ((impl_SpanDo.f k bt739.1 bt739.2.1 bt739.2.2.1 bt739.2.2.2.1 bt739.2.2.2.2.1 bt739.2.2.2.2.2.1 bt739.2.2.2.2.2.2).bind fun bt748 => ((spec_SpanDo.f k bt739.1 bt739.2.1 bt739.2.2.1 bt739.2.2.2.1 bt739.2.2.2.2.1 bt739.2.2.2.2.2.1 bt739.2.2.2.2.2.2).bind fun bt752 => (if (!(bt748.1 == bt752.1) || (!(bt748.2.1 == bt752.2.1) || (!(bt748.2.2 == bt752.2.2)))) = true then (laws_FnSpanDo.j0 k bt739.1 true bt739.2.1 bt739.2.2.1 bt739.2.2.2.1 bt739.2.2.2.2.1 bt739.2.2.2.2.2.1 bt739.2.2.2.2.2.2 bt748.1 bt748.2.1 bt748.2.2) else ((spec_SpanOk.f bt739.2.1 bt739.2.2.1 bt739.2.2.2.1).bind fun t755 => (if t755 = true then ((spec_SpanOk.f bt739.2.2.2.2.1 bt739.2.2.2.2.2.1 bt739.2.2.2.2.2.2).bind fun t756 => (laws_FnSpanDo.j0 k bt739.1 (!t756) bt739.2.1 bt739.2.2.1 bt739.2.2.2.1 bt739.2.2.2.2.1 bt739.2.2.2.2.2.1 bt739.2.2.2.2.2.2 bt748.1 bt748.2.1 bt748.2.2)) else (laws_FnSpanDo.j0 k bt739.1 true bt739.2.1 bt739.2.2.1 bt739.2.2.2.1 bt739.2.2.2.2.1 bt739.2.2.2.2.2.1 bt739.2.2.2.2.2.2 bt748.1 bt748.2.1 bt748.2.2)))))))
theorem laws_FnSpanDo.mono_l : ∀ k, (∀ y0 y1 y2 y3 y4 y5 y6 y7 y8 y9 y10, LeO (laws_FnSpanDo.j0 k y0 y1 y2 y3 y4 y5 y6 y7 y8 y9 y10) (laws_FnSpanDo.j0 (k + 1) y0 y1 y2 y3 y4 y5 y6 y7 y8 y9 y10)) ∧ (∀ y0 y1 y2 y3 y4 y5 y6 y7 y8 y9 y10 y11 y12 y13, LeO (laws_FnSpanDo.l0 k y0 y1 y2 y3 y4 y5 y6 y7 y8 y9 y10 y11 y12 y13) (laws_FnSpanDo.l0 (k + 1) y0 y1 y2 y3 y4 y5 y6 y7 y8 y9 y10 y11 y12 y13)) ∧ (∀ y0 y1 y2 y3 y4 y5 y6 y7 y8 y9 y10 y11 y12 y13 y14, LeO (laws_FnSpanDo.l1 k y0 y1 y2 y3 y4 y5 y6 y7 y8 y9 y10 y11 y12 y13 y14) (laws_FnSpanDo.l1 (k + 1) y0 y1 y2 y3 y4 y5 y6 y7 y8 y9 y10 y11 y12 y13 y14)) ∧ (∀ y0 y1 y2 y3 y4 y5 y6 y7 y8 y9 y10 y11 y12 y13 y14 y15, LeO (laws_FnSpanDo.j3 k y0 y1 y2 y3 y4 y5 y6 y7 y8 y9 y10 y11 y12 y13 y14 y15) (laws_FnSpanDo.j3 (k + 1) y0 y1 y2 y3 y4 y5 y6 y7 y8 y9 y10 y11 y12 y13 y14 y15)) ∧ (∀ y0 y1 y2 y3 y4 y5 y6 y7 y8 y9 y10 y11 y12 y13 y14 y15 y16 y17, LeO (laws_FnSpanDo.j4 k y0 y1 y2 y3 y4 y5 y6 y7 y8 y9 y10 y11 y12 y13 y14 y15 y16 y17) (laws_FnSpanDo.j4 (k + 1) y0 y1 y2 y3 y4 y5 y6 y7 y8 y9 y10 y11 y12 y13 y14 y15 y16 y17))
  | 0 => ⟨fun _ _ _ _ _ _ _ _ _ _ _ r h => by simp [laws_FnSpanDo.j0] at h, fun _ _ _ _ _ _ _ _ _ _ _ _ _ _ r h => by simp [laws_FnSpanDo.l0] at h, fun _ _ _ _ _ _ _ _ _ _ _ _ _ _ _ r h => by simp [laws_FnSpanDo.l1] at h, fun _ _ _ _ _ _ _ _ _ _ _ _ _ _ _ _ r h => by simp [laws_FnSpanDo.j3] at h, fun _ _ _ _ _ _ _ _ _ _ _ _ _ _ _ _ _ _ r h => by simp [laws_FnSpanDo.j4] at h⟩
  | k + 1 => by
    obtain ⟨ih0, ih1, ih2, ih3, ih4⟩ := laws_FnSpanDo.mono_l k
    refine ⟨?_, ?_, ?_, ?_, ?_⟩
    · intro y0 y1 y2 y3 y4 y5 y6 y7 y8 y9 y10
      unfold laws_FnSpanDo.j0
      repeat' first
      | (with_reducible exact ih0 _ _ _ _ _ _ _ _ _ _ _)
      | (with_reducible exact ih1 _ _ _ _ _ _ _ _ _ _ _ _ _ _)
      | (with_reducible exact ih2 _ _ _ _ _ _ _ _ _ _ _ _ _ _ _)
      | (with_reducible exact ih3 _ _ _ _ _ _ _ _ _ _ _ _ _ _ _ _)
      | (with_reducible exact ih4 _ _ _ _ _ _ _ _ _ _ _ _ _ _ _ _ _ _)
      | (with_reducible exact impl_NumDo.mono _ _ _ _)
      | (with_reducible exact impl_SpanDo.mono _ _ _ _ _ _ _ _)
      | (with_reducible exact impl_SpanJoin.mono _ _ _ _ _ _ _)
      | (with_reducible exact spec_DrawSpanDo.mono _ _)
      | (with_reducible exact spec_SpanDo.mono _ _ _ _ _ _ _ _)
      | (with_reducible exact LeO.refl _)
      | (with_reducible exact LeO.none _)
      | (with_reducible refine LeO.ite ?_ ?_)
      | (with_reducible refine LeO.bind ?_ (fun _ => ?_))
      | exact ih0 _ _ _ _ _ _ _ _ _ _ _
      | exact ih1 _ _ _ _ _ _ _ _ _ _ _ _ _ _
      | exact ih2 _ _ _ _ _ _ _ _ _ _ _ _ _ _ _
      | exact ih3 _ _ _ _ _ _ _ _ _ _ _ _ _ _ _ _
      | exact ih4 _ _ _ _ _ _ _ _ _ _ _ _ _ _ _ _ _ _
      | exact impl_NumDo.mono _ _ _ _
      | exact impl_SpanDo.mono _ _ _ _ _ _ _ _
      | exact impl_SpanJoin.mono _ _ _ _ _ _ _
      | exact spec_DrawSpanDo.mono _ _
      | exact spec_SpanDo.mono _ _ _ _ _ _ _ _
      | exact LeO.none _
      | refine LeO.ite ?_ ?_
      | refine LeO.bind ?_ (fun _ => ?_)
    · intro y0 y1 y2 y3 y4 y5 y6 y7 y8 y9 y10 y11 y12 y13
      unfold laws_FnSpanDo.l0
      repeat' first
      | (with_reducible exact ih0 _ _ _ _ _ _ _ _ _ _ _)
      | (with_reducible exact ih1 _ _ _ _ _ _ _ _ _ _ _ _ _ _)
      | (with_reducible exact ih2 _ _ _ _ _ _ _ _ _ _ _ _ _ _ _)
      | (with_reducible exact ih3 _ _ _ _ _ _ _ _ _ _ _ _ _ _ _ _)
      | (with_reducible exact ih4 _ _ _ _ _ _ _ _ _ _ _ _ _ _ _ _ _ _)
      | (with_reducible exact impl_NumDo.mono _ _ _ _)
      | (with_reducible exact impl_SpanDo.mono _ _ _ _ _ _ _ _)
      | (with_reducible exact impl_SpanJoin.mono _ _ _ _ _ _ _)
      | (with_reducible exact spec_DrawSpanDo.mono _ _)
      | (with_reducible exact spec_SpanDo.mono _ _ _ _ _ _ _ _)
      | (with_reducible exact LeO.refl _)
      | (with_reducible exact LeO.none _)
      | (with_reducible refine LeO.ite ?_ ?_)
      | (with_reducible refine LeO.bind ?_ (fun _ => ?_))
      | exact ih0 _ _ _ _ _ _ _ _ _ _ _
      | exact ih1 _ _ _ _ _ _ _ _ _ _ _ _ _ _
      | exact ih2 _ _ _ _ _ _ _ _ _ _ _ _ _ _ _
      | exact ih3 _ _ _ _ _ _ _ _ _ _ _ _ _ _ _ _
      | exact ih4 _ _ _ _ _ _ _ _ _ _ _ _ _ _ _ _ _ _
      | exact impl_NumDo.mono _ _ _ _
      | exact impl_SpanDo.mono _ _ _ _ _ _ _ _
      | exact impl_SpanJoin.mono _ _ _ _ _ _ _
      | exact spec_DrawSpanDo.mono _ _
      | exact spec_SpanDo.mono _ _ _ _ _ _ _ _
      | exact LeO.none _
      | refine LeO.ite ?_ ?_
      | refine LeO.bind ?_ (fun _ => ?_)
    · intro y0 y1 y2 y3 y4 y5 y6 y7 y8 y9 y10 y11 y12 y13 y14
      unfold laws_FnSpanDo.l1
      repeat' first
      | (with_reducible exact ih0 _ _ _ _ _ _ _ _ _ _ _)
      | (with_reducible exact ih1 _ _ _ _ _ _ _ _ _ _ _ _ _ _)
      | (with_reducible exact ih2 _ _ _ _ _ _ _ _ _ _ _ _ _ _ _)
      | (with_reducible exact ih3 _ _ _ _ _ _ _ _ _ _ _ _ _ _ _ _)
      | (with_reducible exact ih4 _ _ _ _ _ _ _ _ _ _ _ _ _ _ _ _ _ _)
      | (with_reducible exact impl_NumDo.mono _ _ _ _)
      | (with_reducible exact impl_SpanDo.mono _ _ _ _ _ _ _ _)
      | (with_reducible exact impl_SpanJoin.mono _ _ _ _ _ _ _)
      | (with_reducible exact spec_DrawSpanDo.mono _ _)
      | (with_reducible exact spec_SpanDo.mono _ _ _ _ _ _ _ _)
      | (with_reducible exact LeO.refl _)
      | (with_reducible exact LeO.none _)
      | (with_reducible refine LeO.ite ?_ ?_)
      | (with_reducible refine LeO.bind ?_ (fun _ => ?_))
      | exact ih0 _ _ _ _ _ _ _ _ _ _ _
      | exact ih1 _ _ _ _ _ _ _ _ _ _ _ _ _ _
      | exact ih2 _ _ _ _ _ _ _ _ _ _ _ _ _ _ _
      | exact ih3 _ _ _ _ _ _ _ _ _ _ _ _ _ _ _ _
      | exact ih4 _ _ _ _ _ _ _ _ _ _ _ _ _ _ _ _ _ _
      | exact impl_NumDo.mono _ _ _ _
      | exact impl_SpanDo.mono _ _ _ _ _ _ _ _
      | exact impl_SpanJoin.mono _ _ _ _ _ _ _
      | exact spec_DrawSpanDo.mono _ _
      | exact spec_SpanDo.mono _ _ _ _ _ _ _ _
      | exact LeO.none _
      | refine LeO.ite ?_ ?_
      | refine LeO.bind ?_ (fun _ => ?_)
    · intro y0 y1 y2 y3 y4 y5 y6 y7 y8 y9 y10 y11 y12 y13 y14 y15
      unfold laws_FnSpanDo.j3
      repeat' first
      | (with_reducible exact ih0 _ _ _ _ _ _ _ _ _ _ _)
      | (with_reducible exact ih1 _ _ _ _ _ _ _ _ _ _ _ _ _ _)
      | (with_reducible exact ih2 _ _ _ _ _ _ _ _ _ _ _ _ _ _ _)
      | (with_reducible exact ih3 _ _ _ _ _ _ _ _ _ _ _ _ _ _ _ _)
      | (with_reducible exact ih4 _ _ _ _ _ _ _ _ _ _ _ _ _ _ _ _ _ _)
      | (with_reducible exact impl_NumDo.mono _ _ _ _)
      | (with_reducible exact impl_SpanDo.mono _ _ _ _ _ _ _ _)
      | (with_reducible exact impl_SpanJoin.mono _ _ _ _ _ _ _)
      | (with_reducible exact spec_DrawSpanDo.mono _ _)
      | (with_reducible exact spec_SpanDo.mono _ _ _ _ _ _ _ _)
      | (with_reducible exact LeO.refl _)
      | (with_reducible exact LeO.none _)
      | (with_reducible refine LeO.ite ?_ ?_)
      | (with_reducible refine LeO.bind ?_ (fun _ => ?_))
      | exact ih0 _ _ _ _ _ _ _ _ _ _ _
      | exact ih1 _ _ _ _ _ _ _ _ _ _ _ _ _ _
      | exact ih2 _ _ _ _ _ _ _ _ _ _ _ _ _ _ _
      | exact ih3 _ _ _ _ _ _ _ _ _ _ _ _ _ _ _ _
      | exact ih4 _ _ _ _ _ _ _ _ _ _ _ _ _ _ _ _ _ _
      | exact impl_NumDo.mono _ _ _ _
      | exact impl_SpanDo.mono _ _ _ _ _ _ _ _
      | exact impl_SpanJoin.mono _ _ _ _ _ _ _
      | exact spec_DrawSpanDo.mono _ _
      | exact spec_SpanDo.mono _ _ _ _ _ _ _ _
      | exact LeO.none _
      | refine LeO.ite ?_ ?_
      | refine LeO.bind ?_ (fun _ => ?_)
    · intro y0 y1 y2 y3 y4 y5 y6 y7 y8 y9 y10 y11 y12 y13 y14 y15 y16 y17
      unfold laws_FnSpanDo.j4
      repeat' first
      | (with_reducible exact ih0 _ _ _ _ _ _ _ _ _ _ _)
      | (with_reducible exact ih1 _ _ _ _ _ _ _ _ _ _ _ _ _ _)
      | (with_reducible exact ih2 _ _ _ _ _ _ _ _ _ _ _ _ _ _ _)
      | (with_reducible exact ih3 _ _ _ _ _ _ _ _ _ _ _ _ _ _ _ _)
      | (with_reducible exact ih4 _ _ _ _ _ _ _ _ _ _ _ _ _ _ _ _ _ _)
      | (with_reducible exact impl_NumDo.mono _ _ _ _)
      | (with_reducible exact impl_SpanDo.mono _ _ _ _ _ _ _ _)
      | (with_reducible exact impl_SpanJoin.mono _ _ _ _ _ _ _)
      | (with_reducible exact spec_DrawSpanDo.mono _ _)
      | (with_reducible exact spec_SpanDo.mono _ _ _ _ _ _ _ _)
      | (with_reducible exact LeO.refl _)
      | (with_reducible exact LeO.none _)
      | (with_reducible refine LeO.ite ?_ ?_)
      | (with_reducible refine LeO.bind ?_ (fun _ => ?_))
      | exact ih0 _ _ _ _ _ _ _ _ _ _ _
      | exact ih1 _ _ _ _ _ _ _ _ _ _ _ _ _ _
      | exact ih2 _ _ _ _ _ _ _ _ _ _ _ _ _ _ _
      | exact ih3 _ _ _ _ _ _ _ _ _ _ _ _ _ _ _ _
      | exact ih4 _ _ _ _ _ _ _ _ _ _ _ _ _ _ _ _ _ _
      | exact impl_NumDo.mono _ _ _ _
      | exact impl_SpanDo.mono _ _ _ _ _ _ _ _
      | exact impl_SpanJoin.mono _ _ _ _ _ _ _
      | exact spec_DrawSpanDo.mono _ _
      | exact spec_SpanDo.mono _ _ _ _ _ _ _ _
      | exact LeO.none _
      | refine LeO.ite ?_ ?_
      | refine LeO.bind ?_ (fun _ => ?_)
theorem laws_FnSpanDo.mono : ∀ a0 k, LeO (laws_FnSpanDo.f k a0) (laws_FnSpanDo.f (k + 1) a0) := by
  intro a0 k
  obtain ⟨ih0, ih1, ih2, ih3, ih4⟩ := laws_FnSpanDo.mono_l k
  unfold laws_FnSpanDo.f
  repeat' first
      | (with_reducible exact ih0 _ _ _ _ _ _ _ _ _ _ _)
      | (with_reducible exact ih1 _ _ _ _ _ _ _ _ _ _ _ _ _ _)
      | (with_reducible exact ih2 _ _ _ _ _ _ _ _ _ _ _ _ _ _ _)
      | (with_reducible exact ih3 _ _ _ _ _ _ _ _ _ _ _ _ _ _ _ _)
      | (with_reducible exact ih4 _ _ _ _ _ _ _ _ _ _ _ _ _ _ _ _ _ _)
      | (with_reducible exact impl_NumDo.mono _ _ _ _)
      | (with_reducible exact impl_SpanDo.mono _ _ _ _ _ _ _ _)
      | (with_reducible exact impl_SpanJoin.mono _ _ _ _ _ _ _)
      | (with_reducible exact spec_DrawSpanDo.mono _ _)
      | (with_reducible exact spec_SpanDo.mono _ _ _ _ _ _ _ _)
      | (with_reducible exact LeO.refl _)
      | (with_reducible exact LeO.none _)
      | (with_reducible refine LeO.ite ?_ ?_)
      | (with_reducible refine LeO.bind ?_ (fun _ => ?_))
      | exact ih0 _ _ _ _ _ _ _ _ _ _ _
      | exact ih1 _ _ _ _ _ _ _ _ _ _ _ _ _ _
      | exact ih2 _ _ _ _ _ _ _ _ _ _ _ _ _ _ _
      | exact ih3 _ _ _ _ _ _ _ _ _ _ _ _ _ _ _ _
      | exact ih4 _ _ _ _ _ _ _ _ _ _ _ _ _ _ _ _ _ _
      | exact impl_NumDo.mono _ _ _ _
      | exact impl_SpanDo.mono _ _ _ _ _ _ _ _
      | exact impl_SpanJoin.mono _ _ _ _ _ _ _
      | exact spec_DrawSpanDo.mono _ _
      | exact spec_SpanDo.mono _ _ _ _ _ _ _ _
      | exact LeO.none _
      | refine LeO.ite ?_ ?_
      | refine LeO.bind ?_ (fun _ => ?_)
def laws_FnSpanDo.T5 : Bool × List (List Nat × List Nat) := (true, [([], []), ([], []), ([], []), ([], []), ([1, 2, 3], [1, 2, 3]), ([0, 4], [0, 4]), ([5, 4], [5]), ([6], [6]), ([7, 6, 6], [6, 7]), ([8, 6], [6, 8]), ([6, 9], [6, 9]), ([10, 8], [10]), ([11], [11]), ([12, 11, 11], [11, 12]), ([13, 11], [11, 13]), ([11, 14], [11, 14])])
def laws_FnSpanDo.B5 : List Nat := [0, 0, 0, 0, 14, 31, 63, 127, 255, 511, 1023, 2047, 4095, 8191, 16383, 32767]
theorem laws_FnSpanDo.tab5 : rtab .any (opsOf Try.f11 5) = laws_FnSpanDo.T5 := by kernel_rfl
theorem laws_FnSpanDo.bits5 : waitsOk laws_FnSpanDo.T5.2 laws_FnSpanDo.B5 = true := by kernel_rfl
set_option maxHeartbeats 8000000 in
set_option maxRecDepth 100000 in
theorem laws_FnSpanDo.calls (k : Nat) (A0 : Option Addr) (c0 : Nat) (l0 : List Int) (r : Bool) (w : World) (hr0 : Kd.C (Kd.int .u8) w A0 l0.length l0) (hc0 : l0.length ≤ c0) (h : laws_FnSpanDo.f k l0 = some r) :
    Calls Try.prog 11 #[.slice A0 l0.length c0] w fun e w' => e = .returned (.bool r) ∧ Below w.heap.size w w' := by
  have hu30 := Try.underlying30
  have HR0 := Aside0.mk hr0
  have HC0 := Aside0.mk hc0
  clear hr0 hc0
  have HB := Bl.mk (Below.refl w.heap.size w)
  unfold laws_FnSpanDo.f at h
  have H := h
  clear h
  by_cases c2 : (l0.length : Int) > 1048576
  · rw [if_pos c2] at H
    have c2b0 : decide (1048576 < (l0.length : Int)) = true := decide_eq_true c2
    have c2b1 : decide (1048576 < l0.length) = true := decide_eq_true (by omega)
    clear c2
    obtain rfl := Option.some.inj H
    go_enter Try.func11, Try.ntmps11
    go_wp2
    go_ret
    exact ⟨by first | rfl | (simp [errW_none, errW_some] <;> rfl) | (simp [*, errW_none, errW_some] <;> rfl), bl⟩
  · rw [if_neg c2] at H
    have c2b0 : decide (1048576 < (l0.length : Int)) = false := decide_eq_false c2
    have c2b1 : decide (1048576 < l0.length) = false := decide_eq_false (by omega)
    clear c2
    replace H := Option.bind_eq_some_iff.mp H
    obtain ⟨⟨t739, t740, t741, t742, t743, t744, t745⟩, A30, H⟩ := H
    try dsimp only at H
    have A3 := Aside0.mk A30
    clear A30
    replace H := Option.bind_eq_some_iff.mp H
    obtain ⟨⟨t748, t749, t750⟩, A40, H⟩ := H
    try dsimp only at H
    have A4 := Aside0.mk A40
    clear A40
    have HC5 := Aside0.mk H
    clear H
    go_enter Try.func11, Try.ntmps11
    go_upto_region 5 with (first | ((with_reducible refine gate_callee (f := 29) rfl ?_); refine goesL_ (some 17) rfl rfl Try.func29 (by kernel_rfl) rfl #[.slice A0 l0.length c0] rfl (by (try simp only [List.map_toArray, List.map_cons, List.map_nil]); first | done | rfl | (simp only [List.length_drop, List.length_take]; rfl)) ?_; (with_reducible refine (spec_DrawSpanDo.calls k _ _ l0 t739 t740 t741 t742 t743 t744 t745 _ ?side1 ?side2 A3.out).mono ?_); (case side1 => repeat (first | exact HR0.out | (with_reducible refine Kd.C_alloc ?_ _) | (with_reducible refine Kd.C_drewN ?_ _) | (with_reducible refine Kd.C_drew ?_))); (case side2 => exact HC0.out); rintro e w6 ⟨rfl, hb⟩; refine ⟨_, rfl, ?_⟩; have n0_ := Bl.mk (below_step bl hb); clear HB; have HB := n0_; clear n0_; (try clear hb); (try clear hb2); (try clear hk); (try clear hi)) | ((with_reducible refine gate_dst (N := 4) rfl ?_); refine box_event ?hg (N := 4) ?hd (cs := #[.bool false, .int .i64 0, .int .i64 0]) (t := 30) ?hr ?_; (case hd => rfl); (case hg => rfl); (case hr => first | (go_simp; done) | (go_simp; rfl)); intro gb746 hg w7 hbox hb; have n0_ := Bl.mk (below_step bl hb); have n1_ := Bk.mk (hbox); have n2_ := Aside0.mk ((by rw [hg]; exact (below_size bl) : w.heap.size ≤ gb746)); have n3_ := Gl.mk ((by rw [hg]; exact (below_size bl) : w.heap.size ≤ gb746)); clear HB; have HB := n0_; have BK746 := n1_; have GW746 := n2_; have GE746 := n3_; clear n0_ n1_ n2_ n3_; clear hb hbox hg) | ((with_reducible refine gate_dst (N := 5) rfl ?_); refine box_event ?hg (N := 5) ?hd (cs := #[.bool false, .int .i64 0, .int .i64 0]) (t := 30) ?hr ?_; (case hd => rfl); (case hg => rfl); (case hr => first | (go_simp; done) | (go_simp; rfl)); intro gb747 hg w8 hbox hb; have n0_ := Bk.mk (blk_below (g := gb746) bk hb); have n1_ := Bl.mk (below_step bl hb); have n2_ := Bk.mk (hbox); have n3_ := Aside0.mk ((by rw [hg]; exact (below_size bl) : w.heap.size ≤ gb747)); have n4_ := Gl.mk ((by rw [hg]; exact (below_size bl) : w.heap.size ≤ gb747)); have n5_ := Nb.mk ((by rw [hg]; exact Nat.ne_of_lt (blk_lt (g := gb746) bk) : gb746 ≠ gb747)); have n6_ := Nb.mk ((by rw [hg]; exact Nat.ne_of_gt (blk_lt (g := gb746) bk) : gb747 ≠ gb746)); clear BK746; clear HB; have BK746 := n0_; have HB := n1_; have BK747 := n2_; have GW747 := n3_; have GE747 := n4_; have NB746_747 := n5_; have NB747_746 := n6_; clear n0_ n1_ n2_ n3_ n4_ n5_ n6_; clear hb hbox hg; have hnb9 := NB746_747.out; have hnc9 := NB747_746.out; have hcz10_0 := bc0 BK746.out; have hcz10_1 := bc1 BK746.out; have hcz10_2 := bc2 BK746.out; have hfz10_0 := blk_frozen BK746.out 0; have hfz10_1 := blk_frozen BK746.out 1; have hfz10_2 := blk_frozen BK746.out 2; have hcz11_0 := bc0 BK747.out; have hcz11_1 := bc1 BK747.out; have hcz11_2 := bc2 BK747.out; have hfz11_0 := blk_frozen BK747.out 0; have hfz11_1 := blk_frozen BK747.out 1; have hfz11_2 := blk_frozen BK747.out 2) | ((with_reducible refine gate_callee (f := 22) rfl ?_); refine goesL_ (some 24) rfl rfl Try.func22 (by kernel_rfl) rfl #[.int .i64 t739, .agg #[.bool t740, .int .i64 t741, .int .i64 t742], .agg #[.bool t743, .int .i64 t744, .int .i64 t745]] rfl (by (try simp only [List.map_toArray, List.map_cons, List.map_nil]); first | done | rfl | (simp only [List.length_drop, List.length_take]; rfl)) ?_; (with_reducible refine (impl_SpanDo.calls k t739 t740 t741 t742 t743 t744 t745 t748 t749 t750 _ A4.out).mono ?_); rintro e w12 ⟨rfl, hb⟩; refine ⟨_, rfl, ?_⟩; have n0_ := Bk.mk (blk_below (g := gb746) (o := .cells #[.bool t740, .int .i64 t741, .int .i64 t742] 30 (0, 0)) bk hb); have n1_ := Bk.mk (blk_below (g := gb747) (o := .cells #[.bool t743, .int .i64 t744, .int .i64 t745] 30 (0, 0)) bk hb); have n2_ := Bl.mk (below_step bl hb); clear BK746; clear BK747; clear HB; have BK746 := n0_; have BK747 := n1_; have HB := n2_; clear n0_ n1_ n2_; (try clear hb); (try clear hb2); (try clear hk); (try clear hi)) | ((with_reducible refine gate_dst (N := 6) rfl ?_); refine box_event ?hg (N := 6) ?hd (cs := #[.bool false, .int .i64 0, .int .i64 0]) (t := 30) ?hr ?_; (case hd => rfl); (case hg => rfl); (case hr => first | (go_simp; done) | (go_simp; rfl)); intro gb751 hg w13 hbox hb; have n0_ := Bk.mk (blk_below (g := gb746) bk hb); have n1_ := Bk.mk (blk_below (g := gb747) bk hb); have n2_ := Bl.mk (below_step bl hb); have n3_ := Bk.mk (hbox); have n4_ := Aside0.mk ((by rw [hg]; exact (below_size bl) : w.heap.size ≤ gb751)); have n5_ := Gl.mk ((by rw [hg]; exact (below_size bl) : w.heap.size ≤ gb751)); have n6_ := Nb.mk ((by rw [hg]; exact Nat.ne_of_lt (blk_lt (g := gb746) bk) : gb746 ≠ gb751)); have n7_ := Nb.mk ((by rw [hg]; exact Nat.ne_of_gt (blk_lt (g := gb746) bk) : gb751 ≠ gb746)); have n8_ := Nb.mk ((by rw [hg]; exact Nat.ne_of_lt (blk_lt (g := gb747) bk) : gb747 ≠ gb751)); have n9_ := Nb.mk ((by rw [hg]; exact Nat.ne_of_gt (blk_lt (g := gb747) bk) : gb751 ≠ gb747)); clear BK746; clear BK747; clear HB; have BK746 := n0_; have BK747 := n1_; have HB := n2_; have BK751 := n3_; have GW751 := n4_; have GE751 := n5_; have NB746_751 := n6_; have NB751_746 := n7_; have NB747_751 := n8_; have NB751_747 := n9_; clear n0_ n1_ n2_ n3_ n4_ n5_ n6_ n7_ n8_ n9_; clear hb hbox hg; have hnb14 := NB751_746.out; have hnc14 := NB746_751.out; have hnb15 := NB751_747.out; have hnc15 := NB747_751.out; have hcz16_0 := bc0 BK751.out; have hcz16_1 := bc1 BK751.out; have hcz16_2 := bc2 BK751.out; have hfz16_0 := blk_frozen BK751.out 0; have hfz16_1 := blk_frozen BK751.out 1; have hfz16_2 := blk_frozen BK751.out 2))
    (try simp only [Act.put, List.setIfInBounds_toArray, List.set_cons_zero, List.set_cons_succ])
    go_cut [40] (fun v40 wc => ∃ (kq : Nat) (x40_4 : Bool), v40 = .bool x40_4 ∧ Aside0 (laws_FnSpanDo.j0 kq t739 x40_4 t740 t741 t742 t743 t744 t745 t748 t749 t750 = some r) ∧ Aside0 (kq ≤ k) ∧ Bk wc gb746 (.cells #[.bool t740, .int .i64 t741, .int .i64 t742] 30 (0, 0)) ∧ Bk wc gb747 (.cells #[.bool t743, .int .i64 t744, .int .i64 t745] 30 (0, 0)) ∧ Bk wc gb751 (.cells #[.bool t748, .int .i64 t749, .int .i64 t750] 30 (0, 0)) ∧ Bl w.heap.size w wc)
    case first =>
      have H := HC5.out
      clear HC5
      replace H := Option.bind_eq_some_iff.mp H
      obtain ⟨⟨t752, t753, t754⟩, A170, H⟩ := H
      try dsimp only at H
      have A17 := Aside0.mk A170
      clear A170
      by_cases c18 : (!(t748 == t752) || (!(t749 == t753) || (!(t750 == t754)))) = true
      · rw [if_pos c18] at H
        have c18b0 : (!(t748 == t752) || (!(t749 == t753) || (!(t750 == t754)))) = true := c18
        clear c18
        (first | rw [c18b0] | (simp only [i64_w, i32_w]; rw [c18b0]) | skip)
        have H' := Aside0.mk H
        clear H
        try go_wp2
        have n0_ : Bk (((w13.setCell ⟨gb751, 0, none⟩ (.bool t748)).setCell ⟨gb751, 1, none⟩ (.int .i64 t749)).setCell ⟨gb751, 2, none⟩ (.int .i64 t750)) gb746 (.cells #[.bool t740, .int .i64 t741, .int .i64 t742] 30 (0, 0)) := ⟨bk⟩
        have n1_ : Bk (((w13.setCell ⟨gb751, 0, none⟩ (.bool t748)).setCell ⟨gb751, 1, none⟩ (.int .i64 t749)).setCell ⟨gb751, 2, none⟩ (.int .i64 t750)) gb747 (.cells #[.bool t743, .int .i64 t744, .int .i64 t745] 30 (0, 0)) := ⟨bk⟩
        have n2_ : Bk (((w13.setCell ⟨gb751, 0, none⟩ (.bool t748)).setCell ⟨gb751, 1, none⟩ (.int .i64 t749)).setCell ⟨gb751, 2, none⟩ (.int .i64 t750)) gb751 (.cells #[.bool t748, .int .i64 t749, .int .i64 t750] 30 (0, 0)) := ⟨bk⟩
        have n3_ : Bl w.heap.size w (((w13.setCell ⟨gb751, 0, none⟩ (.bool t748)).setCell ⟨gb751, 1, none⟩ (.int .i64 t749)).setCell ⟨gb751, 2, none⟩ (.int .i64 t750)) := ⟨bl⟩
        (try clear BK746)
        (try clear BK747)
        (try clear BK751)
        (try clear HB)
        generalize (((w13.setCell ⟨gb751, 0, none⟩ (.bool t748)).setCell ⟨gb751, 1, none⟩ (.int .i64 t749)).setCell ⟨gb751, 2, none⟩ (.int .i64 t750)) = w19 at n0_ n1_ n2_ n3_ ⊢
        have BK746 := n0_
        have BK747 := n1_
        have BK751 := n2_
        have HB := n3_
        clear n0_ n1_ n2_ n3_
        have n0_ := Bk.mk (blk_drew BK746.out)
        have n1_ := Bk.mk (blk_drew BK747.out)
        have n2_ := Bk.mk (blk_drew BK751.out)
        have n3_ := Bl.mk (below_drew1 HB.out)
        clear BK746
        clear BK747
        clear BK751
        clear HB
        have BK746 := n0_
        have BK747 := n1_
        have BK751 := n2_
        have HB := n3_
        clear n0_ n1_ n2_ n3_
        refine start_ (n := 16) (S := fun w' => w'.cell? ⟨gb751, 0, none⟩ = some (.bool t748) ∧ w'.cell? ⟨gb751, 1, none⟩ = some (.int .i64 t749) ∧ w'.cell? ⟨gb751, 2, none⟩ = some (.int .i64 t750) ∧ w'.cell? ⟨gb746, 0, none⟩ = some (.bool t740) ∧ w'.cell? ⟨gb746, 1, none⟩ = some (.int .i64 t741) ∧ w'.cell? ⟨gb746, 2, none⟩ = some (.int .i64 t742) ∧ w'.cell? ⟨gb747, 0, none⟩ = some (.bool t743) ∧ w'.cell? ⟨gb747, 1, none⟩ = some (.int .i64 t744) ∧ w'.cell? ⟨gb747, 2, none⟩ = some (.int .i64 t745)) (ds := []) #[false, false, false, false, false, false, false, false, false, false, false, false, false, false, false, false] (by kernel_rfl) rfl rfl ⟨(blk_cell BK751.out 0).trans rfl, (blk_cell BK751.out 1).trans rfl, (blk_cell BK751.out 2).trans rfl, (blk_cell BK746.out 0).trans rfl, (blk_cell BK746.out 1).trans rfl, (blk_cell BK746.out 2).trans rfl, (blk_cell BK747.out 0).trans rfl, (blk_cell BK747.out 1).trans rfl, (blk_cell BK747.out 2).trans rfl⟩ (fun hHeld => ?_); refine with_tabW laws_FnSpanDo.tab5 laws_FnSpanDo.bits5 (fun HT_ HW_ => ?_)
        generalize w19.drew = w20 at BK746 BK747 BK751 HB hHeld ⊢
        refine pure_ (i := 1) (N := some 26) (v := ?_) (a' := ?_) #[false, true, false, false, false, false, false, false, false, false, false, false, false, false, false, false] rfl rfl (any_of HT_.out (by kernel_rfl)) (fun _ _ _ h => h) (Or.inl ⟨by rfl, ?_⟩) ?_ ?_
        rotate_left
        · intro w'
          go_simp
          with_reducible rfl
        rotate_left
        · simp only [Act.put, List.setIfInBounds_toArray, List.set_cons_zero, List.set_cons_succ, i64_w, i32_w]
          rfl
        refine take_ (i := 0) (N := some 25) (v := ?_) (a' := ?_) #[true, true, false, false, false, false, false, false, false, false, false, false, false, false, false, false] rfl rfl (take_ofW HT_.out HW_.out (by kernel_rfl)) (fun _ _ _ h => h) (Or.inl ⟨by rfl, ?_⟩) hHeld ?_ ?_
        rotate_left
        · rintro w' ⟨s0, s1, s2, s3, s4, s5, s6, s7, s8⟩
          go_simp
          with_reducible rfl
        rotate_left
        · simp only [Act.put, List.setIfInBounds_toArray, List.set_cons_zero, List.set_cons_succ, i64_w, i32_w]
          rfl
        refine take_ (i := 2) (N := some 27) (v := ?_) (a' := ?_) #[true, true, true, false, false, false, false, false, false, false, false, false, false, false, false, false] rfl rfl (take_ofW HT_.out HW_.out (by kernel_rfl)) (fun _ _ _ h => h) (Or.inl ⟨by rfl, ?_⟩) hHeld ?_ ?_
        rotate_left
        · rintro w' ⟨s0, s1, s2, s3, s4, s5, s6, s7, s8⟩
          go_simp
          with_reducible rfl
        rotate_left
        · simp only [Act.put, List.setIfInBounds_toArray, List.set_cons_zero, List.set_cons_succ, i64_w, i32_w]
          rfl
        refine take_ (i := 3) (N := some 28) (v := ?_) (a' := ?_) #[true, true, true, true, false, false, false, false, false, false, false, false, false, false, false, false] rfl rfl (take_ofW HT_.out HW_.out (by kernel_rfl)) (fun _ _ _ h => h) (Or.inl ⟨by rfl, ?_⟩) hHeld ?_ ?_
        rotate_left
        · rintro w' ⟨s0, s1, s2, s3, s4, s5, s6, s7, s8⟩
          go_simp
          with_reducible rfl
        rotate_left
        · simp only [Act.put, List.setIfInBounds_toArray, List.set_cons_zero, List.set_cons_succ, i64_w, i32_w]
          rfl
        refine one_ (i := 4) (N := some 29) #[true, true, true, true, true, false, false, false, false, false, false, false, false, false, false, false] rfl rfl (one_of HT_.out (by kernel_rfl)) (by decide) (fun K hK => ?_)
        refine goes_ Try.func21 (by kernel_rfl) rfl #[.int .i64 t739, .agg #[.bool t740, .int .i64 t741, .int .i64 t742], .agg #[.bool t743, .int .i64 t744, .int .i64 t745]] (by rfl) rfl rfl (by (try simp only [List.map_toArray, List.map_cons, List.map_nil]); first | done | rfl | (simp only [List.length_drop, List.length_take]; rfl)) ?_
        with_reducible refine (spec_SpanDo.calls k t739 t740 t741 t742 t743 t744 t745 t752 t753 t754 _ A17.out).mono ?_
        rintro e w21 ⟨rfl, hb⟩
        refine ⟨_, rfl, ?_⟩
        have n0_ := Bk.mk (blk_below (g := gb746) bk hb)
        have n1_ := Bk.mk (blk_below (g := gb747) bk hb)
        have n2_ := Bk.mk (blk_below (g := gb751) bk hb)
        have n3_ := Bl.mk (below_step bl hb)
        clear BK746
        clear BK747
        clear BK751
        clear HB
        have BK746 := n0_
        have BK747 := n1_
        have BK751 := n2_
        have HB := n3_
        clear n0_ n1_ n2_ n3_
        (try clear hb)
        (try clear hb2)
        (try clear hk)
        (try clear hi)
        refine hK.out _ _ ⟨(blk_cell BK751.out 0).trans rfl, (blk_cell BK751.out 1).trans rfl, (blk_cell BK751.out 2).trans rfl, (blk_cell BK746.out 0).trans rfl, (blk_cell BK746.out 1).trans rfl, (blk_cell BK746.out 2).trans rfl, (blk_cell BK747.out 0).trans rfl, (blk_cell BK747.out 1).trans rfl, (blk_cell BK747.out 2).trans rfl⟩ (fun hHeld => ?_)
        clear hK K
        refine norm_ (a' := ?_) ?_ ?_
        rotate_left
        · show Act.put _ (some 29) _ = _
          simp only [Act.put, List.setIfInBounds_toArray, List.set_cons_zero, List.set_cons_succ, i64_w, i32_w]
          rfl
        refine pure_ (i := 5) (N := some 30) (v := ?_) (a' := ?_) #[true, true, true, true, true, true, false, false, false, false, false, false, false, false, false, false] rfl rfl (any_of HT_.out (by kernel_rfl)) (fun _ _ _ h => h) (Or.inl ⟨by rfl, ?_⟩) ?_ ?_
        rotate_left
        · intro w'
          go_simp
          with_reducible rfl
        rotate_left
        · simp only [Act.put, List.setIfInBounds_toArray, List.set_cons_zero, List.set_cons_succ, i64_w, i32_w]
          rfl
        refine pure_ (i := 6) (N := some 31) (v := ?_) (a' := ?_) #[true, true, true, true, true, true, true, false, false, false, false, false, false, false, false, false] rfl rfl (any_of HT_.out (by kernel_rfl)) (fun _ _ _ h => h) (Or.inl ⟨by rfl, ?_⟩) ?_ ?_
        rotate_left
        · intro w'
          go_simp
          with_reducible rfl
        rotate_left
        · simp only [Act.put, List.setIfInBounds_toArray, List.set_cons_zero, List.set_cons_succ, i64_w, i32_w]
          rfl
        refine pure_ (i := 7) (N := some 32) (v := undef) (a' := ?_) #[true, true, true, true, true, true, true, true, false, false, false, false, false, false, false, false] rfl rfl (any_of HT_.out (by kernel_rfl)) (fun _ _ _ h => h) (Or.inr ⟨by rfl, rfl⟩) ?_ ?_
        rotate_left
        · simp only [Act.put, List.setIfInBounds_toArray, List.set_cons_zero, List.set_cons_succ, i64_w, i32_w]
          rfl
        refine pure_ (i := 8) (N := some 33) (v := undef) (a' := ?_) #[true, true, true, true, true, true, true, true, true, false, false, false, false, false, false, false] rfl rfl (any_of HT_.out (by kernel_rfl)) (fun _ _ _ h => h) (Or.inr ⟨by rfl, rfl⟩) ?_ ?_
        rotate_left
        · simp only [Act.put, List.setIfInBounds_toArray, List.set_cons_zero, List.set_cons_succ, i64_w, i32_w]
          rfl
        refine pure_ (i := 9) (N := some 34) (v := undef) (a' := ?_) #[true, true, true, true, true, true, true, true, true, true, false, false, false, false, false, false] rfl rfl (any_of HT_.out (by kernel_rfl)) (fun _ _ _ h => h) (Or.inr ⟨by rfl, rfl⟩) ?_ ?_
        rotate_left
        · simp only [Act.put, List.setIfInBounds_toArray, List.set_cons_zero, List.set_cons_succ, i64_w, i32_w]
          rfl
        refine pure_ (i := 10) (N := some 35) (v := ?_) (a' := ?_) #[true, true, true, true, true, true, true, true, true, true, true, false, false, false, false, false] rfl rfl (any_of HT_.out (by kernel_rfl)) (fun _ _ _ h => h) (Or.inl ⟨by rfl, ?_⟩) ?_ ?_
        rotate_left
        · intro w'
          go_simp
          with_reducible rfl
        rotate_left
        · simp only [Act.put, List.setIfInBounds_toArray, List.set_cons_zero, List.set_cons_succ, i64_w, i32_w]
          rfl
        refine pure_ (i := 11) (N := some 36) (v := ?_) (a' := ?_) #[true, true, true, true, true, true, true, true, true, true, true, true, false, false, false, false] rfl rfl (any_of HT_.out (by kernel_rfl)) (fun _ _ _ h => h) (Or.inl ⟨by rfl, ?_⟩) ?_ ?_
        rotate_left
        · intro w'
          go_simp
          with_reducible rfl
        rotate_left
        · simp only [Act.put, List.setIfInBounds_toArray, List.set_cons_zero, List.set_cons_succ, i64_w, i32_w]
          rfl
        refine pure_ (i := 12) (N := some 37) (v := undef) (a' := ?_) #[true, true, true, true, true, true, true, true, true, true, true, true, true, false, false, false] rfl rfl (any_of HT_.out (by kernel_rfl)) (fun _ _ _ h => h) (Or.inr ⟨by rfl, rfl⟩) ?_ ?_
        rotate_left
        · simp only [Act.put, List.setIfInBounds_toArray, List.set_cons_zero, List.set_cons_succ, i64_w, i32_w]
          rfl
        refine pure_ (i := 13) (N := some 38) (v := undef) (a' := ?_) #[true, true, true, true, true, true, true, true, true, true, true, true, true, true, false, false] rfl rfl (any_of HT_.out (by kernel_rfl)) (fun _ _ _ h => h) (Or.inr ⟨by rfl, rfl⟩) ?_ ?_
        rotate_left
        · simp only [Act.put, List.setIfInBounds_toArray, List.set_cons_zero, List.set_cons_succ, i64_w, i32_w]
          rfl
        refine pure_ (i := 14) (N := some 39) (v := undef) (a' := ?_) #[true, true, true, true, true, true, true, true, true, true, true, true, true, true, true, false] rfl rfl (any_of HT_.out (by kernel_rfl)) (fun _ _ _ h => h) (Or.inr ⟨by rfl, rfl⟩) ?_ ?_
        rotate_left
        · simp only [Act.put, List.setIfInBounds_toArray, List.set_cons_zero, List.set_cons_succ, i64_w, i32_w]
          rfl
        refine pure_ (i := 15) (N := some 40) (v := ?_) (a' := ?_) #[true, true, true, true, true, true, true, true, true, true, true, true, true, true, true, true] rfl rfl (any_of HT_.out (by kernel_rfl)) (fun _ _ _ h => h) (Or.inl ⟨by rfl, ?_⟩) ?_ ?_
        rotate_left
        · intro w'
          go_simp
          with_reducible rfl
        rotate_left
        · simp only [Act.put, List.setIfInBounds_toArray, List.set_cons_zero, List.set_cons_succ, i64_w, i32_w]
          rfl
        refine done_ (done_of HT_.out (by kernel_rfl)) ?_
        try go_wp2
        go_meet
        case rel => exact ⟨_, (true), (by first | rfl | (simp; done) | (simp [*]; done)), H', ⟨by first | omega | exact Nat.le_refl _⟩, ⟨bk⟩, ⟨bk⟩, ⟨bk⟩, ⟨bl⟩⟩
      · rw [if_neg c18] at H
        have c18b0 : (!(t748 == t752) || (!(t749 == t753) || (!(t750 == t754)))) = false := by simpa using c18
        clear c18
        (first | rw [c18b0] | (simp only [i64_w, i32_w]; rw [c18b0]) | skip)
        replace H := Option.bind_eq_some_iff.mp H
        obtain ⟨t755, A220, H⟩ := H
        try dsimp only at H
        have A22 := Aside0.mk A220
        clear A220
        by_cases c23 : t755 = true
        · subst c23
          rw [if_pos rfl] at H
          replace H := Option.bind_eq_some_iff.mp H
          obtain ⟨t756, A240, H⟩ := H
          try dsimp only at H
          have A24 := Aside0.mk A240
          clear A240
          have H' := Aside0.mk H
          clear H
          try go_wp2
          have n0_ : Bk (((w13.setCell ⟨gb751, 0, none⟩ (.bool t748)).setCell ⟨gb751, 1, none⟩ (.int .i64 t749)).setCell ⟨gb751, 2, none⟩ (.int .i64 t750)) gb746 (.cells #[.bool t740, .int .i64 t741, .int .i64 t742] 30 (0, 0)) := ⟨bk⟩
          have n1_ : Bk (((w13.setCell ⟨gb751, 0, none⟩ (.bool t748)).setCell ⟨gb751, 1, none⟩ (.int .i64 t749)).setCell ⟨gb751, 2, none⟩ (.int .i64 t750)) gb747 (.cells #[.bool t743, .int .i64 t744, .int .i64 t745] 30 (0, 0)) := ⟨bk⟩
          have n2_ : Bk (((w13.setCell ⟨gb751, 0, none⟩ (.bool t748)).setCell ⟨gb751, 1, none⟩ (.int .i64 t749)).setCell ⟨gb751, 2, none⟩ (.int .i64 t750)) gb751 (.cells #[.bool t748, .int .i64 t749, .int .i64 t750] 30 (0, 0)) := ⟨bk⟩
          have n3_ : Bl w.heap.size w (((w13.setCell ⟨gb751, 0, none⟩ (.bool t748)).setCell ⟨gb751, 1, none⟩ (.int .i64 t749)).setCell ⟨gb751, 2, none⟩ (.int .i64 t750)) := ⟨bl⟩
          (try clear BK746)
          (try clear BK747)
          (try clear BK751)
          (try clear HB)
          generalize (((w13.setCell ⟨gb751, 0, none⟩ (.bool t748)).setCell ⟨gb751, 1, none⟩ (.int .i64 t749)).setCell ⟨gb751, 2, none⟩ (.int .i64 t750)) = w25 at n0_ n1_ n2_ n3_ ⊢
          have BK746 := n0_
          have BK747 := n1_
          have BK751 := n2_
          have HB := n3_
          clear n0_ n1_ n2_ n3_
          have n0_ := Bk.mk (blk_drew BK746.out)
          have n1_ := Bk.mk (blk_drew BK747.out)
          have n2_ := Bk.mk (blk_drew BK751.out)
          have n3_ := Bl.mk (below_drew1 HB.out)
          clear BK746
          clear BK747
          clear BK751
          clear HB
          have BK746 := n0_
          have BK747 := n1_
          have BK751 := n2_
          have HB := n3_
          clear n0_ n1_ n2_ n3_
          refine start_ (n := 16) (S := fun w' => w'.cell? ⟨gb751, 0, none⟩ = some (.bool t748) ∧ w'.cell? ⟨gb751, 1, none⟩ = some (.int .i64 t749) ∧ w'.cell? ⟨gb751, 2, none⟩ = some (.int .i64 t750) ∧ w'.cell? ⟨gb746, 0, none⟩ = some (.bool t740) ∧ w'.cell? ⟨gb746, 1, none⟩ = some (.int .i64 t741) ∧ w'.cell? ⟨gb746, 2, none⟩ = some (.int .i64 t742) ∧ w'.cell? ⟨gb747, 0, none⟩ = some (.bool t743) ∧ w'.cell? ⟨gb747, 1, none⟩ = some (.int .i64 t744) ∧ w'.cell? ⟨gb747, 2, none⟩ = some (.int .i64 t745)) (ds := []) #[false, false, false, false, false, false, false, false, false, false, false, false, false, false, false, false] (by kernel_rfl) rfl rfl ⟨(blk_cell BK751.out 0).trans rfl, (blk_cell BK751.out 1).trans rfl, (blk_cell BK751.out 2).trans rfl, (blk_cell BK746.out 0).trans rfl, (blk_cell BK746.out 1).trans rfl, (blk_cell BK746.out 2).trans rfl, (blk_cell BK747.out 0).trans rfl, (blk_cell BK747.out 1).trans rfl, (blk_cell BK747.out 2).trans rfl⟩ (fun hHeld => ?_); refine with_tabW laws_FnSpanDo.tab5 laws_FnSpanDo.bits5 (fun HT_ HW_ => ?_)
          generalize w25.drew = w26 at BK746 BK747 BK751 HB hHeld ⊢
          refine pure_ (i := 1) (N := some 26) (v := ?_) (a' := ?_) #[false, true, false, false, false, false, false, false, false, false, false, false, false, false, false, false] rfl rfl (any_of HT_.out (by kernel_rfl)) (fun _ _ _ h => h) (Or.inl ⟨by rfl, ?_⟩) ?_ ?_
          rotate_left
          · intro w'
            go_simp
            with_reducible rfl
          rotate_left
          · simp only [Act.put, List.setIfInBounds_toArray, List.set_cons_zero, List.set_cons_succ, i64_w, i32_w]
            rfl
          refine take_ (i := 0) (N := some 25) (v := ?_) (a' := ?_) #[true, true, false, false, false, false, false, false, false, false, false, false, false, false, false, false] rfl rfl (take_ofW HT_.out HW_.out (by kernel_rfl)) (fun _ _ _ h => h) (Or.inl ⟨by rfl, ?_⟩) hHeld ?_ ?_
          rotate_left
          · rintro w' ⟨s0, s1, s2, s3, s4, s5, s6, s7, s8⟩
            go_simp
            with_reducible rfl
          rotate_left
          · simp only [Act.put, List.setIfInBounds_toArray, List.set_cons_zero, List.set_cons_succ, i64_w, i32_w]
            rfl
          refine take_ (i := 2) (N := some 27) (v := ?_) (a' := ?_) #[true, true, true, false, false, false, false, false, false, false, false, false, false, false, false, false] rfl rfl (take_ofW HT_.out HW_.out (by kernel_rfl)) (fun _ _ _ h => h) (Or.inl ⟨by rfl, ?_⟩) hHeld ?_ ?_
          rotate_left
          · rintro w' ⟨s0, s1, s2, s3, s4, s5, s6, s7, s8⟩
            go_simp
            with_reducible rfl
          rotate_left
          · simp only [Act.put, List.setIfInBounds_toArray, List.set_cons_zero, List.set_cons_succ, i64_w, i32_w]
            rfl
          refine take_ (i := 3) (N := some 28) (v := ?_) (a' := ?_) #[true, true, true, true, false, false, false, false, false, false, false, false, false, false, false, false] rfl rfl (take_ofW HT_.out HW_.out (by kernel_rfl)) (fun _ _ _ h => h) (Or.inl ⟨by rfl, ?_⟩) hHeld ?_ ?_
          rotate_left
          · rintro w' ⟨s0, s1, s2, s3, s4, s5, s6, s7, s8⟩
            go_simp
            with_reducible rfl
          rotate_left
          · simp only [Act.put, List.setIfInBounds_toArray, List.set_cons_zero, List.set_cons_succ, i64_w, i32_w]
            rfl
          refine one_ (i := 4) (N := some 29) #[true, true, true, true, true, false, false, false, false, false, false, false, false, false, false, false] rfl rfl (one_of HT_.out (by kernel_rfl)) (by decide) (fun K hK => ?_)
          refine goes_ Try.func21 (by kernel_rfl) rfl #[.int .i64 t739, .agg #[.bool t740, .int .i64 t741, .int .i64 t742], .agg #[.bool t743, .int .i64 t744, .int .i64 t745]] (by rfl) rfl rfl (by (try simp only [List.map_toArray, List.map_cons, List.map_nil]); first | done | rfl | (simp only [List.length_drop, List.length_take]; rfl)) ?_
          with_reducible refine (spec_SpanDo.calls k t739 t740 t741 t742 t743 t744 t745 t752 t753 t754 _ A17.out).mono ?_
          rintro e w27 ⟨rfl, hb⟩
          refine ⟨_, rfl, ?_⟩
          have n0_ := Bk.mk (blk_below (g := gb746) bk hb)
          have n1_ := Bk.mk (blk_below (g := gb747) bk hb)
          have n2_ := Bk.mk (blk_below (g := gb751) bk hb)
          have n3_ := Bl.mk (below_step bl hb)
          clear BK746
          clear BK747
          clear BK751
          clear HB
          have BK746 := n0_
          have BK747 := n1_
          have BK751 := n2_
          have HB := n3_
          clear n0_ n1_ n2_ n3_
          (try clear hb)
          (try clear hb2)
          (try clear hk)
          (try clear hi)
          refine hK.out _ _ ⟨(blk_cell BK751.out 0).trans rfl, (blk_cell BK751.out 1).trans rfl, (blk_cell BK751.out 2).trans rfl, (blk_cell BK746.out 0).trans rfl, (blk_cell BK746.out 1).trans rfl, (blk_cell BK746.out 2).trans rfl, (blk_cell BK747.out 0).trans rfl, (blk_cell BK747.out 1).trans rfl, (blk_cell BK747.out 2).trans rfl⟩ (fun hHeld => ?_)
          clear hK K
          refine norm_ (a' := ?_) ?_ ?_
          rotate_left
          · show Act.put _ (some 29) _ = _
            simp only [Act.put, List.setIfInBounds_toArray, List.set_cons_zero, List.set_cons_succ, i64_w, i32_w]
            rfl
          refine pure_ (i := 5) (N := some 30) (v := ?_) (a' := ?_) #[true, true, true, true, true, true, false, false, false, false, false, false, false, false, false, false] rfl rfl (any_of HT_.out (by kernel_rfl)) (fun _ _ _ h => h) (Or.inl ⟨by rfl, ?_⟩) ?_ ?_
          rotate_left
          · intro w'
            go_simp
            with_reducible rfl
          rotate_left
          · simp only [Act.put, List.setIfInBounds_toArray, List.set_cons_zero, List.set_cons_succ, i64_w, i32_w]
            rfl
          refine pure_ (i := 6) (N := some 31) (v := ?_) (a' := ?_) #[true, true, true, true, true, true, true, false, false, false, false, false, false, false, false, false] rfl rfl (any_of HT_.out (by kernel_rfl)) (fun _ _ _ h => h) (Or.inl ⟨by rfl, ?_⟩) ?_ ?_
          rotate_left
          · intro w'
            go_simp
            with_reducible rfl
          rotate_left
          · simp only [Act.put, List.setIfInBounds_toArray, List.set_cons_zero, List.set_cons_succ, i64_w, i32_w]
            rfl
          refine take_ (i := 7) (N := some 32) (v := ?_) (a' := ?_) #[true, true, true, true, true, true, true, true, false, false, false, false, false, false, false, false] rfl rfl (take_ofW HT_.out HW_.out (by kernel_rfl)) (fun _ _ _ h => h) (Or.inl ⟨by rfl, ?_⟩) hHeld ?_ ?_
          rotate_left
          · rintro w' ⟨s0, s1, s2, s3, s4, s5, s6, s7, s8⟩
            go_simp
            with_reducible rfl
          rotate_left
          · simp only [Act.put, List.setIfInBounds_toArray, List.set_cons_zero, List.set_cons_succ, i64_w, i32_w]
            rfl
          refine one_ (i := 8) (N := some 33) #[true, true, true, true, true, true, true, true, true, false, false, false, false, false, false, false] rfl rfl (one_of HT_.out (by kernel_rfl)) (by decide) (fun K hK => ?_)
          refine goes_ Try.func15 (by kernel_rfl) rfl #[.agg #[.bool t740, .int .i64 t741, .int .i64 t742]] (by rfl) rfl rfl (by (try simp only [List.map_toArray, List.map_cons, List.map_nil]); first | done | rfl | (simp only [List.length_drop, List.length_take]; rfl)) ?_
          with_reducible refine (spec_SpanOk.calls t740 t741 t742 true _ A22.out).mono ?_
          rintro e w28 ⟨rfl, hb⟩
          refine ⟨_, rfl, ?_⟩
          have n0_ := Bk.mk (blk_below (g := gb746) bk hb)
          have n1_ := Bk.mk (blk_below (g := gb747) bk hb)
          have n2_ := Bk.mk (blk_below (g := gb751) bk hb)
          have n3_ := Bl.mk (below_step bl hb)
          clear BK746
          clear BK747
          clear BK751
          clear HB
          have BK746 := n0_
          have BK747 := n1_
          have BK751 := n2_
          have HB := n3_
          clear n0_ n1_ n2_ n3_
          (try clear hb)
          (try clear hb2)
          (try clear hk)
          (try clear hi)
          refine hK.out _ _ ⟨(blk_cell BK751.out 0).trans rfl, (blk_cell BK751.out 1).trans rfl, (blk_cell BK751.out 2).trans rfl, (blk_cell BK746.out 0).trans rfl, (blk_cell BK746.out 1).trans rfl, (blk_cell BK746.out 2).trans rfl, (blk_cell BK747.out 0).trans rfl, (blk_cell BK747.out 1).trans rfl, (blk_cell BK747.out 2).trans rfl⟩ (fun hHeld => ?_)
          clear hK K
          refine norm_ (a' := ?_) ?_ ?_
          rotate_left
          · show Act.put _ (some 33) _ = _
            simp only [Act.put, List.setIfInBounds_toArray, List.set_cons_zero, List.set_cons_succ, i64_w, i32_w]
            rfl
          refine pure_ (i := 9) (N := some 34) (v := ?_) (a' := ?_) #[true, true, true, true, true, true, true, true, true, true, false, false, false, false, false, false] rfl rfl (any_of HT_.out (by kernel_rfl)) (fun _ _ _ h => h) (Or.inl ⟨by rfl, ?_⟩) ?_ ?_
          rotate_left
          · intro w'
            go_simp
            with_reducible rfl
          rotate_left
          · simp only [Act.put, List.setIfInBounds_toArray, List.set_cons_zero, List.set_cons_succ, i64_w, i32_w]
            rfl
          refine pure_ (i := 10) (N := some 35) (v := ?_) (a' := ?_) #[true, true, true, true, true, true, true, true, true, true, true, false, false, false, false, false] rfl rfl (any_of HT_.out (by kernel_rfl)) (fun _ _ _ h => h) (Or.inl ⟨by rfl, ?_⟩) ?_ ?_
          rotate_left
          · intro w'
            go_simp
            with_reducible rfl
          rotate_left
          · simp only [Act.put, List.setIfInBounds_toArray, List.set_cons_zero, List.set_cons_succ, i64_w, i32_w]
            rfl
          refine pure_ (i := 11) (N := some 36) (v := ?_) (a' := ?_) #[true, true, true, true, true, true, true, true, true, true, true, true, false, false, false, false] rfl rfl (any_of HT_.out (by kernel_rfl)) (fun _ _ _ h => h) (Or.inl ⟨by rfl, ?_⟩) ?_ ?_
          rotate_left
          · intro w'
            go_simp
            with_reducible rfl
          rotate_left
          · simp only [Act.put, List.setIfInBounds_toArray, List.set_cons_zero, List.set_cons_succ, i64_w, i32_w]
            rfl
          refine take_ (i := 12) (N := some 37) (v := ?_) (a' := ?_) #[true, true, true, true, true, true, true, true, true, true, true, true, true, false, false, false] rfl rfl (take_ofW HT_.out HW_.out (by kernel_rfl)) (fun _ _ _ h => h) (Or.inl ⟨by rfl, ?_⟩) hHeld ?_ ?_
          rotate_left
          · rintro w' ⟨s0, s1, s2, s3, s4, s5, s6, s7, s8⟩
            go_simp
            with_reducible rfl
          rotate_left
          · simp only [Act.put, List.setIfInBounds_toArray, List.set_cons_zero, List.set_cons_succ, i64_w, i32_w]
            rfl
          refine one_ (i := 13) (N := some 38) #[true, true, true, true, true, true, true, true, true, true, true, true, true, true, false, false] rfl rfl (one_of HT_.out (by kernel_rfl)) (by decide) (fun K hK => ?_)
          refine goes_ Try.func15 (by kernel_rfl) rfl #[.agg #[.bool t743, .int .i64 t744, .int .i64 t745]] (by rfl) rfl rfl (by (try simp only [List.map_toArray, List.map_cons, List.map_nil]); first | done | rfl | (simp only [List.length_drop, List.length_take]; rfl)) ?_
          with_reducible refine (spec_SpanOk.calls t743 t744 t745 t756 _ A24.out).mono ?_
          rintro e w29 ⟨rfl, hb⟩
          refine ⟨_, rfl, ?_⟩
          have n0_ := Bk.mk (blk_below (g := gb746) bk hb)
          have n1_ := Bk.mk (blk_below (g := gb747) bk hb)
          have n2_ := Bk.mk (blk_below (g := gb751) bk hb)
          have n3_ := Bl.mk (below_step bl hb)
          clear BK746
          clear BK747
          clear BK751
          clear HB
          have BK746 := n0_
          have BK747 := n1_
          have BK751 := n2_
          have HB := n3_
          clear n0_ n1_ n2_ n3_
          (try clear hb)
          (try clear hb2)
          (try clear hk)
          (try clear hi)
          refine hK.out _ _ ⟨(blk_cell BK751.out 0).trans rfl, (blk_cell BK751.out 1).trans rfl, (blk_cell BK751.out 2).trans rfl, (blk_cell BK746.out 0).trans rfl, (blk_cell BK746.out 1).trans rfl, (blk_cell BK746.out 2).trans rfl, (blk_cell BK747.out 0).trans rfl, (blk_cell BK747.out 1).trans rfl, (blk_cell BK747.out 2).trans rfl⟩ (fun hHeld => ?_)
          clear hK K
          refine norm_ (a' := ?_) ?_ ?_
          rotate_left
          · show Act.put _ (some 38) _ = _
            simp only [Act.put, List.setIfInBounds_toArray, List.set_cons_zero, List.set_cons_succ, i64_w, i32_w]
            rfl
          refine pure_ (i := 14) (N := some 39) (v := ?_) (a' := ?_) #[true, true, true, true, true, true, true, true, true, true, true, true, true, true, true, false] rfl rfl (any_of HT_.out (by kernel_rfl)) (fun _ _ _ h => h) (Or.inl ⟨by rfl, ?_⟩) ?_ ?_
          rotate_left
          · intro w'
            go_simp
            with_reducible rfl
          rotate_left
          · simp only [Act.put, List.setIfInBounds_toArray, List.set_cons_zero, List.set_cons_succ, i64_w, i32_w]
            rfl
          refine pure_ (i := 15) (N := some 40) (v := ?_) (a' := ?_) #[true, true, true, true, true, true, true, true, true, true, true, true, true, true, true, true] rfl rfl (any_of HT_.out (by kernel_rfl)) (fun _ _ _ h => h) (Or.inl ⟨by rfl, ?_⟩) ?_ ?_
          rotate_left
          · intro w'
            go_simp
            with_reducible rfl
          rotate_left
          · simp only [Act.put, List.setIfInBounds_toArray, List.set_cons_zero, List.set_cons_succ, i64_w, i32_w]
            rfl
          refine done_ (done_of HT_.out (by kernel_rfl)) ?_
          try go_wp2
          go_meet
          case rel => exact ⟨_, (!t756), (by first | rfl | (simp; done) | (simp [*]; done)), H', ⟨by first | omega | exact Nat.le_refl _⟩, ⟨bk⟩, ⟨bk⟩, ⟨bk⟩, ⟨bl⟩⟩
        · replace c23 := Bool.eq_false_iff.mpr c23
          subst c23
          rw [if_neg (show ¬ (false = true) by decide)] at H
          have H' := Aside0.mk H
          clear H
          try go_wp2
          have n0_ : Bk (((w13.setCell ⟨gb751, 0, none⟩ (.bool t748)).setCell ⟨gb751, 1, none⟩ (.int .i64 t749)).setCell ⟨gb751, 2, none⟩ (.int .i64 t750)) gb746 (.cells #[.bool t740, .int .i64 t741, .int .i64 t742] 30 (0, 0)) := ⟨bk⟩
          have n1_ : Bk (((w13.setCell ⟨gb751, 0, none⟩ (.bool t748)).setCell ⟨gb751, 1, none⟩ (.int .i64 t749)).setCell ⟨gb751, 2, none⟩ (.int .i64 t750)) gb747 (.cells #[.bool t743, .int .i64 t744, .int .i64 t745] 30 (0, 0)) := ⟨bk⟩
          have n2_ : Bk (((w13.setCell ⟨gb751, 0, none⟩ (.bool t748)).setCell ⟨gb751, 1, none⟩ (.int .i64 t749)).setCell ⟨gb751, 2, none⟩ (.int .i64 t750)) gb751 (.cells #[.bool t748, .int .i64 t749, .int .i64 t750] 30 (0, 0)) := ⟨bk⟩
          have n3_ : Bl w.heap.size w (((w13.setCell ⟨gb751, 0, none⟩ (.bool t748)).setCell ⟨gb751, 1, none⟩ (.int .i64 t749)).setCell ⟨gb751, 2, none⟩ (.int .i64 t750)) := ⟨bl⟩
          (try clear BK746)
          (try clear BK747)
          (try clear BK751)
          (try clear HB)
          generalize (((w13.setCell ⟨gb751, 0, none⟩ (.bool t748)).setCell ⟨gb751, 1, none⟩ (.int .i64 t749)).setCell ⟨gb751, 2, none⟩ (.int .i64 t750)) = w30 at n0_ n1_ n2_ n3_ ⊢
          have BK746 := n0_
          have BK747 := n1_
          have BK751 := n2_
          have HB := n3_
          clear n0_ n1_ n2_ n3_
          have n0_ := Bk.mk (blk_drew BK746.out)
          have n1_ := Bk.mk (blk_drew BK747.out)
          have n2_ := Bk.mk (blk_drew BK751.out)
          have n3_ := Bl.mk (below_drew1 HB.out)
          clear BK746
          clear BK747
          clear BK751
          clear HB
          have BK746 := n0_
          have BK747 := n1_
          have BK751 := n2_
          have HB := n3_
          clear n0_ n1_ n2_ n3_
          refine start_ (n := 16) (S := fun w' => w'.cell? ⟨gb751, 0, none⟩ = some (.bool t748) ∧ w'.cell? ⟨gb751, 1, none⟩ = some (.int .i64 t749) ∧ w'.cell? ⟨gb751, 2, none⟩ = some (.int .i64 t750) ∧ w'.cell? ⟨gb746, 0, none⟩ = some (.bool t740) ∧ w'.cell? ⟨gb746, 1, none⟩ = some (.int .i64 t741) ∧ w'.cell? ⟨gb746, 2, none⟩ = some (.int .i64 t742) ∧ w'.cell? ⟨gb747, 0, none⟩ = some (.bool t743) ∧ w'.cell? ⟨gb747, 1, none⟩ = some (.int .i64 t744) ∧ w'.cell? ⟨gb747, 2, none⟩ = some (.int .i64 t745)) (ds := []) #[false, false, false, false, false, false, false, false, false, false, false, false, false, false, false, false] (by kernel_rfl) rfl rfl ⟨(blk_cell BK751.out 0).trans rfl, (blk_cell BK751.out 1).trans rfl, (blk_cell BK751.out 2).trans rfl, (blk_cell BK746.out 0).trans rfl, (blk_cell BK746.out 1).trans rfl, (blk_cell BK746.out 2).trans rfl, (blk_cell BK747.out 0).trans rfl, (blk_cell BK747.out 1).trans rfl, (blk_cell BK747.out 2).trans rfl⟩ (fun hHeld => ?_); refine with_tabW laws_FnSpanDo.tab5 laws_FnSpanDo.bits5 (fun HT_ HW_ => ?_)
          generalize w30.drew = w31 at BK746 BK747 BK751 HB hHeld ⊢
          refine pure_ (i := 1) (N := some 26) (v := ?_) (a' := ?_) #[false, true, false, false, false, false, false, false, false, false, false, false, false, false, false, false] rfl rfl (any_of HT_.out (by kernel_rfl)) (fun _ _ _ h => h) (Or.inl ⟨by rfl, ?_⟩) ?_ ?_
          rotate_left
          · intro w'
            go_simp
            with_reducible rfl
          rotate_left
          · simp only [Act.put, List.setIfInBounds_toArray, List.set_cons_zero, List.set_cons_succ, i64_w, i32_w]
            rfl
          refine take_ (i := 0) (N := some 25) (v := ?_) (a' := ?_) #[true, true, false, false, false, false, false, false, false, false, false, false, false, false, false, false] rfl rfl (take_ofW HT_.out HW_.out (by kernel_rfl)) (fun _ _ _ h => h) (Or.inl ⟨by rfl, ?_⟩) hHeld ?_ ?_
          rotate_left
          · rintro w' ⟨s0, s1, s2, s3, s4, s5, s6, s7, s8⟩
            go_simp
            with_reducible rfl
          rotate_left
          · simp only [Act.put, List.setIfInBounds_toArray, List.set_cons_zero, List.set_cons_succ, i64_w, i32_w]
            rfl
          refine take_ (i := 2) (N := some 27) (v := ?_) (a' := ?_) #[true, true, true, false, false, false, false, false, false, false, false, false, false, false, false, false] rfl rfl (take_ofW HT_.out HW_.out (by kernel_rfl)) (fun _ _ _ h => h) (Or.inl ⟨by rfl, ?_⟩) hHeld ?_ ?_
          rotate_left
          · rintro w' ⟨s0, s1, s2, s3, s4, s5, s6, s7, s8⟩
            go_simp
            with_reducible rfl
          rotate_left
          · simp only [Act.put, List.setIfInBounds_toArray, List.set_cons_zero, List.set_cons_succ, i64_w, i32_w]
            rfl
          refine take_ (i := 3) (N := some 28) (v := ?_) (a' := ?_) #[true, true, true, true, false, false, false, false, false, false, false, false, false, false, false, false] rfl rfl (take_ofW HT_.out HW_.out (by kernel_rfl)) (fun _ _ _ h => h) (Or.inl ⟨by rfl, ?_⟩) hHeld ?_ ?_
          rotate_left
          · rintro w' ⟨s0, s1, s2, s3, s4, s5, s6, s7, s8⟩
            go_simp
            with_reducible rfl
          rotate_left
          · simp only [Act.put, List.setIfInBounds_toArray, List.set_cons_zero, List.set_cons_succ, i64_w, i32_w]
            rfl
          refine one_ (i := 4) (N := some 29) #[true, true, true, true, true, false, false, false, false, false, false, false, false, false, false, false] rfl rfl (one_of HT_.out (by kernel_rfl)) (by decide) (fun K hK => ?_)
          refine goes_ Try.func21 (by kernel_rfl) rfl #[.int .i64 t739, .agg #[.bool t740, .int .i64 t741, .int .i64 t742], .agg #[.bool t743, .int .i64 t744, .int .i64 t745]] (by rfl) rfl rfl (by (try simp only [List.map_toArray, List.map_cons, List.map_nil]); first | done | rfl | (simp only [List.length_drop, List.length_take]; rfl)) ?_
          with_reducible refine (spec_SpanDo.calls k t739 t740 t741 t742 t743 t744 t745 t752 t753 t754 _ A17.out).mono ?_
          rintro e w32 ⟨rfl, hb⟩
          refine ⟨_, rfl, ?_⟩
          have n0_ := Bk.mk (blk_below (g := gb746) bk hb)
          have n1_ := Bk.mk (blk_below (g := gb747) bk hb)
          have n2_ := Bk.mk (blk_below (g := gb751) bk hb)
          have n3_ := Bl.mk (below_step bl hb)
          clear BK746
          clear BK747
          clear BK751
          clear HB
          have BK746 := n0_
          have BK747 := n1_
          have BK751 := n2_
          have HB := n3_
          clear n0_ n1_ n2_ n3_
          (try clear hb)
          (try clear hb2)
          (try clear hk)
          (try clear hi)
          refine hK.out _ _ ⟨(blk_cell BK751.out 0).trans rfl, (blk_cell BK751.out 1).trans rfl, (blk_cell BK751.out 2).trans rfl, (blk_cell BK746.out 0).trans rfl, (blk_cell BK746.out 1).trans rfl, (blk_cell BK746.out 2).trans rfl, (blk_cell BK747.out 0).trans rfl, (blk_cell BK747.out 1).trans rfl, (blk_cell BK747.out 2).trans rfl⟩ (fun hHeld => ?_)
          clear hK K
          refine norm_ (a' := ?_) ?_ ?_
          rotate_left
          · show Act.put _ (some 29) _ = _
            simp only [Act.put, List.setIfInBounds_toArray, List.set_cons_zero, List.set_cons_succ, i64_w, i32_w]
            rfl
          refine pure_ (i := 5) (N := some 30) (v := ?_) (a' := ?_) #[true, true, true, true, true, true, false, false, false, false, false, false, false, false, false, false] rfl rfl (any_of HT_.out (by kernel_rfl)) (fun _ _ _ h => h) (Or.inl ⟨by rfl, ?_⟩) ?_ ?_
          rotate_left
          · intro w'
            go_simp
            with_reducible rfl
          rotate_left
          · simp only [Act.put, List.setIfInBounds_toArray, List.set_cons_zero, List.set_cons_succ, i64_w, i32_w]
            rfl
          refine pure_ (i := 6) (N := some 31) (v := ?_) (a' := ?_) #[true, true, true, true, true, true, true, false, false, false, false, false, false, false, false, false] rfl rfl (any_of HT_.out (by kernel_rfl)) (fun _ _ _ h => h) (Or.inl ⟨by rfl, ?_⟩) ?_ ?_
          rotate_left
          · intro w'
            go_simp
            with_reducible rfl
          rotate_left
          · simp only [Act.put, List.setIfInBounds_toArray, List.set_cons_zero, List.set_cons_succ, i64_w, i32_w]
            rfl
          refine take_ (i := 7) (N := some 32) (v := ?_) (a' := ?_) #[true, true, true, true, true, true, true, true, false, false, false, false, false, false, false, false] rfl rfl (take_ofW HT_.out HW_.out (by kernel_rfl)) (fun _ _ _ h => h) (Or.inl ⟨by rfl, ?_⟩) hHeld ?_ ?_
          rotate_left
          · rintro w' ⟨s0, s1, s2, s3, s4, s5, s6, s7, s8⟩
            go_simp
            with_reducible rfl
          rotate_left
          · simp only [Act.put, List.setIfInBounds_toArray, List.set_cons_zero, List.set_cons_succ, i64_w, i32_w]
            rfl
          refine one_ (i := 8) (N := some 33) #[true, true, true, true, true, true, true, true, true, false, false, false, false, false, false, false] rfl rfl (one_of HT_.out (by kernel_rfl)) (by decide) (fun K hK => ?_)
          refine goes_ Try.func15 (by kernel_rfl) rfl #[.agg #[.bool t740, .int .i64 t741, .int .i64 t742]] (by rfl) rfl rfl (by (try simp only [List.map_toArray, List.map_cons, List.map_nil]); first | done | rfl | (simp only [List.length_drop, List.length_take]; rfl)) ?_
          with_reducible refine (spec_SpanOk.calls t740 t741 t742 false _ A22.out).mono ?_
          rintro e w33 ⟨rfl, hb⟩
          refine ⟨_, rfl, ?_⟩
          have n0_ := Bk.mk (blk_below (g := gb746) bk hb)
          have n1_ := Bk.mk (blk_below (g := gb747) bk hb)
          have n2_ := Bk.mk (blk_below (g := gb751) bk hb)
          have n3_ := Bl.mk (below_step bl hb)
          clear BK746
          clear BK747
          clear BK751
          clear HB
          have BK746 := n0_
          have BK747 := n1_
          have BK751 := n2_
          have HB := n3_
          clear n0_ n1_ n2_ n3_
          (try clear hb)
          (try clear hb2)
          (try clear hk)
          (try clear hi)
          refine hK.out _ _ ⟨(blk_cell BK751.out 0).trans rfl, (blk_cell BK751.out 1).trans rfl, (blk_cell BK751.out 2).trans rfl, (blk_cell BK746.out 0).trans rfl, (blk_cell BK746.out 1).trans rfl, (blk_cell BK746.out 2).trans rfl, (blk_cell BK747.out 0).trans rfl, (blk_cell BK747.out 1).trans rfl, (blk_cell BK747.out 2).trans rfl⟩ (fun hHeld => ?_)
          clear hK K
          refine norm_ (a' := ?_) ?_ ?_
          rotate_left
          · show Act.put _ (some 33) _ = _
            simp only [Act.put, List.setIfInBounds_toArray, List.set_cons_zero, List.set_cons_succ, i64_w, i32_w]
            rfl
          refine pure_ (i := 9) (N := some 34) (v := ?_) (a' := ?_) #[true, true, true, true, true, true, true, true, true, true, false, false, false, false, false, false] rfl rfl (any_of HT_.out (by kernel_rfl)) (fun _ _ _ h => h) (Or.inl ⟨by rfl, ?_⟩) ?_ ?_
          rotate_left
          · intro w'
            go_simp
            with_reducible rfl
          rotate_left
          · simp only [Act.put, List.setIfInBounds_toArray, List.set_cons_zero, List.set_cons_succ, i64_w, i32_w]
            rfl
          refine pure_ (i := 10) (N := some 35) (v := ?_) (a' := ?_) #[true, true, true, true, true, true, true, true, true, true, true, false, false, false, false, false] rfl rfl (any_of HT_.out (by kernel_rfl)) (fun _ _ _ h => h) (Or.inl ⟨by rfl, ?_⟩) ?_ ?_
          rotate_left
          · intro w'
            go_simp
            with_reducible rfl
          rotate_left
          · simp only [Act.put, List.setIfInBounds_toArray, List.set_cons_zero, List.set_cons_succ, i64_w, i32_w]
            rfl
          refine pure_ (i := 11) (N := some 36) (v := ?_) (a' := ?_) #[true, true, true, true, true, true, true, true, true, true, true, true, false, false, false, false] rfl rfl (any_of HT_.out (by kernel_rfl)) (fun _ _ _ h => h) (Or.inl ⟨by rfl, ?_⟩) ?_ ?_
          rotate_left
          · intro w'
            go_simp
            with_reducible rfl
          rotate_left
          · simp only [Act.put, List.setIfInBounds_toArray, List.set_cons_zero, List.set_cons_succ, i64_w, i32_w]
            rfl
          refine pure_ (i := 12) (N := some 37) (v := undef) (a' := ?_) #[true, true, true, true, true, true, true, true, true, true, true, true, true, false, false, false] rfl rfl (any_of HT_.out (by kernel_rfl)) (fun _ _ _ h => h) (Or.inr ⟨by rfl, rfl⟩) ?_ ?_
          rotate_left
          · simp only [Act.put, List.setIfInBounds_toArray, List.set_cons_zero, List.set_cons_succ, i64_w, i32_w]
            rfl
          refine pure_ (i := 13) (N := some 38) (v := undef) (a' := ?_) #[true, true, true, true, true, true, true, true, true, true, true, true, true, true, false, false] rfl rfl (any_of HT_.out (by kernel_rfl)) (fun _ _ _ h => h) (Or.inr ⟨by rfl, rfl⟩) ?_ ?_
          rotate_left
          · simp only [Act.put, List.setIfInBounds_toArray, List.set_cons_zero, List.set_cons_succ, i64_w, i32_w]
            rfl
          refine pure_ (i := 14) (N := some 39) (v := undef) (a' := ?_) #[true, true, true, true, true, true, true, true, true, true, true, true, true, true, true, false] rfl rfl (any_of HT_.out (by kernel_rfl)) (fun _ _ _ h => h) (Or.inr ⟨by rfl, rfl⟩) ?_ ?_
          rotate_left
          · simp only [Act.put, List.setIfInBounds_toArray, List.set_cons_zero, List.set_cons_succ, i64_w, i32_w]
            rfl
          refine pure_ (i := 15) (N := some 40) (v := ?_) (a' := ?_) #[true, true, true, true, true, true, true, true, true, true, true, true, true, true, true, true] rfl rfl (any_of HT_.out (by kernel_rfl)) (fun _ _ _ h => h) (Or.inl ⟨by rfl, ?_⟩) ?_ ?_
          rotate_left
          · intro w'
            go_simp
            with_reducible rfl
          rotate_left
          · simp only [Act.put, List.setIfInBounds_toArray, List.set_cons_zero, List.set_cons_succ, i64_w, i32_w]
            rfl
          refine done_ (done_of HT_.out (by kernel_rfl)) ?_
          try go_wp2
          go_meet
          case rel => exact ⟨_, (true), (by first | rfl | (simp; done) | (simp [*]; done)), H', ⟨by first | omega | exact Nat.le_refl _⟩, ⟨bk⟩, ⟨bk⟩, ⟨bk⟩, ⟨bl⟩⟩
    case rest =>
      clear HC5
      try clear c1
      try clear c2
      try clear p2
      try clear c15
      try clear c18
      try clear c18b0
      try clear c21
      try clear c23
      obtain ⟨kq, x40_4, rfl, HA, HJ4, BK746, BK747, BK751, HB⟩ := hcut
      cases kq with
      | zero => exact absurd HA.out (by simp [laws_FnSpanDo.j0])
      | succ kj4 =>
        have H := HA.out
        clear HA
        simp only [laws_FnSpanDo.j0] at H
        by_cases c34 : x40_4 = true
        · subst c34
          rw [if_pos rfl] at H
          replace H := Option.bind_eq_some_iff.mp H
          obtain ⟨⟨t757, t758, t759⟩, A350, H⟩ := H
          try dsimp only at H
          have A35 := Aside0.mk A350
          clear A350
          obtain rfl := Option.some.inj H
          try go_wp2
          have n0_ := Bk.mk (blk_drew BK746.out)
          have n1_ := Bk.mk (blk_drew BK747.out)
          have n2_ := Bk.mk (blk_drew BK751.out)
          have n3_ := Bl.mk (below_drew1 HB.out)
          clear BK746
          clear BK747
          clear BK751
          clear HB
          have BK746 := n0_
          have BK747 := n1_
          have BK751 := n2_
          have HB := n3_
          clear n0_ n1_ n2_ n3_
          refine start_ (n := 7) (S := fun w' => w'.cell? ⟨gb751, 0, none⟩ = some (.bool t748) ∧ w'.cell? ⟨gb751, 1, none⟩ = some (.int .i64 t749) ∧ w'.cell? ⟨gb751, 2, none⟩ = some (.int .i64 t750) ∧ w'.cell? ⟨gb746, 0, none⟩ = some (.bool t740) ∧ w'.cell? ⟨gb746, 1, none⟩ = some (.int .i64 t741) ∧ w'.cell? ⟨gb746, 2, none⟩ = some (.int .i64 t742) ∧ w'.cell? ⟨gb747, 0, none⟩ = some (.bool t743) ∧ w'.cell? ⟨gb747, 1, none⟩ = some (.int .i64 t744) ∧ w'.cell? ⟨gb747, 2, none⟩ = some (.int .i64 t745)) (ds := []) #[false, false, false, false, false, false, false] (by kernel_rfl) rfl rfl ⟨(blk_cell BK751.out 0).trans rfl, (blk_cell BK751.out 1).trans rfl, (blk_cell BK751.out 2).trans rfl, (blk_cell BK746.out 0).trans rfl, (blk_cell BK746.out 1).trans rfl, (blk_cell BK746.out 2).trans rfl, (blk_cell BK747.out 0).trans rfl, (blk_cell BK747.out 1).trans rfl, (blk_cell BK747.out 2).trans rfl⟩ (fun hHeld => ?_)
          generalize wc.drew = w36 at BK746 BK747 BK751 HB hHeld ⊢
          refine pure_ (i := 1) (N := some 42) (v := ?_) (a' := ?_) #[false, true, false, false, false, false, false] rfl rfl (by kernel_rfl) (fun _ _ _ h => h) (Or.inl ⟨by rfl, ?_⟩) ?_ ?_
          rotate_left
          · intro w'
            go_simp
            with_reducible rfl
          rotate_left
          · simp only [Act.put, List.setIfInBounds_toArray, List.set_cons_zero, List.set_cons_succ, i64_w, i32_w]
            rfl
          refine take_ (i := 0) (N := some 41) (v := ?_) (a' := ?_) #[true, true, false, false, false, false, false] rfl rfl (by kernel_rfl) (fun _ _ _ h => h) (Or.inl ⟨by rfl, ?_⟩) hHeld ?_ ?_
          rotate_left
          · rintro w' ⟨s0, s1, s2, s3, s4, s5, s6, s7, s8⟩
            go_simp
            with_reducible rfl
          rotate_left
          · simp only [Act.put, List.setIfInBounds_toArray, List.set_cons_zero, List.set_cons_succ, i64_w, i32_w]
            rfl
          refine take_ (i := 2) (N := some 43) (v := ?_) (a' := ?_) #[true, true, true, false, false, false, false] rfl rfl (by kernel_rfl) (fun _ _ _ h => h) (Or.inl ⟨by rfl, ?_⟩) hHeld ?_ ?_
          rotate_left
          · rintro w' ⟨s0, s1, s2, s3, s4, s5, s6, s7, s8⟩
            go_simp
            with_reducible rfl
          rotate_left
          · simp only [Act.put, List.setIfInBounds_toArray, List.set_cons_zero, List.set_cons_succ, i64_w, i32_w]
            rfl
          refine take_ (i := 3) (N := some 44) (v := ?_) (a' := ?_) #[true, true, true, true, false, false, false] rfl rfl (by kernel_rfl) (fun _ _ _ h => h) (Or.inl ⟨by rfl, ?_⟩) hHeld ?_ ?_
          rotate_left
          · rintro w' ⟨s0, s1, s2, s3, s4, s5, s6, s7, s8⟩
            go_simp
            with_reducible rfl
          rotate_left
          · simp only [Act.put, List.setIfInBounds_toArray, List.set_cons_zero, List.set_cons_succ, i64_w, i32_w]
            rfl
          refine one_ (i := 4) (N := some 45) #[true, true, true, true, true, false, false] rfl rfl (by kernel_rfl) (by decide) (fun K hK => ?_)
          refine goes_ Try.func21 (by kernel_rfl) rfl #[.int .i64 t739, .agg #[.bool t740, .int .i64 t741, .int .i64 t742], .agg #[.bool t743, .int .i64 t744, .int .i64 t745]] (by rfl) rfl rfl (by (try simp only [List.map_toArray, List.map_cons, List.map_nil]); first | done | rfl | (simp only [List.length_drop, List.length_take]; rfl)) ?_
          with_reducible refine (spec_SpanDo.calls kj4 t739 t740 t741 t742 t743 t744 t745 t757 t758 t759 _ A35.out).mono ?_
          rintro e w37 ⟨rfl, hb⟩
          refine ⟨_, rfl, ?_⟩
          have n0_ := Bk.mk (blk_below (g := gb746) bk hb)
          have n1_ := Bk.mk (blk_below (g := gb747) bk hb)
          have n2_ := Bk.mk (blk_below (g := gb751) bk hb)
          have n3_ := Bl.mk (below_step bl hb)
          clear BK746
          clear BK747
          clear BK751
          clear HB
          have BK746 := n0_
          have BK747 := n1_
          have BK751 := n2_
          have HB := n3_
          clear n0_ n1_ n2_ n3_
          (try clear hb)
          (try clear hb2)
          (try clear hk)
          (try clear hi)
          refine hK.out _ _ ⟨(blk_cell BK751.out 0).trans rfl, (blk_cell BK751.out 1).trans rfl, (blk_cell BK751.out 2).trans rfl, (blk_cell BK746.out 0).trans rfl, (blk_cell BK746.out 1).trans rfl, (blk_cell BK746.out 2).trans rfl, (blk_cell BK747.out 0).trans rfl, (blk_cell BK747.out 1).trans rfl, (blk_cell BK747.out 2).trans rfl⟩ (fun hHeld => ?_)
          clear hK K
          refine norm_ (a' := ?_) ?_ ?_
          rotate_left
          · show Act.put _ (some 45) _ = _
            simp only [Act.put, List.setIfInBounds_toArray, List.set_cons_zero, List.set_cons_succ, i64_w, i32_w]
            rfl
          refine pure_ (i := 5) (N := some 46) (v := ?_) (a' := ?_) #[true, true, true, true, true, true, false] rfl rfl (by kernel_rfl) (fun _ _ _ h => h) (Or.inl ⟨by rfl, ?_⟩) ?_ ?_
          rotate_left
          · intro w'
            go_simp
            with_reducible rfl
          rotate_left
          · simp only [Act.put, List.setIfInBounds_toArray, List.set_cons_zero, List.set_cons_succ, i64_w, i32_w]
            rfl
          refine pure_ (i := 6) (N := some 2) (v := ?_) (a' := ?_) #[true, true, true, true, true, true, true] rfl rfl (by kernel_rfl) (fun _ _ _ h => h) (Or.inl ⟨by rfl, ?_⟩) ?_ ?_
          rotate_left
          · intro w'
            go_simp
            with_reducible rfl
          rotate_left
          · simp only [Act.put, List.setIfInBounds_toArray, List.set_cons_zero, List.set_cons_succ, i64_w, i32_w]
            rfl
          refine done_ (by kernel_rfl) ?_
          try go_wp2
          go_ret
          exact ⟨by first | rfl | (simp [errW_none, errW_some] <;> rfl) | (simp [*, errW_none, errW_some] <;> rfl), bl⟩
        · replace c34 := Bool.eq_false_iff.mpr c34
          subst c34
          rw [if_neg (show ¬ (false = true) by decide)] at H
          have H' := Aside0.mk H
          clear H
          go_wp2_with (first | ((with_reducible refine gate_dst (N := 7) rfl ?_); refine box_event ?hg (N := 7) ?hd (cs := #[.bool false, .int .i64 0, .int .i64 0]) (t := 30) ?hr ?_; (case hd => rfl); (case hg => rfl); (case hr => first | (go_simp; done) | (go_simp; rfl)); intro gb760 hg w38 hbox hb; have n0_ := Bk.mk (blk_below (g := gb746) bk hb); have n1_ := Bk.mk (blk_below (g := gb747) bk hb); have n2_ := Bk.mk (blk_below (g := gb751) bk hb); have n3_ := Bl.mk (below_step bl hb); have n4_ := Bk.mk (hbox); have n5_ := Aside0.mk ((by rw [hg]; exact (below_size bl) : w.heap.size ≤ gb760)); have n6_ := Gl.mk ((by rw [hg]; exact (below_size bl) : w.heap.size ≤ gb760)); have n7_ := Nb.mk ((by rw [hg]; exact Nat.ne_of_lt (blk_lt (g := gb746) bk) : gb746 ≠ gb760)); have n8_ := Nb.mk ((by rw [hg]; exact Nat.ne_of_gt (blk_lt (g := gb746) bk) : gb760 ≠ gb746)); have n9_ := Nb.mk ((by rw [hg]; exact Nat.ne_of_lt (blk_lt (g := gb747) bk) : gb747 ≠ gb760)); have n10_ := Nb.mk ((by rw [hg]; exact Nat.ne_of_gt (blk_lt (g := gb747) bk) : gb760 ≠ gb747)); have n11_ := Nb.mk ((by rw [hg]; exact Nat.ne_of_lt (blk_lt (g := gb751) bk) : gb751 ≠ gb760)); have n12_ := Nb.mk ((by rw [hg]; exact Nat.ne_of_gt (blk_lt (g := gb751) bk) : gb760 ≠ gb751)); clear BK746; clear BK747; clear BK751; clear HB; have BK746 := n0_; have BK747 := n1_; have BK751 := n2_; have HB := n3_; have BK760 := n4_; have GW760 := n5_; have GE760 := n6_; have NB746_760 := n7_; have NB760_746 := n8_; have NB747_760 := n9_; have NB760_747 := n10_; have NB751_760 := n11_; have NB760_751 := n12_; clear n0_ n1_ n2_ n3_ n4_ n5_ n6_ n7_ n8_ n9_ n10_ n11_ n12_; clear hb hbox hg; have hnb39 := NB760_746.out; have hnc39 := NB746_760.out; have hnb40 := NB760_747.out; have hnc40 := NB747_760.out; have hnb41 := NB760_751.out; have hnc41 := NB751_760.out; have hcz42_0 := bc0 BK760.out; have hcz42_1 := bc1 BK760.out; have hcz42_2 := bc2 BK760.out; have hfz42_0 := blk_frozen BK760.out 0; have hfz42_1 := blk_frozen BK760.out 1; have hfz42_2 := blk_frozen BK760.out 2))
          go_loopg [8] kj4 (fun kq v8 w' => ∃ (x8_2 : Int) (x761000_2 : Bool) (x761001_2 : Int) (x761002_2 : Int), v8 = .int .i64 x8_2 ∧ Aside0 (laws_FnSpanDo.l0 kq t739 x8_2 t740 t741 t742 t743 t744 t745 t748 t749 t750 x761000_2 x761001_2 x761002_2 = some r) ∧ Aside0 (kq ≤ kj4) ∧ Bk w' gb746 (.cells #[.bool t740, .int .i64 t741, .int .i64 t742] 30 (0, 0)) ∧ Bk w' gb747 (.cells #[.bool t743, .int .i64 t744, .int .i64 t745] 30 (0, 0)) ∧ Bk w' gb751 (.cells #[.bool t748, .int .i64 t749, .int .i64 t750] 30 (0, 0)) ∧ Bk w' gb760 (.cells #[.bool x761000_2, .int .i64 x761001_2, .int .i64 x761002_2] 30 (0, 0)) ∧ Bl w.heap.size w w')
          case atStart => exact ⟨((-16)), (false), (0), (0), (by first | rfl | (simp; done) | (simp [*]; done)), H', ⟨Nat.le_refl _⟩, ⟨bk⟩, ⟨bk⟩, ⟨bk⟩, ⟨bk⟩, ⟨bl⟩⟩
          case round =>
            clear H'
            try clear c1
            try clear c2
            try clear p2
            try clear c3
            try clear c4
            try clear c15
            try clear c18
            try clear c18b0
            try clear c21
            try clear c23
            try clear c34
            try clear c39
            try clear c40
            try clear c41
            try clear hcz42_0
            try clear hcz42_1
            try clear hcz42_2
            try clear hfz42_0
            try clear hfz42_1
            try clear hfz42_2
            try clear p2
            obtain ⟨x8_2, x761000_2, x761001_2, x761002_2, rfl, HA, HK2, BK746, BK747, BK751, BK760, HB⟩ := hrel
            cases gk with
            | zero => exact absurd HA.out (by simp [laws_FnSpanDo.l0])
            | succ k2 =>
              have H := HA.out
              clear HA
              simp only [laws_FnSpanDo.l0] at H
              by_cases c43 : x8_2 ≤ 15
              · rw [if_pos c43] at H
                have c43b0 : decide (x8_2 ≤ 15) = true := decide_eq_true c43
                clear c43
                have H' := Aside0.mk H
                clear H
                go_wp2
                go_loopg [9] k2 (fun kq v9 w' => ∃ (x9_3 : Int) (x761000_3 : Bool) (x761001_3 : Int) (x761002_3 : Int), v9 = .int .i64 x9_3 ∧ Aside0 (laws_FnSpanDo.l1 kq t739 x8_2 x9_3 t740 t741 t742 t743 t744 t745 t748 t749 t750 x761000_3 x761001_3 x761002_3 = some r) ∧ Aside0 (kq ≤ k2) ∧ Bk w' gb746 (.cells #[.bool t740, .int .i64 t741, .int .i64 t742] 30 (0, 0)) ∧ Bk w' gb747 (.cells #[.bool t743, .int .i64 t744, .int .i64 t745] 30 (0, 0)) ∧ Bk w' gb751 (.cells #[.bool t748, .int .i64 t749, .int .i64 t750] 30 (0, 0)) ∧ Bk w' gb760 (.cells #[.bool x761000_3, .int .i64 x761001_3, .int .i64 x761002_3] 30 (0, 0)) ∧ Bl w.heap.size w w')
                case atStart => exact ⟨((-16)), (x761000_2), (x761001_2), (x761002_2), (by first | rfl | (simp; done) | (simp [*]; done)), H', ⟨Nat.le_refl _⟩, ⟨bk⟩, ⟨bk⟩, ⟨bk⟩, ⟨bk⟩, ⟨bl⟩⟩
                case round =>
                  clear H'
                  try clear c1
                  try clear c2
                  try clear p2
                  try clear c3
                  try clear c4
                  try clear c15
                  try clear c18
                  try clear c18b0
                  try clear c21
                  try clear c23
                  try clear c34
                  try clear c39
                  try clear c40
                  try clear c41
                  try clear c43
                  try clear c43b0
                  try clear hcz42_0
                  try clear hcz42_1
                  try clear hcz42_2
                  try clear hfz42_0
                  try clear hfz42_1
                  try clear hfz42_2
                  try clear p2
                  obtain ⟨x9_3, x761000_3, x761001_3, x761002_3, rfl, HA, HK3, BK746, BK747, BK751, BK760, HB⟩ := hrel
                  cases gk with
                  | zero => exact absurd HA.out (by simp [laws_FnSpanDo.l1])
                  | succ k3 =>
                    have H := HA.out
                    clear HA
                    simp only [laws_FnSpanDo.l1] at H
                    by_cases c44 : x9_3 ≤ 15
                    · rw [if_pos c44] at H
                      have c44b0 : decide (x9_3 ≤ 15) = true := decide_eq_true c44
                      clear c44
                      have HC45 := Aside0.mk H
                      clear H
                      go_upto_region 14 with (fail)
                      go_cut [63] (fun v63 wc => ∃ (kq : Nat) (x63_44 : Bool), v63 = .bool x63_44 ∧ Aside0 (laws_FnSpanDo.j3 kq t739 x8_2 x9_3 x63_44 t740 t741 t742 t743 t744 t745 t748 t749 t750 x761000_3 x761001_3 x761002_3 = some r) ∧ Aside0 (kq ≤ k3) ∧ Bk wc gb746 (.cells #[.bool t740, .int .i64 t741, .int .i64 t742] 30 (0, 0)) ∧ Bk wc gb747 (.cells #[.bool t743, .int .i64 t744, .int .i64 t745] 30 (0, 0)) ∧ Bk wc gb751 (.cells #[.bool t748, .int .i64 t749, .int .i64 t750] 30 (0, 0)) ∧ Bk wc gb760 (.cells #[.bool x761000_3, .int .i64 x761001_3, .int .i64 x761002_3] 30 (0, 0)) ∧ Bl w.heap.size w wc)
                      case first =>
                        have H := HC45.out
                        clear HC45
                        replace H := Option.bind_eq_some_iff.mp H
                        obtain ⟨t761, A460, H⟩ := H
                        try dsimp only at H
                        have A46 := Aside0.mk A460
                        clear A460
                        by_cases c47 : t761 = true
                        · subst c47
                          rw [if_pos rfl] at H
                          replace H := Option.bind_eq_some_iff.mp H
                          obtain ⟨t762, A480, H⟩ := H
                          try dsimp only at H
                          have A48 := Aside0.mk A480
                          clear A480
                          have H' := Aside0.mk H
                          clear H
                          have hnb49 := NB746_747.out
                          have hnc49 := NB747_746.out
                          have hnb50 := NB746_751.out
                          have hnc50 := NB751_746.out
                          have hnb51 := NB746_760.out
                          have hnc51 := NB760_746.out
                          have hcz52_0 := bc0 BK746.out
                          have hcz52_1 := bc1 BK746.out
                          have hcz52_2 := bc2 BK746.out
                          have hfz52_0 := blk_frozen BK746.out 0
                          have hfz52_1 := blk_frozen BK746.out 1
                          have hfz52_2 := blk_frozen BK746.out 2
                          go_wp2_with (first | ((with_reducible refine gate_callee (f := 27) rfl ?_); refine goesL_ (some 58) rfl rfl Try.func27 (by kernel_rfl) rfl #[.agg #[.bool t740, .int .i64 t741, .int .i64 t742], .int .i64 x8_2] rfl (by (try simp only [List.map_toArray, List.map_cons, List.map_nil]); first | done | rfl | (simp only [List.length_drop, List.length_take]; rfl)) ?_; (with_reducible refine (impl_SpanHas.calls t740 t741 t742 x8_2 true _ A46.out).mono ?_); rintro e w53 ⟨rfl, hb⟩; refine ⟨_, rfl, ?_⟩; have n0_ := Bk.mk (blk_below (g := gb746) bk hb); have n1_ := Bk.mk (blk_below (g := gb747) bk hb); have n2_ := Bk.mk (blk_below (g := gb751) bk hb); have n3_ := Bk.mk (blk_below (g := gb760) bk hb); have n4_ := Bl.mk (below_step bl hb); clear BK746; clear BK747; clear BK751; clear BK760; clear HB; have BK746 := n0_; have BK747 := n1_; have BK751 := n2_; have BK760 := n3_; have HB := n4_; clear n0_ n1_ n2_ n3_ n4_; (try clear hb); (try clear hb2); (try clear hk); (try clear hi); have hnb54 := NB747_751.out; have hnc54 := NB751_747.out; have hnb55 := NB747_760.out; have hnc55 := NB760_747.out; have hcz56_0 := bc0 BK747.out; have hcz56_1 := bc1 BK747.out; have hcz56_2 := bc2 BK747.out; have hfz56_0 := blk_frozen BK747.out 0; have hfz56_1 := blk_frozen BK747.out 1; have hfz56_2 := blk_frozen BK747.out 2) | (go_at_call 27; (with_reducible refine (impl_SpanHas.calls t743 t744 t745 x9_3 t762 _ A48.out).mono ?_); rintro e w57 ⟨rfl, hb⟩; have n0_ := Bk.mk (blk_below (g := gb746) bk hb); have n1_ := Bk.mk (blk_below (g := gb747) bk hb); have n2_ := Bk.mk (blk_below (g := gb751) bk hb); have n3_ := Bk.mk (blk_below (g := gb760) bk hb); have n4_ := Bl.mk (below_step bl hb); clear BK746; clear BK747; clear BK751; clear BK760; clear HB; have BK746 := n0_; have BK747 := n1_; have BK751 := n2_; have BK760 := n3_; have HB := n4_; clear n0_ n1_ n2_ n3_ n4_; (try clear hb); (try clear hb2); (try clear hk); (try clear hi)))
                          go_meet
                          case rel => exact ⟨_, (t762), (by first | rfl | (simp; done) | (simp [*]; done)), H', ⟨by have := HJ4.out; have := HK2.out; have := HK3.out; first | omega | exact Nat.le_refl _⟩, ⟨bk⟩, ⟨bk⟩, ⟨bk⟩, ⟨bk⟩, ⟨bl⟩⟩
                        · replace c47 := Bool.eq_false_iff.mpr c47
                          subst c47
                          rw [if_neg (show ¬ (false = true) by decide)] at H
                          have H' := Aside0.mk H
                          clear H
                          have hnb58 := NB746_747.out
                          have hnc58 := NB747_746.out
                          have hnb59 := NB746_751.out
                          have hnc59 := NB751_746.out
                          have hnb60 := NB746_760.out
                          have hnc60 := NB760_746.out
                          have hcz61_0 := bc0 BK746.out
                          have hcz61_1 := bc1 BK746.out
                          have hcz61_2 := bc2 BK746.out
                          have hfz61_0 := blk_frozen BK746.out 0
                          have hfz61_1 := blk_frozen BK746.out 1
                          have hfz61_2 := blk_frozen BK746.out 2
                          go_wp2_with (first | ((with_reducible refine gate_callee (f := 27) rfl ?_); refine goesL_ (some 58) rfl rfl Try.func27 (by kernel_rfl) rfl #[.agg #[.bool t740, .int .i64 t741, .int .i64 t742], .int .i64 x8_2] rfl (by (try simp only [List.map_toArray, List.map_cons, List.map_nil]); first | done | rfl | (simp only [List.length_drop, List.length_take]; rfl)) ?_; (with_reducible refine (impl_SpanHas.calls t740 t741 t742 x8_2 false _ A46.out).mono ?_); rintro e w62 ⟨rfl, hb⟩; refine ⟨_, rfl, ?_⟩; have n0_ := Bk.mk (blk_below (g := gb746) bk hb); have n1_ := Bk.mk (blk_below (g := gb747) bk hb); have n2_ := Bk.mk (blk_below (g := gb751) bk hb); have n3_ := Bk.mk (blk_below (g := gb760) bk hb); have n4_ := Bl.mk (below_step bl hb); clear BK746; clear BK747; clear BK751; clear BK760; clear HB; have BK746 := n0_; have BK747 := n1_; have BK751 := n2_; have BK760 := n3_; have HB := n4_; clear n0_ n1_ n2_ n3_ n4_; (try clear hb); (try clear hb2); (try clear hk); (try clear hi)))
                          go_meet
                          case rel => exact ⟨_, (false), (by first | rfl | (simp; done) | (simp [*]; done)), H', ⟨by have := HJ4.out; have := HK2.out; have := HK3.out; first | omega | exact Nat.le_refl _⟩, ⟨bk⟩, ⟨bk⟩, ⟨bk⟩, ⟨bk⟩, ⟨bl⟩⟩
                      case rest =>
                        clear HC45
                        try clear c1
                        try clear c2
                        try clear p2
                        try clear c3
                        try clear c4
                        try clear c5
                        try clear c6
                        try clear c15
                        try clear c18
                        try clear c18b0
                        try clear c21
                        try clear c23
                        try clear c27
                        try clear c34
                        try clear c39
                        try clear c40
                        try clear c41
                        try clear c43
                        try clear c43b0
                        try clear c44
                        try clear c44b0
                        try clear c47
                        try clear c49
                        try clear c50
                        try clear c51
                        try clear c54
                        try clear c55
                        try clear c58
                        try clear c59
                        try clear c60
                        try clear hcz42_0
                        try clear hcz42_1
                        try clear hcz42_2
                        try clear hcz52_0
                        try clear hcz52_1
                        try clear hcz52_2
                        try clear hcz56_0
                        try clear hcz56_1
                        try clear hcz56_2
                        try clear hcz61_0
                        try clear hcz61_1
                        try clear hcz61_2
                        try clear hfz42_0
                        try clear hfz42_1
                        try clear hfz42_2
                        try clear hfz52_0
                        try clear hfz52_1
                        try clear hfz52_2
                        try clear hfz56_0
                        try clear hfz56_1
                        try clear hfz56_2
                        try clear hfz61_0
                        try clear hfz61_1
                        try clear hfz61_2
                        try clear p2
                        obtain ⟨kq, x63_44, rfl, HA, HJ44, BK746, BK747, BK751, BK760, HB⟩ := hcut
                        cases kq with
                        | zero => exact absurd HA.out (by simp [laws_FnSpanDo.j3])
                        | succ kj44 =>
                          have H := HA.out
                          clear HA
                          simp only [laws_FnSpanDo.j3] at H
                          by_cases c63 : x63_44 = true
                          · subst c63
                            rw [if_pos rfl] at H
                            replace H := Option.bind_eq_some_iff.mp H
                            obtain ⟨⟨t763, t764⟩, A640, H⟩ := H
                            try dsimp only at H
                            have A64 := Aside0.mk A640
                            clear A640
                            have HC65 := Aside0.mk H
                            clear H
                            go_upto_region 16 with (first | ((with_reducible refine gate_callee (f := 13) rfl ?_); refine goesL_ (some 68) rfl rfl Try.func13 (by kernel_rfl) rfl #[.int .i64 t739, .int .i64 x8_2, .int .i64 x9_3] rfl (by (try simp only [List.map_toArray, List.map_cons, List.map_nil]); first | done | rfl | (simp only [List.length_drop, List.length_take]; rfl)) ?_; (with_reducible refine (impl_NumDo.calls kj44 t739 x8_2 x9_3 t763 t764 _ A64.out).mono ?_); rintro e w66 ⟨rfl, hb⟩; refine ⟨_, rfl, ?_⟩; have n0_ := Bk.mk (blk_below (g := gb746) bk hb); have n1_ := Bk.mk (blk_below (g := gb747) bk hb); have n2_ := Bk.mk (blk_below (g := gb751) bk hb); have n3_ := Bk.mk (blk_below (g := gb760) bk hb); have n4_ := Bl.mk (below_step bl hb); clear BK746; clear BK747; clear BK751; clear BK760; clear HB; have BK746 := n0_; have BK747 := n1_; have BK751 := n2_; have BK760 := n3_; have HB := n4_; clear n0_ n1_ n2_ n3_ n4_; (try clear hb); (try clear hb2); (try clear hk); (try clear hi)))
                            (try simp only [Act.put, List.setIfInBounds_toArray, List.set_cons_zero, List.set_cons_succ])
                            go_cut [77] (fun v77 wc => ∃ (kq : Nat) (x77_64 : Bool), v77 = .bool x77_64 ∧ Aside0 (laws_FnSpanDo.j4 kq t739 x8_2 x9_3 t763 t764 x77_64 t740 t741 t742 t743 t744 t745 t748 t749 t750 x761000_3 x761001_3 x761002_3 = some r) ∧ Aside0 (kq ≤ kj44) ∧ Bk wc gb746 (.cells #[.bool t740, .int .i64 t741, .int .i64 t742] 30 (0, 0)) ∧ Bk wc gb747 (.cells #[.bool t743, .int .i64 t744, .int .i64 t745] 30 (0, 0)) ∧ Bk wc gb751 (.cells #[.bool t748, .int .i64 t749, .int .i64 t750] 30 (0, 0)) ∧ Bk wc gb760 (.cells #[.bool x761000_3, .int .i64 x761001_3, .int .i64 x761002_3] 30 (0, 0)) ∧ Bl w.heap.size w wc)
                            case first =>
                              have H := HC65.out
                              clear HC65
                              by_cases c67 : t764 = true
                              · subst c67
                                rw [if_pos rfl] at H
                                replace H := Option.bind_eq_some_iff.mp H
                                obtain ⟨t765, A680, H⟩ := H
                                try dsimp only at H
                                have A68 := Aside0.mk A680
                                clear A680
                                have H' := Aside0.mk H
                                clear H
                                have hnb69 := NB751_746.out
                                have hnc69 := NB746_751.out
                                have hnb70 := NB751_747.out
                                have hnc70 := NB747_751.out
                                have hnb71 := NB751_760.out
                                have hnc71 := NB760_751.out
                                have hcz72_0 := bc0 BK751.out
                                have hcz72_1 := bc1 BK751.out
                                have hcz72_2 := bc2 BK751.out
                                have hfz72_0 := blk_frozen BK751.out 0
                                have hfz72_1 := blk_frozen BK751.out 1
                                have hfz72_2 := blk_frozen BK751.out 2
                                go_wp2_with (first | (go_at_call 27; (with_reducible refine (impl_SpanHas.calls t748 t749 t750 t763 t765 _ A68.out).mono ?_); rintro e w73 ⟨rfl, hb⟩; have n0_ := Bk.mk (blk_below (g := gb746) bk hb); have n1_ := Bk.mk (blk_below (g := gb747) bk hb); have n2_ := Bk.mk (blk_below (g := gb751) bk hb); have n3_ := Bk.mk (blk_below (g := gb760) bk hb); have n4_ := Bl.mk (below_step bl hb); clear BK746; clear BK747; clear BK751; clear BK760; clear HB; have BK746 := n0_; have BK747 := n1_; have BK751 := n2_; have BK760 := n3_; have HB := n4_; clear n0_ n1_ n2_ n3_ n4_; (try clear hb); (try clear hb2); (try clear hk); (try clear hi)))
                                go_meet
                                case rel => exact ⟨_, (!t765), (by first | rfl | (simp; done) | (simp [*]; done)), H', ⟨by have := HJ4.out; have := HK2.out; have := HK3.out; have := HJ44.out; first | omega | exact Nat.le_refl _⟩, ⟨bk⟩, ⟨bk⟩, ⟨bk⟩, ⟨bk⟩, ⟨bl⟩⟩
                              · replace c67 := Bool.eq_false_iff.mpr c67
                                subst c67
                                rw [if_neg (show ¬ (false = true) by decide)] at H
                                have H' := Aside0.mk H
                                clear H
                                go_wp2
                                go_meet
                                case rel => exact ⟨_, (false), (by first | rfl | (simp; done) | (simp [*]; done)), H', ⟨by have := HJ4.out; have := HK2.out; have := HK3.out; have := HJ44.out; first | omega | exact Nat.le_refl _⟩, ⟨bk⟩, ⟨bk⟩, ⟨bk⟩, ⟨bk⟩, ⟨bl⟩⟩
                            case rest =>
                              clear HC65
                              try clear c1
                              try clear c2
                              try clear p2
                              try clear c3
                              try clear c4
                              try clear c5
                              try clear c6
                              try clear c7
                              try clear c13
                              try clear c15
                              try clear c18
                              try clear c18b0
                              try clear c21
                              try clear c23
                              try clear c27
                              try clear c34
                              try clear c39
                              try clear c40
                              try clear c41
                              try clear c43
                              try clear c43b0
                              try clear c44
                              try clear c44b0
                              try clear c47
                              try clear c49
                              try clear c50
                              try clear c51
                              try clear c54
                              try clear c55
                              try clear c58
                              try clear c59
                              try clear c60
                              try clear c63
                              try clear c67
                              try clear c69
                              try clear c70
                              try clear c71
                              try clear hcz42_0
                              try clear hcz42_1
                              try clear hcz42_2
                              try clear hcz52_0
                              try clear hcz52_1
                              try clear hcz52_2
                              try clear hcz56_0
                              try clear hcz56_1
                              try clear hcz56_2
                              try clear hcz61_0
                              try clear hcz61_1
                              try clear hcz61_2
                              try clear hcz72_0
                              try clear hcz72_1
                              try clear hcz72_2
                              try clear hfz42_0
                              try clear hfz42_1
                              try clear hfz42_2
                              try clear hfz52_0
                              try clear hfz52_1
                              try clear hfz52_2
                              try clear hfz56_0
                              try clear hfz56_1
                              try clear hfz56_2
                              try clear hfz61_0
                              try clear hfz61_1
                              try clear hfz61_2
                              try clear hfz72_0
                              try clear hfz72_1
                              try clear hfz72_2
                              try clear p2
                              obtain ⟨kq, x77_64, rfl, HA, HJ64, BK746, BK747, BK751, BK760, HB⟩ := hcut
                              cases kq with
                              | zero => exact absurd HA.out (by simp [laws_FnSpanDo.j4])
                              | succ kj64 =>
                                have H := HA.out
                                clear HA
                                simp only [laws_FnSpanDo.j4] at H
                                by_cases c74 : x77_64 = true
                                · subst c74
                                  rw [if_pos rfl] at H
                                  obtain rfl := Option.some.inj H
                                  go_wp2
                                  go_ret
                                  exact ⟨by first | rfl | (simp [errW_none, errW_some] <;> rfl) | (simp [*, errW_none, errW_some] <;> rfl), bl⟩
                                · replace c74 := Bool.eq_false_iff.mpr c74
                                  subst c74
                                  rw [if_neg (show ¬ (false = true) by decide)] at H
                                  by_cases c75 : t764 = true
                                  · subst c75
                                    rw [if_pos rfl] at H
                                    replace H := Option.bind_eq_some_iff.mp H
                                    obtain ⟨⟨t766, t767, t768⟩, A760, H⟩ := H
                                    try dsimp only at H
                                    have A76 := Aside0.mk A760
                                    clear A760
                                    replace H := Option.bind_eq_some_iff.mp H
                                    obtain ⟨⟨t769, t770, t771⟩, A770, H⟩ := H
                                    try dsimp only at H
                                    have A77 := Aside0.mk A770
                                    clear A770
                                    have H' := Aside0.mk H
                                    clear H
                                    try go_wp2
                                    have n0_ := Bk.mk (blk_drew BK746.out)
                                    have n1_ := Bk.mk (blk_drew BK747.out)
                                    have n2_ := Bk.mk (blk_drew BK751.out)
                                    have n3_ := Bk.mk (blk_drew BK760.out)
                                    have n4_ := Bl.mk (below_drew1 HB.out)
                                    clear BK746
                                    clear BK747
                                    clear BK751
                                    clear BK760
                                    clear HB
                                    have BK746 := n0_
                                    have BK747 := n1_
                                    have BK751 := n2_
                                    have BK760 := n3_
                                    have HB := n4_
                                    clear n0_ n1_ n2_ n3_ n4_
                                    refine start_ (n := 5) (S := fun w' => w'.cell? ⟨gb760, 0, none⟩ = some (.bool x761000_3) ∧ w'.cell? ⟨gb760, 1, none⟩ = some (.int .i64 x761001_3) ∧ w'.cell? ⟨gb760, 2, none⟩ = some (.int .i64 x761002_3)) (ds := [4]) #[false, false, false, false, false] (by kernel_rfl) rfl rfl ⟨(blk_cell BK760.out 0).trans rfl, (blk_cell BK760.out 1).trans rfl, (blk_cell BK760.out 2).trans rfl⟩ (fun hHeld => ?_)
                                    generalize wc.drew = w78 at BK746 BK747 BK751 BK760 HB hHeld ⊢
                                    refine pure_ (i := 1) (N := some 80) (v := ?_) (a' := ?_) #[false, true, false, false, false] rfl rfl (by kernel_rfl) (fun _ _ _ h => h) (Or.inl ⟨by rfl, ?_⟩) ?_ ?_
                                    rotate_left
                                    · intro w'
                                      go_simp
                                      with_reducible rfl
                                    rotate_left
                                    · simp only [Act.put, List.setIfInBounds_toArray, List.set_cons_zero, List.set_cons_succ, i64_w, i32_w]
                                      rfl
                                    refine take_ (i := 0) (N := some 79) (v := ?_) (a' := ?_) #[true, true, false, false, false] rfl rfl (by kernel_rfl) (fun _ _ _ h => h) (Or.inl ⟨by rfl, ?_⟩) hHeld ?_ ?_
                                    rotate_left
                                    · rintro w' ⟨s0, s1, s2⟩
                                      go_simp
                                      with_reducible rfl
                                    rotate_left
                                    · simp only [Act.put, List.setIfInBounds_toArray, List.set_cons_zero, List.set_cons_succ, i64_w, i32_w]
                                      rfl
                                    refine one_ (i := 2) (N := some 81) #[true, true, true, false, false] rfl rfl (by kernel_rfl) (by decide) (fun K hK => ?_)
                                    refine goes_ Try.func28 (by kernel_rfl) rfl #[.int .i64 t763] (by rfl) rfl rfl (by (try simp only [List.map_toArray, List.map_cons, List.map_nil]); first | done | rfl | (simp only [List.length_drop, List.length_take]; rfl)) ?_
                                    with_reducible refine (impl_SpanOf.calls t763 t766 t767 t768 _ A76.out).mono ?_
                                    rintro e w79 ⟨rfl, hb⟩
                                    refine ⟨_, rfl, ?_⟩
                                    have n0_ := Bk.mk (blk_below (g := gb746) bk hb)
                                    have n1_ := Bk.mk (blk_below (g := gb747) bk hb)
                                    have n2_ := Bk.mk (blk_below (g := gb751) bk hb)
                                    have n3_ := Bk.mk (blk_below (g := gb760) bk hb)
                                    have n4_ := Bl.mk (below_step bl hb)
                                    clear BK746
                                    clear BK747
                                    clear BK751
                                    clear BK760
                                    clear HB
                                    have BK746 := n0_
                                    have BK747 := n1_
                                    have BK751 := n2_
                                    have BK760 := n3_
                                    have HB := n4_
                                    clear n0_ n1_ n2_ n3_ n4_
                                    (try clear hb)
                                    (try clear hb2)
                                    (try clear hk)
                                    (try clear hi)
                                    refine hK.out _ _ ⟨(blk_cell BK760.out 0).trans rfl, (blk_cell BK760.out 1).trans rfl, (blk_cell BK760.out 2).trans rfl⟩ (fun hHeld => ?_)
                                    clear hK K
                                    refine norm_ (a' := ?_) ?_ ?_
                                    rotate_left
                                    · show Act.put _ (some 81) _ = _
                                      simp only [Act.put, List.setIfInBounds_toArray, List.set_cons_zero, List.set_cons_succ, i64_w, i32_w]
                                      rfl
                                    refine one_ (i := 3) (N := some 82) #[true, true, true, true, false] rfl rfl (by kernel_rfl) (by decide) (fun K hK => ?_)
                                    refine goes_ Try.func25 (by kernel_rfl) rfl #[.agg #[.bool x761000_3, .int .i64 x761001_3, .int .i64 x761002_3], .agg #[.bool t766, .int .i64 t767, .int .i64 t768]] (by rfl) rfl rfl (by (try simp only [List.map_toArray, List.map_cons, List.map_nil]); first | done | rfl | (simp only [List.length_drop, List.length_take]; rfl)) ?_
                                    with_reducible refine (impl_SpanJoin.calls kj64 x761000_3 x761001_3 x761002_3 t766 t767 t768 t769 t770 t771 _ A77.out).mono ?_
                                    rintro e w80 ⟨rfl, hb⟩
                                    refine ⟨_, rfl, ?_⟩
                                    have n0_ := Bk.mk (blk_below (g := gb746) bk hb)
                                    have n1_ := Bk.mk (blk_below (g := gb747) bk hb)
                                    have n2_ := Bk.mk (blk_below (g := gb751) bk hb)
                                    have n3_ := Bk.mk (blk_below (g := gb760) bk hb)
                                    have n4_ := Bl.mk (below_step bl hb)
                                    clear BK746
                                    clear BK747
                                    clear BK751
                                    clear BK760
                                    clear HB
                                    have BK746 := n0_
                                    have BK747 := n1_
                                    have BK751 := n2_
                                    have BK760 := n3_
                                    have HB := n4_
                                    clear n0_ n1_ n2_ n3_ n4_
                                    (try clear hb)
                                    (try clear hb2)
                                    (try clear hk)
                                    (try clear hi)
                                    refine hK.out _ _ ⟨(blk_cell BK760.out 0).trans rfl, (blk_cell BK760.out 1).trans rfl, (blk_cell BK760.out 2).trans rfl⟩ (fun hHeld => ?_)
                                    clear hK K
                                    refine norm_ (a' := ?_) ?_ ?_
                                    rotate_left
                                    · show Act.put _ (some 82) _ = _
                                      simp only [Act.put, List.setIfInBounds_toArray, List.set_cons_zero, List.set_cons_succ, i64_w, i32_w]
                                      rfl
                                    refine last_ (i := 4) (N := none) #[true, true, true, true, true] rfl rfl (by kernel_rfl) (by decide) (fun K hK => ?_)
                                    have hs81 : w80.cell? ⟨gb760, 0, none⟩ = some (.bool x761000_3) := (blk_cell BK760.out 0).trans rfl
                                    have hfs81 := blk_frozen BK760.out 0
                                    have hns81_0 := NB746_760.out
                                    have hns81_1 := NB747_760.out
                                    have hns81_2 := NB751_760.out
                                    have hms81_0 := NB760_746.out
                                    have hms81_1 := NB760_747.out
                                    have hms81_2 := NB760_751.out
                                    have hs82 : w80.cell? ⟨gb760, 1, none⟩ = some (.int .i64 x761001_3) := (blk_cell BK760.out 1).trans rfl
                                    have hfs82 := blk_frozen BK760.out 1
                                    have hns82_0 := NB746_760.out
                                    have hns82_1 := NB747_760.out
                                    have hns82_2 := NB751_760.out
                                    have hms82_0 := NB760_746.out
                                    have hms82_1 := NB760_747.out
                                    have hms82_2 := NB760_751.out
                                    have hs83 : w80.cell? ⟨gb760, 2, none⟩ = some (.int .i64 x761002_3) := (blk_cell BK760.out 2).trans rfl
                                    have hfs83 := blk_frozen BK760.out 2
                                    have hns83_0 := NB746_760.out
                                    have hns83_1 := NB747_760.out
                                    have hns83_2 := NB751_760.out
                                    have hms83_0 := NB760_746.out
                                    have hms83_1 := NB760_747.out
                                    have hms83_2 := NB760_751.out
                                    refine skip_ (w1 := ?_) (by rfl) rfl ?_ ?_
                                    rotate_left
                                    · go_simp
                                      rfl
                                    refine hK.out _ _ ?_
                                    clear hK K
                                    refine done_ (by kernel_rfl) ?_
                                    try go_wp2
                                    go_roundg kj64
                                    case measure => have := HJ4.out; have := HK2.out; have := HK3.out; have := HJ44.out; have := HJ64.out; omega
                                    case rel => exact ⟨(wrap64 (x9_3 + 1)), (t769), (t770), (t771), (by first | rfl | (simp; done) | (simp [*]; done)), H', ⟨by have := HJ4.out; have := HK2.out; have := HK3.out; have := HJ44.out; have := HJ64.out; omega⟩, ⟨bk⟩, ⟨bk⟩, ⟨bk⟩, ⟨bk⟩, ⟨bl⟩⟩
                                  · replace c75 := Bool.eq_false_iff.mpr c75
                                    subst c75
                                    rw [if_neg (show ¬ (false = true) by decide)] at H
                                    have H' := Aside0.mk H
                                    clear H
                                    go_wp2
                                    go_roundg kj64
                                    case measure => have := HJ4.out; have := HK2.out; have := HK3.out; have := HJ44.out; have := HJ64.out; omega
                                    case rel => exact ⟨(wrap64 (x9_3 + 1)), (x761000_3), (x761001_3), (x761002_3), (by first | rfl | (simp; done) | (simp [*]; done)), H', ⟨by have := HJ4.out; have := HK2.out; have := HK3.out; have := HJ44.out; have := HJ64.out; omega⟩, ⟨bk⟩, ⟨bk⟩, ⟨bk⟩, ⟨bk⟩, ⟨bl⟩⟩
                          · replace c63 := Bool.eq_false_iff.mpr c63
                            subst c63
                            rw [if_neg (show ¬ (false = true) by decide)] at H
                            have H' := Aside0.mk H
                            clear H
                            go_wp2
                            go_roundg kj44
                            case measure => have := HJ4.out; have := HK2.out; have := HK3.out; have := HJ44.out; omega
                            case rel => exact ⟨(wrap64 (x9_3 + 1)), (x761000_3), (x761001_3), (x761002_3), (by first | rfl | (simp; done) | (simp [*]; done)), H', ⟨by have := HJ4.out; have := HK2.out; have := HK3.out; have := HJ44.out; omega⟩, ⟨bk⟩, ⟨bk⟩, ⟨bk⟩, ⟨bk⟩, ⟨bl⟩⟩
                    · rw [if_neg c44] at H
                      have c44b0 : decide (x9_3 ≤ 15) = false := decide_eq_false c44
                      clear c44
                      have H' := Aside0.mk H
                      clear H
                      go_wp2
                      go_roundg k3
                      case measure => have := HJ4.out; have := HK2.out; have := HK3.out; omega
                      case rel => exact ⟨(wrap64 (x8_2 + 1)), (x761000_3), (x761001_3), (x761002_3), (by first | rfl | (simp; done) | (simp [*]; done)), H', ⟨by have := HJ4.out; have := HK2.out; have := HK3.out; omega⟩, ⟨bk⟩, ⟨bk⟩, ⟨bk⟩, ⟨bk⟩, ⟨bl⟩⟩
              · rw [if_neg c43] at H
                have c43b0 : decide (x8_2 ≤ 15) = false := decide_eq_false c43
                clear c43
                by_cases c84 : (t748 == x761000_2 && (t749 == x761001_2 && (t750 == x761002_2))) = true
                · rw [if_pos c84] at H
                  have c84b0 : (t748 == x761000_2 && (t749 == x761001_2 && (t750 == x761002_2))) = true := c84
                  (try (have c84b1 : decide (t748 = x761000_2 && (t749 == x761001_2 && (t750 == x761002_2))) = true := by simpa using c84))
                  (try (have c84b2 : (t748 == x761000_2 && (t749 == x761001_2 && (t750 == x761002_2))) = true := by simpa using c84))
                  clear c84
                  obtain rfl := Option.some.inj H
                  have hnb85 := NB751_746.out
                  have hnc85 := NB746_751.out
                  have hnb86 := NB751_747.out
                  have hnc86 := NB747_751.out
                  have hnb87 := NB751_760.out
                  have hnc87 := NB760_751.out
                  have hcz88_0 := bc0 BK751.out
                  have hcz88_1 := bc1 BK751.out
                  have hcz88_2 := bc2 BK751.out
                  have hfz88_0 := blk_frozen BK751.out 0
                  have hfz88_1 := blk_frozen BK751.out 1
                  have hfz88_2 := blk_frozen BK751.out 2
                  have hnb89 := NB760_746.out
                  have hnc89 := NB746_760.out
                  have hnb90 := NB760_747.out
                  have hnc90 := NB747_760.out
                  have hcz91_0 := bc0 BK760.out
                  have hcz91_1 := bc1 BK760.out
                  have hcz91_2 := bc2 BK760.out
                  have hfz91_0 := blk_frozen BK760.out 0
                  have hfz91_1 := blk_frozen BK760.out 1
                  have hfz91_2 := blk_frozen BK760.out 2
                  go_wp2
                  go_ret
                  exact ⟨by first | rfl | (simp [errW_none, errW_some] <;> rfl) | (simp [*, errW_none, errW_some] <;> rfl), bl⟩
                · rw [if_neg c84] at H
                  have c84b0 : (t748 == x761000_2 && (t749 == x761001_2 && (t750 == x761002_2))) = false := by simpa using c84
                  (try (have c84b1 : decide (t748 = x761000_2 && (t749 == x761001_2 && (t750 == x761002_2))) = false := by simpa using c84))
                  (try (have c84b2 : (t748 == x761000_2 && (t749 == x761001_2 && (t750 == x761002_2))) = false := by simpa using c84))
                  (try (have c84b3 : ¬ (t748 = x761000_2 && (t749 == x761001_2 && (t750 == x761002_2))) := by simpa using c84))
                  clear c84
                  obtain rfl := Option.some.inj H
                  have hnb92 := NB751_746.out
                  have hnc92 := NB746_751.out
                  have hnb93 := NB751_747.out
                  have hnc93 := NB747_751.out
                  have hnb94 := NB751_760.out
                  have hnc94 := NB760_751.out
                  have hcz95_0 := bc0 BK751.out
                  have hcz95_1 := bc1 BK751.out
                  have hcz95_2 := bc2 BK751.out
                  have hfz95_0 := blk_frozen BK751.out 0
                  have hfz95_1 := blk_frozen BK751.out 1
                  have hfz95_2 := blk_frozen BK751.out 2
                  have hnb96 := NB760_746.out
                  have hnc96 := NB746_760.out
                  have hnb97 := NB760_747.out
                  have hnc97 := NB747_760.out
                  have hcz98_0 := bc0 BK760.out
                  have hcz98_1 := bc1 BK760.out
                  have hcz98_2 := bc2 BK760.out
                  have hfz98_0 := blk_frozen BK760.out 0
                  have hfz98_1 := blk_frozen BK760.out 1
                  have hfz98_2 := blk_frozen BK760.out 2
                  go_wp2
                  go_ret
                  exact ⟨by first | rfl | (simp [errW_none, errW_some] <;> rfl) | (simp [*, errW_none, errW_some] <;> rfl), bl⟩

/-- THE ONE PURE STATEMENT of laws_FnSpanDo: yours. -/
def laws_FnSpanDo.Pure : Prop := ∀ (l0 : List Int), l0.length ≤ maxLen → l0.length * 1 ≤ 140737488351232 → (∀ x ∈ l0, (Lit.int .u8 x).wf = true) → ∃ k, laws_FnSpanDo.f k l0 = some true
theorem laws_FnSpanDo.walk (P : laws_FnSpanDo.Pure) (a0 : Option Addr) (len0 cap0 : Nat) (z0 : List Int) (w : World) (w0 : (a0 = none ∧ len0 = 0 ∧ cap0 = 0 ∧ z0 = []) ∨ ∃ x, a0 = some x ∧ len0 ≤ cap0 ∧ cap0 ≤ maxLen ∧ z0.length = cap0 ∧ (∀ i, i < z0.length → w.cell? (x.add i) = some (.int .u8 (z0.getD i 0))) ∧ ∀ n ∈ z0, (Lit.int .u8 n).wf = true) (y0 : len0 * 1 ≤ 140737488351232) :
    Calls Try.prog 11 #[.slice a0 len0 cap0] w fun e w' => e = .returned (.bool true) ∧ Below w.heap.size w w' := by
  obtain ⟨l0, rfl, hr0, hm0, hw0, hc0⟩ := ReadsInt.ofRowC w0
  obtain ⟨k, h⟩ := P l0 hm0 y0 hw0
  refine (laws_FnSpanDo.calls k _ _ l0 true w (Kd.C_of_reads (d := (0 : Int)) (h1 := fun _ => rfl) hr0) hc0 h).mono ?_
  rintro e w' ⟨rfl, hd⟩
  exact ⟨rfl, hd⟩

end Go.Proofs.Ytekmapilhomdgaa.P
