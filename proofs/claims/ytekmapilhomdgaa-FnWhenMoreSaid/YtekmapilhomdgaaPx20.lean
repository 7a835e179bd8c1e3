/- The contracts of Go functions of this seat: each call comes to what the Lean function of the same name says. -/
import Derived.Test.YtekmapilhomdgaaPx0
import Derived.Test.YtekmapilhomdgaaPx15
import Derived.Test.YtekmapilhomdgaaPx17
import Derived.Test.YtekmapilhomdgaaPx18
import Derived.Test.YtekmapilhomdgaaPx19
namespace Go.Proofs.Ytekmapilhomdgaa.P
open Go.RowKit Go.Proofs.YtekmapilhomdgaaW.PrintWords Go.Proofs.YtekmapilhomdgaaW.PrintLast Go.Proofs.YtekmapilhomdgaaW.PrintMore
attribute [local go_sem] max2_int min2_int max_two min_two max_three min_three max_four min_four   -- for this text's walks alone
set_option linter.unusedVariables false
set_option linter.unusedSimpArgs false

/-! ### spec_SpanWhen: function 17 -/
mutual
def spec_SpanWhen.j0 : Nat → Int → Bool → Bool → Bool → Int → Int → Bool → Int → Int → Option (Bool × Int × Int × Bool × Int × Int)
  | 0, _, _, _, _, _, _, _, _, _ => none
  | k + 1, x0, x3, x27, x250000, x250001, x250002, x251000, x251001, x251002 => if x27 = true then (some (false, 0, 0, false, 0, 0)) else ((spec_l1Not.f k x250000 x250001 x250002 x251000 x251001 x251002).bind fun bt255 => ((spec_l1Not.f k x251000 x251001 x251002 x250000 x250001 x250002).bind fun bt259 => (if x0 = 6 then (spec_SpanWhen.j1 k x0 x3 x3 x250000 x250001 x250002 x251000 x251001 x251002 bt255.1 bt255.2.1 bt255.2.2 bt259.1 bt259.2.1 bt259.2.2) else (spec_SpanWhen.j1 k x0 x3 false x250000 x250001 x250002 x251000 x251001 x251002 bt255.1 bt255.2.1 bt255.2.2 bt259.1 bt259.2.1 bt259.2.2))))
def spec_SpanWhen.j1 : Nat → Int → Bool → Bool → Bool → Int → Int → Bool → Int → Int → Bool → Int → Int → Bool → Int → Int → Option (Bool × Int × Int × Bool × Int × Int)
  | 0, _, _, _, _, _, _, _, _, _, _, _, _, _, _, _ => none
  | k + 1, x0, x3, x40, x250000, x250001, x250002, x251000, x251001, x251002, x259000, x259001, x259002, x263000, x263001, x263002 => if x40 = true then ((spec_SpanMeet.f x250000 x250001 x250002 x251000 x251001 x251002).bind fun bt263 => (spec_SpanWhen.j2 k x0 x3 x250000 x250001 x250002 x251000 x251001 x251002 bt263.1 bt263.2.1 bt263.2.2 bt263.1 bt263.2.1 bt263.2.2)) else (spec_SpanWhen.j2 k x0 x3 x250000 x250001 x250002 x251000 x251001 x251002 x259000 x259001 x259002 x263000 x263001 x263002)
def spec_SpanWhen.j2 : Nat → Int → Bool → Bool → Int → Int → Bool → Int → Int → Bool → Int → Int → Bool → Int → Int → Option (Bool × Int × Int × Bool × Int × Int)
  | 0, _, _, _, _, _, _, _, _, _, _, _, _, _, _ => none
  | k + 1, x0, x3, x250000, x250001, x250002, x251000, x251001, x251002, x259000, x259001, x259002, x263000, x263001, x263002 => if x0 = 5 then (spec_SpanWhen.j3 k x0 x3 x3 x250000 x250001 x250002 x251000 x251001 x251002 x259000 x259001 x259002 x263000 x263001 x263002) else (spec_SpanWhen.j3 k x0 x3 false x250000 x250001 x250002 x251000 x251001 x251002 x259000 x259001 x259002 x263000 x263001 x263002)
def spec_SpanWhen.j3 : Nat → Int → Bool → Bool → Bool → Int → Int → Bool → Int → Int → Bool → Int → Int → Bool → Int → Int → Option (Bool × Int × Int × Bool × Int × Int)
  | 0, _, _, _, _, _, _, _, _, _, _, _, _, _, _, _ => none
  | k + 1, x0, x3, x49, x250000, x250001, x250002, x251000, x251001, x251002, x259000, x259001, x259002, x263000, x263001, x263002 => if x49 = true then ((spec_l1Of.f x250001 (mn x250002 (wrap64 (x251002 - 1)))).bind fun bt266 => ((spec_l1Of.f (mx x251001 (wrap64 (x250001 + 1))) x251002).bind fun bt269 => (spec_SpanWhen.j4 k x0 x3 x250000 x250001 x250002 x251000 x251001 x251002 bt266.1 bt266.2.1 bt266.2.2 bt269.1 bt269.2.1 bt269.2.2))) else (spec_SpanWhen.j4 k x0 x3 x250000 x250001 x250002 x251000 x251001 x251002 x259000 x259001 x259002 x263000 x263001 x263002)
def spec_SpanWhen.j4 : Nat → Int → Bool → Bool → Int → Int → Bool → Int → Int → Bool → Int → Int → Bool → Int → Int → Option (Bool × Int × Int × Bool × Int × Int)
  | 0, _, _, _, _, _, _, _, _, _, _, _, _, _, _ => none
  | k + 1, x0, x3, x250000, x250001, x250002, x251000, x251001, x251002, x259000, x259001, x259002, x263000, x263001, x263002 => if x0 = 5 then (spec_SpanWhen.j5 k (!x3) x250000 x250001 x250002 x251000 x251001 x251002 x259000 x259001 x259002 x263000 x263001 x263002) else (spec_SpanWhen.j5 k false x250000 x250001 x250002 x251000 x251001 x251002 x259000 x259001 x259002 x263000 x263001 x263002)
def spec_SpanWhen.j5 : Nat → Bool → Bool → Int → Int → Bool → Int → Int → Bool → Int → Int → Bool → Int → Int → Option (Bool × Int × Int × Bool × Int × Int)
  | 0, _, _, _, _, _, _, _, _, _, _, _, _, _ => none
  | k + 1, x73, x250000, x250001, x250002, x251000, x251001, x251002, x259000, x259001, x259002, x263000, x263001, x263002 => if x73 = true then ((spec_l1Of.f (mx x250001 x251001) x250002).bind fun bt272 => ((spec_l1Of.f x251001 (mn x251002 x250002)).bind fun bt275 => (if bt272.1 = true then (if bt275.1 = true then (some (bt272.1, bt272.2.1, bt272.2.2, bt275.1, bt275.2.1, bt275.2.2)) else (some (false, 0, 0, false, 0, 0))) else (some (false, 0, 0, false, 0, 0))))) else (if x259000 = true then (if x263000 = true then (some (x259000, x259001, x259002, x263000, x263001, x263002)) else (some (false, 0, 0, false, 0, 0))) else (some (false, 0, 0, false, 0, 0)))
end
def spec_SpanWhen.f (k : Nat) (a0 : Int) (a1_0 : Bool) (a1_1 : Int) (a1_2 : Int) (a2_0 : Bool) (a2_1 : Int) (a2_2 : Int) (a3 : Bool) : Option (Bool × Int × Int × Bool × Int × Int) := (spec_l1Some.f a1_0 a1_1 a1_2).bind fun t253 => (if t253 = true then ((spec_l1Some.f a2_0 a2_1 a2_2).bind fun t254 => (if t254 = true then (if a0 = 5 then (spec_SpanWhen.j0 k a0 a3 false a1_0 a1_1 a1_2 a2_0 a2_1 a2_2) else (spec_SpanWhen.j0 k a0 a3 (a0 != 6) a1_0 a1_1 a1_2 a2_0 a2_1 a2_2)) else (spec_SpanWhen.j0 k a0 a3 true a1_0 a1_1 a1_2 a2_0 a2_1 a2_2))) else (spec_SpanWhen.j0 k a0 a3 true a1_0 a1_1 a1_2 a2_0 a2_1 a2_2))
theorem spec_SpanWhen.mono_l : ∀ k, (∀ y0 y1 y2 y3 y4 y5 y6 y7 y8, LeO (spec_SpanWhen.j0 k y0 y1 y2 y3 y4 y5 y6 y7 y8) (spec_SpanWhen.j0 (k + 1) y0 y1 y2 y3 y4 y5 y6 y7 y8)) ∧ (∀ y0 y1 y2 y3 y4 y5 y6 y7 y8 y9 y10 y11 y12 y13 y14, LeO (spec_SpanWhen.j1 k y0 y1 y2 y3 y4 y5 y6 y7 y8 y9 y10 y11 y12 y13 y14) (spec_SpanWhen.j1 (k + 1) y0 y1 y2 y3 y4 y5 y6 y7 y8 y9 y10 y11 y12 y13 y14)) ∧ (∀ y0 y1 y2 y3 y4 y5 y6 y7 y8 y9 y10 y11 y12 y13, LeO (spec_SpanWhen.j2 k y0 y1 y2 y3 y4 y5 y6 y7 y8 y9 y10 y11 y12 y13) (spec_SpanWhen.j2 (k + 1) y0 y1 y2 y3 y4 y5 y6 y7 y8 y9 y10 y11 y12 y13)) ∧ (∀ y0 y1 y2 y3 y4 y5 y6 y7 y8 y9 y10 y11 y12 y13 y14, LeO (spec_SpanWhen.j3 k y0 y1 y2 y3 y4 y5 y6 y7 y8 y9 y10 y11 y12 y13 y14) (spec_SpanWhen.j3 (k + 1) y0 y1 y2 y3 y4 y5 y6 y7 y8 y9 y10 y11 y12 y13 y14)) ∧ (∀ y0 y1 y2 y3 y4 y5 y6 y7 y8 y9 y10 y11 y12 y13, LeO (spec_SpanWhen.j4 k y0 y1 y2 y3 y4 y5 y6 y7 y8 y9 y10 y11 y12 y13) (spec_SpanWhen.j4 (k + 1) y0 y1 y2 y3 y4 y5 y6 y7 y8 y9 y10 y11 y12 y13)) ∧ (∀ y0 y1 y2 y3 y4 y5 y6 y7 y8 y9 y10 y11 y12, LeO (spec_SpanWhen.j5 k y0 y1 y2 y3 y4 y5 y6 y7 y8 y9 y10 y11 y12) (spec_SpanWhen.j5 (k + 1) y0 y1 y2 y3 y4 y5 y6 y7 y8 y9 y10 y11 y12))
  | 0 => ⟨fun _ _ _ _ _ _ _ _ _ r h => by simp [spec_SpanWhen.j0] at h, fun _ _ _ _ _ _ _ _ _ _ _ _ _ _ _ r h => by simp [spec_SpanWhen.j1] at h, fun _ _ _ _ _ _ _ _ _ _ _ _ _ _ r h => by simp [spec_SpanWhen.j2] at h, fun _ _ _ _ _ _ _ _ _ _ _ _ _ _ _ r h => by simp [spec_SpanWhen.j3] at h, fun _ _ _ _ _ _ _ _ _ _ _ _ _ _ r h => by simp [spec_SpanWhen.j4] at h, fun _ _ _ _ _ _ _ _ _ _ _ _ _ r h => by simp [spec_SpanWhen.j5] at h⟩
  | k + 1 => by
    obtain ⟨ih0, ih1, ih2, ih3, ih4, ih5⟩ := spec_SpanWhen.mono_l k
    refine ⟨?_, ?_, ?_, ?_, ?_, ?_⟩
    · intro y0 y1 y2 y3 y4 y5 y6 y7 y8
      unfold spec_SpanWhen.j0
      repeat' first
      | (with_reducible exact ih0 _ _ _ _ _ _ _ _ _)
      | (with_reducible exact ih1 _ _ _ _ _ _ _ _ _ _ _ _ _ _ _)
      | (with_reducible exact ih2 _ _ _ _ _ _ _ _ _ _ _ _ _ _)
      | (with_reducible exact ih3 _ _ _ _ _ _ _ _ _ _ _ _ _ _ _)
      | (with_reducible exact ih4 _ _ _ _ _ _ _ _ _ _ _ _ _ _)
      | (with_reducible exact ih5 _ _ _ _ _ _ _ _ _ _ _ _ _)
      | (with_reducible exact spec_l1Not.mono _ _ _ _ _ _ _)
      | (with_reducible exact LeO.refl _)
      | (with_reducible exact LeO.none _)
      | (with_reducible refine LeO.ite ?_ ?_)
      | (with_reducible refine LeO.bind ?_ (fun _ => ?_))
      | exact ih0 _ _ _ _ _ _ _ _ _
      | exact ih1 _ _ _ _ _ _ _ _ _ _ _ _ _ _ _
      | exact ih2 _ _ _ _ _ _ _ _ _ _ _ _ _ _
      | exact ih3 _ _ _ _ _ _ _ _ _ _ _ _ _ _ _
      | exact ih4 _ _ _ _ _ _ _ _ _ _ _ _ _ _
      | exact ih5 _ _ _ _ _ _ _ _ _ _ _ _ _
      | exact spec_l1Not.mono _ _ _ _ _ _ _
      | exact LeO.none _
      | refine LeO.ite ?_ ?_
      | refine LeO.bind ?_ (fun _ => ?_)
    · intro y0 y1 y2 y3 y4 y5 y6 y7 y8 y9 y10 y11 y12 y13 y14
      unfold spec_SpanWhen.j1
      repeat' first
      | (with_reducible exact ih0 _ _ _ _ _ _ _ _ _)
      | (with_reducible exact ih1 _ _ _ _ _ _ _ _ _ _ _ _ _ _ _)
      | (with_reducible exact ih2 _ _ _ _ _ _ _ _ _ _ _ _ _ _)
      | (with_reducible exact ih3 _ _ _ _ _ _ _ _ _ _ _ _ _ _ _)
      | (with_reducible exact ih4 _ _ _ _ _ _ _ _ _ _ _ _ _ _)
      | (with_reducible exact ih5 _ _ _ _ _ _ _ _ _ _ _ _ _)
      | (with_reducible exact spec_l1Not.mono _ _ _ _ _ _ _)
      | (with_reducible exact LeO.refl _)
      | (with_reducible exact LeO.none _)
      | (with_reducible refine LeO.ite ?_ ?_)
      | (with_reducible refine LeO.bind ?_ (fun _ => ?_))
      | exact ih0 _ _ _ _ _ _ _ _ _
      | exact ih1 _ _ _ _ _ _ _ _ _ _ _ _ _ _ _
      | exact ih2 _ _ _ _ _ _ _ _ _ _ _ _ _ _
      | exact ih3 _ _ _ _ _ _ _ _ _ _ _ _ _ _ _
      | exact ih4 _ _ _ _ _ _ _ _ _ _ _ _ _ _
      | exact ih5 _ _ _ _ _ _ _ _ _ _ _ _ _
      | exact spec_l1Not.mono _ _ _ _ _ _ _
      | exact LeO.none _
      | refine LeO.ite ?_ ?_
      | refine LeO.bind ?_ (fun _ => ?_)
    · intro y0 y1 y2 y3 y4 y5 y6 y7 y8 y9 y10 y11 y12 y13
      unfold spec_SpanWhen.j2
      repeat' first
      | (with_reducible exact ih0 _ _ _ _ _ _ _ _ _)
      | (with_reducible exact ih1 _ _ _ _ _ _ _ _ _ _ _ _ _ _ _)
      | (with_reducible exact ih2 _ _ _ _ _ _ _ _ _ _ _ _ _ _)
      | (with_reducible exact ih3 _ _ _ _ _ _ _ _ _ _ _ _ _ _ _)
      | (with_reducible exact ih4 _ _ _ _ _ _ _ _ _ _ _ _ _ _)
      | (with_reducible exact ih5 _ _ _ _ _ _ _ _ _ _ _ _ _)
      | (with_reducible exact spec_l1Not.mono _ _ _ _ _ _ _)
      | (with_reducible exact LeO.refl _)
      | (with_reducible exact LeO.none _)
      | (with_reducible refine LeO.ite ?_ ?_)
      | (with_reducible refine LeO.bind ?_ (fun _ => ?_))
      | exact ih0 _ _ _ _ _ _ _ _ _
      | exact ih1 _ _ _ _ _ _ _ _ _ _ _ _ _ _ _
      | exact ih2 _ _ _ _ _ _ _ _ _ _ _ _ _ _
      | exact ih3 _ _ _ _ _ _ _ _ _ _ _ _ _ _ _
      | exact ih4 _ _ _ _ _ _ _ _ _ _ _ _ _ _
      | exact ih5 _ _ _ _ _ _ _ _ _ _ _ _ _
      | exact spec_l1Not.mono _ _ _ _ _ _ _
      | exact LeO.none _
      | refine LeO.ite ?_ ?_
      | refine LeO.bind ?_ (fun _ => ?_)
    · intro y0 y1 y2 y3 y4 y5 y6 y7 y8 y9 y10 y11 y12 y13 y14
      unfold spec_SpanWhen.j3
      repeat' first
      | (with_reducible exact ih0 _ _ _ _ _ _ _ _ _)
      | (with_reducible exact ih1 _ _ _ _ _ _ _ _ _ _ _ _ _ _ _)
      | (with_reducible exact ih2 _ _ _ _ _ _ _ _ _ _ _ _ _ _)
      | (with_reducible exact ih3 _ _ _ _ _ _ _ _ _ _ _ _ _ _ _)
      | (with_reducible exact ih4 _ _ _ _ _ _ _ _ _ _ _ _ _ _)
      | (with_reducible exact ih5 _ _ _ _ _ _ _ _ _ _ _ _ _)
      | (with_reducible exact spec_l1Not.mono _ _ _ _ _ _ _)
      | (with_reducible exact LeO.refl _)
      | (with_reducible exact LeO.none _)
      | (with_reducible refine LeO.ite ?_ ?_)
      | (with_reducible refine LeO.bind ?_ (fun _ => ?_))
      | exact ih0 _ _ _ _ _ _ _ _ _
      | exact ih1 _ _ _ _ _ _ _ _ _ _ _ _ _ _ _
      | exact ih2 _ _ _ _ _ _ _ _ _ _ _ _ _ _
      | exact ih3 _ _ _ _ _ _ _ _ _ _ _ _ _ _ _
      | exact ih4 _ _ _ _ _ _ _ _ _ _ _ _ _ _
      | exact ih5 _ _ _ _ _ _ _ _ _ _ _ _ _
      | exact spec_l1Not.mono _ _ _ _ _ _ _
      | exact LeO.none _
      | refine LeO.ite ?_ ?_
      | refine LeO.bind ?_ (fun _ => ?_)
    · intro y0 y1 y2 y3 y4 y5 y6 y7 y8 y9 y10 y11 y12 y13
      unfold spec_SpanWhen.j4
      repeat' first
      | (with_reducible exact ih0 _ _ _ _ _ _ _ _ _)
      | (with_reducible exact ih1 _ _ _ _ _ _ _ _ _ _ _ _ _ _ _)
      | (with_reducible exact ih2 _ _ _ _ _ _ _ _ _ _ _ _ _ _)
      | (with_reducible exact ih3 _ _ _ _ _ _ _ _ _ _ _ _ _ _ _)
      | (with_reducible exact ih4 _ _ _ _ _ _ _ _ _ _ _ _ _ _)
      | (with_reducible exact ih5 _ _ _ _ _ _ _ _ _ _ _ _ _)
      | (with_reducible exact spec_l1Not.mono _ _ _ _ _ _ _)
      | (with_reducible exact LeO.refl _)
      | (with_reducible exact LeO.none _)
      | (with_reducible refine LeO.ite ?_ ?_)
      | (with_reducible refine LeO.bind ?_ (fun _ => ?_))
      | exact ih0 _ _ _ _ _ _ _ _ _
      | exact ih1 _ _ _ _ _ _ _ _ _ _ _ _ _ _ _
      | exact ih2 _ _ _ _ _ _ _ _ _ _ _ _ _ _
      | exact ih3 _ _ _ _ _ _ _ _ _ _ _ _ _ _ _
      | exact ih4 _ _ _ _ _ _ _ _ _ _ _ _ _ _
      | exact ih5 _ _ _ _ _ _ _ _ _ _ _ _ _
      | exact spec_l1Not.mono _ _ _ _ _ _ _
      | exact LeO.none _
      | refine LeO.ite ?_ ?_
      | refine LeO.bind ?_ (fun _ => ?_)
    · intro y0 y1 y2 y3 y4 y5 y6 y7 y8 y9 y10 y11 y12
      unfold spec_SpanWhen.j5
      repeat' first
      | (with_reducible exact ih0 _ _ _ _ _ _ _ _ _)
      | (with_reducible exact ih1 _ _ _ _ _ _ _ _ _ _ _ _ _ _ _)
      | (with_reducible exact ih2 _ _ _ _ _ _ _ _ _ _ _ _ _ _)
      | (with_reducible exact ih3 _ _ _ _ _ _ _ _ _ _ _ _ _ _ _)
      | (with_reducible exact ih4 _ _ _ _ _ _ _ _ _ _ _ _ _ _)
      | (with_reducible exact ih5 _ _ _ _ _ _ _ _ _ _ _ _ _)
      | (with_reducible exact spec_l1Not.mono _ _ _ _ _ _ _)
      | (with_reducible exact LeO.refl _)
      | (with_reducible exact LeO.none _)
      | (with_reducible refine LeO.ite ?_ ?_)
      | (with_reducible refine LeO.bind ?_ (fun _ => ?_))
      | exact ih0 _ _ _ _ _ _ _ _ _
      | exact ih1 _ _ _ _ _ _ _ _ _ _ _ _ _ _ _
      | exact ih2 _ _ _ _ _ _ _ _ _ _ _ _ _ _
      | exact ih3 _ _ _ _ _ _ _ _ _ _ _ _ _ _ _
      | exact ih4 _ _ _ _ _ _ _ _ _ _ _ _ _ _
      | exact ih5 _ _ _ _ _ _ _ _ _ _ _ _ _
      | exact spec_l1Not.mono _ _ _ _ _ _ _
      | exact LeO.none _
      | refine LeO.ite ?_ ?_
      | refine LeO.bind ?_ (fun _ => ?_)
theorem spec_SpanWhen.mono : ∀ a0 a1 a2 a3 a4 a5 a6 a7 k, LeO (spec_SpanWhen.f k a0 a1 a2 a3 a4 a5 a6 a7) (spec_SpanWhen.f (k + 1) a0 a1 a2 a3 a4 a5 a6 a7) := by
  intro a0 a1 a2 a3 a4 a5 a6 a7 k
  obtain ⟨ih0, ih1, ih2, ih3, ih4, ih5⟩ := spec_SpanWhen.mono_l k
  unfold spec_SpanWhen.f
  repeat' first
      | (with_reducible exact ih0 _ _ _ _ _ _ _ _ _)
      | (with_reducible exact ih1 _ _ _ _ _ _ _ _ _ _ _ _ _ _ _)
      | (with_reducible exact ih2 _ _ _ _ _ _ _ _ _ _ _ _ _ _)
      | (with_reducible exact ih3 _ _ _ _ _ _ _ _ _ _ _ _ _ _ _)
      | (with_reducible exact ih4 _ _ _ _ _ _ _ _ _ _ _ _ _ _)
      | (with_reducible exact ih5 _ _ _ _ _ _ _ _ _ _ _ _ _)
      | (with_reducible exact spec_l1Not.mono _ _ _ _ _ _ _)
      | (with_reducible exact LeO.refl _)
      | (with_reducible exact LeO.none _)
      | (with_reducible refine LeO.ite ?_ ?_)
      | (with_reducible refine LeO.bind ?_ (fun _ => ?_))
      | exact ih0 _ _ _ _ _ _ _ _ _
      | exact ih1 _ _ _ _ _ _ _ _ _ _ _ _ _ _ _
      | exact ih2 _ _ _ _ _ _ _ _ _ _ _ _ _ _
      | exact ih3 _ _ _ _ _ _ _ _ _ _ _ _ _ _ _
      | exact ih4 _ _ _ _ _ _ _ _ _ _ _ _ _ _
      | exact ih5 _ _ _ _ _ _ _ _ _ _ _ _ _
      | exact spec_l1Not.mono _ _ _ _ _ _ _
      | exact LeO.none _
      | refine LeO.ite ?_ ?_
      | refine LeO.bind ?_ (fun _ => ?_)
set_option maxHeartbeats 8000000 in
set_option maxRecDepth 100000 in
theorem spec_SpanWhen.calls (k : Nat) (a0 : Int) (a1_0 : Bool) (a1_1 : Int) (a1_2 : Int) (a2_0 : Bool) (a2_1 : Int) (a2_2 : Int) (a3 : Bool) (r1 : Bool) (r2 : Int) (r3 : Int) (r4 : Bool) (r5 : Int) (r6 : Int) (w : World) (h : spec_SpanWhen.f k a0 a1_0 a1_1 a1_2 a2_0 a2_1 a2_2 a3 = some (r1, r2, r3, r4, r5, r6)) :
    Calls Try.prog 17 #[.int .i64 a0, .agg #[.bool a1_0, .int .i64 a1_1, .int .i64 a1_2], .agg #[.bool a2_0, .int .i64 a2_1, .int .i64 a2_2], .bool a3] w fun e w' => e = .returned (.tuple #[.agg #[.bool r1, .int .i64 r2, .int .i64 r3], .agg #[.bool r4, .int .i64 r5, .int .i64 r6]]) ∧ Below w.heap.size w w' := by
  have hu30 := Try.underlying30
  have HB := Bl.mk (Below.refl w.heap.size w)
  unfold spec_SpanWhen.f at h
  have H := h
  clear h
  have HC5 := Aside0.mk H
  clear H
  go_enter Try.func17, Try.ntmps17
  go_upto_region 1 with (first | ((with_reducible refine gate_dst (N := 5) rfl ?_); refine box_event ?hg (N := 5) ?hd (cs := #[.bool a1_0, .int .i64 a1_1, .int .i64 a1_2]) (t := 30) ?hr ?_; (case hd => rfl); (case hg => rfl); (case hr => first | (go_simp; done) | (go_simp; rfl)); intro gb249 hg w6 hbox hb; have n0_ := Bl.mk (below_step bl hb); have n1_ := Bk.mk (hbox); have n2_ := Aside0.mk ((by rw [hg]; exact (below_size bl) : w.heap.size ≤ gb249)); have n3_ := Gl.mk ((by rw [hg]; exact (below_size bl) : w.heap.size ≤ gb249)); clear HB; have HB := n0_; have BK249 := n1_; have GW249 := n2_; have GE249 := n3_; clear n0_ n1_ n2_ n3_; clear hb hbox hg) | ((with_reducible refine gate_dst (N := 6) rfl ?_); refine box_event ?hg (N := 6) ?hd (cs := #[.bool a2_0, .int .i64 a2_1, .int .i64 a2_2]) (t := 30) ?hr ?_; (case hd => rfl); (case hg => rfl); (case hr => first | (go_simp; done) | (go_simp; rfl)); intro gb250 hg w7 hbox hb; have n0_ := Bk.mk (blk_below (g := gb249) bk hb); have n1_ := Bl.mk (below_step bl hb); have n2_ := Bk.mk (hbox); have n3_ := Aside0.mk ((by rw [hg]; exact (below_size bl) : w.heap.size ≤ gb250)); have n4_ := Gl.mk ((by rw [hg]; exact (below_size bl) : w.heap.size ≤ gb250)); have n5_ := Nb.mk ((by rw [hg]; exact Nat.ne_of_lt (blk_lt (g := gb249) bk) : gb249 ≠ gb250)); have n6_ := Nb.mk ((by rw [hg]; exact Nat.ne_of_gt (blk_lt (g := gb249) bk) : gb250 ≠ gb249)); clear BK249; clear HB; have BK249 := n0_; have HB := n1_; have BK250 := n2_; have GW250 := n3_; have GE250 := n4_; have NB249_250 := n5_; have NB250_249 := n6_; clear n0_ n1_ n2_ n3_ n4_ n5_ n6_; clear hb hbox hg) | ((with_reducible refine gate_dst (N := 8) rfl ?_); refine box_event ?hg (N := 8) ?hd (cs := #[.bool false, .int .i64 0, .int .i64 0]) (t := 30) ?hr ?_; (case hd => rfl); (case hg => rfl); (case hr => first | (go_simp; done) | (go_simp; rfl)); intro gb251 hg w8 hbox hb; have n0_ := Bk.mk (blk_below (g := gb249) bk hb); have n1_ := Bk.mk (blk_below (g := gb250) bk hb); have n2_ := Bl.mk (below_step bl hb); have n3_ := Bk.mk (hbox); have n4_ := Aside0.mk ((by rw [hg]; exact (below_size bl) : w.heap.size ≤ gb251)); have n5_ := Gl.mk ((by rw [hg]; exact (below_size bl) : w.heap.size ≤ gb251)); have n6_ := Nb.mk ((by rw [hg]; exact Nat.ne_of_lt (blk_lt (g := gb249) bk) : gb249 ≠ gb251)); have n7_ := Nb.mk ((by rw [hg]; exact Nat.ne_of_gt (blk_lt (g := gb249) bk) : gb251 ≠ gb249)); have n8_ := Nb.mk ((by rw [hg]; exact Nat.ne_of_lt (blk_lt (g := gb250) bk) : gb250 ≠ gb251)); have n9_ := Nb.mk ((by rw [hg]; exact Nat.ne_of_gt (blk_lt (g := gb250) bk) : gb251 ≠ gb250)); clear BK249; clear BK250; clear HB; have BK249 := n0_; have BK250 := n1_; have HB := n2_; have BK251 := n3_; have GW251 := n4_; have GE251 := n5_; have NB249_251 := n6_; have NB251_249 := n7_; have NB250_251 := n8_; have NB251_250 := n9_; clear n0_ n1_ n2_ n3_ n4_ n5_ n6_ n7_ n8_ n9_; clear hb hbox hg) | ((with_reducible refine gate_dst (N := 9) rfl ?_); refine box_event ?hg (N := 9) ?hd (cs := #[.bool false, .int .i64 0, .int .i64 0]) (t := 30) ?hr ?_; (case hd => rfl); (case hg => rfl); (case hr => first | (go_simp; done) | (go_simp; rfl)); intro gb252 hg w9 hbox hb; have n0_ := Bk.mk (blk_below (g := gb249) bk hb); have n1_ := Bk.mk (blk_below (g := gb250) bk hb); have n2_ := Bk.mk (blk_below (g := gb251) bk hb); have n3_ := Bl.mk (below_step bl hb); have n4_ := Bk.mk (hbox); have n5_ := Aside0.mk ((by rw [hg]; exact (below_size bl) : w.heap.size ≤ gb252)); have n6_ := Gl.mk ((by rw [hg]; exact (below_size bl) : w.heap.size ≤ gb252)); have n7_ := Nb.mk ((by rw [hg]; exact Nat.ne_of_lt (blk_lt (g := gb249) bk) : gb249 ≠ gb252)); have n8_ := Nb.mk ((by rw [hg]; exact Nat.ne_of_gt (blk_lt (g := gb249) bk) : gb252 ≠ gb249)); have n9_ := Nb.mk ((by rw [hg]; exact Nat.ne_of_lt (blk_lt (g := gb250) bk) : gb250 ≠ gb252)); have n10_ := Nb.mk ((by rw [hg]; exact Nat.ne_of_gt (blk_lt (g := gb250) bk) : gb252 ≠ gb250)); have n11_ := Nb.mk ((by rw [hg]; exact Nat.ne_of_lt (blk_lt (g := gb251) bk) : gb251 ≠ gb252)); have n12_ := Nb.mk ((by rw [hg]; exact Nat.ne_of_gt (blk_lt (g := gb251) bk) : gb252 ≠ gb251)); clear BK249; clear BK250; clear BK251; clear HB; have BK249 := n0_; have BK250 := n1_; have BK251 := n2_; have HB := n3_; have BK252 := n4_; have GW252 := n5_; have GE252 := n6_; have NB249_252 := n7_; have NB252_249 := n8_; have NB250_252 := n9_; have NB252_250 := n10_; have NB251_252 := n11_; have NB252_251 := n12_; clear n0_ n1_ n2_ n3_ n4_ n5_ n6_ n7_ n8_ n9_ n10_ n11_ n12_; clear hb hbox hg))
  (try simp only [Act.put, List.setIfInBounds_toArray, List.set_cons_zero, List.set_cons_succ])
  go_cut [27] (fun v27 wc => ∃ (kq : Nat) (x27_4 : Bool), v27 = .bool x27_4 ∧ Aside0 (spec_SpanWhen.j0 kq a0 a3 x27_4 a1_0 a1_1 a1_2 a2_0 a2_1 a2_2 = some (r1, r2, r3, r4, r5, r6)) ∧ Aside0 (kq ≤ k) ∧ Bk wc gb249 (.cells #[.bool a1_0, .int .i64 a1_1, .int .i64 a1_2] 30 (0, 0)) ∧ Bk wc gb250 (.cells #[.bool a2_0, .int .i64 a2_1, .int .i64 a2_2] 30 (0, 0)) ∧ Bk wc gb251 (.cells #[.bool false, .int .i64 0, .int .i64 0] 30 (0, 0)) ∧ Bk wc gb252 (.cells #[.bool false, .int .i64 0, .int .i64 0] 30 (0, 0)) ∧ Bl w.heap.size w wc)
  case first =>
    have H := HC5.out
    clear HC5
    replace H := Option.bind_eq_some_iff.mp H
    obtain ⟨t253, A100, H⟩ := H
    try dsimp only at H
    have A10 := Aside0.mk A100
    clear A100
    by_cases c11 : t253 = true
    · subst c11
      rw [if_pos rfl] at H
      replace H := Option.bind_eq_some_iff.mp H
      obtain ⟨t254, A120, H⟩ := H
      try dsimp only at H
      have A12 := Aside0.mk A120
      clear A120
      by_cases c13 : t254 = true
      · subst c13
        rw [if_pos rfl] at H
        by_cases c14 : a0 = 5
        · rw [if_pos c14] at H
          have c14b0 : (a0 == 5) = true := beq_iff_eq.mpr c14
          have c14b1 : (a0 != 5) = false := bne_eq_false_iff_eq.mpr c14
          clear c14
          (first | rw [c14b0] | (simp only [i64_w, i32_w]; rw [c14b0]) | skip)
          have H' := Aside0.mk H
          clear H
          have hnb15 := NB249_250.out
          have hnc15 := NB250_249.out
          have hnb16 := NB249_251.out
          have hnc16 := NB251_249.out
          have hnb17 := NB249_252.out
          have hnc17 := NB252_249.out
          have hcz18_0 := bc0 BK249.out
          have hcz18_1 := bc1 BK249.out
          have hcz18_2 := bc2 BK249.out
          have hfz18_0 := blk_frozen BK249.out 0
          have hfz18_1 := blk_frozen BK249.out 1
          have hfz18_2 := blk_frozen BK249.out 2
          go_wp2_with (first | ((with_reducible refine gate_callee (f := 42) rfl ?_); refine goesL_ (some 13) rfl rfl Try.func42 (by kernel_rfl) rfl #[.agg #[.bool a1_0, .int .i64 a1_1, .int .i64 a1_2]] rfl (by (try simp only [List.map_toArray, List.map_cons, List.map_nil]); first | done | rfl | (simp only [List.length_drop, List.length_take]; rfl)) ?_; (with_reducible refine (spec_l1Some.calls a1_0 a1_1 a1_2 true _ A10.out).mono ?_); rintro e w19 ⟨rfl, hb⟩; refine ⟨_, rfl, ?_⟩; have n0_ := Bk.mk (blk_below (g := gb249) bk hb); have n1_ := Bk.mk (blk_below (g := gb250) bk hb); have n2_ := Bk.mk (blk_below (g := gb251) bk hb); have n3_ := Bk.mk (blk_below (g := gb252) bk hb); have n4_ := Bl.mk (below_step bl hb); clear BK249; clear BK250; clear BK251; clear BK252; clear HB; have BK249 := n0_; have BK250 := n1_; have BK251 := n2_; have BK252 := n3_; have HB := n4_; clear n0_ n1_ n2_ n3_ n4_; (try clear hb); (try clear hb2); (try clear hk); (try clear hi); have hnb20 := NB250_251.out; have hnc20 := NB251_250.out; have hnb21 := NB250_252.out; have hnc21 := NB252_250.out; have hcz22_0 := bc0 BK250.out; have hcz22_1 := bc1 BK250.out; have hcz22_2 := bc2 BK250.out; have hfz22_0 := blk_frozen BK250.out 0; have hfz22_1 := blk_frozen BK250.out 1; have hfz22_2 := blk_frozen BK250.out 2) | (go_at_call 42; (with_reducible refine (spec_l1Some.calls a2_0 a2_1 a2_2 true _ A12.out).mono ?_); rintro e w23 ⟨rfl, hb⟩; have n0_ := Bk.mk (blk_below (g := gb249) bk hb); have n1_ := Bk.mk (blk_below (g := gb250) bk hb); have n2_ := Bk.mk (blk_below (g := gb251) bk hb); have n3_ := Bk.mk (blk_below (g := gb252) bk hb); have n4_ := Bl.mk (below_step bl hb); clear BK249; clear BK250; clear BK251; clear BK252; clear HB; have BK249 := n0_; have BK250 := n1_; have BK251 := n2_; have BK252 := n3_; have HB := n4_; clear n0_ n1_ n2_ n3_ n4_; (try clear hb); (try clear hb2); (try clear hk); (try clear hi)))
          go_meet
          case rel => exact ⟨_, (false), (by first | rfl | (simp; done) | (simp [*]; done)), H', ⟨by first | omega | exact Nat.le_refl _⟩, ⟨bk⟩, ⟨bk⟩, ⟨bk⟩, ⟨bk⟩, ⟨bl⟩⟩
        · rw [if_neg c14] at H
          have c14b0 : (a0 == 5) = false := beq_eq_false_iff_ne.mpr c14
          have c14b1 : (a0 != 5) = true := bne_iff_ne.mpr c14
          (first | rw [c14b0] | (simp only [i64_w, i32_w]; rw [c14b0]) | skip)
          have H' := Aside0.mk H
          clear H
          have hnb24 := NB249_250.out
          have hnc24 := NB250_249.out
          have hnb25 := NB249_251.out
          have hnc25 := NB251_249.out
          have hnb26 := NB249_252.out
          have hnc26 := NB252_249.out
          have hcz27_0 := bc0 BK249.out
          have hcz27_1 := bc1 BK249.out
          have hcz27_2 := bc2 BK249.out
          have hfz27_0 := blk_frozen BK249.out 0
          have hfz27_1 := blk_frozen BK249.out 1
          have hfz27_2 := blk_frozen BK249.out 2
          go_wp2_with (first | ((with_reducible refine gate_callee (f := 42) rfl ?_); refine goesL_ (some 13) rfl rfl Try.func42 (by kernel_rfl) rfl #[.agg #[.bool a1_0, .int .i64 a1_1, .int .i64 a1_2]] rfl (by (try simp only [List.map_toArray, List.map_cons, List.map_nil]); first | done | rfl | (simp only [List.length_drop, List.length_take]; rfl)) ?_; (with_reducible refine (spec_l1Some.calls a1_0 a1_1 a1_2 true _ A10.out).mono ?_); rintro e w28 ⟨rfl, hb⟩; refine ⟨_, rfl, ?_⟩; have n0_ := Bk.mk (blk_below (g := gb249) bk hb); have n1_ := Bk.mk (blk_below (g := gb250) bk hb); have n2_ := Bk.mk (blk_below (g := gb251) bk hb); have n3_ := Bk.mk (blk_below (g := gb252) bk hb); have n4_ := Bl.mk (below_step bl hb); clear BK249; clear BK250; clear BK251; clear BK252; clear HB; have BK249 := n0_; have BK250 := n1_; have BK251 := n2_; have BK252 := n3_; have HB := n4_; clear n0_ n1_ n2_ n3_ n4_; (try clear hb); (try clear hb2); (try clear hk); (try clear hi); have hnb29 := NB250_251.out; have hnc29 := NB251_250.out; have hnb30 := NB250_252.out; have hnc30 := NB252_250.out; have hcz31_0 := bc0 BK250.out; have hcz31_1 := bc1 BK250.out; have hcz31_2 := bc2 BK250.out; have hfz31_0 := blk_frozen BK250.out 0; have hfz31_1 := blk_frozen BK250.out 1; have hfz31_2 := blk_frozen BK250.out 2) | (go_at_call 42; (with_reducible refine (spec_l1Some.calls a2_0 a2_1 a2_2 true _ A12.out).mono ?_); rintro e w32 ⟨rfl, hb⟩; have n0_ := Bk.mk (blk_below (g := gb249) bk hb); have n1_ := Bk.mk (blk_below (g := gb250) bk hb); have n2_ := Bk.mk (blk_below (g := gb251) bk hb); have n3_ := Bk.mk (blk_below (g := gb252) bk hb); have n4_ := Bl.mk (below_step bl hb); clear BK249; clear BK250; clear BK251; clear BK252; clear HB; have BK249 := n0_; have BK250 := n1_; have BK251 := n2_; have BK252 := n3_; have HB := n4_; clear n0_ n1_ n2_ n3_ n4_; (try clear hb); (try clear hb2); (try clear hk); (try clear hi)))
          go_meet
          case rel => exact ⟨_, ((a0 != 6)), (by first | rfl | (simp; done) | (simp [*]; done)), H', ⟨by first | omega | exact Nat.le_refl _⟩, ⟨bk⟩, ⟨bk⟩, ⟨bk⟩, ⟨bk⟩, ⟨bl⟩⟩
      · replace c13 := Bool.eq_false_iff.mpr c13
        subst c13
        rw [if_neg (show ¬ (false = true) by decide)] at H
        have H' := Aside0.mk H
        clear H
        have hnb33 := NB249_250.out
        have hnc33 := NB250_249.out
        have hnb34 := NB249_251.out
        have hnc34 := NB251_249.out
        have hnb35 := NB249_252.out
        have hnc35 := NB252_249.out
        have hcz36_0 := bc0 BK249.out
        have hcz36_1 := bc1 BK249.out
        have hcz36_2 := bc2 BK249.out
        have hfz36_0 := blk_frozen BK249.out 0
        have hfz36_1 := blk_frozen BK249.out 1
        have hfz36_2 := blk_frozen BK249.out 2
        go_wp2_with (first | ((with_reducible refine gate_callee (f := 42) rfl ?_); refine goesL_ (some 13) rfl rfl Try.func42 (by kernel_rfl) rfl #[.agg #[.bool a1_0, .int .i64 a1_1, .int .i64 a1_2]] rfl (by (try simp only [List.map_toArray, List.map_cons, List.map_nil]); first | done | rfl | (simp only [List.length_drop, List.length_take]; rfl)) ?_; (with_reducible refine (spec_l1Some.calls a1_0 a1_1 a1_2 true _ A10.out).mono ?_); rintro e w37 ⟨rfl, hb⟩; refine ⟨_, rfl, ?_⟩; have n0_ := Bk.mk (blk_below (g := gb249) bk hb); have n1_ := Bk.mk (blk_below (g := gb250) bk hb); have n2_ := Bk.mk (blk_below (g := gb251) bk hb); have n3_ := Bk.mk (blk_below (g := gb252) bk hb); have n4_ := Bl.mk (below_step bl hb); clear BK249; clear BK250; clear BK251; clear BK252; clear HB; have BK249 := n0_; have BK250 := n1_; have BK251 := n2_; have BK252 := n3_; have HB := n4_; clear n0_ n1_ n2_ n3_ n4_; (try clear hb); (try clear hb2); (try clear hk); (try clear hi); have hnb38 := NB250_251.out; have hnc38 := NB251_250.out; have hnb39 := NB250_252.out; have hnc39 := NB252_250.out; have hcz40_0 := bc0 BK250.out; have hcz40_1 := bc1 BK250.out; have hcz40_2 := bc2 BK250.out; have hfz40_0 := blk_frozen BK250.out 0; have hfz40_1 := blk_frozen BK250.out 1; have hfz40_2 := blk_frozen BK250.out 2) | (go_at_call 42; (with_reducible refine (spec_l1Some.calls a2_0 a2_1 a2_2 false _ A12.out).mono ?_); rintro e w41 ⟨rfl, hb⟩; have n0_ := Bk.mk (blk_below (g := gb249) bk hb); have n1_ := Bk.mk (blk_below (g := gb250) bk hb); have n2_ := Bk.mk (blk_below (g := gb251) bk hb); have n3_ := Bk.mk (blk_below (g := gb252) bk hb); have n4_ := Bl.mk (below_step bl hb); clear BK249; clear BK250; clear BK251; clear BK252; clear HB; have BK249 := n0_; have BK250 := n1_; have BK251 := n2_; have BK252 := n3_; have HB := n4_; clear n0_ n1_ n2_ n3_ n4_; (try clear hb); (try clear hb2); (try clear hk); (try clear hi)))
        go_meet
        case rel => exact ⟨_, (true), (by first | rfl | (simp; done) | (simp [*]; done)), H', ⟨by first | omega | exact Nat.le_refl _⟩, ⟨bk⟩, ⟨bk⟩, ⟨bk⟩, ⟨bk⟩, ⟨bl⟩⟩
    · replace c11 := Bool.eq_false_iff.mpr c11
      subst c11
      rw [if_neg (show ¬ (false = true) by decide)] at H
      have H' := Aside0.mk H
      clear H
      have hnb42 := NB249_250.out
      have hnc42 := NB250_249.out
      have hnb43 := NB249_251.out
      have hnc43 := NB251_249.out
      have hnb44 := NB249_252.out
      have hnc44 := NB252_249.out
      have hcz45_0 := bc0 BK249.out
      have hcz45_1 := bc1 BK249.out
      have hcz45_2 := bc2 BK249.out
      have hfz45_0 := blk_frozen BK249.out 0
      have hfz45_1 := blk_frozen BK249.out 1
      have hfz45_2 := blk_frozen BK249.out 2
      go_wp2_with (first | ((with_reducible refine gate_callee (f := 42) rfl ?_); refine goesL_ (some 13) rfl rfl Try.func42 (by kernel_rfl) rfl #[.agg #[.bool a1_0, .int .i64 a1_1, .int .i64 a1_2]] rfl (by (try simp only [List.map_toArray, List.map_cons, List.map_nil]); first | done | rfl | (simp only [List.length_drop, List.length_take]; rfl)) ?_; (with_reducible refine (spec_l1Some.calls a1_0 a1_1 a1_2 false _ A10.out).mono ?_); rintro e w46 ⟨rfl, hb⟩; refine ⟨_, rfl, ?_⟩; have n0_ := Bk.mk (blk_below (g := gb249) bk hb); have n1_ := Bk.mk (blk_below (g := gb250) bk hb); have n2_ := Bk.mk (blk_below (g := gb251) bk hb); have n3_ := Bk.mk (blk_below (g := gb252) bk hb); have n4_ := Bl.mk (below_step bl hb); clear BK249; clear BK250; clear BK251; clear BK252; clear HB; have BK249 := n0_; have BK250 := n1_; have BK251 := n2_; have BK252 := n3_; have HB := n4_; clear n0_ n1_ n2_ n3_ n4_; (try clear hb); (try clear hb2); (try clear hk); (try clear hi)))
      go_meet
      case rel => exact ⟨_, (true), (by first | rfl | (simp; done) | (simp [*]; done)), H', ⟨by first | omega | exact Nat.le_refl _⟩, ⟨bk⟩, ⟨bk⟩, ⟨bk⟩, ⟨bk⟩, ⟨bl⟩⟩
  case rest =>
    clear HC5
    try clear c1
    try clear c2
    try clear p2
    try clear c3
    try clear c4
    try clear c11
    try clear c13
    try clear c14
    try clear c14b0
    try clear c14b1
    try clear c15
    try clear c16
    try clear c17
    try clear c20
    try clear c21
    try clear c24
    try clear c25
    try clear c26
    try clear c29
    try clear c30
    try clear c33
    try clear c34
    try clear c35
    try clear c38
    try clear c39
    try clear c42
    try clear c43
    try clear c44
    try clear hcz18_0
    try clear hcz18_1
    try clear hcz18_2
    try clear hcz22_0
    try clear hcz22_1
    try clear hcz22_2
    try clear hcz27_0
    try clear hcz27_1
    try clear hcz27_2
    try clear hcz31_0
    try clear hcz31_1
    try clear hcz31_2
    try clear hcz36_0
    try clear hcz36_1
    try clear hcz36_2
    try clear hcz40_0
    try clear hcz40_1
    try clear hcz40_2
    try clear hcz45_0
    try clear hcz45_1
    try clear hcz45_2
    try clear hfz18_0
    try clear hfz18_1
    try clear hfz18_2
    try clear hfz22_0
    try clear hfz22_1
    try clear hfz22_2
    try clear hfz27_0
    try clear hfz27_1
    try clear hfz27_2
    try clear hfz31_0
    try clear hfz31_1
    try clear hfz31_2
    try clear hfz36_0
    try clear hfz36_1
    try clear hfz36_2
    try clear hfz40_0
    try clear hfz40_1
    try clear hfz40_2
    try clear hfz45_0
    try clear hfz45_1
    try clear hfz45_2
    obtain ⟨kq, x27_4, rfl, HA, HJ4, BK249, BK250, BK251, BK252, HB⟩ := hcut
    cases kq with
    | zero => exact absurd HA.out (by simp [spec_SpanWhen.j0])
    | succ kj4 =>
      have H := HA.out
      clear HA
      simp only [spec_SpanWhen.j0] at H
      by_cases c47 : x27_4 = true
      · subst c47
        rw [if_pos rfl] at H
        simp only [Option.some.injEq, Prod.mk.injEq] at H
        obtain ⟨rfl, rfl, rfl, rfl, rfl, rfl⟩ := H
        have hnb48 := NB251_249.out
        have hnc48 := NB249_251.out
        have hnb49 := NB251_250.out
        have hnc49 := NB250_251.out
        have hnb50 := NB251_252.out
        have hnc50 := NB252_251.out
        have hcz51_0 := bc0 BK251.out
        have hcz51_1 := bc1 BK251.out
        have hcz51_2 := bc2 BK251.out
        have hfz51_0 := blk_frozen BK251.out 0
        have hfz51_1 := blk_frozen BK251.out 1
        have hfz51_2 := blk_frozen BK251.out 2
        have hnb52 := NB252_249.out
        have hnc52 := NB249_252.out
        have hnb53 := NB252_250.out
        have hnc53 := NB250_252.out
        have hcz54_0 := bc0 BK252.out
        have hcz54_1 := bc1 BK252.out
        have hcz54_2 := bc2 BK252.out
        have hfz54_0 := blk_frozen BK252.out 0
        have hfz54_1 := blk_frozen BK252.out 1
        have hfz54_2 := blk_frozen BK252.out 2
        go_wp2
        refine bodyPost_ret (results_cc rfl _ _ gb251 gb252 30 30 #[.bool false, .int .i64 0, .int .i64 0] #[.bool false, .int .i64 0, .int .i64 0] (0, 0) (0, 0) _ _ rfl bk Try.underlying30 rfl (by kernel_rfl) rfl bk Try.underlying30 rfl (by kernel_rfl)) rfl ?_
        exact ⟨by first | rfl | (simp [errW_none, errW_some] <;> rfl) | (simp [*, errW_none, errW_some] <;> rfl), bl⟩
      · replace c47 := Bool.eq_false_iff.mpr c47
        subst c47
        rw [if_neg (show ¬ (false = true) by decide)] at H
        replace H := Option.bind_eq_some_iff.mp H
        obtain ⟨⟨t255, t256, t257⟩, A550, H⟩ := H
        try dsimp only at H
        have A55 := Aside0.mk A550
        clear A550
        replace H := Option.bind_eq_some_iff.mp H
        obtain ⟨⟨t259, t260, t261⟩, A560, H⟩ := H
        try dsimp only at H
        have A56 := Aside0.mk A560
        clear A560
        have HC57 := Aside0.mk H
        clear H
        have hnb58 := NB249_250.out
        have hnc58 := NB250_249.out
        have hnb59 := NB249_251.out
        have hnc59 := NB251_249.out
        have hnb60 := NB249_252.out
        have hnc60 := NB252_249.out
        have hcz61_0 := bc0 BK249.out
        have hcz61_1 := bc1 BK249.out
        have hcz61_2 := bc2 BK249.out
        have hfz61_0 := blk_frozen BK249.out 0
        have hfz61_1 := blk_frozen BK249.out 1
        have hfz61_2 := blk_frozen BK249.out 2
        have hnb62 := NB250_251.out
        have hnc62 := NB251_250.out
        have hnb63 := NB250_252.out
        have hnc63 := NB252_250.out
        have hcz64_0 := bc0 BK250.out
        have hcz64_1 := bc1 BK250.out
        have hcz64_2 := bc2 BK250.out
        have hfz64_0 := blk_frozen BK250.out 0
        have hfz64_1 := blk_frozen BK250.out 1
        have hfz64_2 := blk_frozen BK250.out 2
        go_upto_region 5 with (first | ((with_reducible refine gate_callee (f := 43) rfl ?_); refine goesL_ (some 32) rfl rfl Try.func43 (by kernel_rfl) rfl #[.agg #[.bool a1_0, .int .i64 a1_1, .int .i64 a1_2], .agg #[.bool a2_0, .int .i64 a2_1, .int .i64 a2_2]] rfl (by (try simp only [List.map_toArray, List.map_cons, List.map_nil]); first | done | rfl | (simp only [List.length_drop, List.length_take]; rfl)) ?_; (with_reducible refine (spec_l1Not.calls kj4 a1_0 a1_1 a1_2 a2_0 a2_1 a2_2 t255 t256 t257 _ A55.out).mono ?_); rintro e w65 ⟨rfl, hb⟩; refine ⟨_, rfl, ?_⟩; have n0_ := Bk.mk (blk_below (g := gb249) bk hb); have n1_ := Bk.mk (blk_below (g := gb250) bk hb); have n2_ := Bk.mk (blk_below (g := gb251) bk hb); have n3_ := Bk.mk (blk_below (g := gb252) bk hb); have n4_ := Bl.mk (below_step bl hb); clear BK249; clear BK250; clear BK251; clear BK252; clear HB; have BK249 := n0_; have BK250 := n1_; have BK251 := n2_; have BK252 := n3_; have HB := n4_; clear n0_ n1_ n2_ n3_ n4_; (try clear hb); (try clear hb2); (try clear hk); (try clear hi)) | ((with_reducible refine gate_dst (N := 10) rfl ?_); refine box_event ?hg (N := 10) ?hd (cs := #[.bool false, .int .i64 0, .int .i64 0]) (t := 30) ?hr ?_; (case hd => rfl); (case hg => rfl); (case hr => first | (go_simp; done) | (go_simp; rfl)); intro gb258 hg w66 hbox hb; have n0_ := Bk.mk (blk_below (g := gb249) bk hb); have n1_ := Bk.mk (blk_below (g := gb250) bk hb); have n2_ := Bk.mk (blk_below (g := gb251) bk hb); have n3_ := Bk.mk (blk_below (g := gb252) bk hb); have n4_ := Bl.mk (below_step bl hb); have n5_ := Bk.mk (hbox); have n6_ := Aside0.mk ((by rw [hg]; exact (below_size bl) : w.heap.size ≤ gb258)); have n7_ := Gl.mk ((by rw [hg]; exact (below_size bl) : w.heap.size ≤ gb258)); have n8_ := Nb.mk ((by rw [hg]; exact Nat.ne_of_lt (blk_lt (g := gb249) bk) : gb249 ≠ gb258)); have n9_ := Nb.mk ((by rw [hg]; exact Nat.ne_of_gt (blk_lt (g := gb249) bk) : gb258 ≠ gb249)); have n10_ := Nb.mk ((by rw [hg]; exact Nat.ne_of_lt (blk_lt (g := gb250) bk) : gb250 ≠ gb258)); have n11_ := Nb.mk ((by rw [hg]; exact Nat.ne_of_gt (blk_lt (g := gb250) bk) : gb258 ≠ gb250)); have n12_ := Nb.mk ((by rw [hg]; exact Nat.ne_of_lt (blk_lt (g := gb251) bk) : gb251 ≠ gb258)); have n13_ := Nb.mk ((by rw [hg]; exact Nat.ne_of_gt (blk_lt (g := gb251) bk) : gb258 ≠ gb251)); have n14_ := Nb.mk ((by rw [hg]; exact Nat.ne_of_lt (blk_lt (g := gb252) bk) : gb252 ≠ gb258)); have n15_ := Nb.mk ((by rw [hg]; exact Nat.ne_of_gt (blk_lt (g := gb252) bk) : gb258 ≠ gb252)); clear BK249; clear BK250; clear BK251; clear BK252; clear HB; have BK249 := n0_; have BK250 := n1_; have BK251 := n2_; have BK252 := n3_; have HB := n4_; have BK258 := n5_; have GW258 := n6_; have GE258 := n7_; have NB249_258 := n8_; have NB258_249 := n9_; have NB250_258 := n10_; have NB258_250 := n11_; have NB251_258 := n12_; have NB258_251 := n13_; have NB252_258 := n14_; have NB258_252 := n15_; clear n0_ n1_ n2_ n3_ n4_ n5_ n6_ n7_ n8_ n9_ n10_ n11_ n12_ n13_ n14_ n15_; clear hb hbox hg; have hnb67 := NB258_249.out; have hnc67 := NB249_258.out; have hnb68 := NB258_250.out; have hnc68 := NB250_258.out; have hnb69 := NB258_251.out; have hnc69 := NB251_258.out; have hnb70 := NB258_252.out; have hnc70 := NB252_258.out; have hcz71_0 := bc0 BK258.out; have hcz71_1 := bc1 BK258.out; have hcz71_2 := bc2 BK258.out; have hfz71_0 := blk_frozen BK258.out 0; have hfz71_1 := blk_frozen BK258.out 1; have hfz71_2 := blk_frozen BK258.out 2; have hcz72_0 := bc0 BK250.out; have hcz72_1 := bc1 BK250.out; have hcz72_2 := bc2 BK250.out; have hfz72_0 := blk_frozen BK250.out 0; have hfz72_1 := blk_frozen BK250.out 1; have hfz72_2 := blk_frozen BK250.out 2; have hcz73_0 := bc0 BK249.out; have hcz73_1 := bc1 BK249.out; have hcz73_2 := bc2 BK249.out; have hfz73_0 := blk_frozen BK249.out 0; have hfz73_1 := blk_frozen BK249.out 1; have hfz73_2 := blk_frozen BK249.out 2) | ((with_reducible refine gate_callee (f := 43) rfl ?_); refine goesL_ (some 35) rfl rfl Try.func43 (by kernel_rfl) rfl #[.agg #[.bool a2_0, .int .i64 a2_1, .int .i64 a2_2], .agg #[.bool a1_0, .int .i64 a1_1, .int .i64 a1_2]] rfl (by (try simp only [List.map_toArray, List.map_cons, List.map_nil]); first | done | rfl | (simp only [List.length_drop, List.length_take]; rfl)) ?_; (with_reducible refine (spec_l1Not.calls kj4 a2_0 a2_1 a2_2 a1_0 a1_1 a1_2 t259 t260 t261 _ A56.out).mono ?_); rintro e w74 ⟨rfl, hb⟩; refine ⟨_, rfl, ?_⟩; have n0_ := Bk.mk (blk_below (g := gb249) (o := .cells #[.bool a1_0, .int .i64 a1_1, .int .i64 a1_2] 30 (0, 0)) bk hb); have n1_ := Bk.mk (blk_below (g := gb250) (o := .cells #[.bool a2_0, .int .i64 a2_1, .int .i64 a2_2] 30 (0, 0)) bk hb); have n2_ := Bk.mk (blk_below (g := gb251) (o := .cells #[.bool false, .int .i64 0, .int .i64 0] 30 (0, 0)) bk hb); have n3_ := Bk.mk (blk_below (g := gb252) (o := .cells #[.bool false, .int .i64 0, .int .i64 0] 30 (0, 0)) bk hb); have n4_ := Bk.mk (blk_below (g := gb258) (o := .cells #[.bool t255, .int .i64 t256, .int .i64 t257] 30 (0, 0)) bk hb); have n5_ := Bl.mk (below_step bl hb); clear BK249; clear BK250; clear BK251; clear BK252; clear BK258; clear HB; have BK249 := n0_; have BK250 := n1_; have BK251 := n2_; have BK252 := n3_; have BK258 := n4_; have HB := n5_; clear n0_ n1_ n2_ n3_ n4_ n5_; (try clear hb); (try clear hb2); (try clear hk); (try clear hi)) | ((with_reducible refine gate_dst (N := 11) rfl ?_); refine box_event ?hg (N := 11) ?hd (cs := #[.bool false, .int .i64 0, .int .i64 0]) (t := 30) ?hr ?_; (case hd => rfl); (case hg => rfl); (case hr => first | (go_simp; done) | (go_simp; rfl)); intro gb262 hg w75 hbox hb; have n0_ := Bk.mk (blk_below (g := gb249) bk hb); have n1_ := Bk.mk (blk_below (g := gb250) bk hb); have n2_ := Bk.mk (blk_below (g := gb251) bk hb); have n3_ := Bk.mk (blk_below (g := gb252) bk hb); have n4_ := Bk.mk (blk_below (g := gb258) bk hb); have n5_ := Bl.mk (below_step bl hb); have n6_ := Bk.mk (hbox); have n7_ := Aside0.mk ((by rw [hg]; exact (below_size bl) : w.heap.size ≤ gb262)); have n8_ := Gl.mk ((by rw [hg]; exact (below_size bl) : w.heap.size ≤ gb262)); have n9_ := Nb.mk ((by rw [hg]; exact Nat.ne_of_lt (blk_lt (g := gb249) bk) : gb249 ≠ gb262)); have n10_ := Nb.mk ((by rw [hg]; exact Nat.ne_of_gt (blk_lt (g := gb249) bk) : gb262 ≠ gb249)); have n11_ := Nb.mk ((by rw [hg]; exact Nat.ne_of_lt (blk_lt (g := gb250) bk) : gb250 ≠ gb262)); have n12_ := Nb.mk ((by rw [hg]; exact Nat.ne_of_gt (blk_lt (g := gb250) bk) : gb262 ≠ gb250)); have n13_ := Nb.mk ((by rw [hg]; exact Nat.ne_of_lt (blk_lt (g := gb251) bk) : gb251 ≠ gb262)); have n14_ := Nb.mk ((by rw [hg]; exact Nat.ne_of_gt (blk_lt (g := gb251) bk) : gb262 ≠ gb251)); have n15_ := Nb.mk ((by rw [hg]; exact Nat.ne_of_lt (blk_lt (g := gb252) bk) : gb252 ≠ gb262)); have n16_ := Nb.mk ((by rw [hg]; exact Nat.ne_of_gt (blk_lt (g := gb252) bk) : gb262 ≠ gb252)); have n17_ := Nb.mk ((by rw [hg]; exact Nat.ne_of_lt (blk_lt (g := gb258) bk) : gb258 ≠ gb262)); have n18_ := Nb.mk ((by rw [hg]; exact Nat.ne_of_gt (blk_lt (g := gb258) bk) : gb262 ≠ gb258)); clear BK249; clear BK250; clear BK251; clear BK252; clear BK258; clear HB; have BK249 := n0_; have BK250 := n1_; have BK251 := n2_; have BK252 := n3_; have BK258 := n4_; have HB := n5_; have BK262 := n6_; have GW262 := n7_; have GE262 := n8_; have NB249_262 := n9_; have NB262_249 := n10_; have NB250_262 := n11_; have NB262_250 := n12_; have NB251_262 := n13_; have NB262_251 := n14_; have NB252_262 := n15_; have NB262_252 := n16_; have NB258_262 := n17_; have NB262_258 := n18_; clear n0_ n1_ n2_ n3_ n4_ n5_ n6_ n7_ n8_ n9_ n10_ n11_ n12_ n13_ n14_ n15_ n16_ n17_ n18_; clear hb hbox hg; have hnb76 := NB262_249.out; have hnc76 := NB249_262.out; have hnb77 := NB262_250.out; have hnc77 := NB250_262.out; have hnb78 := NB262_251.out; have hnc78 := NB251_262.out; have hnb79 := NB262_252.out; have hnc79 := NB252_262.out; have hnb80 := NB262_258.out; have hnc80 := NB258_262.out; have hcz81_0 := bc0 BK262.out; have hcz81_1 := bc1 BK262.out; have hcz81_2 := bc2 BK262.out; have hfz81_0 := blk_frozen BK262.out 0; have hfz81_1 := blk_frozen BK262.out 1; have hfz81_2 := blk_frozen BK262.out 2))
        (try simp only [Act.put, List.setIfInBounds_toArray, List.set_cons_zero, List.set_cons_succ])
        go_cut [40] (fun v40 wc => ∃ (kq : Nat) (x40_56 : Bool), v40 = .bool x40_56 ∧ Aside0 (spec_SpanWhen.j1 kq a0 a3 x40_56 a1_0 a1_1 a1_2 a2_0 a2_1 a2_2 t255 t256 t257 t259 t260 t261 = some (r1, r2, r3, r4, r5, r6)) ∧ Aside0 (kq ≤ kj4) ∧ Bk wc gb249 (.cells #[.bool a1_0, .int .i64 a1_1, .int .i64 a1_2] 30 (0, 0)) ∧ Bk wc gb250 (.cells #[.bool a2_0, .int .i64 a2_1, .int .i64 a2_2] 30 (0, 0)) ∧ Bk wc gb251 (.cells #[.bool false, .int .i64 0, .int .i64 0] 30 (0, 0)) ∧ Bk wc gb252 (.cells #[.bool false, .int .i64 0, .int .i64 0] 30 (0, 0)) ∧ Bk wc gb258 (.cells #[.bool t255, .int .i64 t256, .int .i64 t257] 30 (0, 0)) ∧ Bk wc gb262 (.cells #[.bool t259, .int .i64 t260, .int .i64 t261] 30 (0, 0)) ∧ Bl w.heap.size w wc)
        case first =>
          have H := HC57.out
          clear HC57
          by_cases c82 : a0 = 6
          · rw [if_pos c82] at H
            have c82b0 : (a0 == 6) = true := beq_iff_eq.mpr c82
            have c82b1 : (a0 != 6) = false := bne_eq_false_iff_eq.mpr c82
            clear c82
            (first | rw [c82b0] | (simp only [i64_w, i32_w]; rw [c82b0]) | skip)
            have H' := Aside0.mk H
            clear H
            go_wp2
            go_meet
            case rel => exact ⟨_, (a3), (by first | rfl | (simp; done) | (simp [*]; done)), H', ⟨by have := HJ4.out; first | omega | exact Nat.le_refl _⟩, ⟨bk⟩, ⟨bk⟩, ⟨bk⟩, ⟨bk⟩, ⟨bk⟩, ⟨bk⟩, ⟨bl⟩⟩
          · rw [if_neg c82] at H
            have c82b0 : (a0 == 6) = false := beq_eq_false_iff_ne.mpr c82
            have c82b1 : (a0 != 6) = true := bne_iff_ne.mpr c82
            (first | rw [c82b0] | (simp only [i64_w, i32_w]; rw [c82b0]) | skip)
            have H' := Aside0.mk H
            clear H
            go_wp2
            go_meet
            case rel => exact ⟨_, (false), (by first | rfl | (simp; done) | (simp [*]; done)), H', ⟨by have := HJ4.out; first | omega | exact Nat.le_refl _⟩, ⟨bk⟩, ⟨bk⟩, ⟨bk⟩, ⟨bk⟩, ⟨bk⟩, ⟨bk⟩, ⟨bl⟩⟩
        case rest =>
          clear HC57
          try clear c1
          try clear c2
          try clear p2
          try clear c3
          try clear c4
          try clear c5
          try clear c6
          try clear c7
          try clear c8
          try clear c11
          try clear c13
          try clear c14
          try clear c14b0
          try clear c14b1
          try clear c15
          try clear c16
          try clear c17
          try clear c20
          try clear c21
          try clear c24
          try clear c25
          try clear c26
          try clear c29
          try clear c30
          try clear c33
          try clear c34
          try clear c35
          try clear c38
          try clear c39
          try clear c42
          try clear c43
          try clear c44
          try clear c47
          try clear c48
          try clear c49
          try clear c50
          try clear c52
          try clear c53
          try clear c58
          try clear c59
          try clear c60
          try clear c62
          try clear c63
          try clear c67
          try clear c68
          try clear c69
          try clear c70
          try clear c76
          try clear c77
          try clear c78
          try clear c79
          try clear c80
          try clear c82
          try clear c82b0
          try clear c82b1
          try clear hcz18_0
          try clear hcz18_1
          try clear hcz18_2
          try clear hcz22_0
          try clear hcz22_1
          try clear hcz22_2
          try clear hcz27_0
          try clear hcz27_1
          try clear hcz27_2
          try clear hcz31_0
          try clear hcz31_1
          try clear hcz31_2
          try clear hcz36_0
          try clear hcz36_1
          try clear hcz36_2
          try clear hcz40_0
          try clear hcz40_1
          try clear hcz40_2
          try clear hcz45_0
          try clear hcz45_1
          try clear hcz45_2
          try clear hcz51_0
          try clear hcz51_1
          try clear hcz51_2
          try clear hcz54_0
          try clear hcz54_1
          try clear hcz54_2
          try clear hcz61_0
          try clear hcz61_1
          try clear hcz61_2
          try clear hcz64_0
          try clear hcz64_1
          try clear hcz64_2
          try clear hcz71_0
          try clear hcz71_1
          try clear hcz71_2
          try clear hcz72_0
          try clear hcz72_1
          try clear hcz72_2
          try clear hcz73_0
          try clear hcz73_1
          try clear hcz73_2
          try clear hcz81_0
          try clear hcz81_1
          try clear hcz81_2
          try clear hfz18_0
          try clear hfz18_1
          try clear hfz18_2
          try clear hfz22_0
          try clear hfz22_1
          try clear hfz22_2
          try clear hfz27_0
          try clear hfz27_1
          try clear hfz27_2
          try clear hfz31_0
          try clear hfz31_1
          try clear hfz31_2
          try clear hfz36_0
          try clear hfz36_1
          try clear hfz36_2
          try clear hfz40_0
          try clear hfz40_1
          try clear hfz40_2
          try clear hfz45_0
          try clear hfz45_1
          try clear hfz45_2
          try clear hfz51_0
          try clear hfz51_1
          try clear hfz51_2
          try clear hfz54_0
          try clear hfz54_1
          try clear hfz54_2
          try clear hfz61_0
          try clear hfz61_1
          try clear hfz61_2
          try clear hfz64_0
          try clear hfz64_1
          try clear hfz64_2
          try clear hfz71_0
          try clear hfz71_1
          try clear hfz71_2
          try clear hfz72_0
          try clear hfz72_1
          try clear hfz72_2
          try clear hfz73_0
          try clear hfz73_1
          try clear hfz73_2
          try clear hfz81_0
          try clear hfz81_1
          try clear hfz81_2
          try clear p2
          obtain ⟨kq, x40_56, rfl, HA, HJ56, BK249, BK250, BK251, BK252, BK258, BK262, HB⟩ := hcut
          cases kq with
          | zero => exact absurd HA.out (by simp [spec_SpanWhen.j1])
          | succ kj56 =>
            have H := HA.out
            clear HA
            simp only [spec_SpanWhen.j1] at H
            have HC83 := Aside0.mk H
            clear H
            go_upto_if 40 with (fail)
            go_cut [] (fun wc => ∃ (kq : Nat) (x259000_82 : Bool) (x259001_82 : Int) (x259002_82 : Int) (x263000_82 : Bool) (x263001_82 : Int) (x263002_82 : Int), Aside0 (spec_SpanWhen.j2 kq a0 a3 a1_0 a1_1 a1_2 a2_0 a2_1 a2_2 x259000_82 x259001_82 x259002_82 x263000_82 x263001_82 x263002_82 = some (r1, r2, r3, r4, r5, r6)) ∧ Aside0 (kq ≤ kj56) ∧ Bk wc gb249 (.cells #[.bool a1_0, .int .i64 a1_1, .int .i64 a1_2] 30 (0, 0)) ∧ Bk wc gb250 (.cells #[.bool a2_0, .int .i64 a2_1, .int .i64 a2_2] 30 (0, 0)) ∧ Bk wc gb251 (.cells #[.bool false, .int .i64 0, .int .i64 0] 30 (0, 0)) ∧ Bk wc gb252 (.cells #[.bool false, .int .i64 0, .int .i64 0] 30 (0, 0)) ∧ Bk wc gb258 (.cells #[.bool x259000_82, .int .i64 x259001_82, .int .i64 x259002_82] 30 (0, 0)) ∧ Bk wc gb262 (.cells #[.bool x263000_82, .int .i64 x263001_82, .int .i64 x263002_82] 30 (0, 0)) ∧ Bl w.heap.size w wc)
            case first =>
              have H := HC83.out
              clear HC83
              by_cases c84 : x40_56 = true
              · subst c84
                rw [if_pos rfl] at H
                replace H := Option.bind_eq_some_iff.mp H
                obtain ⟨⟨t263, t264, t265⟩, A850, H⟩ := H
                try dsimp only at H
                have A85 := Aside0.mk A850
                clear A850
                have H' := Aside0.mk H
                clear H
                have hnb86 := NB249_250.out
                have hnc86 := NB250_249.out
                have hnb87 := NB249_251.out
                have hnc87 := NB251_249.out
                have hnb88 := NB249_252.out
                have hnc88 := NB252_249.out
                have hnb89 := NB249_258.out
                have hnc89 := NB258_249.out
                have hnb90 := NB249_262.out
                have hnc90 := NB262_249.out
                have hcz91_0 := bc0 BK249.out
                have hcz91_1 := bc1 BK249.out
                have hcz91_2 := bc2 BK249.out
                have hfz91_0 := blk_frozen BK249.out 0
                have hfz91_1 := blk_frozen BK249.out 1
                have hfz91_2 := blk_frozen BK249.out 2
                have hnb92 := NB250_251.out
                have hnc92 := NB251_250.out
                have hnb93 := NB250_252.out
                have hnc93 := NB252_250.out
                have hnb94 := NB250_258.out
                have hnc94 := NB258_250.out
                have hnb95 := NB250_262.out
                have hnc95 := NB262_250.out
                have hcz96_0 := bc0 BK250.out
                have hcz96_1 := bc1 BK250.out
                have hcz96_2 := bc2 BK250.out
                have hfz96_0 := blk_frozen BK250.out 0
                have hfz96_1 := blk_frozen BK250.out 1
                have hfz96_2 := blk_frozen BK250.out 2
                go_wp2_with (first | ((with_reducible refine gate_callee (f := 44) rfl ?_); refine goesL_ (some 43) rfl rfl Try.func44 (by kernel_rfl) rfl #[.agg #[.bool a1_0, .int .i64 a1_1, .int .i64 a1_2], .agg #[.bool a2_0, .int .i64 a2_1, .int .i64 a2_2]] rfl (by (try simp only [List.map_toArray, List.map_cons, List.map_nil]); first | done | rfl | (simp only [List.length_drop, List.length_take]; rfl)) ?_; (with_reducible refine (spec_SpanMeet.calls a1_0 a1_1 a1_2 a2_0 a2_1 a2_2 t263 t264 t265 _ A85.out).mono ?_); rintro e w97 ⟨rfl, hb⟩; refine ⟨_, rfl, ?_⟩; have n0_ := Bk.mk (blk_below (g := gb249) bk hb); have n1_ := Bk.mk (blk_below (g := gb250) bk hb); have n2_ := Bk.mk (blk_below (g := gb251) bk hb); have n3_ := Bk.mk (blk_below (g := gb252) bk hb); have n4_ := Bk.mk (blk_below (g := gb258) bk hb); have n5_ := Bk.mk (blk_below (g := gb262) bk hb); have n6_ := Bl.mk (below_step bl hb); clear BK249; clear BK250; clear BK251; clear BK252; clear BK258; clear BK262; clear HB; have BK249 := n0_; have BK250 := n1_; have BK251 := n2_; have BK252 := n3_; have BK258 := n4_; have BK262 := n5_; have HB := n6_; clear n0_ n1_ n2_ n3_ n4_ n5_ n6_; (try clear hb); (try clear hb2); (try clear hk); (try clear hi); have hnb98 := NB258_251.out; have hnc98 := NB251_258.out; have hnb99 := NB258_252.out; have hnc99 := NB252_258.out; have hnb100 := NB258_262.out; have hnc100 := NB262_258.out; have hcz101_0 := bc0 BK258.out; have hcz101_1 := bc1 BK258.out; have hcz101_2 := bc2 BK258.out; have hfz101_0 := blk_frozen BK258.out 0; have hfz101_1 := blk_frozen BK258.out 1; have hfz101_2 := blk_frozen BK258.out 2; have hnb102 := NB262_251.out; have hnc102 := NB251_262.out; have hnb103 := NB262_252.out; have hnc103 := NB252_262.out; have hcz104_0 := bc0 BK262.out; have hcz104_1 := bc1 BK262.out; have hcz104_2 := bc2 BK262.out; have hfz104_0 := blk_frozen BK262.out 0; have hfz104_1 := blk_frozen BK262.out 1; have hfz104_2 := blk_frozen BK262.out 2))
                go_meet
                case rel => exact ⟨_, (t263), (t264), (t265), (t263), (t264), (t265), H', ⟨by have := HJ4.out; have := HJ56.out; first | omega | exact Nat.le_refl _⟩, ⟨bk⟩, ⟨bk⟩, ⟨bk⟩, ⟨bk⟩, ⟨bk⟩, ⟨bk⟩, ⟨bl⟩⟩
              · replace c84 := Bool.eq_false_iff.mpr c84
                subst c84
                rw [if_neg (show ¬ (false = true) by decide)] at H
                have H' := Aside0.mk H
                clear H
                go_wp2
                go_meet
                case rel => exact ⟨_, (t255), (t256), (t257), (t259), (t260), (t261), H', ⟨by have := HJ4.out; have := HJ56.out; first | omega | exact Nat.le_refl _⟩, ⟨bk⟩, ⟨bk⟩, ⟨bk⟩, ⟨bk⟩, ⟨bk⟩, ⟨bk⟩, ⟨bl⟩⟩
            case rest =>
              clear HC83
              try clear c1
              try clear c2
              try clear p2
              try clear c3
              try clear c4
              try clear c5
              try clear c6
              try clear c7
              try clear c8
              try clear c9
              try clear c10
              try clear c11
              try clear c13
              try clear c14
              try clear c14b0
              try clear c14b1
              try clear c15
              try clear c16
              try clear c17
              try clear c20
              try clear c21
              try clear c24
              try clear c25
              try clear c26
              try clear c29
              try clear c30
              try clear c33
              try clear c34
              try clear c35
              try clear c38
              try clear c39
              try clear c42
              try clear c43
              try clear c44
              try clear c47
              try clear c48
              try clear c49
              try clear c50
              try clear c52
              try clear c53
              try clear c58
              try clear c59
              try clear c60
              try clear c62
              try clear c63
              try clear c67
              try clear c68
              try clear c69
              try clear c70
              try clear c76
              try clear c77
              try clear c78
              try clear c79
              try clear c80
              try clear c82
              try clear c82b0
              try clear c82b1
              try clear c84
              try clear c86
              try clear c87
              try clear c88
              try clear c89
              try clear c90
              try clear c92
              try clear c93
              try clear c94
              try clear c95
              try clear c98
              try clear c99
              try clear c100
              try clear c102
              try clear c103
              try clear hcz101_0
              try clear hcz101_1
              try clear hcz101_2
              try clear hcz104_0
              try clear hcz104_1
              try clear hcz104_2
              try clear hcz18_0
              try clear hcz18_1
              try clear hcz18_2
              try clear hcz22_0
              try clear hcz22_1
              try clear hcz22_2
              try clear hcz27_0
              try clear hcz27_1
              try clear hcz27_2
              try clear hcz31_0
              try clear hcz31_1
              try clear hcz31_2
              try clear hcz36_0
              try clear hcz36_1
              try clear hcz36_2
              try clear hcz40_0
              try clear hcz40_1
              try clear hcz40_2
              try clear hcz45_0
              try clear hcz45_1
              try clear hcz45_2
              try clear hcz51_0
              try clear hcz51_1
              try clear hcz51_2
              try clear hcz54_0
              try clear hcz54_1
              try clear hcz54_2
              try clear hcz61_0
              try clear hcz61_1
              try clear hcz61_2
              try clear hcz64_0
              try clear hcz64_1
              try clear hcz64_2
              try clear hcz71_0
              try clear hcz71_1
              try clear hcz71_2
              try clear hcz72_0
              try clear hcz72_1
              try clear hcz72_2
              try clear hcz73_0
              try clear hcz73_1
              try clear hcz73_2
              try clear hcz81_0
              try clear hcz81_1
              try clear hcz81_2
              try clear hcz91_0
              try clear hcz91_1
              try clear hcz91_2
              try clear hcz96_0
              try clear hcz96_1
              try clear hcz96_2
              try clear hfz101_0
              try clear hfz101_1
              try clear hfz101_2
              try clear hfz104_0
              try clear hfz104_1
              try clear hfz104_2
              try clear hfz18_0
              try clear hfz18_1
              try clear hfz18_2
              try clear hfz22_0
              try clear hfz22_1
              try clear hfz22_2
              try clear hfz27_0
              try clear hfz27_1
              try clear hfz27_2
              try clear hfz31_0
              try clear hfz31_1
              try clear hfz31_2
              try clear hfz36_0
              try clear hfz36_1
              try clear hfz36_2
              try clear hfz40_0
              try clear hfz40_1
              try clear hfz40_2
              try clear hfz45_0
              try clear hfz45_1
              try clear hfz45_2
              try clear hfz51_0
              try clear hfz51_1
              try clear hfz51_2
              try clear hfz54_0
              try clear hfz54_1
              try clear hfz54_2
              try clear hfz61_0
              try clear hfz61_1
              try clear hfz61_2
              try clear hfz64_0
              try clear hfz64_1
              try clear hfz64_2
              try clear hfz71_0
              try clear hfz71_1
              try clear hfz71_2
              try clear hfz72_0
              try clear hfz72_1
              try clear hfz72_2
              try clear hfz73_0
              try clear hfz73_1
              try clear hfz73_2
              try clear hfz81_0
              try clear hfz81_1
              try clear hfz81_2
              try clear hfz91_0
              try clear hfz91_1
              try clear hfz91_2
              try clear hfz96_0
              try clear hfz96_1
              try clear hfz96_2
              try clear p2
              obtain ⟨kq, x259000_82, x259001_82, x259002_82, x263000_82, x263001_82, x263002_82, HA, HJ82, BK249, BK250, BK251, BK252, BK258, BK262, HB⟩ := hcut
              cases kq with
              | zero => exact absurd HA.out (by simp [spec_SpanWhen.j2])
              | succ kj82 =>
                have H := HA.out
                clear HA
                simp only [spec_SpanWhen.j2] at H
                have HC105 := Aside0.mk H
                clear H
                go_upto_region 8 with (fail)
                go_cut [49] (fun v49 wc => ∃ (kq : Nat) (x49_104 : Bool), v49 = .bool x49_104 ∧ Aside0 (spec_SpanWhen.j3 kq a0 a3 x49_104 a1_0 a1_1 a1_2 a2_0 a2_1 a2_2 x259000_82 x259001_82 x259002_82 x263000_82 x263001_82 x263002_82 = some (r1, r2, r3, r4, r5, r6)) ∧ Aside0 (kq ≤ kj82) ∧ Bk wc gb249 (.cells #[.bool a1_0, .int .i64 a1_1, .int .i64 a1_2] 30 (0, 0)) ∧ Bk wc gb250 (.cells #[.bool a2_0, .int .i64 a2_1, .int .i64 a2_2] 30 (0, 0)) ∧ Bk wc gb251 (.cells #[.bool false, .int .i64 0, .int .i64 0] 30 (0, 0)) ∧ Bk wc gb252 (.cells #[.bool false, .int .i64 0, .int .i64 0] 30 (0, 0)) ∧ Bk wc gb258 (.cells #[.bool x259000_82, .int .i64 x259001_82, .int .i64 x259002_82] 30 (0, 0)) ∧ Bk wc gb262 (.cells #[.bool x263000_82, .int .i64 x263001_82, .int .i64 x263002_82] 30 (0, 0)) ∧ Bl w.heap.size w wc)
                case first =>
                  have H := HC105.out
                  clear HC105
                  by_cases c106 : a0 = 5
                  · rw [if_pos c106] at H
                    have c106b0 : (a0 == 5) = true := beq_iff_eq.mpr c106
                    have c106b1 : (a0 != 5) = false := bne_eq_false_iff_eq.mpr c106
                    clear c106
                    (first | rw [c106b0] | (simp only [i64_w, i32_w]; rw [c106b0]) | skip)
                    have H' := Aside0.mk H
                    clear H
                    go_wp2
                    go_meet
                    case rel => exact ⟨_, (a3), (by first | rfl | (simp; done) | (simp [*]; done)), H', ⟨by have := HJ4.out; have := HJ56.out; have := HJ82.out; first | omega | exact Nat.le_refl _⟩, ⟨bk⟩, ⟨bk⟩, ⟨bk⟩, ⟨bk⟩, ⟨bk⟩, ⟨bk⟩, ⟨bl⟩⟩
                  · rw [if_neg c106] at H
                    have c106b0 : (a0 == 5) = false := beq_eq_false_iff_ne.mpr c106
                    have c106b1 : (a0 != 5) = true := bne_iff_ne.mpr c106
                    (first | rw [c106b0] | (simp only [i64_w, i32_w]; rw [c106b0]) | skip)
                    have H' := Aside0.mk H
                    clear H
                    go_wp2
                    go_meet
                    case rel => exact ⟨_, (false), (by first | rfl | (simp; done) | (simp [*]; done)), H', ⟨by have := HJ4.out; have := HJ56.out; have := HJ82.out; first | omega | exact Nat.le_refl _⟩, ⟨bk⟩, ⟨bk⟩, ⟨bk⟩, ⟨bk⟩, ⟨bk⟩, ⟨bk⟩, ⟨bl⟩⟩
                case rest =>
                  clear HC105
                  try clear c1
                  try clear c2
                  try clear p2
                  try clear c3
                  try clear c4
                  try clear c5
                  try clear c6
                  try clear c7
                  try clear c8
                  try clear c9
                  try clear c10
                  try clear c11
                  try clear c13
                  try clear c14
                  try clear c14b0
                  try clear c14b1
                  try clear c15
                  try clear c16
                  try clear c17
                  try clear c20
                  try clear c21
                  try clear c24
                  try clear c25
                  try clear c26
                  try clear c29
                  try clear c30
                  try clear c33
                  try clear c34
                  try clear c35
                  try clear c38
                  try clear c39
                  try clear c42
                  try clear c43
                  try clear c44
                  try clear c47
                  try clear c48
                  try clear c49
                  try clear c50
                  try clear c52
                  try clear c53
                  try clear c58
                  try clear c59
                  try clear c60
                  try clear c62
                  try clear c63
                  try clear c67
                  try clear c68
                  try clear c69
                  try clear c70
                  try clear c76
                  try clear c77
                  try clear c78
                  try clear c79
                  try clear c80
                  try clear c82
                  try clear c82b0
                  try clear c82b1
                  try clear c84
                  try clear c86
                  try clear c87
                  try clear c88
                  try clear c89
                  try clear c90
                  try clear c92
                  try clear c93
                  try clear c94
                  try clear c95
                  try clear c98
                  try clear c99
                  try clear c100
                  try clear c102
                  try clear c103
                  try clear c106
                  try clear c106b0
                  try clear c106b1
                  try clear hcz101_0
                  try clear hcz101_1
                  try clear hcz101_2
                  try clear hcz104_0
                  try clear hcz104_1
                  try clear hcz104_2
                  try clear hcz18_0
                  try clear hcz18_1
                  try clear hcz18_2
                  try clear hcz22_0
                  try clear hcz22_1
                  try clear hcz22_2
                  try clear hcz27_0
                  try clear hcz27_1
                  try clear hcz27_2
                  try clear hcz31_0
                  try clear hcz31_1
                  try clear hcz31_2
                  try clear hcz36_0
                  try clear hcz36_1
                  try clear hcz36_2
                  try clear hcz40_0
                  try clear hcz40_1
                  try clear hcz40_2
                  try clear hcz45_0
                  try clear hcz45_1
                  try clear hcz45_2
                  try clear hcz51_0
                  try clear hcz51_1
                  try clear hcz51_2
                  try clear hcz54_0
                  try clear hcz54_1
                  try clear hcz54_2
                  try clear hcz61_0
                  try clear hcz61_1
                  try clear hcz61_2
                  try clear hcz64_0
                  try clear hcz64_1
                  try clear hcz64_2
                  try clear hcz71_0
                  try clear hcz71_1
                  try clear hcz71_2
                  try clear hcz72_0
                  try clear hcz72_1
                  try clear hcz72_2
                  try clear hcz73_0
                  try clear hcz73_1
                  try clear hcz73_2
                  try clear hcz81_0
                  try clear hcz81_1
                  try clear hcz81_2
                  try clear hcz91_0
                  try clear hcz91_1
                  try clear hcz91_2
                  try clear hcz96_0
                  try clear hcz96_1
                  try clear hcz96_2
                  try clear hfz101_0
                  try clear hfz101_1
                  try clear hfz101_2
                  try clear hfz104_0
                  try clear hfz104_1
                  try clear hfz104_2
                  try clear hfz18_0
                  try clear hfz18_1
                  try clear hfz18_2
                  try clear hfz22_0
                  try clear hfz22_1
                  try clear hfz22_2
                  try clear hfz27_0
                  try clear hfz27_1
                  try clear hfz27_2
                  try clear hfz31_0
                  try clear hfz31_1
                  try clear hfz31_2
                  try clear hfz36_0
                  try clear hfz36_1
                  try clear hfz36_2
                  try clear hfz40_0
                  try clear hfz40_1
                  try clear hfz40_2
                  try clear hfz45_0
                  try clear hfz45_1
                  try clear hfz45_2
                  try clear hfz51_0
                  try clear hfz51_1
                  try clear hfz51_2
                  try clear hfz54_0
                  try clear hfz54_1
                  try clear hfz54_2
                  try clear hfz61_0
                  try clear hfz61_1
                  try clear hfz61_2
                  try clear hfz64_0
                  try clear hfz64_1
                  try clear hfz64_2
                  try clear hfz71_0
                  try clear hfz71_1
                  try clear hfz71_2
                  try clear hfz72_0
                  try clear hfz72_1
                  try clear hfz72_2
                  try clear hfz73_0
                  try clear hfz73_1
                  try clear hfz73_2
                  try clear hfz81_0
                  try clear hfz81_1
                  try clear hfz81_2
                  try clear hfz91_0
                  try clear hfz91_1
                  try clear hfz91_2
                  try clear hfz96_0
                  try clear hfz96_1
                  try clear hfz96_2
                  try clear p2
                  obtain ⟨kq, x49_104, rfl, HA, HJ104, BK249, BK250, BK251, BK252, BK258, BK262, HB⟩ := hcut
                  cases kq with
                  | zero => exact absurd HA.out (by simp [spec_SpanWhen.j3])
                  | succ kj104 =>
                    have H := HA.out
                    clear HA
                    simp only [spec_SpanWhen.j3] at H
                    have HC107 := Aside0.mk H
                    clear H
                    go_upto_if 49 with (fail)
                    go_cut [] (fun wc => ∃ (kq : Nat) (x259000_106 : Bool) (x259001_106 : Int) (x259002_106 : Int) (x263000_106 : Bool) (x263001_106 : Int) (x263002_106 : Int), Aside0 (spec_SpanWhen.j4 kq a0 a3 a1_0 a1_1 a1_2 a2_0 a2_1 a2_2 x259000_106 x259001_106 x259002_106 x263000_106 x263001_106 x263002_106 = some (r1, r2, r3, r4, r5, r6)) ∧ Aside0 (kq ≤ kj104) ∧ Bk wc gb249 (.cells #[.bool a1_0, .int .i64 a1_1, .int .i64 a1_2] 30 (0, 0)) ∧ Bk wc gb250 (.cells #[.bool a2_0, .int .i64 a2_1, .int .i64 a2_2] 30 (0, 0)) ∧ Bk wc gb251 (.cells #[.bool false, .int .i64 0, .int .i64 0] 30 (0, 0)) ∧ Bk wc gb252 (.cells #[.bool false, .int .i64 0, .int .i64 0] 30 (0, 0)) ∧ Bk wc gb258 (.cells #[.bool x259000_106, .int .i64 x259001_106, .int .i64 x259002_106] 30 (0, 0)) ∧ Bk wc gb262 (.cells #[.bool x263000_106, .int .i64 x263001_106, .int .i64 x263002_106] 30 (0, 0)) ∧ Bl w.heap.size w wc)
                    case first =>
                      have H := HC107.out
                      clear HC107
                      by_cases c108 : x49_104 = true
                      · subst c108
                        rw [if_pos rfl] at H
                        obtain ⟨ji109, hji109⟩ : ∃ j_ : Int, (mn a1_2 (wrap64 (a2_2 - 1))) = j_ := ⟨_, rfl⟩
                        replace H : ((spec_l1Of.f a1_1 (ji109)).bind fun bt266 => ((spec_l1Of.f (mx a2_1 (wrap64 (a1_1 + 1))) a2_2).bind fun bt269 => (spec_SpanWhen.j4 kj104 a0 a3 a1_0 a1_1 a1_2 a2_0 a2_1 a2_2 bt266.1 bt266.2.1 bt266.2.2 bt269.1 bt269.2.1 bt269.2.2))) = some (r1, r2, r3, r4, r5, r6) := by first | (rw [hji109] at H; exact H) | (simp only [hji109] at H ⊢; exact H)
                        have hji109_ : (if (wrap64 (a2_2 - 1)) < a1_2 then (wrap64 (a2_2 - 1)) else a1_2) = ji109 := hji109
                        replace H := Option.bind_eq_some_iff.mp H
                        obtain ⟨⟨t266, t267, t268⟩, A1100, H⟩ := H
                        try dsimp only at H
                        have A110 := Aside0.mk A1100
                        clear A1100
                        obtain ⟨ji111, hji111⟩ : ∃ j_ : Int, (mx a2_1 (wrap64 (a1_1 + 1))) = j_ := ⟨_, rfl⟩
                        replace H : ((spec_l1Of.f (ji111) a2_2).bind fun bt269 => (spec_SpanWhen.j4 kj104 a0 a3 a1_0 a1_1 a1_2 a2_0 a2_1 a2_2 t266 t267 t268 bt269.1 bt269.2.1 bt269.2.2)) = some (r1, r2, r3, r4, r5, r6) := by first | (rw [hji111] at H; exact H) | (simp only [hji111] at H ⊢; exact H)
                        (try rw [hji111] at A110)
                        have hji111_ : (if a2_1 < (wrap64 (a1_1 + 1)) then (wrap64 (a1_1 + 1)) else a2_1) = ji111 := hji111
                        replace H := Option.bind_eq_some_iff.mp H
                        obtain ⟨⟨t269, t270, t271⟩, A1120, H⟩ := H
                        try dsimp only at H
                        have A112 := Aside0.mk A1120
                        clear A1120
                        have H' := Aside0.mk H
                        clear H
                        have hnb113 := NB249_250.out
                        have hnc113 := NB250_249.out
                        have hnb114 := NB249_251.out
                        have hnc114 := NB251_249.out
                        have hnb115 := NB249_252.out
                        have hnc115 := NB252_249.out
                        have hnb116 := NB249_258.out
                        have hnc116 := NB258_249.out
                        have hnb117 := NB249_262.out
                        have hnc117 := NB262_249.out
                        have hcz118_0 := bc0 BK249.out
                        have hcz118_1 := bc1 BK249.out
                        have hcz118_2 := bc2 BK249.out
                        have hfz118_0 := blk_frozen BK249.out 0
                        have hfz118_1 := blk_frozen BK249.out 1
                        have hfz118_2 := blk_frozen BK249.out 2
                        have hnb119 := NB250_251.out
                        have hnc119 := NB251_250.out
                        have hnb120 := NB250_252.out
                        have hnc120 := NB252_250.out
                        have hnb121 := NB250_258.out
                        have hnc121 := NB258_250.out
                        have hnb122 := NB250_262.out
                        have hnc122 := NB262_250.out
                        have hcz123_0 := bc0 BK250.out
                        have hcz123_1 := bc1 BK250.out
                        have hcz123_2 := bc2 BK250.out
                        have hfz123_0 := blk_frozen BK250.out 0
                        have hfz123_1 := blk_frozen BK250.out 1
                        have hfz123_2 := blk_frozen BK250.out 2
                        go_wp2_with (first | ((with_reducible refine gate_callee (f := 41) rfl ?_); refine goesL_ (some 58) rfl rfl Try.func41 (by kernel_rfl) rfl #[.int .i64 a1_1, .int .i64 ji109] rfl (by (try simp only [List.map_toArray, List.map_cons, List.map_nil]); first | done | (simp only [hji109]; rfl) | rfl | (simp only [List.length_drop, List.length_take]; rfl)) ?_; (with_reducible refine (spec_l1Of.calls a1_1 ji109 t266 t267 t268 _ A110.out).mono ?_); rintro e w124 ⟨rfl, hb⟩; refine ⟨_, rfl, ?_⟩; have n0_ := Bk.mk (blk_below (g := gb249) bk hb); have n1_ := Bk.mk (blk_below (g := gb250) bk hb); have n2_ := Bk.mk (blk_below (g := gb251) bk hb); have n3_ := Bk.mk (blk_below (g := gb252) bk hb); have n4_ := Bk.mk (blk_below (g := gb258) bk hb); have n5_ := Bk.mk (blk_below (g := gb262) bk hb); have n6_ := Bl.mk (below_step bl hb); clear BK249; clear BK250; clear BK251; clear BK252; clear BK258; clear BK262; clear HB; have BK249 := n0_; have BK250 := n1_; have BK251 := n2_; have BK252 := n3_; have BK258 := n4_; have BK262 := n5_; have HB := n6_; clear n0_ n1_ n2_ n3_ n4_ n5_ n6_; (try clear hb); (try clear hb2); (try clear hk); (try clear hi); have hnb125 := NB258_251.out; have hnc125 := NB251_258.out; have hnb126 := NB258_252.out; have hnc126 := NB252_258.out; have hnb127 := NB258_262.out; have hnc127 := NB262_258.out; have hcz128_0 := bc0 BK258.out; have hcz128_1 := bc1 BK258.out; have hcz128_2 := bc2 BK258.out; have hfz128_0 := blk_frozen BK258.out 0; have hfz128_1 := blk_frozen BK258.out 1; have hfz128_2 := blk_frozen BK258.out 2; have hcz129_0 := bc0 BK250.out; have hcz129_1 := bc1 BK250.out; have hcz129_2 := bc2 BK250.out; have hfz129_0 := blk_frozen BK250.out 0; have hfz129_1 := blk_frozen BK250.out 1; have hfz129_2 := blk_frozen BK250.out 2; have hcz130_0 := bc0 BK249.out; have hcz130_1 := bc1 BK249.out; have hcz130_2 := bc2 BK249.out; have hfz130_0 := blk_frozen BK249.out 0; have hfz130_1 := blk_frozen BK249.out 1; have hfz130_2 := blk_frozen BK249.out 2) | ((with_reducible refine gate_callee (f := 41) rfl ?_); refine goesL_ (some 67) rfl rfl Try.func41 (by kernel_rfl) rfl #[.int .i64 ji111, .int .i64 a2_2] rfl (by (try simp only [List.map_toArray, List.map_cons, List.map_nil]); first | done | (simp only [hji111]; rfl) | rfl | (simp only [List.length_drop, List.length_take]; rfl)) ?_; (with_reducible refine (spec_l1Of.calls ji111 a2_2 t269 t270 t271 _ A112.out).mono ?_); rintro e w131 ⟨rfl, hb⟩; refine ⟨_, rfl, ?_⟩; have n0_ := Bk.mk (blk_below (g := gb249) (o := .cells #[.bool a1_0, .int .i64 a1_1, .int .i64 a1_2] 30 (0, 0)) bk hb); have n1_ := Bk.mk (blk_below (g := gb250) (o := .cells #[.bool a2_0, .int .i64 a2_1, .int .i64 a2_2] 30 (0, 0)) bk hb); have n2_ := Bk.mk (blk_below (g := gb251) (o := .cells #[.bool false, .int .i64 0, .int .i64 0] 30 (0, 0)) bk hb); have n3_ := Bk.mk (blk_below (g := gb252) (o := .cells #[.bool false, .int .i64 0, .int .i64 0] 30 (0, 0)) bk hb); have n4_ := Bk.mk (blk_below (g := gb258) (o := .cells #[.bool t266, .int .i64 t267, .int .i64 t268] 30 (0, 0)) bk hb); have n5_ := Bk.mk (blk_below (g := gb262) (o := .cells #[.bool x263000_82, .int .i64 x263001_82, .int .i64 x263002_82] 30 (0, 0)) bk hb); have n6_ := Bl.mk (below_step bl hb); clear BK249; clear BK250; clear BK251; clear BK252; clear BK258; clear BK262; clear HB; have BK249 := n0_; have BK250 := n1_; have BK251 := n2_; have BK252 := n3_; have BK258 := n4_; have BK262 := n5_; have HB := n6_; clear n0_ n1_ n2_ n3_ n4_ n5_ n6_; (try clear hb); (try clear hb2); (try clear hk); (try clear hi); have hnb132 := NB262_251.out; have hnc132 := NB251_262.out; have hnb133 := NB262_252.out; have hnc133 := NB252_262.out; have hcz134_0 := bc0 BK262.out; have hcz134_1 := bc1 BK262.out; have hcz134_2 := bc2 BK262.out; have hfz134_0 := blk_frozen BK262.out 0; have hfz134_1 := blk_frozen BK262.out 1; have hfz134_2 := blk_frozen BK262.out 2))
                        go_meet
                        case rel => exact ⟨_, (t266), (t267), (t268), (t269), (t270), (t271), H', ⟨by have := HJ4.out; have := HJ56.out; have := HJ82.out; have := HJ104.out; first | omega | exact Nat.le_refl _⟩, ⟨bk⟩, ⟨bk⟩, ⟨bk⟩, ⟨bk⟩, ⟨bk⟩, ⟨bk⟩, ⟨bl⟩⟩
                      · replace c108 := Bool.eq_false_iff.mpr c108
                        subst c108
                        rw [if_neg (show ¬ (false = true) by decide)] at H
                        have H' := Aside0.mk H
                        clear H
                        go_wp2
                        go_meet
                        case rel => exact ⟨_, (x259000_82), (x259001_82), (x259002_82), (x263000_82), (x263001_82), (x263002_82), H', ⟨by have := HJ4.out; have := HJ56.out; have := HJ82.out; have := HJ104.out; first | omega | exact Nat.le_refl _⟩, ⟨bk⟩, ⟨bk⟩, ⟨bk⟩, ⟨bk⟩, ⟨bk⟩, ⟨bk⟩, ⟨bl⟩⟩
                    case rest =>
                      clear HC107
                      try clear c1
                      try clear c2
                      try clear p2
                      try clear c3
                      try clear c4
                      try clear c5
                      try clear c6
                      try clear p6
                      try clear c7
                      try clear c8
                      try clear c9
                      try clear c10
                      try clear c11
                      try clear c12
                      try clear c13
                      try clear c14
                      try clear c14b0
                      try clear c14b1
                      try clear c15
                      try clear c16
                      try clear c17
                      try clear c20
                      try clear c21
                      try clear c24
                      try clear c25
                      try clear c26
                      try clear c29
                      try clear c30
                      try clear c33
                      try clear c34
                      try clear c35
                      try clear c38
                      try clear c39
                      try clear c41
                      try clear c42
                      try clear c43
                      try clear c44
                      try clear c47
                      try clear c48
                      try clear c49
                      try clear c50
                      try clear c52
                      try clear c53
                      try clear c58
                      try clear c59
                      try clear c60
                      try clear c62
                      try clear c63
                      try clear p64
                      try clear c67
                      try clear c68
                      try clear c69
                      try clear c70
                      try clear c76
                      try clear c77
                      try clear c78
                      try clear c79
                      try clear c80
                      try clear c82
                      try clear c82b0
                      try clear c82b1
                      try clear c84
                      try clear c86
                      try clear c87
                      try clear c88
                      try clear c89
                      try clear c90
                      try clear c92
                      try clear c93
                      try clear c94
                      try clear c95
                      try clear c98
                      try clear c99
                      try clear c100
                      try clear c102
                      try clear c103
                      try clear c106
                      try clear c106b0
                      try clear c106b1
                      try clear c108
                      try clear c113
                      try clear c114
                      try clear c115
                      try clear c116
                      try clear c117
                      try clear c119
                      try clear c120
                      try clear c121
                      try clear c122
                      try clear c125
                      try clear c126
                      try clear c127
                      try clear c132
                      try clear c133
                      try clear hcz101_0
                      try clear hcz101_1
                      try clear hcz101_2
                      try clear hcz104_0
                      try clear hcz104_1
                      try clear hcz104_2
                      try clear hcz118_0
                      try clear hcz118_1
                      try clear hcz118_2
                      try clear hcz123_0
                      try clear hcz123_1
                      try clear hcz123_2
                      try clear hcz128_0
                      try clear hcz128_1
                      try clear hcz128_2
                      try clear hcz129_0
                      try clear hcz129_1
                      try clear hcz129_2
                      try clear hcz130_0
                      try clear hcz130_1
                      try clear hcz130_2
                      try clear hcz134_0
                      try clear hcz134_1
                      try clear hcz134_2
                      try clear hcz18_0
                      try clear hcz18_1
                      try clear hcz18_2
                      try clear hcz22_0
                      try clear hcz22_1
                      try clear hcz22_2
                      try clear hcz27_0
                      try clear hcz27_1
                      try clear hcz27_2
                      try clear hcz31_0
                      try clear hcz31_1
                      try clear hcz31_2
                      try clear hcz36_0
                      try clear hcz36_1
                      try clear hcz36_2
                      try clear hcz40_0
                      try clear hcz40_1
                      try clear hcz40_2
                      try clear hcz45_0
                      try clear hcz45_1
                      try clear hcz45_2
                      try clear hcz51_0
                      try clear hcz51_1
                      try clear hcz51_2
                      try clear hcz54_0
                      try clear hcz54_1
                      try clear hcz54_2
                      try clear hcz61_0
                      try clear hcz61_1
                      try clear hcz61_2
                      try clear hcz64_0
                      try clear hcz64_1
                      try clear hcz64_2
                      try clear hcz71_0
                      try clear hcz71_1
                      try clear hcz71_2
                      try clear hcz72_0
                      try clear hcz72_1
                      try clear hcz72_2
                      try clear hcz73_0
                      try clear hcz73_1
                      try clear hcz73_2
                      try clear hcz81_0
                      try clear hcz81_1
                      try clear hcz81_2
                      try clear hcz91_0
                      try clear hcz91_1
                      try clear hcz91_2
                      try clear hcz96_0
                      try clear hcz96_1
                      try clear hcz96_2
                      try clear hfz101_0
                      try clear hfz101_1
                      try clear hfz101_2
                      try clear hfz104_0
                      try clear hfz104_1
                      try clear hfz104_2
                      try clear hfz118_0
                      try clear hfz118_1
                      try clear hfz118_2
                      try clear hfz123_0
                      try clear hfz123_1
                      try clear hfz123_2
                      try clear hfz128_0
                      try clear hfz128_1
                      try clear hfz128_2
                      try clear hfz129_0
                      try clear hfz129_1
                      try clear hfz129_2
                      try clear hfz130_0
                      try clear hfz130_1
                      try clear hfz130_2
                      try clear hfz134_0
                      try clear hfz134_1
                      try clear hfz134_2
                      try clear hfz18_0
                      try clear hfz18_1
                      try clear hfz18_2
                      try clear hfz22_0
                      try clear hfz22_1
                      try clear hfz22_2
                      try clear hfz27_0
                      try clear hfz27_1
                      try clear hfz27_2
                      try clear hfz31_0
                      try clear hfz31_1
                      try clear hfz31_2
                      try clear hfz36_0
                      try clear hfz36_1
                      try clear hfz36_2
                      try clear hfz40_0
                      try clear hfz40_1
                      try clear hfz40_2
                      try clear hfz45_0
                      try clear hfz45_1
                      try clear hfz45_2
                      try clear hfz51_0
                      try clear hfz51_1
                      try clear hfz51_2
                      try clear hfz54_0
                      try clear hfz54_1
                      try clear hfz54_2
                      try clear hfz61_0
                      try clear hfz61_1
                      try clear hfz61_2
                      try clear hfz64_0
                      try clear hfz64_1
                      try clear hfz64_2
                      try clear hfz71_0
                      try clear hfz71_1
                      try clear hfz71_2
                      try clear hfz72_0
                      try clear hfz72_1
                      try clear hfz72_2
                      try clear hfz73_0
                      try clear hfz73_1
                      try clear hfz73_2
                      try clear hfz81_0
                      try clear hfz81_1
                      try clear hfz81_2
                      try clear hfz91_0
                      try clear hfz91_1
                      try clear hfz91_2
                      try clear hfz96_0
                      try clear hfz96_1
                      try clear hfz96_2
                      try clear p2
                      obtain ⟨kq, x259000_106, x259001_106, x259002_106, x263000_106, x263001_106, x263002_106, HA, HJ106, BK249, BK250, BK251, BK252, BK258, BK262, HB⟩ := hcut
                      cases kq with
                      | zero => exact absurd HA.out (by simp [spec_SpanWhen.j4])
                      | succ kj106 =>
                        have H := HA.out
                        clear HA
                        simp only [spec_SpanWhen.j4] at H
                        have HC135 := Aside0.mk H
                        clear H
                        go_upto_region 11 with (fail)
                        go_cut [73] (fun v73 wc => ∃ (kq : Nat) (x73_134 : Bool), v73 = .bool x73_134 ∧ Aside0 (spec_SpanWhen.j5 kq x73_134 a1_0 a1_1 a1_2 a2_0 a2_1 a2_2 x259000_106 x259001_106 x259002_106 x263000_106 x263001_106 x263002_106 = some (r1, r2, r3, r4, r5, r6)) ∧ Aside0 (kq ≤ kj106) ∧ Bk wc gb249 (.cells #[.bool a1_0, .int .i64 a1_1, .int .i64 a1_2] 30 (0, 0)) ∧ Bk wc gb250 (.cells #[.bool a2_0, .int .i64 a2_1, .int .i64 a2_2] 30 (0, 0)) ∧ Bk wc gb251 (.cells #[.bool false, .int .i64 0, .int .i64 0] 30 (0, 0)) ∧ Bk wc gb252 (.cells #[.bool false, .int .i64 0, .int .i64 0] 30 (0, 0)) ∧ Bk wc gb258 (.cells #[.bool x259000_106, .int .i64 x259001_106, .int .i64 x259002_106] 30 (0, 0)) ∧ Bk wc gb262 (.cells #[.bool x263000_106, .int .i64 x263001_106, .int .i64 x263002_106] 30 (0, 0)) ∧ Bl w.heap.size w wc)
                        case first =>
                          have H := HC135.out
                          clear HC135
                          by_cases c136 : a0 = 5
                          · rw [if_pos c136] at H
                            have c136b0 : (a0 == 5) = true := beq_iff_eq.mpr c136
                            have c136b1 : (a0 != 5) = false := bne_eq_false_iff_eq.mpr c136
                            clear c136
                            (first | rw [c136b0] | (simp only [i64_w, i32_w]; rw [c136b0]) | skip)
                            have H' := Aside0.mk H
                            clear H
                            go_wp2
                            go_meet
                            case rel => exact ⟨_, (!a3), (by first | rfl | (simp; done) | (simp [*]; done)), H', ⟨by have := HJ4.out; have := HJ56.out; have := HJ82.out; have := HJ104.out; have := HJ106.out; first | omega | exact Nat.le_refl _⟩, ⟨bk⟩, ⟨bk⟩, ⟨bk⟩, ⟨bk⟩, ⟨bk⟩, ⟨bk⟩, ⟨bl⟩⟩
                          · rw [if_neg c136] at H
                            have c136b0 : (a0 == 5) = false := beq_eq_false_iff_ne.mpr c136
                            have c136b1 : (a0 != 5) = true := bne_iff_ne.mpr c136
                            (first | rw [c136b0] | (simp only [i64_w, i32_w]; rw [c136b0]) | skip)
                            have H' := Aside0.mk H
                            clear H
                            go_wp2
                            go_meet
                            case rel => exact ⟨_, (false), (by first | rfl | (simp; done) | (simp [*]; done)), H', ⟨by have := HJ4.out; have := HJ56.out; have := HJ82.out; have := HJ104.out; have := HJ106.out; first | omega | exact Nat.le_refl _⟩, ⟨bk⟩, ⟨bk⟩, ⟨bk⟩, ⟨bk⟩, ⟨bk⟩, ⟨bk⟩, ⟨bl⟩⟩
                        case rest =>
                          clear HC135
                          try clear c1
                          try clear c2
                          try clear p2
                          try clear c3
                          try clear c4
                          try clear c5
                          try clear c6
                          try clear p6
                          try clear c7
                          try clear c8
                          try clear c9
                          try clear c10
                          try clear c11
                          try clear c12
                          try clear c13
                          try clear c14
                          try clear c14b0
                          try clear c14b1
                          try clear c15
                          try clear c16
                          try clear c17
                          try clear c20
                          try clear c21
                          try clear c24
                          try clear c25
                          try clear c26
                          try clear c29
                          try clear c30
                          try clear c33
                          try clear c34
                          try clear c35
                          try clear c38
                          try clear c39
                          try clear c41
                          try clear c42
                          try clear c43
                          try clear c44
                          try clear c47
                          try clear c48
                          try clear c49
                          try clear c50
                          try clear c52
                          try clear c53
                          try clear c58
                          try clear c59
                          try clear c60
                          try clear c62
                          try clear c63
                          try clear p64
                          try clear c67
                          try clear c68
                          try clear c69
                          try clear c70
                          try clear c76
                          try clear c77
                          try clear c78
                          try clear c79
                          try clear c80
                          try clear c82
                          try clear c82b0
                          try clear c82b1
                          try clear c84
                          try clear c86
                          try clear c87
                          try clear c88
                          try clear c89
                          try clear c90
                          try clear c92
                          try clear c93
                          try clear c94
                          try clear c95
                          try clear c98
                          try clear c99
                          try clear c100
                          try clear c102
                          try clear c103
                          try clear c106
                          try clear c106b0
                          try clear c106b1
                          try clear c108
                          try clear c113
                          try clear c114
                          try clear c115
                          try clear c116
                          try clear c117
                          try clear c119
                          try clear c120
                          try clear c121
                          try clear c122
                          try clear c125
                          try clear c126
                          try clear c127
                          try clear c132
                          try clear c133
                          try clear c136
                          try clear c136b0
                          try clear c136b1
                          try clear hcz101_0
                          try clear hcz101_1
                          try clear hcz101_2
                          try clear hcz104_0
                          try clear hcz104_1
                          try clear hcz104_2
                          try clear hcz118_0
                          try clear hcz118_1
                          try clear hcz118_2
                          try clear hcz123_0
                          try clear hcz123_1
                          try clear hcz123_2
                          try clear hcz128_0
                          try clear hcz128_1
                          try clear hcz128_2
                          try clear hcz129_0
                          try clear hcz129_1
                          try clear hcz129_2
                          try clear hcz130_0
                          try clear hcz130_1
                          try clear hcz130_2
                          try clear hcz134_0
                          try clear hcz134_1
                          try clear hcz134_2
                          try clear hcz18_0
                          try clear hcz18_1
                          try clear hcz18_2
                          try clear hcz22_0
                          try clear hcz22_1
                          try clear hcz22_2
                          try clear hcz27_0
                          try clear hcz27_1
                          try clear hcz27_2
                          try clear hcz31_0
                          try clear hcz31_1
                          try clear hcz31_2
                          try clear hcz36_0
                          try clear hcz36_1
                          try clear hcz36_2
                          try clear hcz40_0
                          try clear hcz40_1
                          try clear hcz40_2
                          try clear hcz45_0
                          try clear hcz45_1
                          try clear hcz45_2
                          try clear hcz51_0
                          try clear hcz51_1
                          try clear hcz51_2
                          try clear hcz54_0
                          try clear hcz54_1
                          try clear hcz54_2
                          try clear hcz61_0
                          try clear hcz61_1
                          try clear hcz61_2
                          try clear hcz64_0
                          try clear hcz64_1
                          try clear hcz64_2
                          try clear hcz71_0
                          try clear hcz71_1
                          try clear hcz71_2
                          try clear hcz72_0
                          try clear hcz72_1
                          try clear hcz72_2
                          try clear hcz73_0
                          try clear hcz73_1
                          try clear hcz73_2
                          try clear hcz81_0
                          try clear hcz81_1
                          try clear hcz81_2
                          try clear hcz91_0
                          try clear hcz91_1
                          try clear hcz91_2
                          try clear hcz96_0
                          try clear hcz96_1
                          try clear hcz96_2
                          try clear hfz101_0
                          try clear hfz101_1
                          try clear hfz101_2
                          try clear hfz104_0
                          try clear hfz104_1
                          try clear hfz104_2
                          try clear hfz118_0
                          try clear hfz118_1
                          try clear hfz118_2
                          try clear hfz123_0
                          try clear hfz123_1
                          try clear hfz123_2
                          try clear hfz128_0
                          try clear hfz128_1
                          try clear hfz128_2
                          try clear hfz129_0
                          try clear hfz129_1
                          try clear hfz129_2
                          try clear hfz130_0
                          try clear hfz130_1
                          try clear hfz130_2
                          try clear hfz134_0
                          try clear hfz134_1
                          try clear hfz134_2
                          try clear hfz18_0
                          try clear hfz18_1
                          try clear hfz18_2
                          try clear hfz22_0
                          try clear hfz22_1
                          try clear hfz22_2
                          try clear hfz27_0
                          try clear hfz27_1
                          try clear hfz27_2
                          try clear hfz31_0
                          try clear hfz31_1
                          try clear hfz31_2
                          try clear hfz36_0
                          try clear hfz36_1
                          try clear hfz36_2
                          try clear hfz40_0
                          try clear hfz40_1
                          try clear hfz40_2
                          try clear hfz45_0
                          try clear hfz45_1
                          try clear hfz45_2
                          try clear hfz51_0
                          try clear hfz51_1
                          try clear hfz51_2
                          try clear hfz54_0
                          try clear hfz54_1
                          try clear hfz54_2
                          try clear hfz61_0
                          try clear hfz61_1
                          try clear hfz61_2
                          try clear hfz64_0
                          try clear hfz64_1
                          try clear hfz64_2
                          try clear hfz71_0
                          try clear hfz71_1
                          try clear hfz71_2
                          try clear hfz72_0
                          try clear hfz72_1
                          try clear hfz72_2
                          try clear hfz73_0
                          try clear hfz73_1
                          try clear hfz73_2
                          try clear hfz81_0
                          try clear hfz81_1
                          try clear hfz81_2
                          try clear hfz91_0
                          try clear hfz91_1
                          try clear hfz91_2
                          try clear hfz96_0
                          try clear hfz96_1
                          try clear hfz96_2
                          try clear p2
                          try clear p6
                          try clear p64
                          obtain ⟨kq, x73_134, rfl, HA, HJ134, BK249, BK250, BK251, BK252, BK258, BK262, HB⟩ := hcut
                          cases kq with
                          | zero => exact absurd HA.out (by simp [spec_SpanWhen.j5])
                          | succ kj134 =>
                            have H := HA.out
                            clear HA
                            simp only [spec_SpanWhen.j5] at H
                            by_cases c137 : x73_134 = true
                            · subst c137
                              rw [if_pos rfl] at H
                              obtain ⟨ji138, hji138⟩ : ∃ j_ : Int, (mx a1_1 a2_1) = j_ := ⟨_, rfl⟩
                              replace H : ((spec_l1Of.f (ji138) a1_2).bind fun bt272 => ((spec_l1Of.f a2_1 (mn a2_2 a1_2)).bind fun bt275 => (if bt272.1 = true then (if bt275.1 = true then (some (bt272.1, bt272.2.1, bt272.2.2, bt275.1, bt275.2.1, bt275.2.2)) else (some (false, 0, 0, false, 0, 0))) else (some (false, 0, 0, false, 0, 0))))) = some (r1, r2, r3, r4, r5, r6) := by first | (rw [hji138] at H; exact H) | (simp only [hji138] at H ⊢; exact H)
                              have hji138_ : (if a1_1 < a2_1 then a2_1 else a1_1) = ji138 := hji138
                              replace H := Option.bind_eq_some_iff.mp H
                              obtain ⟨⟨t272, t273, t274⟩, A1390, H⟩ := H
                              try dsimp only at H
                              have A139 := Aside0.mk A1390
                              clear A1390
                              obtain ⟨ji140, hji140⟩ : ∃ j_ : Int, (mn a2_2 a1_2) = j_ := ⟨_, rfl⟩
                              replace H : ((spec_l1Of.f a2_1 (ji140)).bind fun bt275 => (if t272 = true then (if bt275.1 = true then (some (t272, t273, t274, bt275.1, bt275.2.1, bt275.2.2)) else (some (false, 0, 0, false, 0, 0))) else (some (false, 0, 0, false, 0, 0)))) = some (r1, r2, r3, r4, r5, r6) := by first | (rw [hji140] at H; exact H) | (simp only [hji140] at H ⊢; exact H)
                              (try rw [hji140] at A139)
                              have hji140_ : (if a1_2 < a2_2 then a1_2 else a2_2) = ji140 := hji140
                              replace H := Option.bind_eq_some_iff.mp H
                              obtain ⟨⟨t275, t276, t277⟩, A1410, H⟩ := H
                              try dsimp only at H
                              have A141 := Aside0.mk A1410
                              clear A1410
                              by_cases c142 : t272 = true
                              · subst c142
                                rw [if_pos rfl] at H
                                by_cases c143 : t275 = true
                                · subst c143
                                  rw [if_pos rfl] at H
                                  simp only [Option.some.injEq, Prod.mk.injEq] at H
                                  obtain ⟨rfl, rfl, rfl, rfl, rfl, rfl⟩ := H
                                  have hnb144 := NB249_250.out
                                  have hnc144 := NB250_249.out
                                  have hnb145 := NB249_251.out
                                  have hnc145 := NB251_249.out
                                  have hnb146 := NB249_252.out
                                  have hnc146 := NB252_249.out
                                  have hnb147 := NB249_258.out
                                  have hnc147 := NB258_249.out
                                  have hnb148 := NB249_262.out
                                  have hnc148 := NB262_249.out
                                  have hcz149_0 := bc0 BK249.out
                                  have hcz149_1 := bc1 BK249.out
                                  have hcz149_2 := bc2 BK249.out
                                  have hfz149_0 := blk_frozen BK249.out 0
                                  have hfz149_1 := blk_frozen BK249.out 1
                                  have hfz149_2 := blk_frozen BK249.out 2
                                  have hnb150 := NB250_251.out
                                  have hnc150 := NB251_250.out
                                  have hnb151 := NB250_252.out
                                  have hnc151 := NB252_250.out
                                  have hnb152 := NB250_258.out
                                  have hnc152 := NB258_250.out
                                  have hnb153 := NB250_262.out
                                  have hnc153 := NB262_250.out
                                  have hcz154_0 := bc0 BK250.out
                                  have hcz154_1 := bc1 BK250.out
                                  have hcz154_2 := bc2 BK250.out
                                  have hfz154_0 := blk_frozen BK250.out 0
                                  have hfz154_1 := blk_frozen BK250.out 1
                                  have hfz154_2 := blk_frozen BK250.out 2
                                  try go_wp2_with (first | ((with_reducible refine gate_callee (f := 41) rfl ?_); refine goesL_ (some 81) rfl rfl Try.func41 (by kernel_rfl) rfl #[.int .i64 ji138, .int .i64 a1_2] rfl (by (try simp only [List.map_toArray, List.map_cons, List.map_nil]); first | done | (simp only [hji138]; rfl) | rfl | (simp only [List.length_drop, List.length_take]; rfl)) ?_; (with_reducible refine (spec_l1Of.calls ji138 a1_2 true t273 t274 _ A139.out).mono ?_); rintro e w155 ⟨rfl, hb⟩; refine ⟨_, rfl, ?_⟩; have n0_ := Bk.mk (blk_below (g := gb249) bk hb); have n1_ := Bk.mk (blk_below (g := gb250) bk hb); have n2_ := Bk.mk (blk_below (g := gb251) bk hb); have n3_ := Bk.mk (blk_below (g := gb252) bk hb); have n4_ := Bk.mk (blk_below (g := gb258) bk hb); have n5_ := Bk.mk (blk_below (g := gb262) bk hb); have n6_ := Bl.mk (below_step bl hb); clear BK249; clear BK250; clear BK251; clear BK252; clear BK258; clear BK262; clear HB; have BK249 := n0_; have BK250 := n1_; have BK251 := n2_; have BK252 := n3_; have BK258 := n4_; have BK262 := n5_; have HB := n6_; clear n0_ n1_ n2_ n3_ n4_ n5_ n6_; (try clear hb); (try clear hb2); (try clear hk); (try clear hi); have hnb156 := NB258_251.out; have hnc156 := NB251_258.out; have hnb157 := NB258_252.out; have hnc157 := NB252_258.out; have hnb158 := NB258_262.out; have hnc158 := NB262_258.out; have hcz159_0 := bc0 BK258.out; have hcz159_1 := bc1 BK258.out; have hcz159_2 := bc2 BK258.out; have hfz159_0 := blk_frozen BK258.out 0; have hfz159_1 := blk_frozen BK258.out 1; have hfz159_2 := blk_frozen BK258.out 2; have hcz160_0 := bc0 BK250.out; have hcz160_1 := bc1 BK250.out; have hcz160_2 := bc2 BK250.out; have hfz160_0 := blk_frozen BK250.out 0; have hfz160_1 := blk_frozen BK250.out 1; have hfz160_2 := blk_frozen BK250.out 2; have hcz161_0 := bc0 BK249.out; have hcz161_1 := bc1 BK249.out; have hcz161_2 := bc2 BK249.out; have hfz161_0 := blk_frozen BK249.out 0; have hfz161_1 := blk_frozen BK249.out 1; have hfz161_2 := blk_frozen BK249.out 2) | ((with_reducible refine gate_callee (f := 41) rfl ?_); refine goesL_ (some 89) rfl rfl Try.func41 (by kernel_rfl) rfl #[.int .i64 a2_1, .int .i64 ji140] rfl (by (try simp only [List.map_toArray, List.map_cons, List.map_nil]); first | done | (simp only [hji140]; rfl) | rfl | (simp only [List.length_drop, List.length_take]; rfl)) ?_; (with_reducible refine (spec_l1Of.calls a2_1 ji140 true t276 t277 _ A141.out).mono ?_); rintro e w162 ⟨rfl, hb⟩; refine ⟨_, rfl, ?_⟩; have n0_ := Bk.mk (blk_below (g := gb249) (o := .cells #[.bool a1_0, .int .i64 a1_1, .int .i64 a1_2] 30 (0, 0)) bk hb); have n1_ := Bk.mk (blk_below (g := gb250) (o := .cells #[.bool a2_0, .int .i64 a2_1, .int .i64 a2_2] 30 (0, 0)) bk hb); have n2_ := Bk.mk (blk_below (g := gb251) (o := .cells #[.bool false, .int .i64 0, .int .i64 0] 30 (0, 0)) bk hb); have n3_ := Bk.mk (blk_below (g := gb252) (o := .cells #[.bool false, .int .i64 0, .int .i64 0] 30 (0, 0)) bk hb); have n4_ := Bk.mk (blk_below (g := gb258) (o := .cells #[.bool true, .int .i64 t273, .int .i64 t274] 30 (0, 0)) bk hb); have n5_ := Bk.mk (blk_below (g := gb262) (o := .cells #[.bool x263000_106, .int .i64 x263001_106, .int .i64 x263002_106] 30 (0, 0)) bk hb); have n6_ := Bl.mk (below_step bl hb); clear BK249; clear BK250; clear BK251; clear BK252; clear BK258; clear BK262; clear HB; have BK249 := n0_; have BK250 := n1_; have BK251 := n2_; have BK252 := n3_; have BK258 := n4_; have BK262 := n5_; have HB := n6_; clear n0_ n1_ n2_ n3_ n4_ n5_ n6_; (try clear hb); (try clear hb2); (try clear hk); (try clear hi); have hnb163 := NB262_251.out; have hnc163 := NB251_262.out; have hnb164 := NB262_252.out; have hnc164 := NB252_262.out; have hcz165_0 := bc0 BK262.out; have hcz165_1 := bc1 BK262.out; have hcz165_2 := bc2 BK262.out; have hfz165_0 := blk_frozen BK262.out 0; have hfz165_1 := blk_frozen BK262.out 1; have hfz165_2 := blk_frozen BK262.out 2; have hcz166_0 := bc0 BK258.out; have hcz166_1 := bc1 BK258.out; have hcz166_2 := bc2 BK258.out; have hfz166_0 := blk_frozen BK258.out 0; have hfz166_1 := blk_frozen BK258.out 1; have hfz166_2 := blk_frozen BK258.out 2))
                                  have n0_ : Bk (((w162.setCell ⟨gb262, 0, none⟩ (.bool true)).setCell ⟨gb262, 1, none⟩ (.int .i64 t276)).setCell ⟨gb262, 2, none⟩ (.int .i64 t277)) gb249 (.cells #[.bool a1_0, .int .i64 a1_1, .int .i64 a1_2] 30 (0, 0)) := ⟨bk⟩
                                  have n1_ : Bk (((w162.setCell ⟨gb262, 0, none⟩ (.bool true)).setCell ⟨gb262, 1, none⟩ (.int .i64 t276)).setCell ⟨gb262, 2, none⟩ (.int .i64 t277)) gb250 (.cells #[.bool a2_0, .int .i64 a2_1, .int .i64 a2_2] 30 (0, 0)) := ⟨bk⟩
                                  have n2_ : Bk (((w162.setCell ⟨gb262, 0, none⟩ (.bool true)).setCell ⟨gb262, 1, none⟩ (.int .i64 t276)).setCell ⟨gb262, 2, none⟩ (.int .i64 t277)) gb251 (.cells #[.bool false, .int .i64 0, .int .i64 0] 30 (0, 0)) := ⟨bk⟩
                                  have n3_ : Bk (((w162.setCell ⟨gb262, 0, none⟩ (.bool true)).setCell ⟨gb262, 1, none⟩ (.int .i64 t276)).setCell ⟨gb262, 2, none⟩ (.int .i64 t277)) gb252 (.cells #[.bool false, .int .i64 0, .int .i64 0] 30 (0, 0)) := ⟨bk⟩
                                  have n4_ : Bk (((w162.setCell ⟨gb262, 0, none⟩ (.bool true)).setCell ⟨gb262, 1, none⟩ (.int .i64 t276)).setCell ⟨gb262, 2, none⟩ (.int .i64 t277)) gb258 (.cells #[.bool true, .int .i64 t273, .int .i64 t274] 30 (0, 0)) := ⟨bk⟩
                                  have n5_ : Bk (((w162.setCell ⟨gb262, 0, none⟩ (.bool true)).setCell ⟨gb262, 1, none⟩ (.int .i64 t276)).setCell ⟨gb262, 2, none⟩ (.int .i64 t277)) gb262 (.cells #[.bool true, .int .i64 t276, .int .i64 t277] 30 (0, 0)) := ⟨bk⟩
                                  have n6_ : Bl w.heap.size w (((w162.setCell ⟨gb262, 0, none⟩ (.bool true)).setCell ⟨gb262, 1, none⟩ (.int .i64 t276)).setCell ⟨gb262, 2, none⟩ (.int .i64 t277)) := ⟨bl⟩
                                  (try clear BK249)
                                  (try clear BK250)
                                  (try clear BK251)
                                  (try clear BK252)
                                  (try clear BK258)
                                  (try clear BK262)
                                  (try clear HB)
                                  generalize (((w162.setCell ⟨gb262, 0, none⟩ (.bool true)).setCell ⟨gb262, 1, none⟩ (.int .i64 t276)).setCell ⟨gb262, 2, none⟩ (.int .i64 t277)) = w167 at n0_ n1_ n2_ n3_ n4_ n5_ n6_ ⊢
                                  have BK249 := n0_
                                  have BK250 := n1_
                                  have BK251 := n2_
                                  have BK252 := n3_
                                  have BK258 := n4_
                                  have BK262 := n5_
                                  have HB := n6_
                                  clear n0_ n1_ n2_ n3_ n4_ n5_ n6_
                                  have n0_ := Bk.mk (blk_drew BK249.out)
                                  have n1_ := Bk.mk (blk_drew BK250.out)
                                  have n2_ := Bk.mk (blk_drew BK251.out)
                                  have n3_ := Bk.mk (blk_drew BK252.out)
                                  have n4_ := Bk.mk (blk_drew BK258.out)
                                  have n5_ := Bk.mk (blk_drew BK262.out)
                                  have n6_ := Bl.mk (below_drew1 HB.out)
                                  clear BK249
                                  clear BK250
                                  clear BK251
                                  clear BK252
                                  clear BK258
                                  clear BK262
                                  clear HB
                                  have BK249 := n0_
                                  have BK250 := n1_
                                  have BK251 := n2_
                                  have BK252 := n3_
                                  have BK258 := n4_
                                  have BK262 := n5_
                                  have HB := n6_
                                  clear n0_ n1_ n2_ n3_ n4_ n5_ n6_
                                  refine start_ (n := 4) (S := fun w' => w'.cell? ⟨gb258, 0, none⟩ = some (.bool true) ∧ w'.cell? ⟨gb258, 1, none⟩ = some (.int .i64 t273) ∧ w'.cell? ⟨gb258, 2, none⟩ = some (.int .i64 t274) ∧ w'.cell? ⟨gb262, 0, none⟩ = some (.bool true) ∧ w'.cell? ⟨gb262, 1, none⟩ = some (.int .i64 t276) ∧ w'.cell? ⟨gb262, 2, none⟩ = some (.int .i64 t277)) (ds := []) #[false, false, false, false] (by kernel_rfl) rfl rfl ⟨(blk_cell BK258.out 0).trans rfl, (blk_cell BK258.out 1).trans rfl, (blk_cell BK258.out 2).trans rfl, (blk_cell BK262.out 0).trans rfl, (blk_cell BK262.out 1).trans rfl, (blk_cell BK262.out 2).trans rfl⟩ (fun hHeld => ?_)
                                  generalize w167.drew = w168 at BK249 BK250 BK251 BK252 BK258 BK262 HB hHeld ⊢
                                  refine take_ (i := 0) (N := some 100) (v := ?_) (a' := ?_) #[true, false, false, false] rfl rfl (by kernel_rfl) (fun _ _ _ h => h) (Or.inl ⟨by rfl, ?_⟩) hHeld ?_ ?_
                                  rotate_left
                                  · rintro w' ⟨s0, s1, s2, s3, s4, s5⟩
                                    go_simp
                                    with_reducible rfl
                                  rotate_left
                                  · simp only [Act.put, List.setIfInBounds_toArray, List.set_cons_zero, List.set_cons_succ, i64_w, i32_w]
                                    rfl
                                  refine take_ (i := 1) (N := some 101) (v := ?_) (a' := ?_) #[true, true, false, false] rfl rfl (by kernel_rfl) (fun _ _ _ h => h) (Or.inl ⟨by rfl, ?_⟩) hHeld ?_ ?_
                                  rotate_left
                                  · rintro w' ⟨s0, s1, s2, s3, s4, s5⟩
                                    go_simp
                                    with_reducible rfl
                                  rotate_left
                                  · simp only [Act.put, List.setIfInBounds_toArray, List.set_cons_zero, List.set_cons_succ, i64_w, i32_w]
                                    rfl
                                  refine one_ (i := 2) (N := none) #[true, true, true, false] rfl rfl (by kernel_rfl) (by decide) (fun K hK => ?_)
                                  have hs169 : w168.cell? ⟨gb251, 0, none⟩ = some (.bool false) := (blk_cell BK251.out 0).trans rfl
                                  have hfs169 := blk_frozen BK251.out 0
                                  have hns169_0 := NB249_251.out
                                  have hns169_1 := NB250_251.out
                                  have hns169_3 := NB252_251.out
                                  have hns169_4 := NB258_251.out
                                  have hns169_5 := NB262_251.out
                                  have hms169_0 := NB251_249.out
                                  have hms169_1 := NB251_250.out
                                  have hms169_3 := NB251_252.out
                                  have hms169_4 := NB251_258.out
                                  have hms169_5 := NB251_262.out
                                  have hs170 : w168.cell? ⟨gb251, 1, none⟩ = some (.int .i64 0) := (blk_cell BK251.out 1).trans rfl
                                  have hfs170 := blk_frozen BK251.out 1
                                  have hns170_0 := NB249_251.out
                                  have hns170_1 := NB250_251.out
                                  have hns170_3 := NB252_251.out
                                  have hns170_4 := NB258_251.out
                                  have hns170_5 := NB262_251.out
                                  have hms170_0 := NB251_249.out
                                  have hms170_1 := NB251_250.out
                                  have hms170_3 := NB251_252.out
                                  have hms170_4 := NB251_258.out
                                  have hms170_5 := NB251_262.out
                                  have hs171 : w168.cell? ⟨gb251, 2, none⟩ = some (.int .i64 0) := (blk_cell BK251.out 2).trans rfl
                                  have hfs171 := blk_frozen BK251.out 2
                                  have hns171_0 := NB249_251.out
                                  have hns171_1 := NB250_251.out
                                  have hns171_3 := NB252_251.out
                                  have hns171_4 := NB258_251.out
                                  have hns171_5 := NB262_251.out
                                  have hms171_0 := NB251_249.out
                                  have hms171_1 := NB251_250.out
                                  have hms171_3 := NB251_252.out
                                  have hms171_4 := NB251_258.out
                                  have hms171_5 := NB251_262.out
                                  refine skip_ (w1 := ?_) (by rfl) rfl ?_ ?_
                                  rotate_left
                                  · go_simp
                                    rfl
                                  refine hK.out _ _ ⟨((cell_far (p := ⟨gb251, _, none⟩) NB258_251.out _).trans (((cell_far (p := ⟨gb251, _, none⟩) NB258_251.out _).trans (((cell_far (p := ⟨gb251, _, none⟩) NB258_251.out _).trans (hHeld.1)))))), ((cell_far (p := ⟨gb251, _, none⟩) NB258_251.out _).trans (((cell_far (p := ⟨gb251, _, none⟩) NB258_251.out _).trans (((cell_far (p := ⟨gb251, _, none⟩) NB258_251.out _).trans (hHeld.2.1)))))), ((cell_far (p := ⟨gb251, _, none⟩) NB258_251.out _).trans (((cell_far (p := ⟨gb251, _, none⟩) NB258_251.out _).trans (((cell_far (p := ⟨gb251, _, none⟩) NB258_251.out _).trans (hHeld.2.2.1)))))), ((cell_far (p := ⟨gb251, _, none⟩) NB262_251.out _).trans (((cell_far (p := ⟨gb251, _, none⟩) NB262_251.out _).trans (((cell_far (p := ⟨gb251, _, none⟩) NB262_251.out _).trans (hHeld.2.2.2.1)))))), ((cell_far (p := ⟨gb251, _, none⟩) NB262_251.out _).trans (((cell_far (p := ⟨gb251, _, none⟩) NB262_251.out _).trans (((cell_far (p := ⟨gb251, _, none⟩) NB262_251.out _).trans (hHeld.2.2.2.2.1)))))), ((cell_far (p := ⟨gb251, _, none⟩) NB262_251.out _).trans (((cell_far (p := ⟨gb251, _, none⟩) NB262_251.out _).trans (((cell_far (p := ⟨gb251, _, none⟩) NB262_251.out _).trans (hHeld.2.2.2.2.2))))))⟩ (fun hHeld => ?_)
                                  clear hK K
                                  refine one_ (i := 3) (N := none) #[true, true, true, true] rfl rfl (by kernel_rfl) (by decide) (fun K hK => ?_)
                                  have hs172 : w168.cell? ⟨gb252, 0, none⟩ = some (.bool false) := (blk_cell BK252.out 0).trans rfl
                                  have hfs172 := blk_frozen BK252.out 0
                                  have hns172_0 := NB249_252.out
                                  have hns172_1 := NB250_252.out
                                  have hns172_2 := NB251_252.out
                                  have hns172_4 := NB258_252.out
                                  have hns172_5 := NB262_252.out
                                  have hms172_0 := NB252_249.out
                                  have hms172_1 := NB252_250.out
                                  have hms172_2 := NB252_251.out
                                  have hms172_4 := NB252_258.out
                                  have hms172_5 := NB252_262.out
                                  have hs173 : w168.cell? ⟨gb252, 1, none⟩ = some (.int .i64 0) := (blk_cell BK252.out 1).trans rfl
                                  have hfs173 := blk_frozen BK252.out 1
                                  have hns173_0 := NB249_252.out
                                  have hns173_1 := NB250_252.out
                                  have hns173_2 := NB251_252.out
                                  have hns173_4 := NB258_252.out
                                  have hns173_5 := NB262_252.out
                                  have hms173_0 := NB252_249.out
                                  have hms173_1 := NB252_250.out
                                  have hms173_2 := NB252_251.out
                                  have hms173_4 := NB252_258.out
                                  have hms173_5 := NB252_262.out
                                  have hs174 : w168.cell? ⟨gb252, 2, none⟩ = some (.int .i64 0) := (blk_cell BK252.out 2).trans rfl
                                  have hfs174 := blk_frozen BK252.out 2
                                  have hns174_0 := NB249_252.out
                                  have hns174_1 := NB250_252.out
                                  have hns174_2 := NB251_252.out
                                  have hns174_4 := NB258_252.out
                                  have hns174_5 := NB262_252.out
                                  have hms174_0 := NB252_249.out
                                  have hms174_1 := NB252_250.out
                                  have hms174_2 := NB252_251.out
                                  have hms174_4 := NB252_258.out
                                  have hms174_5 := NB252_262.out
                                  refine skip_ (w1 := ?_) (by rfl) rfl ?_ ?_
                                  rotate_left
                                  · go_simp
                                    rfl
                                  refine hK.out _ _ ⟨((cell_far (p := ⟨gb252, _, none⟩) NB258_252.out _).trans (((cell_far (p := ⟨gb252, _, none⟩) NB258_252.out _).trans (((cell_far (p := ⟨gb252, _, none⟩) NB258_252.out _).trans (hHeld.1)))))), ((cell_far (p := ⟨gb252, _, none⟩) NB258_252.out _).trans (((cell_far (p := ⟨gb252, _, none⟩) NB258_252.out _).trans (((cell_far (p := ⟨gb252, _, none⟩) NB258_252.out _).trans (hHeld.2.1)))))), ((cell_far (p := ⟨gb252, _, none⟩) NB258_252.out _).trans (((cell_far (p := ⟨gb252, _, none⟩) NB258_252.out _).trans (((cell_far (p := ⟨gb252, _, none⟩) NB258_252.out _).trans (hHeld.2.2.1)))))), ((cell_far (p := ⟨gb252, _, none⟩) NB262_252.out _).trans (((cell_far (p := ⟨gb252, _, none⟩) NB262_252.out _).trans (((cell_far (p := ⟨gb252, _, none⟩) NB262_252.out _).trans (hHeld.2.2.2.1)))))), ((cell_far (p := ⟨gb252, _, none⟩) NB262_252.out _).trans (((cell_far (p := ⟨gb252, _, none⟩) NB262_252.out _).trans (((cell_far (p := ⟨gb252, _, none⟩) NB262_252.out _).trans (hHeld.2.2.2.2.1)))))), ((cell_far (p := ⟨gb252, _, none⟩) NB262_252.out _).trans (((cell_far (p := ⟨gb252, _, none⟩) NB262_252.out _).trans (((cell_far (p := ⟨gb252, _, none⟩) NB262_252.out _).trans (hHeld.2.2.2.2.2))))))⟩ (fun hHeld => ?_)
                                  clear hK K
                                  refine done_ (by kernel_rfl) ?_
                                  try go_wp2
                                  refine bodyPost_ret (results_cc rfl _ _ gb251 gb252 30 30 #[.bool true, .int .i64 t273, .int .i64 t274] #[.bool true, .int .i64 t276, .int .i64 t277] (0, 0) (0, 0) _ _ rfl bk Try.underlying30 rfl (by kernel_rfl) rfl bk Try.underlying30 rfl (by kernel_rfl)) rfl ?_
                                  exact ⟨by first | rfl | (simp [errW_none, errW_some] <;> rfl) | (simp only [← hji138, ← hji140]; first | rfl | (simp [errW_none, errW_some] <;> rfl)) | (simp [*, errW_none, errW_some] <;> rfl), bl⟩
                                · replace c143 := Bool.eq_false_iff.mpr c143
                                  subst c143
                                  rw [if_neg (show ¬ (false = true) by decide)] at H
                                  simp only [Option.some.injEq, Prod.mk.injEq] at H
                                  obtain ⟨rfl, rfl, rfl, rfl, rfl, rfl⟩ := H
                                  have hnb175 := NB249_250.out
                                  have hnc175 := NB250_249.out
                                  have hnb176 := NB249_251.out
                                  have hnc176 := NB251_249.out
                                  have hnb177 := NB249_252.out
                                  have hnc177 := NB252_249.out
                                  have hnb178 := NB249_258.out
                                  have hnc178 := NB258_249.out
                                  have hnb179 := NB249_262.out
                                  have hnc179 := NB262_249.out
                                  have hcz180_0 := bc0 BK249.out
                                  have hcz180_1 := bc1 BK249.out
                                  have hcz180_2 := bc2 BK249.out
                                  have hfz180_0 := blk_frozen BK249.out 0
                                  have hfz180_1 := blk_frozen BK249.out 1
                                  have hfz180_2 := blk_frozen BK249.out 2
                                  have hnb181 := NB250_251.out
                                  have hnc181 := NB251_250.out
                                  have hnb182 := NB250_252.out
                                  have hnc182 := NB252_250.out
                                  have hnb183 := NB250_258.out
                                  have hnc183 := NB258_250.out
                                  have hnb184 := NB250_262.out
                                  have hnc184 := NB262_250.out
                                  have hcz185_0 := bc0 BK250.out
                                  have hcz185_1 := bc1 BK250.out
                                  have hcz185_2 := bc2 BK250.out
                                  have hfz185_0 := blk_frozen BK250.out 0
                                  have hfz185_1 := blk_frozen BK250.out 1
                                  have hfz185_2 := blk_frozen BK250.out 2
                                  go_wp2_with (first | ((with_reducible refine gate_callee (f := 41) rfl ?_); refine goesL_ (some 81) rfl rfl Try.func41 (by kernel_rfl) rfl #[.int .i64 ji138, .int .i64 a1_2] rfl (by (try simp only [List.map_toArray, List.map_cons, List.map_nil]); first | done | (simp only [hji138]; rfl) | rfl | (simp only [List.length_drop, List.length_take]; rfl)) ?_; (with_reducible refine (spec_l1Of.calls ji138 a1_2 true t273 t274 _ A139.out).mono ?_); rintro e w186 ⟨rfl, hb⟩; refine ⟨_, rfl, ?_⟩; have n0_ := Bk.mk (blk_below (g := gb249) bk hb); have n1_ := Bk.mk (blk_below (g := gb250) bk hb); have n2_ := Bk.mk (blk_below (g := gb251) bk hb); have n3_ := Bk.mk (blk_below (g := gb252) bk hb); have n4_ := Bk.mk (blk_below (g := gb258) bk hb); have n5_ := Bk.mk (blk_below (g := gb262) bk hb); have n6_ := Bl.mk (below_step bl hb); clear BK249; clear BK250; clear BK251; clear BK252; clear BK258; clear BK262; clear HB; have BK249 := n0_; have BK250 := n1_; have BK251 := n2_; have BK252 := n3_; have BK258 := n4_; have BK262 := n5_; have HB := n6_; clear n0_ n1_ n2_ n3_ n4_ n5_ n6_; (try clear hb); (try clear hb2); (try clear hk); (try clear hi); have hnb187 := NB258_251.out; have hnc187 := NB251_258.out; have hnb188 := NB258_252.out; have hnc188 := NB252_258.out; have hnb189 := NB258_262.out; have hnc189 := NB262_258.out; have hcz190_0 := bc0 BK258.out; have hcz190_1 := bc1 BK258.out; have hcz190_2 := bc2 BK258.out; have hfz190_0 := blk_frozen BK258.out 0; have hfz190_1 := blk_frozen BK258.out 1; have hfz190_2 := blk_frozen BK258.out 2; have hcz191_0 := bc0 BK250.out; have hcz191_1 := bc1 BK250.out; have hcz191_2 := bc2 BK250.out; have hfz191_0 := blk_frozen BK250.out 0; have hfz191_1 := blk_frozen BK250.out 1; have hfz191_2 := blk_frozen BK250.out 2; have hcz192_0 := bc0 BK249.out; have hcz192_1 := bc1 BK249.out; have hcz192_2 := bc2 BK249.out; have hfz192_0 := blk_frozen BK249.out 0; have hfz192_1 := blk_frozen BK249.out 1; have hfz192_2 := blk_frozen BK249.out 2) | ((with_reducible refine gate_callee (f := 41) rfl ?_); refine goesL_ (some 89) rfl rfl Try.func41 (by kernel_rfl) rfl #[.int .i64 a2_1, .int .i64 ji140] rfl (by (try simp only [List.map_toArray, List.map_cons, List.map_nil]); first | done | (simp only [hji140]; rfl) | rfl | (simp only [List.length_drop, List.length_take]; rfl)) ?_; (with_reducible refine (spec_l1Of.calls a2_1 ji140 false t276 t277 _ A141.out).mono ?_); rintro e w193 ⟨rfl, hb⟩; refine ⟨_, rfl, ?_⟩; have n0_ := Bk.mk (blk_below (g := gb249) (o := .cells #[.bool a1_0, .int .i64 a1_1, .int .i64 a1_2] 30 (0, 0)) bk hb); have n1_ := Bk.mk (blk_below (g := gb250) (o := .cells #[.bool a2_0, .int .i64 a2_1, .int .i64 a2_2] 30 (0, 0)) bk hb); have n2_ := Bk.mk (blk_below (g := gb251) (o := .cells #[.bool false, .int .i64 0, .int .i64 0] 30 (0, 0)) bk hb); have n3_ := Bk.mk (blk_below (g := gb252) (o := .cells #[.bool false, .int .i64 0, .int .i64 0] 30 (0, 0)) bk hb); have n4_ := Bk.mk (blk_below (g := gb258) (o := .cells #[.bool true, .int .i64 t273, .int .i64 t274] 30 (0, 0)) bk hb); have n5_ := Bk.mk (blk_below (g := gb262) (o := .cells #[.bool x263000_106, .int .i64 x263001_106, .int .i64 x263002_106] 30 (0, 0)) bk hb); have n6_ := Bl.mk (below_step bl hb); clear BK249; clear BK250; clear BK251; clear BK252; clear BK258; clear BK262; clear HB; have BK249 := n0_; have BK250 := n1_; have BK251 := n2_; have BK252 := n3_; have BK258 := n4_; have BK262 := n5_; have HB := n6_; clear n0_ n1_ n2_ n3_ n4_ n5_ n6_; (try clear hb); (try clear hb2); (try clear hk); (try clear hi); have hnb194 := NB262_251.out; have hnc194 := NB251_262.out; have hnb195 := NB262_252.out; have hnc195 := NB252_262.out; have hcz196_0 := bc0 BK262.out; have hcz196_1 := bc1 BK262.out; have hcz196_2 := bc2 BK262.out; have hfz196_0 := blk_frozen BK262.out 0; have hfz196_1 := blk_frozen BK262.out 1; have hfz196_2 := blk_frozen BK262.out 2; have hcz197_0 := bc0 BK258.out; have hcz197_1 := bc1 BK258.out; have hcz197_2 := bc2 BK258.out; have hfz197_0 := blk_frozen BK258.out 0; have hfz197_1 := blk_frozen BK258.out 1; have hfz197_2 := blk_frozen BK258.out 2; have hnb198 := NB251_252.out; have hnc198 := NB252_251.out; have hcz199_0 := bc0 BK251.out; have hcz199_1 := bc1 BK251.out; have hcz199_2 := bc2 BK251.out; have hfz199_0 := blk_frozen BK251.out 0; have hfz199_1 := blk_frozen BK251.out 1; have hfz199_2 := blk_frozen BK251.out 2; have hcz200_0 := bc0 BK252.out; have hcz200_1 := bc1 BK252.out; have hcz200_2 := bc2 BK252.out; have hfz200_0 := blk_frozen BK252.out 0; have hfz200_1 := blk_frozen BK252.out 1; have hfz200_2 := blk_frozen BK252.out 2))
                                  refine bodyPost_ret (results_cc rfl _ _ gb251 gb252 30 30 #[.bool false, .int .i64 0, .int .i64 0] #[.bool false, .int .i64 0, .int .i64 0] (0, 0) (0, 0) _ _ rfl bk Try.underlying30 rfl (by kernel_rfl) rfl bk Try.underlying30 rfl (by kernel_rfl)) rfl ?_
                                  exact ⟨by first | rfl | (simp [errW_none, errW_some] <;> rfl) | (simp only [← hji138, ← hji140]; first | rfl | (simp [errW_none, errW_some] <;> rfl)) | (simp [*, errW_none, errW_some] <;> rfl), bl⟩
                              · replace c142 := Bool.eq_false_iff.mpr c142
                                subst c142
                                rw [if_neg (show ¬ (false = true) by decide)] at H
                                simp only [Option.some.injEq, Prod.mk.injEq] at H
                                obtain ⟨rfl, rfl, rfl, rfl, rfl, rfl⟩ := H
                                have hnb201 := NB249_250.out
                                have hnc201 := NB250_249.out
                                have hnb202 := NB249_251.out
                                have hnc202 := NB251_249.out
                                have hnb203 := NB249_252.out
                                have hnc203 := NB252_249.out
                                have hnb204 := NB249_258.out
                                have hnc204 := NB258_249.out
                                have hnb205 := NB249_262.out
                                have hnc205 := NB262_249.out
                                have hcz206_0 := bc0 BK249.out
                                have hcz206_1 := bc1 BK249.out
                                have hcz206_2 := bc2 BK249.out
                                have hfz206_0 := blk_frozen BK249.out 0
                                have hfz206_1 := blk_frozen BK249.out 1
                                have hfz206_2 := blk_frozen BK249.out 2
                                have hnb207 := NB250_251.out
                                have hnc207 := NB251_250.out
                                have hnb208 := NB250_252.out
                                have hnc208 := NB252_250.out
                                have hnb209 := NB250_258.out
                                have hnc209 := NB258_250.out
                                have hnb210 := NB250_262.out
                                have hnc210 := NB262_250.out
                                have hcz211_0 := bc0 BK250.out
                                have hcz211_1 := bc1 BK250.out
                                have hcz211_2 := bc2 BK250.out
                                have hfz211_0 := blk_frozen BK250.out 0
                                have hfz211_1 := blk_frozen BK250.out 1
                                have hfz211_2 := blk_frozen BK250.out 2
                                go_wp2_with (first | ((with_reducible refine gate_callee (f := 41) rfl ?_); refine goesL_ (some 81) rfl rfl Try.func41 (by kernel_rfl) rfl #[.int .i64 ji138, .int .i64 a1_2] rfl (by (try simp only [List.map_toArray, List.map_cons, List.map_nil]); first | done | (simp only [hji138]; rfl) | rfl | (simp only [List.length_drop, List.length_take]; rfl)) ?_; (with_reducible refine (spec_l1Of.calls ji138 a1_2 false t273 t274 _ A139.out).mono ?_); rintro e w212 ⟨rfl, hb⟩; refine ⟨_, rfl, ?_⟩; have n0_ := Bk.mk (blk_below (g := gb249) bk hb); have n1_ := Bk.mk (blk_below (g := gb250) bk hb); have n2_ := Bk.mk (blk_below (g := gb251) bk hb); have n3_ := Bk.mk (blk_below (g := gb252) bk hb); have n4_ := Bk.mk (blk_below (g := gb258) bk hb); have n5_ := Bk.mk (blk_below (g := gb262) bk hb); have n6_ := Bl.mk (below_step bl hb); clear BK249; clear BK250; clear BK251; clear BK252; clear BK258; clear BK262; clear HB; have BK249 := n0_; have BK250 := n1_; have BK251 := n2_; have BK252 := n3_; have BK258 := n4_; have BK262 := n5_; have HB := n6_; clear n0_ n1_ n2_ n3_ n4_ n5_ n6_; (try clear hb); (try clear hb2); (try clear hk); (try clear hi); have hnb213 := NB258_251.out; have hnc213 := NB251_258.out; have hnb214 := NB258_252.out; have hnc214 := NB252_258.out; have hnb215 := NB258_262.out; have hnc215 := NB262_258.out; have hcz216_0 := bc0 BK258.out; have hcz216_1 := bc1 BK258.out; have hcz216_2 := bc2 BK258.out; have hfz216_0 := blk_frozen BK258.out 0; have hfz216_1 := blk_frozen BK258.out 1; have hfz216_2 := blk_frozen BK258.out 2; have hcz217_0 := bc0 BK250.out; have hcz217_1 := bc1 BK250.out; have hcz217_2 := bc2 BK250.out; have hfz217_0 := blk_frozen BK250.out 0; have hfz217_1 := blk_frozen BK250.out 1; have hfz217_2 := blk_frozen BK250.out 2; have hcz218_0 := bc0 BK249.out; have hcz218_1 := bc1 BK249.out; have hcz218_2 := bc2 BK249.out; have hfz218_0 := blk_frozen BK249.out 0; have hfz218_1 := blk_frozen BK249.out 1; have hfz218_2 := blk_frozen BK249.out 2) | ((with_reducible refine gate_callee (f := 41) rfl ?_); refine goesL_ (some 89) rfl rfl Try.func41 (by kernel_rfl) rfl #[.int .i64 a2_1, .int .i64 ji140] rfl (by (try simp only [List.map_toArray, List.map_cons, List.map_nil]); first | done | (simp only [hji140]; rfl) | rfl | (simp only [List.length_drop, List.length_take]; rfl)) ?_; (with_reducible refine (spec_l1Of.calls a2_1 ji140 t275 t276 t277 _ A141.out).mono ?_); rintro e w219 ⟨rfl, hb⟩; refine ⟨_, rfl, ?_⟩; have n0_ := Bk.mk (blk_below (g := gb249) (o := .cells #[.bool a1_0, .int .i64 a1_1, .int .i64 a1_2] 30 (0, 0)) bk hb); have n1_ := Bk.mk (blk_below (g := gb250) (o := .cells #[.bool a2_0, .int .i64 a2_1, .int .i64 a2_2] 30 (0, 0)) bk hb); have n2_ := Bk.mk (blk_below (g := gb251) (o := .cells #[.bool false, .int .i64 0, .int .i64 0] 30 (0, 0)) bk hb); have n3_ := Bk.mk (blk_below (g := gb252) (o := .cells #[.bool false, .int .i64 0, .int .i64 0] 30 (0, 0)) bk hb); have n4_ := Bk.mk (blk_below (g := gb258) (o := .cells #[.bool false, .int .i64 t273, .int .i64 t274] 30 (0, 0)) bk hb); have n5_ := Bk.mk (blk_below (g := gb262) (o := .cells #[.bool x263000_106, .int .i64 x263001_106, .int .i64 x263002_106] 30 (0, 0)) bk hb); have n6_ := Bl.mk (below_step bl hb); clear BK249; clear BK250; clear BK251; clear BK252; clear BK258; clear BK262; clear HB; have BK249 := n0_; have BK250 := n1_; have BK251 := n2_; have BK252 := n3_; have BK258 := n4_; have BK262 := n5_; have HB := n6_; clear n0_ n1_ n2_ n3_ n4_ n5_ n6_; (try clear hb); (try clear hb2); (try clear hk); (try clear hi); have hnb220 := NB262_251.out; have hnc220 := NB251_262.out; have hnb221 := NB262_252.out; have hnc221 := NB252_262.out; have hcz222_0 := bc0 BK262.out; have hcz222_1 := bc1 BK262.out; have hcz222_2 := bc2 BK262.out; have hfz222_0 := blk_frozen BK262.out 0; have hfz222_1 := blk_frozen BK262.out 1; have hfz222_2 := blk_frozen BK262.out 2; have hcz223_0 := bc0 BK258.out; have hcz223_1 := bc1 BK258.out; have hcz223_2 := bc2 BK258.out; have hfz223_0 := blk_frozen BK258.out 0; have hfz223_1 := blk_frozen BK258.out 1; have hfz223_2 := blk_frozen BK258.out 2; have hnb224 := NB251_252.out; have hnc224 := NB252_251.out; have hcz225_0 := bc0 BK251.out; have hcz225_1 := bc1 BK251.out; have hcz225_2 := bc2 BK251.out; have hfz225_0 := blk_frozen BK251.out 0; have hfz225_1 := blk_frozen BK251.out 1; have hfz225_2 := blk_frozen BK251.out 2; have hcz226_0 := bc0 BK252.out; have hcz226_1 := bc1 BK252.out; have hcz226_2 := bc2 BK252.out; have hfz226_0 := blk_frozen BK252.out 0; have hfz226_1 := blk_frozen BK252.out 1; have hfz226_2 := blk_frozen BK252.out 2))
                                refine bodyPost_ret (results_cc rfl _ _ gb251 gb252 30 30 #[.bool false, .int .i64 0, .int .i64 0] #[.bool false, .int .i64 0, .int .i64 0] (0, 0) (0, 0) _ _ rfl bk Try.underlying30 rfl (by kernel_rfl) rfl bk Try.underlying30 rfl (by kernel_rfl)) rfl ?_
                                exact ⟨by first | rfl | (simp [errW_none, errW_some] <;> rfl) | (simp only [← hji138, ← hji140]; first | rfl | (simp [errW_none, errW_some] <;> rfl)) | (simp [*, errW_none, errW_some] <;> rfl), bl⟩
                            · replace c137 := Bool.eq_false_iff.mpr c137
                              subst c137
                              rw [if_neg (show ¬ (false = true) by decide)] at H
                              by_cases c227 : x259000_106 = true
                              · subst c227
                                rw [if_pos rfl] at H
                                by_cases c228 : x263000_106 = true
                                · subst c228
                                  rw [if_pos rfl] at H
                                  simp only [Option.some.injEq, Prod.mk.injEq] at H
                                  obtain ⟨rfl, rfl, rfl, rfl, rfl, rfl⟩ := H
                                  have hnb229 := NB258_249.out
                                  have hnc229 := NB249_258.out
                                  have hnb230 := NB258_250.out
                                  have hnc230 := NB250_258.out
                                  have hnb231 := NB258_251.out
                                  have hnc231 := NB251_258.out
                                  have hnb232 := NB258_252.out
                                  have hnc232 := NB252_258.out
                                  have hnb233 := NB258_262.out
                                  have hnc233 := NB262_258.out
                                  have hcz234_0 := bc0 BK258.out
                                  have hcz234_1 := bc1 BK258.out
                                  have hcz234_2 := bc2 BK258.out
                                  have hfz234_0 := blk_frozen BK258.out 0
                                  have hfz234_1 := blk_frozen BK258.out 1
                                  have hfz234_2 := blk_frozen BK258.out 2
                                  have hnb235 := NB262_249.out
                                  have hnc235 := NB249_262.out
                                  have hnb236 := NB262_250.out
                                  have hnc236 := NB250_262.out
                                  have hnb237 := NB262_251.out
                                  have hnc237 := NB251_262.out
                                  have hnb238 := NB262_252.out
                                  have hnc238 := NB252_262.out
                                  have hcz239_0 := bc0 BK262.out
                                  have hcz239_1 := bc1 BK262.out
                                  have hcz239_2 := bc2 BK262.out
                                  have hfz239_0 := blk_frozen BK262.out 0
                                  have hfz239_1 := blk_frozen BK262.out 1
                                  have hfz239_2 := blk_frozen BK262.out 2
                                  try go_wp2
                                  have n0_ := Bk.mk (blk_drew BK249.out)
                                  have n1_ := Bk.mk (blk_drew BK250.out)
                                  have n2_ := Bk.mk (blk_drew BK251.out)
                                  have n3_ := Bk.mk (blk_drew BK252.out)
                                  have n4_ := Bk.mk (blk_drew BK258.out)
                                  have n5_ := Bk.mk (blk_drew BK262.out)
                                  have n6_ := Bl.mk (below_drew1 HB.out)
                                  clear BK249
                                  clear BK250
                                  clear BK251
                                  clear BK252
                                  clear BK258
                                  clear BK262
                                  clear HB
                                  have BK249 := n0_
                                  have BK250 := n1_
                                  have BK251 := n2_
                                  have BK252 := n3_
                                  have BK258 := n4_
                                  have BK262 := n5_
                                  have HB := n6_
                                  clear n0_ n1_ n2_ n3_ n4_ n5_ n6_
                                  refine start_ (n := 4) (S := fun w' => w'.cell? ⟨gb258, 0, none⟩ = some (.bool true) ∧ w'.cell? ⟨gb258, 1, none⟩ = some (.int .i64 x259001_106) ∧ w'.cell? ⟨gb258, 2, none⟩ = some (.int .i64 x259002_106) ∧ w'.cell? ⟨gb262, 0, none⟩ = some (.bool true) ∧ w'.cell? ⟨gb262, 1, none⟩ = some (.int .i64 x263001_106) ∧ w'.cell? ⟨gb262, 2, none⟩ = some (.int .i64 x263002_106)) (ds := []) #[false, false, false, false] (by kernel_rfl) rfl rfl ⟨(blk_cell BK258.out 0).trans rfl, (blk_cell BK258.out 1).trans rfl, (blk_cell BK258.out 2).trans rfl, (blk_cell BK262.out 0).trans rfl, (blk_cell BK262.out 1).trans rfl, (blk_cell BK262.out 2).trans rfl⟩ (fun hHeld => ?_)
                                  generalize wc.drew = w240 at BK249 BK250 BK251 BK252 BK258 BK262 HB hHeld ⊢
                                  refine take_ (i := 0) (N := some 100) (v := ?_) (a' := ?_) #[true, false, false, false] rfl rfl (by kernel_rfl) (fun _ _ _ h => h) (Or.inl ⟨by rfl, ?_⟩) hHeld ?_ ?_
                                  rotate_left
                                  · rintro w' ⟨s0, s1, s2, s3, s4, s5⟩
                                    go_simp
                                    with_reducible rfl
                                  rotate_left
                                  · simp only [Act.put, List.setIfInBounds_toArray, List.set_cons_zero, List.set_cons_succ, i64_w, i32_w]
                                    rfl
                                  refine take_ (i := 1) (N := some 101) (v := ?_) (a' := ?_) #[true, true, false, false] rfl rfl (by kernel_rfl) (fun _ _ _ h => h) (Or.inl ⟨by rfl, ?_⟩) hHeld ?_ ?_
                                  rotate_left
                                  · rintro w' ⟨s0, s1, s2, s3, s4, s5⟩
                                    go_simp
                                    with_reducible rfl
                                  rotate_left
                                  · simp only [Act.put, List.setIfInBounds_toArray, List.set_cons_zero, List.set_cons_succ, i64_w, i32_w]
                                    rfl
                                  refine one_ (i := 2) (N := none) #[true, true, true, false] rfl rfl (by kernel_rfl) (by decide) (fun K hK => ?_)
                                  have hs241 : w240.cell? ⟨gb251, 0, none⟩ = some (.bool false) := (blk_cell BK251.out 0).trans rfl
                                  have hfs241 := blk_frozen BK251.out 0
                                  have hns241_0 := NB249_251.out
                                  have hns241_1 := NB250_251.out
                                  have hns241_3 := NB252_251.out
                                  have hns241_4 := NB258_251.out
                                  have hns241_5 := NB262_251.out
                                  have hms241_0 := NB251_249.out
                                  have hms241_1 := NB251_250.out
                                  have hms241_3 := NB251_252.out
                                  have hms241_4 := NB251_258.out
                                  have hms241_5 := NB251_262.out
                                  have hs242 : w240.cell? ⟨gb251, 1, none⟩ = some (.int .i64 0) := (blk_cell BK251.out 1).trans rfl
                                  have hfs242 := blk_frozen BK251.out 1
                                  have hns242_0 := NB249_251.out
                                  have hns242_1 := NB250_251.out
                                  have hns242_3 := NB252_251.out
                                  have hns242_4 := NB258_251.out
                                  have hns242_5 := NB262_251.out
                                  have hms242_0 := NB251_249.out
                                  have hms242_1 := NB251_250.out
                                  have hms242_3 := NB251_252.out
                                  have hms242_4 := NB251_258.out
                                  have hms242_5 := NB251_262.out
                                  have hs243 : w240.cell? ⟨gb251, 2, none⟩ = some (.int .i64 0) := (blk_cell BK251.out 2).trans rfl
                                  have hfs243 := blk_frozen BK251.out 2
                                  have hns243_0 := NB249_251.out
                                  have hns243_1 := NB250_251.out
                                  have hns243_3 := NB252_251.out
                                  have hns243_4 := NB258_251.out
                                  have hns243_5 := NB262_251.out
                                  have hms243_0 := NB251_249.out
                                  have hms243_1 := NB251_250.out
                                  have hms243_3 := NB251_252.out
                                  have hms243_4 := NB251_258.out
                                  have hms243_5 := NB251_262.out
                                  refine skip_ (w1 := ?_) (by rfl) rfl ?_ ?_
                                  rotate_left
                                  · go_simp
                                    rfl
                                  refine hK.out _ _ ⟨((cell_far (p := ⟨gb251, _, none⟩) NB258_251.out _).trans (((cell_far (p := ⟨gb251, _, none⟩) NB258_251.out _).trans (((cell_far (p := ⟨gb251, _, none⟩) NB258_251.out _).trans (hHeld.1)))))), ((cell_far (p := ⟨gb251, _, none⟩) NB258_251.out _).trans (((cell_far (p := ⟨gb251, _, none⟩) NB258_251.out _).trans (((cell_far (p := ⟨gb251, _, none⟩) NB258_251.out _).trans (hHeld.2.1)))))), ((cell_far (p := ⟨gb251, _, none⟩) NB258_251.out _).trans (((cell_far (p := ⟨gb251, _, none⟩) NB258_251.out _).trans (((cell_far (p := ⟨gb251, _, none⟩) NB258_251.out _).trans (hHeld.2.2.1)))))), ((cell_far (p := ⟨gb251, _, none⟩) NB262_251.out _).trans (((cell_far (p := ⟨gb251, _, none⟩) NB262_251.out _).trans (((cell_far (p := ⟨gb251, _, none⟩) NB262_251.out _).trans (hHeld.2.2.2.1)))))), ((cell_far (p := ⟨gb251, _, none⟩) NB262_251.out _).trans (((cell_far (p := ⟨gb251, _, none⟩) NB262_251.out _).trans (((cell_far (p := ⟨gb251, _, none⟩) NB262_251.out _).trans (hHeld.2.2.2.2.1)))))), ((cell_far (p := ⟨gb251, _, none⟩) NB262_251.out _).trans (((cell_far (p := ⟨gb251, _, none⟩) NB262_251.out _).trans (((cell_far (p := ⟨gb251, _, none⟩) NB262_251.out _).trans (hHeld.2.2.2.2.2))))))⟩ (fun hHeld => ?_)
                                  clear hK K
                                  refine one_ (i := 3) (N := none) #[true, true, true, true] rfl rfl (by kernel_rfl) (by decide) (fun K hK => ?_)
                                  have hs244 : w240.cell? ⟨gb252, 0, none⟩ = some (.bool false) := (blk_cell BK252.out 0).trans rfl
                                  have hfs244 := blk_frozen BK252.out 0
                                  have hns244_0 := NB249_252.out
                                  have hns244_1 := NB250_252.out
                                  have hns244_2 := NB251_252.out
                                  have hns244_4 := NB258_252.out
                                  have hns244_5 := NB262_252.out
                                  have hms244_0 := NB252_249.out
                                  have hms244_1 := NB252_250.out
                                  have hms244_2 := NB252_251.out
                                  have hms244_4 := NB252_258.out
                                  have hms244_5 := NB252_262.out
                                  have hs245 : w240.cell? ⟨gb252, 1, none⟩ = some (.int .i64 0) := (blk_cell BK252.out 1).trans rfl
                                  have hfs245 := blk_frozen BK252.out 1
                                  have hns245_0 := NB249_252.out
                                  have hns245_1 := NB250_252.out
                                  have hns245_2 := NB251_252.out
                                  have hns245_4 := NB258_252.out
                                  have hns245_5 := NB262_252.out
                                  have hms245_0 := NB252_249.out
                                  have hms245_1 := NB252_250.out
                                  have hms245_2 := NB252_251.out
                                  have hms245_4 := NB252_258.out
                                  have hms245_5 := NB252_262.out
                                  have hs246 : w240.cell? ⟨gb252, 2, none⟩ = some (.int .i64 0) := (blk_cell BK252.out 2).trans rfl
                                  have hfs246 := blk_frozen BK252.out 2
                                  have hns246_0 := NB249_252.out
                                  have hns246_1 := NB250_252.out
                                  have hns246_2 := NB251_252.out
                                  have hns246_4 := NB258_252.out
                                  have hns246_5 := NB262_252.out
                                  have hms246_0 := NB252_249.out
                                  have hms246_1 := NB252_250.out
                                  have hms246_2 := NB252_251.out
                                  have hms246_4 := NB252_258.out
                                  have hms246_5 := NB252_262.out
                                  refine skip_ (w1 := ?_) (by rfl) rfl ?_ ?_
                                  rotate_left
                                  · go_simp
                                    rfl
                                  refine hK.out _ _ ⟨((cell_far (p := ⟨gb252, _, none⟩) NB258_252.out _).trans (((cell_far (p := ⟨gb252, _, none⟩) NB258_252.out _).trans (((cell_far (p := ⟨gb252, _, none⟩) NB258_252.out _).trans (hHeld.1)))))), ((cell_far (p := ⟨gb252, _, none⟩) NB258_252.out _).trans (((cell_far (p := ⟨gb252, _, none⟩) NB258_252.out _).trans (((cell_far (p := ⟨gb252, _, none⟩) NB258_252.out _).trans (hHeld.2.1)))))), ((cell_far (p := ⟨gb252, _, none⟩) NB258_252.out _).trans (((cell_far (p := ⟨gb252, _, none⟩) NB258_252.out _).trans (((cell_far (p := ⟨gb252, _, none⟩) NB258_252.out _).trans (hHeld.2.2.1)))))), ((cell_far (p := ⟨gb252, _, none⟩) NB262_252.out _).trans (((cell_far (p := ⟨gb252, _, none⟩) NB262_252.out _).trans (((cell_far (p := ⟨gb252, _, none⟩) NB262_252.out _).trans (hHeld.2.2.2.1)))))), ((cell_far (p := ⟨gb252, _, none⟩) NB262_252.out _).trans (((cell_far (p := ⟨gb252, _, none⟩) NB262_252.out _).trans (((cell_far (p := ⟨gb252, _, none⟩) NB262_252.out _).trans (hHeld.2.2.2.2.1)))))), ((cell_far (p := ⟨gb252, _, none⟩) NB262_252.out _).trans (((cell_far (p := ⟨gb252, _, none⟩) NB262_252.out _).trans (((cell_far (p := ⟨gb252, _, none⟩) NB262_252.out _).trans (hHeld.2.2.2.2.2))))))⟩ (fun hHeld => ?_)
                                  clear hK K
                                  refine done_ (by kernel_rfl) ?_
                                  try go_wp2
                                  refine bodyPost_ret (results_cc rfl _ _ gb251 gb252 30 30 #[.bool true, .int .i64 x259001_106, .int .i64 x259002_106] #[.bool true, .int .i64 x263001_106, .int .i64 x263002_106] (0, 0) (0, 0) _ _ rfl bk Try.underlying30 rfl (by kernel_rfl) rfl bk Try.underlying30 rfl (by kernel_rfl)) rfl ?_
                                  exact ⟨by first | rfl | (simp [errW_none, errW_some] <;> rfl) | (simp [*, errW_none, errW_some] <;> rfl), bl⟩
                                · replace c228 := Bool.eq_false_iff.mpr c228
                                  subst c228
                                  rw [if_neg (show ¬ (false = true) by decide)] at H
                                  simp only [Option.some.injEq, Prod.mk.injEq] at H
                                  obtain ⟨rfl, rfl, rfl, rfl, rfl, rfl⟩ := H
                                  have hnb247 := NB258_249.out
                                  have hnc247 := NB249_258.out
                                  have hnb248 := NB258_250.out
                                  have hnc248 := NB250_258.out
                                  have hnb249 := NB258_251.out
                                  have hnc249 := NB251_258.out
                                  have hnb250 := NB258_252.out
                                  have hnc250 := NB252_258.out
                                  have hnb251 := NB258_262.out
                                  have hnc251 := NB262_258.out
                                  have hcz252_0 := bc0 BK258.out
                                  have hcz252_1 := bc1 BK258.out
                                  have hcz252_2 := bc2 BK258.out
                                  have hfz252_0 := blk_frozen BK258.out 0
                                  have hfz252_1 := blk_frozen BK258.out 1
                                  have hfz252_2 := blk_frozen BK258.out 2
                                  have hnb253 := NB262_249.out
                                  have hnc253 := NB249_262.out
                                  have hnb254 := NB262_250.out
                                  have hnc254 := NB250_262.out
                                  have hnb255 := NB262_251.out
                                  have hnc255 := NB251_262.out
                                  have hnb256 := NB262_252.out
                                  have hnc256 := NB252_262.out
                                  have hcz257_0 := bc0 BK262.out
                                  have hcz257_1 := bc1 BK262.out
                                  have hcz257_2 := bc2 BK262.out
                                  have hfz257_0 := blk_frozen BK262.out 0
                                  have hfz257_1 := blk_frozen BK262.out 1
                                  have hfz257_2 := blk_frozen BK262.out 2
                                  have hnb258 := NB251_249.out
                                  have hnc258 := NB249_251.out
                                  have hnb259 := NB251_250.out
                                  have hnc259 := NB250_251.out
                                  have hnb260 := NB251_252.out
                                  have hnc260 := NB252_251.out
                                  have hcz261_0 := bc0 BK251.out
                                  have hcz261_1 := bc1 BK251.out
                                  have hcz261_2 := bc2 BK251.out
                                  have hfz261_0 := blk_frozen BK251.out 0
                                  have hfz261_1 := blk_frozen BK251.out 1
                                  have hfz261_2 := blk_frozen BK251.out 2
                                  have hnb262 := NB252_249.out
                                  have hnc262 := NB249_252.out
                                  have hnb263 := NB252_250.out
                                  have hnc263 := NB250_252.out
                                  have hcz264_0 := bc0 BK252.out
                                  have hcz264_1 := bc1 BK252.out
                                  have hcz264_2 := bc2 BK252.out
                                  have hfz264_0 := blk_frozen BK252.out 0
                                  have hfz264_1 := blk_frozen BK252.out 1
                                  have hfz264_2 := blk_frozen BK252.out 2
                                  go_wp2
                                  refine bodyPost_ret (results_cc rfl _ _ gb251 gb252 30 30 #[.bool false, .int .i64 0, .int .i64 0] #[.bool false, .int .i64 0, .int .i64 0] (0, 0) (0, 0) _ _ rfl bk Try.underlying30 rfl (by kernel_rfl) rfl bk Try.underlying30 rfl (by kernel_rfl)) rfl ?_
                                  exact ⟨by first | rfl | (simp [errW_none, errW_some] <;> rfl) | (simp [*, errW_none, errW_some] <;> rfl), bl⟩
                              · replace c227 := Bool.eq_false_iff.mpr c227
                                subst c227
                                rw [if_neg (show ¬ (false = true) by decide)] at H
                                simp only [Option.some.injEq, Prod.mk.injEq] at H
                                obtain ⟨rfl, rfl, rfl, rfl, rfl, rfl⟩ := H
                                have hnb265 := NB258_249.out
                                have hnc265 := NB249_258.out
                                have hnb266 := NB258_250.out
                                have hnc266 := NB250_258.out
                                have hnb267 := NB258_251.out
                                have hnc267 := NB251_258.out
                                have hnb268 := NB258_252.out
                                have hnc268 := NB252_258.out
                                have hnb269 := NB258_262.out
                                have hnc269 := NB262_258.out
                                have hcz270_0 := bc0 BK258.out
                                have hcz270_1 := bc1 BK258.out
                                have hcz270_2 := bc2 BK258.out
                                have hfz270_0 := blk_frozen BK258.out 0
                                have hfz270_1 := blk_frozen BK258.out 1
                                have hfz270_2 := blk_frozen BK258.out 2
                                have hnb271 := NB251_249.out
                                have hnc271 := NB249_251.out
                                have hnb272 := NB251_250.out
                                have hnc272 := NB250_251.out
                                have hnb273 := NB251_252.out
                                have hnc273 := NB252_251.out
                                have hnb274 := NB251_262.out
                                have hnc274 := NB262_251.out
                                have hcz275_0 := bc0 BK251.out
                                have hcz275_1 := bc1 BK251.out
                                have hcz275_2 := bc2 BK251.out
                                have hfz275_0 := blk_frozen BK251.out 0
                                have hfz275_1 := blk_frozen BK251.out 1
                                have hfz275_2 := blk_frozen BK251.out 2
                                have hnb276 := NB252_249.out
                                have hnc276 := NB249_252.out
                                have hnb277 := NB252_250.out
                                have hnc277 := NB250_252.out
                                have hnb278 := NB252_262.out
                                have hnc278 := NB262_252.out
                                have hcz279_0 := bc0 BK252.out
                                have hcz279_1 := bc1 BK252.out
                                have hcz279_2 := bc2 BK252.out
                                have hfz279_0 := blk_frozen BK252.out 0
                                have hfz279_1 := blk_frozen BK252.out 1
                                have hfz279_2 := blk_frozen BK252.out 2
                                go_wp2
                                refine bodyPost_ret (results_cc rfl _ _ gb251 gb252 30 30 #[.bool false, .int .i64 0, .int .i64 0] #[.bool false, .int .i64 0, .int .i64 0] (0, 0) (0, 0) _ _ rfl bk Try.underlying30 rfl (by kernel_rfl) rfl bk Try.underlying30 rfl (by kernel_rfl)) rfl ?_
                                exact ⟨by first | rfl | (simp [errW_none, errW_some] <;> rfl) | (simp [*, errW_none, errW_some] <;> rfl), bl⟩

end Go.Proofs.Ytekmapilhomdgaa.P
