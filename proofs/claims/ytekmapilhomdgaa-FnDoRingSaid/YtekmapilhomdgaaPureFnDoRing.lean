/- FnDoRing: for all bytes the drawn words are added and multiplied as numbers are, as the law says. No conditions. This text: what is left of it without Go. -/
import Derived.Test.YtekmapilhomdgaaPx14
import Derived.Test.YtekmapilhomdgaaPuDraw
import Derived.Test.YtekmapilhomdgaaPuDrawNum
import Derived.Test.YtekmapilhomdgaaPuNum
import Derived.Test.YtekmapilhomdgaaPuSpanOk
namespace Go.Proofs.Ytekmapilhomdgaa.Pure
open Go.RowKit Go.Proofs.Ytekmapilhomdgaa.P Go.Proofs.Ytekmapilhomdgaa.Pu Go.Proofs.YtekmapilhomdgaaW.PrintWords Go.Proofs.YtekmapilhomdgaaW.PrintLast
theorem FnDoRing : laws_FnDoRing.Pure := by
  intro l0 l1 _ _ w0 _ _ w1
  obtain ⟨op, a, b, e1, _, _, _, _, _, _⟩ := DrawNumDo_ev 8 (Bytes.of_wf w0)
  obtain ⟨op', c, d, e2, _, _, _, _, _, _⟩ := DrawNumDo_ev 8 (Bytes.of_wf w1)
  refine ⟨10, ?_⟩
  unfold laws_FnDoRing.f
  suffices h : ∀ t, laws_FnDoRing.j0 10 l0 l1 t = some true by
    by_cases hc : (l0.length : Int) > 1048576
    · rw [if_pos hc]; exact h _
    · rw [if_neg hc]; exact h _
  intro t
  rw [laws_FnDoRing.j0]
  by_cases ht : t = true
  · rw [if_pos ht]
  rw [if_neg ht, e1, e2]
  simp only [Option.bind_some, implNumDo_ev, specNumDo_ev, specSpanOk_ev, if_true, bne_self_eq_false, if_false, Bool.false_eq_true]
  rw [laws_FnDoRing.j1]
  by_cases hs : isW (mn (mn a b) c) = true ∧ isW (mx (mx a b) c) = true
  · obtain ⟨h1, h2⟩ := hs
    have hle : mn (mn a b) c ≤ mx (mx a b) c := by unfold mn mx; omega
    have ha : isW a = true := by rw [isW_iff] at *; unfold mn mx at *; omega
    have hb : isW b = true := by rw [isW_iff] at *; unfold mn mx at *; omega
    have hc : isW c = true := by rw [isW_iff] at *; unfold mn mx at *; omega
    have o1 : ∀ x, opOk 1 x = true := fun x => by simp [opOk]
    have o2 : ∀ x, opOk 2 x = true := fun x => by simp [opOk]
    have o3 : ∀ x, opOk 3 x = true := fun x => by simp [opOk]
    have nw := nwrap_isW
    simp only [h1, h2, hle, decide_true, Bool.and_true, Bool.not_true, Bool.false_eq_true, if_false, Option.bind_some, implNumDo_ev, numDo_ok ha hb (o1 _), numDo_ok hb ha (o1 _), numDo_ok hb hc (o1 _), numDo_ok ha hb (o3 _), numDo_ok ha hc (o3 _), if_true]
    rw [laws_FnDoRing.j2]
    have e3 : rawI 1 a b = rawI 1 b a := by simp only [rawI_1]; omega
    simp only [e3, bne_self_eq_false, Bool.false_eq_true, if_false, implNumDo_ev, Option.bind_some, numDo_ok ha (nw _) (o3 _), numDo_ok (nw _) (nw _) (o1 _), numDo_ok (nw _) hb (o2 _), if_true]
    have e4 : nwrap (rawI 3 a (nwrap (rawI 1 b c))) = nwrap (rawI 1 (nwrap (rawI 3 a b)) (nwrap (rawI 3 a c))) := by
      apply nwrap_mod
      simp only [rawI_1, rawI_3]
      rw [Int.mul_emod, nwrap_emod, ← Int.mul_emod, Int.add_emod (nwrap _), nwrap_emod, nwrap_emod, ← Int.add_emod, Int.mul_add]
    have e5 : nwrap (rawI 2 (nwrap (rawI 1 b a)) b) = a := by
      rw [isW_iff] at ha hb
      simp only [rawI_1, rawI_2]
      unfold nwrap
      omega
    rw [e4, e5]
    simp
  · have : (isW (mn (mn a b) c) && isW (mx (mx a b) c) && decide (mn (mn a b) c ≤ mx (mx a b) c)) = false := by
      cases h1 : isW (mn (mn a b) c) <;> cases h2 : isW (mx (mx a b) c) <;> simp_all
    rw [this]
    simp
end Go.Proofs.Ytekmapilhomdgaa.Pure
