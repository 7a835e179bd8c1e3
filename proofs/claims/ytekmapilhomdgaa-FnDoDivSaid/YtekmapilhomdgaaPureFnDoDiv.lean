/- FnDoDiv: for all bytes, what is left of a division of drawn words is less than the divisor, as the law says. No conditions. This text: what is left of it without Go. -/
import Derived.Test.YtekmapilhomdgaaPx15
import Derived.Test.YtekmapilhomdgaaPx16
import Derived.Test.YtekmapilhomdgaaPuDraw
import Derived.Test.YtekmapilhomdgaaPuDrawNum
import Derived.Test.YtekmapilhomdgaaPuNum
namespace Go.Proofs.Ytekmapilhomdgaa.Pu
open Go.RowKit Go.Proofs.Ytekmapilhomdgaa.P Go.Proofs.YtekmapilhomdgaaW.PrintWords Go.Proofs.YtekmapilhomdgaaW.PrintLast
set_option linter.unusedSimpArgs false
set_option linter.unusedVariables false
theorem specSpanOf_ev (n : Int) : spec_SpanOf.f n = some (if isW n = true then (true, n, n) else (false, 0, 0)) := by
  unfold spec_SpanOf.f
  rw [l1Word_ev]
  simp only [Option.bind_some]
  by_cases h : isW n = true
  · rw [if_pos h, if_pos h]
    unfold spec_l1Of.f
    rw [if_neg (by omega)]
    rfl
  · rw [if_neg h, if_neg h]
/-- What is left of a division of words, word by word. -/
def divGood (a b : Int) : Bool :=
  let q := nwrap (Int.tdiv a b)
  let m := nwrap (q * b)
  let rest := nwrap (a - m)
  decide (mx rest (wrap64 (-rest)) < mx b (wrap64 (-b))) && decide (wrap64 (rest * a) ≥ 0)
theorem divGood_all : ∀ i j : Fin 32, ((j.val : Int) - 16 = 0) ∨ divGood ((i.val : Int) - 16) ((j.val : Int) - 16) = true := by decide +kernel
theorem divGood_word {a b : Int} (ha : isW a = true) (hb : isW b = true) (h0 : b ≠ 0) : divGood a b = true := by
  rw [isW_iff] at ha hb
  have h := divGood_all ⟨(a + 16).toNat, by omega⟩ ⟨(b + 16).toNat, by omega⟩
  simp only [show (((a + 16).toNat : Nat) : Int) - 16 = a by omega, show (((b + 16).toNat : Nat) : Int) - 16 = b by omega] at h
  exact h.resolve_left h0
end Go.Proofs.Ytekmapilhomdgaa.Pu
namespace Go.Proofs.Ytekmapilhomdgaa.Pure
open Go.RowKit Go.Proofs.Ytekmapilhomdgaa.P Go.Proofs.Ytekmapilhomdgaa.Pu Go.Proofs.YtekmapilhomdgaaW.PrintWords Go.Proofs.YtekmapilhomdgaaW.PrintLast
theorem FnDoDiv : laws_FnDoDiv.Pure := by
  intro l0 _ _ w0
  obtain ⟨op, a, b, e1, _, _, _, _, _, _⟩ := DrawNumDo_ev 8 (Bytes.of_wf w0)
  refine ⟨9, ?_⟩
  unfold laws_FnDoDiv.f
  by_cases hc : (l0.length : Int) > 1048576
  · rw [if_pos hc]
  rw [if_neg hc, e1]
  simp only [Option.bind_some, implNumDo_ev, specNumDo_ev, specSpanOf_ev, if_true, bne_self_eq_false, if_false, Bool.false_eq_true, laws_FnDoDiv.j0]
  have h99 : isW 99 = false := by decide
  by_cases ha : isW a = true
  · by_cases hb : isW b = true
    · by_cases h0 : b = 0
      · subst h0
        have hd : numDo 4 a 0 = (0, false) := by simp [numDo, opOk]
        simp [ha, hb, h99, hd, laws_FnDoDiv.j1]
      · have hd : numDo 4 a b = (nwrap (Int.tdiv a b), true) := by rw [numDo_ok ha hb (by simp [opOk, h0])]; rfl
        have hg := divGood_word ha hb h0
        unfold divGood at hg
        simp only [Bool.and_eq_true, decide_eq_true_eq] at hg
        obtain ⟨h1, h2⟩ := hg
        have o2 : ∀ x, opOk 2 x = true := fun x => by simp [opOk]
        have o3 : ∀ x, opOk 3 x = true := fun x => by simp [opOk]
        have nw := nwrap_isW
        simp [ha, hb, h99, hd, h0, laws_FnDoDiv.j1, implNumDo_ev, numDo_ok (nw _) hb (o3 _), numDo_ok ha (nw _) (o2 _), rawI_2, rawI_3, h1, h2]
    · simp [ha, hb, h99]
  · simp [ha, h99]
end Go.Proofs.Ytekmapilhomdgaa.Pure
