/- Plain laws of drawn words and operations. -/
import Derived.Test.YtekmapilhomdgaaPx10
import Derived.Test.YtekmapilhomdgaaPx11
import Derived.Test.YtekmapilhomdgaaPx12
import Derived.Test.YtekmapilhomdgaaPx2
import Derived.Test.YtekmapilhomdgaaPuDraw
namespace Go.Proofs.Ytekmapilhomdgaa.Pu
open Go.RowKit Go.Proofs.Ytekmapilhomdgaa.P Go.Proofs.YtekmapilhomdgaaW.PrintWords Go.Proofs.YtekmapilhomdgaaW.PrintLast
set_option linter.unusedSimpArgs false
set_option linter.unusedVariables false
theorem rd_lit3 (a b c : Int) (P : Int → Prop) (ha : P a) (hb : P b) (hc : P c) {i : Int} (h0 : 0 ≤ i) (h1 : i < 3) : P (rd [a, b, c] i) := by
  have : i = 0 ∨ i = 1 ∨ i = 2 := by omega
  rcases this with rfl | rfl | rfl <;> assumption
theorem l71Op_ev (k : Nat) {b : List Int} (hb : Bytes b) (hl : b.length ≤ 1048576) {p : Int} (h0 : 0 ≤ p) (h1 : p + 2 ≤ PB) :
    ∃ v p', spec_l71Op.f (k + 1) b p = some (v, p') ∧ p ≤ p' ∧ p' ≤ p + 2 ∧ -1 ≤ v ∧ v ≤ 7 := by
  obtain ⟨v1, e1, g1, g1', _⟩ := pick_ev k hb hl h0 (by omega) 24
  unfold spec_l71Op.f
  rw [e1]
  simp only [Option.bind_some]
  by_cases h : v1 = 0
  · rw [if_pos h]
    obtain ⟨v2, e2, g2, g2', _⟩ := pick_ev k hb hl (p := p + 1) (by omega) (by omega) 3
    rw [e2]
    simp only [Option.bind_some]
    rw [if_pos g2, if_pos (by have := g2' (by omega); simp; omega)]
    have := rd_lit3 0 7 (-1) (fun n => -1 ≤ n ∧ n ≤ 7) (by omega) (by omega) (by omega) g2 (g2' (by omega))
    exact ⟨_, _, rfl, by omega, by omega, this.1, this.2⟩
  · rw [if_neg h]
    obtain ⟨v2, e2, g2, g2', _⟩ := pick_ev k hb hl (p := p + 1) (by omega) (by omega) 6
    rw [e2]
    simp only [Option.bind_some]
    have := g2' (by omega)
    rw [w64_id (by omega)]
    exact ⟨_, _, rfl, by omega, by omega, by omega, by omega⟩
theorem l71Word_ev (k : Nat) {b : List Int} (hb : Bytes b) (hl : b.length ≤ 1048576) {p : Int} (h0 : 0 ≤ p) (h1 : p + 2 ≤ PB) :
    ∃ v p', spec_l71Word.f (k + 1) b p = some (v, p') ∧ p ≤ p' ∧ p' ≤ p + 2 ∧ -16 ≤ v ∧ v ≤ 15 := by
  obtain ⟨v1, e1, g1, g1', _⟩ := pick_ev k hb hl h0 (by omega) 3
  unfold spec_l71Word.f
  rw [e1]
  simp only [Option.bind_some]
  by_cases h : v1 = 0
  · rw [if_pos h]
    obtain ⟨v2, e2, g2, g2', _⟩ := pick_ev k hb hl (p := p + 1) (by omega) (by omega) 6
    rw [e2]
    simp only [Option.bind_some]
    rw [if_pos g2, if_pos (by have := g2' (by omega); simp; omega)]
    have := rd_lit6 0 1 (-1) (-16) 15 2 (fun n => -16 ≤ n ∧ n ≤ 15) (by omega) (by omega) (by omega) (by omega) (by omega) (by omega) g2 (g2' (by omega))
    exact ⟨_, _, rfl, by omega, by omega, this.1, this.2⟩
  · rw [if_neg h, show spec_l1Many.f = some 32 from rfl]
    simp only [Option.bind_some]
    obtain ⟨v2, e2, g2, g2', _⟩ := pick_ev k hb hl (p := p + 1) (by omega) (by omega) 32
    rw [e2]
    simp only [Option.bind_some]
    have := g2' (by omega)
    rw [w64_id (by omega)]
    exact ⟨_, _, rfl, by omega, by omega, by omega, by omega⟩
theorem DrawNumDo_ev (k : Nat) {l : List Int} (hb : Bytes l) : ∃ op a b, spec_DrawNumDo.f (k + 1) l = some (op, a, b) ∧ -1 ≤ op ∧ op ≤ 7 ∧ -17 ≤ a ∧ a ≤ 16 ∧ -17 ≤ b ∧ b ≤ 16 := by
  obtain ⟨b, e0, hb, hl⟩ := l6Open_ev hb
  obtain ⟨op, p1, e1, _, _, _, _⟩ := l71Op_ev k hb hl (p := 0) (by omega) (by unfold PB; omega)
  obtain ⟨x, p2, e2, _, _, _, _⟩ := l71Word_ev k hb hl (p := p1) (by omega) (by unfold PB; omega)
  obtain ⟨y, p3, e3, _, _, _, _⟩ := l71Word_ev k hb hl (p := p2) (by omega) (by unfold PB; omega)
  obtain ⟨v, e4, _, _, _⟩ := pick_ev k hb hl (p := p3) (by omega) (by unfold PB; omega) 24
  unfold spec_DrawNumDo.f
  simp only [e0, e1, e2, e3, e4, Option.bind_some]
  by_cases h : v = 0
  · rw [if_pos h]; exact ⟨_, _, _, rfl, by omega, by omega, by omega, by omega, by omega, by omega⟩
  · rw [if_neg h]
    by_cases h : v = 1
    · rw [if_pos h]; exact ⟨_, _, _, rfl, by omega, by omega, by omega, by omega, by omega, by omega⟩
    · rw [if_neg h]; exact ⟨_, _, _, rfl, by omega, by omega, by omega, by omega, by omega, by omega⟩
end Go.Proofs.Ytekmapilhomdgaa.Pu
