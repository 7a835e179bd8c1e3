/- Plain laws of the word arithmetic: what NumWrap and NumDo of the program and of the reference come to. -/
import Derived.Test.YtekmapilhomdgaaPx2
import Derived.Test.YtekmapilhomdgaaPx3
import Derived.Test.YtekmapilhomdgaaPx4
import Derived.Test.YtekmapilhomdgaaPx5
import Derived.Test.YtekmapilhomdgaaPx6
namespace Go.Proofs.Ytekmapilhomdgaa.Pu
open Go.RowKit Go.Proofs.Ytekmapilhomdgaa.P Go.Proofs.YtekmapilhomdgaaW.PrintWords Go.Proofs.YtekmapilhomdgaaW.PrintLast
set_option linter.unusedSimpArgs false
set_option linter.unusedVariables false

def isW (n : Int) : Bool := decide (-16 ≤ n ∧ n ≤ 15)
theorem isW_iff (n : Int) : isW n = true ↔ -16 ≤ n ∧ n ≤ 15 := by simp [isW]
def nwrap (n : Int) : Int := (n + 16) % 32 - 16
theorem nwrap_isW (n : Int) : isW (nwrap n) = true := by rw [isW_iff]; unfold nwrap; omega
theorem nwrap_id {n : Int} (h : isW n = true) : nwrap n = n := by rw [isW_iff] at h; unfold nwrap; omega
theorem l6In_ev (a b c : Int) : spec_l6In.f a b c = some (decide (b ≤ a ∧ a ≤ c)) := by
  unfold spec_l6In.f
  by_cases h : a ≥ b
  · rw [if_pos h]; congr 1; simp [show b ≤ a from h]
  · rw [if_neg h]; congr 1; simp [show ¬ b ≤ a from h]
theorem l1Word_ev (a : Int) : spec_l1Word.f a = some (isW a) := by unfold spec_l1Word.f; rw [l6In_ev]; rfl
theorem isWord_ev (a : Int) : impl_isWord.f a = some (isW a) := by
  unfold impl_isWord.f isW
  by_cases h : a ≥ -16
  · rw [if_pos h]; congr 1; simp [show -16 ≤ a from h]
  · rw [if_neg h]; congr 1; simp [show ¬ -16 ≤ a from h]
theorem l1Many_ev : spec_l1Many.f = some 32 := rfl
theorem tmod32 (a : Int) : (0 ≤ a ∧ Int.tmod a 32 = a % 32) ∨ (a < 0 ∧ Int.tmod a 32 = -((-a) % 32)) := by
  rcases Int.lt_or_le a 0 with h | h
  · right
    refine ⟨h, ?_⟩
    have : a = -(-a) := by omega
    rw [this, Int.neg_tmod, Int.tmod_eq_emod_of_nonneg (by omega)]
    simp
  · left; exact ⟨h, Int.tmod_eq_emod_of_nonneg h⟩
theorem specNumWrap_ev (a : Int) : spec_NumWrap.f a = some (nwrap a) := by
  unfold spec_NumWrap.f
  rw [l1Many_ev]
  simp only [Option.bind_some]
  rw [if_neg (by omega)]
  unfold nwrap wrap64
  rcases tmod32 a with ⟨h0, h⟩ | ⟨h0, h⟩ <;> rw [h]
  · by_cases h1 : a % 32 < -16
    · omega
    · rw [if_neg h1]
      by_cases h2 : a % 32 > 15
      · rw [if_pos h2]; congr 1; omega
      · rw [if_neg h2]; congr 1; omega
  · by_cases h1 : -(-a % 32) < -16
    · rw [if_pos h1]; congr 1; omega
    · rw [if_neg h1]
      by_cases h2 : -(-a % 32) > 15
      · omega
      · rw [if_neg h2]; congr 1; omega
theorem implNumWrap_ev (a : Int) : impl_NumWrap.f a = some (nwrap a) := by
  unfold impl_NumWrap.f
  have e : Int.tmod (wrap64 (Int.tmod a 32 + 32)) 32 = a % 32 := by
    have hb : -32 < Int.tmod a 32 ∧ Int.tmod a 32 < 32 := by rcases tmod32 a with ⟨_, h⟩ | ⟨_, h⟩ <;> rw [h] <;> omega
    have hw : wrap64 (Int.tmod a 32 + 32) = Int.tmod a 32 + 32 := by unfold wrap64; omega
    rw [hw, Int.tmod_eq_emod_of_nonneg (by omega)]
    rcases tmod32 a with ⟨_, h⟩ | ⟨_, h⟩ <;> rw [h] <;> omega
  rw [e]
  unfold nwrap wrap64
  by_cases h : a % 32 > 15
  · rw [if_pos h]; congr 1; omega
  · rw [if_neg h]; congr 1; omega
/-- What an operation gives ahead of wrapping. -/
def rawI (op a b : Int) : Int :=
  if op = 1 then a + b else if op = 2 then a - b else if op = 3 then a * b else if op = 4 then Int.tdiv a b
  else if op = 5 then (if a < b then 1 else 0) else if op = 6 then (if a = b then 1 else 0) else 0
def opOk (op b : Int) : Bool := decide (1 ≤ op ∧ op ≤ 6) && !(decide (op = 4) && decide (b = 0))
def numDo (op a b : Int) : Int × Bool := if isW a = true ∧ isW b = true ∧ opOk op b = true then (nwrap (rawI op a b), true) else (0, false)
theorem rawI_1 (a b : Int) : rawI 1 a b = a + b := rfl
theorem rawI_2 (a b : Int) : rawI 2 a b = a - b := rfl
theorem rawI_3 (a b : Int) : rawI 3 a b = a * b := rfl
theorem rawI_4 (a b : Int) : rawI 4 a b = Int.tdiv a b := rfl
theorem rawI_5 (a b : Int) : rawI 5 a b = if a < b then 1 else 0 := rfl
theorem rawI_6 (a b : Int) : rawI 6 a b = if a = b then 1 else 0 := rfl
theorem w64_small {n : Int} (h : -9223372036854775808 ≤ n ∧ n ≤ 9223372036854775807) : wrap64 n = n := by unfold wrap64; omega
theorem isW_mul {a b : Int} (ha : isW a = true) (hb : isW b = true) : -256 ≤ a * b ∧ a * b ≤ 256 := by
  rw [isW_iff] at ha hb
  have h1 : (a + 16) * (b + 16) ≥ 0 := Int.mul_nonneg (by omega) (by omega)
  have h2 : (16 - a) * (16 - b) ≥ 0 := Int.mul_nonneg (by omega) (by omega)
  have h3 : (a + 16) * (16 - b) ≥ 0 := Int.mul_nonneg (by omega) (by omega)
  have h4 : (16 - a) * (b + 16) ≥ 0 := Int.mul_nonneg (by omega) (by omega)
  have e1 : (a + 16) * (b + 16) = a * b + 16 * a + 16 * b + 256 := by rw [Int.add_mul, Int.mul_add, Int.mul_add]; omega
  have e2 : (16 - a) * (16 - b) = a * b - 16 * a - 16 * b + 256 := by rw [Int.sub_mul, Int.mul_sub, Int.mul_sub]; omega
  have e3 : (a + 16) * (16 - b) = -(a * b) + 16 * a - 16 * b + 256 := by rw [Int.add_mul, Int.mul_sub, Int.mul_sub]; omega
  have e4 : (16 - a) * (b + 16) = -(a * b) - 16 * a + 16 * b + 256 := by rw [Int.sub_mul, Int.mul_add, Int.mul_add]; omega
  omega
theorem isW_div {a b : Int} (ha : isW a = true) (hb : isW b = true) : -16 ≤ Int.tdiv a b ∧ Int.tdiv a b ≤ 16 := by
  rw [isW_iff] at ha
  have := Int.natAbs_tdiv_le_natAbs a b
  omega
theorem rawI_bounds {op a b : Int} (ha : isW a = true) (hb : isW b = true) : -256 ≤ rawI op a b ∧ rawI op a b ≤ 256 := by
  have hm := isW_mul ha hb
  have hd := isW_div ha hb
  rw [isW_iff] at ha hb
  unfold rawI
  by_cases h1 : op = 1
  · rw [if_pos h1]; omega
  rw [if_neg h1]
  by_cases h2 : op = 2
  · rw [if_pos h2]; omega
  rw [if_neg h2]
  by_cases h3 : op = 3
  · rw [if_pos h3]; omega
  rw [if_neg h3]
  by_cases h4 : op = 4
  · rw [if_pos h4]; omega
  rw [if_neg h4]
  by_cases h5 : op = 5
  · rw [if_pos h5]; by_cases h : a < b
    · rw [if_pos h]; omega
    · rw [if_neg h]; omega
  rw [if_neg h5]
  by_cases h6 : op = 6
  · rw [if_pos h6]; by_cases h : a = b
    · rw [if_pos h]; omega
    · rw [if_neg h]; omega
  rw [if_neg h6]; omega
theorem raw_word {op a b : Int} (ha : isW a = true) (hb : isW b = true) : impl_raw.v op a b = if opOk op b = true then (rawI op a b, true) else (0, false) := by
  have hm := isW_mul ha hb
  have hd := isW_div ha hb
  rw [isW_iff] at ha hb
  unfold impl_raw.v rawI opOk
  by_cases h1 : op = 1
  · subst h1; simp [w64_small (show -9223372036854775808 ≤ a + b ∧ a + b ≤ 9223372036854775807 by omega)]
  by_cases h2 : op = 2
  · subst h2; simp [w64_small (show -9223372036854775808 ≤ a - b ∧ a - b ≤ 9223372036854775807 by omega)]
  by_cases h3 : op = 3
  · subst h3; simp [w64_small (show -9223372036854775808 ≤ a * b ∧ a * b ≤ 9223372036854775807 by omega)]
  by_cases h4 : op = 4
  · subst h4
    by_cases h : b = 0
    · simp [h]
    · simp [h, w64_small (show -9223372036854775808 ≤ Int.tdiv a b ∧ Int.tdiv a b ≤ 9223372036854775807 by omega)]
  by_cases h5 : op = 5
  · subst h5; simp
  by_cases h6 : op = 6
  · subst h6; simp
  have : ¬ (1 ≤ op ∧ op ≤ 6) := by omega
  simp [h1, h2, h3, h4, h5, h6, this]
theorem l1Raw_ev {op a b : Int} (ha : isW a = true) (hb : isW b = true) (h : ¬ (op = 4 ∧ b = 0)) : spec_l1Raw.f op a b = some (rawI op a b) := by
  have hm := isW_mul ha hb
  have hd := isW_div ha hb
  rw [isW_iff] at ha hb
  unfold spec_l1Raw.f rawI
  by_cases h1 : op = 1
  · subst h1; simp [w64_small (show -9223372036854775808 ≤ a + b ∧ a + b ≤ 9223372036854775807 by omega)]
  by_cases h2 : op = 2
  · subst h2; simp [w64_small (show -9223372036854775808 ≤ a - b ∧ a - b ≤ 9223372036854775807 by omega)]
  by_cases h3 : op = 3
  · subst h3; simp [w64_small (show -9223372036854775808 ≤ a * b ∧ a * b ≤ 9223372036854775807 by omega)]
  by_cases h4 : op = 4
  · subst h4
    have hb0 : ¬ b = 0 := fun e => h ⟨rfl, e⟩
    simp [hb0, w64_small (show -9223372036854775808 ≤ Int.tdiv a b ∧ Int.tdiv a b ≤ 9223372036854775807 by omega)]
  by_cases h5 : op = 5
  · subst h5; by_cases h : a < b <;> simp [h]
  by_cases h6 : op = 6
  · subst h6; by_cases h : a = b <;> simp [h]
  simp [h1, h2, h3, h4, h5, h6]
theorem specNumDo_ev (k : Nat) (op a b : Int) : spec_NumDo.f (k + 1) op a b = some (numDo op a b) := by
  unfold spec_NumDo.f
  simp only [l6In_ev, l1Word_ev, Option.bind_some, spec_NumDo.j0]
  unfold numDo opOk
  by_cases ho : 1 ≤ op ∧ op ≤ 6
  · by_cases ha : isW a = true
    · by_cases hb : isW b = true
      · by_cases h4 : op = 4
        · by_cases h0 : b = 0
          · simp [ho, ha, hb, h4, h0]
          · simp [ho, ha, hb, h4, h0, l1Raw_ev ha hb (show ¬ ((4 : Int) = 4 ∧ b = 0) from fun e => h0 e.2), specNumWrap_ev]
        · simp [ho, ha, hb, h4, l1Raw_ev ha hb (show ¬ (op = 4 ∧ b = 0) from fun e => h4 e.1), specNumWrap_ev]
      · simp [ho, ha, hb]
    · simp [ho, ha]
  · simp [ho]
theorem implNumDo_ev (k : Nat) (op a b : Int) : impl_NumDo.f (k + 1) op a b = some (numDo op a b) := by
  unfold impl_NumDo.f
  simp only [isWord_ev, Option.bind_some, impl_NumDo.j0, impl_raw.f]
  unfold numDo
  by_cases ha : isW a = true
  · by_cases hb : isW b = true
    · rw [raw_word ha hb]
      by_cases ho : opOk op b = true
      · simp [ha, hb, ho, implNumWrap_ev]
      · simp [ha, hb, ho, implNumWrap_ev, nwrap]
    · simp [ha, hb]
  · simp [ha]
theorem numDo_ok {op a b : Int} (ha : isW a = true) (hb : isW b = true) (ho : opOk op b = true) : numDo op a b = (nwrap (rawI op a b), true) := by
  unfold numDo; rw [if_pos ⟨ha, hb, ho⟩]
theorem nwrap_mod (a b : Int) (h : a % 32 = b % 32) : nwrap a = nwrap b := by unfold nwrap; omega
theorem nwrap_emod (a : Int) : nwrap a % 32 = a % 32 := by unfold nwrap; omega
end Go.Proofs.Ytekmapilhomdgaa.Pu
