/- Plain laws of the drawing reader: whatever the bytes, a pick succeeds, within its bounds; so do draws of words, operations and spans. -/
import Derived.Test.YtekmapilhomdgaaPx8
import Derived.Test.YtekmapilhomdgaaPx9
namespace Go.Proofs.Ytekmapilhomdgaa.Pu
open Go.RowKit Go.Proofs.Ytekmapilhomdgaa.P Go.Proofs.YtekmapilhomdgaaW.PrintWords Go.Proofs.YtekmapilhomdgaaW.PrintLast
set_option linter.unusedSimpArgs false
set_option linter.unusedVariables false

def Bytes (b : List Int) : Prop := ∀ x ∈ b, 0 ≤ x ∧ x ≤ 255
theorem Bytes.of_wf {b : List Int} (h : ∀ x ∈ b, (Lit.int .u8 x).wf = true) : Bytes b := fun x hx => by
  have := h x hx
  simp [Lit.wf, IntKind.min, IntKind.max, IntKind.signed, IntKind.bits] at this
  omega
theorem Bytes.take {b : List Int} (h : Bytes b) (n : Nat) : Bytes (b.take n) := fun x hx => h x (List.mem_of_mem_take hx)
theorem Bytes.at_ {b : List Int} (h : Bytes b) (i : Int) : 0 ≤ rd b i ∧ rd b i ≤ 255 := by
  unfold Go.Proofs.YtekmapilhomdgaaW.PrintWords.rd
  by_cases hi : i.toNat < b.length
  · rw [List.getD_eq_getElem?_getD, List.getElem?_eq_getElem hi]
    exact h _ (List.getElem_mem hi)
  · rw [List.getD_eq_getElem?_getD, List.getElem?_eq_none (by omega)]
    simp
theorem bits_xor_nonneg {a b : Int} (ha : 0 ≤ a) (hb : 0 ≤ b) (ha' : a < 9223372036854775808) (hb' : b < 9223372036854775808) : 0 ≤ Go.bits .xor .i64 a b ∧ Go.bits .xor .i64 a b < 9223372036854775808 := by
  obtain ⟨a, rfl⟩ := Int.eq_ofNat_of_zero_le ha
  obtain ⟨b, rfl⟩ := Int.eq_ofNat_of_zero_le hb
  have hx : a ^^^ b < 2 ^ 63 := Nat.xor_lt_two_pow (by omega) (by omega)
  have h1 : (BitVec.ofInt 64 (a : Int)).toNat = a := by rw [BitVec.ofInt_natCast, BitVec.toNat_ofNat]; exact Nat.mod_eq_of_lt (by omega)
  have h2 : (BitVec.ofInt 64 (b : Int)).toNat = b := by rw [BitVec.ofInt_natCast, BitVec.toNat_ofNat]; exact Nat.mod_eq_of_lt (by omega)
  have e : Go.bits .xor .i64 (a : Int) (b : Int) = ((a ^^^ b : Nat) : Int) := by
    show IntKind.i64.wrap ((BitVec.ofInt 64 (a : Int) ^^^ BitVec.ofInt 64 (b : Int)).toNat : Int) = _
    rw [BitVec.toNat_xor, h1, h2]
    rw [IntKind.wrap_i64]
    omega
  rw [e]
  omega
theorem w64_id {n : Int} (h : -9223372036854775808 ≤ n ∧ n ≤ 9223372036854775807) : wrap64 n = n := by unfold wrap64; omega
theorem tmod_nn {x n : Int} (hx : 0 ≤ x) (hn : 1 ≤ n) : 0 ≤ Int.tmod x n ∧ Int.tmod x n < n := by
  rw [Int.tmod_eq_emod_of_nonneg hx]
  exact ⟨Int.emod_nonneg _ (by omega), Int.emod_lt_of_pos _ (by omega)⟩
/-- Any number of places that is ever come to is below this. -/
def PB : Int := 1000000000
theorem pick_ev (k : Nat) {b : List Int} (hb : Bytes b) (hl : b.length ≤ 1048576) {p : Int} (h0 : 0 ≤ p) (h1 : p ≤ PB) (n : Int) :
    ∃ v, spec_l6Rd_pick.f (k + 1) b p n = some (v, p + 1) ∧ 0 ≤ v ∧ (1 ≤ n → v < n) ∧ (n < 1 → v = 0) := by
  unfold PB at h1
  have ew : wrap64 (p + 1) = p + 1 := w64_id (by omega)
  have ew2 : wrap64 (p + 1 - 1) = p := by rw [w64_id (by omega)]; omega
  unfold spec_l6Rd_pick.f
  rw [ew]
  by_cases hn : n < 1
  · rw [if_pos hn]
    simp only [spec_l6Rd_pick.j0, if_true]
    exact ⟨0, rfl, by omega, fun h => by omega, fun _ => rfl⟩
  rw [if_neg hn]
  have hn1 : 1 ≤ n := by omega
  simp only [spec_l6Rd_pick.j0]
  by_cases he : (b.length : Int) = 0
  · rw [if_pos (by simpa using he)]
    exact ⟨0, rfl, by omega, fun _ => by omega, fun h => by omega⟩
  rw [if_neg (by simpa using he)]
  rw [ew2]
  by_cases hp : p < (b.length : Int)
  · rw [if_pos hp, if_pos h0, if_neg (by omega)]
    have hr := hb.at_ p
    rw [w64_id (n := rd b p) (by omega)]
    have ht := tmod_nn hr.1 hn1
    exact ⟨_, rfl, ht.1, fun _ => ht.2, fun h => absurd hn1 (by omega)⟩
  rw [if_neg hp, if_neg he]
  have hL : 1 ≤ (b.length : Int) := by omega
  have hL2 : (b.length : Int) ≤ 1048576 := by omega
  have t1 := tmod_nn h0 hL
  rw [w64_id (n := p * 7) (by omega), w64_id (n := p * 7 + 3) (by omega)]
  have t2 := tmod_nn (x := p * 7 + 3) (by omega) hL
  rw [if_pos t1.1, if_pos t1.2, if_pos t2.1, if_pos t2.2, if_neg (by omega)]
  have r1 := hb.at_ (Int.tmod p (b.length : Int))
  have r2 := hb.at_ (Int.tmod (p * 7 + 3) (b.length : Int))
  have hd : 0 ≤ Int.tdiv p (b.length : Int) ∧ Int.tdiv p (b.length : Int) ≤ p := by
    rw [Int.tdiv_eq_ediv_of_nonneg h0]
    exact ⟨Int.ediv_nonneg h0 (by omega), Int.ediv_le_self _ h0⟩
  generalize rd b (Int.tmod p (b.length : Int)) = x1 at *
  generalize rd b (Int.tmod (p * 7 + 3) (b.length : Int)) = x2 at *
  generalize Int.tdiv p (b.length : Int) = q at *
  rw [w64_id (n := x1) (by omega), w64_id (n := x2) (by omega), w64_id (n := q) (by omega), w64_id (n := x1 * 131) (by omega), w64_id (n := x2 * 1117) (by omega), w64_id (n := x1 * 131 + x2 * 1117) (by omega),
    w64_id (n := p * 29) (by omega), w64_id (n := q * 53) (by omega), w64_id (n := x1 * 131 + x2 * 1117 + p * 29) (by omega), w64_id (n := x1 * 131 + x2 * 1117 + p * 29 + q * 53) (by omega)]
  have hx : 0 ≤ x1 * 131 + x2 * 1117 + p * 29 + q * 53 ∧ x1 * 131 + x2 * 1117 + p * 29 + q * 53 < 9223372036854775808 := by omega
  generalize x1 * 131 + x2 * 1117 + p * 29 + q * 53 = x at *
  have hd2 : 0 ≤ Int.tdiv x 64 ∧ Int.tdiv x 64 ≤ x := by
    rw [Int.tdiv_eq_ediv_of_nonneg hx.1]
    exact ⟨Int.ediv_nonneg hx.1 (by omega), Int.ediv_le_self _ hx.1⟩
  rw [w64_id (n := Int.tdiv x 64) (by omega)]
  have hbx := bits_xor_nonneg hx.1 hd2.1 hx.2 (by omega)
  have ht := tmod_nn hbx.1 hn1
  exact ⟨_, rfl, ht.1, fun _ => ht.2, fun h => absurd hn1 (by omega)⟩
theorem l6Open_ev {l : List Int} (hb : Bytes l) : ∃ b, spec_l6Open.f l = some (b, 0) ∧ Bytes b ∧ b.length ≤ 1048576 := by
  unfold spec_l6Open.f
  by_cases h : (l.length : Int) > 2000
  · rw [if_pos h, if_pos (by omega)]
    exact ⟨_, rfl, hb.take _, by simp; omega⟩
  · rw [if_neg h]
    exact ⟨_, rfl, hb, by omega⟩
theorem rd_lit6 (a b c d e f : Int) (P : Int → Prop) (ha : P a) (hb : P b) (hc : P c) (hd : P d) (he : P e) (hf : P f) {i : Int} (h0 : 0 ≤ i) (h1 : i < 6) : P (rd [a, b, c, d, e, f] i) := by
  have : i = 0 ∨ i = 1 ∨ i = 2 ∨ i = 3 ∨ i = 4 ∨ i = 5 := by omega
  rcases this with rfl | rfl | rfl | rfl | rfl | rfl <;> assumption
end Go.Proofs.Ytekmapilhomdgaa.Pu
