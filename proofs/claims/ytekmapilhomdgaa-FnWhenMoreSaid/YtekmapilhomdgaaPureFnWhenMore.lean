/- FnWhenMore: for all bytes, of more no less may be so, as the law says of the drawn spans. No conditions. This text: what is left of it without Go. -/
import Derived.Test.YtekmapilhomdgaaV0
import Derived.Test.YtekmapilhomdgaaPx11
import Derived.Test.YtekmapilhomdgaaPx13
import Derived.Test.YtekmapilhomdgaaPx15
import Derived.Test.YtekmapilhomdgaaPx17
import Derived.Test.YtekmapilhomdgaaPx18
import Derived.Test.YtekmapilhomdgaaPx19
import Derived.Test.YtekmapilhomdgaaPx2
import Derived.Test.YtekmapilhomdgaaPx20
import Derived.Test.YtekmapilhomdgaaPx21
import Derived.Test.YtekmapilhomdgaaPx22
import Derived.Test.YtekmapilhomdgaaPx23
import Derived.Test.YtekmapilhomdgaaPx24
import Derived.Test.YtekmapilhomdgaaPx25
import Derived.Test.YtekmapilhomdgaaPx26
import Derived.Test.YtekmapilhomdgaaPx36
import Derived.Test.YtekmapilhomdgaaPx37
import Derived.Test.YtekmapilhomdgaaPx38
import Derived.Test.YtekmapilhomdgaaPx39
import Derived.Test.YtekmapilhomdgaaPx40
import Derived.Test.YtekmapilhomdgaaPx41
import Derived.Test.YtekmapilhomdgaaPx5
import Derived.Test.YtekmapilhomdgaaPx8
import Derived.Test.YtekmapilhomdgaaPx9
set_option linter.unusedVariables false
set_option linter.unusedSimpArgs false
namespace Go.Proofs.YtekmapilhomdgaaW.PrintWords
open Go.RowKit

section
variable {P : Program} {ops : Array Oper} {rest : List Oper} {o : Oper} {a : Act} {Q : Exit → Act → World → Prop}

end

section
variable {P : Program}
end
section
variable {P : Program} {ops : Array Oper} {rest : List Oper} {o : Oper} {a : Act} {Q : Exit → Act → World → Prop}
end

theorem more_rounds {α : Type} {g : Nat → Option α} (h : ∀ k, LeO (g k) (g (k + 1))) (k : Nat) : ∀ j, LeO (g k) (g (k + j))
  | 0 => LeO.refl _
  | j + 1 => (more_rounds h k j).trans (h (k + j))
theorem at_rounds {α : Type} {g : Nat → Option α} (h : ∀ k, LeO (g k) (g (k + 1))) {k k' : Nat} (hk : k ≤ k') {r : α} (hr : g k = some r) : g k' = some r := by
  have := more_rounds h k (k' - k) r hr
  rwa [Nat.add_sub_cancel' hk] at this
section
variable {P : Program} {ops : Array Oper} {rest : List Oper} {o : Oper} {a : Act} {Q : Exit → Act → World → Prop}
end

theorem Ev.of {α : Type} {g : Nat → Option α} {r : α} (hg : ∀ k, LeO (g k) (g (k + 1))) {k : Nat} (h : g k = some r) : Ev g r := ⟨k, fun _ hk => at_rounds hg hk h⟩
theorem Ev.now {α : Type} (r : α) : Ev (fun _ => some r) r := ⟨0, fun _ _ => rfl⟩
theorem Ev.rounds {α : Type} {g : Nat → Option α} {r : α} (h : Ev g r) : ∃ k, g k = some r := by
  obtain ⟨K, h⟩ := h
  exact ⟨K, h K (Nat.le_refl _)⟩
section
variable {P : Program} {ops : Array Oper} {o : Oper} {a : Act} {Q : Exit → Act → World → Prop} {K : Act → World → Prop}
end
section
variable {α : Type} {enc : α → Value} {d : α}
end
section
variable {α : Type} {P : Program} {ops : Array Oper} {rest : List Oper} {o : Oper} {a : Act} {Q : Exit → Act → World → Prop}
end

section
variable {P : Program}
end
section
variable {α : Type} {R R' : α → List Value → Prop} {e : TypeId} {size : Nat} {w w1 : World} {base : Nat} {v : Value} {ps : List α}
end
section
variable {P : Program} {ops : Array Oper} {rest : List Oper} {o : Oper} {a : Act} {Q : Exit → Act → World → Prop} {α : Type} {R : α → List Value → Prop}
end
section
variable {P : Program} {ops : Array Oper} {o : Oper} {a : Act} {Q : Exit → Act → World → Prop} {K : Act → World → Prop} {α : Type} {R : α → List Value → Prop}
end
section
variable {α : Type} {P : Program}
end

section
variable {P : Program} {ops : Array Oper} {rest : List Oper} {o : Oper} {a : Act} {Q : Exit → Act → World → Prop}
end
namespace Kd
section
variable {α : Type} {d : Kd α} {e : Nat} {w w1 : World} {base : Nat} {ok ok' : Nat → Prop} {v : Value} {xs : List α}
end

section
variable {P : Program} {ops : Array Oper} {rest : List Oper} {o : Oper} {a : Act} {Q : Exit → Act → World → Prop} {α : Type}
end
section
variable {P : Program} {ops : Array Oper} {o : Oper} {a : Act} {Q : Exit → Act → World → Prop} {Kc : Act → World → Prop} {α : Type}
end
end Kd
namespace Kd
section
variable {α : Type} {F : Kd α → Kd α} {sz : Nat} {E : List Nat} {hs : ∀ n, (upto F sz E n).sz = sz} {hE : ∀ n q, q ∈ (upto F sz E n).E → q ∈ E}
end
end Kd
namespace Kd
end Kd
namespace Kd
section
variable {α β : Type} {d : Kd α} {d' : Kd β} {e e' : Nat} {w w1 W : World} {base b b' : Nat} {ok ok' okv oku : Nat → Prop} {v u : Value} {xs : List α} {ys : List β}
end
section
variable {w W : World} {A : Option Addr} {n : Nat}
variable {α : Type} {enc : α → Value} {h1 : ∀ x, (enc x).oneCell' = true} {e base g cap : Nat} {ok : Nat → Prop} {xs : List α}
end

section
variable {P : Program} {ops : Array Oper} {rest : List Oper} {o : Oper} {a : Act} {Q : Exit → Act → World → Prop}
variable {α : Type}
end
end Kd
section
variable {P : Program}
end
section
variable {w w1 : World} {base n size : Nat} {e : TypeId} {v : Value} {xs : List Value}
end
section
variable {P : Program}
end
namespace Kd
section
variable {α : Type} {d : Kd α} {e : Nat} {w w1 W : World} {base : Nat} {ok ok' : Nat → Prop} {v : Value} {xs : List α}
end
section
variable {P : Program} {ops : Array Oper} {rest : List Oper} {o : Oper} {a : Act} {Q' : Exit → Act → World → Prop} {Kc : Act → World → Prop} {α : Type}
end
end Kd
namespace Kd
section
variable {α : Type} {d : Kd α} {e e' : Nat} {w w1 W : World} {base : Nat} {ok : Nat → Prop} {u v : Value} {xs : List α}
end
end Kd
namespace Kd
section
variable {α : Type} {d : Kd α} {e base g n cap : Nat} {ok okp : Nat → Prop} {W : World} {xs : List α}
end
end Kd
namespace Kd
section
variable {α : Type} {F : Kd α → Kd α} {sz : Nat} {E : List Nat} {hs : ∀ n, (upto F sz E n).sz = sz} {hE : ∀ n q, q ∈ (upto F sz E n).E → q ∈ E}
end
end Kd
namespace Kd
section
variable {P : Program} {ops : Array Oper} {rest : List Oper} {o : Oper} {a : Act} {Q : Exit → Act → World → Prop} {α : Type}
end
end Kd
namespace Kd
section
variable {P : Program} {ops : Array Oper} {rest : List Oper} {o : Oper} {a : Act} {Q : Exit → Act → World → Prop} {α : Type}
end
end Kd
namespace Kd
section
variable {α : Type} {k : Kd α} {w : World} {A : Option Addr} {xs : List α} {m c : Nat}
end
end Kd
section
variable {P : Program}
end
namespace Kd
section
variable {α β : Type} {d : Kd α} {d' : Kd β} {e e' base base' n : Nat} {ok ok' : Nat → Prop} {w W w1 W1 : World} {v u : Value} {xs : List α} {ys : List β} {A : Option Addr} {c : Nat}
end
section
variable {α : Type} {enc : α → Value} {h1 : ∀ x, (enc x).oneCell' = true} {w W : World} {A : Option Addr} {n g : Nat} {xs : List α}
end
end Kd
namespace Kd
section
variable {α : Type} {d : Kd α} {e base g : Nat} {ok : Nat → Prop} {w w1 : World} {v : Value} {xs : List α} {o : Obj}
end
end Kd
section
variable {P : Program} {ops : Array Oper} {rest : List Oper} {o : Oper} {a : Act} {Q : Exit → Act → World → Prop}
end
namespace Kd
section
variable {α : Type} {enc : α → Value} {h1 : ∀ x, (enc x).oneCell' = true} {e base g n cap : Nat} {ok : Nat → Prop} {W : World} {xs : List α}
end
end Kd
section
variable {P : Program} {ops : Array Oper} {rest : List Oper} {o : Oper} {a : Act} {Q : Exit → Act → World → Prop}
end
namespace Kd
section
variable {α : Type} {enc : α → Value} {h1 : ∀ x, (enc x).oneCell' = true} {e base g n cap : Nat} {ok : Nat → Prop} {W : World} {xs : List α}
end
end Kd
section
variable {P : Program} {ops : Array Oper} {rest : List Oper} {o : Oper} {a : Act} {Q : Exit → Act → World → Prop} {W : World}
end
section
variable {P : Program} {ops : Array Oper} {o : Oper} {a : Act} {Q : Exit → Act → World → Prop} {Kc : Act → World → Prop}
namespace Kd
variable {α : Type}
end Kd
end
section
variable {P : Program} {tmps : Array Value} {w : World}
end
namespace Kd
section
variable {P : Program} {α : Type}
end
section
variable {P : Program} {ops : Array Oper} {rest : List Oper} {o : Oper} {a : Act} {Q : Exit → Act → World → Prop} {Kc : Act → World → Prop} {α : Type}
end
end Kd

end Go.Proofs.YtekmapilhomdgaaW.PrintWords

namespace Go.Proofs.YtekmapilhomdgaaW.PrintWords
open Go.RowKit
namespace Foot
variable {P Q : World → Prop} {W W1 : World} {ok ok' : Nat → Prop}
theorem now (h : Foot P W ok) : P W := h W (fun _ _ _ => rfl)
end Foot
namespace Kd
section
variable {α β : Type} {d : Kd α} {e base n n' cc g N : Nat} {ok ok' okp S : Nat → Prop} {w w0 w1 W W1 : World} {A A' : Option Addr} {u v v1 : Value} {xs : List α} {xs' : List β} {d' : Kd β} {x : α} {c : List Value}
end
end Kd
end Go.Proofs.YtekmapilhomdgaaW.PrintWords

namespace Go.Proofs.Ytekmapilhomdgaa.Pu
open Go.RowKit Go.Proofs.Ytekmapilhomdgaa.P Go.Proofs.YtekmapilhomdgaaW.PrintWords Go.Proofs.YtekmapilhomdgaaW.PrintLast
set_option linter.unusedSimpArgs false
set_option linter.unusedVariables false

def Bytes (b : List Int) : Prop := ∀ x ∈ b, 0 ≤ x ∧ x ≤ 255
theorem Bytes.of_wf {b : List Int} (h : ∀ x ∈ b, (Lit.int .u8 x).wf = true) : Bytes b := fun x hx => by
  have := h x hx
  simp [Lit.wf, IntKind.min, IntKind.max, IntKind.signed, IntKind.bits] at this
  omega
theorem Bytes.take {b : List Int} (h : Bytes b) (n : Nat) : Bytes (b.take n) := fun x hx => h x (List.mem_of_mem_take hx)
theorem Bytes.at_ {b : List Int} (h : Bytes b) (i : Int) : 0 ≤ rd b i ∧ rd b i ≤ 255 := by
  unfold Go.Proofs.YtekmapilhomdgaaW.PrintWords.rd
  by_cases hi : i.toNat < b.length
  · rw [List.getD_eq_getElem?_getD, List.getElem?_eq_getElem hi]
    exact h _ (List.getElem_mem hi)
  · rw [List.getD_eq_getElem?_getD, List.getElem?_eq_none (by omega)]
    simp
theorem bits_xor_nonneg {a b : Int} (ha : 0 ≤ a) (hb : 0 ≤ b) (ha' : a < 9223372036854775808) (hb' : b < 9223372036854775808) : 0 ≤ Go.bits .xor .i64 a b ∧ Go.bits .xor .i64 a b < 9223372036854775808 := by
  obtain ⟨a, rfl⟩ := Int.eq_ofNat_of_zero_le ha
  obtain ⟨b, rfl⟩ := Int.eq_ofNat_of_zero_le hb
  have hx : a ^^^ b < 2 ^ 63 := Nat.xor_lt_two_pow (by omega) (by omega)
  have h1 : (BitVec.ofInt 64 (a : Int)).toNat = a := by rw [BitVec.ofInt_natCast, BitVec.toNat_ofNat]; exact Nat.mod_eq_of_lt (by omega)
  have h2 : (BitVec.ofInt 64 (b : Int)).toNat = b := by rw [BitVec.ofInt_natCast, BitVec.toNat_ofNat]; exact Nat.mod_eq_of_lt (by omega)
  have e : Go.bits .xor .i64 (a : Int) (b : Int) = ((a ^^^ b : Nat) : Int) := by
    show IntKind.i64.wrap ((BitVec.ofInt 64 (a : Int) ^^^ BitVec.ofInt 64 (b : Int)).toNat : Int) = _
    rw [BitVec.toNat_xor, h1, h2]
    rw [IntKind.wrap_i64]
    omega
  rw [e]
  omega
theorem w64_id {n : Int} (h : -9223372036854775808 ≤ n ∧ n ≤ 9223372036854775807) : wrap64 n = n := by unfold wrap64; omega
theorem tmod_nn {x n : Int} (hx : 0 ≤ x) (hn : 1 ≤ n) : 0 ≤ Int.tmod x n ∧ Int.tmod x n < n := by
  rw [Int.tmod_eq_emod_of_nonneg hx]
  exact ⟨Int.emod_nonneg _ (by omega), Int.emod_lt_of_pos _ (by omega)⟩
/-- Any number of places that is ever come to is below this. -/
def PB : Int := 1000000000
theorem pick_ev (k : Nat) {b : List Int} (hb : Bytes b) (hl : b.length ≤ 1048576) {p : Int} (h0 : 0 ≤ p) (h1 : p ≤ PB) (n : Int) :
    ∃ v, spec_l6Rd_pick.f (k + 1) b p n = some (v, p + 1) ∧ 0 ≤ v ∧ (1 ≤ n → v < n) ∧ (n < 1 → v = 0) := by
  unfold PB at h1
  have ew : wrap64 (p + 1) = p + 1 := w64_id (by omega)
  have ew2 : wrap64 (p + 1 - 1) = p := by rw [w64_id (by omega)]; omega
  unfold spec_l6Rd_pick.f
  rw [ew]
  by_cases hn : n < 1
  · rw [if_pos hn]
    simp only [spec_l6Rd_pick.j0, if_true]
    exact ⟨0, rfl, by omega, fun h => by omega, fun _ => rfl⟩
  rw [if_neg hn]
  have hn1 : 1 ≤ n := by omega
  simp only [spec_l6Rd_pick.j0]
  by_cases he : (b.length : Int) = 0
  · rw [if_pos (by simpa using he)]
    exact ⟨0, rfl, by omega, fun _ => by omega, fun h => by omega⟩
  rw [if_neg (by simpa using he)]
  rw [ew2]
  by_cases hp : p < (b.length : Int)
  · rw [if_pos hp, if_pos h0, if_neg (by omega)]
    have hr := hb.at_ p
    rw [w64_id (n := rd b p) (by omega)]
    have ht := tmod_nn hr.1 hn1
    exact ⟨_, rfl, ht.1, fun _ => ht.2, fun h => absurd hn1 (by omega)⟩
  rw [if_neg hp, if_neg he]
  have hL : 1 ≤ (b.length : Int) := by omega
  have hL2 : (b.length : Int) ≤ 1048576 := by omega
  have t1 := tmod_nn h0 hL
  rw [w64_id (n := p * 7) (by omega), w64_id (n := p * 7 + 3) (by omega)]
  have t2 := tmod_nn (x := p * 7 + 3) (by omega) hL
  rw [if_pos t1.1, if_pos t1.2, if_pos t2.1, if_pos t2.2, if_neg (by omega)]
  have r1 := hb.at_ (Int.tmod p (b.length : Int))
  have r2 := hb.at_ (Int.tmod (p * 7 + 3) (b.length : Int))
  have hd : 0 ≤ Int.tdiv p (b.length : Int) ∧ Int.tdiv p (b.length : Int) ≤ p := by
    rw [Int.tdiv_eq_ediv_of_nonneg h0]
    exact ⟨Int.ediv_nonneg h0 (by omega), Int.ediv_le_self _ h0⟩
  generalize rd b (Int.tmod p (b.length : Int)) = x1 at *
  generalize rd b (Int.tmod (p * 7 + 3) (b.length : Int)) = x2 at *
  generalize Int.tdiv p (b.length : Int) = q at *
  rw [w64_id (n := x1) (by omega), w64_id (n := x2) (by omega), w64_id (n := q) (by omega), w64_id (n := x1 * 131) (by omega), w64_id (n := x2 * 1117) (by omega), w64_id (n := x1 * 131 + x2 * 1117) (by omega),
    w64_id (n := p * 29) (by omega), w64_id (n := q * 53) (by omega), w64_id (n := x1 * 131 + x2 * 1117 + p * 29) (by omega), w64_id (n := x1 * 131 + x2 * 1117 + p * 29 + q * 53) (by omega)]
  have hx : 0 ≤ x1 * 131 + x2 * 1117 + p * 29 + q * 53 ∧ x1 * 131 + x2 * 1117 + p * 29 + q * 53 < 9223372036854775808 := by omega
  generalize x1 * 131 + x2 * 1117 + p * 29 + q * 53 = x at *
  have hd2 : 0 ≤ Int.tdiv x 64 ∧ Int.tdiv x 64 ≤ x := by
    rw [Int.tdiv_eq_ediv_of_nonneg hx.1]
    exact ⟨Int.ediv_nonneg hx.1 (by omega), Int.ediv_le_self _ hx.1⟩
  rw [w64_id (n := Int.tdiv x 64) (by omega)]
  have hbx := bits_xor_nonneg hx.1 hd2.1 hx.2 (by omega)
  have ht := tmod_nn hbx.1 hn1
  exact ⟨_, rfl, ht.1, fun _ => ht.2, fun h => absurd hn1 (by omega)⟩
theorem l6Open_ev {l : List Int} (hb : Bytes l) : ∃ b, spec_l6Open.f l = some (b, 0) ∧ Bytes b ∧ b.length ≤ 1048576 := by
  unfold spec_l6Open.f
  by_cases h : (l.length : Int) > 2000
  · rw [if_pos h, if_pos (by omega)]
    exact ⟨_, rfl, hb.take _, by simp; omega⟩
  · rw [if_neg h]
    exact ⟨_, rfl, hb, by omega⟩
theorem rd_lit6 (a b c d e f : Int) (P : Int → Prop) (ha : P a) (hb : P b) (hc : P c) (hd : P d) (he : P e) (hf : P f) {i : Int} (h0 : 0 ≤ i) (h1 : i < 6) : P (rd [a, b, c, d, e, f] i) := by
  have : i = 0 ∨ i = 1 ∨ i = 2 ∨ i = 3 ∨ i = 4 ∨ i = 5 := by omega
  rcases this with rfl | rfl | rfl | rfl | rfl | rfl <;> assumption
end Go.Proofs.Ytekmapilhomdgaa.Pu

namespace Go.Proofs.Ytekmapilhomdgaa.Pu
open Go.RowKit Go.Proofs.Ytekmapilhomdgaa.P Go.Proofs.YtekmapilhomdgaaW.PrintWords Go.Proofs.YtekmapilhomdgaaW.PrintLast
set_option linter.unusedSimpArgs false
set_option linter.unusedVariables false
theorem l71Word_ev (k : Nat) {b : List Int} (hb : Bytes b) (hl : b.length ≤ 1048576) {p : Int} (h0 : 0 ≤ p) (h1 : p + 2 ≤ PB) :
    ∃ v p', spec_l71Word.f (k + 1) b p = some (v, p') ∧ p ≤ p' ∧ p' ≤ p + 2 ∧ -16 ≤ v ∧ v ≤ 15 := by
  obtain ⟨v1, e1, g1, g1', _⟩ := pick_ev k hb hl h0 (by omega) 3
  unfold spec_l71Word.f
  rw [e1]
  simp only [Option.bind_some]
  by_cases h : v1 = 0
  · rw [if_pos h]
    obtain ⟨v2, e2, g2, g2', _⟩ := pick_ev k hb hl (p := p + 1) (by omega) (by omega) 6
    rw [e2]
    simp only [Option.bind_some]
    rw [if_pos g2, if_pos (by have := g2' (by omega); simp; omega)]
    have := rd_lit6 0 1 (-1) (-16) 15 2 (fun n => -16 ≤ n ∧ n ≤ 15) (by omega) (by omega) (by omega) (by omega) (by omega) (by omega) g2 (g2' (by omega))
    exact ⟨_, _, rfl, by omega, by omega, this.1, this.2⟩
  · rw [if_neg h, show spec_l1Many.f = some 32 from rfl]
    simp only [Option.bind_some]
    obtain ⟨v2, e2, g2, g2', _⟩ := pick_ev k hb hl (p := p + 1) (by omega) (by omega) 32
    rw [e2]
    simp only [Option.bind_some]
    have := g2' (by omega)
    rw [w64_id (by omega)]
    exact ⟨_, _, rfl, by omega, by omega, by omega, by omega⟩
end Go.Proofs.Ytekmapilhomdgaa.Pu

namespace Go.Proofs.Ytekmapilhomdgaa.Pu
open Go.RowKit Go.Proofs.Ytekmapilhomdgaa.P Go.Proofs.YtekmapilhomdgaaW.PrintWords Go.Proofs.YtekmapilhomdgaaW.PrintLast
set_option linter.unusedSimpArgs false
set_option linter.unusedVariables false

def isW (n : Int) : Bool := decide (-16 ≤ n ∧ n ≤ 15)
theorem isW_iff (n : Int) : isW n = true ↔ -16 ≤ n ∧ n ≤ 15 := by simp [isW]
theorem l6In_ev (a b c : Int) : spec_l6In.f a b c = some (decide (b ≤ a ∧ a ≤ c)) := by
  unfold spec_l6In.f
  by_cases h : a ≥ b
  · rw [if_pos h]; congr 1; simp [show b ≤ a from h]
  · rw [if_neg h]; congr 1; simp [show ¬ b ≤ a from h]
theorem l1Word_ev (a : Int) : spec_l1Word.f a = some (isW a) := by unfold spec_l1Word.f; rw [l6In_ev]; rfl
theorem isWord_ev (a : Int) : impl_isWord.f a = some (isW a) := by
  unfold impl_isWord.f isW
  by_cases h : a ≥ -16
  · rw [if_pos h]; congr 1; simp [show -16 ≤ a from h]
  · rw [if_neg h]; congr 1; simp [show ¬ -16 ≤ a from h]
/-- What an operation gives ahead of wrapping. -/
def rawI (op a b : Int) : Int :=
  if op = 1 then a + b else if op = 2 then a - b else if op = 3 then a * b else if op = 4 then Int.tdiv a b
  else if op = 5 then (if a < b then 1 else 0) else if op = 6 then (if a = b then 1 else 0) else 0
def opOk (op b : Int) : Bool := decide (1 ≤ op ∧ op ≤ 6) && !(decide (op = 4) && decide (b = 0))
theorem rawI_5 (a b : Int) : rawI 5 a b = if a < b then 1 else 0 := rfl
theorem rawI_6 (a b : Int) : rawI 6 a b = if a = b then 1 else 0 := rfl
theorem w64_small {n : Int} (h : -9223372036854775808 ≤ n ∧ n ≤ 9223372036854775807) : wrap64 n = n := by unfold wrap64; omega
theorem isW_mul {a b : Int} (ha : isW a = true) (hb : isW b = true) : -256 ≤ a * b ∧ a * b ≤ 256 := by
  rw [isW_iff] at ha hb
  have h1 : (a + 16) * (b + 16) ≥ 0 := Int.mul_nonneg (by omega) (by omega)
  have h2 : (16 - a) * (16 - b) ≥ 0 := Int.mul_nonneg (by omega) (by omega)
  have h3 : (a + 16) * (16 - b) ≥ 0 := Int.mul_nonneg (by omega) (by omega)
  have h4 : (16 - a) * (b + 16) ≥ 0 := Int.mul_nonneg (by omega) (by omega)
  have e1 : (a + 16) * (b + 16) = a * b + 16 * a + 16 * b + 256 := by rw [Int.add_mul, Int.mul_add, Int.mul_add]; omega
  have e2 : (16 - a) * (16 - b) = a * b - 16 * a - 16 * b + 256 := by rw [Int.sub_mul, Int.mul_sub, Int.mul_sub]; omega
  have e3 : (a + 16) * (16 - b) = -(a * b) + 16 * a - 16 * b + 256 := by rw [Int.add_mul, Int.mul_sub, Int.mul_sub]; omega
  have e4 : (16 - a) * (b + 16) = -(a * b) - 16 * a + 16 * b + 256 := by rw [Int.sub_mul, Int.mul_add, Int.mul_add]; omega
  omega
theorem isW_div {a b : Int} (ha : isW a = true) (hb : isW b = true) : -16 ≤ Int.tdiv a b ∧ Int.tdiv a b ≤ 16 := by
  rw [isW_iff] at ha
  have := Int.natAbs_tdiv_le_natAbs a b
  omega
theorem raw_word {op a b : Int} (ha : isW a = true) (hb : isW b = true) : impl_raw.v op a b = if opOk op b = true then (rawI op a b, true) else (0, false) := by
  have hm := isW_mul ha hb
  have hd := isW_div ha hb
  rw [isW_iff] at ha hb
  unfold impl_raw.v rawI opOk
  by_cases h1 : op = 1
  · subst h1; simp [w64_small (show -9223372036854775808 ≤ a + b ∧ a + b ≤ 9223372036854775807 by omega)]
  by_cases h2 : op = 2
  · subst h2; simp [w64_small (show -9223372036854775808 ≤ a - b ∧ a - b ≤ 9223372036854775807 by omega)]
  by_cases h3 : op = 3
  · subst h3; simp [w64_small (show -9223372036854775808 ≤ a * b ∧ a * b ≤ 9223372036854775807 by omega)]
  by_cases h4 : op = 4
  · subst h4
    by_cases h : b = 0
    · simp [h]
    · simp [h, w64_small (show -9223372036854775808 ≤ Int.tdiv a b ∧ Int.tdiv a b ≤ 9223372036854775807 by omega)]
  by_cases h5 : op = 5
  · subst h5; simp
  by_cases h6 : op = 6
  · subst h6; simp
  have : ¬ (1 ≤ op ∧ op ≤ 6) := by omega
  simp [h1, h2, h3, h4, h5, h6, this]
end Go.Proofs.Ytekmapilhomdgaa.Pu

namespace Go.Proofs.Ytekmapilhomdgaa.Pu
open Go.RowKit Go.Proofs.Ytekmapilhomdgaa.P Go.Proofs.YtekmapilhomdgaaW.PrintWords Go.Proofs.YtekmapilhomdgaaW.PrintLast
set_option linter.unusedSimpArgs false
set_option linter.unusedVariables false
theorem specSpanOk_ev (a : Bool) (l h : Int) : spec_SpanOk.f a l h = some (if a = true then isW l && isW h && decide (l ≤ h) else decide (l = 0) && decide (h = 0)) := by
  unfold spec_SpanOk.f
  simp only [l1Word_ev, Option.bind_some]
  by_cases ha : a = true
  · subst ha
    by_cases hl : isW l = true
    · by_cases hh : isW h = true
      · simp [hl, hh]
      · simp [hl, hh]
    · simp [hl]
  · simp [ha]
    by_cases h1 : l = 0 <;> by_cases h2 : h = 0 <;> simp [h1, h2]
end Go.Proofs.Ytekmapilhomdgaa.Pu

namespace Go.Proofs.Ytekmapilhomdgaa.Pu
open Go.RowKit Go.Proofs.Ytekmapilhomdgaa.P Go.Proofs.YtekmapilhomdgaaW.PrintWords Go.Proofs.YtekmapilhomdgaaW.PrintLast
set_option linter.unusedSimpArgs false
set_option linter.unusedVariables false
abbrev Sp := Bool × Int × Int
def spOk (s : Sp) : Bool := if s.1 = true then isW s.2.1 && isW s.2.2 && decide (s.2.1 ≤ s.2.2) else decide (s.2.1 = 0) && decide (s.2.2 = 0)
def spNone : Sp := (false, 0, 0)
theorem specSpanOk_sp (a : Bool) (l h : Int) : spec_SpanOk.f a l h = some (spOk (a, l, h)) := specSpanOk_ev a l h
theorem implSpanOk_ev (a : Bool) (l h : Int) : impl_SpanOk.f a l h = some (spOk (a, l, h)) := by
  unfold impl_SpanOk.f spOk
  simp only [isWord_ev, Option.bind_some]
  by_cases ha : a = true
  · subst ha
    by_cases hl : isW l = true
    · by_cases hh : isW h = true
      · simp [hl, hh]
      · simp [hl, hh]
    · simp [hl]
  · simp [ha]
    by_cases h1 : l = 0 <;> by_cases h2 : h = 0 <;> simp [h1, h2]
theorem bothOk_ev (a : Bool) (l h : Int) (b : Bool) (m n : Int) : impl_bothOk.f a l h b m n = some (spOk (a, l, h) && spOk (b, m, n)) := by
  unfold impl_bothOk.f
  simp only [implSpanOk_ev, Option.bind_some]
  by_cases h1 : spOk (a, l, h) = true <;> simp [h1]
theorem spOk_true {l h : Int} (k : spOk (true, l, h) = true) : -16 ≤ l ∧ l ≤ h ∧ h ≤ 15 ∧ isW l = true ∧ isW h = true := by
  simp [spOk] at k
  obtain ⟨⟨h1, h2⟩, h3⟩ := k
  have := (isW_iff l).1 h1
  have := (isW_iff h).1 h2
  exact ⟨by omega, h3, by omega, h1, h2⟩
theorem spOk_false {l h : Int} (k : spOk (false, l, h) = true) : l = 0 ∧ h = 0 := by simpa [spOk] using k
theorem spOk_mk {l h : Int} (h1 : -16 ≤ l) (h2 : l ≤ h) (h3 : h ≤ 15) : spOk (true, l, h) = true := by
  simp [spOk, isW]; omega
/-- The numbers from lo to hi. -/
def wl (lo hi : Int) : List Int := (List.range (hi + 1 - lo).toNat).map fun (i : Nat) => lo + (i : Int)
theorem wl_nil {lo hi : Int} (h : hi < lo) : wl lo hi = [] := by unfold wl; rw [show (hi + 1 - lo).toNat = 0 by omega]; rfl
theorem wl_cons {lo hi : Int} (h : lo ≤ hi) : wl lo hi = lo :: wl (lo + 1) hi := by
  unfold wl
  rw [show (hi + 1 - lo).toNat = (hi + 1 - (lo + 1)).toNat + 1 by omega, List.range_succ_eq_map]
  simp only [List.map_cons, List.map_map]
  congr 1
  · simp
  · apply List.map_congr_left
    intro i _
    simp
    omega
theorem mem_wl {lo hi x : Int} : x ∈ wl lo hi ↔ lo ≤ x ∧ x ≤ hi := by
  unfold wl
  simp only [List.mem_map, List.mem_range]
  constructor
  · rintro ⟨i, hi, rfl⟩; omega
  · intro h; exact ⟨(x - lo).toNat, by omega, by omega⟩
theorem wl_length (lo hi : Int) : (wl lo hi).length = (hi + 1 - lo).toNat := by simp [wl]
/-- The words of a span. -/
def wds (s : Sp) : List Int := if s.1 = true then wl s.2.1 s.2.2 else []
theorem words_loop {hi : Int} (hh : hi ≤ 100) (lo : Int) (d : Nat) : ∀ (acc : List Int) (n : Int), hi + 1 - n = d → -100 ≤ n → acc.length + d ≤ 1000 → Ev (fun k => impl_Span_words.l0 k acc n true lo hi) (acc ++ wl n hi) := by
  induction d with
  | zero =>
    intro acc n hd hn hl
    refine Ev.step (f := fun _ => some acc) (fun k => ?_) ?_
    · simp only [impl_Span_words.l0]; rw [if_pos trivial, if_neg (by omega)]
    · rw [wl_nil (by omega), List.append_nil]; exact Ev.now _
  | succ d ih =>
    intro acc n hd hn hl
    refine Ev.step (f := fun k => impl_Span_words.l0 k (acc ++ [n]) (n + 1) true lo hi) (fun k => ?_) ?_
    · simp only [impl_Span_words.l0]; rw [if_pos trivial, if_pos (by omega), if_pos (by omega), w64_id (by omega)]
    · have := ih (acc ++ [n]) (n + 1) (by omega) (by omega) (by simp; omega)
      rw [wl_cons (by omega)]
      simpa using this
theorem words_ev {a : Bool} {l h : Int} (k : spOk (a, l, h) = true) : Ev (fun k => impl_Span_words.f k a l h) (wds (a, l, h)) := by
  cases a with
  | false =>
    refine Ev.step (f := fun _ => some []) (fun k => ?_) (Ev.now _)
    simp only [impl_Span_words.f, impl_Span_words.l0]
    rw [if_neg (by decide)]
  | true =>
    have h1 := spOk_true k
    have := words_loop (hi := h) (by omega) l (h + 1 - l).toNat [] l (by omega) (by omega) (by simp; omega)
    simpa [wds, impl_Span_words.f] using this
theorem wds_word {s : Sp} (k : spOk s = true) {x : Int} (hx : x ∈ wds s) : isW x = true := by
  obtain ⟨a, l, h⟩ := s
  cases a with
  | false => simp [wds] at hx
  | true =>
    have h1 := spOk_true k
    have h2 : l ≤ x ∧ x ≤ h := by simpa [wds, mem_wl] using hx
    rw [isW_iff]; omega
theorem wds_length {s : Sp} (k : spOk s = true) : (wds s).length ≤ 32 := by
  obtain ⟨a, l, h⟩ := s
  cases a with
  | false => simp [wds]
  | true => have h1 := spOk_true k; simp [wds, wl_length]; omega
/-- The smallest interval with numbers. -/
def IsHull (l : List Int) (s : Sp) : Prop := (l = [] ∧ s = spNone) ∨ (s.1 = true ∧ s.2.1 ∈ l ∧ s.2.2 ∈ l ∧ ∀ x ∈ l, s.2.1 ≤ x ∧ x ≤ s.2.2)
theorem IsHull.uniq {l l' : List Int} {s s' : Sp} (h : IsHull l s) (h' : IsHull l' s') (e : ∀ x, x ∈ l ↔ x ∈ l') : s = s' := by
  rcases h with ⟨rfl, rfl⟩ | ⟨h1, h2, h3, h4⟩ <;> rcases h' with ⟨rfl, rfl⟩ | ⟨g1, g2, g3, g4⟩
  · rfl
  · exact absurd ((e _).2 g2) (by simp)
  · exact absurd ((e _).1 h2) (by simp)
  · obtain ⟨a, lo, hi⟩ := s
    obtain ⟨b, lo', hi'⟩ := s'
    simp only at *
    have a1 := h4 _ ((e _).2 g2)
    have a2 := h4 _ ((e _).2 g3)
    have a3 := g4 _ ((e _).1 h2)
    have a4 := g4 _ ((e _).1 h3)
    subst h1; subst g1
    have : lo = lo' := by omega
    have : hi = hi' := by omega
    simp [*]
theorem hull_wds {s : Sp} (k : spOk s = true) : IsHull (wds s) s := by
  obtain ⟨a, l, h⟩ := s
  cases a with
  | false => obtain ⟨rfl, rfl⟩ := spOk_false k; exact .inl ⟨rfl, rfl⟩
  | true =>
    have h1 := spOk_true k
    refine .inr ⟨rfl, ?_, ?_, fun x hx => ?_⟩
    · simp [wds, mem_wl]; omega
    · simp [wds, mem_wl]; omega
    · simpa [wds, mem_wl] using hx
theorem rd_mem {l : List Int} {i : Int} (h0 : 0 ≤ i) (h1 : i < (l.length : Int)) : rd l i ∈ l := by
  unfold Go.Proofs.YtekmapilhomdgaaW.PrintWords.rd
  rw [List.getD_eq_getElem?_getD, List.getElem?_eq_getElem (by omega)]
  exact List.getElem_mem _
theorem mem_rd {l : List Int} {x : Int} (h : x ∈ l) : ∃ i : Int, 0 ≤ i ∧ i < (l.length : Int) ∧ rd l i = x := by
  obtain ⟨j, hj, rfl⟩ := List.mem_iff_getElem.1 h
  refine ⟨(j : Int), by omega, by omega, ?_⟩
  unfold Go.Proofs.YtekmapilhomdgaaW.PrintWords.rd
  rw [List.getD_eq_getElem?_getD]
  simp [hj]
theorem min_loop (l : List Int) (hl : l.length ≤ 100000) (d : Nat) : ∀ (m i : Int), (l.length : Int) - i = d → 1 ≤ i → m ∈ l → (∀ j : Int, 0 ≤ j → j < i → m ≤ rd l j) →
    ∃ r, Ev (fun k => slices_Min_int_int.l0 k l m i) r ∧ r ∈ l ∧ ∀ x ∈ l, r ≤ x := by
  induction d with
  | zero =>
    intro m i hd hi hm hj
    refine ⟨m, Ev.step (f := fun _ => some m) (fun k => ?_) (Ev.now _), hm, fun x hx => ?_⟩
    · simp only [slices_Min_int_int.l0]; rw [if_neg (by omega)]
    · obtain ⟨j, h0, h1, rfl⟩ := mem_rd hx; exact hj j h0 (by omega)
  | succ d ih =>
    intro m i hd hi hm hj
    have hr : rd l i ∈ l := rd_mem (by omega) (by omega)
    obtain ⟨r, hr1, hr2, hr3⟩ := ih (mn m (rd l i)) (i + 1) (by omega) (by omega) (by unfold mn; split <;> assumption) (fun j h0 h1 => by
      by_cases e : j = i
      · subst e; unfold mn; omega
      · have := hj j h0 (by omega); unfold mn; omega)
    refine ⟨r, Ev.step (f := fun k => slices_Min_int_int.l0 k l (mn m (rd l i)) (i + 1)) (fun k => ?_) hr1, hr2, hr3⟩
    simp only [slices_Min_int_int.l0]; rw [if_pos (by omega), if_pos (by omega), w64_id (by omega)]
theorem max_loop (l : List Int) (hl : l.length ≤ 100000) (d : Nat) : ∀ (m i : Int), (l.length : Int) - i = d → 1 ≤ i → m ∈ l → (∀ j : Int, 0 ≤ j → j < i → rd l j ≤ m) →
    ∃ r, Ev (fun k => slices_Max_int_int.l0 k l m i) r ∧ r ∈ l ∧ ∀ x ∈ l, x ≤ r := by
  induction d with
  | zero =>
    intro m i hd hi hm hj
    refine ⟨m, Ev.step (f := fun _ => some m) (fun k => ?_) (Ev.now _), hm, fun x hx => ?_⟩
    · simp only [slices_Max_int_int.l0]; rw [if_neg (by omega)]
    · obtain ⟨j, h0, h1, rfl⟩ := mem_rd hx; exact hj j h0 (by omega)
  | succ d ih =>
    intro m i hd hi hm hj
    have hr : rd l i ∈ l := rd_mem (by omega) (by omega)
    obtain ⟨r, hr1, hr2, hr3⟩ := ih (mx m (rd l i)) (i + 1) (by omega) (by omega) (by unfold mx; split <;> assumption) (fun j h0 h1 => by
      by_cases e : j = i
      · subst e; unfold mx; omega
      · have := hj j h0 (by omega); unfold mx; omega)
    refine ⟨r, Ev.step (f := fun k => slices_Max_int_int.l0 k l (mx m (rd l i)) (i + 1)) (fun k => ?_) hr1, hr2, hr3⟩
    simp only [slices_Max_int_int.l0]; rw [if_pos (by omega), if_pos (by omega), w64_id (by omega)]
theorem spanned_ev {l : List Int} (hl : l.length ≤ 100000) : ∃ s, Ev (fun k => impl_spanned.f k l) s ∧ IsHull l s := by
  by_cases h0 : (l.length : Int) = 0
  · refine ⟨spNone, Ev.congr (f := fun _ => some spNone) (fun k => ?_) (Ev.now _), .inl ⟨List.length_eq_zero_iff.1 (by omega), rfl⟩⟩
    unfold impl_spanned.f impl_between_int.f
    rw [if_pos h0]; rfl
  · have hr : rd l 0 ∈ l := rd_mem (by omega) (by omega)
    obtain ⟨lo, a1, a2, a3⟩ := min_loop l hl (l.length - 1) (rd l 0) 1 (by omega) (by omega) hr (fun j h0 h1 => by rw [show j = 0 by omega]; omega)
    obtain ⟨hi, b1, b2, b3⟩ := max_loop l hl (l.length - 1) (rd l 0) 1 (by omega) (by omega) hr (fun j h0 h1 => by rw [show j = 0 by omega]; omega)
    refine ⟨(true, lo, hi), ?_, .inr ⟨rfl, a2, b2, fun x hx => ⟨a3 x hx, b3 x hx⟩⟩⟩
    unfold impl_spanned.f impl_between_int.f
    simp only [if_neg h0]
    refine Ev.bind (a := (lo, hi, true)) (Ev.bind (a := lo) ?_ (Ev.bind (a := hi) ?_ (Ev.now _))) (Ev.now _)
    · refine Ev.congr (fun k => ?_) a1
      unfold slices_Min_int_int.f
      rw [if_neg (by omega), if_pos (by omega)]
    · refine Ev.congr (fun k => ?_) b1
      unfold slices_Max_int_int.f
      rw [if_neg (by omega), if_pos (by omega)]
theorem Ev.uniq {α : Type} {g : Nat → Option α} {r r' : α} (h : Ev g r) (h' : Ev g r') : r = r' := by
  obtain ⟨K, hK⟩ := h
  obtain ⟨K', hK'⟩ := h'
  have a := hK (K + K') (by omega)
  have b := hK' (K + K') (by omega)
  exact Option.some.inj (a.symm.trans b)
/-- The join of two spans. -/
def spJoin (a b : Sp) : Sp := if a.1 = true then (if b.1 = true then (true, mn a.2.1 b.2.1, mx a.2.2 b.2.2) else a) else b
theorem hull_join {a b : Sp} (ha : spOk a = true) (hb : spOk b = true) : IsHull (wds a ++ wds b) (spJoin a b) := by
  obtain ⟨x, l, h⟩ := a
  obtain ⟨y, m, n⟩ := b
  cases x with
  | false =>
    have := hull_wds hb
    simpa [wds, spJoin] using this
  | true =>
    cases y with
    | false =>
      have := hull_wds ha
      simpa [wds, spJoin] using this
    | true =>
      have h1 := spOk_true ha
      have h2 := spOk_true hb
      refine .inr ⟨rfl, ?_, ?_, fun z hz => ?_⟩
      · simp [wds, mem_wl, spJoin]; unfold mn; omega
      · simp [wds, mem_wl, spJoin]; unfold mx; omega
      · simp [wds, mem_wl] at hz; simp [spJoin]; unfold mn mx; omega
theorem spJoin_ok {a b : Sp} (ha : spOk a = true) (hb : spOk b = true) : spOk (spJoin a b) = true := by
  obtain ⟨x, l, h⟩ := a
  obtain ⟨y, m, n⟩ := b
  cases x with
  | false => simpa [spJoin] using hb
  | true =>
    cases y with
    | false => simpa [spJoin] using ha
    | true =>
      have h1 := spOk_true ha
      have h2 := spOk_true hb
      exact spOk_mk (by simp; unfold mn; omega) (by simp; unfold mn mx; omega) (by simp; unfold mx; omega)
theorem implSpanJoin_ev (a b : Sp) : Ev (fun k => impl_SpanJoin.f k a.1 a.2.1 a.2.2 b.1 b.2.1 b.2.2) (if (spOk a && spOk b) = true then spJoin a b else spNone) := by
  unfold impl_SpanJoin.f
  simp only [bothOk_ev, Option.bind_some]
  by_cases h : (spOk a && spOk b) = true
  · have ha : spOk a = true := by simp_all
    have hb : spOk b = true := by simp_all
    have hA := wds_length ha
    have hB := wds_length hb
    simp only [h, if_true]
    refine Ev.bind (words_ev ha) (Ev.bind (words_ev hb) ?_)
    have hlt : (wds (a.1, a.2.1, a.2.2)).length + (wds (b.1, b.2.1, b.2.2)).length < 17592186044416 := by
      have e1 : (a.1, a.2.1, a.2.2) = a := rfl
      have e2 : (b.1, b.2.1, b.2.2) = b := rfl
      rw [e1, e2]; omega
    simp only [hlt, if_true]
    obtain ⟨s, hs, hh⟩ := spanned_ev (l := wds a ++ wds b) (by simp; omega)
    rw [IsHull.uniq (hull_join ha hb) hh (fun _ => Iff.rfl)]
    exact Ev.bind hs (Ev.now _)
  · simp only [h, if_neg, if_false]
    exact Ev.now _
end Go.Proofs.Ytekmapilhomdgaa.Pu

namespace Go.Proofs.Ytekmapilhomdgaa.Pu
open Go.RowKit Go.Proofs.Ytekmapilhomdgaa.P Go.Proofs.YtekmapilhomdgaaW.PrintWords Go.Proofs.YtekmapilhomdgaaW.PrintLast
set_option linter.unusedSimpArgs false
set_option linter.unusedVariables false
theorem rd_drop {l : List Int} {j : Int} (h0 : 0 ≤ j) (h1 : j < (l.length : Int)) : l.drop j.toNat = rd l j :: l.drop (j + 1).toNat := by
  rw [List.drop_eq_getElem_cons (by omega : j.toNat < l.length)]
  congr 1
  · unfold Go.Proofs.YtekmapilhomdgaaW.PrintWords.rd
    rw [List.getD_eq_getElem?_getD, List.getElem?_eq_getElem (by omega)]; rfl
  · congr 1; omega
theorem drop_all {l : List Int} {j : Int} (h : (l.length : Int) ≤ j) : l.drop j.toNat = [] := List.drop_eq_nil_of_le (by omega)
/-- What a list of results makes: all words, if one of them is none; else the smallest interval. -/
def DoRes (l : List Int) (s : Sp) : Prop := ((∃ x ∈ l, isW x = false) ∧ s = (true, -16, 15)) ∨ ((∀ x ∈ l, isW x = true) ∧ IsHull l s)
end Go.Proofs.Ytekmapilhomdgaa.Pu

namespace Go.Proofs.Ytekmapilhomdgaa.Pu
open Go.RowKit Go.Proofs.Ytekmapilhomdgaa.P Go.Proofs.YtekmapilhomdgaaW.PrintWords Go.Proofs.YtekmapilhomdgaaW.PrintLast
set_option linter.unusedSimpArgs false
set_option linter.unusedVariables false
theorem l1Of_ev (a b : Int) : spec_l1Of.f a b = some (if a > b then spNone else (true, a, b)) := by
  unfold spec_l1Of.f; by_cases h : a > b <;> simp [h, spNone]
theorem l1Some_ev (a : Bool) (l h : Int) : spec_l1Some.f a l h = some (a && spOk (a, l, h)) := by
  unfold spec_l1Some.f
  cases a with
  | false => simp
  | true => simp [specSpanOk_sp]
theorem IsHull.add {l : List Int} {s : Sp} (h : IsHull l s) (x y : Int) : IsHull (l ++ [x, y]) (if s.1 = true then (true, mn (mn s.2.1 x) y, mx (mx s.2.2 x) y) else (true, mn x y, mx x y)) := by
  rcases h with ⟨rfl, rfl⟩ | ⟨h1, h2, h3, h4⟩
  · refine .inr ⟨rfl, ?_, ?_, fun z hz => ?_⟩
    · simp [spNone]; unfold mn; omega
    · simp [spNone]; unfold mx; omega
    · simp at hz; simp [spNone]; unfold mn mx; omega
  · have h5 := h4 _ h2
    rw [if_pos h1]
    refine .inr ⟨rfl, ?_, ?_, fun z hz => ?_⟩
    · have : mn (mn s.2.1 x) y = s.2.1 ∨ mn (mn s.2.1 x) y = x ∨ mn (mn s.2.1 x) y = y := by unfold mn; omega
      rcases this with e | e | e <;> simp only [e] <;> simp [h2]
    · have : mx (mx s.2.2 x) y = s.2.2 ∨ mx (mx s.2.2 x) y = x ∨ mx (mx s.2.2 x) y = y := by unfold mx; omega
      rcases this with e | e | e <;> simp only [e] <;> simp [h3]
    · rcases List.mem_append.1 hz with hz | hz
      · have := h4 z hz; simp only; unfold mn mx; omega
      · simp at hz; simp only; unfold mn mx; omega
end Go.Proofs.Ytekmapilhomdgaa.Pu

namespace Go.Proofs.Ytekmapilhomdgaa.Pu
open Go.RowKit Go.Proofs.Ytekmapilhomdgaa.P Go.Proofs.YtekmapilhomdgaaW.PrintWords Go.Proofs.YtekmapilhomdgaaW.PrintLast
set_option linter.unusedSimpArgs false
set_option linter.unusedVariables false
theorem l71Some_ev (k : Nat) {b : List Int} (hb : Bytes b) (hl : b.length ≤ 1048576) {p : Int} (h0 : 0 ≤ p) (h1 : p + 10 ≤ PB) :
    ∃ (s : Sp) (p' : Int), spec_l71Some.f (k + 1) b p = some (s.1, s.2.1, s.2.2, p') ∧ p ≤ p' ∧ p' ≤ p + 8 ∧ s.1 = true ∧ spOk s = true := by
  obtain ⟨a, p1, e1, _, _, a0, a1⟩ := l71Word_ev k hb hl (p := p) h0 (by omega)
  obtain ⟨v2, e2, g2, g2', _⟩ := pick_ev k hb hl (p := p1) (by omega) (by omega) 4
  unfold spec_l71Some.f
  simp only [e1, e2, Option.bind_some, l1Of_ev]
  by_cases h : v2 = 0
  · rw [if_pos h, if_neg (by omega)]
    exact ⟨(true, a, a), _, rfl, by omega, by omega, rfl, spOk_mk a0 (by omega) a1⟩
  rw [if_neg h]
  obtain ⟨c, p3, e3, _, _, c0, c1⟩ := l71Word_ev k hb hl (p := p1 + 1) (by omega) (by omega)
  obtain ⟨v4, e4, g4, g4', _⟩ := pick_ev k hb hl (p := p3) (by omega) (by omega) 2
  simp only [e3, e4, Option.bind_some]
  by_cases h : v4 = 0
  · rw [if_pos h]
    obtain ⟨v5, e5, g5, g5', _⟩ := pick_ev k hb hl (p := p3 + 1) (by omega) (by omega) 5
    have := g5' (by omega)
    simp only [e5, Option.bind_some]
    rw [w64_id (n := a + v5) (by omega), w64_id (n := a + v5 - 2) (by omega)]
    have hd : -16 ≤ mn (mx (a + v5 - 2) (-16)) 15 ∧ mn (mx (a + v5 - 2) (-16)) 15 ≤ 15 := by unfold mn mx; omega
    generalize mn (mx (a + v5 - 2) (-16)) 15 = d at hd
    rw [if_neg (by unfold mn mx; omega)]
    exact ⟨(true, mn a d, mx a d), _, rfl, by omega, by omega, rfl, spOk_mk (by unfold mn; omega) (by unfold mn mx; omega) (by unfold mx; omega)⟩
  · rw [if_neg h, if_neg (by unfold mn mx; omega)]
    exact ⟨(true, mn a c, mx a c), _, rfl, by omega, by omega, rfl, spOk_mk (by unfold mn; omega) (by unfold mn mx; omega) (by unfold mx; omega)⟩
theorem l71Span_ev (k : Nat) {b : List Int} (hb : Bytes b) (hl : b.length ≤ 1048576) {p : Int} (h0 : 0 ≤ p) (h1 : p + 20 ≤ PB) :
    ∃ (s : Sp) (p' : Int), spec_l71Span.f (k + 1) b p = some (s.1, s.2.1, s.2.2, p') ∧ p ≤ p' ∧ p' ≤ p + 10 := by
  obtain ⟨v1, e1, g1, g1', _⟩ := pick_ev k hb hl (p := p) h0 (by omega) 24
  unfold spec_l71Span.f
  simp only [e1, Option.bind_some]
  by_cases h : v1 = 0
  · rw [if_pos h]; exact ⟨(false, 0, 0), _, rfl, by omega, by omega⟩
  rw [if_neg h]
  by_cases h : v1 = 1
  · rw [if_pos h]
    obtain ⟨v2, e2, g2, g2', _⟩ := pick_ev k hb hl (p := p + 1) (by omega) (by omega) 4
    simp only [e2, Option.bind_some]
    rw [if_pos g2, if_pos (by have := g2' (by omega); simp; omega)]
    exact ⟨(_, _, _), _, rfl, by omega, by omega⟩
  · rw [if_neg h]
    obtain ⟨s, p', e, h2, h3, _⟩ := l71Some_ev k hb hl (p := p + 1) (by omega) (by omega)
    simp only [e, Option.bind_some]
    exact ⟨s, p', rfl, by omega, by omega⟩
theorem DrawSpanJoin_ev (k : Nat) {l : List Int} (hb : Bytes l) : ∃ (a b : Sp), spec_DrawSpanJoin.f (k + 1) l = some (a.1, a.2.1, a.2.2, b.1, b.2.1, b.2.2) := by
  obtain ⟨b, e0, hb, hl⟩ := l6Open_ev hb
  obtain ⟨x, p2, e2, _, _⟩ := l71Span_ev k hb hl (p := 0) (by omega) (by unfold PB; omega)
  obtain ⟨y, p3, e3, _, _⟩ := l71Span_ev k hb hl (p := p2) (by omega) (by unfold PB; omega)
  unfold spec_DrawSpanJoin.f
  simp only [e0, e2, e3, Option.bind_some]
  exact ⟨x, y, rfl⟩
theorem DrawSpanWhen_ev (k : Nat) {l : List Int} (hb : Bytes l) : ∃ (op : Int) (a b : Sp) (yes : Bool), spec_DrawSpanWhen.f (k + 1) l = some (op, a.1, a.2.1, a.2.2, b.1, b.2.1, b.2.2, yes) := by
  obtain ⟨b, e0, hb, hl⟩ := l6Open_ev hb
  obtain ⟨v1, e1, g1, g1', _⟩ := pick_ev k hb hl (p := 0) (by omega) (by unfold PB; omega) 2
  obtain ⟨v2, e2, g2, g2', _⟩ := pick_ev k hb hl (p := 0 + 1) (by omega) (by unfold PB; omega) 24
  unfold spec_DrawSpanWhen.f
  simp only [e0, e1, e2, Option.bind_some]
  by_cases h : v2 = 0
  · rw [if_pos h]
    obtain ⟨v3, e3, g3, g3', _⟩ := pick_ev k hb hl (p := 0 + 1 + 1) (by omega) (by unfold PB; omega) 9
    obtain ⟨x, p4, e4, _, _⟩ := l71Span_ev k hb hl (p := 0 + 1 + 1 + 1) (by omega) (by unfold PB; omega)
    obtain ⟨y, p5, e5, _, _⟩ := l71Span_ev k hb hl (p := p4) (by omega) (by unfold PB; omega)
    obtain ⟨v6, e6, g6, g6', _⟩ := pick_ev k hb hl (p := p5) (by omega) (by unfold PB; omega) 2
    simp only [e3, e4, e5, e6, Option.bind_some]
    exact ⟨_, x, y, _, rfl⟩
  · rw [if_neg h]
    obtain ⟨x, p4, e4, _, _⟩ := l71Span_ev k hb hl (p := 0 + 1 + 1) (by omega) (by unfold PB; omega)
    obtain ⟨y, p5, e5, _, _⟩ := l71Span_ev k hb hl (p := p4) (by omega) (by unfold PB; omega)
    obtain ⟨v6, e6, g6, g6', _⟩ := pick_ev k hb hl (p := p5) (by omega) (by unfold PB; omega) 2
    simp only [e4, e5, e6, Option.bind_some]
    exact ⟨_, x, y, _, rfl⟩
end Go.Proofs.Ytekmapilhomdgaa.Pu

namespace Go.Proofs.Ytekmapilhomdgaa.Pu
open Go.RowKit Go.Proofs.Ytekmapilhomdgaa.P Go.Proofs.YtekmapilhomdgaaW.PrintWords Go.Proofs.YtekmapilhomdgaaW.PrintLast
set_option linter.unusedSimpArgs false
set_option linter.unusedVariables false
/-- The smallest interval with all of which P holds. -/
def HullP (P : Int → Prop) (s : Sp) : Prop := ((∀ x, ¬ P x) ∧ s = spNone) ∨ (s.1 = true ∧ P s.2.1 ∧ P s.2.2 ∧ ∀ x, P x → s.2.1 ≤ x ∧ x ≤ s.2.2)
theorem IsHull.toP {l : List Int} {s : Sp} (h : IsHull l s) : HullP (· ∈ l) s := by
  rcases h with ⟨rfl, rfl⟩ | h
  · exact .inl ⟨by simp, rfl⟩
  · exact .inr h
theorem HullP.uniq {P P' : Int → Prop} {s s' : Sp} (h : HullP P s) (h' : HullP P' s') (e : ∀ x, P x ↔ P' x) : s = s' := by
  rcases h with ⟨h0, rfl⟩ | ⟨h1, h2, h3, h4⟩ <;> rcases h' with ⟨g0, rfl⟩ | ⟨g1, g2, g3, g4⟩
  · rfl
  · exact absurd ((e _).2 g2) (h0 _)
  · exact absurd ((e _).1 h2) (g0 _)
  · obtain ⟨a, lo, hi⟩ := s
    obtain ⟨b, lo', hi'⟩ := s'
    simp only at *
    have a1 := h4 _ ((e _).2 g2)
    have a2 := h4 _ ((e _).2 g3)
    have a3 := g4 _ ((e _).1 h2)
    have a4 := g4 _ ((e _).1 h3)
    subst h1; subst g1
    have : lo = lo' := by omega
    have : hi = hi' := by omega
    simp [*]
theorem HullP.congr {P P' : Int → Prop} {s : Sp} (h : HullP P s) (e : ∀ x, P x ↔ P' x) : HullP P' s := by
  have : P = P' := funext fun x => propext (e x)
  rw [← this]; exact h
theorem HullP.ok {P : Int → Prop} {s : Sp} (h : HullP P s) (hw : ∀ x, P x → isW x = true) : spOk s = true := by
  obtain ⟨a, lo, hi⟩ := s
  rcases h with ⟨_, h⟩ | ⟨h1, h2, h3, h4⟩
  · rw [h]; rfl
  · simp only at h1 h2 h3 h4
    subst h1
    have a := (isW_iff _).1 (hw _ h2)
    have b := (isW_iff _).1 (hw _ h3)
    have c := h4 _ h2
    exact spOk_mk a.1 c.2 b.2
def spIn (a b : Sp) : Bool := spOk a && spOk b && (!a.1 || (b.1 && decide (b.2.1 ≤ a.2.1) && decide (a.2.2 ≤ b.2.2)))
theorem implSpanIn_ev (a b : Sp) : impl_SpanIn.f a.1 a.2.1 a.2.2 b.1 b.2.1 b.2.2 = some (spIn a b) := by
  obtain ⟨x, l, h⟩ := a
  obtain ⟨y, m, n⟩ := b
  unfold impl_SpanIn.f spIn
  simp only [bothOk_ev, Option.bind_some]
  by_cases h1 : (spOk (x, l, h) && spOk (y, m, n)) = true
  · rw [h1]
    by_cases h2 : x = true
    · by_cases h3 : y = true
      · by_cases h4 : l ≥ m
        · simp [h2, h3, h4, show m ≤ l from h4]
        · simp [h2, h3, h4, show ¬ m ≤ l from h4]
      · simp [h2, h3]
    · simp [h2]
  · simp [h1]
theorem spIn_of {P Q : Int → Prop} {a b : Sp} (ha : HullP P a) (hb : HullP Q b) (oa : spOk a = true) (ob : spOk b = true) (h : ∀ x, P x → Q x) : spIn a b = true := by
  obtain ⟨x, l, h1⟩ := a
  obtain ⟨y, m, n⟩ := b
  unfold spIn
  rw [oa, ob]
  rcases ha with ⟨_, e⟩ | ⟨a1, a2, a3, a4⟩
  · have : x = false := by have := congrArg Prod.fst e; simpa [spNone] using this
    subst this; simp
  · simp only at a1 a2 a3
    rcases hb with ⟨b0, _⟩ | ⟨b1, b2, b3, b4⟩
    · exact absurd (h _ a2) (b0 _)
    · simp only at b1 b4
      have c1 := b4 _ (h _ a2)
      have c2 := b4 _ (h _ a3)
      simp [b1, c1.1, c2.2]
theorem wds_join {a b : Sp} (ha : spOk a = true) (hb : spOk b = true) {x : Int} (hx : x ∈ wds a) : x ∈ wds (spJoin a b) := by
  obtain ⟨p, l, h⟩ := a
  obtain ⟨q, m, n⟩ := b
  cases p with
  | false => simp [wds] at hx
  | true =>
    cases q with
    | false => simpa [spJoin] using hx
    | true => simp [wds, spJoin, mem_wl] at *; unfold mn mx; omega
theorem DoRes.ok {l : List Int} {s : Sp} (h : DoRes l s) : spOk s = true := by
  rcases h with ⟨_, rfl⟩ | ⟨h1, h2⟩
  · decide
  · exact h2.toP.ok h1
end Go.Proofs.Ytekmapilhomdgaa.Pu

namespace Go.Proofs.Ytekmapilhomdgaa.Pu
open Go.RowKit Go.Proofs.Ytekmapilhomdgaa.P Go.Proofs.YtekmapilhomdgaaW.PrintWords Go.Proofs.YtekmapilhomdgaaW.PrintLast
set_option linter.unusedSimpArgs false
set_option linter.unusedVariables false
theorem specSpanMeet_ev (a b : Sp) : spec_SpanMeet.f a.1 a.2.1 a.2.2 b.1 b.2.1 b.2.2 = some (if (a.1 && spOk a && (b.1 && spOk b)) = true then (if mx a.2.1 b.2.1 > mn a.2.2 b.2.2 then spNone else (true, mx a.2.1 b.2.1, mn a.2.2 b.2.2)) else spNone) := by
  unfold spec_SpanMeet.f
  simp only [l1Some_ev, l1Of_ev, Option.bind_some]
  by_cases h1 : (a.1 && spOk a) = true
  · by_cases h2 : (b.1 && spOk b) = true
    · simp only [show (a.1, a.2.1, a.2.2) = a from rfl, show (b.1, b.2.1, b.2.2) = b from rfl, h1, h2, if_true, Bool.and_self]
    · simp only [show (a.1, a.2.1, a.2.2) = a from rfl, show (b.1, b.2.1, b.2.2) = b from rfl, h1, h2, if_true, if_false, Bool.and_false, Bool.true_and, Bool.false_eq_true, spNone]
  · simp only [show (a.1, a.2.1, a.2.2) = a from rfl, h1, if_false, Bool.false_and, Bool.false_eq_true, spNone]
end Go.Proofs.Ytekmapilhomdgaa.Pu

namespace Go.Proofs.Ytekmapilhomdgaa.Pu
open Go.RowKit Go.Proofs.Ytekmapilhomdgaa.P Go.Proofs.YtekmapilhomdgaaW.PrintWords Go.Proofs.YtekmapilhomdgaaW.PrintLast
set_option linter.unusedSimpArgs false
set_option linter.unusedVariables false
def relB (op : Int) (yes : Bool) (x y : Int) : Bool := ((impl_raw.v op x y).1 == 1) == yes
def inW (op : Int) (yes : Bool) (x : Int) (ys : List Int) : List (Int × Int) := (ys.filter (relB op yes x)).map fun y => (x, y)
def outW (op : Int) (yes : Bool) (xs ys : List Int) : List (Int × Int) := xs.flatMap fun x => inW op yes x ys
theorem inW_length (op : Int) (yes : Bool) (x : Int) (ys : List Int) : (inW op yes x ys).length ≤ ys.length := by
  unfold inW; rw [List.length_map]; exact List.length_filter_le _ _
theorem outW_length (op : Int) (yes : Bool) (ys : List Int) : ∀ xs : List Int, (outW op yes xs ys).length ≤ xs.length * ys.length
  | [] => by simp [outW]
  | x :: xs => by
    have h1 := inW_length op yes x ys
    have h2 := outW_length op yes ys xs
    have e : (outW op yes (x :: xs) ys).length = (inW op yes x ys).length + (outW op yes xs ys).length := by simp [outW]
    rw [e, List.length_cons, Nat.add_mul]; omega
def fsts (l : List (Int × Int)) : List Int := l.map Prod.fst
def snds (l : List (Int × Int)) : List Int := l.map Prod.snd
theorem when_inner (op : Int) (yes : Bool) (x : Int) (xs ys : List Int) (hx : xs.length ≤ 100) (hy : ys.length ≤ 100) (i : Int) (hi0 : 0 ≤ i) (hi : i < 100) (b : Sp) (r : Bool × Int × Int × Bool × Int × Int) (d : Nat) :
    ∀ (acc : List (Int × Int)) (j : Int), (ys.length : Int) - j = d → 0 ≤ j → acc.length + d ≤ 100000 →
      Ev (fun k => impl_SpanWhen.l0 k op yes (fsts (acc ++ inW op yes x (ys.drop j.toNat))) (snds (acc ++ inW op yes x (ys.drop j.toNat))) xs (xs.length : Int) (i + 1) b.1 b.2.1 b.2.2) r →
      Ev (fun k => impl_SpanWhen.l1 k op yes (fsts acc) (snds acc) x xs (xs.length : Int) i ys (ys.length : Int) j b.1 b.2.1 b.2.2) r := by
  induction d with
  | zero =>
    intro acc j hd hj hl h
    refine Ev.step (fun k => by simp only [impl_SpanWhen.l1]; rw [if_neg (by omega), w64_id (by omega)]) ?_
    rw [drop_all (by omega)] at h; simpa [inW] using h
  | succ d ih =>
    intro acc j hd hj hl h
    have hdr := rd_drop (l := ys) hj (by omega)
    have e1 : (fsts acc).length = acc.length := by simp [fsts]
    have e2 : (snds acc).length = acc.length := by simp [snds]
    by_cases hr : relB op yes x (rd ys j) = true
    · have hr' : (((impl_raw.v op x (rd ys j)).1 == 1) == yes) = true := hr
      refine Ev.step (f := fun k => impl_SpanWhen.l1 k op yes (fsts (acc ++ [(x, rd ys j)])) (snds (acc ++ [(x, rd ys j)])) x xs (xs.length : Int) i ys (ys.length : Int) (j + 1) b.1 b.2.1 b.2.2) (fun k => ?_) ?_
      · simp only [impl_SpanWhen.l1, impl_raw.f, Option.bind_some]; rw [if_pos (by omega), if_pos hj, if_pos (by omega), if_pos hr', if_pos (by omega), if_pos (by omega), w64_id (by omega)]; simp [fsts, snds]
      · refine ih _ _ (by omega) (by omega) (by simp; omega) ?_
        rw [hdr] at h
        simpa [inW, hr] using h
    · have hr' : ¬ (((impl_raw.v op x (rd ys j)).1 == 1) == yes) = true := hr
      refine Ev.step (f := fun k => impl_SpanWhen.l1 k op yes (fsts acc) (snds acc) x xs (xs.length : Int) i ys (ys.length : Int) (j + 1) b.1 b.2.1 b.2.2) (fun k => ?_) ?_
      · simp only [impl_SpanWhen.l1, impl_raw.f, Option.bind_some]; rw [if_pos (by omega), if_pos hj, if_pos (by omega), if_neg hr', w64_id (by omega)]
      · refine ih _ _ (by omega) (by omega) (by omega) ?_
        rw [hdr] at h
        simpa [inW, hr] using h
def whenEnd (k : Nat) (l : List (Int × Int)) : Option (Bool × Int × Int × Bool × Int × Int) := (impl_spanned.f k (fsts l)).bind fun p => ((impl_spanned.f k (snds l)).bind fun q => (some (p.1, p.2.1, p.2.2, q.1, q.2.1, q.2.2)))
theorem when_outer (op : Int) (yes : Bool) (xs : List Int) (hx : xs.length ≤ 100) (b : Sp) (hb : spOk b = true) (r : Bool × Int × Int × Bool × Int × Int) (d : Nat) :
    ∀ (acc : List (Int × Int)) (i : Int), (xs.length : Int) - i = d → 0 ≤ i → acc.length + d * 32 ≤ 90000 →
      Ev (fun k => whenEnd k (acc ++ outW op yes (xs.drop i.toNat) (wds b))) r →
      Ev (fun k => impl_SpanWhen.l0 k op yes (fsts acc) (snds acc) xs (xs.length : Int) i b.1 b.2.1 b.2.2) r := by
  have hw := wds_length hb
  induction d with
  | zero =>
    intro acc i hd hi hl h
    refine Ev.step (f := fun k => whenEnd k acc) (fun k => ?_) ?_
    · simp only [impl_SpanWhen.l0]; rw [if_neg (by omega)]; rfl
    · rw [drop_all (by omega)] at h; simpa [outW] using h
  | succ d ih =>
    intro acc i hd hi hl h
    refine Ev.step (f := fun k => (impl_Span_words.f k b.1 b.2.1 b.2.2).bind fun t => impl_SpanWhen.l1 k op yes (fsts acc) (snds acc) (rd xs i) xs (xs.length : Int) i t (t.length : Int) 0 b.1 b.2.1 b.2.2) (fun k => ?_) ?_
    · simp only [impl_SpanWhen.l0]; rw [if_pos (by omega), if_pos hi, if_pos (by omega)]
    · refine Ev.bind (words_ev hb) ?_
      have hwb : wds (b.1, b.2.1, b.2.2) = wds b := rfl
      rw [hwb]
      refine when_inner op yes (rd xs i) xs (wds b) hx (by omega) i hi (by omega) b r (wds b).length acc 0 (by omega) (by omega) (by omega) ?_
      have hin := inW_length op yes (rd xs i) (wds b)
      refine ih _ _ (by omega) (by omega) (by simp; omega) ?_
      have hdr := rd_drop (l := xs) hi (by omega)
      rw [hdr] at h
      simpa [outW] using h
/-- Which words of a, which words of b. -/
def WhenRes (op : Int) (yes : Bool) (a b s t : Sp) : Prop := HullP (fun x => x ∈ wds a ∧ ∃ y ∈ wds b, relB op yes x y = true) s ∧ HullP (fun y => y ∈ wds b ∧ ∃ x ∈ wds a, relB op yes x y = true) t
theorem mem_outW {op : Int} {yes : Bool} {xs ys : List Int} {p : Int × Int} : p ∈ outW op yes xs ys ↔ p.1 ∈ xs ∧ p.2 ∈ ys ∧ relB op yes p.1 p.2 = true := by
  obtain ⟨x, y⟩ := p
  simp only [outW, inW, List.mem_flatMap, List.mem_map, List.mem_filter, Prod.mk.injEq]
  constructor
  · rintro ⟨x', h1, y', ⟨h2, h3⟩, rfl, rfl⟩; exact ⟨h1, h2, h3⟩
  · rintro ⟨h1, h2, h3⟩; exact ⟨x, h1, y, ⟨h2, h3⟩, rfl, rfl⟩
theorem implSpanWhen_ev (op : Int) (a b : Sp) (yes : Bool) : ∃ s t : Sp, Ev (fun k => impl_SpanWhen.f k op a.1 a.2.1 a.2.2 b.1 b.2.1 b.2.2 yes) (s.1, s.2.1, s.2.2, t.1, t.2.1, t.2.2) ∧
    if (spOk a && spOk b && (decide (op = 5) || decide (op = 6))) = true then WhenRes op yes a b s t else s = spNone ∧ t = spNone := by
  have nope : ∀ (s t : Sp), Ev (fun k => impl_SpanWhen.j0 k op yes true s.1 s.2.1 s.2.2 t.1 t.2.1 t.2.2) (false, 0, 0, false, 0, 0) := fun s t => Ev.step (f := fun _ => some (false, 0, 0, false, 0, 0)) (fun k => by simp [impl_SpanWhen.j0]) (Ev.now _)
  unfold impl_SpanWhen.f
  simp only [bothOk_ev, Option.bind_some, show (a.1, a.2.1, a.2.2) = a from rfl, show (b.1, b.2.1, b.2.2) = b from rfl]
  by_cases h : (spOk a && spOk b) = true
  · have ha : spOk a = true := by simp_all
    have hb : spOk b = true := by simp_all
    have hA := wds_length ha
    have hB := wds_length hb
    have hO := outW_length op yes (wds b) (wds a)
    have hO2 : (wds a).length * (wds b).length ≤ 32 * 32 := Nat.mul_le_mul hA hB
    obtain ⟨s, h1, h2⟩ := spanned_ev (l := fsts (outW op yes (wds a) (wds b))) (by simp [fsts]; omega)
    obtain ⟨t, h3, h4⟩ := spanned_ev (l := snds (outW op yes (wds a) (wds b))) (by simp [snds]; omega)
    have fin : Ev (fun k => whenEnd k (outW op yes (wds a) (wds b))) (s.1, s.2.1, s.2.2, t.1, t.2.1, t.2.2) := by
      unfold whenEnd; exact Ev.bind h1 (Ev.bind h3 (Ev.now _))
    have main : Ev (fun k => impl_SpanWhen.j0 k op yes false a.1 a.2.1 a.2.2 b.1 b.2.1 b.2.2) (s.1, s.2.1, s.2.2, t.1, t.2.1, t.2.2) := by
      refine Ev.step (fun k => by simp only [impl_SpanWhen.j0, Bool.false_eq_true, if_false]; rfl) ?_
      refine Ev.bind (words_ev ha) ?_
      have e : wds (a.1, a.2.1, a.2.2) = wds a := rfl
      rw [e]
      exact when_outer op yes (wds a) (by omega) b hb _ (wds a).length [] 0 (by omega) (by omega) (by simp; omega) (by simpa using fin)
    have res : WhenRes op yes a b s t := by
      refine ⟨h2.toP.congr fun x => ?_, h4.toP.congr fun y => ?_⟩
      · simp only [fsts, List.mem_map]
        constructor
        · rintro ⟨p, hp, rfl⟩; obtain ⟨q1, q2, q3⟩ := mem_outW.1 hp; exact ⟨q1, _, q2, q3⟩
        · rintro ⟨q1, y, q2, q3⟩; exact ⟨(x, y), mem_outW.2 ⟨q1, q2, q3⟩, rfl⟩
      · simp only [snds, List.mem_map]
        constructor
        · rintro ⟨p, hp, rfl⟩; obtain ⟨q1, q2, q3⟩ := mem_outW.1 hp; exact ⟨q2, _, q1, q3⟩
        · rintro ⟨q1, x, q2, q3⟩; exact ⟨(x, y), mem_outW.2 ⟨q2, q1, q3⟩, rfl⟩
    by_cases h5 : op = 5
    · exact ⟨s, t, by simpa only [h, h5, if_true] using (h5 ▸ main), by rw [if_pos (by simp [ha, hb, h5])]; exact res⟩
    · by_cases h6 : op = 6
      · subst h6
        exact ⟨s, t, by simpa [h] using main, by rw [if_pos (by simp [ha, hb])]; exact res⟩
      · refine ⟨spNone, spNone, ?_, by rw [if_neg (by simp [h5, h6])]; exact ⟨rfl, rfl⟩⟩
        have e : (op != 6) = true := by simp [h6]
        simp only [h, h5, if_true, if_false, e]
        exact nope a b
  · refine ⟨spNone, spNone, ?_, by rw [if_neg (by simp only [Bool.and_eq_true] at *; exact fun e => h e.1)]; exact ⟨rfl, rfl⟩⟩
    simp only [h, if_false]
    exact nope a b
end Go.Proofs.Ytekmapilhomdgaa.Pu

namespace Go.Proofs.Ytekmapilhomdgaa.Pu
open Go.RowKit Go.Proofs.Ytekmapilhomdgaa.P Go.Proofs.YtekmapilhomdgaaW.PrintWords Go.Proofs.YtekmapilhomdgaaW.PrintLast
set_option linter.unusedSimpArgs false
set_option linter.unusedVariables false
/-- A span without what another one has, if that is one word, and an end. -/
def notV (a b : Sp) : Sp :=
  let lo := if b.2.1 = b.2.2 ∧ a.2.1 = b.2.1 then a.2.1 + 1 else a.2.1
  let hi := if b.2.1 = b.2.2 ∧ a.2.2 = b.2.1 then a.2.2 - 1 else a.2.2
  if lo > hi then spNone else (true, lo, hi)
theorem l1Not_ev (k : Nat) {a b : Sp} (ha : spOk a = true) (ha1 : a.1 = true) : spec_l1Not.f (k + 1) a.1 a.2.1 a.2.2 b.1 b.2.1 b.2.2 = some (notV a b) := by
  obtain ⟨x, l, h⟩ := a
  obtain ⟨y, m, n⟩ := b
  simp only at ha1
  subst ha1
  have hA := spOk_true ha
  have w1 : wrap64 (l + 1) = l + 1 := w64_id (by omega)
  have w2 : wrap64 (h - 1) = h - 1 := w64_id (by omega)
  unfold spec_l1Not.f notV
  simp only [spec_l1Not.j0, l1Of_ev, Option.bind_some, w1, w2]
  by_cases c1 : m = n
  · subst c1
    by_cases c2 : l = m
    · by_cases c3 : h = m
      · simp [c2, c3]
      · simp [c2, c3]
    · by_cases c3 : h = m
      · simp [c2, c3]
      · simp [c2, c3]
  · simp [c1]
/-- What the reference's SpanWhen comes to. -/
def whenV (op : Int) (a b : Sp) (yes : Bool) : Sp × Sp :=
  let x := if op = 6 then (if yes = true then (if mx a.2.1 b.2.1 > mn a.2.2 b.2.2 then spNone else (true, mx a.2.1 b.2.1, mn a.2.2 b.2.2)) else notV a b)
    else if yes = true then (if a.2.1 > mn a.2.2 (b.2.2 - 1) then spNone else (true, a.2.1, mn a.2.2 (b.2.2 - 1))) else (if mx a.2.1 b.2.1 > a.2.2 then spNone else (true, mx a.2.1 b.2.1, a.2.2))
  let y := if op = 6 then (if yes = true then (if mx a.2.1 b.2.1 > mn a.2.2 b.2.2 then spNone else (true, mx a.2.1 b.2.1, mn a.2.2 b.2.2)) else notV b a)
    else if yes = true then (if mx b.2.1 (a.2.1 + 1) > b.2.2 then spNone else (true, mx b.2.1 (a.2.1 + 1), b.2.2)) else (if b.2.1 > mn b.2.2 a.2.2 then spNone else (true, b.2.1, mn b.2.2 a.2.2))
  if (x.1 && y.1) = true then (x, y) else (spNone, spNone)
theorem specWhen_some (k : Nat) (op : Int) (ho : op = 5 ∨ op = 6) {a b : Sp} (ha : spOk a = true) (ha1 : a.1 = true) (hb : spOk b = true) (hb1 : b.1 = true) (yes : Bool) :
    spec_SpanWhen.f (k + 7) op a.1 a.2.1 a.2.2 b.1 b.2.1 b.2.2 yes = some ((whenV op a b yes).1.1, (whenV op a b yes).1.2.1, (whenV op a b yes).1.2.2, (whenV op a b yes).2.1, (whenV op a b yes).2.2.1, (whenV op a b yes).2.2.2) := by
  have n1 := fun k => l1Not_ev k (a := a) (b := b) ha ha1
  have n2 := fun k => l1Not_ev k (a := b) (b := a) hb hb1
  have hm := specSpanMeet_ev a b
  obtain ⟨x, l, h⟩ := a
  obtain ⟨y, m, n⟩ := b
  simp only at ha1 hb1
  subst ha1
  subst hb1
  have hA := spOk_true ha
  have hB := spOk_true hb
  have w1 : wrap64 (l + 1) = l + 1 := w64_id (by omega)
  have w2 : wrap64 (n - 1) = n - 1 := w64_id (by omega)
  simp only [ha, hb, Bool.and_self, if_true] at hm
  simp only at n1 n2
  unfold spec_SpanWhen.f whenV
  simp only [l1Some_ev, ha, hb, Bool.and_self, Option.bind_some, if_true]
  generalize notV (true, l, h) (true, m, n) = u at *
  generalize notV (true, m, n) (true, l, h) = v at *
  obtain ⟨ux, ul, uh⟩ := u
  obtain ⟨vx, vl, vh⟩ := v
  rcases ho with rfl | rfl
  · cases yes with
    | true =>
      simp only [spec_SpanWhen.j0, spec_SpanWhen.j1, spec_SpanWhen.j2, spec_SpanWhen.j3, spec_SpanWhen.j4, spec_SpanWhen.j5, n1, n2, Option.bind_some, l1Of_ev, w1, w2, if_true, Bool.false_eq_true, if_false, show ¬ ((5 : Int) = 6) by decide, Bool.not_true]
      by_cases c1 : l > mn h (n - 1)
      · simp [c1, spNone]
      · by_cases c2 : mx m (l + 1) > n
        · simp [c1, c2, spNone]
        · simp [c1, c2, spNone]
    | false =>
      simp only [spec_SpanWhen.j0, spec_SpanWhen.j1, spec_SpanWhen.j2, spec_SpanWhen.j3, spec_SpanWhen.j4, spec_SpanWhen.j5, n1, n2, Option.bind_some, l1Of_ev, w1, w2, if_true, Bool.false_eq_true, if_false, show ¬ ((5 : Int) = 6) by decide, Bool.not_false]
      by_cases c1 : mx l m > h
      · simp [c1, spNone]
      · by_cases c2 : m > mn n h
        · simp [c1, c2, spNone]
        · simp [c1, c2, spNone]
  · cases yes with
    | true =>
      simp only [spec_SpanWhen.j0, spec_SpanWhen.j1, spec_SpanWhen.j2, spec_SpanWhen.j3, spec_SpanWhen.j4, spec_SpanWhen.j5, n1, n2, hm, Option.bind_some, if_true, Bool.false_eq_true, if_false, show ¬ ((6 : Int) = 5) by decide, bne_self_eq_false]
      by_cases c1 : mx l m > mn h n
      · simp [c1, spNone]
      · simp [c1, spNone]
    | false =>
      simp only [spec_SpanWhen.j0, spec_SpanWhen.j1, spec_SpanWhen.j2, spec_SpanWhen.j3, spec_SpanWhen.j4, spec_SpanWhen.j5, n1, n2, Option.bind_some, if_true, Bool.false_eq_true, if_false, show ¬ ((6 : Int) = 5) by decide, bne_self_eq_false]
      cases ux <;> cases vx <;> simp [spNone]
theorem relB_word {op x y : Int} (yes : Bool) (hx : isW x = true) (hy : isW y = true) (ho : op = 5 ∨ op = 6) : relB op yes x y = true ↔ ((if op = 5 then decide (x < y) else decide (x = y)) = yes) := by
  unfold relB
  rw [raw_word hx hy]
  rcases ho with rfl | rfl
  · rw [if_pos (by simp [opOk]), rawI_5]
    by_cases h : x < y <;> cases yes <;> simp [h]
  · rw [if_pos (by simp [opOk]), rawI_6]
    by_cases h : x = y <;> cases yes <;> simp [h]
theorem HullP.mk {P : Int → Prop} {lo hi : Int} (h1 : P lo) (h2 : P hi) (h3 : ∀ x, P x → lo ≤ x ∧ x ≤ hi) : HullP P (true, lo, hi) := .inr ⟨rfl, h1, h2, h3⟩
theorem when_hull (op : Int) (ho : op = 5 ∨ op = 6) {a b : Sp} (ha : spOk a = true) (ha1 : a.1 = true) (hb : spOk b = true) (hb1 : b.1 = true) (yes : Bool) : WhenRes op yes a b (whenV op a b yes).1 (whenV op a b yes).2 := by
  obtain ⟨x, l, h⟩ := a
  obtain ⟨y, m, n⟩ := b
  simp only at ha1 hb1
  subst ha1
  subst hb1
  have hA := spOk_true ha
  have hB := spOk_true hb
  have rel : ∀ x y, l ≤ x ∧ x ≤ h → m ≤ y ∧ y ≤ n → (relB op yes x y = true ↔ ((if op = 5 then decide (x < y) else decide (x = y)) = yes)) := fun x y h1 h2 => relB_word yes (by rw [isW_iff]; omega) (by rw [isW_iff]; omega) ho
  -- the two sets in plain words
  have key : ∀ (R : Int → Int → Prop), (∀ x y, l ≤ x ∧ x ≤ h → m ≤ y ∧ y ≤ n → (relB op yes x y = true ↔ R x y)) → ∀ s t : Sp,
      HullP (fun x => (l ≤ x ∧ x ≤ h) ∧ ∃ y, (m ≤ y ∧ y ≤ n) ∧ R x y) s → HullP (fun y => (m ≤ y ∧ y ≤ n) ∧ ∃ x, (l ≤ x ∧ x ≤ h) ∧ R x y) t → WhenRes op yes (true, l, h) (true, m, n) s t := by
    intro R hR s t h1 h2
    refine ⟨h1.congr fun x => ?_, h2.congr fun y => ?_⟩
    · simp only [wds, if_true, mem_wl]
      constructor
      · rintro ⟨g1, y, g2, g3⟩; exact ⟨g1, y, g2, (hR x y g1 g2).2 g3⟩
      · rintro ⟨g1, y, g2, g3⟩; exact ⟨g1, y, g2, (hR x y g1 g2).1 g3⟩
    · simp only [wds, if_true, mem_wl]
      constructor
      · rintro ⟨g1, x, g2, g3⟩; exact ⟨g1, x, g2, (hR x y g2 g1).2 g3⟩
      · rintro ⟨g1, x, g2, g3⟩; exact ⟨g1, x, g2, (hR x y g2 g1).1 g3⟩
  have none_ : ∀ (P : Int → Prop), (∀ x, ¬ P x) → HullP P spNone := fun P h => .inl ⟨h, rfl⟩
  rcases ho with rfl | rfl
  · cases yes with
    | true =>
      refine key (fun x y => x < y) (fun x y h1 h2 => by rw [rel x y h1 h2]; simp) _ _ ?_ ?_
      all_goals
        simp only [whenV, show ¬ ((5 : Int) = 6) by decide, if_false, if_true]
        by_cases c1 : l > mn h (n - 1)
        · rw [if_pos c1]; simp only [spNone, Bool.false_and, Bool.false_eq_true, if_false]; exact none_ _ (by rintro x ⟨g1, y, g2, g3⟩; unfold mn at c1; omega)
        · have c2 : ¬ mx m (l + 1) > n := by unfold mn at c1; unfold mx; omega
          rw [if_neg c1, if_neg c2]
          simp only [Bool.and_self, if_true]
          refine HullP.mk ?_ ?_ ?_
          all_goals first
            | exact ⟨by unfold mn mx at *; omega, n, by omega, by unfold mn mx at *; omega⟩
            | exact ⟨by unfold mn mx at *; omega, l, by omega, by unfold mn mx at *; omega⟩
            | (rintro x ⟨g1, y, g2, g3⟩; unfold mn mx at *; omega)
    | false =>
      refine key (fun x y => y ≤ x) (fun x y h1 h2 => by rw [rel x y h1 h2]; simp) _ _ ?_ ?_
      all_goals
        simp only [whenV, show ¬ ((5 : Int) = 6) by decide, if_false, if_true, Bool.false_eq_true]
        by_cases c1 : mx l m > h
        · rw [if_pos c1]; simp only [spNone, Bool.false_and, Bool.false_eq_true, if_false]; exact none_ _ (by rintro x ⟨g1, y, g2, g3⟩; unfold mx at c1; omega)
        · have c2 : ¬ m > mn n h := by unfold mx at c1; unfold mn; omega
          rw [if_neg c1, if_neg c2]
          simp only [Bool.and_self, if_true]
          refine HullP.mk ?_ ?_ ?_
          all_goals first
            | exact ⟨by unfold mn mx at *; omega, m, by omega, by unfold mn mx at *; omega⟩
            | exact ⟨by unfold mn mx at *; omega, h, by omega, by unfold mn mx at *; omega⟩
            | (rintro x ⟨g1, y, g2, g3⟩; unfold mn mx at *; omega)
  · cases yes with
    | true =>
      refine key (fun x y => x = y) (fun x y h1 h2 => by rw [rel x y h1 h2]; simp) _ _ ?_ ?_
      all_goals
        simp only [whenV, if_true]
        by_cases c1 : mx l m > mn h n
        · rw [if_pos c1]; simp only [spNone, Bool.false_and, Bool.false_eq_true, if_false]; exact none_ _ (by rintro x ⟨g1, y, g2, g3⟩; unfold mn mx at c1; omega)
        · rw [if_neg c1]
          simp only [Bool.and_self, if_true]
          refine HullP.mk ?_ ?_ ?_
          · exact ⟨by unfold mn mx at *; omega, mx l m, by unfold mn mx at *; omega, rfl⟩
          · exact ⟨by unfold mn mx at *; omega, mn h n, by unfold mn mx at *; omega, rfl⟩
          · rintro x ⟨g1, y, g2, g3⟩; unfold mn mx at *; omega
    | false =>
      refine key (fun x y => x ≠ y) (fun x y h1 h2 => by rw [rel x y h1 h2]; simp) _ _ ?_ ?_
      all_goals
        simp only [whenV, if_true, Bool.false_eq_true, if_false, notV]
        by_cases e1 : m = n
        · by_cases e2 : l = h
          · by_cases e3 : l = m
            · have : ∀ x y, (l ≤ x ∧ x ≤ h) → (m ≤ y ∧ y ≤ n) → x = y := by intro x y _ _; omega
              rw [if_pos (show m = n ∧ l = m by omega), if_pos (show m = n ∧ h = m by omega), if_pos (show l = h ∧ m = l by omega), if_pos (show l = h ∧ n = l by omega), if_pos (show l + 1 > h - 1 by omega)]
              simp only [spNone, Bool.false_and, Bool.false_eq_true, if_false]
              first
                | exact none_ _ (by rintro x ⟨g1, y, g2, g3⟩; exact g3 (this x y g1 g2))
                | exact none_ _ (by rintro y ⟨g1, x, g2, g3⟩; exact g3 (this x y g2 g1))
            · simp only [show ¬ (m = n ∧ l = m) by omega, show ¬ (m = n ∧ h = m) by omega, show ¬ (l = h ∧ m = l) by omega, show ¬ (l = h ∧ n = l) by omega, if_false, show ¬ l > h by omega, show ¬ m > n by omega, Bool.and_self, if_true]
              refine HullP.mk ?_ ?_ ?_
              all_goals first
                | exact ⟨by omega, m, by omega, by omega⟩
                | exact ⟨by omega, l, by omega, by omega⟩
                | (rintro x ⟨g1, y, g2, g3⟩; omega)
          · simp only [show ¬ (l = h ∧ m = l) by omega, show ¬ (l = h ∧ n = l) by omega, if_false, show ¬ m > n by omega]
            have q : ∃ lo hi : Int, (if m = n ∧ l = m then l + 1 else l) = lo ∧ (if m = n ∧ h = m then h - 1 else h) = hi ∧ lo ≤ hi ∧ l ≤ lo ∧ hi ≤ h ∧ lo ≠ m ∧ hi ≠ m ∧ (l = m ∨ lo = l) ∧ (h = m ∨ hi = h) ∧ (l = m → lo = l + 1) ∧ (h = m → hi = h - 1) := by
              by_cases a1 : l = m
              · by_cases a2 : h = m
                · omega
                · exact ⟨_, _, rfl, rfl, by rw [if_pos ⟨e1, a1⟩, if_neg (by omega)]; omega⟩
              · by_cases a2 : h = m
                · exact ⟨_, _, rfl, rfl, by rw [if_neg (by omega), if_pos ⟨e1, a2⟩]; omega⟩
                · exact ⟨_, _, rfl, rfl, by rw [if_neg (by omega), if_neg (by omega)]; omega⟩
            obtain ⟨lo, hi, r1, r2, _, _, _, _, _, _, _, _, _⟩ := q
            rw [r1, r2]
            rw [if_neg (show ¬ lo > hi by omega)]
            simp only [Bool.and_self, if_true]
            refine HullP.mk ?_ ?_ ?_
            all_goals first
              | exact ⟨by omega, m, by omega, by omega⟩
              | exact ⟨by omega, lo, by omega, by omega⟩
              | (rintro x ⟨g1, y, g2, g3⟩; omega)
        · simp only [show ¬ (m = n ∧ l = m) by omega, show ¬ (m = n ∧ h = m) by omega, if_false, show ¬ l > h by omega]
          have q : ∃ lo hi : Int, (if l = h ∧ m = l then m + 1 else m) = lo ∧ (if l = h ∧ n = l then n - 1 else n) = hi ∧ lo ≤ hi ∧ m ≤ lo ∧ hi ≤ n ∧ (l = h → lo ≠ l ∧ hi ≠ l) ∧ (lo = m ∨ l = h ∧ m = l ∧ lo = m + 1) ∧ (hi = n ∨ l = h ∧ n = l ∧ hi = n - 1) := by
            by_cases a0 : l = h
            · by_cases a1 : m = l
              · by_cases a2 : n = l
                · omega
                · exact ⟨_, _, rfl, rfl, by rw [if_pos ⟨a0, a1⟩, if_neg (by omega)]; omega⟩
              · by_cases a2 : n = l
                · exact ⟨_, _, rfl, rfl, by rw [if_neg (by omega), if_pos ⟨a0, a2⟩]; omega⟩
                · exact ⟨_, _, rfl, rfl, by rw [if_neg (by omega), if_neg (by omega)]; omega⟩
            · exact ⟨_, _, rfl, rfl, by rw [if_neg (by omega), if_neg (by omega)]; omega⟩
          obtain ⟨lo, hi, r1, r2, _, _, _, _, _, _⟩ := q
          rw [r1, r2]
          rw [if_neg (show ¬ lo > hi by omega)]
          simp only [Bool.and_self, if_true]
          refine HullP.mk ?_ ?_ ?_
          all_goals first
            | (by_cases z : l = m <;> first | exact ⟨by omega, m, by omega, by omega⟩ | exact ⟨by omega, n, by omega, by omega⟩)
            | (by_cases z : h = m <;> first | exact ⟨by omega, m, by omega, by omega⟩ | exact ⟨by omega, n, by omega, by omega⟩)
            | (by_cases z : lo = l <;> first | exact ⟨by omega, l, by omega, by omega⟩ | exact ⟨by omega, h, by omega, by omega⟩)
            | (by_cases z : hi = l <;> first | exact ⟨by omega, l, by omega, by omega⟩ | exact ⟨by omega, h, by omega, by omega⟩)
            | (rintro x ⟨g1, y, g2, g3⟩; omega)
theorem WhenRes.uniq {op : Int} {yes : Bool} {a b s t s' t' : Sp} (h : WhenRes op yes a b s t) (h' : WhenRes op yes a b s' t') : s = s' ∧ t = t' := ⟨h.1.uniq h'.1 fun _ => Iff.rfl, h.2.uniq h'.2 fun _ => Iff.rfl⟩
theorem specWhen_none (k : Nat) (op : Int) (a b : Sp) (yes : Bool) (h : ¬ ((op = 5 ∨ op = 6) ∧ (a.1 = true ∧ spOk a = true) ∧ (b.1 = true ∧ spOk b = true))) : spec_SpanWhen.f (k + 7) op a.1 a.2.1 a.2.2 b.1 b.2.1 b.2.2 yes = some (false, 0, 0, false, 0, 0) := by
  unfold spec_SpanWhen.f
  simp only [l1Some_ev, Option.bind_some, show (a.1, a.2.1, a.2.2) = a from rfl, show (b.1, b.2.1, b.2.2) = b from rfl]
  have hj : spec_SpanWhen.j0 (k + 7) op yes true a.1 a.2.1 a.2.2 b.1 b.2.1 b.2.2 = some (false, 0, 0, false, 0, 0) := by simp [spec_SpanWhen.j0]
  by_cases hA : (a.1 && spOk a) = true
  · by_cases hB : (b.1 && spOk b) = true
    · have : op ≠ 5 ∧ op ≠ 6 := by
        simp only [Bool.and_eq_true] at hA hB
        constructor
        · rintro rfl; exact h ⟨.inl rfl, hA, hB⟩
        · rintro rfl; exact h ⟨.inr rfl, hA, hB⟩
      rw [if_pos hA, if_pos hB, if_neg this.1, show (op != 6) = true by simp [this.2]]
      exact hj
    · rw [if_pos hA, if_neg hB]; exact hj
  · rw [if_neg hA]; exact hj
/-- SpanWhen of both. -/
theorem spanWhen_both (op : Int) (a b : Sp) (yes : Bool) : ∃ s t : Sp, Ev (fun k => impl_SpanWhen.f k op a.1 a.2.1 a.2.2 b.1 b.2.1 b.2.2 yes) (s.1, s.2.1, s.2.2, t.1, t.2.1, t.2.2) ∧
    Ev (fun k => spec_SpanWhen.f k op a.1 a.2.1 a.2.2 b.1 b.2.1 b.2.2 yes) (s.1, s.2.1, s.2.2, t.1, t.2.1, t.2.2) ∧
    if (spOk a && spOk b && (decide (op = 5) || decide (op = 6))) = true then WhenRes op yes a b s t else s = spNone ∧ t = spNone := by
  obtain ⟨s, t, h1, h2⟩ := implSpanWhen_ev op a b yes
  refine ⟨s, t, h1, ?_, h2⟩
  by_cases h : (op = 5 ∨ op = 6) ∧ (a.1 = true ∧ spOk a = true) ∧ (b.1 = true ∧ spOk b = true)
  · obtain ⟨ho, ⟨ha1, ha⟩, hb1, hb⟩ := h
    rw [if_pos (by simp [ha, hb]; exact ho)] at h2
    obtain ⟨rfl, rfl⟩ := h2.uniq (when_hull op ho ha ha1 hb hb1 yes)
    exact Ev.of (fun k => spec_SpanWhen.mono _ _ _ _ _ _ _ _ k) (specWhen_some 0 op ho ha ha1 hb hb1 yes)
  · have hn := specWhen_none 0 op a b yes h
    have e : s = spNone ∧ t = spNone := by
      by_cases c : (spOk a && spOk b && (decide (op = 5) || decide (op = 6))) = true
      · rw [if_pos c] at h2
        simp only [Bool.and_eq_true, Bool.or_eq_true, decide_eq_true_eq] at c
        have hempty : ¬ (a.1 = true ∧ b.1 = true) := fun e => h ⟨c.2, ⟨e.1, c.1.1⟩, e.2, c.1.2⟩
        have hw : wds a = [] ∨ wds b = [] := by
          by_cases e1 : a.1 = true
          · right; unfold wds; rw [if_neg (fun e2 => hempty ⟨e1, e2⟩)]
          · left; unfold wds; rw [if_neg e1]
        have z : WhenRes op yes a b spNone spNone := by
          refine ⟨.inl ⟨?_, rfl⟩, .inl ⟨?_, rfl⟩⟩
          · rintro x ⟨g1, y, g2, _⟩
            rcases hw with e | e
            · rw [e] at g1; cases g1
            · rw [e] at g2; cases g2
          · rintro x ⟨g1, y, g2, _⟩
            rcases hw with e | e
            · rw [e] at g2; cases g2
            · rw [e] at g1; cases g1
        exact h2.uniq z
      · rw [if_neg c] at h2; exact h2
    obtain ⟨rfl, rfl⟩ := e
    exact Ev.of (fun k => spec_SpanWhen.mono _ _ _ _ _ _ _ _ k) hn
end Go.Proofs.Ytekmapilhomdgaa.Pu

namespace Go.Proofs.Ytekmapilhomdgaa.Pure
open Go.RowKit Go.Proofs.Ytekmapilhomdgaa.P Go.Proofs.Ytekmapilhomdgaa.Pu Go.Proofs.YtekmapilhomdgaaW.PrintWords Go.Proofs.YtekmapilhomdgaaW.PrintLast
theorem whenRes_ok {op : Int} {yes : Bool} {a b s t : Sp} (ha : spOk a = true) (hb : spOk b = true) (h : WhenRes op yes a b s t) : spOk s = true ∧ spOk t = true :=
  ⟨h.1.ok fun _ hx => wds_word ha hx.1, h.2.ok fun _ hx => wds_word hb hx.1⟩
theorem when_more {op : Int} {yes : Bool} {a b c d : Sp} (ha : spOk a = true) (hb : spOk b = true) (hc : spOk c = true) (hd : spOk d = true) {s t s' t' : Sp} (hs : WhenRes op yes a b s t) (ht : WhenRes op yes (spJoin a c) (spJoin b d) s' t') : spIn s s' = true ∧ spIn t t' = true := by
  have o1 := whenRes_ok ha hb hs
  have o2 := whenRes_ok (spJoin_ok ha hc) (spJoin_ok hb hd) ht
  refine ⟨spIn_of hs.1 ht.1 o1.1 o2.1 ?_, spIn_of hs.2 ht.2 o1.2 o2.2 ?_⟩
  · rintro x ⟨h1, y, h2, h3⟩; exact ⟨wds_join ha hc h1, y, wds_join hb hd h2, h3⟩
  · rintro x ⟨h1, y, h2, h3⟩; exact ⟨wds_join hb hd h1, y, wds_join ha hc h2, h3⟩
theorem FnWhenMore : laws_FnWhenMore.Pure := by
  intro l0 l1 _ _ w0 _ _ w1
  suffices h : ∀ t, Ev (fun k => laws_FnWhenMore.j0 k l0 l1 t) true by
    refine Ev.rounds (g := fun k => laws_FnWhenMore.f k l0 l1) ?_
    unfold laws_FnWhenMore.f
    by_cases hc : (l0.length : Int) > 1048576
    · simp only [hc, if_true]; exact h _
    · simp only [hc, if_false]; exact h _
  intro t
  cases t with
  | true => exact Ev.step (f := fun _ => some true) (fun k => by simp [laws_FnWhenMore.j0]) (Ev.now _)
  | false =>
    obtain ⟨op, a, b, yes, e1⟩ := DrawSpanWhen_ev 0 (Bytes.of_wf w0)
    obtain ⟨c, d, e2⟩ := DrawSpanJoin_ev 0 (Bytes.of_wf w1)
    have E1 := Ev.of (fun k => spec_DrawSpanWhen.mono _ k) e1
    have E2 := Ev.of (fun k => spec_DrawSpanJoin.mono _ k) e2
    obtain ⟨s, t, hs1, hs2, hs3⟩ := spanWhen_both op a b yes
    refine Ev.step (fun k => by simp only [laws_FnWhenMore.j0, Bool.false_eq_true, if_false]; rfl) ?_
    refine Ev.bind E1 (Ev.bind E2 (Ev.bind hs1 (Ev.bind hs2 ?_)))
    have again : Ev (fun k => laws_FnWhenMore.j1 k op yes true a.1 a.2.1 a.2.2 b.1 b.2.1 b.2.2 c.1 c.2.1 c.2.2 d.1 d.2.1 d.2.2 s.1 s.2.1 s.2.2 t.1 t.2.1 t.2.2 s.1 s.2.1 s.2.2 t.1 t.2.1 t.2.2) true := by
      exact Ev.step (f := fun _ => some true) (fun k => by simp [laws_FnWhenMore.j1]) (Ev.now _)
    simp only [specSpanOk_sp, Option.bind_some, show (a.1, a.2.1, a.2.2) = a from rfl, show (b.1, b.2.1, b.2.2) = b from rfl, show (c.1, c.2.1, c.2.2) = c from rfl, show (d.1, d.2.1, d.2.2) = d from rfl, beq_self_eq_true, Bool.not_true, Bool.or_false, Bool.false_eq_true, if_false]
    by_cases ha : spOk a = true
    · by_cases hb : spOk b = true
      · by_cases hc : spOk c = true
        · by_cases hd : spOk d = true
          · simp only [ha, hb, hc, hd, if_true, Bool.not_true]
            obtain ⟨s', t', ht1, _, ht3⟩ := spanWhen_both op (spJoin a c) (spJoin b d) yes
            have hin : spIn s s' = true ∧ spIn t t' = true := by
              by_cases ho : (decide (op = 5) || decide (op = 6)) = true
              · rw [if_pos (by simp only [ha, hb, ho, Bool.and_self])] at hs3
                rw [if_pos (by simp only [spJoin_ok ha hc, spJoin_ok hb hd, ho, Bool.and_self])] at ht3
                exact when_more ha hb hc hd hs3 ht3
              · rw [if_neg (by simp only [ha, hb, Bool.true_and]; exact ho)] at hs3
                rw [if_neg (by simp only [spJoin_ok ha hc, spJoin_ok hb hd, Bool.true_and]; exact ho)] at ht3
                obtain ⟨rfl, rfl⟩ := hs3
                obtain ⟨rfl, rfl⟩ := ht3
                exact ⟨by decide, by decide⟩
            have j1 := implSpanJoin_ev a c
            have j2 := implSpanJoin_ev b d
            rw [if_pos (by simp [ha, hc])] at j1
            rw [if_pos (by simp [hb, hd])] at j2
            refine Ev.step (fun k => by simp only [laws_FnWhenMore.j1, Bool.false_eq_true, if_false]; rfl) ?_
            refine Ev.bind j1 (Ev.bind j2 (Ev.bind ht1 ?_))
            simp only [implSpanIn_ev, Option.bind_some, hin.1, hin.2, if_true]
            exact Ev.now _
          · simp only [ha, hb, hc, hd, if_true, Bool.not_false]; exact again
        · simp only [ha, hb, hc, if_true, if_false, Bool.false_eq_true]; exact again
      · simp only [ha, hb, if_true, if_false, Bool.false_eq_true]; exact again
    · simp only [ha, if_false, Bool.false_eq_true]; exact again
end Go.Proofs.Ytekmapilhomdgaa.Pure

