/- FnExactSpanDo: for all arguments the program's SpanDo returns what the reference's returns. No conditions. This text: what is left of it without Go. -/
import Derived.Test.YtekmapilhomdgaaV0
import Derived.Test.YtekmapilhomdgaaPx13
import Derived.Test.YtekmapilhomdgaaPx15
import Derived.Test.YtekmapilhomdgaaPx17
import Derived.Test.YtekmapilhomdgaaPx19
import Derived.Test.YtekmapilhomdgaaPx2
import Derived.Test.YtekmapilhomdgaaPx21
import Derived.Test.YtekmapilhomdgaaPx22
import Derived.Test.YtekmapilhomdgaaPx23
import Derived.Test.YtekmapilhomdgaaPx24
import Derived.Test.YtekmapilhomdgaaPx25
import Derived.Test.YtekmapilhomdgaaPx27
import Derived.Test.YtekmapilhomdgaaPx29
import Derived.Test.YtekmapilhomdgaaPx3
import Derived.Test.YtekmapilhomdgaaPx30
import Derived.Test.YtekmapilhomdgaaPx31
import Derived.Test.YtekmapilhomdgaaPx32
import Derived.Test.YtekmapilhomdgaaPx33
import Derived.Test.YtekmapilhomdgaaPx34
import Derived.Test.YtekmapilhomdgaaPx35
import Derived.Test.YtekmapilhomdgaaPx5
set_option linter.unusedVariables false
set_option linter.unusedSimpArgs false
namespace Go.Proofs.YtekmapilhomdgaaW.PrintWords
open Go.RowKit

section
variable {P : Program} {ops : Array Oper} {rest : List Oper} {o : Oper} {a : Act} {Q : Exit → Act → World → Prop}

end

section
variable {P : Program}
end
section
variable {P : Program} {ops : Array Oper} {rest : List Oper} {o : Oper} {a : Act} {Q : Exit → Act → World → Prop}
end

section
variable {P : Program} {ops : Array Oper} {rest : List Oper} {o : Oper} {a : Act} {Q : Exit → Act → World → Prop}
end

theorem Ev.now {α : Type} (r : α) : Ev (fun _ => some r) r := ⟨0, fun _ _ => rfl⟩
theorem Ev.rounds {α : Type} {g : Nat → Option α} {r : α} (h : Ev g r) : ∃ k, g k = some r := by
  obtain ⟨K, h⟩ := h
  exact ⟨K, h K (Nat.le_refl _)⟩
section
variable {P : Program} {ops : Array Oper} {o : Oper} {a : Act} {Q : Exit → Act → World → Prop} {K : Act → World → Prop}
end
section
variable {α : Type} {enc : α → Value} {d : α}
end
section
variable {α : Type} {P : Program} {ops : Array Oper} {rest : List Oper} {o : Oper} {a : Act} {Q : Exit → Act → World → Prop}
end

section
variable {P : Program}
end
section
variable {α : Type} {R R' : α → List Value → Prop} {e : TypeId} {size : Nat} {w w1 : World} {base : Nat} {v : Value} {ps : List α}
end
section
variable {P : Program} {ops : Array Oper} {rest : List Oper} {o : Oper} {a : Act} {Q : Exit → Act → World → Prop} {α : Type} {R : α → List Value → Prop}
end
section
variable {P : Program} {ops : Array Oper} {o : Oper} {a : Act} {Q : Exit → Act → World → Prop} {K : Act → World → Prop} {α : Type} {R : α → List Value → Prop}
end
section
variable {α : Type} {P : Program}
end

section
variable {P : Program} {ops : Array Oper} {rest : List Oper} {o : Oper} {a : Act} {Q : Exit → Act → World → Prop}
end
namespace Kd
section
variable {α : Type} {d : Kd α} {e : Nat} {w w1 : World} {base : Nat} {ok ok' : Nat → Prop} {v : Value} {xs : List α}
end

section
variable {P : Program} {ops : Array Oper} {rest : List Oper} {o : Oper} {a : Act} {Q : Exit → Act → World → Prop} {α : Type}
end
section
variable {P : Program} {ops : Array Oper} {o : Oper} {a : Act} {Q : Exit → Act → World → Prop} {Kc : Act → World → Prop} {α : Type}
end
end Kd
namespace Kd
/-- F says the more, the more its argument says. -/
structure Mono {α β : Type} (F : Kd α → Kd β) : Prop where
  sz : ∀ d d' : Kd α, d.sz = d'.sz → (F d).sz = (F d').sz
  K : ∀ d d' : Kd α, d.sz = d'.sz → (∀ w x cs, d.K w x cs → d'.K w x cs) → ∀ w x cs, (F d).K w x cs → (F d').K w x cs
  M : ∀ d d' : Kd α, d.sz = d'.sz → (∀ w base ok x cs, d.M w base ok x cs → d'.M w base ok x cs) → ∀ w base ok x cs, (F d).M w base ok x cs → (F d').M w base ok x cs
section
variable {α : Type} {F : Kd α → Kd α} {sz : Nat} {E : List Nat} {hs : ∀ n, (upto F sz E n).sz = sz} {hE : ∀ n q, q ∈ (upto F sz E n).E → q ∈ E}
end
end Kd
namespace Kd
end Kd
namespace Kd
section
variable {α β : Type} {d : Kd α} {d' : Kd β} {e e' : Nat} {w w1 W : World} {base b b' : Nat} {ok ok' okv oku : Nat → Prop} {v u : Value} {xs : List α} {ys : List β}
end
section
variable {w W : World} {A : Option Addr} {n : Nat}
variable {α : Type} {enc : α → Value} {h1 : ∀ x, (enc x).oneCell' = true} {e base g cap : Nat} {ok : Nat → Prop} {xs : List α}
end

section
variable {P : Program} {ops : Array Oper} {rest : List Oper} {o : Oper} {a : Act} {Q : Exit → Act → World → Prop}
variable {α : Type}
end
end Kd
section
variable {P : Program}
end
section
variable {w w1 : World} {base n size : Nat} {e : TypeId} {v : Value} {xs : List Value}
end
section
variable {P : Program}
end
namespace Kd
section
variable {α : Type} {d : Kd α} {e : Nat} {w w1 W : World} {base : Nat} {ok ok' : Nat → Prop} {v : Value} {xs : List α}
end
section
variable {P : Program} {ops : Array Oper} {rest : List Oper} {o : Oper} {a : Act} {Q' : Exit → Act → World → Prop} {Kc : Act → World → Prop} {α : Type}
end
end Kd
namespace Kd
section
variable {α : Type} {d : Kd α} {e e' : Nat} {w w1 W : World} {base : Nat} {ok : Nat → Prop} {u v : Value} {xs : List α}
end
end Kd
namespace Kd
section
variable {α : Type} {d : Kd α} {e base g n cap : Nat} {ok okp : Nat → Prop} {W : World} {xs : List α}
end
end Kd
namespace Kd
section
variable {α : Type} {F : Kd α → Kd α} {sz : Nat} {E : List Nat} {hs : ∀ n, (upto F sz E n).sz = sz} {hE : ∀ n q, q ∈ (upto F sz E n).E → q ∈ E}
end
end Kd
namespace Kd
section
variable {P : Program} {ops : Array Oper} {rest : List Oper} {o : Oper} {a : Act} {Q : Exit → Act → World → Prop} {α : Type}
end
end Kd
namespace Kd
section
variable {P : Program} {ops : Array Oper} {rest : List Oper} {o : Oper} {a : Act} {Q : Exit → Act → World → Prop} {α : Type}
end
end Kd
namespace Kd
section
variable {α : Type} {k : Kd α} {w : World} {A : Option Addr} {xs : List α} {m c : Nat}
end
end Kd
section
variable {P : Program}
end
namespace Kd
section
variable {α β : Type} {d : Kd α} {d' : Kd β} {e e' base base' n : Nat} {ok ok' : Nat → Prop} {w W w1 W1 : World} {v u : Value} {xs : List α} {ys : List β} {A : Option Addr} {c : Nat}
end
section
variable {α : Type} {enc : α → Value} {h1 : ∀ x, (enc x).oneCell' = true} {w W : World} {A : Option Addr} {n g : Nat} {xs : List α}
end
end Kd
namespace Kd
section
variable {α : Type} {d : Kd α} {e base g : Nat} {ok : Nat → Prop} {w w1 : World} {v : Value} {xs : List α} {o : Obj}
end
end Kd
section
variable {P : Program} {ops : Array Oper} {rest : List Oper} {o : Oper} {a : Act} {Q : Exit → Act → World → Prop}
end
namespace Kd
section
variable {α : Type} {enc : α → Value} {h1 : ∀ x, (enc x).oneCell' = true} {e base g n cap : Nat} {ok : Nat → Prop} {W : World} {xs : List α}
end
end Kd
section
variable {P : Program} {ops : Array Oper} {rest : List Oper} {o : Oper} {a : Act} {Q : Exit → Act → World → Prop}
end
namespace Kd
section
variable {α : Type} {enc : α → Value} {h1 : ∀ x, (enc x).oneCell' = true} {e base g n cap : Nat} {ok : Nat → Prop} {W : World} {xs : List α}
end
end Kd
section
variable {P : Program} {ops : Array Oper} {rest : List Oper} {o : Oper} {a : Act} {Q : Exit → Act → World → Prop} {W : World}
end
section
variable {P : Program} {ops : Array Oper} {o : Oper} {a : Act} {Q : Exit → Act → World → Prop} {Kc : Act → World → Prop}
namespace Kd
variable {α : Type}
end Kd
end
section
variable {P : Program} {tmps : Array Value} {w : World}
end
namespace Kd
section
variable {P : Program} {α : Type}
end
section
variable {P : Program} {ops : Array Oper} {rest : List Oper} {o : Oper} {a : Act} {Q : Exit → Act → World → Prop} {Kc : Act → World → Prop} {α : Type}
end
end Kd

end Go.Proofs.YtekmapilhomdgaaW.PrintWords

namespace Go.Proofs.YtekmapilhomdgaaW.PrintWords
open Go.RowKit
namespace Foot
variable {P Q : World → Prop} {W W1 : World} {ok ok' : Nat → Prop}
theorem now (h : Foot P W ok) : P W := h W (fun _ _ _ => rfl)
end Foot
namespace Kd
section
variable {α β : Type} {d : Kd α} {e base n n' cc g N : Nat} {ok ok' okp S : Nat → Prop} {w w0 w1 W W1 : World} {A A' : Option Addr} {u v v1 : Value} {xs : List α} {xs' : List β} {d' : Kd β} {x : α} {c : List Value}
end
end Kd
end Go.Proofs.YtekmapilhomdgaaW.PrintWords

namespace Go.Proofs.Ytekmapilhomdgaa.Pu
open Go.RowKit Go.Proofs.Ytekmapilhomdgaa.P Go.Proofs.YtekmapilhomdgaaW.PrintWords Go.Proofs.YtekmapilhomdgaaW.PrintLast
set_option linter.unusedSimpArgs false
set_option linter.unusedVariables false

def isW (n : Int) : Bool := decide (-16 ≤ n ∧ n ≤ 15)
theorem isW_iff (n : Int) : isW n = true ↔ -16 ≤ n ∧ n ≤ 15 := by simp [isW]
theorem l6In_ev (a b c : Int) : spec_l6In.f a b c = some (decide (b ≤ a ∧ a ≤ c)) := by
  unfold spec_l6In.f
  by_cases h : a ≥ b
  · rw [if_pos h]; congr 1; simp [show b ≤ a from h]
  · rw [if_neg h]; congr 1; simp [show ¬ b ≤ a from h]
theorem l1Word_ev (a : Int) : spec_l1Word.f a = some (isW a) := by unfold spec_l1Word.f; rw [l6In_ev]; rfl
theorem isWord_ev (a : Int) : impl_isWord.f a = some (isW a) := by
  unfold impl_isWord.f isW
  by_cases h : a ≥ -16
  · rw [if_pos h]; congr 1; simp [show -16 ≤ a from h]
  · rw [if_neg h]; congr 1; simp [show ¬ -16 ≤ a from h]
/-- What an operation gives ahead of wrapping. -/
def rawI (op a b : Int) : Int :=
  if op = 1 then a + b else if op = 2 then a - b else if op = 3 then a * b else if op = 4 then Int.tdiv a b
  else if op = 5 then (if a < b then 1 else 0) else if op = 6 then (if a = b then 1 else 0) else 0
def opOk (op b : Int) : Bool := decide (1 ≤ op ∧ op ≤ 6) && !(decide (op = 4) && decide (b = 0))
theorem rawI_6 (a b : Int) : rawI 6 a b = if a = b then 1 else 0 := rfl
theorem w64_small {n : Int} (h : -9223372036854775808 ≤ n ∧ n ≤ 9223372036854775807) : wrap64 n = n := by unfold wrap64; omega
theorem isW_mul {a b : Int} (ha : isW a = true) (hb : isW b = true) : -256 ≤ a * b ∧ a * b ≤ 256 := by
  rw [isW_iff] at ha hb
  have h1 : (a + 16) * (b + 16) ≥ 0 := Int.mul_nonneg (by omega) (by omega)
  have h2 : (16 - a) * (16 - b) ≥ 0 := Int.mul_nonneg (by omega) (by omega)
  have h3 : (a + 16) * (16 - b) ≥ 0 := Int.mul_nonneg (by omega) (by omega)
  have h4 : (16 - a) * (b + 16) ≥ 0 := Int.mul_nonneg (by omega) (by omega)
  have e1 : (a + 16) * (b + 16) = a * b + 16 * a + 16 * b + 256 := by rw [Int.add_mul, Int.mul_add, Int.mul_add]; omega
  have e2 : (16 - a) * (16 - b) = a * b - 16 * a - 16 * b + 256 := by rw [Int.sub_mul, Int.mul_sub, Int.mul_sub]; omega
  have e3 : (a + 16) * (16 - b) = -(a * b) + 16 * a - 16 * b + 256 := by rw [Int.add_mul, Int.mul_sub, Int.mul_sub]; omega
  have e4 : (16 - a) * (b + 16) = -(a * b) - 16 * a + 16 * b + 256 := by rw [Int.sub_mul, Int.mul_add, Int.mul_add]; omega
  omega
theorem isW_div {a b : Int} (ha : isW a = true) (hb : isW b = true) : -16 ≤ Int.tdiv a b ∧ Int.tdiv a b ≤ 16 := by
  rw [isW_iff] at ha
  have := Int.natAbs_tdiv_le_natAbs a b
  omega
theorem raw_word {op a b : Int} (ha : isW a = true) (hb : isW b = true) : impl_raw.v op a b = if opOk op b = true then (rawI op a b, true) else (0, false) := by
  have hm := isW_mul ha hb
  have hd := isW_div ha hb
  rw [isW_iff] at ha hb
  unfold impl_raw.v rawI opOk
  by_cases h1 : op = 1
  · subst h1; simp [w64_small (show -9223372036854775808 ≤ a + b ∧ a + b ≤ 9223372036854775807 by omega)]
  by_cases h2 : op = 2
  · subst h2; simp [w64_small (show -9223372036854775808 ≤ a - b ∧ a - b ≤ 9223372036854775807 by omega)]
  by_cases h3 : op = 3
  · subst h3; simp [w64_small (show -9223372036854775808 ≤ a * b ∧ a * b ≤ 9223372036854775807 by omega)]
  by_cases h4 : op = 4
  · subst h4
    by_cases h : b = 0
    · simp [h]
    · simp [h, w64_small (show -9223372036854775808 ≤ Int.tdiv a b ∧ Int.tdiv a b ≤ 9223372036854775807 by omega)]
  by_cases h5 : op = 5
  · subst h5; simp
  by_cases h6 : op = 6
  · subst h6; simp
  have : ¬ (1 ≤ op ∧ op ≤ 6) := by omega
  simp [h1, h2, h3, h4, h5, h6, this]
theorem l1Raw_ev {op a b : Int} (ha : isW a = true) (hb : isW b = true) (h : ¬ (op = 4 ∧ b = 0)) : spec_l1Raw.f op a b = some (rawI op a b) := by
  have hm := isW_mul ha hb
  have hd := isW_div ha hb
  rw [isW_iff] at ha hb
  unfold spec_l1Raw.f rawI
  by_cases h1 : op = 1
  · subst h1; simp [w64_small (show -9223372036854775808 ≤ a + b ∧ a + b ≤ 9223372036854775807 by omega)]
  by_cases h2 : op = 2
  · subst h2; simp [w64_small (show -9223372036854775808 ≤ a - b ∧ a - b ≤ 9223372036854775807 by omega)]
  by_cases h3 : op = 3
  · subst h3; simp [w64_small (show -9223372036854775808 ≤ a * b ∧ a * b ≤ 9223372036854775807 by omega)]
  by_cases h4 : op = 4
  · subst h4
    have hb0 : ¬ b = 0 := fun e => h ⟨rfl, e⟩
    simp [hb0, w64_small (show -9223372036854775808 ≤ Int.tdiv a b ∧ Int.tdiv a b ≤ 9223372036854775807 by omega)]
  by_cases h5 : op = 5
  · subst h5; by_cases h : a < b <;> simp [h]
  by_cases h6 : op = 6
  · subst h6; by_cases h : a = b <;> simp [h]
  simp [h1, h2, h3, h4, h5, h6]
end Go.Proofs.Ytekmapilhomdgaa.Pu

namespace Go.Proofs.Ytekmapilhomdgaa.Pu
open Go.RowKit Go.Proofs.Ytekmapilhomdgaa.P Go.Proofs.YtekmapilhomdgaaW.PrintWords Go.Proofs.YtekmapilhomdgaaW.PrintLast
set_option linter.unusedSimpArgs false
set_option linter.unusedVariables false

def Bytes (b : List Int) : Prop := ∀ x ∈ b, 0 ≤ x ∧ x ≤ 255
theorem Bytes.take {b : List Int} (h : Bytes b) (n : Nat) : Bytes (b.take n) := fun x hx => h x (List.mem_of_mem_take hx)
theorem w64_id {n : Int} (h : -9223372036854775808 ≤ n ∧ n ≤ 9223372036854775807) : wrap64 n = n := by unfold wrap64; omega
end Go.Proofs.Ytekmapilhomdgaa.Pu

namespace Go.Proofs.Ytekmapilhomdgaa.Pu
open Go.RowKit Go.Proofs.Ytekmapilhomdgaa.P Go.Proofs.YtekmapilhomdgaaW.PrintWords Go.Proofs.YtekmapilhomdgaaW.PrintLast
set_option linter.unusedSimpArgs false
set_option linter.unusedVariables false
theorem specSpanOk_ev (a : Bool) (l h : Int) : spec_SpanOk.f a l h = some (if a = true then isW l && isW h && decide (l ≤ h) else decide (l = 0) && decide (h = 0)) := by
  unfold spec_SpanOk.f
  simp only [l1Word_ev, Option.bind_some]
  by_cases ha : a = true
  · subst ha
    by_cases hl : isW l = true
    · by_cases hh : isW h = true
      · simp [hl, hh]
      · simp [hl, hh]
    · simp [hl]
  · simp [ha]
    by_cases h1 : l = 0 <;> by_cases h2 : h = 0 <;> simp [h1, h2]
end Go.Proofs.Ytekmapilhomdgaa.Pu

namespace Go.Proofs.Ytekmapilhomdgaa.Pu
open Go.RowKit Go.Proofs.Ytekmapilhomdgaa.P Go.Proofs.YtekmapilhomdgaaW.PrintWords Go.Proofs.YtekmapilhomdgaaW.PrintLast
set_option linter.unusedSimpArgs false
set_option linter.unusedVariables false
abbrev Sp := Bool × Int × Int
def spOk (s : Sp) : Bool := if s.1 = true then isW s.2.1 && isW s.2.2 && decide (s.2.1 ≤ s.2.2) else decide (s.2.1 = 0) && decide (s.2.2 = 0)
def spNone : Sp := (false, 0, 0)
theorem specSpanOk_sp (a : Bool) (l h : Int) : spec_SpanOk.f a l h = some (spOk (a, l, h)) := specSpanOk_ev a l h
theorem implSpanOk_ev (a : Bool) (l h : Int) : impl_SpanOk.f a l h = some (spOk (a, l, h)) := by
  unfold impl_SpanOk.f spOk
  simp only [isWord_ev, Option.bind_some]
  by_cases ha : a = true
  · subst ha
    by_cases hl : isW l = true
    · by_cases hh : isW h = true
      · simp [hl, hh]
      · simp [hl, hh]
    · simp [hl]
  · simp [ha]
    by_cases h1 : l = 0 <;> by_cases h2 : h = 0 <;> simp [h1, h2]
theorem bothOk_ev (a : Bool) (l h : Int) (b : Bool) (m n : Int) : impl_bothOk.f a l h b m n = some (spOk (a, l, h) && spOk (b, m, n)) := by
  unfold impl_bothOk.f
  simp only [implSpanOk_ev, Option.bind_some]
  by_cases h1 : spOk (a, l, h) = true <;> simp [h1]
theorem spOk_true {l h : Int} (k : spOk (true, l, h) = true) : -16 ≤ l ∧ l ≤ h ∧ h ≤ 15 ∧ isW l = true ∧ isW h = true := by
  simp [spOk] at k
  obtain ⟨⟨h1, h2⟩, h3⟩ := k
  have := (isW_iff l).1 h1
  have := (isW_iff h).1 h2
  exact ⟨by omega, h3, by omega, h1, h2⟩
/-- The numbers from lo to hi. -/
def wl (lo hi : Int) : List Int := (List.range (hi + 1 - lo).toNat).map fun (i : Nat) => lo + (i : Int)
theorem wl_nil {lo hi : Int} (h : hi < lo) : wl lo hi = [] := by unfold wl; rw [show (hi + 1 - lo).toNat = 0 by omega]; rfl
theorem wl_cons {lo hi : Int} (h : lo ≤ hi) : wl lo hi = lo :: wl (lo + 1) hi := by
  unfold wl
  rw [show (hi + 1 - lo).toNat = (hi + 1 - (lo + 1)).toNat + 1 by omega, List.range_succ_eq_map]
  simp only [List.map_cons, List.map_map]
  congr 1
  · simp
  · apply List.map_congr_left
    intro i _
    simp
    omega
theorem mem_wl {lo hi x : Int} : x ∈ wl lo hi ↔ lo ≤ x ∧ x ≤ hi := by
  unfold wl
  simp only [List.mem_map, List.mem_range]
  constructor
  · rintro ⟨i, hi, rfl⟩; omega
  · intro h; exact ⟨(x - lo).toNat, by omega, by omega⟩
theorem wl_length (lo hi : Int) : (wl lo hi).length = (hi + 1 - lo).toNat := by simp [wl]
/-- The words of a span. -/
def wds (s : Sp) : List Int := if s.1 = true then wl s.2.1 s.2.2 else []
theorem words_loop {hi : Int} (hh : hi ≤ 100) (lo : Int) (d : Nat) : ∀ (acc : List Int) (n : Int), hi + 1 - n = d → -100 ≤ n → acc.length + d ≤ 1000 → Ev (fun k => impl_Span_words.l0 k acc n true lo hi) (acc ++ wl n hi) := by
  induction d with
  | zero =>
    intro acc n hd hn hl
    refine Ev.step (f := fun _ => some acc) (fun k => ?_) ?_
    · simp only [impl_Span_words.l0]; rw [if_pos trivial, if_neg (by omega)]
    · rw [wl_nil (by omega), List.append_nil]; exact Ev.now _
  | succ d ih =>
    intro acc n hd hn hl
    refine Ev.step (f := fun k => impl_Span_words.l0 k (acc ++ [n]) (n + 1) true lo hi) (fun k => ?_) ?_
    · simp only [impl_Span_words.l0]; rw [if_pos trivial, if_pos (by omega), if_pos (by omega), w64_id (by omega)]
    · have := ih (acc ++ [n]) (n + 1) (by omega) (by omega) (by simp; omega)
      rw [wl_cons (by omega)]
      simpa using this
theorem words_ev {a : Bool} {l h : Int} (k : spOk (a, l, h) = true) : Ev (fun k => impl_Span_words.f k a l h) (wds (a, l, h)) := by
  cases a with
  | false =>
    refine Ev.step (f := fun _ => some []) (fun k => ?_) (Ev.now _)
    simp only [impl_Span_words.f, impl_Span_words.l0]
    rw [if_neg (by decide)]
  | true =>
    have h1 := spOk_true k
    have := words_loop (hi := h) (by omega) l (h + 1 - l).toNat [] l (by omega) (by omega) (by simp; omega)
    simpa [wds, impl_Span_words.f] using this
theorem wds_word {s : Sp} (k : spOk s = true) {x : Int} (hx : x ∈ wds s) : isW x = true := by
  obtain ⟨a, l, h⟩ := s
  cases a with
  | false => simp [wds] at hx
  | true =>
    have h1 := spOk_true k
    have h2 : l ≤ x ∧ x ≤ h := by simpa [wds, mem_wl] using hx
    rw [isW_iff]; omega
theorem wds_length {s : Sp} (k : spOk s = true) : (wds s).length ≤ 32 := by
  obtain ⟨a, l, h⟩ := s
  cases a with
  | false => simp [wds]
  | true => have h1 := spOk_true k; simp [wds, wl_length]; omega
/-- The smallest interval with numbers. -/
def IsHull (l : List Int) (s : Sp) : Prop := (l = [] ∧ s = spNone) ∨ (s.1 = true ∧ s.2.1 ∈ l ∧ s.2.2 ∈ l ∧ ∀ x ∈ l, s.2.1 ≤ x ∧ x ≤ s.2.2)
theorem IsHull.uniq {l l' : List Int} {s s' : Sp} (h : IsHull l s) (h' : IsHull l' s') (e : ∀ x, x ∈ l ↔ x ∈ l') : s = s' := by
  rcases h with ⟨rfl, rfl⟩ | ⟨h1, h2, h3, h4⟩ <;> rcases h' with ⟨rfl, rfl⟩ | ⟨g1, g2, g3, g4⟩
  · rfl
  · exact absurd ((e _).2 g2) (by simp)
  · exact absurd ((e _).1 h2) (by simp)
  · obtain ⟨a, lo, hi⟩ := s
    obtain ⟨b, lo', hi'⟩ := s'
    simp only at *
    have a1 := h4 _ ((e _).2 g2)
    have a2 := h4 _ ((e _).2 g3)
    have a3 := g4 _ ((e _).1 h2)
    have a4 := g4 _ ((e _).1 h3)
    subst h1; subst g1
    have : lo = lo' := by omega
    have : hi = hi' := by omega
    simp [*]
theorem rd_mem {l : List Int} {i : Int} (h0 : 0 ≤ i) (h1 : i < (l.length : Int)) : rd l i ∈ l := by
  unfold Go.Proofs.YtekmapilhomdgaaW.PrintWords.rd
  rw [List.getD_eq_getElem?_getD, List.getElem?_eq_getElem (by omega)]
  exact List.getElem_mem _
theorem mem_rd {l : List Int} {x : Int} (h : x ∈ l) : ∃ i : Int, 0 ≤ i ∧ i < (l.length : Int) ∧ rd l i = x := by
  obtain ⟨j, hj, rfl⟩ := List.mem_iff_getElem.1 h
  refine ⟨(j : Int), by omega, by omega, ?_⟩
  unfold Go.Proofs.YtekmapilhomdgaaW.PrintWords.rd
  rw [List.getD_eq_getElem?_getD]
  simp [hj]
theorem min_loop (l : List Int) (hl : l.length ≤ 100000) (d : Nat) : ∀ (m i : Int), (l.length : Int) - i = d → 1 ≤ i → m ∈ l → (∀ j : Int, 0 ≤ j → j < i → m ≤ rd l j) →
    ∃ r, Ev (fun k => slices_Min_int_int.l0 k l m i) r ∧ r ∈ l ∧ ∀ x ∈ l, r ≤ x := by
  induction d with
  | zero =>
    intro m i hd hi hm hj
    refine ⟨m, Ev.step (f := fun _ => some m) (fun k => ?_) (Ev.now _), hm, fun x hx => ?_⟩
    · simp only [slices_Min_int_int.l0]; rw [if_neg (by omega)]
    · obtain ⟨j, h0, h1, rfl⟩ := mem_rd hx; exact hj j h0 (by omega)
  | succ d ih =>
    intro m i hd hi hm hj
    have hr : rd l i ∈ l := rd_mem (by omega) (by omega)
    obtain ⟨r, hr1, hr2, hr3⟩ := ih (mn m (rd l i)) (i + 1) (by omega) (by omega) (by unfold mn; split <;> assumption) (fun j h0 h1 => by
      by_cases e : j = i
      · subst e; unfold mn; omega
      · have := hj j h0 (by omega); unfold mn; omega)
    refine ⟨r, Ev.step (f := fun k => slices_Min_int_int.l0 k l (mn m (rd l i)) (i + 1)) (fun k => ?_) hr1, hr2, hr3⟩
    simp only [slices_Min_int_int.l0]; rw [if_pos (by omega), if_pos (by omega), w64_id (by omega)]
theorem max_loop (l : List Int) (hl : l.length ≤ 100000) (d : Nat) : ∀ (m i : Int), (l.length : Int) - i = d → 1 ≤ i → m ∈ l → (∀ j : Int, 0 ≤ j → j < i → rd l j ≤ m) →
    ∃ r, Ev (fun k => slices_Max_int_int.l0 k l m i) r ∧ r ∈ l ∧ ∀ x ∈ l, x ≤ r := by
  induction d with
  | zero =>
    intro m i hd hi hm hj
    refine ⟨m, Ev.step (f := fun _ => some m) (fun k => ?_) (Ev.now _), hm, fun x hx => ?_⟩
    · simp only [slices_Max_int_int.l0]; rw [if_neg (by omega)]
    · obtain ⟨j, h0, h1, rfl⟩ := mem_rd hx; exact hj j h0 (by omega)
  | succ d ih =>
    intro m i hd hi hm hj
    have hr : rd l i ∈ l := rd_mem (by omega) (by omega)
    obtain ⟨r, hr1, hr2, hr3⟩ := ih (mx m (rd l i)) (i + 1) (by omega) (by omega) (by unfold mx; split <;> assumption) (fun j h0 h1 => by
      by_cases e : j = i
      · subst e; unfold mx; omega
      · have := hj j h0 (by omega); unfold mx; omega)
    refine ⟨r, Ev.step (f := fun k => slices_Max_int_int.l0 k l (mx m (rd l i)) (i + 1)) (fun k => ?_) hr1, hr2, hr3⟩
    simp only [slices_Max_int_int.l0]; rw [if_pos (by omega), if_pos (by omega), w64_id (by omega)]
theorem spanned_ev {l : List Int} (hl : l.length ≤ 100000) : ∃ s, Ev (fun k => impl_spanned.f k l) s ∧ IsHull l s := by
  by_cases h0 : (l.length : Int) = 0
  · refine ⟨spNone, Ev.congr (f := fun _ => some spNone) (fun k => ?_) (Ev.now _), .inl ⟨List.length_eq_zero_iff.1 (by omega), rfl⟩⟩
    unfold impl_spanned.f impl_between_int.f
    rw [if_pos h0]; rfl
  · have hr : rd l 0 ∈ l := rd_mem (by omega) (by omega)
    obtain ⟨lo, a1, a2, a3⟩ := min_loop l hl (l.length - 1) (rd l 0) 1 (by omega) (by omega) hr (fun j h0 h1 => by rw [show j = 0 by omega]; omega)
    obtain ⟨hi, b1, b2, b3⟩ := max_loop l hl (l.length - 1) (rd l 0) 1 (by omega) (by omega) hr (fun j h0 h1 => by rw [show j = 0 by omega]; omega)
    refine ⟨(true, lo, hi), ?_, .inr ⟨rfl, a2, b2, fun x hx => ⟨a3 x hx, b3 x hx⟩⟩⟩
    unfold impl_spanned.f impl_between_int.f
    simp only [if_neg h0]
    refine Ev.bind (a := (lo, hi, true)) (Ev.bind (a := lo) ?_ (Ev.bind (a := hi) ?_ (Ev.now _))) (Ev.now _)
    · refine Ev.congr (fun k => ?_) a1
      unfold slices_Min_int_int.f
      rw [if_neg (by omega), if_pos (by omega)]
    · refine Ev.congr (fun k => ?_) b1
      unfold slices_Max_int_int.f
      rw [if_neg (by omega), if_pos (by omega)]
theorem Ev.uniq {α : Type} {g : Nat → Option α} {r r' : α} (h : Ev g r) (h' : Ev g r') : r = r' := by
  obtain ⟨K, hK⟩ := h
  obtain ⟨K', hK'⟩ := h'
  have a := hK (K + K') (by omega)
  have b := hK' (K + K') (by omega)
  exact Option.some.inj (a.symm.trans b)
end Go.Proofs.Ytekmapilhomdgaa.Pu

namespace Go.Proofs.Ytekmapilhomdgaa.Pu
open Go.RowKit Go.Proofs.Ytekmapilhomdgaa.P Go.Proofs.YtekmapilhomdgaaW.PrintWords Go.Proofs.YtekmapilhomdgaaW.PrintLast
set_option linter.unusedSimpArgs false
set_option linter.unusedVariables false
def rawo (op x y : Int) : Option Int := if (impl_raw.v op x y).2 = true then some (impl_raw.v op x y).1 else none
def inR (op x : Int) (ys : List Int) : List Int := ys.filterMap (rawo op x)
def outR (op : Int) (xs ys : List Int) : List Int := xs.flatMap fun x => inR op x ys
theorem rd_drop {l : List Int} {j : Int} (h0 : 0 ≤ j) (h1 : j < (l.length : Int)) : l.drop j.toNat = rd l j :: l.drop (j + 1).toNat := by
  rw [List.drop_eq_getElem_cons (by omega : j.toNat < l.length)]
  congr 1
  · unfold Go.Proofs.YtekmapilhomdgaaW.PrintWords.rd
    rw [List.getD_eq_getElem?_getD, List.getElem?_eq_getElem (by omega)]; rfl
  · congr 1; omega
theorem drop_all {l : List Int} {j : Int} (h : (l.length : Int) ≤ j) : l.drop j.toNat = [] := List.drop_eq_nil_of_le (by omega)
theorem inner_loop (op x : Int) (xs ys : List Int) (hx : xs.length ≤ 100) (hy : ys.length ≤ 100) (i : Int) (hi0 : 0 ≤ i) (hi : i < 100) (b : Sp) (r : Sp) (d : Nat) :
    ∀ (acc : List Int) (j : Int), (ys.length : Int) - j = d → 0 ≤ j → acc.length + d ≤ 100000 →
      Ev (fun k => impl_SpanDo.l0 k op (acc ++ inR op x (ys.drop j.toNat)) xs (xs.length : Int) (i + 1) b.1 b.2.1 b.2.2) r →
      Ev (fun k => impl_SpanDo.l1 k op acc x xs (xs.length : Int) i ys (ys.length : Int) j b.1 b.2.1 b.2.2) r := by
  induction d with
  | zero =>
    intro acc j hd hj hl h
    refine Ev.step (f := fun k => impl_SpanDo.l0 k op acc xs (xs.length : Int) (i + 1) b.1 b.2.1 b.2.2) (fun k => ?_) ?_
    · simp only [impl_SpanDo.l1]; rw [if_neg (by omega), w64_id (by omega)]
    · rw [drop_all (by omega)] at h; simpa [inR] using h
  | succ d ih =>
    intro acc j hd hj hl h
    have hdr := rd_drop (l := ys) hj (by omega)
    by_cases hr : (impl_raw.v op x (rd ys j)).2 = true
    · refine Ev.step (f := fun k => impl_SpanDo.l1 k op (acc ++ [(impl_raw.v op x (rd ys j)).1]) x xs (xs.length : Int) i ys (ys.length : Int) (j + 1) b.1 b.2.1 b.2.2) (fun k => ?_) ?_
      · simp only [impl_SpanDo.l1, impl_raw.f, Option.bind_some]; rw [if_pos (by omega), if_pos hj, if_pos (by omega), if_pos hr, if_pos (by omega), w64_id (by omega)]
      · refine ih _ _ (by omega) (by omega) (by simp; omega) ?_
        rw [hdr] at h
        simpa [inR, rawo, hr] using h
    · refine Ev.step (f := fun k => impl_SpanDo.l1 k op acc x xs (xs.length : Int) i ys (ys.length : Int) (j + 1) b.1 b.2.1 b.2.2) (fun k => ?_) ?_
      · simp only [impl_SpanDo.l1, impl_raw.f, Option.bind_some]; rw [if_pos (by omega), if_pos hj, if_pos (by omega), if_neg hr, w64_id (by omega)]
      · refine ih _ _ (by omega) (by omega) (by omega) ?_
        rw [hdr] at h
        simpa [inR, rawo, hr] using h
theorem inR_length (op x : Int) (ys : List Int) : (inR op x ys).length ≤ ys.length := List.length_filterMap_le _ _
theorem outR_length (op : Int) (ys : List Int) : ∀ xs : List Int, (outR op xs ys).length ≤ xs.length * ys.length
  | [] => by simp [outR]
  | x :: xs => by
    have h1 := inR_length op x ys
    have h2 := outR_length op ys xs
    have e : (outR op (x :: xs) ys).length = (inR op x ys).length + (outR op xs ys).length := by simp [outR]
    rw [e, List.length_cons, Nat.add_mul]; omega
/-- What stands behind the loops. -/
def doEnd (k : Nat) (l : List Int) : Option Sp := (slices_ContainsFunc_int_int__impl_SpanDo_1.f k l).bind fun t => (if t = true then ((impl_allWords.f).bind fun q => (some (q.1, q.2.1, q.2.2))) else ((impl_spanned.f k l).bind fun q => (some (q.1, q.2.1, q.2.2))))
theorem outer_loop (op : Int) (xs : List Int) (hx : xs.length ≤ 100) (b : Sp) (hb : spOk b = true) (r : Sp) (d : Nat) :
    ∀ (acc : List Int) (i : Int), (xs.length : Int) - i = d → 0 ≤ i → acc.length + d * 32 ≤ 90000 →
      Ev (fun k => doEnd k (acc ++ outR op (xs.drop i.toNat) (wds b))) r →
      Ev (fun k => impl_SpanDo.l0 k op acc xs (xs.length : Int) i b.1 b.2.1 b.2.2) r := by
  have hw := wds_length hb
  induction d with
  | zero =>
    intro acc i hd hi hl h
    refine Ev.step (f := fun k => doEnd k acc) (fun k => ?_) ?_
    · simp only [impl_SpanDo.l0]; rw [if_neg (by omega)]; rfl
    · rw [drop_all (by omega)] at h; simpa [outR] using h
  | succ d ih =>
    intro acc i hd hi hl h
    refine Ev.step (f := fun k => (impl_Span_words.f k b.1 b.2.1 b.2.2).bind fun t => impl_SpanDo.l1 k op acc (rd xs i) xs (xs.length : Int) i t (t.length : Int) 0 b.1 b.2.1 b.2.2) (fun k => ?_) ?_
    · simp only [impl_SpanDo.l0]; rw [if_pos (by omega), if_pos hi, if_pos (by omega)]
    · refine Ev.bind (words_ev hb) ?_
      have hwb : wds (b.1, b.2.1, b.2.2) = wds b := rfl
      rw [hwb]
      refine inner_loop op (rd xs i) xs (wds b) hx (by omega) i hi (by omega) b r (wds b).length acc 0 (by omega) (by omega) (by omega) ?_
      have hin := inR_length op (rd xs i) (wds b)
      refine ih _ _ (by omega) (by omega) (by simp; omega) ?_
      have hdr := rd_drop (l := xs) hi (by omega)
      rw [hdr] at h
      simpa [outR] using h
theorem any_loop (l : List Int) (hl : l.length ≤ 100000) (d : Nat) : ∀ (i : Int), (l.length : Int) - i = d → 0 ≤ i →
    ∃ r : Int, Ev (fun k => slices_IndexFunc_int_int__impl_SpanDo_1.l0 k l (l.length : Int) i) r ∧ (0 ≤ r ↔ ∃ x ∈ l.drop i.toNat, isW x = false) := by
  induction d with
  | zero =>
    intro i hd hi
    refine ⟨-1, Ev.step (f := fun _ => some (-1)) (fun k => ?_) (Ev.now _), ?_⟩
    · simp only [slices_IndexFunc_int_int__impl_SpanDo_1.l0]; rw [if_neg (by omega)]
    · rw [drop_all (by omega)]; simp
  | succ d ih =>
    intro i hd hi
    have hdr := rd_drop (l := l) hi (by omega)
    by_cases hw : isW (rd l i) = true
    · obtain ⟨r, h1, h2⟩ := ih (i + 1) (by omega) (by omega)
      refine ⟨r, Ev.step (fun k => ?_) h1, ?_⟩
      · simp only [slices_IndexFunc_int_int__impl_SpanDo_1.l0, impl_SpanDo_1.f, isWord_ev, Option.bind_some]; rw [if_pos (by omega), if_pos hi, if_pos (by omega), if_neg (by simp [hw]), w64_id (by omega)]
      · rw [h2, hdr]; simp [hw]
    · refine ⟨i, Ev.step (f := fun _ => some i) (fun k => ?_) (Ev.now _), ?_⟩
      · simp only [slices_IndexFunc_int_int__impl_SpanDo_1.l0, impl_SpanDo_1.f, isWord_ev, Option.bind_some]; rw [if_pos (by omega), if_pos hi, if_pos (by omega), if_pos (by simpa using hw)]
      · rw [hdr]; simp at hw; simp [hw, hi]
/-- What a list of results makes: all words, if one of them is none; else the smallest interval. -/
def DoRes (l : List Int) (s : Sp) : Prop := ((∃ x ∈ l, isW x = false) ∧ s = (true, -16, 15)) ∨ ((∀ x ∈ l, isW x = true) ∧ IsHull l s)
theorem doEnd_ev {l : List Int} (hl : l.length ≤ 100000) : ∃ s, Ev (fun k => doEnd k l) s ∧ DoRes l s := by
  obtain ⟨r, h1, h2⟩ := any_loop l hl l.length 0 (by omega) (by omega)
  obtain ⟨s, h3, h4⟩ := spanned_ev hl
  simp only [Int.toNat_zero, List.drop_zero] at h2
  by_cases hr : 0 ≤ r
  · refine ⟨(true, -16, 15), ?_, .inl ⟨h2.1 hr, rfl⟩⟩
    unfold doEnd slices_ContainsFunc_int_int__impl_SpanDo_1.f slices_IndexFunc_int_int__impl_SpanDo_1.f
    refine Ev.bind (a := true) (Ev.bind h1 ?_) ?_
    · exact Ev.congr (f := fun _ => some true) (fun k => by simp [hr]) (Ev.now _)
    · simp only [if_true]; exact Ev.now _
  · refine ⟨s, ?_, .inr ⟨fun x hx => ?_, h4⟩⟩
    · unfold doEnd slices_ContainsFunc_int_int__impl_SpanDo_1.f slices_IndexFunc_int_int__impl_SpanDo_1.f
      refine Ev.bind (a := false) (Ev.bind h1 ?_) ?_
      · exact Ev.congr (f := fun _ => some false) (fun k => by simp [hr]) (Ev.now _)
      · simp only [if_false, Bool.false_eq_true]; exact Ev.bind h3 (Ev.now _)
    · cases h : isW x with
      | true => rfl
      | false => exact absurd (h2.2 ⟨x, hx, h⟩) hr
theorem implSpanDo_ev (op : Int) (a b : Sp) : ∃ s, Ev (fun k => impl_SpanDo.f k op a.1 a.2.1 a.2.2 b.1 b.2.1 b.2.2) s ∧
    if (spOk a && spOk b) = true then DoRes (outR op (wds a) (wds b)) s else s = spNone := by
  unfold impl_SpanDo.f
  simp only [bothOk_ev, Option.bind_some]
  by_cases h : (spOk a && spOk b) = true
  · have ha : spOk a = true := by simp_all
    have hb : spOk b = true := by simp_all
    have hA := wds_length ha
    have hB := wds_length hb
    have hO := outR_length op (wds b) (wds a)
    have hO2 : (wds a).length * (wds b).length ≤ 32 * 32 := Nat.mul_le_mul hA hB
    obtain ⟨s, h1, h2⟩ := doEnd_ev (l := outR op (wds a) (wds b)) (by omega)
    refine ⟨s, ?_, by rw [if_pos h]; exact h2⟩
    simp only [h, if_true]
    refine Ev.bind (words_ev ha) ?_
    have e : wds (a.1, a.2.1, a.2.2) = wds a := rfl
    rw [e]
    exact outer_loop op (wds a) (by omega) b hb s (wds a).length [] 0 (by omega) (by omega) (by simp; omega) (by simpa using h1)
  · refine ⟨spNone, ?_, by rw [if_neg h]⟩
    have h' : (spOk a && spOk b) = false := by simpa using h
    simp only [show spOk (a.1, a.2.1, a.2.2) = spOk a from rfl, show spOk (b.1, b.2.1, b.2.2) = spOk b from rfl, h', Bool.false_eq_true, if_false]
    exact Ev.now _
end Go.Proofs.Ytekmapilhomdgaa.Pu

namespace Go.Proofs.Ytekmapilhomdgaa.Pu
open Go.RowKit Go.Proofs.Ytekmapilhomdgaa.P Go.Proofs.YtekmapilhomdgaaW.PrintWords Go.Proofs.YtekmapilhomdgaaW.PrintLast
set_option linter.unusedSimpArgs false
set_option linter.unusedVariables false
theorem l1Of_ev (a b : Int) : spec_l1Of.f a b = some (if a > b then spNone else (true, a, b)) := by
  unfold spec_l1Of.f; by_cases h : a > b <;> simp [h, spNone]
theorem l1Some_ev (a : Bool) (l h : Int) : spec_l1Some.f a l h = some (a && spOk (a, l, h)) := by
  unfold spec_l1Some.f
  cases a with
  | false => simp
  | true => simp [specSpanOk_sp]
theorem step_up {f : Int → Int} {l h : Int} (hf : ∀ x, l ≤ x → x + 1 ≤ h → f x ≤ f (x + 1)) (d : Nat) : ∀ x, l ≤ x → x + d ≤ h → f x ≤ f (x + d) := by
  induction d with
  | zero => intro x _ _; simp
  | succ d ih =>
    intro x h1 h2
    have a := hf x h1 (by omega)
    have b := ih (x + 1) (by omega) (by omega)
    have e : x + 1 + (d : Int) = x + ((d + 1 : Nat) : Int) := by omega
    rw [e] at b
    omega
theorem up_le {f : Int → Int} {l h : Int} (hf : ∀ x, l ≤ x → x + 1 ≤ h → f x ≤ f (x + 1)) {x y : Int} (h1 : l ≤ x) (h2 : x ≤ y) (h3 : y ≤ h) : f x ≤ f y := by
  have := step_up hf (y - x).toNat x h1 (by omega)
  rwa [show x + ((y - x).toNat : Int) = y by omega] at this
theorem down_le {f : Int → Int} {l h : Int} (hf : ∀ x, l ≤ x → x + 1 ≤ h → f (x + 1) ≤ f x) {x y : Int} (h1 : l ≤ x) (h2 : x ≤ y) (h3 : y ≤ h) : f y ≤ f x := by
  have := up_le (f := fun z => - f z) (fun x a b => by have := hf x a b; omega) h1 h2 h3
  omega
/-- Between the ends. -/
def Mono (f : Int → Int) (l h : Int) : Prop := (∀ x, l ≤ x → x + 1 ≤ h → f x ≤ f (x + 1)) ∨ (∀ x, l ≤ x → x + 1 ≤ h → f (x + 1) ≤ f x)
theorem Mono.between {f : Int → Int} {l h : Int} (hf : Mono f l h) {a x b : Int} (h1 : l ≤ a) (h2 : a ≤ x) (h3 : x ≤ b) (h4 : b ≤ h) : (f a ≤ f x ∧ f x ≤ f b) ∨ (f b ≤ f x ∧ f x ≤ f a) := by
  rcases hf with hf | hf
  · exact .inl ⟨up_le hf h1 h2 (by omega), up_le hf (by omega) h3 h4⟩
  · exact .inr ⟨down_le hf (by omega) h3 h4, down_le hf h1 h2 (by omega)⟩
def chkX (op y : Int) : Bool := (List.range 31).all (fun i => decide (rawI op ((i : Int) - 16) y ≤ rawI op ((i : Int) - 15) y)) || (List.range 31).all (fun i => decide (rawI op ((i : Int) - 15) y ≤ rawI op ((i : Int) - 16) y))
def chkY (op x l : Int) (n : Nat) : Bool := (List.range n).all (fun i => decide (rawI op x ((i : Int) + l) ≤ rawI op x ((i : Int) + l + 1))) || (List.range n).all (fun i => decide (rawI op x ((i : Int) + l + 1) ≤ rawI op x ((i : Int) + l)))
theorem chkX_all : (List.range 5).all (fun o => (List.range 32).all fun j => chkX ((o : Int) + 1) ((j : Int) - 16)) = true := by decide +kernel
theorem chkY_all : ([1, 2, 3, 5] : List Int).all (fun o => (List.range 32).all fun j => chkY o ((j : Int) - 16) (-16) 31) = true := by decide +kernel
theorem chkD_all : (List.range 32).all (fun j => chkY 4 ((j : Int) - 16) (-16) 15 && chkY 4 ((j : Int) - 16) 1 14) = true := by decide +kernel
theorem mono_of_chkY {op x l : Int} {n : Nat} (h : chkY op x l n = true) : Mono (fun y => rawI op x y) l (l + n) := by
  unfold chkY at h
  rw [Bool.or_eq_true] at h
  rcases h with h | h
  · refine .inl fun y h1 h2 => ?_
    have := List.all_eq_true.1 h (y - l).toNat (List.mem_range.2 (by omega))
    rw [decide_eq_true_eq, show ((y - l).toNat : Int) + l = y by omega] at this
    exact this
  · refine .inr fun y h1 h2 => ?_
    have := List.all_eq_true.1 h (y - l).toNat (List.mem_range.2 (by omega))
    rw [decide_eq_true_eq, show ((y - l).toNat : Int) + l = y by omega] at this
    exact this
theorem monoX {op y : Int} (h1 : 1 ≤ op) (h2 : op ≤ 5) (hy : isW y = true) : Mono (fun x => rawI op x y) (-16) 15 := by
  rw [isW_iff] at hy
  have a := List.all_eq_true.1 chkX_all (op - 1).toNat (List.mem_range.2 (by omega))
  have b := List.all_eq_true.1 a (y + 16).toNat (List.mem_range.2 (by omega))
  rw [show ((op - 1).toNat : Int) + 1 = op by omega, show ((y + 16).toNat : Int) - 16 = y by omega] at b
  unfold chkX at b
  rw [Bool.or_eq_true] at b
  rcases b with b | b
  · refine .inl fun x g1 g2 => ?_
    have := List.all_eq_true.1 b (x + 16).toNat (List.mem_range.2 (by omega))
    rw [decide_eq_true_eq, show ((x + 16).toNat : Int) - 16 = x by omega, show ((x + 16).toNat : Int) - 15 = x + 1 by omega] at this
    exact this
  · refine .inr fun x g1 g2 => ?_
    have := List.all_eq_true.1 b (x + 16).toNat (List.mem_range.2 (by omega))
    rw [decide_eq_true_eq, show ((x + 16).toNat : Int) - 16 = x by omega, show ((x + 16).toNat : Int) - 15 = x + 1 by omega] at this
    exact this
theorem monoY {op x : Int} (h : op = 1 ∨ op = 2 ∨ op = 3 ∨ op = 5) (hx : isW x = true) : Mono (fun y => rawI op x y) (-16) 15 := by
  rw [isW_iff] at hx
  have a := List.all_eq_true.1 chkY_all op (by simp; omega)
  have b := List.all_eq_true.1 a (x + 16).toNat (List.mem_range.2 (by omega))
  rw [show ((x + 16).toNat : Int) - 16 = x by omega] at b
  exact mono_of_chkY b
theorem monoD {x : Int} (hx : isW x = true) : Mono (fun y => rawI 4 x y) (-16) (-1) ∧ Mono (fun y => rawI 4 x y) 1 15 := by
  rw [isW_iff] at hx
  have b := List.all_eq_true.1 chkD_all (x + 16).toNat (List.mem_range.2 (by omega))
  rw [show ((x + 16).toNat : Int) - 16 = x by omega, Bool.and_eq_true] at b
  exact ⟨mono_of_chkY b.1, mono_of_chkY b.2⟩
/-- The ends that the reference tries. -/
def endsOf (op l h : Int) : List Int := ([l, h, -1, 1] : List Int).filter fun y => decide (l ≤ y ∧ y ≤ h) && !(decide (op = 4) && decide (y = 0))
theorem ends_step {op l h : Int} {acc : List Int} {t : List Int} {i : Int} (h0 : 0 ≤ i) (h1 : i < (t.length : Int)) (h2 : t.length ≤ 100) (ha : acc.length ≤ 100) (r : List Int) (any : Bool)
    (hr : Ev (fun k => spec_l1Ends.l0 k op (if (decide (l ≤ rd t i ∧ rd t i ≤ h) && !(decide (op = 4) && decide (rd t i = 0))) = true then acc ++ [rd t i] else acc) t (i + 1) any l h) r) :
    Ev (fun k => spec_l1Ends.l0 k op acc t i any l h) r := by
  refine Ev.step (fun k => ?_) hr
  simp only [spec_l1Ends.l0, l6In_ev, Option.bind_some]
  rw [if_pos h1, if_pos h0, w64_id (by omega)]
  by_cases hin : l ≤ rd t i ∧ rd t i ≤ h
  · by_cases h4 : op = 4
    · by_cases hz : rd t i = 0
      · simp [hin, h4, hz]
      · simp only [hin, h4, hz, decide_true, if_true, if_false, and_self, Bool.true_and, decide_false, Bool.and_false, Bool.not_false]
        rw [if_pos (by omega)]
    · simp only [hin, h4, and_self, decide_true, decide_false, Bool.false_and, Bool.not_false, Bool.and_true, if_true, if_false]
      rw [if_pos (by omega)]
  · simp [hin]
theorem l1Ends_ev (op : Int) (any : Bool) (l h : Int) : Ev (fun k => spec_l1Ends.f k op any l h) (endsOf op l h) := by
  unfold spec_l1Ends.f
  refine ends_step (by omega) (by simp) (by simp) (by simp) _ _ ?_
  refine ends_step (by omega) (by simp) (by simp) (by simp; split <;> simp) _ _ ?_
  refine ends_step (by omega) (by simp) (by simp) (by simp; (repeat' split) <;> simp) _ _ ?_
  refine ends_step (by omega) (by simp) (by simp) (by simp; (repeat' split) <;> simp) _ _ ?_
  refine Ev.step (f := fun _ => some (endsOf op l h)) (fun k => ?_) (Ev.now _)
  simp only [spec_l1Ends.l0]
  rw [if_neg (by simp)]
  congr 1
  simp only [show rd [l, h, -1, 1] 0 = l from rfl, show rd [l, h, -1, 1] (0 + 1) = h from rfl, show rd [l, h, -1, 1] (0 + 1 + 1) = -1 from rfl, show rd [l, h, -1, 1] (0 + 1 + 1 + 1) = 1 from rfl, endsOf, List.filter_cons, List.filter_nil]
  (repeat' split) <;> simp
theorem endsOf_mem {op l h y : Int} (hy : y ∈ endsOf op l h) : l ≤ y ∧ y ≤ h ∧ ¬ (op = 4 ∧ y = 0) := by
  unfold endsOf at hy
  have := (List.mem_filter.1 hy).2
  simp at this
  exact ⟨this.1.1, this.1.2, fun e => by rcases this.2 with h | h <;> omega⟩
/-- Every result lies between results at the ends. -/
theorem ends_bound {op l h x y : Int} (ho : 1 ≤ op ∧ op ≤ 5) (hx : isW x = true) (hl : -16 ≤ l) (hh : h ≤ 15) (h1 : l ≤ y) (h2 : y ≤ h) (h0 : ¬ (op = 4 ∧ y = 0)) :
    ∃ e1 ∈ endsOf op l h, ∃ e2 ∈ endsOf op l h, rawI op x e1 ≤ rawI op x y ∧ rawI op x y ≤ rawI op x e2 := by
  have mk : ∀ a b, a ∈ endsOf op l h → b ∈ endsOf op l h → ((rawI op x a ≤ rawI op x y ∧ rawI op x y ≤ rawI op x b) ∨ (rawI op x b ≤ rawI op x y ∧ rawI op x y ≤ rawI op x a)) →
      ∃ e1 ∈ endsOf op l h, ∃ e2 ∈ endsOf op l h, rawI op x e1 ≤ rawI op x y ∧ rawI op x y ≤ rawI op x e2 := by
    intro a b ha hb hab
    rcases hab with hab | hab
    · exact ⟨a, ha, b, hb, hab⟩
    · exact ⟨b, hb, a, ha, hab⟩
  by_cases h4 : op = 4
  · subst h4
    have hy0 : y ≠ 0 := fun e => h0 ⟨rfl, e⟩
    obtain ⟨mn_, mp_⟩ := monoD hx
    by_cases hp : 1 ≤ y
    · by_cases hl1 : 1 ≤ l
      · exact mk l h (by simp [endsOf]; omega) (by simp [endsOf]; omega) (mp_.between hl1 h1 h2 hh)
      · exact mk 1 h (by simp [endsOf]; omega) (by simp [endsOf]; omega) (mp_.between (by omega) hp h2 hh)
    · by_cases hh1 : h ≤ -1
      · exact mk l h (by simp [endsOf]; omega) (by simp [endsOf]; omega) (mn_.between hl h1 h2 hh1)
      · exact mk l (-1) (by simp [endsOf]; omega) (by simp [endsOf]; omega) (mn_.between hl h1 (by omega) (by omega))
  · have := monoY (op := op) (x := x) (by omega) hx
    exact mk l h (by simp [endsOf, h4]; omega) (by simp [endsOf, h4]; omega) (this.between hl h1 h2 hh)
/-- The results at the ends. -/
def endR (op l h : Int) (es : List Int) : List Int := es.flatMap fun e => [rawI op l e, rawI op h e]
def doFin (s : Sp) : Sp := if s.1 = true then (if (isW s.2.1 && isW s.2.2) = true then s else (true, -16, 15)) else s
theorem IsHull.add {l : List Int} {s : Sp} (h : IsHull l s) (x y : Int) : IsHull (l ++ [x, y]) (if s.1 = true then (true, mn (mn s.2.1 x) y, mx (mx s.2.2 x) y) else (true, mn x y, mx x y)) := by
  rcases h with ⟨rfl, rfl⟩ | ⟨h1, h2, h3, h4⟩
  · refine .inr ⟨rfl, ?_, ?_, fun z hz => ?_⟩
    · simp [spNone]; unfold mn; omega
    · simp [spNone]; unfold mx; omega
    · simp at hz; simp [spNone]; unfold mn mx; omega
  · have h5 := h4 _ h2
    rw [if_pos h1]
    refine .inr ⟨rfl, ?_, ?_, fun z hz => ?_⟩
    · have : mn (mn s.2.1 x) y = s.2.1 ∨ mn (mn s.2.1 x) y = x ∨ mn (mn s.2.1 x) y = y := by unfold mn; omega
      rcases this with e | e | e <;> simp only [e] <;> simp [h2]
    · have : mx (mx s.2.2 x) y = s.2.2 ∨ mx (mx s.2.2 x) y = x ∨ mx (mx s.2.2 x) y = y := by unfold mx; omega
      rcases this with e | e | e <;> simp only [e] <;> simp [h3]
    · rcases List.mem_append.1 hz with hz | hz
      · have := h4 z hz; simp only; unfold mn mx; omega
      · simp at hz; simp only; unfold mn mx; omega
theorem specDo_loop (op : Int) (a : Sp) (ha : spOk a = true) (ha1 : a.1 = true) (l h : Int) (hl : -16 ≤ l) (hh : h ≤ 15) (es : List Int) (hes : es = endsOf op l h) (hn : es.length ≤ 100) (d : Nat) :
    ∀ (i : Int) (s : Sp) (done : List Int), (es.length : Int) - i = d → 0 ≤ i → IsHull done s →
      ∃ s', IsHull (done ++ endR op a.2.1 a.2.2 (es.drop i.toNat)) s' ∧ Ev (fun k => spec_SpanDo.l0 k op es i a.1 a.2.1 a.2.2 s.1 s.2.1 s.2.2) (doFin s') := by
  obtain ⟨_, al, ah⟩ := a
  simp only at ha1
  subst ha1
  have hA := spOk_true ha
  induction d with
  | zero =>
    intro i s done hd hi hS
    refine ⟨s, by rw [drop_all (by omega)]; simpa [endR] using hS, Ev.step (f := fun _ => some (doFin s)) (fun k => ?_) (Ev.now _)⟩
    simp only [spec_SpanDo.l0, l1Word_ev, Option.bind_some, l1Of_ev]
    rw [if_neg (by omega)]
    obtain ⟨sa, sl, sh⟩ := s
    cases sa with
    | false => simp [doFin]
    | true =>
      by_cases h1 : isW sl = true
      · by_cases h2 : isW sh = true <;> simp [doFin, h1, h2]
      · simp [doFin, h1]
  | succ d ih =>
    intro i s done hd hi hS
    have hm := rd_mem (l := es) hi (by omega)
    rw [hes] at hm
    have hb := endsOf_mem hm
    rw [← hes] at hb
    have hw : isW (rd es i) = true := by rw [isW_iff]; omega
    have e1 := l1Raw_ev (op := op) (a := al) (b := rd es i) hA.2.2.2.1 hw hb.2.2
    have e2 := l1Raw_ev (op := op) (a := ah) (b := rd es i) hA.2.2.2.2 hw hb.2.2
    have hadd := hS.add (rawI op al (rd es i)) (rawI op ah (rd es i))
    obtain ⟨s', g1, g2⟩ := ih (i + 1) _ _ (by omega) (by omega) hadd
    refine ⟨s', ?_, Ev.step (fun k => ?_) g2⟩
    · rw [rd_drop hi (by omega)]
      simpa [endR] using g1
    · simp only [spec_SpanDo.l0, e1, e2, Option.bind_some, l1Of_ev]
      rw [if_pos (by omega), if_pos hi, w64_id (by omega)]
      obtain ⟨sa, sl, sh⟩ := s
      cases sa with
      | false =>
        have n1 : ¬ mn (rawI op al (rd es i)) (rawI op ah (rd es i)) > mx (rawI op al (rd es i)) (rawI op ah (rd es i)) := by unfold mn mx; omega
        have n2 : mn (mn (mn (rawI op al (rd es i)) (rawI op ah (rd es i))) (rawI op al (rd es i))) (rawI op ah (rd es i)) = mn (rawI op al (rd es i)) (rawI op ah (rd es i)) := by unfold mn; omega
        have n3 : mx (mx (mx (rawI op al (rd es i)) (rawI op ah (rd es i))) (rawI op al (rd es i))) (rawI op ah (rd es i)) = mx (rawI op al (rd es i)) (rawI op ah (rd es i)) := by unfold mx; omega
        simp [n1, n2, n3]
      | true =>
        have hse : sl ≤ sh := by
          rcases hS with ⟨_, h⟩ | ⟨_, h, h', h''⟩
          · simp [spNone] at h
          · exact (h'' _ h').1
        have n1 : ¬ mn (mn sl (rawI op al (rd es i))) (rawI op ah (rd es i)) > mx (mx sh (rawI op al (rd es i))) (rawI op ah (rd es i)) := by unfold mn mx; omega
        simp [n1]
theorem mem_outR {op : Int} {xs ys : List Int} {r : Int} : r ∈ outR op xs ys ↔ ∃ x ∈ xs, ∃ y ∈ ys, rawo op x y = some r := by
  simp [outR, inR]
theorem rawo_word {op x y : Int} (hx : isW x = true) (hy : isW y = true) : rawo op x y = if opOk op y = true then some (rawI op x y) else none := by
  unfold rawo
  rw [raw_word hx hy]
  by_cases h : opOk op y = true <;> simp [h]
theorem opOk_iff {op y : Int} (ho : 1 ≤ op ∧ op ≤ 6) : opOk op y = true ↔ ¬ (op = 4 ∧ y = 0) := by
  simp [opOk, ho]; omega
/-- For spans that are not none, and all operations but the last: the reference's ends tell what all pairs tell. -/
theorem do_ends {op : Int} (ho : 1 ≤ op ∧ op ≤ 5) {al ah bl bh : Int} (ha : spOk (true, al, ah) = true) (hb : spOk (true, bl, bh) = true) {s' s : Sp}
    (h1 : IsHull (endR op al ah (endsOf op bl bh)) s') (h2 : DoRes (outR op (wl al ah) (wl bl bh)) s) : doFin s' = s := by
  have hA := spOk_true ha
  have hB := spOk_true hb
  have sub : ∀ r ∈ endR op al ah (endsOf op bl bh), r ∈ outR op (wl al ah) (wl bl bh) := by
    intro r hr
    simp only [endR, List.mem_flatMap] at hr
    obtain ⟨e, he, hr⟩ := hr
    have hm := endsOf_mem he
    have hok := (opOk_iff (y := e) (show 1 ≤ op ∧ op ≤ 6 by omega)).2 hm.2.2
    have hew : isW e = true := by rw [isW_iff]; omega
    rw [mem_outR]
    simp at hr
    rcases hr with rfl | rfl
    · exact ⟨al, by rw [mem_wl]; omega, e, by rw [mem_wl]; omega, by rw [rawo_word hA.2.2.2.1 hew, if_pos hok]⟩
    · exact ⟨ah, by rw [mem_wl]; omega, e, by rw [mem_wl]; omega, by rw [rawo_word hA.2.2.2.2 hew, if_pos hok]⟩
  have bnd : ∀ r ∈ outR op (wl al ah) (wl bl bh), (∃ e ∈ endR op al ah (endsOf op bl bh), e ≤ r) ∧ ∃ e ∈ endR op al ah (endsOf op bl bh), r ≤ e := by
    intro r hr
    rw [mem_outR] at hr
    obtain ⟨x, hx, y, hy, hr⟩ := hr
    rw [mem_wl] at hx hy
    have hxw : isW x = true := by rw [isW_iff]; omega
    have hyw : isW y = true := by rw [isW_iff]; omega
    rw [rawo_word hxw hyw] at hr
    by_cases hok : opOk op y = true
    · rw [if_pos hok] at hr
      have hr := Option.some.inj hr
      have h0 := (opOk_iff (show 1 ≤ op ∧ op ≤ 6 by omega)).1 hok
      have m1 := (monoX (op := op) (y := y) ho.1 ho.2 hyw).between (a := al) (x := x) (b := ah) (by omega) hx.1 hx.2 (by omega)
      obtain ⟨e1, f1, e2, f2, f3, f4⟩ := ends_bound (op := op) (x := al) (y := y) ho hA.2.2.2.1 hB.1 hB.2.2.1 hy.1 hy.2 h0
      obtain ⟨e3, f5, e4, f6, f7, f8⟩ := ends_bound (op := op) (x := ah) (y := y) ho hA.2.2.2.2 hB.1 hB.2.2.1 hy.1 hy.2 h0
      have memL : ∀ e, e ∈ endsOf op bl bh → rawI op al e ∈ endR op al ah (endsOf op bl bh) := fun e he => by simp only [endR, List.mem_flatMap]; exact ⟨e, he, by simp⟩
      have memH : ∀ e, e ∈ endsOf op bl bh → rawI op ah e ∈ endR op al ah (endsOf op bl bh) := fun e he => by simp only [endR, List.mem_flatMap]; exact ⟨e, he, by simp⟩
      rcases m1 with ⟨g1, g2⟩ | ⟨g1, g2⟩
      · exact ⟨⟨_, memL _ f1, by omega⟩, ⟨_, memH _ f6, by omega⟩⟩
      · exact ⟨⟨_, memH _ f5, by omega⟩, ⟨_, memL _ f2, by omega⟩⟩
    · rw [if_neg hok] at hr; cases hr
  rcases h1 with ⟨he, rfl⟩ | ⟨k1, k2, k3, k4⟩
  · have hnil : outR op (wl al ah) (wl bl bh) = [] := by
      rw [List.eq_nil_iff_forall_not_mem]
      intro r hr
      obtain ⟨⟨e, he', _⟩, _⟩ := bnd r hr
      rw [he] at he'; cases he'
    rw [hnil] at h2
    rcases h2 with ⟨⟨x, hx, _⟩, _⟩ | ⟨_, h2⟩
    · cases hx
    · rcases h2 with ⟨_, rfl⟩ | ⟨_, h, _⟩
      · rfl
      · cases h
  · obtain ⟨sa, sl, sh⟩ := s'
    simp only at k1 k2 k3 k4
    subst k1
    have all : ∀ r ∈ outR op (wl al ah) (wl bl bh), sl ≤ r ∧ r ≤ sh := fun r hr => by
      obtain ⟨⟨e, he, h1⟩, ⟨e', he', h2⟩⟩ := bnd r hr
      have := k4 e he
      have := k4 e' he'
      omega
    by_cases hw : (isW sl && isW sh) = true
    · simp only [Bool.and_eq_true, isW_iff] at hw
      rcases h2 with ⟨⟨x, hx, hxw⟩, _⟩ | ⟨_, h2⟩
      · have := all x hx
        have : isW x = true := by rw [isW_iff]; omega
        rw [hxw] at this; cases this
      · have hh : IsHull (outR op (wl al ah) (wl bl bh)) (true, sl, sh) := .inr ⟨rfl, sub _ k2, sub _ k3, all⟩
        rw [IsHull.uniq h2 hh (fun _ => Iff.rfl)]
        unfold doFin
        rw [if_pos rfl, if_pos (by simp [isW_iff]; omega)]
    · rcases h2 with ⟨_, rfl⟩ | ⟨hall, _⟩
      · unfold doFin; rw [if_pos rfl, if_neg hw]
      · exact absurd (by simp [hall _ (sub _ k2), hall _ (sub _ k3)]) hw
end Go.Proofs.Ytekmapilhomdgaa.Pu

namespace Go.Proofs.Ytekmapilhomdgaa.Pu
open Go.RowKit Go.Proofs.Ytekmapilhomdgaa.P Go.Proofs.YtekmapilhomdgaaW.PrintWords Go.Proofs.YtekmapilhomdgaaW.PrintLast
set_option linter.unusedSimpArgs false
set_option linter.unusedVariables false
theorem specSpanMeet_ev (a b : Sp) : spec_SpanMeet.f a.1 a.2.1 a.2.2 b.1 b.2.1 b.2.2 = some (if (a.1 && spOk a && (b.1 && spOk b)) = true then (if mx a.2.1 b.2.1 > mn a.2.2 b.2.2 then spNone else (true, mx a.2.1 b.2.1, mn a.2.2 b.2.2)) else spNone) := by
  unfold spec_SpanMeet.f
  simp only [l1Some_ev, l1Of_ev, Option.bind_some]
  by_cases h1 : (a.1 && spOk a) = true
  · by_cases h2 : (b.1 && spOk b) = true
    · simp only [show (a.1, a.2.1, a.2.2) = a from rfl, show (b.1, b.2.1, b.2.2) = b from rfl, h1, h2, if_true, Bool.and_self]
    · simp only [show (a.1, a.2.1, a.2.2) = a from rfl, show (b.1, b.2.1, b.2.2) = b from rfl, h1, h2, if_true, if_false, Bool.and_false, Bool.true_and, Bool.false_eq_true, spNone]
  · simp only [show (a.1, a.2.1, a.2.2) = a from rfl, h1, if_false, Bool.false_and, Bool.false_eq_true, spNone]
/-- Asked whether they are the same. -/
def sameV (a b : Sp) : Sp := if mx a.2.1 b.2.1 > mn a.2.2 b.2.2 then (true, 0, 0) else if a = b ∧ a.2.1 = a.2.2 then (true, 1, 1) else (true, 0, 1)
theorem l1Same_ev (k : Nat) (al ah bl bh : Int) (ha : spOk (true, al, ah) = true) (hb : spOk (true, bl, bh) = true) : spec_l1Same.f (k + 1) true al ah true bl bh = some (sameV (true, al, ah) (true, bl, bh)) := by
  have hm := specSpanMeet_ev (true, al, ah) (true, bl, bh)
  simp only [ha, hb, Bool.and_self, if_true] at hm
  unfold spec_l1Same.f
  rw [hm]
  simp only [Option.bind_some, l1Of_ev, spec_l1Same.j0]
  unfold sameV
  by_cases h : mx al bl > mn ah bh
  · simp [h, spNone]
  · simp only [h, if_false, if_true]
    by_cases h2 : al = bl
    · subst h2
      by_cases h3 : ah = bh
      · subst h3
        by_cases h4 : al = ah
        · simp [h4]
        · simp [h4]
      · simp [h3]
    · simp [h2]
theorem same_hull {al ah bl bh : Int} (ha : spOk (true, al, ah) = true) (hb : spOk (true, bl, bh) = true) {s : Sp} (h : DoRes (outR 6 (wl al ah) (wl bl bh)) s) : s = sameV (true, al, ah) (true, bl, bh) := by
  have hA := spOk_true ha
  have hB := spOk_true hb
  have mem : ∀ r, r ∈ outR 6 (wl al ah) (wl bl bh) ↔ ∃ x y, al ≤ x ∧ x ≤ ah ∧ bl ≤ y ∧ y ≤ bh ∧ r = if x = y then 1 else 0 := by
    intro r
    rw [mem_outR]
    constructor
    · rintro ⟨x, hx, y, hy, hr⟩
      rw [mem_wl] at hx hy
      rw [rawo_word (by rw [isW_iff]; omega) (by rw [isW_iff]; omega), if_pos (by simp [opOk]), rawI_6] at hr
      exact ⟨x, y, hx.1, hx.2, hy.1, hy.2, (Option.some.inj hr).symm⟩
    · rintro ⟨x, y, h1, h2, h3, h4, rfl⟩
      exact ⟨x, by rw [mem_wl]; omega, y, by rw [mem_wl]; omega, by rw [rawo_word (by rw [isW_iff]; omega) (by rw [isW_iff]; omega), if_pos (by simp [opOk]), rawI_6]⟩
  have two : ∀ r ∈ outR 6 (wl al ah) (wl bl bh), 0 ≤ r ∧ r ≤ 1 := by
    intro r hr
    obtain ⟨x, y, _, _, _, _, rfl⟩ := (mem r).1 hr
    split <;> omega
  rcases h with ⟨⟨x, hx, hw⟩, _⟩ | ⟨_, h⟩
  · have := two x hx
    have : isW x = true := by rw [isW_iff]; omega
    rw [hw] at this; cases this
  · refine IsHull.uniq h (l' := outR 6 (wl al ah) (wl bl bh)) ?_ (fun _ => Iff.rfl)
    right
    unfold sameV
    simp only
    by_cases h1 : mx al bl > mn ah bh
    · rw [if_pos h1]
      have ne : ∀ x y, al ≤ x → x ≤ ah → bl ≤ y → y ≤ bh → x ≠ y := by intro x y _ _ _ _ e; unfold mx mn at h1; omega
      have m0 : (0 : Int) ∈ outR 6 (wl al ah) (wl bl bh) := (mem 0).2 ⟨al, bl, by omega, by omega, by omega, by omega, by rw [if_neg (ne _ _ (by omega) (by omega) (by omega) (by omega))]⟩
      refine ⟨rfl, m0, m0, fun r hr => ?_⟩
      obtain ⟨x, y, g1, g2, g3, g4, rfl⟩ := (mem r).1 hr
      rw [if_neg (ne _ _ g1 g2 g3 g4)]; simp
    · rw [if_neg h1]
      have m1 : (1 : Int) ∈ outR 6 (wl al ah) (wl bl bh) := (mem 1).2 ⟨mx al bl, mx al bl, by unfold mx; omega, by unfold mx mn at *; omega, by unfold mx; omega, by unfold mx mn at *; omega, by simp⟩
      by_cases h2 : ((true, al, ah) : Sp) = (true, bl, bh) ∧ al = ah
      · rw [if_pos h2]
        obtain ⟨e1, e2⟩ := h2
        simp only [Prod.mk.injEq, true_and] at e1
        refine ⟨rfl, m1, m1, fun r hr => ?_⟩
        obtain ⟨x, y, g1, g2, g3, g4, rfl⟩ := (mem r).1 hr
        rw [if_pos (by omega)]; simp
      · rw [if_neg h2]
        have hne : al ≠ bl ∨ ah ≠ bh ∨ al ≠ ah := by
          simp only [Prod.mk.injEq, true_and] at h2
          omega
        have m0 : (0 : Int) ∈ outR 6 (wl al ah) (wl bl bh) := by
          rw [mem]
          by_cases e : al = bl
          · by_cases e2 : al = ah
            · exact ⟨al, bh, by omega, by omega, by omega, by omega, by rw [if_neg (by omega)]⟩
            · exact ⟨ah, bl, by omega, by omega, by omega, by omega, by rw [if_neg (by omega)]⟩
          · exact ⟨al, bl, by omega, by omega, by omega, by omega, by rw [if_neg (by omega)]⟩
        exact ⟨rfl, m0, m1, fun r hr => two r hr⟩
theorem outR_none {op : Int} {xs ys : List Int} (h : ∀ x ∈ xs, ∀ y ∈ ys, rawo op x y = none) : outR op xs ys = [] := by
  rw [List.eq_nil_iff_forall_not_mem]
  intro r hr
  obtain ⟨x, hx, y, hy, e⟩ := mem_outR.1 hr
  rw [h x hx y hy] at e; cases e
theorem DoRes_nil {s : Sp} (h : DoRes [] s) : s = spNone := by
  rcases h with ⟨⟨x, hx, _⟩, _⟩ | ⟨_, h⟩
  · cases hx
  · rcases h with ⟨_, h⟩ | ⟨_, h, _⟩
    · exact h
    · cases h
/-- SpanDo of both. -/
theorem spanDo_both (op : Int) (a b : Sp) : ∃ s, Ev (fun k => impl_SpanDo.f k op a.1 a.2.1 a.2.2 b.1 b.2.1 b.2.2) s ∧ Ev (fun k => spec_SpanDo.f k op a.1 a.2.1 a.2.2 b.1 b.2.1 b.2.2) s ∧
    if (spOk a && spOk b) = true then DoRes (outR op (wds a) (wds b)) s else s = spNone := by
  obtain ⟨s, h1, h2⟩ := implSpanDo_ev op a b
  refine ⟨s, h1, ?_, h2⟩
  have none_ : s = spNone → (∀ k, spec_SpanDo.f (k + 1) op a.1 a.2.1 a.2.2 b.1 b.2.1 b.2.2 = some spNone) → Ev (fun k => spec_SpanDo.f k op a.1 a.2.1 a.2.2 b.1 b.2.1 b.2.2) s := by
    rintro rfl h; exact Ev.step (f := fun _ => some spNone) h (Ev.now _)
  by_cases ho : 1 ≤ op ∧ op ≤ 6
  · by_cases hA : (a.1 && spOk a) = true
    · by_cases hB : (b.1 && spOk b) = true
      · obtain ⟨a1, al, ah⟩ := a
        obtain ⟨b1, bl, bh⟩ := b
        have ha1 : a1 = true := by simp at hA; exact hA.1
        have hb1 : b1 = true := by simp at hB; exact hB.1
        subst ha1; subst hb1
        have ha : spOk (true, al, ah) = true := by simpa using hA
        have hb : spOk (true, bl, bh) = true := by simpa using hB
        rw [if_pos (by simp [ha, hb])] at h2
        have hA' := spOk_true ha
        have hB' := spOk_true hb
        by_cases h6 : op = 6
        · subst h6
          have e := same_hull ha hb h2
          subst e
          refine Ev.step (f := fun k => spec_SpanDo.f (k + 1) 6 true al ah true bl bh) (fun k => rfl) ?_
          refine Ev.step (f := fun k => some (sameV (true, al, ah) (true, bl, bh))) (fun k => ?_) (Ev.now _)
          unfold spec_SpanDo.f
          simp only [l6In_ev, l1Some_ev, Option.bind_some, ha, hb, Bool.and_self, if_true, Bool.not_true, spec_SpanDo.j0, l1Same_ev k al ah bl bh ha hb]
          simp
        · have ho5 : 1 ≤ op ∧ op ≤ 5 := by omega
          obtain ⟨s', g1, g2⟩ := specDo_loop op (true, al, ah) ha rfl bl bh (by omega) (by omega) (endsOf op bl bh) rfl (by
            have : (endsOf op bl bh).length ≤ ([bl, bh, -1, 1] : List Int).length := List.length_filter_le _ _
            simp at this; omega) (endsOf op bl bh).length 0 spNone [] (by omega) (by omega) (.inl ⟨rfl, rfl⟩)
          have e := do_ends ho5 ha hb (s' := s') (by simpa using g1) h2
          rw [e] at g2
          refine Ev.step (f := fun k => (spec_l1Ends.f k op true bl bh).bind fun t => spec_SpanDo.l0 k op t 0 true al ah false 0 0) (fun k => ?_) (Ev.bind (l1Ends_ev op true bl bh) g2)
          unfold spec_SpanDo.f
          simp only [l6In_ev, l1Some_ev, Option.bind_some, ha, hb, Bool.and_self, if_true, Bool.not_true, spec_SpanDo.j0, ho, and_self, decide_true, Bool.false_eq_true, if_false, h6]
      · have hb0 : ¬ (b.1 = true ∧ spOk b = true) := by simpa using hB
        have es : s = spNone := by
          by_cases hk : (spOk a && spOk b) = true
          · rw [if_pos hk] at h2
            have : wds b = [] := by
              unfold wds
              rw [if_neg]
              intro e
              simp at hk
              exact hb0 ⟨e, hk.2⟩
            rw [this, outR_none (by intro x _ y hy; cases hy)] at h2
            exact DoRes_nil h2
          · rw [if_neg hk] at h2; exact h2
        refine none_ es (fun k => ?_)
        have hB' : (b.1 && spOk b) = false := by simpa using hB
        unfold spec_SpanDo.f
        simp only [l6In_ev, l1Some_ev, Option.bind_some, show (a.1, a.2.1, a.2.2) = a from rfl, show (b.1, b.2.1, b.2.2) = b from rfl, hA, hB', ho, and_self, decide_true, if_true, Bool.not_false, spec_SpanDo.j0, spNone]
    · have ha0 : ¬ (a.1 = true ∧ spOk a = true) := by simpa using hA
      have es : s = spNone := by
        by_cases hk : (spOk a && spOk b) = true
        · rw [if_pos hk] at h2
          have : wds a = [] := by
            unfold wds
            rw [if_neg]
            intro e
            simp at hk
            exact ha0 ⟨e, hk.1⟩
          rw [this, outR_none (by intro x hx; cases hx)] at h2
          exact DoRes_nil h2
        · rw [if_neg hk] at h2; exact h2
      refine none_ es (fun k => ?_)
      have hA' : (a.1 && spOk a) = false := by simpa using hA
      unfold spec_SpanDo.f
      simp only [l6In_ev, l1Some_ev, Option.bind_some, show (a.1, a.2.1, a.2.2) = a from rfl, hA', ho, and_self, decide_true, if_true, if_false, Bool.false_eq_true, spec_SpanDo.j0, spNone]
  · have es : s = spNone := by
      by_cases hk : (spOk a && spOk b) = true
      · rw [if_pos hk] at h2
        simp at hk
        rw [outR_none (by
          intro x hx y hy
          rw [rawo_word (wds_word hk.1 hx) (wds_word hk.2 hy), if_neg (by simp [opOk]; omega)])] at h2
        exact DoRes_nil h2
      · rw [if_neg hk] at h2; exact h2
    refine none_ es (fun k => ?_)
    unfold spec_SpanDo.f
    simp only [l6In_ev, Option.bind_some, ho, decide_false, if_false, Bool.false_eq_true, spec_SpanDo.j0, if_true, spNone]
end Go.Proofs.Ytekmapilhomdgaa.Pu

namespace Go.Proofs.Ytekmapilhomdgaa.Pure
open Go.RowKit Go.Proofs.Ytekmapilhomdgaa.P Go.Proofs.Ytekmapilhomdgaa.Pu Go.Proofs.YtekmapilhomdgaaW.PrintWords Go.Proofs.YtekmapilhomdgaaW.PrintLast
theorem FnExactSpanDo (op : Int) (b1 : Bool) (x1 y1 : Int) (b2 : Bool) (x2 y2 : Int) : ∃ k, laws_FnExactSpanDo.f k op b1 x1 y1 b2 x2 y2 = some true := by
  obtain ⟨s, h1, h2, _⟩ := spanDo_both op (b1, x1, y1) (b2, x2, y2)
  refine Ev.rounds (g := fun k => laws_FnExactSpanDo.f k op b1 x1 y1 b2 x2 y2) ?_
  unfold laws_FnExactSpanDo.f
  simp only [laws_toSpan.f, Option.bind_some]
  refine Ev.bind h2 (Ev.bind h1 (Ev.congr (f := fun _ => some true) (fun k => ?_) (Ev.now _)))
  simp [laws_eqSpan.f]
end Go.Proofs.Ytekmapilhomdgaa.Pure

