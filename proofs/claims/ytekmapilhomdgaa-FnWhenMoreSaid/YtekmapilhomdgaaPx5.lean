/- The contracts of Go functions of this seat: each call comes to what the Lean function of the same name says. -/
import Derived.Test.YtekmapilhomdgaaPx0
namespace Go.Proofs.Ytekmapilhomdgaa.P
open Go.RowKit Go.Proofs.YtekmapilhomdgaaW.PrintWords Go.Proofs.YtekmapilhomdgaaW.PrintLast Go.Proofs.YtekmapilhomdgaaW.PrintMore
attribute [local go_sem] max2_int min2_int max_two min_two max_three min_three max_four min_four   -- for this text's walks alone
set_option linter.unusedVariables false
set_option linter.unusedSimpArgs false

/-! ### impl_isWord: function 34 -/
def impl_isWord.f (a0 : Int) : Option (Bool) := if a0 ≥ (-16) then (some (decide (a0 ≤ 15))) else (some false)
set_option maxHeartbeats 8000000 in
set_option maxRecDepth 100000 in
theorem impl_isWord.calls (a0 : Int) (r : Bool) (w : World) (h : impl_isWord.f a0 = some r) :
    Calls Try.prog 34 #[.int .i64 a0] w fun e w' => e = .returned (.bool r) ∧ Drawn0 w w' := by
  unfold impl_isWord.f at h
  have H := h
  clear h
  by_cases c2 : a0 ≥ (-16)
  · rw [if_pos c2] at H
    have c2b0 : decide ((-16) ≤ a0) = true := decide_eq_true c2
    clear c2
    obtain rfl := Option.some.inj H
    go_enter Try.func34, Try.ntmps34
    go_wp2
    go_ret
    exact ⟨by first | rfl | (simp; done) | (simp [*]; done), by repeat (first | exact Drawn0.refl _ | apply Drawn0.step)⟩
  · rw [if_neg c2] at H
    have c2b0 : decide ((-16) ≤ a0) = false := decide_eq_false c2
    clear c2
    obtain rfl := Option.some.inj H
    go_enter Try.func34, Try.ntmps34
    go_wp2
    go_ret
    exact ⟨by first | rfl | (simp; done) | (simp [*]; done), by repeat (first | exact Drawn0.refl _ | apply Drawn0.step)⟩

/-! ### impl_raw: function 35 (by hand) -/
theorem hp_isKey_int (k : Int) : MapKept.IsKey (.int .i64) (.int .i64 k) := by simp [MapKept.IsKey]
theorem hp_findNow_nil (d : TypeDesc) (k : Value) (i : Nat) : Instr.findNow d k [] i = some none := rfl
theorem hp_findNow_cons (a b : Int) (v : Value) (n : Nat) (es : List MapEntry) (i : Nat) : Instr.findNow (.int .i64) (.int .i64 a) (⟨.int .i64 b, v, n⟩ :: es) i = if a = b then some (some (i, v)) else Instr.findNow (.int .i64) (.int .i64 a) es (i + 1) := by
  by_cases h : a = b
  · simp [Instr.findNow, Instr.sameNow, h]
  · simp [Instr.findNow, Instr.sameNow, h, show (a == b) = false by simp [h]]
theorem hp_int_insert_new {P : Program} {t kt et : TypeId} (ht : P.underlying t = some (.map kt et)) (hk : P.underlying kt = some (.int .i64)) (w : World) (es : Array MapEntry) (clock : Nat) (k : Int) (v : Value)
    (hf : Instr.findNow (.int .i64) (.int .i64 k) es.toList 0 = some none) :
    Sem.run P (Instr.mapUpdate t (.map (some w.heap.size)) (.int .i64 k) v) (w.alloc (.map es clock)) = .ok () (w.alloc (.map (es.push ⟨.int .i64 k, v, clock⟩) (clock + 1))) := by
  have hb := (MapKept.heap_alloc w (.map es clock)).1
  have e : (w.heap.push (.map es clock)).setIfInBounds w.heap.size (.map (es.push ⟨.int .i64 k, v, clock⟩) (clock + 1)) = w.heap.push (.map (es.push ⟨.int .i64 k, v, clock⟩) (clock + 1)) := by
    apply Array.ext (by simp)
    intro i h1 h2
    simp only [Array.size_push] at h2
    rw [Array.getElem_setIfInBounds (by simpa using h2), Array.getElem_push, Array.getElem_push]
    by_cases hi : w.heap.size = i
    · simp [hi]
    · simp [hi, show i < w.heap.size by omega]
  simp only [Instr.mapUpdate, Sem.run_bind, run_underlying ht, Result.andThen_ok, MapKept.run_getObj_map hb, MapKept.run_checkKey (d := .int .i64) hk (k := .int .i64 k) (hp_isKey_int k), MapKept.run_findKey hk hf, MapKept.run_setObj_map _ hb]
  simp only [World.alloc, e]
theorem hp_int_lookup {P : Program} {t kt et : TypeId} (ht : P.underlying t = some (.map kt et)) (hk : P.underlying kt = some (.int .i64)) (w : World) (b : Nat) (es : Array MapEntry) (clock : Nat) (hb : w.heap[b]? = some (.map es clock)) (k : Int) (z : Value) (hz : ∀ w, (zeroValue et).run P w = .ok z w)
    (r : Option (Nat × Value)) (hf : Instr.findNow (.int .i64) (.int .i64 k) es.toList 0 = some r) :
    Sem.run P (Instr.lookup t (.map (some b)) (.int .i64 k) true) w = .ok (.tuple #[match r with | some (_, v) => v | none => z, .bool r.isSome]) w := by
  simp only [Instr.lookup, Sem.run_bind, run_underlying ht, Result.andThen_ok, MapKept.run_getObj_map hb, MapKept.run_checkKey (d := .int .i64) hk (k := .int .i64 k) (hp_isKey_int k)]
  cases r with
  | none => simp [MapKept.run_findKey hk hf, hz, Result.andThen_ok]
  | some p => simp [MapKept.run_findKey hk hf, Result.andThen_ok]
theorem hp_zero_op (w : World) : (zeroValue 64).run Try.prog w = .ok .nilFunc w := by kernel_rfl
def impl_raw.v (op a b : Int) : Int × Bool :=
  if op = 1 then (wrap64 (a + b), true) else if op = 2 then (wrap64 (a - b), true) else if op = 3 then (wrap64 (a * b), true)
  else if op = 4 then (if b = 0 then (0, false) else (wrap64 (Int.tdiv a b), true))
  else if op = 5 then (if a < b then 1 else 0, true) else if op = 6 then (if a = b then 1 else 0, true) else (0, false)
def impl_raw.f (a0 a1 a2 : Int) : Option (Int × Bool) := some (impl_raw.v a0 a1 a2)
set_option maxHeartbeats 4000000 in
set_option maxRecDepth 10000 in
theorem impl_raw.calls_v (op a b : Int) (w : World) : Calls Try.prog 35 #[.int .i64 op, .int .i64 a, .int .i64 b] w fun e w' => e = .returned (.tuple #[.int .i64 (impl_raw.v op a b).1, .bool (impl_raw.v op a b).2]) ∧ Below w.heap.size w w' := by
  have hmm := @run_makeMap Try.prog
  have hi := fun es c k v => @hp_int_insert_new Try.prog 67 3 _ Try.underlying67 Try.underlying3 w es c k v
  have hl := fun es c k => hp_int_lookup Try.underlying67 Try.underlying3 (w.alloc (.map es c)) w.heap.size es c (MapKept.heap_alloc w (.map es c)).1 k .nilFunc hp_zero_op
  have f0 := hp_findNow_nil
  have f1 := hp_findNow_cons
  have hB : Aside0 (∀ o, Below w.heap.size w (w.alloc o)) := ⟨fun o => (Below.refl _ _).alloc (Nat.le_refl _) o⟩
  by_cases h1 : op = 1
  · subst h1
    go_enter Try.func35, Try.ntmps35
    go_wp2
    go_ret2
    exact ⟨rfl, hB.out _⟩
  by_cases h2 : op = 2
  · subst h2
    go_enter Try.func35, Try.ntmps35
    go_wp2
    go_ret2
    exact ⟨rfl, hB.out _⟩
  by_cases h3 : op = 3
  · subst h3
    go_enter Try.func35, Try.ntmps35
    go_wp2
    go_ret2
    exact ⟨rfl, hB.out _⟩
  by_cases h4 : op = 4
  · subst h4
    by_cases hb : b = 0
    · subst hb
      go_enter Try.func35, Try.ntmps35
      go_wp2
      go_ret2
      exact ⟨rfl, hB.out _⟩
    · have hb' : (b == 0) = false := by simp [hb]
      go_enter Try.func35, Try.ntmps35
      go_wp2
      go_ret2
      exact ⟨by simp [impl_raw.v, hb], hB.out _⟩
  by_cases h5 : op = 5
  · subst h5
    by_cases hb : a < b
    · go_enter Try.func35, Try.ntmps35
      go_wp2
      go_ret2
      exact ⟨by simp [impl_raw.v, hb], hB.out _⟩
    · go_enter Try.func35, Try.ntmps35
      go_wp2
      go_ret2
      exact ⟨by simp [impl_raw.v, hb], hB.out _⟩
  by_cases h6 : op = 6
  · subst h6
    by_cases hb : a = b
    · subst hb
      go_enter Try.func35, Try.ntmps35
      go_wp2
      go_ret2
      exact ⟨by simp [impl_raw.v], hB.out _⟩
    · have hb' : (a == b) = false := by simp [hb]
      go_enter Try.func35, Try.ntmps35
      go_wp2
      go_ret2
      exact ⟨by simp [impl_raw.v, hb], hB.out _⟩
  go_enter Try.func35, Try.ntmps35
  go_wp2
  go_ret2
  exact ⟨by simp [impl_raw.v, h1, h2, h3, h4, h5, h6], hB.out _⟩
theorem impl_raw.calls (a0 a1 a2 : Int) (r1 : Int) (r2 : Bool) (w : World) (h : impl_raw.f a0 a1 a2 = some (r1, r2)) :
    Calls Try.prog 35 #[.int .i64 a0, .int .i64 a1, .int .i64 a2] w fun e w' => e = .returned (.tuple #[.int .i64 r1, .bool r2]) ∧ Below w.heap.size w w' := by
  have e := Option.some.inj h
  have e1 : (impl_raw.v a0 a1 a2).1 = r1 := by rw [e]
  have e2 : (impl_raw.v a0 a1 a2).2 = r2 := by rw [e]
  rw [← e1, ← e2]
  exact impl_raw.calls_v a0 a1 a2 w

/-! ### impl_NumWrap: function 36 -/
def impl_NumWrap.f (a0 : Int) : Option (Int) := if (Int.tmod (wrap64 ((Int.tmod a0 32) + 32)) 32) > 15 then (some (wrap64 ((Int.tmod (wrap64 ((Int.tmod a0 32) + 32)) 32) - 32))) else (some (Int.tmod (wrap64 ((Int.tmod a0 32) + 32)) 32))
set_option maxHeartbeats 8000000 in
set_option maxRecDepth 100000 in
theorem impl_NumWrap.calls (a0 : Int) (r : Int) (w : World) (h : impl_NumWrap.f a0 = some r) :
    Calls Try.prog 36 #[.int .i64 a0] w fun e w' => e = .returned (.int .i64 r) ∧ Drawn0 w w' := by
  unfold impl_NumWrap.f at h
  have H := h
  clear h
  by_cases c2 : (Int.tmod (wrap64 ((Int.tmod a0 32) + 32)) 32) > 15
  · rw [if_pos c2] at H
    have c2b0 : decide (15 < (Int.tmod (wrap64 ((Int.tmod a0 32) + 32)) 32)) = true := decide_eq_true c2
    clear c2
    obtain rfl := Option.some.inj H
    go_enter Try.func36, Try.ntmps36
    go_wp2
    go_ret
    exact ⟨by first | rfl | (simp; done) | (simp [*]; done), by repeat (first | exact Drawn0.refl _ | apply Drawn0.step)⟩
  · rw [if_neg c2] at H
    have c2b0 : decide (15 < (Int.tmod (wrap64 ((Int.tmod a0 32) + 32)) 32)) = false := decide_eq_false c2
    clear c2
    obtain rfl := Option.some.inj H
    go_enter Try.func36, Try.ntmps36
    go_wp2
    go_ret
    exact ⟨by first | rfl | (simp; done) | (simp [*]; done), by repeat (first | exact Drawn0.refl _ | apply Drawn0.step)⟩

end Go.Proofs.Ytekmapilhomdgaa.P
