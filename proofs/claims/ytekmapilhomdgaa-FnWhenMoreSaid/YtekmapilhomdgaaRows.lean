/-
  No cell of these rows narrows 'for every input' (looked for: loops, veiled, ifaces, maps, wideKeys, modest, calm, conditions, laid).
  DERIVED. THE GIVEN ROWS OF THIS SEAT. 9 by the template 'for every input the law returns true; each argument reads behind the call as it read before'; 0 by the template 'total and deterministic' (their statements: YtekmapilhomdgaaTotals.lean).
  GIVEN WITH THE SEED: the statements are not yours to turn. If you find one false, say at which input.
  Laid BY PROGRAM, IN A SANDBOX (cutbox-rows.mjs): the forced cells as the released guide's own fill.sh prints them over the translation cd29f1f59c3d7161… (all of the seat's roots in one cut). By AI agents, Wed Nov 11 2026. No macro, syntax, notation, axiom, sorry.
-/
import Derived.Test.YtekmapilhomdgaaChecked
import GoSem.Claim
import GoSem.ClaimJoined
import GoSem.ClaimMapViews
import Derived.JoinedTies
import Derived.KernelRfl
namespace Go.Proofs.Ytekmapilhomdgaa
/- THE CELL 'sum', in the pinned program and in every row, IS THE sha256 OF THE DUMP (.gsa) THAT YtekmapilhomdgaaProg.lean LOADS. Nothing in Lean hashes anything: it is a label: what it is worth is what the hold of that sum in a sandbox is worth. -/
noncomputable def Try.pinned : Pinned := { name := "ytekmapilhomdgaa", sum := "cd29f1f59c3d7161c572628d470dc5c8f12c537d6d6090e5a23f8dcb3c09b54d", checked := Try.checked }
namespace Rows
def none {H : Type} : Left H := { results := [], args := [] }

/-- 'laws.FnExactNumDo': WHATEVER THE INPUT: true; the input reads as it did. -/
def fnExactNumDoSpec : ChangeSpec := { name := "fnExactNumDo", fn := fun _ => fun
  | [d1, d2, d3] => { results := [.lit (.bool true)], args := [d1, d2, d3] }
  | _ => none }
def fnExactNumDoRow : OpenClaim := { program := "ytekmapilhomdgaa", sum := "cd29f1f59c3d7161c572628d470dc5c8f12c537d6d6090e5a23f8dcb3c09b54d", func := "loop.example/gauger/laws.FnExactNumDo", spec := "fnExactNumDo", unfollowed := true, recurses := true, apart := false }
def FnExactNumDoSaid : Prop := fnExactNumDoRow.holds Try.pinned (OpenSpec.ofChange fnExactNumDoSpec)

/-- ITS FALSE NEIGHBOUR: 'it returns false'. Refute it at one input. -/
def fnExactNumDoWrong : ChangeSpec := { name := "fnExactNumDo", fn := fun _ => fun
  | [d1, d2, d3] => { results := [.lit (.bool false)], args := [d1, d2, d3] }
  | _ => none }
def FnExactNumDoWrongFalsely : Prop := fnExactNumDoRow.holds Try.pinned (OpenSpec.ofChange fnExactNumDoWrong)

/-- 'laws.FnDoRing': WHATEVER THE INPUT: true; the input reads as it did. -/
def fnDoRingSpec : ChangeSpec := { name := "fnDoRing", fn := fun _ => fun
  | [d1, d2] => { results := [.lit (.bool true)], args := [d1, d2] }
  | _ => none }
def fnDoRingRow : OpenClaim := { program := "ytekmapilhomdgaa", sum := "cd29f1f59c3d7161c572628d470dc5c8f12c537d6d6090e5a23f8dcb3c09b54d", func := "loop.example/gauger/laws.FnDoRing", spec := "fnDoRing", unfollowed := true, recurses := true, apart := false }
def FnDoRingSaid : Prop := fnDoRingRow.holds Try.pinned (OpenSpec.ofChange fnDoRingSpec)

/-- ITS FALSE NEIGHBOUR: 'it returns false'. Refute it at one input. -/
def fnDoRingWrong : ChangeSpec := { name := "fnDoRing", fn := fun _ => fun
  | [d1, d2] => { results := [.lit (.bool false)], args := [d1, d2] }
  | _ => none }
def FnDoRingWrongFalsely : Prop := fnDoRingRow.holds Try.pinned (OpenSpec.ofChange fnDoRingWrong)

/-- 'laws.FnDoDiv': WHATEVER THE INPUT: true; the input reads as it did. -/
def fnDoDivSpec : ChangeSpec := { name := "fnDoDiv", fn := fun _ => fun
  | [d] => { results := [.lit (.bool true)], args := [d] }
  | _ => none }
def fnDoDivRow : OpenClaim := { program := "ytekmapilhomdgaa", sum := "cd29f1f59c3d7161c572628d470dc5c8f12c537d6d6090e5a23f8dcb3c09b54d", func := "loop.example/gauger/laws.FnDoDiv", spec := "fnDoDiv", unfollowed := true, recurses := true, apart := false }
def FnDoDivSaid : Prop := fnDoDivRow.holds Try.pinned (OpenSpec.ofChange fnDoDivSpec)

/-- ITS FALSE NEIGHBOUR: 'it returns false'. Refute it at one input. -/
def fnDoDivWrong : ChangeSpec := { name := "fnDoDiv", fn := fun _ => fun
  | [d] => { results := [.lit (.bool false)], args := [d] }
  | _ => none }
def FnDoDivWrongFalsely : Prop := fnDoDivRow.holds Try.pinned (OpenSpec.ofChange fnDoDivWrong)

/-- 'laws.FnExactSpanWhen': WHATEVER THE INPUT: true; the input reads as it did. -/
def fnExactSpanWhenSpec : ChangeSpec := { name := "fnExactSpanWhen", fn := fun _ => fun
  | [d1, d2, d3, d4] => { results := [.lit (.bool true)], args := [d1, d2, d3, d4] }
  | _ => none }
def fnExactSpanWhenRow : OpenClaim := { program := "ytekmapilhomdgaa", sum := "cd29f1f59c3d7161c572628d470dc5c8f12c537d6d6090e5a23f8dcb3c09b54d", func := "loop.example/gauger/laws.FnExactSpanWhen", spec := "fnExactSpanWhen", unfollowed := true, recurses := true, apart := false }
def FnExactSpanWhenSaid : Prop := fnExactSpanWhenRow.holds Try.pinned (OpenSpec.ofChange fnExactSpanWhenSpec)

/-- ITS FALSE NEIGHBOUR: 'it returns false'. Refute it at one input. -/
def fnExactSpanWhenWrong : ChangeSpec := { name := "fnExactSpanWhen", fn := fun _ => fun
  | [d1, d2, d3, d4] => { results := [.lit (.bool false)], args := [d1, d2, d3, d4] }
  | _ => none }
def FnExactSpanWhenWrongFalsely : Prop := fnExactSpanWhenRow.holds Try.pinned (OpenSpec.ofChange fnExactSpanWhenWrong)

/-- 'laws.FnExactSpanDo': WHATEVER THE INPUT: true; the input reads as it did. -/
def fnExactSpanDoSpec : ChangeSpec := { name := "fnExactSpanDo", fn := fun _ => fun
  | [d1, d2, d3] => { results := [.lit (.bool true)], args := [d1, d2, d3] }
  | _ => none }
def fnExactSpanDoRow : OpenClaim := { program := "ytekmapilhomdgaa", sum := "cd29f1f59c3d7161c572628d470dc5c8f12c537d6d6090e5a23f8dcb3c09b54d", func := "loop.example/gauger/laws.FnExactSpanDo", spec := "fnExactSpanDo", unfollowed := true, recurses := true, apart := false }
def FnExactSpanDoSaid : Prop := fnExactSpanDoRow.holds Try.pinned (OpenSpec.ofChange fnExactSpanDoSpec)

/-- ITS FALSE NEIGHBOUR: 'it returns false'. Refute it at one input. -/
def fnExactSpanDoWrong : ChangeSpec := { name := "fnExactSpanDo", fn := fun _ => fun
  | [d1, d2, d3] => { results := [.lit (.bool false)], args := [d1, d2, d3] }
  | _ => none }
def FnExactSpanDoWrongFalsely : Prop := fnExactSpanDoRow.holds Try.pinned (OpenSpec.ofChange fnExactSpanDoWrong)

/-- 'laws.FnWhenMore': WHATEVER THE INPUT: true; the input reads as it did. -/
def fnWhenMoreSpec : ChangeSpec := { name := "fnWhenMore", fn := fun _ => fun
  | [d1, d2] => { results := [.lit (.bool true)], args := [d1, d2] }
  | _ => none }
def fnWhenMoreRow : OpenClaim := { program := "ytekmapilhomdgaa", sum := "cd29f1f59c3d7161c572628d470dc5c8f12c537d6d6090e5a23f8dcb3c09b54d", func := "loop.example/gauger/laws.FnWhenMore", spec := "fnWhenMore", unfollowed := true, recurses := true, apart := false }
def FnWhenMoreSaid : Prop := fnWhenMoreRow.holds Try.pinned (OpenSpec.ofChange fnWhenMoreSpec)

/-- ITS FALSE NEIGHBOUR: 'it returns false'. Refute it at one input. -/
def fnWhenMoreWrong : ChangeSpec := { name := "fnWhenMore", fn := fun _ => fun
  | [d1, d2] => { results := [.lit (.bool false)], args := [d1, d2] }
  | _ => none }
def FnWhenMoreWrongFalsely : Prop := fnWhenMoreRow.holds Try.pinned (OpenSpec.ofChange fnWhenMoreWrong)

/-- 'laws.FnSpanWhen': WHATEVER THE INPUT: true; the input reads as it did. -/
def fnSpanWhenSpec : ChangeSpec := { name := "fnSpanWhen", fn := fun _ => fun
  | [d] => { results := [.lit (.bool true)], args := [d] }
  | _ => none }
def fnSpanWhenRow : OpenClaim := { program := "ytekmapilhomdgaa", sum := "cd29f1f59c3d7161c572628d470dc5c8f12c537d6d6090e5a23f8dcb3c09b54d", func := "loop.example/gauger/laws.FnSpanWhen", spec := "fnSpanWhen", unfollowed := true, recurses := true, apart := false }
def FnSpanWhenSaid : Prop := fnSpanWhenRow.holds Try.pinned (OpenSpec.ofChange fnSpanWhenSpec)

/-- ITS FALSE NEIGHBOUR: 'it returns false'. Refute it at one input. -/
def fnSpanWhenWrong : ChangeSpec := { name := "fnSpanWhen", fn := fun _ => fun
  | [d] => { results := [.lit (.bool false)], args := [d] }
  | _ => none }
def FnSpanWhenWrongFalsely : Prop := fnSpanWhenRow.holds Try.pinned (OpenSpec.ofChange fnSpanWhenWrong)

/-- 'laws.FnDoMore': WHATEVER THE INPUT: true; the input reads as it did. -/
def fnDoMoreSpec : ChangeSpec := { name := "fnDoMore", fn := fun _ => fun
  | [d1, d2] => { results := [.lit (.bool true)], args := [d1, d2] }
  | _ => none }
def fnDoMoreRow : OpenClaim := { program := "ytekmapilhomdgaa", sum := "cd29f1f59c3d7161c572628d470dc5c8f12c537d6d6090e5a23f8dcb3c09b54d", func := "loop.example/gauger/laws.FnDoMore", spec := "fnDoMore", unfollowed := true, recurses := true, apart := false }
def FnDoMoreSaid : Prop := fnDoMoreRow.holds Try.pinned (OpenSpec.ofChange fnDoMoreSpec)

/-- ITS FALSE NEIGHBOUR: 'it returns false'. Refute it at one input. -/
def fnDoMoreWrong : ChangeSpec := { name := "fnDoMore", fn := fun _ => fun
  | [d1, d2] => { results := [.lit (.bool false)], args := [d1, d2] }
  | _ => none }
def FnDoMoreWrongFalsely : Prop := fnDoMoreRow.holds Try.pinned (OpenSpec.ofChange fnDoMoreWrong)

/-- 'laws.FnSpanDo': WHATEVER THE INPUT: true; the input reads as it did. -/
def fnSpanDoSpec : ChangeSpec := { name := "fnSpanDo", fn := fun _ => fun
  | [d] => { results := [.lit (.bool true)], args := [d] }
  | _ => none }
def fnSpanDoRow : OpenClaim := { program := "ytekmapilhomdgaa", sum := "cd29f1f59c3d7161c572628d470dc5c8f12c537d6d6090e5a23f8dcb3c09b54d", func := "loop.example/gauger/laws.FnSpanDo", spec := "fnSpanDo", unfollowed := true, recurses := true, apart := false }
def FnSpanDoSaid : Prop := fnSpanDoRow.holds Try.pinned (OpenSpec.ofChange fnSpanDoSpec)

/-- ITS FALSE NEIGHBOUR: 'it returns false'. Refute it at one input. -/
def fnSpanDoWrong : ChangeSpec := { name := "fnSpanDo", fn := fun _ => fun
  | [d] => { results := [.lit (.bool false)], args := [d] }
  | _ => none }
def FnSpanDoWrongFalsely : Prop := fnSpanDoRow.holds Try.pinned (OpenSpec.ofChange fnSpanDoWrong)

/- THE SECOND FORM. 'bulk': how many values and letters a reading holds, each counted each time it is reached (what is shared counts as often as it is met; a slice's spare places count too). A statement '..UptoSaid' is the law's where the arguments, and the package variables that the reading takes, are together of bulk at most 1048576: NARROWER than '..Said'. Prove '..Said' where nothing that the law and all that it calls make is longer than what came in: it says more and counts as full. Else prove '..UptoSaid'. A law counts once. -/
mutual
def uptoBulk {H : Type} : DataW H → Nat
  | .lit (.string bytes) => bytes.length + 1
  | .lit _ => 1
  | .nil => 1
  | .ptr d => uptoBulk d + 1
  | .slice elems spare => uptoBulkAll elems + uptoBulkAll spare + 1
  | .agg parts => uptoBulkAll parts + 1
  | .iface _ d => uptoBulk d + 1
  | .map entries => uptoBulkEntries entries + 1
  | .held _ => 1
def uptoBulkAll {H : Type} : List (DataW H) → Nat
  | [] => 0
  | d :: r => uptoBulk d + uptoBulkAll r
def uptoBulkEntries {H : Type} : List (Lit × DataW H) → Nat
  | [] => 0
  | x :: r => uptoBulkEntry x + uptoBulkEntries r
def uptoBulkEntry {H : Type} : Lit × DataW H → Nat
  | (.string bytes, d) => bytes.length + uptoBulk d + 1
  | (_, d) => uptoBulk d + 1
 end
def uptoSmall : (H : Type) → List (DataW H) → Bool := fun _ ds => decide (uptoBulkAll ds ≤ 1048576)
def OpenSpec.upto (s : _root_.Go.ChangeSpec) : _root_.Go.OpenSpec := { _root_.Go.OpenSpec.ofChange s with cond := some uptoSmall }

/-- 'laws.FnExactNumDo', WHERE WHAT IT READS IS OF BULK AT MOST 1048576: true; the input reads as it did. -/
def fnExactNumDoUptoRow : OpenClaim := { program := "ytekmapilhomdgaa", sum := "cd29f1f59c3d7161c572628d470dc5c8f12c537d6d6090e5a23f8dcb3c09b54d", func := "loop.example/gauger/laws.FnExactNumDo", spec := "fnExactNumDo", unfollowed := true, recurses := true, apart := false, narrowed := true }
def FnExactNumDoUptoSaid : Prop := fnExactNumDoUptoRow.holds Try.pinned (OpenSpec.upto fnExactNumDoSpec)

/-- 'laws.FnDoRing', WHERE WHAT IT READS IS OF BULK AT MOST 1048576: true; the input reads as it did. -/
def fnDoRingUptoRow : OpenClaim := { program := "ytekmapilhomdgaa", sum := "cd29f1f59c3d7161c572628d470dc5c8f12c537d6d6090e5a23f8dcb3c09b54d", func := "loop.example/gauger/laws.FnDoRing", spec := "fnDoRing", unfollowed := true, recurses := true, apart := false, narrowed := true }
def FnDoRingUptoSaid : Prop := fnDoRingUptoRow.holds Try.pinned (OpenSpec.upto fnDoRingSpec)

/-- 'laws.FnDoDiv', WHERE WHAT IT READS IS OF BULK AT MOST 1048576: true; the input reads as it did. -/
def fnDoDivUptoRow : OpenClaim := { program := "ytekmapilhomdgaa", sum := "cd29f1f59c3d7161c572628d470dc5c8f12c537d6d6090e5a23f8dcb3c09b54d", func := "loop.example/gauger/laws.FnDoDiv", spec := "fnDoDiv", unfollowed := true, recurses := true, apart := false, narrowed := true }
def FnDoDivUptoSaid : Prop := fnDoDivUptoRow.holds Try.pinned (OpenSpec.upto fnDoDivSpec)

/-- 'laws.FnExactSpanWhen', WHERE WHAT IT READS IS OF BULK AT MOST 1048576: true; the input reads as it did. -/
def fnExactSpanWhenUptoRow : OpenClaim := { program := "ytekmapilhomdgaa", sum := "cd29f1f59c3d7161c572628d470dc5c8f12c537d6d6090e5a23f8dcb3c09b54d", func := "loop.example/gauger/laws.FnExactSpanWhen", spec := "fnExactSpanWhen", unfollowed := true, recurses := true, apart := false, narrowed := true }
def FnExactSpanWhenUptoSaid : Prop := fnExactSpanWhenUptoRow.holds Try.pinned (OpenSpec.upto fnExactSpanWhenSpec)

/-- 'laws.FnExactSpanDo', WHERE WHAT IT READS IS OF BULK AT MOST 1048576: true; the input reads as it did. -/
def fnExactSpanDoUptoRow : OpenClaim := { program := "ytekmapilhomdgaa", sum := "cd29f1f59c3d7161c572628d470dc5c8f12c537d6d6090e5a23f8dcb3c09b54d", func := "loop.example/gauger/laws.FnExactSpanDo", spec := "fnExactSpanDo", unfollowed := true, recurses := true, apart := false, narrowed := true }
def FnExactSpanDoUptoSaid : Prop := fnExactSpanDoUptoRow.holds Try.pinned (OpenSpec.upto fnExactSpanDoSpec)

/-- 'laws.FnWhenMore', WHERE WHAT IT READS IS OF BULK AT MOST 1048576: true; the input reads as it did. -/
def fnWhenMoreUptoRow : OpenClaim := { program := "ytekmapilhomdgaa", sum := "cd29f1f59c3d7161c572628d470dc5c8f12c537d6d6090e5a23f8dcb3c09b54d", func := "loop.example/gauger/laws.FnWhenMore", spec := "fnWhenMore", unfollowed := true, recurses := true, apart := false, narrowed := true }
def FnWhenMoreUptoSaid : Prop := fnWhenMoreUptoRow.holds Try.pinned (OpenSpec.upto fnWhenMoreSpec)

/-- 'laws.FnSpanWhen', WHERE WHAT IT READS IS OF BULK AT MOST 1048576: true; the input reads as it did. -/
def fnSpanWhenUptoRow : OpenClaim := { program := "ytekmapilhomdgaa", sum := "cd29f1f59c3d7161c572628d470dc5c8f12c537d6d6090e5a23f8dcb3c09b54d", func := "loop.example/gauger/laws.FnSpanWhen", spec := "fnSpanWhen", unfollowed := true, recurses := true, apart := false, narrowed := true }
def FnSpanWhenUptoSaid : Prop := fnSpanWhenUptoRow.holds Try.pinned (OpenSpec.upto fnSpanWhenSpec)

/-- 'laws.FnDoMore', WHERE WHAT IT READS IS OF BULK AT MOST 1048576: true; the input reads as it did. -/
def fnDoMoreUptoRow : OpenClaim := { program := "ytekmapilhomdgaa", sum := "cd29f1f59c3d7161c572628d470dc5c8f12c537d6d6090e5a23f8dcb3c09b54d", func := "loop.example/gauger/laws.FnDoMore", spec := "fnDoMore", unfollowed := true, recurses := true, apart := false, narrowed := true }
def FnDoMoreUptoSaid : Prop := fnDoMoreUptoRow.holds Try.pinned (OpenSpec.upto fnDoMoreSpec)

/-- 'laws.FnSpanDo', WHERE WHAT IT READS IS OF BULK AT MOST 1048576: true; the input reads as it did. -/
def fnSpanDoUptoRow : OpenClaim := { program := "ytekmapilhomdgaa", sum := "cd29f1f59c3d7161c572628d470dc5c8f12c537d6d6090e5a23f8dcb3c09b54d", func := "loop.example/gauger/laws.FnSpanDo", spec := "fnSpanDo", unfollowed := true, recurses := true, apart := false, narrowed := true }
def FnSpanDoUptoSaid : Prop := fnSpanDoUptoRow.holds Try.pinned (OpenSpec.upto fnSpanDoSpec)

end Rows
end Go.Proofs.Ytekmapilhomdgaa
