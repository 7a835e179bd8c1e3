/- Words that the contracts of this seat use: facts that are found among what is at hand. -/
import Derived.Test.YtekmapilhomdgaaV0
namespace Go.Proofs.Ytekmapilhomdgaa.P
open Go.RowKit Go.Proofs.YtekmapilhomdgaaW.PrintWords Go.Proofs.YtekmapilhomdgaaW.PrintLast Go.Proofs.YtekmapilhomdgaaW.PrintMore
class Bl (B : outParam Nat) (w : outParam World) (w' : World) : Prop where
  out : Below B w w'
class Gl (B g : Nat) : Prop where
  out : B ≤ g
class Bk (w : World) (g : Nat) (o : outParam Obj) : Prop where
  out : w.heap[g]? = some o
theorem bl {B : Nat} {w w' : World} [h : Bl B w w'] : Below B w w' := h.out
theorem bk {w : World} {g : Nat} {o : Obj} [h : Bk w g o] : w.heap[g]? = some o := h.out
instance Bl.alloc {w W : World} {o : Obj} [h : Bl w.heap.size w W] : Bl w.heap.size w (W.alloc o) := ⟨below_alloc h.out o⟩
instance Bl.drewN {B : Nat} {w W : World} {n : Nat} [h : Bl B w W] : Bl B w (W.drewN n) := ⟨pw_below_drewN h.out n⟩
instance Bl.drew {B : Nat} {w W : World} [h : Bl B w W] : Bl B w W.drew := ⟨below_drew1 h.out⟩
instance Bl.set {w W : World} {g j : Nat} {v : Value} [h : Bl w.heap.size w W] [k : Gl w.heap.size g] : Bl w.heap.size w (W.setCell ⟨g, j, none⟩ v) := ⟨below_set h.out k.out⟩
instance Bk.drewN {w : World} {g n : Nat} {o : Obj} [h : Bk w g o] : Bk (w.drewN n) g o := ⟨blk_drewN h.out _⟩
instance Bk.drew {w : World} {g : Nat} {o : Obj} [h : Bk w g o] : Bk w.drew g o := ⟨blk_drew h.out⟩
instance Bk.alloc {w : World} {g : Nat} {o o' : Obj} [h : Bk w g o] : Bk (w.alloc o') g o := ⟨blk_alloc h.out _⟩
class Nb (g h : Nat) : Prop where
  out : g ≠ h
instance Bk.put {w : World} {g i : Nat} {t : TypeId} {cs : Array Value} {u : Value} [h : Bk w g (.cells cs t (0, 0))] : Bk (w.setCell ⟨g, i, none⟩ u) g (.cells (cs.setIfInBounds i u) t (0, 0)) := ⟨blk_put h.out i u rfl⟩
instance Bk.far {w : World} {g p j : Nat} {t : TypeId} {cs : Array Value} {u : Value} [h : Bk w g (.cells cs t (0, 0))] [k : Nb g p] : Bk (w.setCell ⟨p, j, none⟩ u) g (.cells cs t (0, 0)) := ⟨blk_far h.out k.out u⟩
section
variable {w : World} {g : Nat} {t : TypeId} {a b c d e f : Value} {l : List Value}
theorem bc0 (h : w.heap[g]? = some (.cells (a :: l).toArray t (0, 0))) : w.cell? ⟨g, 0, none⟩ = some a := (blk_cell h 0).trans rfl
theorem bc1 (h : w.heap[g]? = some (.cells (a :: b :: l).toArray t (0, 0))) : w.cell? ⟨g, 1, none⟩ = some b := (blk_cell h 1).trans rfl
theorem bc2 (h : w.heap[g]? = some (.cells (a :: b :: c :: l).toArray t (0, 0))) : w.cell? ⟨g, 2, none⟩ = some c := (blk_cell h 2).trans rfl
theorem bc3 (h : w.heap[g]? = some (.cells (a :: b :: c :: d :: l).toArray t (0, 0))) : w.cell? ⟨g, 3, none⟩ = some d := (blk_cell h 3).trans rfl
theorem bc4 (h : w.heap[g]? = some (.cells (a :: b :: c :: d :: e :: l).toArray t (0, 0))) : w.cell? ⟨g, 4, none⟩ = some e := (blk_cell h 4).trans rfl
theorem bc5 (h : w.heap[g]? = some (.cells (a :: b :: c :: d :: e :: f :: l).toArray t (0, 0))) : w.cell? ⟨g, 5, none⟩ = some f := (blk_cell h 5).trans rfl
end
end Go.Proofs.Ytekmapilhomdgaa.P
