/- Blocks of a call's own, kept side by side while other calls go on. -/
import Derived.Test.YthlmddcjbhacmaaDoorKit
set_option linter.unusedVariables false
set_option linter.unusedSimpArgs false
namespace Go.Proofs.YthlmddcjbhacmaaDoor
open Go.RowKit Go.Proofs.YthlmddcjbhacmaaDoorW.PrintWords
theorem set_block (w : World) (g i : Nat) (u : Value) (k : Nat) (h : k ≠ g) : (w.setCell ⟨g, i, none⟩ u).heap[k]? = w.heap[k]? := Below.heap_setCell w ⟨g, i, none⟩ u k h
theorem alloc_blk (w : World) (o : Obj) : (w.alloc o).heap[w.heap.size]? = some o := by
  show (w.heap.push o)[w.heap.size]? = _
  simp
/-- What a block of a call's own holds. -/
def Blk (w : World) (g : Nat) (cs : Array Value) (t : TypeId) : Prop := w.heap[g]? = some (.cells cs t (0, 0))
section
variable {w w' : World} {g : Nat} {cs : Array Value} {t : TypeId}
theorem Blk.lt (h : Blk w g cs t) : g < w.heap.size := blk_lt h
theorem Blk.cell (h : Blk w g cs t) (i : Nat) : w.cell? ⟨g, i, none⟩ = cs[i]? := blk_cell h i
theorem Blk.free (h : Blk w g cs t) (i : Nat) : w.frozen? ⟨g, i, none⟩ = false := blk_frozen h i
theorem Blk.at (h : g = w.heap.size) : Blk (w.alloc (.cells cs t)) g cs t := by subst h; exact alloc_blk _ _
theorem Blk.alloc (h : Blk w g cs t) (o : Obj) : Blk (w.alloc o) g cs t := blk_alloc h o
theorem Blk.drew (h : Blk w g cs t) : Blk w.drew g cs t := h
theorem Blk.drewN (h : Blk w g cs t) (n : Nat) : Blk (w.drewN n) g cs t := blk_drewN h n
theorem Blk.far (h : Blk w g cs t) {k i : Nat} {u : Value} (hk : g ≠ k) : Blk (w.setCell ⟨k, i, none⟩ u) g cs t := blk_far h hk u
theorem Blk.below (h : Blk w g cs t) (hb : Below w.heap.size w w') : Blk w' g cs t := blk_below h hb
theorem Blk.grown (h : Blk w g cs t) {row : Option Nat} (hg : w.grownBy w' row) (hne : some g ≠ row) : Blk w' g cs t := blk_grown h hg hne
theorem Blk.one {v : Value} (h : Blk w g #[v] t) : w.cell? ⟨g, 0, none⟩ = some v := blk_cell h 0
theorem Blk.put1 {u v : Value} (h : Blk w g #[u] t) : Blk (w.setCell ⟨g, 0, none⟩ v) g #[v] t := blk_set h 0 v
end
theorem blk_moves {w w' : World} (hb : Below w.heap.size w w') : ∀ g cs t, Blk w g cs t → Blk w' g cs t := fun _ _ _ h => h.below hb
/-- A block that is as it was. -/
def Same (w w' : World) (k : Nat) : Prop := w'.heap[k]? = w.heap[k]?
theorem Same.refl (w : World) (k : Nat) : Same w w k := rfl
theorem Same.set {w w' : World} {k g i : Nat} {u : Value} (h : Same w w' k) (hk : k ≠ g) : Same w (w'.setCell ⟨g, i, none⟩ u) k := (set_block w' g i u k hk).trans h
theorem Same.alloc {w w' : World} {k : Nat} {o : Obj} (h : Same w w' k) (hk : k < w'.heap.size) : Same w (w'.alloc o) k := (Below.heap_alloc w' o k hk).trans h
theorem Same.drew {w w' : World} {k : Nat} (h : Same w w' k) : Same w w'.drew k := h
def Many (w : World) (L : List (Nat × Array Value × TypeId)) : Prop := ∀ x ∈ L, Blk w x.1 x.2.1 x.2.2
section
variable {w w' : World} {L : List (Nat × Array Value × TypeId)}
theorem Many.nil (w : World) : Many w [] := fun _ h => absurd h (by simp)
theorem Many.cons {g : Nat} {cs : Array Value} {t : TypeId} (h : Blk w g cs t) (k : Many w L) : Many w ((g, cs, t) :: L) := by
  intro x hx
  rcases List.mem_cons.1 hx with rfl | hx
  · exact h
  · exact k x hx
theorem Many.tail {x : Nat × Array Value × TypeId} (k : Many w (x :: L)) : Many w L := fun y hy => k y (List.mem_cons_of_mem _ hy)
theorem Many.at (k : Many w L) (i : Nat) {g : Nat} {cs : Array Value} {t : TypeId} (hx : L[i]? = some (g, cs, t)) : Blk w g cs t := k _ (List.mem_of_getElem? hx)
theorem Many.below (k : Many w L) (hb : Below w.heap.size w w') : Many w' L := fun x hx => (k x hx).below hb
theorem Many.alloc (k : Many w L) (o : Obj) : Many (w.alloc o) L := fun x hx => (k x hx).alloc o
theorem Many.drew (k : Many w L) : Many w.drew L := fun x hx => (k x hx).drew
theorem Many.drewN (k : Many w L) (n : Nat) : Many (w.drewN n) L := fun x hx => (k x hx).drewN n
theorem Many.far (k : Many w L) {g i : Nat} {u : Value} (hp : ∀ x ∈ L, x.1 ≠ g) : Many (w.setCell ⟨g, i, none⟩ u) L := fun x hx => (k x hx).far (hp x hx)
theorem Many.lts (k : Many w L) : ∀ x ∈ L, x.1 < w.heap.size := fun x hx => (k x hx).lt
/-- A store into a block that is newer than all of them. -/
theorem Many.new (k : Many w L) {W : World} (hb : Many W L) {g i : Nat} (hg : w.heap.size ≤ g) (u : Value) : Many (W.setCell ⟨g, i, none⟩ u) L := hb.far (fun x hx => by have := k.lts x hx; show x.1 ≠ g; omega)
theorem Many.grown (k : Many w L) {row : Option Nat} (hg : w.grownBy w' row) (hr : ∀ x ∈ L, some x.1 ≠ row) : Many w' L := fun x hx => (k x hx).grown hg (hr x hx)
end
end Go.Proofs.YthlmddcjbhacmaaDoor
