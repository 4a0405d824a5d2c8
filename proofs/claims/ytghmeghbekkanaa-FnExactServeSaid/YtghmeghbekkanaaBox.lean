/- A processor, and a memory's slice, that lie in a block of their own. -/
import Derived.Test.YtghmeghbekkanaaServeI
set_option linter.unusedVariables false
set_option linter.unusedSimpArgs false
namespace Go.Proofs.Ytghmeghbekkanaa
open Go.RowKit Go.Proofs.YtghmeghbekkanaaW.PrintWords
/-- A processor that lies in a block of its own. -/
def Box (w : World) (g : Nat) (c : Cpu) : Prop := w.heap[g]? = some (.cells #[.int .u8 c.A, .int .u8 c.X, .int .u8 c.Y, .int .u8 c.S, .int .u16 c.PC, .bool c.F.N, .bool c.F.V, .bool c.F.D, .bool c.F.I, .bool c.F.Z, .bool c.F.C] 33 (0, 0))
theorem Box.lt {w : World} {g : Nat} {c : Cpu} (h : Box w g c) : g < w.heap.size := blk_lt h
theorem Box.cell {w : World} {g : Nat} {c : Cpu} (h : Box w g c) (i : Nat) : w.cell? ⟨g, i, none⟩ = (#[.int .u8 c.A, .int .u8 c.X, .int .u8 c.Y, .int .u8 c.S, .int .u16 c.PC, .bool c.F.N, .bool c.F.V, .bool c.F.D, .bool c.F.I, .bool c.F.Z, .bool c.F.C] : Array Value)[i]? := blk_cell h i
theorem Box.free {w : World} {g : Nat} {c : Cpu} (h : Box w g c) (i : Nat) : w.frozen? ⟨g, i, none⟩ = false := blk_frozen h i
theorem Box.keep {w w' : World} {g : Nat} {c : Cpu} (h : Box w g c) (e : w'.heap[g]? = w.heap[g]?) : Box w' g c := e.trans h
theorem Box.new (w : World) (c : Cpu) : Box (w.alloc (.cells #[.int .u8 c.A, .int .u8 c.X, .int .u8 c.Y, .int .u8 c.S, .int .u16 c.PC, .bool c.F.N, .bool c.F.V, .bool c.F.D, .bool c.F.I, .bool c.F.Z, .bool c.F.C] 33)) w.heap.size c := alloc_blk _ _
theorem Box.below {w w' : World} {g : Nat} {c : Cpu} (h : Box w g c) (hb : Below w.heap.size w w') : Box w' g c := h.keep (hb.block _ h.lt)
theorem Box.other {w : World} {g k i : Nat} {c : Cpu} (h : Box w g c) (hk : g ≠ k) (v : Value) : Box (w.setCell ⟨k, i, none⟩ v) g c := h.keep (Below.heap_setCell w ⟨k, i, none⟩ v g hk)
end Go.Proofs.Ytghmeghbekkanaa
