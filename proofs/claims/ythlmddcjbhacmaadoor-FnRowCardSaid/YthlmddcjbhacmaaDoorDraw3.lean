/- Drawn programs, counters and memories. -/
import Derived.Test.YthlmddcjbhacmaaDoorDraw2
import Derived.Test.YthlmddcjbhacmaaDoorSiz
set_option linter.unusedVariables false
set_option linter.unusedSimpArgs false
namespace Go.Proofs.YthlmddcjbhacmaaDoor
open Go.RowKit Go.Proofs.YthlmddcjbhacmaaDoorW.PrintWords
/-- A list in the making, of numbers drawn. -/
structure Lst (w wr : World) (g : Nat) (A : Option Addr) (c : Nat) (l : List Int) (v : Value) (L : List Int) : Prop where
  own : OwnB wr w.heap.size v L
  b : ∀ x ∈ L, 0 ≤ x ∧ x < 256
  cur : Cur wr g A c l
  only : w.grownBy wr (some g)
theorem Cur.away {w w' : World} {g : Nat} {A : Option Addr} {c : Nat} {l : List Int} {row : Option Nat} (h : Cur w g A c l) (hb : w.grownBy w' row) (hr : ∀ k, row = some k → g < k) : Cur w' g A c l := by
  have hg : g < w.heap.size := World.block_lt_of_cell? w _ h.b
  have he : w'.heap[g]? = w.heap[g]? := hb.block g hg (fun e => by have := hr g e.symm; omega)
  have hc : ∀ i, w'.cell? ⟨g, i, none⟩ = w.cell? ⟨g, i, none⟩ := fun i => World.cell?_of_block he
  have hf : ∀ i, w'.frozen? ⟨g, i, none⟩ = w.frozen? ⟨g, i, none⟩ := fun i => World.frozen?_of_block he
  obtain ⟨i, hi, ei⟩ := h.i
  obtain ⟨x, ex⟩ := h.h
  obtain ⟨w0, b0, k0, s0⟩ := h.s
  exact ⟨(hc 0).trans h.b, ⟨i, hi, (hc 1).trans ei⟩, ⟨x, (hc 2).trans ex⟩, (hf 1).trans h.f1, (hf 2).trans h.f2, w0, b0, Below.grown k0 hb (by omega) (fun k e => by have := hr k e; omega), s0⟩
theorem Lst.move {w w1 w2 : World} {g : Nat} {A : Option Addr} {c : Nat} {l : List Int} {v : Value} {L : List Int} (h : Lst w w1 g A c l v L) (hg : g < w.heap.size) (hc : Cur w2 g A c l) (hb : w1.grownBy w2 (some g)) : Lst w w2 g A c l v L :=
  ⟨h.own.grown hb (fun k e => by injection e with e; omega), h.b, hc, h.only.trans hb⟩
theorem Lst.below {w w1 w2 : World} {g : Nat} {A : Option Addr} {c : Nat} {l : List Int} {v : Value} {L : List Int} (h : Lst w w1 g A c l v L) (hb : Below w1.heap.size w1 w2) : Lst w w2 g A c l v L :=
  ⟨h.own.below hb, h.b, h.cur.below hb, grown_below h.only hb⟩
theorem Lst.app {w w1 w2 : World} {g : Nat} {A : Option Addr} {c : Nat} {l : List Int} {v v2 : Value} {L : List Int} {x : Int} (h : Lst w w1 g A c l v L) (hg : g < w.heap.size) (x0 : 0 ≤ x) (x1 : x < 256)
    (ho : OwnB w2 w.heap.size v2 (L ++ [x])) (hb : w1.grownBy w2 v.ownBlock) : Lst w w2 g A c l v2 (L ++ [x]) := by
  have hr : ∀ k, v.ownBlock = some k → w.heap.size ≤ k := fun k e => Kd.R_base h.own k e
  have h2 := h.only
  refine ⟨ho, ?_, h.cur.away hb (fun k e => by have := hr k e; omega), ⟨hb.os.trans h2.os, hb.tape.trans h2.tape, hb.output.trans h2.output, Nat.le_trans h2.size hb.size, fun k hk hne => ?_⟩⟩
  · intro y hy
    rcases List.mem_append.1 hy with hy | hy
    · exact h.b y hy
    · rw [List.mem_singleton] at hy; subst hy; exact ⟨x0, x1⟩
  · rw [hb.block k (Nat.lt_of_lt_of_le hk h2.size) (fun e => by have := hr k e.symm; omega)]
    exact h2.block k hk hne
theorem own_empty (w : World) : OwnB (w.alloc (.cells #[] 5)) w.heap.size (.slice (some ⟨w.heap.size, 0, none⟩) 0 0) [] :=
  Kd.R_of_own (xs := ([] : List Int)) (enc := Value.int .u8) (h1 := fun _ => rfl) ⟨rfl, .inr ⟨w.heap.size, 0, #[], rfl, Nat.le_refl _, by show (w.heap.push _)[w.heap.size]? = _; simp, Nat.le_refl _, by decide, rfl, rfl⟩⟩ (fun _ _ => trivial)
end Go.Proofs.YthlmddcjbhacmaaDoor
