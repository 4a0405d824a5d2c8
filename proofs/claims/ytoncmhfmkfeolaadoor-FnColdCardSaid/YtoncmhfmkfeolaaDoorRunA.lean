/- The program's machine in the midst of a run: beside it the rows of starts and processors, and the variable that they go to. -/
import Derived.Test.YtoncmhfmkfeolaaDoorApp
import Derived.Test.YtoncmhfmkfeolaaDoorRunP
set_option linter.unusedVariables false
set_option linter.unusedSimpArgs false
namespace Go.Proofs.YtoncmhfmkfeolaaDoor
open Go.RowKit Go.Proofs.YtoncmhfmkfeolaaDoorW.PrintWords
structure RunAt (w0 w : World) (L : Lay) (v : Value) (g : Nat) (r : Rs) (n : Nat) (us up vs vp : Value) (j : Bool) : Prop where
  hold : HoldM w L v r.c ⟨r.m, r.t⟩ n
  out : Blk w g #[.int .u8 0, .int .u8 0, .int .u8 0, .int .u8 0, .int .u16 0, .bool false, .bool false, .bool false, .bool false, .bool false, .bool false, .slice none 0 0, .slice none 0 0, us, up, .bool j] 38
  st : OwnI w L.base vs r.st
  cs : OwnP w L.base vp r.cs
  hg : L.base ≤ g
  below : Below L.base w0 w
section
variable {w0 w w' : World} {L : Lay} {v v' : Value} {g : Nat} {r : Rs} {n : Nat} {us up vs vp : Value} {j : Bool}
theorem OwnI.keep {base : Nat} {l : List Int} (h : OwnI w base vs l) (hm : ∀ k, vs.ownBlock = some k → w'.heap[k]? = w.heap[k]?) : OwnI w' base vs l := R_only (d := Kd.int .i64) (w := w) (fun h => h) h hm
theorem OwnP.keep {base : Nat} {l : List Cpu} (h : OwnP w base vp l) (hm : ∀ k, vp.ownBlock = some k → w'.heap[k]? = w.heap[k]?) : OwnP w' base vp l := R_only (d := cpuK) (w := w) (fun h => h) h hm
theorem RunAt.size (h : RunAt w0 w L v g r n us up vs vp j) : L.base ≤ w.heap.size := h.hold.size
theorem RunAt.wait (h : RunAt w0 w L v g r n us up vs vp j) (hb : Below w.heap.size w w') : RunAt w0 w' L v g r n us up vs vp j :=
  ⟨h.hold.below hb, h.out.below hb, h.st.below hb, h.cs.below hb, h.hg, h.below.trans (hb.mono h.size)⟩
theorem RunAt.facts (h : RunAt w0 w L v g r n us up vs vp j) : FactsM w L v r.c ⟨r.m, r.t⟩ := h.hold.facts
theorem RunAt.outOther (h : RunAt w0 w L v g r n us up vs vp j) : g ≠ L.g ∧ g ≠ L.r ∧ some g ≠ v.ownBlock := Hold.other h.hold h.out (by decide) (by decide) (by decide)
/-- The machine has moved. -/
theorem RunAt.move (h : RunAt w0 w L v g r n us up vs vp j) {c' : Cpu} {m' : List Int} {t' : List Cyc} {k : Nat} (H : HoldM w' L v' c' ⟨m', t'⟩ k) (M : Mv w w' L v v') :
    RunAt w0 w' L v' g ⟨c', m', t', r.st, r.cs, r.jam⟩ k us up vs vp j := by
  have ho := h.outOther
  refine ⟨H, (M.keep g h.out.lt ho.1 ho.2.1 ho.2.2).trans h.out, h.st.keep (fun k hk => ?_), h.cs.keep (fun k hk => ?_), h.hg, h.below.trans M.below⟩
  · obtain ⟨c1, h1⟩ := Kd.R_typed h.st k hk
    have ho := Hold.other h.hold h1 (by decide) (by decide) (by decide)
    exact M.keep k (blk_lt h1) ho.1 ho.2.1 ho.2.2
  · obtain ⟨c1, h1⟩ := Kd.R_typed h.cs k hk
    have ho := Hold.other h.hold h1 (by decide) (by decide) (by decide)
    exact M.keep k (blk_lt h1) ho.1 ho.2.1 ho.2.2
theorem RunAt.jamTo (h : RunAt w0 w L v g r n us up vs vp j) (x : Bool) : RunAt w0 w L v g { r with jam := x } n us up vs vp j := ⟨h.hold, h.out, h.st, h.cs, h.hg, h.below⟩
theorem RunAt.raise (h : RunAt w0 w L v g r n us up vs vp j) {m : Nat} (hm : n ≤ m) : RunAt w0 w L v g r m us up vs vp j := ⟨HoldM.mono h.hold hm, h.out, h.st, h.cs, h.hg, h.below⟩
/-- A store into the variable. -/
theorem RunAt.put (h : RunAt w0 w L v g r n us up vs vp j) (i : Nat) (u : Value) {us' up' : Value} {j' : Bool}
    (hi : (#[.int .u8 0, .int .u8 0, .int .u8 0, .int .u8 0, .int .u16 0, .bool false, .bool false, .bool false, .bool false, .bool false, .bool false, .slice none 0 0, .slice none 0 0, us, up, .bool j] : Array Value).setIfInBounds i u = #[.int .u8 0, .int .u8 0, .int .u8 0, .int .u8 0, .int .u16 0, .bool false, .bool false, .bool false, .bool false, .bool false, .bool false, .slice none 0 0, .slice none 0 0, us', up', .bool j']) :
    RunAt w0 (w.setCell ⟨g, i, none⟩ u) L v g r n us' up' vs vp j' := by
  have ho := h.outOther
  refine ⟨Hold.far h.hold (p := ⟨g, i, none⟩) ho u, ?_, h.st.keep (fun k hk => ?_), h.cs.keep (fun k hk => ?_), h.hg, h.below.setCell (p := ⟨g, i, none⟩) h.hg u⟩
  · have := blk_set h.out i u
    rw [hi] at this
    exact this
  · obtain ⟨c1, h1⟩ := Kd.R_typed h.st k hk
    exact set_block _ _ _ _ _ (blk_ne h1 h.out (by decide))
  · obtain ⟨c1, h1⟩ := Kd.R_typed h.cs k hk
    exact set_block _ _ _ _ _ (blk_ne h1 h.out (by decide))
theorem RunAt.putS (h : RunAt w0 w L v g r n us up vs vp j) (u : Value) : RunAt w0 (w.setCell ⟨g, 13, none⟩ u) L v g r n u up vs vp j := h.put 13 u rfl
theorem RunAt.putP (h : RunAt w0 w L v g r n us up vs vp j) (u : Value) : RunAt w0 (w.setCell ⟨g, 14, none⟩ u) L v g r n us u vs vp j := h.put 14 u rfl
theorem RunAt.putJ (h : RunAt w0 w L v g r n us up vs vp j) (q : Bool) : RunAt w0 (w.setCell ⟨g, 15, none⟩ (.bool q)) L v g r n us up vs vp q := h.put 15 (.bool q) rfl
theorem row_ne {W : World} {base e t k0 : Nat} {α : Type} {d : Kd α} {u : Value} {l : List α} {cells : Array Value} {ok : Nat → Prop} (h : d.R e W base ok u l) (hk : W.heap[k0]? = some (.cells cells t (0, 0))) (ht : t ≠ e) : some k0 ≠ u.ownBlock := fun he => by
  obtain ⟨c1, h1⟩ := Kd.R_typed h k0 he.symm
  exact blk_ne hk h1 ht rfl
/-- A start has been put behind its row. -/
theorem RunAt.appS (h : RunAt w0 w L v g r n us up vs vp j) {x : Int} {v1 : Value} (ho : (Kd.int .i64).R 3 w' L.base (fun _ => True) v1 (r.st ++ [x])) (hg : w.grownBy w' vs.ownBlock) :
    RunAt w0 w' L v g ⟨r.c, r.m, r.t, r.st ++ [x], r.cs, r.jam⟩ n us up v1 vp j := by
  refine ⟨Hold.grown h.hold hg (row_ne h.st h.hold.blk (by decide)) ?_ (fun k hk => ?_), (hg.block _ h.out.lt (row_ne h.st h.out (by decide))).trans h.out, ho, h.cs.keep (fun k hk => ?_), h.hg, h.below.grown hg h.size (fun k hk => Kd.R_base h.st k hk)⟩
  · obtain ⟨c1, h1⟩ := Kd.R_typed h.hold.mem L.r rfl
    exact row_ne h.st h1 (by decide)
  · obtain ⟨c1, h1⟩ := Kd.R_typed h.hold.log k hk
    exact row_ne h.st h1 (by decide)
  · obtain ⟨c1, h1⟩ := Kd.R_typed h.cs k hk
    exact hg.block _ (blk_lt h1) (row_ne h.st h1 (by decide))
/-- A processor has been put behind its row. -/
theorem RunAt.appP (h : RunAt w0 w L v g r n us up vs vp j) {x : Cpu} {v1 : Value} (ho : cpuK.R 31 w' L.base (fun _ => True) v1 (r.cs ++ [x])) (hg : w.grownBy w' vp.ownBlock) :
    RunAt w0 w' L v g ⟨r.c, r.m, r.t, r.st, r.cs ++ [x], r.jam⟩ n us up vs v1 j := by
  refine ⟨Hold.grown h.hold hg (row_ne h.cs h.hold.blk (by decide)) ?_ (fun k hk => ?_), (hg.block _ h.out.lt (row_ne h.cs h.out (by decide))).trans h.out, h.st.keep (fun k hk => ?_), ho, h.hg, h.below.grown hg h.size (fun k hk => Kd.R_base h.cs k hk)⟩
  · obtain ⟨c1, h1⟩ := Kd.R_typed h.hold.mem L.r rfl
    exact row_ne h.cs h1 (by decide)
  · obtain ⟨c1, h1⟩ := Kd.R_typed h.hold.log k hk
    exact row_ne h.cs h1 (by decide)
  · obtain ⟨c1, h1⟩ := Kd.R_typed h.st k hk
    exact hg.block _ (blk_lt h1) (row_ne h.cs h1 (by decide))
theorem RunAt.outFacts (h : RunAt w0 w L v g r n us up vs vp j) : (∀ i, w.cell? ⟨g, i, none⟩ = (#[.int .u8 0, .int .u8 0, .int .u8 0, .int .u8 0, .int .u16 0, .bool false, .bool false, .bool false, .bool false, .bool false, .bool false, .slice none 0 0, .slice none 0 0, us, up, .bool j] : Array Value)[i]?) ∧ (∀ i, w.frozen? ⟨g, i, none⟩ = false) ∧ g < w.heap.size := ⟨fun i => blk_cell h.out i, fun i => blk_frozen h.out i, h.out.lt⟩
end
/-- What a cell holds, as an opaque reader. -/
def vAt (w : World) (b i : Nat) : Value := (w.cell? ⟨b, i, none⟩).getD (.bool false)
theorem vAt_of {w : World} {b i : Nat} {u : Value} (h : w.cell? ⟨b, i, none⟩ = some u) : vAt w b i = u := by unfold vAt; rw [h]; rfl
theorem vAt_held {w : World} {b i : Nat} {u : Value} (h : w.cell? ⟨b, i, none⟩ = some u) : w.cell? ⟨b, i, none⟩ = some (vAt w b i) := by rw [vAt_of h]; exact h
theorem RunAt.vat {w0 w : World} {L : Lay} {v : Value} {g : Nat} {r : Rs} {n : Nat} {us up vs vp : Value} {j : Bool} (h : RunAt w0 w L v g r n us up vs vp j) : w.frozen? ⟨g, 13, none⟩ = false ∧ w.frozen? ⟨g, 14, none⟩ = false ∧ w.cell? ⟨g, 13, none⟩ = some (vAt w g 13) ∧ w.cell? ⟨g, 14, none⟩ = some (vAt w g 14) :=
  ⟨blk_frozen h.out 13, blk_frozen h.out 14, vAt_held (u := us) (blk_cell h.out 13), vAt_held (u := up) (blk_cell h.out 14)⟩
theorem cpuAll {w : World} {g : Nat} {c : Cpu} {t : TypeId} (h : Blk w g #[.int .u8 c.A, .int .u8 c.X, .int .u8 c.Y, .int .u8 c.S, .int .u16 c.PC, .bool c.F.N, .bool c.F.V, .bool c.F.D, .bool c.F.I, .bool c.F.Z, .bool c.F.C] t) : w.cell? ⟨g, 0, none⟩ = some (.int .u8 c.A) ∧ w.cell? ⟨g, 1, none⟩ = some (.int .u8 c.X) ∧ w.cell? ⟨g, 2, none⟩ = some (.int .u8 c.Y) ∧ w.cell? ⟨g, 3, none⟩ = some (.int .u8 c.S) ∧ w.cell? ⟨g, 4, none⟩ = some (.int .u16 c.PC) ∧ w.cell? ⟨g, 5, none⟩ = some (.bool c.F.N) ∧ w.cell? ⟨g, 6, none⟩ = some (.bool c.F.V) ∧ w.cell? ⟨g, 7, none⟩ = some (.bool c.F.D) ∧ w.cell? ⟨g, 8, none⟩ = some (.bool c.F.I) ∧ w.cell? ⟨g, 9, none⟩ = some (.bool c.F.Z) ∧ w.cell? ⟨g, 10, none⟩ = some (.bool c.F.C) :=
  ⟨h.cell 0, h.cell 1, h.cell 2, h.cell 3, h.cell 4, h.cell 5, h.cell 6, h.cell 7, h.cell 8, h.cell 9, h.cell 10⟩
end Go.Proofs.YtoncmhfmkfeolaaDoor
