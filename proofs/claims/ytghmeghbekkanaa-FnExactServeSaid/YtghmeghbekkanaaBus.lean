/- A bus: a memory and the cycles that were; how it lies in memory behind a pointer, and what a call on it leaves alone. -/
import Derived.Test.YtghmeghbekkanaaDesk
set_option linter.unusedVariables false
set_option linter.unusedSimpArgs false
namespace Go.Proofs.Ytghmeghbekkanaa
open Go.RowKit Go.Proofs.YtghmeghbekkanaaW.PrintWords
structure Bus where
  m : List Int
  t : List Cyc
def Bus.rd (b : Bus) (a : Int) : Bus := ⟨b.m, b.t ++ [⟨a, peek b.m a, false⟩]⟩
def Bus.wr (b : Bus) (a d : Int) : Bus := ⟨b.m.set (a % b.m.length).toNat d, b.t ++ [⟨a, d, true⟩]⟩
/-- Where a bus lies: the block of its struct (base or behind), the block of its memory. -/
structure Lay where
  base : Nat
  g : Nat
  r : Nat
  cap : Nat
structure Hold (w : World) (L : Lay) (v : Value) (T : Nat) (cs : Array Value) (b : Bus) (n : Nat) : Prop where
  blk : w.heap[L.g]? = some (.cells cs T (0, 0))
  mem : OwnB w L.base (.slice (some ⟨L.r, 0, none⟩) b.m.length L.cap) b.m
  log : OwnC w L.base v b.t
  bg : L.base ≤ L.g
  gr : L.g ≠ L.r
  gv : some L.g ≠ v.ownBlock
  rv : some L.r ≠ v.ownBlock
  ok : ramSize b.m.length = true
  mb : ∀ i, 0 ≤ rd b.m i ∧ rd b.m i < 256
  tb : ∀ k, (cd b.t k).ok
  tn : b.t.length ≤ n
structure Mv (w w' : World) (L : Lay) (v v' : Value) : Prop where
  below : Below L.base w w'
  keep : ∀ i, i < w.heap.size → i ≠ L.g → i ≠ L.r → some i ≠ v.ownBlock → w'.heap[i]? = w.heap[i]?
  row : v'.ownBlock = v.ownBlock ∨ ∃ k, v'.ownBlock = some k ∧ w.heap.size ≤ k
  hs : L.base ≤ w.heap.size
theorem R_only {α : Type} {d : Kd α} {e : Nat} {w w' : World} {base : Nat} {v : Value} {xs : List α} (hM : ∀ {x cs}, d.M w base (fun k => True ∧ some k ≠ v.ownBlock) x cs → d.M w' base (fun k => True ∧ some k ≠ v.ownBlock) x cs)
    (h : d.R e w base (fun _ => True) v xs) (hm : ∀ k, v.ownBlock = some k → w'.heap[k]? = w.heap[k]?) : d.R e w' base (fun _ => True) v xs := by
  obtain ⟨h0, inner, ho, hr⟩ := h
  exact ⟨h0, inner, own_move ho hm, hr.imp_ (fun _ _ hp => hM hp)⟩
theorem OwnB.move {w w' : World} {base : Nat} {v : Value} {l : List Int} (h : OwnB w base v l) (hm : ∀ k, v.ownBlock = some k → w'.heap[k]? = w.heap[k]?) : OwnB w' base v l := R_only (d := Kd.int .u8) (w := w) (fun h => h) h hm
theorem OwnC.move {w w' : World} {base : Nat} {v : Value} {l : List Cyc} (h : OwnC w base v l) (hm : ∀ k, v.ownBlock = some k → w'.heap[k]? = w.heap[k]?) : OwnC w' base v l := R_only (d := cycK) (w := w) (fun h => h) h hm
theorem set_block (w : World) (g i : Nat) (u : Value) (k : Nat) (h : k ≠ g) : (w.setCell ⟨g, i, none⟩ u).heap[k]? = w.heap[k]? := Below.heap_setCell w ⟨g, i, none⟩ u k h
section
variable {w w' w2 : World} {L : Lay} {v v' v2 : Value} {T : Nat} {cs : Array Value} {b : Bus} {n : Nat}
theorem Hold.lt (h : Hold w L v T cs b n) : L.g < w.heap.size := blk_lt h.blk
theorem Hold.size (h : Hold w L v T cs b n) : L.base ≤ w.heap.size := Nat.le_of_lt (Nat.lt_of_le_of_lt h.bg h.lt)
theorem Hold.rlt (h : Hold w L v T cs b n) : L.r < w.heap.size := Kd.R_lt h.mem L.r rfl
theorem Hold.vlt (h : Hold w L v T cs b n) : ∀ k, v.ownBlock = some k → k < w.heap.size := fun k e => Kd.R_lt h.log k e
theorem Hold.rbase (h : Hold w L v T cs b n) : L.base ≤ L.r := Kd.R_base h.mem L.r rfl
theorem Hold.below (h : Hold w L v T cs b n) (hb : Below w.heap.size w w') : Hold w' L v T cs b n :=
  ⟨(hb.block _ h.lt).trans h.blk, h.mem.below hb, h.log.below hb, h.bg, h.gr, h.gv, h.rv, h.ok, h.mb, h.tb, h.tn⟩
theorem Hold.alloc (h : Hold w L v T cs b n) (o : Obj) : Hold (w.alloc o) L v T cs b n := h.below (below_alloc (Below.refl _ _) o)
theorem Hold.drew (h : Hold w L v T cs b n) : Hold w.drew L v T cs b n := h.below (below_drew1 (Below.refl _ _))
theorem Hold.drewN (h : Hold w L v T cs b n) (k : Nat) : Hold (w.drewN k) L v T cs b n := h.below (pw_below_drewN (Below.refl _ _) k)
theorem Hold.set (h : Hold w L v T cs b n) (i : Nat) (u : Value) : Hold (w.setCell ⟨L.g, i, none⟩ u) L v T (cs.setIfInBounds i u) b n :=
  ⟨blk_set h.blk i u, h.mem.move (fun k hk => set_block _ _ _ _ _ (fun e => h.gr (by subst e; injection hk with hk; exact hk.symm))), h.log.move (fun k hk => set_block _ _ _ _ _ (fun e => h.gv (by rw [← e]; exact hk.symm))), h.bg, h.gr, h.gv, h.rv, h.ok, h.mb, h.tb, h.tn⟩
/-- A store into a block that is none of the bus's. -/
theorem Hold.far (h : Hold w L v T cs b n) {p : Addr} (hp : p.block ≠ L.g ∧ p.block ≠ L.r ∧ some p.block ≠ v.ownBlock) (u : Value) : Hold (w.setCell p u) L v T cs b n :=
  ⟨(Below.heap_setCell w p u _ (fun e => hp.1 e.symm)).trans h.blk, h.mem.move (fun k hk => Below.heap_setCell w p u _ (fun e => hp.2.1 (by injection hk with hk; rw [← e]; exact hk.symm))), h.log.move (fun k hk => Below.heap_setCell w p u _ (fun e => hp.2.2 (by rw [← e]; exact hk.symm))), h.bg, h.gr, h.gv, h.rv, h.ok, h.mb, h.tb, h.tn⟩
theorem Hold.cell (h : Hold w L v T cs b n) (i : Nat) : w.cell? ⟨L.g, i, none⟩ = cs[i]? := blk_cell h.blk i
theorem Hold.free (h : Hold w L v T cs b n) (i : Nat) : w.frozen? ⟨L.g, i, none⟩ = false := blk_frozen h.blk i
theorem Hold.bs (h : Hold w L v T cs b n) : Bs w (some ⟨L.r, 0, none⟩) b.m := h.mem.bs h.mb
theorem Mv.size (h : Mv w w' L v v') : w.heap.size ≤ w'.heap.size := h.below.size
theorem Mv.refl (w : World) (L : Lay) (v : Value) (hs : L.base ≤ w.heap.size) : Mv w w L v v := ⟨Below.refl _ _, fun _ _ _ _ _ => rfl, .inl rfl, hs⟩
theorem Mv.trans (h : Mv w w' L v v') (k : Mv w' w2 L v' v2) (hs : L.base ≤ w'.heap.size) : Mv w w2 L v v2 := by
  refine ⟨h.below.trans k.below, fun i hi h1 h2 h3 => ?_, ?_, h.hs⟩
  · refine (k.keep i (Nat.lt_of_lt_of_le hi h.size) h1 h2 ?_).trans (h.keep i hi h1 h2 h3)
    rcases h.row with e | ⟨q, e, hq⟩
    · rw [e]; exact h3
    · rw [e]; intro he; injection he with he; omega
  · rcases k.row with e | ⟨q, e, hq⟩
    · rw [e]; exact h.row
    · exact .inr ⟨q, e, Nat.le_trans h.size hq⟩
theorem Mv.of_below (h : Below w.heap.size w w') (hs : L.base ≤ w.heap.size) (v : Value) : Mv w w' L v v := ⟨h.mono hs, fun i hi _ _ _ => h.block i hi, .inl rfl, hs⟩
theorem Mv.set (h : Mv w w' L v v') (hg : L.base ≤ L.g) (i : Nat) (u : Value) : Mv w (w'.setCell ⟨L.g, i, none⟩ u) L v v' :=
  ⟨h.below.setCell hg u, fun j hj h1 h2 h3 => (set_block _ _ _ _ _ h1).trans (h.keep j hj h1 h2 h3), h.row, h.hs⟩
theorem Mv.then (h : Mv w w' L v v') (hb : Below w'.heap.size w' w2) (hs : L.base ≤ w'.heap.size) : Mv w w2 L v v' := h.trans (Mv.of_below hb hs v') hs
theorem Mv.alloc (h : Mv w w' L v v') (hs : L.base ≤ w'.heap.size) (o : Obj) : Mv w (w'.alloc o) L v v' := h.then (below_alloc (Below.refl _ _) o) hs
theorem Mv.drew (h : Mv w w' L v v') (hs : L.base ≤ w'.heap.size) : Mv w w'.drew L v v' := h.then (below_drew1 (Below.refl _ _)) hs
theorem Mv.drewN (h : Mv w w' L v v') (hs : L.base ≤ w'.heap.size) (k : Nat) : Mv w (w'.drewN k) L v v' := h.then (pw_below_drewN (Below.refl _ _) k) hs
theorem Mv.hs' (h : Mv w w' L v v') : L.base ≤ w'.heap.size := Nat.le_trans h.hs h.size
theorem Mv.tr (h : Mv w w' L v v') (k : Mv w' w2 L v' v2) : Mv w w2 L v v2 := h.trans k k.hs
theorem Mv.al (h : Mv w w' L v v') (o : Obj) : Mv w (w'.alloc o) L v v' := h.alloc h.hs' o
theorem Mv.dr (h : Mv w w' L v v') : Mv w w'.drew L v v' := h.drew h.hs'
theorem Mv.drN (h : Mv w w' L v v') (k : Nat) : Mv w (w'.drewN k) L v v' := h.drewN h.hs' k
theorem Mv.bl (h : Mv w w' L v v') (hb : Below w'.heap.size w' w2) : Mv w w2 L v v' := h.then hb h.hs'
/-- A store into a block that is newer than the first world. -/
theorem Mv.far (h : Mv w w' L v v') {p : Addr} (hp : w.heap.size ≤ p.block) (u : Value) : Mv w (w'.setCell p u) L v v' :=
  ⟨h.below.setCell (Nat.le_trans h.hs hp) u, fun j hj h1 h2 h3 => (Below.heap_setCell _ _ _ _ (by omega)).trans (h.keep j hj h1 h2 h3), h.row, h.hs⟩
theorem Mv.blk (h : Mv w w' L v v') (i : Nat) (hi : i < w.heap.size) (h1 : i ≠ L.g ∧ i ≠ L.r ∧ some i ≠ v.ownBlock) : w'.heap[i]? = w.heap[i]? := h.keep i hi h1.1 h1.2.1 h1.2.2
/-- A block of the call's own (behind the bus's) stays as it was, and apart. -/
theorem Mv.loc (h : Mv w w' L v v') (i : Nat) (hi : i < w.heap.size) (h1 : i ≠ L.g ∧ i ≠ L.r ∧ some i ≠ v.ownBlock) : (∀ o, w'.cell? ⟨i, o, none⟩ = w.cell? ⟨i, o, none⟩) ∧ (∀ o, w'.frozen? ⟨i, o, none⟩ = w.frozen? ⟨i, o, none⟩) ∧ i < w'.heap.size ∧ (i ≠ L.g ∧ i ≠ L.r ∧ some i ≠ v'.ownBlock) := by
  have e := h.blk i hi h1
  refine ⟨fun o => World.cell?_of_block e, fun o => World.frozen?_of_block e, Nat.lt_of_lt_of_le hi h.size, h1.1, h1.2.1, ?_⟩
  rcases h.row with k | ⟨q, k, hq⟩
  · rw [k]; exact h1.2.2
  · rw [k]; intro he; injection he with he; omega
theorem Hold.app {W : World} {v1 : Value} (h : Hold W L v T cs b n) (p : Cyc) (hp : p.ok) (ho : OwnC w2 L.base v1 (b.t ++ [p])) (hg : W.grownBy w2 v.ownBlock) (hr : v1.ownBlock = v.ownBlock ∨ ∃ k, v1.ownBlock = some k ∧ W.heap.size ≤ k) :
    Hold w2 L v1 T cs ⟨b.m, b.t ++ [p]⟩ (n + 1) ∧ Mv W w2 L v v1 := by
  have far : ∀ i, i < W.heap.size → some i ≠ v.ownBlock → some i ≠ v1.ownBlock := by
    intro i hi hne
    rcases hr with e | ⟨q, e, hq⟩
    · rw [e]; exact hne
    · rw [e]; intro he; injection he with he; omega
  refine ⟨⟨(hg.block _ h.lt h.gv).trans h.blk, h.mem.move (fun k hk => ?_), ho, h.bg, h.gr, far _ h.lt h.gv, far _ h.rlt h.rv, h.ok, h.mb, fun k => ?_, ?_⟩, ⟨(Below.refl _ _).grown hg h.size (fun k hk => Kd.R_base h.log k hk), fun i hi _ _ h3 => hg.block i hi h3, hr, h.size⟩⟩
  · injection hk with hk; subst hk; exact hg.block _ h.rlt h.rv
  · have := h.tb k
    unfold cd at *
    rw [List.getD_eq_getElem?_getD, List.getElem?_append]
    split
    · rw [← List.getD_eq_getElem?_getD]; exact this
    · rcases Nat.eq_zero_or_pos (k - b.t.length) with e | e
      · rw [e]; exact hp
      · obtain ⟨q, hq⟩ : ∃ q, k - b.t.length = q + 1 := ⟨k - b.t.length - 1, by omega⟩
        rw [hq]; simp [Cyc.ok]
  · have := h.tn
    simp; omega
/-- A byte of the memory is stored. -/
theorem Hold.put (h : Hold w L v T cs b n) (i : Int) (d : Int) (h0 : 0 ≤ i) (h1 : i < b.m.length) (d0 : 0 ≤ d) (d1 : d < 256) : Hold (w.setCell ⟨L.r, i.toNat, none⟩ (.int .u8 d)) L v T cs ⟨b.m.set i.toNat d, b.t⟩ n ∧ Mv w (w.setCell ⟨L.r, i.toNat, none⟩ (.int .u8 d)) L v v := by
  refine ⟨⟨(set_block _ _ _ _ _ h.gr).trans h.blk, ?_, h.log.move (fun k hk => set_block _ _ _ _ _ (fun e => h.rv (by rw [← e]; exact hk.symm))), h.bg, h.gr, h.gv, h.rv, by rw [List.length_set]; exact h.ok, set_rd h.mb d0 d1, h.tb, h.tn⟩,
    ⟨(Below.refl _ _).setCell h.rbase _, fun j _ _ h2 _ => set_block _ _ _ _ _ h2, .inl rfl, h.size⟩⟩
  have := (Kd.R_putg h.mem i d).1
  rw [List.length_set]
  exact this
end
end Go.Proofs.Ytghmeghbekkanaa
