/- A bus: a memory and the cycles that were; how it lies in memory behind a pointer, and what a call on it leaves alone. -/
import Derived.Test.YtoncmhfmkfeolaaGreatDoorGD
import Derived.Test.YtoncmhfmkfeolaaGreatDoorGA
set_option linter.unusedVariables false
set_option linter.unusedSimpArgs false
namespace Go.Proofs.YtoncmhfmkfeolaaGreatDoor
open Go.RowKit Go.Proofs.YtoncmhfmkfeolaaGreatDoorW.PrintWords
structure Bus where
  m : List Int
  t : List Cyc
def Bus.rd (b : Bus) (a : Int) : Bus:=⟨b.m,b.t ++ [⟨a,peek b.m a,false⟩]⟩
def Bus.wr (b : Bus) (a d : Int) : Bus:=⟨b.m.set (a % b.m.length).toNat d,b.t ++ [⟨a,d,true⟩]⟩
structure Lay where
  base : Nat
  g : Nat
  r : Nat
  cap : Nat
structure Hold (w : World) (L : Lay) (v : Value) (T : Nat) (cs : Array Value) (b : Bus) (n : Nat) : Prop where
  blk : w.heap[L.g]? = some (.cells cs T (0,0))
  mem : OwnB w L.base (.slice (some ⟨L.r,0,none⟩) b.m.length L.cap) b.m
  log : OwnC w L.base v b.t
  bg : L.base ≤ L.g
  gr : L.g ≠ L.r
  gv : some L.g ≠ v.ownBlock
  rv : some L.r ≠ v.ownBlock
  ok : ramSize b.m.length = true
  mb : ∀ i,0 ≤ rd b.m i∧rd b.m i < 256
  tb : ∀ k,(cd b.t k).ok
  tn : b.t.length ≤ n
structure Mv (w w' : World) (L : Lay) (v v' : Value) : Prop where
  below : Below L.base w w'
  keep : ∀ i,i < w.heap.size → i ≠ L.g → i ≠ L.r → some i ≠ v.ownBlock → w'.heap[i]? = w.heap[i]?
  row : v'.ownBlock = v.ownBlock ∨ ∃ k,v'.ownBlock = some k∧w.heap.size ≤ k
  hs : L.base ≤ w.heap.size
theorem R_only {α : Type} {d : Kd α} {e : Nat} {w w' : World} {base : Nat} {v : Value} {xs : List α} (hM : ∀ {x cs},d.M w base (fun k => True∧some k ≠ v.ownBlock) x cs → d.M w' base (fun k => True∧some k ≠ v.ownBlock) x cs)
    (h : d.R e w base (fun _ => True) v xs) (hm : ∀ k,v.ownBlock = some k → w'.heap[k]? = w.heap[k]?) : d.R e w' base (fun _ => True) v xs:=by
  obtain ⟨h0,inner,ho,hr⟩:=h
  exact ⟨h0,inner,own_move ho hm,hr.imp_ (fun _ _ hp => hM hp)⟩
theorem OwnB.move {w w' : World} {base : Nat} {v : Value} {l : List Int} (h : OwnB w base v l) (hm : ∀ k,v.ownBlock = some k → w'.heap[k]? = w.heap[k]?) : OwnB w' base v l:=R_only (d:=Kd.int .u8) (w:=w) (fun h => h) h hm
theorem OwnC.move {w w' : World} {base : Nat} {v : Value} {l : List Cyc} (h : OwnC w base v l) (hm : ∀ k,v.ownBlock = some k → w'.heap[k]? = w.heap[k]?) : OwnC w' base v l:=R_only (d:=cycK) (w:=w) (fun h => h) h hm
theorem set_block (w : World) (g i : Nat) (u : Value) (k : Nat) (h : k ≠ g) : (w.setCell ⟨g,i,none⟩ u).heap[k]? = w.heap[k]?:=Below.heap_setCell w ⟨g,i,none⟩ u k h
section
variable {w w' w2 : World} {L : Lay} {v v' v2 : Value} {T : Nat} {cs : Array Value} {b : Bus} {n : Nat}
theorem Hold.lt (h : Hold w L v T cs b n) : L.g < w.heap.size:=blk_lt h.blk
theorem Hold.size (h : Hold w L v T cs b n) : L.base ≤ w.heap.size:=Nat.le_of_lt (Nat.lt_of_le_of_lt h.bg h.lt)
theorem Hold.rlt (h : Hold w L v T cs b n) : L.r < w.heap.size:=Kd.R_lt h.mem L.r rfl
theorem Hold.vlt (h : Hold w L v T cs b n) : ∀ k,v.ownBlock = some k → k < w.heap.size:=fun k e => Kd.R_lt h.log k e
theorem Hold.rbase (h : Hold w L v T cs b n) : L.base ≤ L.r:=Kd.R_base h.mem L.r rfl
theorem Hold.below (h : Hold w L v T cs b n) (hb : Below w.heap.size w w') : Hold w' L v T cs b n :=
  ⟨(hb.block _ h.lt).trans h.blk,h.mem.below hb,h.log.below hb,h.bg,h.gr,h.gv,h.rv,h.ok,h.mb,h.tb,h.tn⟩
theorem Hold.alloc (h : Hold w L v T cs b n) (o : Obj) : Hold (w.alloc o) L v T cs b n:=h.below (below_alloc (Below.refl _ _) o)
theorem Hold.drew (h : Hold w L v T cs b n) : Hold w.drew L v T cs b n:=h.below (below_drew1 (Below.refl _ _))
theorem Hold.drewN (h : Hold w L v T cs b n) (k : Nat) : Hold (w.drewN k) L v T cs b n:=h.below (pw_below_drewN (Below.refl _ _) k)
theorem Hold.set (h : Hold w L v T cs b n) (i : Nat) (u : Value) : Hold (w.setCell ⟨L.g,i,none⟩ u) L v T (cs.setIfInBounds i u) b n :=
  ⟨blk_set h.blk i u,h.mem.move (fun k hk => set_block _ _ _ _ _ (fun e => h.gr (by subst e;injection hk with hk;exact hk.symm))),h.log.move (fun k hk => set_block _ _ _ _ _ (fun e => h.gv (by rw [← e];exact hk.symm))),h.bg,h.gr,h.gv,h.rv,h.ok,h.mb,h.tb,h.tn⟩
theorem Hold.far (h : Hold w L v T cs b n) {p : Addr} (hp : p.block ≠ L.g∧p.block ≠ L.r∧some p.block ≠ v.ownBlock) (u : Value) : Hold (w.setCell p u) L v T cs b n :=
  ⟨(Below.heap_setCell w p u _ (fun e => hp.1 e.symm)).trans h.blk,h.mem.move (fun k hk => Below.heap_setCell w p u _ (fun e => hp.2.1 (by injection hk with hk;rw [← e];exact hk.symm))),h.log.move (fun k hk => Below.heap_setCell w p u _ (fun e => hp.2.2 (by rw [← e];exact hk.symm))),h.bg,h.gr,h.gv,h.rv,h.ok,h.mb,h.tb,h.tn⟩
theorem Hold.cell (h : Hold w L v T cs b n) (i : Nat) : w.cell? ⟨L.g,i,none⟩ = cs[i]?:=blk_cell h.blk i
theorem Hold.free (h : Hold w L v T cs b n) (i : Nat) : w.frozen? ⟨L.g,i,none⟩ = false:=blk_frozen h.blk i
theorem Hold.bs (h : Hold w L v T cs b n) : Bs w (some ⟨L.r,0,none⟩) b.m:=h.mem.bs h.mb
theorem Mv.size (h : Mv w w' L v v') : w.heap.size ≤ w'.heap.size:=h.below.size
theorem Mv.refl (w : World) (L : Lay) (v : Value) (hs : L.base ≤ w.heap.size) : Mv w w L v v:=⟨Below.refl _ _,fun _ _ _ _ _ => rfl,.inl rfl,hs⟩
theorem Mv.trans (h : Mv w w' L v v') (k : Mv w' w2 L v' v2) (hs : L.base ≤ w'.heap.size) : Mv w w2 L v v2:=by
  refine ⟨h.below.trans k.below,fun i hi h1 h2 h3 => ?_,?_,h.hs⟩
  · refine (k.keep i (Nat.lt_of_lt_of_le hi h.size) h1 h2 ?_).trans (h.keep i hi h1 h2 h3)
    rcases h.row with e | ⟨q,e,hq⟩
    · rw [e];exact h3
    · rw [e];intro he;injection he with he;omega
  · rcases k.row with e | ⟨q,e,hq⟩
    · rw [e];exact h.row
    · exact .inr ⟨q,e,Nat.le_trans h.size hq⟩
theorem Mv.of_below (h : Below w.heap.size w w') (hs : L.base ≤ w.heap.size) (v : Value) : Mv w w' L v v:=⟨h.mono hs,fun i hi _ _ _ => h.block i hi,.inl rfl,hs⟩
theorem Mv.set (h : Mv w w' L v v') (hg : L.base ≤ L.g) (i : Nat) (u : Value) : Mv w (w'.setCell ⟨L.g,i,none⟩ u) L v v' :=
  ⟨h.below.setCell hg u,fun j hj h1 h2 h3 => (set_block _ _ _ _ _ h1).trans (h.keep j hj h1 h2 h3),h.row,h.hs⟩
theorem Mv.then (h : Mv w w' L v v') (hb : Below w'.heap.size w' w2) (hs : L.base ≤ w'.heap.size) : Mv w w2 L v v':=h.trans (Mv.of_below hb hs v') hs
theorem Mv.alloc (h : Mv w w' L v v') (hs : L.base ≤ w'.heap.size) (o : Obj) : Mv w (w'.alloc o) L v v':=h.then (below_alloc (Below.refl _ _) o) hs
theorem Mv.drew (h : Mv w w' L v v') (hs : L.base ≤ w'.heap.size) : Mv w w'.drew L v v':=h.then (below_drew1 (Below.refl _ _)) hs
theorem Mv.drewN (h : Mv w w' L v v') (hs : L.base ≤ w'.heap.size) (k : Nat) : Mv w (w'.drewN k) L v v':=h.then (pw_below_drewN (Below.refl _ _) k) hs
theorem Mv.hs' (h : Mv w w' L v v') : L.base ≤ w'.heap.size:=Nat.le_trans h.hs h.size
theorem Mv.tr (h : Mv w w' L v v') (k : Mv w' w2 L v' v2) : Mv w w2 L v v2:=h.trans k k.hs
theorem Mv.al (h : Mv w w' L v v') (o : Obj) : Mv w (w'.alloc o) L v v':=h.alloc h.hs' o
theorem Mv.dr (h : Mv w w' L v v') : Mv w w'.drew L v v':=h.drew h.hs'
theorem Mv.drN (h : Mv w w' L v v') (k : Nat) : Mv w (w'.drewN k) L v v':=h.drewN h.hs' k
theorem Mv.bl (h : Mv w w' L v v') (hb : Below w'.heap.size w' w2) : Mv w w2 L v v':=h.then hb h.hs'
theorem Mv.far (h : Mv w w' L v v') {p : Addr} (hp : w.heap.size ≤ p.block) (u : Value) : Mv w (w'.setCell p u) L v v' :=
  ⟨h.below.setCell (Nat.le_trans h.hs hp) u,fun j hj h1 h2 h3 => (Below.heap_setCell _ _ _ _ (by omega)).trans (h.keep j hj h1 h2 h3),h.row,h.hs⟩
theorem Mv.blk (h : Mv w w' L v v') (i : Nat) (hi : i < w.heap.size) (h1 : i ≠ L.g∧i ≠ L.r∧some i ≠ v.ownBlock) : w'.heap[i]? = w.heap[i]?:=h.keep i hi h1.1 h1.2.1 h1.2.2
theorem Mv.loc (h : Mv w w' L v v') (i : Nat) (hi : i < w.heap.size) (h1 : i ≠ L.g∧i ≠ L.r∧some i ≠ v.ownBlock) : (∀ o,w'.cell? ⟨i,o,none⟩ = w.cell? ⟨i,o,none⟩)∧(∀ o,w'.frozen? ⟨i,o,none⟩ = w.frozen? ⟨i,o,none⟩)∧i < w'.heap.size∧(i ≠ L.g∧i ≠ L.r∧some i ≠ v'.ownBlock):=by
  have e:=h.blk i hi h1
  refine ⟨fun o => World.cell?_of_block e,fun o => World.frozen?_of_block e,Nat.lt_of_lt_of_le hi h.size,h1.1,h1.2.1,?_⟩
  rcases h.row with k | ⟨q,k,hq⟩
  · rw [k];exact h1.2.2
  · rw [k];intro he;injection he with he;omega
theorem Hold.app {W : World} {v1 : Value} (h : Hold W L v T cs b n) (p : Cyc) (hp : p.ok) (ho : OwnC w2 L.base v1 (b.t ++ [p])) (hg : W.grownBy w2 v.ownBlock) (hr : v1.ownBlock = v.ownBlock ∨ ∃ k,v1.ownBlock = some k∧W.heap.size ≤ k) :
    Hold w2 L v1 T cs ⟨b.m,b.t ++ [p]⟩ (n+1)∧Mv W w2 L v v1:=by
  have far : ∀ i,i < W.heap.size → some i ≠ v.ownBlock → some i ≠ v1.ownBlock:=by
    intro i hi hne
    rcases hr with e | ⟨q,e,hq⟩
    · rw [e];exact hne
    · rw [e];intro he;injection he with he;omega
  refine ⟨⟨(hg.block _ h.lt h.gv).trans h.blk,h.mem.move (fun k hk => ?_),ho,h.bg,h.gr,far _ h.lt h.gv,far _ h.rlt h.rv,h.ok,h.mb,fun k => ?_,?_⟩,⟨(Below.refl _ _).grown hg h.size (fun k hk => Kd.R_base h.log k hk),fun i hi _ _ h3 => hg.block i hi h3,hr,h.size⟩⟩
  · injection hk with hk;subst hk;exact hg.block _ h.rlt h.rv
  · have:=h.tb k
    unfold cd at *
    rw [List.getD_eq_getElem?_getD,List.getElem?_append]
    split
    · rw [← List.getD_eq_getElem?_getD];exact this
    · rcases Nat.eq_zero_or_pos (k - b.t.length) with e | e
      · rw [e];exact hp
      · obtain ⟨q,hq⟩ : ∃ q,k - b.t.length = q+1:=⟨k - b.t.length - 1,by omega⟩
        rw [hq];simp [Cyc.ok]
  · have:=h.tn
    simp;omega
theorem Hold.put (h : Hold w L v T cs b n) (i : Int) (d : Int) (h0 : 0 ≤ i) (h1 : i < b.m.length) (d0 : 0 ≤ d) (d1 : d < 256) : Hold (w.setCell ⟨L.r,i.toNat,none⟩ (.int .u8 d)) L v T cs ⟨b.m.set i.toNat d,b.t⟩ n∧Mv w (w.setCell ⟨L.r,i.toNat,none⟩ (.int .u8 d)) L v v:=by
  refine ⟨⟨(set_block _ _ _ _ _ h.gr).trans h.blk,?_,h.log.move (fun k hk => set_block _ _ _ _ _ (fun e => h.rv (by rw [← e];exact hk.symm))),h.bg,h.gr,h.gv,h.rv,by rw [List.length_set];exact h.ok,set_rd h.mb d0 d1,h.tb,h.tn⟩,
    ⟨(Below.refl _ _).setCell h.rbase _,fun j _ _ h2 _ => set_block _ _ _ _ _ h2,.inl rfl,h.size⟩⟩
  have:=(Kd.R_putg h.mem i d).1
  rw [List.length_set]
  exact this
end
open Go.RowKit Go.Proofs.YtoncmhfmkfeolaaGreatDoorW.PrintWords
def mcells (c : Cpu) (x v : Value) : Array Value:=#[.int .u8 c.A,.int .u8 c.X,.int .u8 c.Y,.int .u8 c.S,.int .u16 c.PC,.bool c.F.N,.bool c.F.V,.bool c.F.D,.bool c.F.I,.bool c.F.Z,.bool c.F.C,x,v]
def HoldM (w : World) (L : Lay) (v : Value) (c : Cpu) (b : Bus) (n : Nat) : Prop:=Hold w L v 97 (mcells c (.slice (some ⟨L.r,0,none⟩) b.m.length L.cap) v) b n
structure FactsM (w : World) (L : Lay) (v : Value) (c : Cpu) (b : Bus) : Prop where
  c0 : w.cell? ⟨L.g,0,none⟩ = some (.int .u8 c.A)
  c1 : w.cell? ⟨L.g,1,none⟩ = some (.int .u8 c.X)
  c2 : w.cell? ⟨L.g,2,none⟩ = some (.int .u8 c.Y)
  c3 : w.cell? ⟨L.g,3,none⟩ = some (.int .u8 c.S)
  c4 : w.cell? ⟨L.g,4,none⟩ = some (.int .u16 c.PC)
  c5 : w.cell? ⟨L.g,5,none⟩ = some (.bool c.F.N)
  c6 : w.cell? ⟨L.g,6,none⟩ = some (.bool c.F.V)
  c7 : w.cell? ⟨L.g,7,none⟩ = some (.bool c.F.D)
  c8 : w.cell? ⟨L.g,8,none⟩ = some (.bool c.F.I)
  c9 : w.cell? ⟨L.g,9,none⟩ = some (.bool c.F.Z)
  c10 : w.cell? ⟨L.g,10,none⟩ = some (.bool c.F.C)
  c11 : w.cell? ⟨L.g,11,none⟩ = some (.slice (some ⟨L.r,0,none⟩) b.m.length L.cap)
  c12 : w.cell? ⟨L.g,12,none⟩ = some v
  fz : ∀ i,w.frozen? ⟨L.g,i,none⟩ = false
  lt : L.g < w.heap.size
theorem HoldM.facts {w : World} {L : Lay} {v : Value} {c : Cpu} {b : Bus} {n : Nat} (h : HoldM w L v c b n) : FactsM w L v c b :=
  ⟨h.cell 0,h.cell 1,h.cell 2,h.cell 3,h.cell 4,h.cell 5,h.cell 6,h.cell 7,h.cell 8,h.cell 9,h.cell 10,h.cell 11,h.cell 12,fun i => h.free i,h.lt⟩
theorem HoldM.of {w : World} {L : Lay} {v : Value} {c : Cpu} {b : Bus} {n k : Nat} (h : Hold w L v 97 (mcells c (.slice (some ⟨L.r,0,none⟩) k L.cap) v) b n) (e : k = b.m.length) : HoldM w L v c b n:=by subst e;exact h
theorem HoldM.below {w w' : World} {L : Lay} {v : Value} {c : Cpu} {b : Bus} {n : Nat} (h : HoldM w L v c b n) (hb : Below w.heap.size w w') : HoldM w' L v c b n:=Hold.below h hb
theorem HoldM.size {w : World} {L : Lay} {v : Value} {c : Cpu} {b : Bus} {n : Nat} (h : HoldM w L v c b n) : L.base ≤ w.heap.size:=Hold.size h
structure FactsG (w : World) (g : Nat) (x v : Value) (c : Cpu) : Prop where
  c0 : w.cell? ⟨g,0,none⟩ = some (.int .u8 c.A)
  c1 : w.cell? ⟨g,1,none⟩ = some (.int .u8 c.X)
  c2 : w.cell? ⟨g,2,none⟩ = some (.int .u8 c.Y)
  c3 : w.cell? ⟨g,3,none⟩ = some (.int .u8 c.S)
  c4 : w.cell? ⟨g,4,none⟩ = some (.int .u16 c.PC)
  c5 : w.cell? ⟨g,5,none⟩ = some (.bool c.F.N)
  c6 : w.cell? ⟨g,6,none⟩ = some (.bool c.F.V)
  c7 : w.cell? ⟨g,7,none⟩ = some (.bool c.F.D)
  c8 : w.cell? ⟨g,8,none⟩ = some (.bool c.F.I)
  c9 : w.cell? ⟨g,9,none⟩ = some (.bool c.F.Z)
  c10 : w.cell? ⟨g,10,none⟩ = some (.bool c.F.C)
  c11 : w.cell? ⟨g,11,none⟩ = some (x)
  c12 : w.cell? ⟨g,12,none⟩ = some (v)
  fz : ∀ i,w.frozen? ⟨g,i,none⟩ = false
  lt : g < w.heap.size
theorem HoldM.factsAt {w : World} {base g r cap : Nat} {v : Value} {c : Cpu} {b : Bus} {n : Nat} (h : HoldM w ⟨base,g,r,cap⟩ v c b n) : FactsG w g (.slice (some ⟨r,0,none⟩) b.m.length cap) v c :=
  have f:=h.facts
  ⟨f.c0,f.c1,f.c2,f.c3,f.c4,f.c5,f.c6,f.c7,f.c8,f.c9,f.c10,f.c11,f.c12,f.fz,f.lt⟩
theorem block_ne {a b : Nat} {w : World} (h : a < w.heap.size) (hb : w.heap.size ≤ b) : a ≠ b:=by omega
set_option maxRecDepth 20000 in
set_option maxHeartbeats 400000 in
theorem impl_read (a : Int) {w : World} {L : Lay} {v : Value} {c : Cpu} {b : Bus} {n : Nat} (h : HoldM w L v c b n) (hn : n ≤ 1000000) (h0 : 0 ≤ a) (h1 : a < 65536) :
    Calls Tryz.prog 105 #[.pointer (some ⟨L.g,0,none⟩),.int .u16 a] w fun e w' => e = .returned (.int .u8 (peek b.m a))∧∃ v',HoldM w' L v' c (b.rd a) (n+1)∧Mv w w' L v v':=by
  obtain ⟨_,_,_,_,_,_,_,_,_,_,_,e11,e12,hfz,hlt⟩:=h.facts
  have hp:=peek_b (Hold.bs h) a
  have HB:=hR w;go_enter Tryz.func105,Tryz.ntmps105
  go_wp2_with fail
  refine (impl_Peek _ _ _ a _ (Hold.bs h) h0 h1).mono ?_
  rintro _ w1 ⟨rfl,hb⟩
  have H1:=Aside0.mk (Hold.below h hb)
  have hz1:=hb.size
  have e12:=cell_keep hb e12
  have hfz:=fun i => (hb.frozen (p:=⟨L.g,i,none⟩) hlt).trans (hfz i)
  have hlt1 : L.g < w1.heap.size:=by omega
  have HB:=Aside0.mk hb
  have hs1:=H1.out.size
  have ht1 : (b.t.length+1) * 4 ≤ 140737488355328:=by have:=H1.out.tn;omega
  clear hb e11
  go_wp2_with (at_builtin;refine Kd.R_append cycK (w0:=w1) L.base rfl _ _ 34 70 (.agg #[.int .u16 0,.int .u8 0,.bool false]) 4 rfl Tryz.underlying34 infoCyc rfl (by decide) (by decide) v b.t ⟨a,peek b.m a,false⟩ [.int .u16 a,.int .u8 (peek b.m a),.bool false] (fun _ => True) (fun k => some k ≠ v.ownBlock) rfl rfl ⟨[_],_,rfl,rfl,[_],[_],rfl,rfl,rfl⟩ (fun _ hk => ⟨trivial,hk⟩) (fun _ _ => trivial) H1.out.log (Below.refl _ _) hs1 ht1 ?_;intro v2 w2 ho2 hb2 hg2 hat2;obtain ⟨A2,c2,ev2,_,_⟩:=Kd.R_reads ho2;rw [List.length_append,List.length_singleton] at ev2;subst ev2;have HA:=Aside0.mk (H1.out.app ⟨a,peek b.m a,false⟩ ⟨h0,h1,hp.1,hp.2⟩ ho2 hg2 hat2);clear ho2 hb2 hg2 hat2;have hfz2 : w2.frozen? ⟨L.g,12,none⟩ = false:=HA.out.1.free 12;have e12 : w2.cell? ⟨L.g,12,none⟩ = some v:=HA.out.1.cell 12;have hlt2:=HA.out.1.lt)
  go_ret
  exact ⟨rfl,_,Hold.set HA.out.1 12 _,((Mv.of_below HB.out (Hold.size h) v).trans HA.out.2 hs1).set h.bg 12 _⟩
set_option maxRecDepth 20000 in
set_option maxHeartbeats 400000 in
theorem impl_write (a d : Int) {w : World} {L : Lay} {v : Value} {c : Cpu} {b : Bus} {n : Nat} (h : HoldM w L v c b n) (hn : n ≤ 1000000) (h0 : 0 ≤ a) (h1 : a < 65536) (d0 : 0 ≤ d) (d1 : d < 256) :
    Calls Tryz.prog 148 #[.pointer (some ⟨L.g,0,none⟩),.int .u16 a,.int .u8 d] w fun e w' => e = .returned (.tuple #[])∧∃ v',HoldM w' L v' c (b.wr a d) (n+1)∧Mv w w' L v v':=by
  obtain ⟨_,_,_,_,_,_,_,_,_,_,_,e11,e12,hfz,hlt⟩:=h.facts
  have hs:=ramSize_le (Hold.ok h)
  have q0 : 0 ≤ a % b.m.length:=Int.emod_nonneg _ (by omega)
  have q1 : a % b.m.length < b.m.length:=Int.emod_lt_of_pos _ (by omega)
  obtain ⟨hy,hf⟩:=Kd.R_celln 0 (Hold.mem h) (a % b.m.length) q0 q1
  have hrl:=Hold.rlt h
  have hgr:=Hold.gr h
  have hrg : ¬ L.r = L.g:=fun e => hgr e.symm
  have HB:=hR w;go_enter Tryz.func148,Tryz.ntmps148
  go_wp2_with fail
  go_region_held3 (fun w' => w'.cell? ⟨L.g,11,none⟩ = some (.slice (some ⟨L.r,0,none⟩) b.m.length L.cap)) (first | (go_keep;done) | (go_split_ands;(repeat' apply And.intro) <;> (first | (with_reducible assumption) | (go_simp;done) | (exact cell_keep blw (by assumption)) | exact blw))) (first | (go_at_call 82;((with_reducible refine (impl_at _ _ _ _ _ h0 h1 (by omega) (by omega)).mono ?_);rintro _ w1 ⟨rfl,hb⟩;have H1:=Aside0.mk (Hold.below (Hold.drew h) hb);have HB:=Aside0.mk (below_step (w:=w) blw hb);have hz1:=hb.size;obtain ⟨hcl1,hfr1,hlt1,_⟩:=bcell hb;(try simp only [sA,sC,sD] at hz1);(try simp only [sA,sC,sD] at hcl1 hfr1 hlt1);have HB1:=hR w1;clear hb)))
  obtain ⟨HP1,HP2⟩:=Hold.put H1.out (a % b.m.length) d q0 q1 d0 d1
  have HM:=Aside0.mk ((Mv.of_below HB.out (Hold.size h) v).trans HP2 (Hold.size H1.out))
  have H1:=Aside0.mk HP1
  have hs1:=HP1.size
  have ht1 : (b.t.length+1) * 4 ≤ 140737488355328:=by have:=HP1.tn;simp only [] at this;omega
  clear e12
  have e12 : (w1.setCell ⟨L.r,(a % (b.m.length : Int)).toNat,none⟩ (.int .u8 d)).cell? ⟨L.g,12,none⟩ = some v:=HP1.cell 12
  have hlt1:=HP1.lt
  clear HP1 HP2 HB HB1 hz1 hcl1 hfr1 hlt1 hy hf e11 hfz hlt hrl
  generalize w1.setCell ⟨L.r,(a % (b.m.length : Int)).toNat,none⟩ (.int .u8 d) = w1 at *
  go_wp2_with (at_builtin;refine Kd.R_append cycK (w0:=w1) L.base rfl _ _ 34 70 (.agg #[.int .u16 0,.int .u8 0,.bool false]) 4 rfl Tryz.underlying34 infoCyc rfl (by decide) (by decide) v b.t ⟨a,d,true⟩ [.int .u16 a,.int .u8 d,.bool true] (fun _ => True) (fun k => some k ≠ v.ownBlock) rfl rfl ⟨[_],_,rfl,rfl,[_],[_],rfl,rfl,rfl⟩ (fun _ hk => ⟨trivial,hk⟩) (fun _ _ => trivial) H1.out.log (Below.refl _ _) hs1 ht1 ?_;intro v2 w2 ho2 hb2 hg2 hat2;obtain ⟨A2,c2,ev2,_,_⟩:=Kd.R_reads ho2;rw [List.length_append,List.length_singleton] at ev2;subst ev2;have HA:=Aside0.mk (H1.out.app ⟨a,d,true⟩ ⟨h0,h1,d0,d1⟩ ho2 hg2 hat2);clear ho2 hb2 hg2 hat2;have hfz2 : w2.frozen? ⟨L.g,12,none⟩ = false:=HA.out.1.free 12;have e12 : w2.cell? ⟨L.g,12,none⟩ = some v:=HA.out.1.cell 12;have hlt2:=HA.out.1.lt)
  go_end0
  exact ⟨rfl,_,HoldM.of (Hold.set HA.out.1 12 _) (by simp [Bus.wr]),(HM.out.trans HA.out.2 hs1).set (Hold.bg h) 12 _⟩
set_option maxRecDepth 20000 in
set_option maxHeartbeats 400000 in
theorem impl_readTwo (x y : Int) {w : World} {L : Lay} {v : Value} {c : Cpu} {b : Bus} {n : Nat} (h : HoldM w L v c b n) (hn : n ≤ 900000) (h0 : 0 ≤ x) (h1 : x < 65536) (h2 : 0 ≤ y) (h3 : y < 65536) :
    Calls Tryz.prog 108 #[.pointer (some ⟨L.g,0,none⟩),.int .u16 x,.int .u16 y] w fun e w' => e = .returned (.int .u16 (word2 (peek b.m x) (peek b.m y)))∧∃ v',HoldM w' L v' c ((b.rd x).rd y) (n+1+1)∧Mv w w' L v v':=by
  have p0:=peek_b (Hold.bs h) x
  have p1:=peek_b (Hold.bs h) y
  have HB:=hR w;go_enter Tryz.func108,Tryz.ntmps108
  go_wp2_with fail
  refine (impl_read x h (by omega) h0 h1).mono ?_
  rintro _ w1 ⟨rfl,v1,H1,M1⟩
  go_wp2_with fail
  refine (impl_read y H1 (by omega) h2 h3).mono ?_
  rintro _ w2 ⟨rfl,v2,H2,M2⟩
  have p1 : 0 ≤ peek (b.rd x).m y∧peek (b.rd x).m y < 256:=p1
  go_wp2_with (first | (go_at_call 151;((with_reducible refine (impl_wordOf _ _ _ p0.1 p0.2 p1.1 p1.2).mono ?_);rintro _ _ ⟨rfl,rfl⟩)))
  go_ret
  exact ⟨rfl,v2,H2,M1.trans M2 (Hold.size H1)⟩
theorem impl_stack (s : Int) (w : World) (h0 : 0 ≤ s) (h1 : s < 256) : Calls Tryz.prog 149 #[.int .u8 s] w fun e w' => e = .returned (.int .u16 (256+s))∧w = w':=by
  have HB:=hR w;go_enter Tryz.func149,Tryz.ntmps149
  go_wp2
  go_ret
  exact ⟨rfl,rfl⟩
open Go.RowKit Go.Proofs.YtoncmhfmkfeolaaGreatDoorW.PrintWords
theorem w8 (x : Int) : 0 ≤ IntKind.u8.wrap x∧IntKind.u8.wrap x < 256:=by rw [IntKind.wrap_u8];omega
def stk (s : Int) : Int:=256+s % 256
theorem stk_b (s : Int) : 0 ≤ stk s∧stk s < 65536:=by unfold stk;omega
def pushB (c : Cpu) (b : Bus) (ds : List Int) : Nat → Bus
  | 0 => b
  | k+1 => (pushB c b ds k).wr (stk (c.S - k)) (rd ds k)
def Cpu.dn (c : Cpu) (k : Int) : Cpu:={ c with S:=(c.S - k) % 256 }
theorem HoldM.setS {w : World} {L : Lay} {v : Value} {c : Cpu} {b : Bus} {n : Nat} (h : HoldM w L v c b n) (x : Int) : HoldM (w.setCell ⟨L.g,3,none⟩ (.int .u8 x)) L v { c with S:=x } b n:=Hold.set h 3 _
theorem HoldM.setPC {w : World} {L : Lay} {v : Value} {c : Cpu} {b : Bus} {n : Nat} (h : HoldM w L v c b n) (x : Int) : HoldM (w.setCell ⟨L.g,4,none⟩ (.int .u16 x)) L v { c with PC:=x } b n:=Hold.set h 4 _
theorem HoldM.setI {w : World} {L : Lay} {v : Value} {c : Cpu} {b : Bus} {n : Nat} (h : HoldM w L v c b n) (x : Bool) : HoldM (w.setCell ⟨L.g,8,none⟩ (.bool x)) L v { c with F:={ c.F with I:=x } } b n:=Hold.set h 8 _
def Apart (w : World) (L : Lay) (v : Value) (i : Nat) : Prop:=i < w.heap.size∧i ≠ L.g∧i ≠ L.r∧some i ≠ v.ownBlock
theorem Hold.fresh {w : World} {L : Lay} {v : Value} {T : Nat} {cs : Array Value} {b : Bus} {n : Nat} (h : Hold w L v T cs b n) (o : Obj) : Apart (w.alloc o) L v w.heap.size :=
  ⟨by simp,by have:=h.lt;omega,by have:=h.rlt;omega,fun e => by have:=h.vlt _ e.symm;omega⟩
set_option maxRecDepth 20000 in
set_option maxHeartbeats 400000 in
theorem impl_push (ds : List Int) (p cap : Nat) {w : World} {L : Lay} {v : Value} {c : Cpu} {b : Bus} {n : Nat} (h : HoldM w L v c b n) (hn : n ≤ 900000) (hc : 0 ≤ c.S∧c.S < 256) (ha : Apart w L v p) (hd : Bs w (some ⟨p,0,none⟩) ds) (hl : ds.length ≤ 100) :
    Calls Tryz.prog 106 #[.pointer (some ⟨L.g,0,none⟩),.slice (some ⟨p,0,none⟩) ds.length cap] w fun e w' => e = .returned (.tuple #[])∧∃ v',HoldM w' L v' (c.dn ds.length) (pushB c b ds ds.length) (n+ds.length)∧Mv w w' L v v':=by
  have HB:=hR w;go_enter Tryz.func106,Tryz.ntmps106
  go_wp2_with fail
  go_loopw [8] (fun v8 wr => ∃ k : Nat,∃ v',k ≤ ds.length∧v8 = .int .i64 k∧Aside0 (HoldM wr L v' (c.dn k) (pushB c b ds k) (n+k))∧Aside0 (Mv w wr L v v')) (fun v8 _ => ds.length - (intOf v8).toNat)
  case atStart => exact ⟨0,v,Nat.zero_le _,rfl,⟨by have e : c.dn (0 : Nat) = c:=by { unfold Cpu.dn;rw [show (c.S - (0 : Nat)) % 256 = c.S by omega] };rw [e];exact h⟩,⟨Mv.refl _ _ _ (HoldM.size h)⟩⟩
  case round =>
    obtain ⟨k,v1,hk,rfl,H1,M1⟩:=hrel
    by_cases hlt : k < ds.length
    · obtain ⟨ad,ead,hx⟩:=hd.at k (by omega) (by omega)
      injection ead with ead
      subst ead
      rw [Int.toNat_natCast,add_plain] at hx
      have hx1:=((M1.out.loc p ha.1 ha.2).1 k).trans hx
      have hr:=hd.b k
      obtain ⟨_,_,_,e3,_,_,_,_,_,_,_,_,_,hfz,hlt1⟩:=H1.out.facts
      have hs : 0 ≤ (c.dn k).S∧(c.dn k).S < 256:=by unfold Cpu.dn;simp only [];omega
      have hs1:=hs.1
      have hs2:=hs.2
      go_wp2_with (first | (go_at_call 149;((with_reducible refine (impl_stack _ _ hs1 hs2).mono ?_);rintro _ _ ⟨rfl,rfl⟩)))
      refine (impl_write (256+(c.dn k).S) (rd ds k) H1.out (by omega) (by omega) (by omega) hr.1 hr.2).mono ?_
      rintro _ w2 ⟨rfl,v2,H2,M2⟩
      have M2:=Aside0.mk (M1.out.trans M2 (Hold.size H1.out))
      obtain ⟨_,_,_,e3,_,_,_,_,_,_,_,_,_,hfz,hlt1⟩:=H2.facts
      have H2:=Aside0.mk H2
      go_wp2_with fail
      have e1 : { c.dn k with S:=((c.dn k).S - 1) % 256 } = c.dn (k+1 : Nat):=by
        show ({ c with S:=((c.S - (k : Int)) % 256 - 1) % 256 } : Cpu) = { c with S:=(c.S - ((k+1 : Nat) : Int)) % 256 }
        rw [show ((c.S - (k : Int)) % 256 - 1) % 256 = (c.S - ((k+1 : Nat) : Int)) % 256 by omega]
      have e2 : pushB c b ds (k+1) = (pushB c b ds k).wr (256+(c.dn k).S) (rd ds k):=rfl
      have H3:=HoldM.setS H2.out (((c.dn k).S - 1) % 256)
      rw [e1,← e2] at H3
      exact ⟨⟨k+1,v2,by omega,by go_num,⟨H3⟩,⟨M2.out.set (Hold.bg h) 3 _⟩⟩,by simp [intOf];omega⟩
    · go_wp2
      go_end0
      have e : k = ds.length:=by omega
      subst e
      exact ⟨rfl,v1,H1.out,M1.out⟩
theorem rd_lit (L : List Int) (hb : ∀ x ∈ L,0 ≤ x∧x < 256) (i : Int) : 0 ≤ rd L i∧rd L i < 256:=by
  unfold rd
  rw [List.getD_eq_getElem?_getD]
  rcases Nat.lt_or_ge i.toNat L.length with h | h
  · rw [List.getElem?_eq_getElem h];exact hb _ (List.getElem_mem h)
  · rw [List.getElem?_eq_none h];simp
theorem bs_lit (W : World) (L : List Int) (e : TypeId) (hm : L.length ≤ 1048576) (hb : ∀ x ∈ L,0 ≤ x∧x < 256) : Bs (W.alloc (Obj.cells (L.map (Value.int .u8)).toArray e)) (some ⟨W.heap.size,0,none⟩) L:=by
  refine ⟨Kd.C_of_reads (d:=(0 : Int)) (h1:=fun _ => rfl) ⟨rfl,by omega,fun _ => ⟨_,rfl,fun j hj => ?_⟩⟩,rd_lit L hb⟩
  rw [add_plain,World.cell?_alloc_new]
  simp [hj]
theorem impl_pushL (ds : List Int) {w : World} {L : Lay} {v : Value} {c : Cpu} {b : Bus} {n : Nat} (h : HoldM w L v c b n) (hn : n ≤ 900000) (hc : 0 ≤ c.S∧c.S < 256) (hb : ∀ x ∈ ds,0 ≤ x∧x < 256) (hl : ds.length ≤ 100) (cap : Nat) :
    Calls Tryz.prog 106 #[.pointer (some ⟨L.g,0,none⟩),.slice (some ⟨w.heap.size,0,none⟩) ds.length cap] (w.alloc (.cells (ds.map (Value.int .u8)).toArray 5)) fun e w' => e = .returned (.tuple #[])∧∃ v',HoldM w' L v' (c.dn ds.length) (pushB c b ds ds.length) (n+ds.length)∧Mv w w' L v v' :=
  (impl_push ds w.heap.size cap (Hold.alloc h _) hn hc (Hold.fresh h _) (bs_lit w ds _ (by omega) hb) hl).mono fun _ _ ⟨h1,v1,h2,h3⟩ => ⟨h1,v1,h2,((Mv.refl w L v (Hold.size h)).alloc (Hold.size h) _).trans h3 (Hold.size (Hold.alloc h _))⟩
theorem pushB3 (c : Cpu) (b : Bus) (x y z : Int) : pushB c b [x,y,z] 3 = ((b.wr (stk c.S) x).wr (stk (c.S - 1)) y).wr (stk (c.S - 2)) z:=by
  show ((b.wr (stk (c.S - (0 : Nat))) x).wr (stk (c.S - (1 : Nat))) y).wr (stk (c.S - (2 : Nat))) z = _
  rw [show c.S - (0 : Nat) = c.S by simp]
  rfl
theorem impl_push3 (x y z : Int) {w : World} {L : Lay} {v : Value} {c : Cpu} {b : Bus} {n : Nat} (h : HoldM w L v c b n) (hn : n ≤ 900000) (hc : 0 ≤ c.S∧c.S < 256) (hx : 0 ≤ x∧x < 256) (hy : 0 ≤ y∧y < 256) (hz : 0 ≤ z∧z < 256) :
    Calls Tryz.prog 106 #[.pointer (some ⟨L.g,0,none⟩),.slice (some ⟨w.heap.size,0,none⟩) 3 3] (w.alloc (.cells #[.int .u8 x,.int .u8 y,.int .u8 z] 5)) fun e w' => e = .returned (.tuple #[])∧∃ v',HoldM w' L v' (c.dn 3) (((b.wr (stk c.S) x).wr (stk (c.S - 1)) y).wr (stk (c.S - 2)) z) (n+3)∧Mv w w' L v v':=by
  have:=impl_pushL [x,y,z] h hn hc (by simp [hx,hy,hz]) (by simp) 3
  rw [show [x,y,z].length = 3 from rfl,pushB3] at this
  exact this
def push3 (c : Cpu) (b : Bus) (pc : Int) (k : Bool) : Bus:=((b.wr (stk c.S) (pc / 256)).wr (stk (c.S - 1)) (pc % 256)).wr (stk (c.S - 2)) (packP c.F k)
def vec (nmi : Bool) : Int:=if nmi then 65530 else 65534
def Cpu.to (c : Cpu) (b : Bus) (a : Int) : Cpu:={ c with S:=(c.S - 3) % 256,PC:=word2 (peek b.m a) (peek b.m (a+1)),F:={ c.F with I:=true } }
def serveB (c : Cpu) (b : Bus) (nmi : Bool) : Bus:=((push3 c ((b.rd c.PC).rd c.PC) c.PC false).rd (vec nmi)).rd (vec nmi+1)
def serveC (c : Cpu) (b : Bus) (nmi : Bool) : Cpu:=c.to (push3 c ((b.rd c.PC).rd c.PC) c.PC false) (vec nmi)
set_option maxRecDepth 20000 in
set_option maxHeartbeats 400000 in
theorem impl_serve (nmi : Bool) {w : World} {L : Lay} {v : Value} {c : Cpu} {b : Bus} {n : Nat} (h : HoldM w L v c b n) (hn : n ≤ 800000) (hc : c.ok) :
    Calls Tryz.prog 53 #[.pointer (some ⟨L.g,0,none⟩),.bool nmi] w fun e w' => e = .returned (.tuple #[])∧∃ v',HoldM w' L v' (serveC c b nmi) (serveB c b nmi) (n+7)∧Mv w w' L v v':=by
  obtain ⟨_,_,_,_,_,_,hs0,hs1,hp0,hp1⟩:=hc
  obtain ⟨_,_,_,_,e4,_,_,_,_,_,_,_,_,hfz,hlt⟩:=h.facts
  have HB:=hR w;go_enter Tryz.func53,Tryz.ntmps53
  go_wp2_with fail
  refine (impl_read c.PC h (by omega) hp0 hp1).mono ?_
  rintro _ w1 ⟨rfl,v1,H1,M1⟩
  obtain ⟨_,_,_,_,e4,_,_,_,_,_,_,_,_,hfz,hlt⟩:=H1.facts
  go_wp2_with fail
  refine (impl_read c.PC H1 (by omega) hp0 hp1).mono ?_
  rintro _ w2 ⟨rfl,v2,H2,M2⟩
  obtain ⟨_,_,_,_,e4,e5,e6,e7,e8,e9,e10,_,_,hfz,hlt⟩:=H2.facts
  have M2:=Aside0.mk (M1.trans M2 (Hold.size H1))
  have H2:=Aside0.mk H2
  clear M1 H1
  have HB2:=Aside0.mk (Below.refl w2.heap.size w2)
  have hpk:=packP_b c.F false
  have W1 : Aside0 (IntKind.u8.wrap (c.PC / 256) = c.PC / 256):=⟨by rw [IntKind.wrap_u8];omega⟩
  have W2 : Aside0 (IntKind.u8.wrap c.PC = c.PC % 256):=⟨IntKind.wrap_u8 _⟩
  go_wp2_with fail
  go_region_held3 (fun w' => w'.cell? ⟨L.g,4,none⟩ = some (.int .u16 c.PC)∧w'.cell? ⟨L.g,5,none⟩ = some (.bool c.F.N)∧w'.cell? ⟨L.g,6,none⟩ = some (.bool c.F.V)∧w'.cell? ⟨L.g,7,none⟩ = some (.bool c.F.D)∧w'.cell? ⟨L.g,8,none⟩ = some (.bool c.F.I)∧w'.cell? ⟨L.g,9,none⟩ = some (.bool c.F.Z)∧w'.cell? ⟨L.g,10,none⟩ = some (.bool c.F.C)) (first | (go_keep;done) | (go_split_ands;(repeat' apply And.intro) <;> (first | (with_reducible assumption) | (go_simp;done) | (exact cell_keep blw (by assumption)) | exact blw))) (first | (go_at_call 107;((with_reducible refine (impl_PackP _ _ _).mono ?_);rintro _ w3 ⟨rfl,hb⟩;have HB2:=Aside0.mk (below_step (w:=w2) (blw) hb);have hz3:=hb.size;obtain ⟨hcl3,hfr3,hlt3,_⟩:=bcell hb;(try simp only [World.size_alloc,World.size_setCell,World.size_drew] at hz3 hcl3 hfr3 hlt3);clear hb)) | (go_at_call 106;((with_reducible refine (impl_push3 (IntKind.u8.wrap (c.PC / 256)) (IntKind.u8.wrap c.PC) (packP c.F false) (w:=w3) (HoldM.below H2.out (blw)) (by omega) ⟨hs0,hs1⟩ (w8 _) (w8 _) hpk).mono ?_);rintro _ w4 ⟨rfl,v4,H4,M4⟩;have M4:=Aside0.mk ((M2.out.then HB2.out (Hold.size H2.out)).trans M4 (Nat.le_trans (Hold.size H2.out) HB2.out.size));rw [W1.out,W2.out] at H4;have H4:=Aside0.mk H4;have e4 : w4.cell? ⟨L.g,4,none⟩ = some (.int .u16 c.PC):=H4.out.facts.c4;have e5 : w4.cell? ⟨L.g,5,none⟩ = some (.bool c.F.N):=H4.out.facts.c5;have e6 : w4.cell? ⟨L.g,6,none⟩ = some (.bool c.F.V):=H4.out.facts.c6;have e7 : w4.cell? ⟨L.g,7,none⟩ = some (.bool c.F.D):=H4.out.facts.c7;have e8 : w4.cell? ⟨L.g,8,none⟩ = some (.bool c.F.I):=H4.out.facts.c8;have e9 : w4.cell? ⟨L.g,9,none⟩ = some (.bool c.F.Z):=H4.out.facts.c9;have e10 : w4.cell? ⟨L.g,10,none⟩ = some (.bool c.F.C):=H4.out.facts.c10)))
  clear e4 e5 e6 e7 e8 e9 e10
  cases nmi
  · go_wp2_with fail
    refine (impl_readTwo 65534 65535 H4.out (by omega) (by decide) (by decide) (by decide) (by decide)).mono ?_
    rintro _ w5 ⟨rfl,v5,H5,M5⟩
    obtain ⟨_,_,_,_,e4,e5,e6,e7,e8,e9,e10,_,_,hfz,hlt⟩:=H5.facts;have M5:=Aside0.mk (M4.out.trans M5 (HoldM.size H4.out));have H5:=Aside0.mk H5;clear H4 M4 H2 M2;go_wp2_with fail;go_end0;exact ⟨rfl,v5,HoldM.setI (HoldM.setPC H5.out _) true,(M5.out.set (Hold.bg h) 4 _).set (Hold.bg h) 8 _⟩
  · go_wp2_with fail
    refine (impl_readTwo 65530 65531 H4.out (by omega) (by decide) (by decide) (by decide) (by decide)).mono ?_
    rintro _ w5 ⟨rfl,v5,H5,M5⟩
    obtain ⟨_,_,_,_,e4,e5,e6,e7,e8,e9,e10,_,_,hfz,hlt⟩:=H5.facts;have M5:=Aside0.mk (M4.out.trans M5 (HoldM.size H4.out));have H5:=Aside0.mk H5;clear H4 M4 H2 M2;go_wp2_with fail;go_end0;exact ⟨rfl,v5,HoldM.setI (HoldM.setPC H5.out _) true,(M5.out.set (Hold.bg h) 4 _).set (Hold.bg h) 8 _⟩
open Go.RowKit Go.Proofs.YtoncmhfmkfeolaaGreatDoorW.PrintWords
def cpu0 : Cpu:=⟨0,0,0,0,0,⟨false,false,false,false,false,false⟩⟩
structure After where
  c : Cpu
  m : List Int
  t : List Cyc
def serve (c : Cpu) (m : List Int) (nmi : Bool) : After:=if ramSize m.length then ⟨serveC c ⟨m,[]⟩ nmi,(serveB c ⟨m,[]⟩ nmi).m,(serveB c ⟨m,[]⟩ nmi).t⟩ else ⟨cpu0,[],[]⟩
theorem alloc_blk (w : World) (o : Obj) : (w.alloc o).heap[w.heap.size]? = some o:=by
  show (w.heap.push o)[w.heap.size]? = _
  simp
theorem HoldM.begin (w : World) (base r cap : Nat) (c : Cpu) (m : List Int) (h : OwnB w base (.slice (some ⟨r,0,none⟩) m.length cap) m) (hb : base ≤ w.heap.size) (hs : ramSize m.length = true) (hm : ∀ i,0 ≤ rd m i∧rd m i < 256) :
    HoldM (w.alloc (.cells #[.int .u8 c.A,.int .u8 c.X,.int .u8 c.Y,.int .u8 c.S,.int .u16 c.PC,.bool c.F.N,.bool c.F.V,.bool c.F.D,.bool c.F.I,.bool c.F.Z,.bool c.F.C,.slice (some ⟨r,0,none⟩) m.length cap,.slice none 0 0] 97)) ⟨base,w.heap.size,r,cap⟩ (.slice none 0 0) c ⟨m,[]⟩ 0 :=
  ⟨alloc_blk _ _,h.alloc _,Kd.R_nil _ _ _ _ _,hb,by have:=Kd.R_lt h r rfl;simp only [];omega,by simp [Value.ownBlock],by simp [Value.ownBlock],hs,hm,fun k => by simp [cd,Cyc.ok],Nat.le_refl _⟩
open Go.RowKit Go.Proofs.YtoncmhfmkfeolaaGreatDoorW.PrintWords
def Box (w : World) (g : Nat) (c : Cpu) : Prop:=w.heap[g]? = some (.cells #[.int .u8 c.A,.int .u8 c.X,.int .u8 c.Y,.int .u8 c.S,.int .u16 c.PC,.bool c.F.N,.bool c.F.V,.bool c.F.D,.bool c.F.I,.bool c.F.Z,.bool c.F.C] 28 (0,0))
theorem Box.lt {w : World} {g : Nat} {c : Cpu} (h : Box w g c) : g < w.heap.size:=blk_lt h
theorem Box.cell {w : World} {g : Nat} {c : Cpu} (h : Box w g c) (i : Nat) : w.cell? ⟨g,i,none⟩ = (#[.int .u8 c.A,.int .u8 c.X,.int .u8 c.Y,.int .u8 c.S,.int .u16 c.PC,.bool c.F.N,.bool c.F.V,.bool c.F.D,.bool c.F.I,.bool c.F.Z,.bool c.F.C] : Array Value)[i]?:=blk_cell h i
theorem Box.free {w : World} {g : Nat} {c : Cpu} (h : Box w g c) (i : Nat) : w.frozen? ⟨g,i,none⟩ = false:=blk_frozen h i
theorem Box.keep {w w' : World} {g : Nat} {c : Cpu} (h : Box w g c) (e : w'.heap[g]? = w.heap[g]?) : Box w' g c:=e.trans h
theorem Box.new (w : World) (c : Cpu) : Box (w.alloc (.cells #[.int .u8 c.A,.int .u8 c.X,.int .u8 c.Y,.int .u8 c.S,.int .u16 c.PC,.bool c.F.N,.bool c.F.V,.bool c.F.D,.bool c.F.I,.bool c.F.Z,.bool c.F.C] 28)) w.heap.size c:=alloc_blk _ _
theorem Box.below {w w' : World} {g : Nat} {c : Cpu} (h : Box w g c) (hb : Below w.heap.size w w') : Box w' g c:=h.keep (hb.block _ h.lt)
theorem Box.other {w : World} {g k i : Nat} {c : Cpu} (h : Box w g c) (hk : g ≠ k) (v : Value) : Box (w.setCell ⟨k,i,none⟩ v) g c:=h.keep (Below.heap_setCell w ⟨k,i,none⟩ v g hk)
open Go.RowKit Go.Proofs.YtoncmhfmkfeolaaGreatDoorW.PrintWords
theorem serve_ml (c : Cpu) (l : List Int) (nmi : Bool) : (serve c l nmi).m.length ≤ l.length:=by
  unfold serve
  split
  · simp [serveB,push3,Bus.rd,Bus.wr]
  · simp
theorem serve_tl (c : Cpu) (l : List Int) (nmi : Bool) : (serve c l nmi).t.length ≤ 7:=by
  unfold serve
  split
  · simp [serveB,push3,Bus.rd,Bus.wr]
  · simp
open Go.RowKit Go.Proofs.YtoncmhfmkfeolaaGreatDoorW.PrintWords
structure BOk (b : Bus) : Prop where
  m : ∀ i,0 ≤ rd b.m i∧rd b.m i < 256
  t : ∀ x ∈ b.t,x.ok
theorem rd_set_b {L : List Int} (h : ∀ i,0 ≤ rd L i∧rd L i < 256) (k : Nat) {d : Int} (hd : 0 ≤ d∧d < 256) : ∀ i,0 ≤ rd (L.set k d) i∧rd (L.set k d) i < 256:=by
  intro i
  by_cases e : k = i.toNat
  · subst e
    rw [rd,List.getD_eq_getElem?_getD]
    rcases Nat.lt_or_ge i.toNat L.length with q | q
    · rw [List.getElem?_set_self q];exact hd
    · rw [List.getElem?_eq_none (by simpa using q)];simp
  · have:=h i
    rw [rd,List.getD_eq_getElem?_getD] at this ⊢
    rwa [List.getElem?_set_ne e]
theorem peek_bb {L : List Int} (h : ∀ i,0 ≤ rd L i∧rd L i < 256) (a : Int) : 0 ≤ peek L a∧peek L a < 256:=by
  unfold peek
  split
  · exact h _
  · omega
theorem BOk.rd {b : Bus} (h : BOk b) {a : Int} (a0 : 0 ≤ a) (a1 : a < 65536) : BOk (b.rd a):=by
  refine ⟨h.m,fun x hx => ?_⟩
  rcases List.mem_append.1 hx with hx | hx
  · exact h.t x hx
  · rw [List.mem_singleton] at hx
    subst hx
    have:=peek_bb h.m a
    exact ⟨a0,a1,this.1,this.2⟩
theorem BOk.wr {b : Bus} (h : BOk b) {a d : Int} (a0 : 0 ≤ a) (a1 : a < 65536) (hd : 0 ≤ d∧d < 256) : BOk (b.wr a d):=by
  refine ⟨rd_set_b h.m _ hd,fun x hx => ?_⟩
  rcases List.mem_append.1 hx with hx | hx
  · exact h.t x hx
  · rw [List.mem_singleton] at hx
    subst hx
    exact ⟨a0,a1,hd.1,hd.2⟩
theorem vec_b (nmi : Bool) : 0 ≤ vec nmi∧vec nmi < 65535:=by cases nmi <;> decide
theorem serveB_ok (c : Cpu) (b : Bus) (nmi : Bool) (hc : c.ok) (h : BOk b) : BOk (serveB c b nmi):=by
  obtain ⟨_,_,_,_,_,_,s0,s1,p0,p1⟩:=hc
  have v:=vec_b nmi
  exact (((((((h.rd p0 p1).rd p0 p1).wr (stk_b _).1 (stk_b _).2 (by omega)).wr (stk_b _).1 (stk_b _).2 (by omega)).wr (stk_b _).1 (stk_b _).2 (packP_b _ _)).rd v.1 (by omega)).rd (by omega) (by omega))
theorem cd_ok {t : List Cyc} (h : ∀ x ∈ t,x.ok) (k : Nat) : (cd t k).ok:=by
  unfold cd
  rw [List.getD_eq_getElem?_getD]
  rcases Nat.lt_or_ge k t.length with q | q
  · rw [List.getElem?_eq_getElem q];exact h _ (List.getElem_mem q)
  · rw [List.getElem?_eq_none q];exact ⟨by decide,by decide,by decide,by decide⟩
theorem serve_mb (c : Cpu) (l : List Int) (nmi : Bool) (hc : c.ok) (h : ∀ i,0 ≤ rd l i∧rd l i < 256) : ∀ i,0 ≤ rd (serve c l nmi).m i∧rd (serve c l nmi).m i < 256:=by
  unfold serve
  split
  · exact (serveB_ok c ⟨l,[]⟩ nmi hc ⟨h,by simp⟩).m
  · intro i;simp [rd]
theorem serve_tb (c : Cpu) (l : List Int) (nmi : Bool) (hc : c.ok) (h : ∀ i,0 ≤ rd l i∧rd l i < 256) : ∀ k,(cd (serve c l nmi).t k).ok:=by
  unfold serve
  split
  · exact cd_ok (serveB_ok c ⟨l,[]⟩ nmi hc ⟨h,by simp⟩).t
  · exact cd_ok (by simp)
open Go.RowKit Go.Proofs.YtoncmhfmkfeolaaGreatDoorW.PrintWords
def bcells (x v : Value) : Array Value:=#[x,v]
def HoldB (w : World) (L : Lay) (v : Value) (b : Bus) (n : Nat) : Prop:=Hold w L v 152 (bcells (.slice (some ⟨L.r,0,none⟩) b.m.length L.cap) v) b n
theorem HoldB.of {w : World} {L : Lay} {v : Value} {b : Bus} {n k : Nat} (h : Hold w L v 152 (bcells (.slice (some ⟨L.r,0,none⟩) k L.cap) v) b n) (e : k = b.m.length) : HoldB w L v b n:=by subst e;exact h
theorem HoldB.below {w w' : World} {L : Lay} {v : Value} {b : Bus} {n : Nat} (h : HoldB w L v b n) (hb : Below w.heap.size w w') : HoldB w' L v b n:=Hold.below h hb
theorem HoldB.alloc {w : World} {L : Lay} {v : Value} {b : Bus} {n : Nat} (h : HoldB w L v b n) (o : Obj) : HoldB (w.alloc o) L v b n:=Hold.alloc h o
theorem HoldB.drew {w : World} {L : Lay} {v : Value} {b : Bus} {n : Nat} (h : HoldB w L v b n) : HoldB w.drew L v b n:=Hold.drew h
theorem HoldB.drewN {w : World} {L : Lay} {v : Value} {b : Bus} {n : Nat} (h : HoldB w L v b n) (k : Nat) : HoldB (w.drewN k) L v b n:=Hold.drewN h k
theorem HoldB.far {w : World} {L : Lay} {v : Value} {b : Bus} {n : Nat} (h : HoldB w L v b n) (i o : Nat) (u : Value) (ap : i ≠ L.g∧i ≠ L.r∧some i ≠ v.ownBlock) : HoldB (w.setCell ⟨i,o,none⟩ u) L v b n:=Hold.far h ap u
theorem HoldB.apart {w : World} {L : Lay} {v : Value} {b : Bus} {n : Nat} (h : HoldB w L v b n) (i : Nat) (hi : w.heap.size ≤ i) : i ≠ L.g∧i ≠ L.r∧some i ≠ v.ownBlock :=
  ⟨by have:=Hold.lt h;omega,by have:=Hold.rlt h;omega,fun e => by have:=Hold.vlt h _ e.symm;omega⟩
theorem HoldB.size {w : World} {L : Lay} {v : Value} {b : Bus} {n : Nat} (h : HoldB w L v b n) : L.base ≤ w.heap.size:=Hold.size h
theorem HoldB.mem {w : World} {L : Lay} {v : Value} {b : Bus} {n : Nat} (h : HoldB w L v b n) : w.cell? ⟨L.g,0,none⟩ = some (.slice (some ⟨L.r,0,none⟩) b.m.length L.cap):=Hold.cell h 0
theorem HoldB.log {w : World} {L : Lay} {v : Value} {b : Bus} {n : Nat} (h : HoldB w L v b n) : w.cell? ⟨L.g,1,none⟩ = some v:=Hold.cell h 1
theorem HoldB.lt {w : World} {L : Lay} {v : Value} {b : Bus} {n : Nat} (h : HoldB w L v b n) : L.g < w.heap.size:=Hold.lt h
theorem HoldB.bs {w : World} {L : Lay} {v : Value} {b : Bus} {n : Nat} (h : HoldB w L v b n) : Bs w (some ⟨L.r,0,none⟩) b.m:=Hold.bs h
theorem HoldB.free {w : World} {L : Lay} {v : Value} {b : Bus} {n : Nat} (h : HoldB w L v b n) (i : Nat) : w.frozen? ⟨L.g,i,none⟩ = false:=Hold.free h i
theorem u16_in {a : Int} (h0 : 0 ≤ a) (h1 : a < 65536) : IntKind.u16.wrap a = a:=by rw [IntKind.wrap_u16];omega
set_option maxRecDepth 20000 in
set_option maxHeartbeats 400000 in
theorem spec_l06Read (x a : Int) (hx : x % 65536 = a) {w : World} {L : Lay} {v : Value} {b : Bus} {n : Nat} (h : HoldB w L v b n) (hn : n ≤ 1000000) :
    Calls Tryz.prog 119 #[.pointer (some ⟨L.g,0,none⟩),.int .i64 x] w fun e w' => e = .returned (.int .u8 (peek b.m a))∧∃ v',HoldB w' L v' (b.rd a) (n+1)∧Mv w w' L v v':=by
  have h0 : 0 ≤ a:=by omega
  have h1 : a < 65536:=by omega
  have hand : bits .and .i64 x 65535 = a:=(i64_and65535 x).trans hx
  have ep : peek b.m a = rd b.m (a % b.m.length):=by simp [peek,Hold.ok h]
  have hp:=peek_b h.bs a
  have eb : b.rd a = ⟨b.m,b.t ++ [⟨a,rd b.m (a % b.m.length),false⟩]⟩:=by unfold Bus.rd;rw [ep]
  rw [ep] at hp ⊢
  rw [eb]
  clear eb ep
  have hs:=ramSize_le (Hold.ok h)
  have hne : ¬ b.m = []:=fun e => by rw [e] at hs;simp at hs
  have q0 : 0 ≤ a % b.m.length:=Int.emod_nonneg _ (by omega)
  have q1 : a % b.m.length < b.m.length:=Int.emod_lt_of_pos _ (by omega)
  obtain ⟨hy,hf⟩:=Kd.R_celln 0 (Hold.mem h) (a % b.m.length) q0 q1
  have hy : w.cell? ⟨L.r,(a % b.m.length).toNat,none⟩ = some (.int .u8 (rd b.m (a % b.m.length))):=hy
  have e11:=h.mem
  have e12:=h.log
  have hlt:=h.lt
  have hs1:=h.size
  have ht1 : (b.t.length+1) * 4 ≤ 140737488355328:=by have:=Hold.tn h;omega
  have hu:=u16_in h0 h1
  have HB:=hR w;go_enter Tryz.func119,Tryz.ntmps119
  go_wp2_with fail
  go_quiet (fail)
  have H1:=Aside0.mk (Hold.drewN h nq)
  go_wp2_with (at_builtin;refine Kd.R_append cycK (w0:=w.drewN nq) L.base rfl _ _ 34 70 (.agg #[.int .u16 0,.int .u8 0,.bool false]) 4 rfl Tryz.underlying34 infoCyc rfl (by decide) (by decide) v b.t ⟨a,rd b.m (a % b.m.length),false⟩ [.int .u16 a,.int .u8 (rd b.m (a % b.m.length)),.bool false] (fun _ => True) (fun k => some k ≠ v.ownBlock) rfl rfl ⟨[_],_,rfl,rfl,[_],[_],rfl,rfl,rfl⟩ (fun _ hk => ⟨trivial,hk⟩) (fun _ _ => trivial) H1.out.log (Below.refl _ _) hs1 ht1 ?_;intro v2 w2 ho2 hb2 hg2 hat2;obtain ⟨A2,c2,ev2,_,_⟩:=Kd.R_reads ho2;rw [List.length_append,List.length_singleton] at ev2;subst ev2;have HA:=Aside0.mk (H1.out.app ⟨a,rd b.m (a % b.m.length),false⟩ ⟨h0,h1,hp.1,hp.2⟩ ho2 hg2 hat2);clear ho2 hb2 hg2 hat2;have hfz2 : w2.frozen? ⟨L.g,1,none⟩ = false:=HA.out.1.free 1;have e12 : w2.cell? ⟨L.g,1,none⟩ = some v:=HA.out.1.cell 1;have hlt2:=HA.out.1.lt)
  go_ret
  exact ⟨rfl,_,Hold.set HA.out.1 1 _,(((Mv.refl w L v h.size).drewN h.size nq).trans HA.out.2 hs1).set (Hold.bg h) 1 _⟩
set_option maxRecDepth 20000 in
set_option maxHeartbeats 400000 in
theorem spec_l06Write (x a d : Int) (hx : x % 65536 = a) {w : World} {L : Lay} {v : Value} {b : Bus} {n : Nat} (h : HoldB w L v b n) (hn : n ≤ 1000000) (d0 : 0 ≤ d) (d1 : d < 256) :
    Calls Tryz.prog 162 #[.pointer (some ⟨L.g,0,none⟩),.int .i64 x,.int .u8 d] w fun e w' => e = .returned (.tuple #[])∧∃ v',HoldB w' L v' (b.wr a d) (n+1)∧Mv w w' L v v':=by
  have h0 : 0 ≤ a:=by omega
  have h1 : a < 65536:=by omega
  have hand : bits .and .i64 x 65535 = a:=(i64_and65535 x).trans hx
  have hs:=ramSize_le (Hold.ok h)
  have hne : ¬ b.m = []:=fun e => by rw [e] at hs;simp at hs
  have q0 : 0 ≤ a % b.m.length:=Int.emod_nonneg _ (by omega)
  have q1 : a % b.m.length < b.m.length:=Int.emod_lt_of_pos _ (by omega)
  obtain ⟨hy,hf⟩:=Kd.R_celln 0 (Hold.mem h) (a % b.m.length) q0 q1
  have e11:=h.mem
  have hlt:=h.lt
  have hu:=u16_in h0 h1
  have hgr:=Hold.gr h
  have hrg : ¬ L.r = L.g:=fun e => hgr e.symm
  have HB:=hR w;go_enter Tryz.func162,Tryz.ntmps162
  go_wp2_with fail
  go_region
  obtain ⟨HP1,HP2⟩:=Hold.put h (a % b.m.length) d q0 q1 d0 d1
  have HP1:=HP1.drew
  have HM:=Aside0.mk (HP2.drew (by have:=HP1.size;exact this))
  have H1:=Aside0.mk HP1
  have hs1:=HP1.size
  have ht1 : (b.t.length+1) * 4 ≤ 140737488355328:=by have:=HP1.tn;simp only [] at this;omega
  have e12 : (w.setCell ⟨L.r,(a % (b.m.length : Int)).toNat,none⟩ (.int .u8 d)).drew.cell? ⟨L.g,1,none⟩ = some v:=HP1.cell 1
  clear HP1 HP2 hy hf e11 hlt
  generalize (w.setCell ⟨L.r,(a % (b.m.length : Int)).toNat,none⟩ (.int .u8 d)).drew = w1 at *
  go_wp2_with (at_builtin;refine Kd.R_append cycK (w0:=w1) L.base rfl _ _ 34 70 (.agg #[.int .u16 0,.int .u8 0,.bool false]) 4 rfl Tryz.underlying34 infoCyc rfl (by decide) (by decide) v b.t ⟨a,d,true⟩ [.int .u16 a,.int .u8 d,.bool true] (fun _ => True) (fun k => some k ≠ v.ownBlock) rfl rfl ⟨[_],_,rfl,rfl,[_],[_],rfl,rfl,rfl⟩ (fun _ hk => ⟨trivial,hk⟩) (fun _ _ => trivial) H1.out.log (Below.refl _ _) hs1 ht1 ?_;intro v2 w2 ho2 hb2 hg2 hat2;obtain ⟨A2,c2,ev2,_,_⟩:=Kd.R_reads ho2;rw [List.length_append,List.length_singleton] at ev2;subst ev2;have HA:=Aside0.mk (H1.out.app ⟨a,d,true⟩ ⟨h0,h1,d0,d1⟩ ho2 hg2 hat2);clear ho2 hb2 hg2 hat2;have hfz2 : w2.frozen? ⟨L.g,1,none⟩ = false:=HA.out.1.free 1;have e12 : w2.cell? ⟨L.g,1,none⟩ = some v:=HA.out.1.cell 1;have hlt2:=HA.out.1.lt)
  go_end0
  exact ⟨rfl,_,HoldB.of (Hold.set HA.out.1 1 _) (by simp [Bus.wr]),(HM.out.trans HA.out.2 hs1).set (Hold.bg h) 1 _⟩
theorem spec_l06Stack (s : Int) (w : World) : Calls Tryz.prog 163 #[.int .i64 s] w fun e w' => e = .returned (.int .i64 (stk s))∧w = w':=by
  have hand:=i64_and255 s
  have hb : 0 ≤ s % 256∧s % 256 < 256:=by omega
  generalize hq : s % 256 = q at hand hb
  unfold stk
  rw [hq]
  clear hq
  have HB:=hR w;go_enter Tryz.func163,Tryz.ntmps163
  go_wp2
  go_ret
  exact ⟨rfl,rfl⟩
set_option maxRecDepth 20000 in
set_option maxHeartbeats 1000000 in
theorem spec_l06Push (c : Cpu) (pc a : Int) (k : Bool) {w : World} {L : Lay} {v : Value} {b : Bus} {n : Nat} (h : HoldB w L v b n) (hn : n ≤ 800000) (hc : c.ok) (h0 : 0 ≤ pc) (h1 : pc < 65536) (h2 : 0 ≤ a) (h3 : a < 65535) :
    Calls Tryz.prog 120 #[.pointer (some ⟨L.g,0,none⟩),.agg #[.int .u8 c.A,.int .u8 c.X,.int .u8 c.Y,.int .u8 c.S,.int .u16 c.PC,.bool c.F.N,.bool c.F.V,.bool c.F.D,.bool c.F.I,.bool c.F.Z,.bool c.F.C],.int .i64 pc,.bool k,.int .i64 a] w fun e w' => e = .returned (.agg #[.int .u8 (c.to (push3 c b pc k) a).A,.int .u8 (c.to (push3 c b pc k) a).X,.int .u8 (c.to (push3 c b pc k) a).Y,.int .u8 (c.to (push3 c b pc k) a).S,.int .u16 (c.to (push3 c b pc k) a).PC,.bool (c.to (push3 c b pc k) a).F.N,.bool (c.to (push3 c b pc k) a).F.V,.bool (c.to (push3 c b pc k) a).F.D,.bool (c.to (push3 c b pc k) a).F.I,.bool (c.to (push3 c b pc k) a).F.Z,.bool (c.to (push3 c b pc k) a).F.C])∧∃ v',HoldB w' L v' (((push3 c b pc k).rd a).rd (a+1)) (n+5)∧Mv w w' L v v':=by
  obtain ⟨_,_,_,_,_,_,hs0,hs1,hp0,hp1⟩:=hc
  have H0:=Aside0.mk h
  have M0:=Aside0.mk (Mv.refl w L v h.size)
  have ap_0:=h.apart w.heap.size (Nat.le_refl _)
  have ap_1:=h.apart (w.heap.size+1) (by omega)
  have hb1:=stk_b c.S
  have hb2:=stk_b (c.S - 1)
  have hb3:=stk_b (c.S - 2)
  have hand:=i64_and255
  have HE : Aside0 (pc / 256 % 256 = pc / 256):=⟨by omega⟩
  obtain ⟨D,hD⟩ : ∃ D,push3 c b pc k = D:=⟨_,rfl⟩
  rw [hD]
  have HD:=Aside0.mk hD
  clear hD
  have HB:=hR w;go_enter Tryz.func120,Tryz.ntmps120
  go_wp2_with (first | (go_at_call 163;((with_reducible refine (spec_l06Stack _ _).mono ?_);rintro _ _ ⟨rfl,rfl⟩)))
  go_wp2_with fail
  refine Calls.mono (spec_l06Write _ (stk c.S) (pc / 256 % 256) (by omega) (by (repeat' (first | (with_reducible exact H0.out) | (with_reducible apply HoldB.alloc) | (with_reducible apply HoldB.drew) | (with_reducible apply HoldB.drewN) | (with_reducible refine HoldB.far ?_ _ _ _ ?_) | assumption))) (by omega) (by omega) (by omega)) ?_
  rintro _ w1 ⟨rfl,v1,H1,M1⟩
  obtain ⟨hl1_0,hf1_0,hz1_0,ap_0⟩:=M1.loc (w.heap.size) (by first | omega | (simp;done) | (simp;omega)) ap_0
  obtain ⟨hl1_1,hf1_1,hz1_1,ap_1⟩:=M1.loc (w.heap.size+1) (by first | omega | (simp;done) | (simp;omega)) ap_1
  have M1:=Aside0.mk (Mv.tr (by (repeat' (first | (with_reducible exact M0.out) | (with_reducible apply Mv.al) | (with_reducible apply Mv.dr) | (with_reducible apply Mv.drN) | (with_reducible refine Mv.far ?_ ?_ _) | (with_reducible refine Mv.set ?_ ?_ _ _) | omega | (simp only [];omega) | assumption))) M1)
  have H1:=Aside0.mk H1
  go_wp2_with (first | (go_at_call 163;((with_reducible refine (spec_l06Stack _ _).mono ?_);rintro _ _ ⟨rfl,rfl⟩)))
  go_wp2_with fail
  refine Calls.mono (spec_l06Write _ (stk (c.S - 1)) (pc % 256) (by omega) (by (repeat' (first | (with_reducible exact H1.out) | (with_reducible apply HoldB.alloc) | (with_reducible apply HoldB.drew) | (with_reducible apply HoldB.drewN) | (with_reducible refine HoldB.far ?_ _ _ _ ?_) | assumption))) (by omega) (by omega) (by omega)) ?_
  rintro _ w2 ⟨rfl,v2,H2,M2⟩
  obtain ⟨hl2_0,hf2_0,hz2_0,ap_0⟩:=M2.loc (w.heap.size) (by first | omega | (simp;done) | (simp;omega)) ap_0
  obtain ⟨hl2_1,hf2_1,hz2_1,ap_1⟩:=M2.loc (w.heap.size+1) (by first | omega | (simp;done) | (simp;omega)) ap_1
  have M2:=Aside0.mk (Mv.tr (by (repeat' (first | (with_reducible exact M1.out) | (with_reducible apply Mv.al) | (with_reducible apply Mv.dr) | (with_reducible apply Mv.drN) | (with_reducible refine Mv.far ?_ ?_ _) | (with_reducible refine Mv.set ?_ ?_ _ _) | omega | (simp only [];omega) | assumption))) M2)
  have H2:=Aside0.mk H2
  have hpk:=packP_b c.F k
  have hw2 : IntKind.i64.wrap (c.S - 2) = c.S - 2:=w64 ⟨by omega,by omega⟩
  go_wp2_with fail
  go_region_held3 (fun w' => w'.cell? ⟨w.heap.size,5,none⟩ = some (.bool c.F.N)∧w'.cell? ⟨w.heap.size,6,none⟩ = some (.bool c.F.V)∧w'.cell? ⟨w.heap.size,7,none⟩ = some (.bool c.F.D)∧w'.cell? ⟨w.heap.size,8,none⟩ = some (.bool c.F.I)∧w'.cell? ⟨w.heap.size,9,none⟩ = some (.bool c.F.Z)∧w'.cell? ⟨w.heap.size,10,none⟩ = some (.bool c.F.C)) (first | (go_keep;done) | (go_split_ands;(repeat' apply And.intro) <;> (first | (with_reducible assumption) | (go_simp;done) | (exact cell_keep blw (by assumption)) | exact blw))) (first | (go_at_call 163;((with_reducible refine (spec_l06Stack _ _).mono ?_);rintro _ _ ⟨rfl,rfl⟩)) | (go_at_call 164;((with_reducible refine (spec_PackP _ _ _).mono ?_);rintro _ w3 ⟨rfl,hb⟩;have H3:=Aside0.mk (HoldB.below (by (repeat' (first | (with_reducible exact H2.out) | (with_reducible apply HoldB.alloc) | (with_reducible apply HoldB.drew) | (with_reducible apply HoldB.drewN) | (with_reducible refine HoldB.far ?_ _ _ _ ?_) | assumption))) hb);have M3:=Aside0.mk (Mv.bl (by (repeat' (first | (with_reducible exact M2.out) | (with_reducible apply Mv.al) | (with_reducible apply Mv.dr) | (with_reducible apply Mv.drN) | (with_reducible refine Mv.far ?_ ?_ _) | (with_reducible refine Mv.set ?_ ?_ _ _) | omega | (simp only [];omega) | assumption))) hb);have hz3:=hb.size;obtain ⟨hcl3,hfr3,hlt3,_⟩:=bcell hb;(try simp only [sA,sC,sD] at hz3);(try simp only [sA,sC,sD] at hcl3 hfr3 hlt3);clear hb)) | (go_at_call 162;((with_reducible refine Calls.mono (spec_l06Write _ (stk (c.S - 2)) (packP c.F k) (by omega) (by (repeat' (first | (with_reducible exact H3.out) | (with_reducible apply HoldB.alloc) | (with_reducible apply HoldB.drew) | (with_reducible apply HoldB.drewN) | (with_reducible refine HoldB.far ?_ _ _ _ ?_) | assumption))) (by omega) hpk.1 hpk.2) ?_);rintro _ w4 ⟨rfl,v4,H4,M4⟩;obtain ⟨hl4_0,hf4_0,hz4_0,ap_0⟩:=M4.loc (w.heap.size) (by first | omega | (simp;done) | (simp;omega)) ap_0;obtain ⟨hl4_1,hf4_1,hz4_1,ap_1⟩:=M4.loc (w.heap.size+1) (by first | omega | (simp;done) | (simp;omega)) ap_1;have M4:=Aside0.mk (Mv.tr (by (repeat' (first | (with_reducible exact M3.out) | (with_reducible apply Mv.al) | (with_reducible apply Mv.dr) | (with_reducible apply Mv.drN) | (with_reducible refine Mv.far ?_ ?_ _) | (with_reducible refine Mv.set ?_ ?_ _ _) | omega | (simp only [];omega) | assumption))) M4);have H4:=Aside0.mk H4)))
  have H4:=Aside0.mk (show HoldB w4 L v4 D (n+1+1+1) from by have:=H4.out;rw [HE.out] at this;rw [← HD.out];exact this)
  clear H0 H1 H2 H3 M1 M2 M3
  go_wp2_with fail
  refine Calls.mono (spec_l06Read _ a (by omega) (by (repeat' (first | (with_reducible exact H4.out) | (with_reducible apply HoldB.alloc) | (with_reducible apply HoldB.drew) | (with_reducible apply HoldB.drewN) | (with_reducible refine HoldB.far ?_ _ _ _ ?_) | assumption))) (by omega)) ?_
  rintro _ w5 ⟨rfl,v5,H5,M5⟩
  obtain ⟨hl5_0,hf5_0,hz5_0,ap_0⟩:=M5.loc (w.heap.size) (by first | omega | (simp;done) | (simp;omega)) ap_0
  obtain ⟨hl5_1,hf5_1,hz5_1,ap_1⟩:=M5.loc (w.heap.size+1) (by first | omega | (simp;done) | (simp;omega)) ap_1
  have M5:=Aside0.mk (Mv.tr (by (repeat' (first | (with_reducible exact M4.out) | (with_reducible apply Mv.al) | (with_reducible apply Mv.dr) | (with_reducible apply Mv.drN) | (with_reducible refine Mv.far ?_ ?_ _) | (with_reducible refine Mv.set ?_ ?_ _ _) | omega | (simp only [];omega) | assumption))) M5)
  have H5:=Aside0.mk H5
  have p0:=peek_b (HoldB.bs H4.out) a
  have p1:=peek_b (HoldB.bs H4.out) (a+1)
  have hw1 : IntKind.i64.wrap (a+1) = a+1:=w64 ⟨by omega,by omega⟩
  go_wp2_with fail
  refine Calls.mono (spec_l06Read _ (a+1) (by omega) (by (repeat' (first | (with_reducible exact H5.out) | (with_reducible apply HoldB.alloc) | (with_reducible apply HoldB.drew) | (with_reducible apply HoldB.drewN) | (with_reducible refine HoldB.far ?_ _ _ _ ?_) | assumption))) (by omega)) ?_
  rintro _ w6 ⟨rfl,v6,H6,M6⟩
  obtain ⟨hl6_0,hf6_0,hz6_0,ap_0⟩:=M6.loc (w.heap.size) (by first | omega | (simp;done) | (simp;omega)) ap_0
  obtain ⟨hl6_1,hf6_1,hz6_1,ap_1⟩:=M6.loc (w.heap.size+1) (by first | omega | (simp;done) | (simp;omega)) ap_1
  have M6:=Aside0.mk (Mv.tr (by (repeat' (first | (with_reducible exact M5.out) | (with_reducible apply Mv.al) | (with_reducible apply Mv.dr) | (with_reducible apply Mv.drN) | (with_reducible refine Mv.far ?_ ?_ _) | (with_reducible refine Mv.set ?_ ?_ _ _) | omega | (simp only [];omega) | assumption))) M6)
  have H6:=Aside0.mk H6
  have ep : peek (D.rd a).m (a+1) = peek D.m (a+1):=rfl
  rw [ep]
  clear ep
  have hw:=word2_b p0 p1
  have hww:=u16_in hw.1 hw.2
  go_wp2_with (first | (go_at_call 165;((with_reducible refine (spec_l04Word _ _ _ p0.1 p0.2 p1.1 p1.2).mono ?_);rintro _ _ ⟨rfl,rfl⟩)))
  (refine bodyPost_ret (v:=.agg #[.int .u8 (c.to D a).A,.int .u8 (c.to D a).X,.int .u8 (c.to D a).Y,.int .u8 (c.to D a).S,.int .u16 (c.to D a).PC,.bool (c.to D a).F.N,.bool (c.to D a).F.V,.bool (c.to D a).F.D,.bool (c.to D a).F.I,.bool (c.to D a).F.Z,.bool (c.to D a).F.C]) (by (simp only [results,Tryz.results120];go_simp <;> ((simp [Cpu.to];done)))) rfl ?_)
  exact ⟨rfl,v6,by (repeat' (first | (with_reducible exact H6.out) | (with_reducible apply HoldB.alloc) | (with_reducible apply HoldB.drew) | (with_reducible apply HoldB.drewN) | (with_reducible refine HoldB.far ?_ _ _ _ ?_) | assumption)),by (repeat' (first | (with_reducible exact M6.out) | (with_reducible apply Mv.al) | (with_reducible apply Mv.dr) | (with_reducible apply Mv.drN) | (with_reducible refine Mv.far ?_ ?_ _) | (with_reducible refine Mv.set ?_ ?_ _ _) | omega | (simp only [];omega) | assumption))⟩
open Go.RowKit Go.Proofs.YtoncmhfmkfeolaaGreatDoorW.PrintWords
theorem HoldB.begin (w : World) (base r cap : Nat) (m : List Int) (h : OwnB w base (.slice (some ⟨r,0,none⟩) m.length cap) m) (hb : base ≤ w.heap.size) (hs : ramSize m.length = true) (hm : ∀ i,0 ≤ rd m i∧rd m i < 256) :
    HoldB (w.alloc (.cells #[.slice (some ⟨r,0,none⟩) m.length cap,.slice none 0 0] 152)) ⟨base,w.heap.size,r,cap⟩ (.slice none 0 0) ⟨m,[]⟩ 0 :=
  ⟨alloc_blk _ _,h.alloc _,Kd.R_nil _ _ _ _ _,hb,by have:=Kd.R_lt h r rfl;simp only [];omega,by simp [Value.ownBlock],by simp [Value.ownBlock],hs,hm,fun k => by simp [cd,Cyc.ok],Nat.le_refl _⟩
set_option maxRecDepth 20000 in
set_option maxHeartbeats 1000000 in
theorem spec_Serve (c : Cpu) (A : Option Addr) (d : Nat) (l : List Int) (nmi : Bool) (w : World) (hc : c.ok) (h : Bs w A l) :
    Calls Tryz.prog 58 #[.agg #[.int .u8 c.A,.int .u8 c.X,.int .u8 c.Y,.int .u8 c.S,.int .u16 c.PC,.bool c.F.N,.bool c.F.V,.bool c.F.D,.bool c.F.I,.bool c.F.Z,.bool c.F.C],.agg #[.slice A l.length d],.bool nmi] w fun e w' => ∃ A1 c1 B1 d1,e = .returned (.tuple #[.agg #[.int .u8 (serve c l nmi).c.A,.int .u8 (serve c l nmi).c.X,.int .u8 (serve c l nmi).c.Y,.int .u8 (serve c l nmi).c.S,.int .u16 (serve c l nmi).c.PC,.bool (serve c l nmi).c.F.N,.bool (serve c l nmi).c.F.V,.bool (serve c l nmi).c.F.D,.bool (serve c l nmi).c.F.I,.bool (serve c l nmi).c.F.Z,.bool (serve c l nmi).c.F.C],.agg #[.slice A1 (serve c l nmi).m.length c1],.slice B1 (serve c l nmi).t.length d1]) ∧
      OwnB w' w.heap.size (.slice A1 (serve c l nmi).m.length c1) (serve c l nmi).m∧OwnC w' w.heap.size (.slice B1 (serve c l nmi).t.length d1) (serve c l nmi).t∧Below w.heap.size w w':=by
  obtain ⟨q,hq⟩ : ∃ q,ramSize l.length = q:=⟨_,rfl⟩
  cases q
  · have e : serve c l nmi = ⟨cpu0,[],[]⟩:=by simp [serve,hq]
    rw [e]
    have HB:=hR w;go_enter Tryz.func58,Tryz.ntmps58
    go_wp2_with fail
    refine (spec_RamOk _ _ _ _).mono ?_
    rintro _ w1 ⟨rfl,hb⟩
    (have HB:=Aside0.mk (below_step (w:=w) blw hb);have hz1:=hb.size;obtain ⟨hcl1,hfr1,hlt1,_⟩:=bcell hb;(try simp only [sA,sC,sD] at hz1);(try simp only [sA,sC,sD] at hcl1 hfr1 hlt1);have hk1_0 : w.heap.size < w1.heap.size:=(by omega);have hk1_1 : w.heap.size+1 < w1.heap.size:=(by omega);have hk1_2 : w.heap.size+1+1 < w1.heap.size:=(by omega);have hk1_3 : w.heap.size+1+1+1 < w1.heap.size:=(by omega);have HB1:=hR w1;clear hb)
    go_wp2_with (first | ((with_reducible refine gate_dst (N:=16) rfl ?_);refine Kd.R_lit cycK w1.heap.size 70 ?hg (N:=16) ?hd (xs:=([] : List Cyc)) (inner:=[]) (ok:=fun _ => True) (okp:=fun _ => True) ?hr ?hp (fun _ hk => hk) trivial (Below.refl _ _) (Nat.le_refl _) (by simp) ?_;(case hd => rfl);(case hg => rfl);(case hr => first | (go_simp;done) | (go_simp;rfl));(case hp => exact (Reps.none _ _));intro v1 w2 ho hb hg1 hn1;have HT:=Aside0.mk (show OwnC _ _ _ _ from ho);clear ho hg1 hn1;(have HB:=Aside0.mk (below_step (w:=w) blw hb);have HB1:=Aside0.mk (below_step (w:=w1) blw hb);have hz2:=hb.size;obtain ⟨hcl2,hfr2,hlt2,_⟩:=bcell hb;(try simp only [sA,sC,sD] at hz2);(try simp only [sA,sC,sD] at hcl2 hfr2 hlt2);have hk2_0 : w.heap.size < w2.heap.size:=(by omega);have hk2_1 : w.heap.size+1 < w2.heap.size:=(by omega);have hk2_2 : w.heap.size+1+1 < w2.heap.size:=(by omega);have hk2_3 : w.heap.size+1+1+1 < w2.heap.size:=(by omega);have HB2:=hR w2;clear hb);obtain ⟨A1,c1,e1,_,_⟩:=Kd.R_reads HT.out;subst e1;have HT:=Aside0.mk (show OwnC _ _ (.slice A1 0 c1) [] from HT.out)))
    (refine bodyPost_ret (v:=.tuple #[.agg #[.int .u8 cpu0.A,.int .u8 cpu0.X,.int .u8 cpu0.Y,.int .u8 cpu0.S,.int .u16 cpu0.PC,.bool cpu0.F.N,.bool cpu0.F.V,.bool cpu0.F.D,.bool cpu0.F.I,.bool cpu0.F.Z,.bool cpu0.F.C],.agg #[.slice none 0 0],.slice A1 0 c1]) (by (simp only [results,Tryz.results58];go_simp <;> ((first | rfl | (simp [cpu0];done))))) rfl ?_)
    exact ⟨none,0,A1,c1,rfl,Kd.R_nil _ _ _ _ _,(by (apply OwnC.lower;(repeat (first | (with_reducible exact HT.out) | (with_reducible apply OwnC.alloc) | (with_reducible apply OwnC.drew) | (with_reducible apply OwnC.drewN) | (with_reducible apply OwnC.set)));all_goals (first | omega | (simp;done) | (simp;omega)))),blw⟩
  · have hs:=ramSize_le hq
    have e : serve c l nmi = ⟨serveC c ⟨l,[]⟩ nmi,(serveB c ⟨l,[]⟩ nmi).m,(serveB c ⟨l,[]⟩ nmi).t⟩:=by simp [serve,hq]
    obtain ⟨C,hC⟩ : ∃ x,serveC c ⟨l,[]⟩ nmi = x:=⟨_,rfl⟩
    obtain ⟨D,hD⟩ : ∃ x,serveB c ⟨l,[]⟩ nmi = x:=⟨_,rfl⟩
    rw [e,hC,hD]
    have HC:=Aside0.mk hC
    have HD:=Aside0.mk hD
    clear hC hD e
    have hce:=hc
    obtain ⟨_,_,_,_,_,_,hs0,hs1,hp0,hp1⟩:=hce
    have HB:=hR w;go_enter Tryz.func58,Tryz.ntmps58
    go_wp2_with fail
    refine (spec_RamOk _ _ _ _).mono ?_
    rintro _ w1 ⟨rfl,hb⟩
    (have HB:=Aside0.mk (below_step (w:=w) blw hb);have hz1:=hb.size;obtain ⟨hcl1,hfr1,hlt1,_⟩:=bcell hb;(try simp only [sA,sC,sD] at hz1);(try simp only [sA,sC,sD] at hcl1 hfr1 hlt1);have hk1_0 : w.heap.size < w1.heap.size:=(by omega);have hk1_1 : w.heap.size+1 < w1.heap.size:=(by omega);have hk1_2 : w.heap.size+1+1 < w1.heap.size:=(by omega);have hk1_3 : w.heap.size+1+1+1 < w1.heap.size:=(by omega);have HB1:=hR w1;clear hb)
    go_wp2_with (first | ((with_reducible refine gate_dst (N:=17) rfl ?_);refine Kd.R_lit (Kd.int .u8) w1.heap.size 5 ?hg (N:=17) ?hd (xs:=([] : List Int)) (inner:=[]) (ok:=fun _ => True) (okp:=fun _ => True) ?hr ?hp (fun _ hk => hk) trivial (Below.refl _ _) (Nat.le_refl _) (by simp) ?_;(case hd => rfl);(case hg => rfl);(case hr => first | (go_simp;done) | (go_simp;rfl));(case hp => exact (Reps.none _ _));intro v1 w2 ho hb hg1 hn1;have HA:=Aside0.mk ho;clear ho hg1 hn1;have HB:=Aside0.mk (below_step (w:=w) blw hb);have HB1:=Aside0.mk (below_step (w:=w1) blw hb);have hz2:=hb.size;obtain ⟨hcl2,hfr2,hlt2,_⟩:=bcell hb;(try simp only [sA,sC,sD] at hz2);(try simp only [sA,sC,sD] at hcl2 hfr2 hlt2);have hk2_0 : w.heap.size < w2.heap.size:=(by omega);have hk2_1 : w.heap.size+1 < w2.heap.size:=(by omega);have hk2_2 : w.heap.size+1+1 < w2.heap.size:=(by omega);have hk2_3 : w.heap.size+1+1+1 < w2.heap.size:=(by omega);have HB2:=hR w2;clear hb) | (at_builtin;refine Kd.R_append_row (Value.int .u8) (0 : Int) (h1:=fun _ => rfl) w1.heap.size rfl _ _ 22 5 (.int .u8 0) 1 rfl Tryz.underlying22 infoU8 rfl (by decide) _ [] l _ _ _ (fun _ => True) rfl rfl (fun _ _ => trivial) ?a1 ?a2 (Below.refl _ _) ?a3 ?a4 ?_;(case a1 => exact HA.out);(case a2 => exact (Kd.C_below h.c HB.out));(case a3 => omega);(case a4 => simp;omega);intro v2 w3 ho2 hb2 hg2 hat2;rw [List.nil_append] at ho2;have hb : Below w1.heap.size w1 w3:=Below.trans (blw) hb2;clear hb2 hg2 hat2;(have HB:=Aside0.mk (below_step (w:=w) blw hb);have HB1:=Aside0.mk (below_step (w:=w1) blw hb);have hz3:=hb.size;obtain ⟨hcl3,hfr3,hlt3,_⟩:=bcell hb;(try simp only [sA,sC,sD] at hz3);(try simp only [sA,sC,sD] at hcl3 hfr3 hlt3);have hk3_0 : w.heap.size < w3.heap.size:=(by omega);have hk3_1 : w.heap.size+1 < w3.heap.size:=(by omega);have hk3_2 : w.heap.size+1+1 < w3.heap.size:=(by omega);have hk3_3 : w.heap.size+1+1+1 < w3.heap.size:=(by omega);have HB3:=hR w3;clear hb);have HO:=Aside0.mk (show OwnB _ _ _ _ from ho2);clear ho2;obtain ⟨A1,c1,e1,_,_⟩:=Kd.R_reads HO.out;subst e1;obtain ⟨r,cap,eo,gb,gl,cl,HCl⟩:=Kd.R_form HO.out (by omega);injection eo with ea en ec;subst ea ec;clear HCl en;have H0:=Aside0.mk (HoldB.begin w3 _ r c1 l HO.out (by omega) hq h.b)))
    refine Calls.mono (spec_l06Read c.PC c.PC (by omega) (L:=⟨w1.heap.size,w3.heap.size,r,c1⟩) H0.out (by omega)) ?_
    rintro _ w4 ⟨rfl,v4,H4,M4⟩
    have hb : Below w1.heap.size w1 w4:=Below.trans (blw) M4.below;(have HB:=Aside0.mk (below_step (w:=w) blw hb);have HB1:=Aside0.mk (below_step (w:=w1) blw hb);have hz4:=hb.size;obtain ⟨hcl4,hfr4,hlt4,_⟩:=bcell hb;(try simp only [sA,sC,sD] at hz4);(try simp only [sA,sC,sD] at hcl4 hfr4 hlt4);have hk4_0 : w.heap.size < w4.heap.size:=(by omega);have hk4_1 : w.heap.size+1 < w4.heap.size:=(by omega);have hk4_2 : w.heap.size+1+1 < w4.heap.size:=(by omega);have hk4_3 : w.heap.size+1+1+1 < w4.heap.size:=(by omega);have HB4:=hR w4;clear hb);have H4:=Aside0.mk H4;clear M4
    go_wp2_with fail
    refine Calls.mono (spec_l06Read c.PC c.PC (by omega) (L:=⟨w1.heap.size,w3.heap.size,r,c1⟩) H4.out (by omega)) ?_
    rintro _ w5 ⟨rfl,v5,H5,M5⟩
    have hb : Below w1.heap.size w1 w5:=Below.trans (blw) M5.below;(have HB:=Aside0.mk (below_step (w:=w) blw hb);have HB1:=Aside0.mk (below_step (w:=w1) blw hb);have hz5:=hb.size;obtain ⟨hcl5,hfr5,hlt5,_⟩:=bcell hb;(try simp only [sA,sC,sD] at hz5);(try simp only [sA,sC,sD] at hcl5 hfr5 hlt5);have hk5_0 : w.heap.size < w5.heap.size:=(by omega);have hk5_1 : w.heap.size+1 < w5.heap.size:=(by omega);have hk5_2 : w.heap.size+1+1 < w5.heap.size:=(by omega);have hk5_3 : w.heap.size+1+1+1 < w5.heap.size:=(by omega);have HB5:=hR w5;clear hb);have H5:=Aside0.mk H5;clear M5
    clear H0 H4
    cases nmi
    · go_wp2_with fail;refine Calls.mono (spec_l06Push c c.PC 65534 false (L:=⟨w1.heap.size,w3.heap.size,r,c1⟩) H5.out (by omega) hc hp0 hp1 (by decide) (by decide)) ?_;rintro _ w6 ⟨rfl,v6,H6,M6⟩;rw [show c.to (push3 c (((⟨l,[]⟩ : Bus).rd c.PC).rd c.PC) c.PC false) 65534 = C from HC.out];have hb : Below w1.heap.size w1 w6:=Below.trans (blw) M6.below;(have HB:=Aside0.mk (below_step (w:=w) blw hb);have HB1:=Aside0.mk (below_step (w:=w1) blw hb);have hz6:=hb.size;obtain ⟨hcl6,hfr6,hlt6,_⟩:=bcell hb;(try simp only [sA,sC,sD] at hz6);(try simp only [sA,sC,sD] at hcl6 hfr6 hlt6);have hk6_0 : w.heap.size < w6.heap.size:=(by omega);have hk6_1 : w.heap.size+1 < w6.heap.size:=(by omega);have hk6_2 : w.heap.size+1+1 < w6.heap.size:=(by omega);have hk6_3 : w.heap.size+1+1+1 < w6.heap.size:=(by omega);have HB6:=hR w6;clear hb);have H6:=Aside0.mk H6;clear M6;have H6:=Aside0.mk (show HoldB w6 ⟨w1.heap.size,w3.heap.size,r,c1⟩ v6 D (0+1+1+5) from by rw [← HD.out];exact H6.out);clear H5;obtain ⟨B1,d1,ev,_,_⟩:=Kd.R_reads (Hold.log H6.out);subst ev;have HT:=Aside0.mk (Hold.log H6.out);have HO6:=Aside0.mk (Hold.mem H6.out);have e0 : w6.cell? ⟨w3.heap.size,0,none⟩ = some (.slice (some ⟨r,0,none⟩) D.m.length c1):=HoldB.mem H6.out;have e1 : w6.cell? ⟨w3.heap.size,1,none⟩ = some (.slice B1 D.t.length d1):=HoldB.log H6.out;have hlt : w3.heap.size < w6.heap.size:=HoldB.lt H6.out;clear H6;go_wp2_with fail;go_region;go_wp2_with fail;(refine bodyPost_ret (v:=.tuple #[.agg #[.int .u8 C.A,.int .u8 C.X,.int .u8 C.Y,.int .u8 C.S,.int .u16 C.PC,.bool C.F.N,.bool C.F.V,.bool C.F.D,.bool C.F.I,.bool C.F.Z,.bool C.F.C],.agg #[.slice (some ⟨r,0,none⟩) D.m.length c1],.slice B1 D.t.length d1]) (by (simp only [results,Tryz.results58];go_simp <;> (rfl))) rfl ?_);exact ⟨_,_,_,_,rfl,(by (apply OwnB.lower;(repeat (first | (with_reducible exact HO6.out) | (with_reducible apply OwnB.alloc) | (with_reducible apply OwnB.drew) | (with_reducible apply OwnB.drewN) | (with_reducible apply OwnB.set)));all_goals (first | omega | (simp;done) | (simp;omega)))),(by (apply OwnC.lower;(repeat (first | (with_reducible exact HT.out) | (with_reducible apply OwnC.alloc) | (with_reducible apply OwnC.drew) | (with_reducible apply OwnC.drewN) | (with_reducible apply OwnC.set)));all_goals (first | omega | (simp;done) | (simp;omega)))),blw⟩
    · go_wp2_with fail;refine Calls.mono (spec_l06Push c c.PC 65530 false (L:=⟨w1.heap.size,w3.heap.size,r,c1⟩) H5.out (by omega) hc hp0 hp1 (by decide) (by decide)) ?_;rintro _ w6 ⟨rfl,v6,H6,M6⟩;rw [show c.to (push3 c (((⟨l,[]⟩ : Bus).rd c.PC).rd c.PC) c.PC false) 65530 = C from HC.out];have hb : Below w1.heap.size w1 w6:=Below.trans (blw) M6.below;(have HB:=Aside0.mk (below_step (w:=w) blw hb);have HB1:=Aside0.mk (below_step (w:=w1) blw hb);have hz6:=hb.size;obtain ⟨hcl6,hfr6,hlt6,_⟩:=bcell hb;(try simp only [sA,sC,sD] at hz6);(try simp only [sA,sC,sD] at hcl6 hfr6 hlt6);have hk6_0 : w.heap.size < w6.heap.size:=(by omega);have hk6_1 : w.heap.size+1 < w6.heap.size:=(by omega);have hk6_2 : w.heap.size+1+1 < w6.heap.size:=(by omega);have hk6_3 : w.heap.size+1+1+1 < w6.heap.size:=(by omega);have HB6:=hR w6;clear hb);have H6:=Aside0.mk H6;clear M6;have H6:=Aside0.mk (show HoldB w6 ⟨w1.heap.size,w3.heap.size,r,c1⟩ v6 D (0+1+1+5) from by rw [← HD.out];exact H6.out);clear H5;obtain ⟨B1,d1,ev,_,_⟩:=Kd.R_reads (Hold.log H6.out);subst ev;have HT:=Aside0.mk (Hold.log H6.out);have HO6:=Aside0.mk (Hold.mem H6.out);have e0 : w6.cell? ⟨w3.heap.size,0,none⟩ = some (.slice (some ⟨r,0,none⟩) D.m.length c1):=HoldB.mem H6.out;have e1 : w6.cell? ⟨w3.heap.size,1,none⟩ = some (.slice B1 D.t.length d1):=HoldB.log H6.out;have hlt : w3.heap.size < w6.heap.size:=HoldB.lt H6.out;clear H6;go_wp2_with fail;go_region;go_wp2_with fail;(refine bodyPost_ret (v:=.tuple #[.agg #[.int .u8 C.A,.int .u8 C.X,.int .u8 C.Y,.int .u8 C.S,.int .u16 C.PC,.bool C.F.N,.bool C.F.V,.bool C.F.D,.bool C.F.I,.bool C.F.Z,.bool C.F.C],.agg #[.slice (some ⟨r,0,none⟩) D.m.length c1],.slice B1 D.t.length d1]) (by (simp only [results,Tryz.results58];go_simp <;> (rfl))) rfl ?_);exact ⟨_,_,_,_,rfl,(by (apply OwnB.lower;(repeat (first | (with_reducible exact HO6.out) | (with_reducible apply OwnB.alloc) | (with_reducible apply OwnB.drew) | (with_reducible apply OwnB.drewN) | (with_reducible apply OwnB.set)));all_goals (first | omega | (simp;done) | (simp;omega)))),(by (apply OwnC.lower;(repeat (first | (with_reducible exact HT.out) | (with_reducible apply OwnC.alloc) | (with_reducible apply OwnC.drew) | (with_reducible apply OwnC.drewN) | (with_reducible apply OwnC.set)));all_goals (first | omega | (simp;done) | (simp;omega)))),blw⟩
end Go.Proofs.YtoncmhfmkfeolaaGreatDoor
