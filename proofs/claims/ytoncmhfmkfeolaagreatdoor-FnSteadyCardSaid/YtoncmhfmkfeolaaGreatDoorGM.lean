/- Blocks of a call's own and rows of a call's own, kept side by side while other calls go on. -/
import Derived.Test.YtoncmhfmkfeolaaGreatDoorGE
import Derived.Test.YtoncmhfmkfeolaaGreatDoorGD
import Derived.Deep.AppendLies
set_option maxRecDepth 100000
set_option maxHeartbeats 8000000
namespace Go.Proofs.YtoncmhfmkfeolaaGreatDoor
open Go.RowKit Go.Proofs.YtoncmhfmkfeolaaGreatDoorW.PrintWords
def Blk (w:World) (g:Nat) (cs:Array Value) (t:TypeId):Prop:=w.heap[g]?=some (.cells cs t (0,0))
section
variable {w w':World} {g:Nat} {cs:Array Value} {t:TypeId}
theorem Blk.lt (h:Blk w g cs t):g<w.heap.size:=blk_lt h
theorem Blk.cell (h:Blk w g cs t) (i:Nat):w.cell? ⟨g,i,none⟩=cs[i]?:=blk_cell h i
theorem Blk.free (h:Blk w g cs t) (i:Nat):w.frozen? ⟨g,i,none⟩=false:=blk_frozen h i
theorem Blk.at (h:g=w.heap.size):Blk (w.alloc (.cells cs t)) g cs t:=by subst h;exact alloc_blk _ _
theorem Blk.alloc (h:Blk w g cs t) (o:Obj):Blk (w.alloc o) g cs t:=blk_alloc h o
theorem Blk.drew (h:Blk w g cs t):Blk w.drew g cs t:=h
theorem Blk.drewN (h:Blk w g cs t) (n:Nat):Blk (w.drewN n) g cs t:=blk_drewN h n
theorem Blk.far (h:Blk w g cs t) {k i:Nat} {u:Value} (hk:g ≠ k):Blk (w.setCell ⟨k,i,none⟩ u) g cs t:=blk_far h hk u
theorem Blk.below (h:Blk w g cs t) (hb:Below w.heap.size w w'):Blk w' g cs t:=blk_below h hb
theorem Blk.grown (h:Blk w g cs t) {row:Option Nat} (hg:w.grownBy w' row) (hne:some g ≠ row):Blk w' g cs t:=blk_grown h hg hne
theorem Blk.one {v:Value} (h:Blk w g #[v] t):w.cell? ⟨g,0,none⟩=some v:=blk_cell h 0
theorem Blk.put1 {u v:Value} (h:Blk w g #[u] t):Blk (w.setCell ⟨g,0,none⟩ v) g #[v] t:=blk_set h 0 v
end
theorem blk_moves {w w':World} (hb:Below w.heap.size w w'):∀ g cs t,Blk w g cs t→Blk w' g cs t:=fun _ _ _ h=>h.below hb
def Same (w w':World) (k:Nat):Prop:=w'.heap[k]?=w.heap[k]?
theorem Same.refl (w:World) (k:Nat):Same w w k:=rfl
theorem Same.set {w w':World} {k g i:Nat} {u:Value} (h:Same w w' k) (hk:k ≠ g):Same w (w'.setCell ⟨g,i,none⟩ u) k:=(set_block w' g i u k hk).trans h
theorem Same.alloc {w w':World} {k:Nat} {o:Obj} (h:Same w w' k) (hk:k<w'.heap.size):Same w (w'.alloc o) k:=(Below.heap_alloc w' o k hk).trans h
theorem Same.drew {w w':World} {k:Nat} (h:Same w w' k):Same w w'.drew k:=h
def Many (w:World) (L:List (Nat × Array Value × TypeId)):Prop:=∀ x ∈ L,Blk w x.1 x.2.1 x.2.2
section
variable {w w':World} {L:List (Nat × Array Value × TypeId)}
theorem Many.nil (w:World):Many w []:=fun _ h=>absurd h (by simp)
theorem Many.cons {g:Nat} {cs:Array Value} {t:TypeId} (h:Blk w g cs t) (k:Many w L):Many w ((g,cs,t)::L):=by
 intro x hx
 rcases List.mem_cons.1 hx with rfl|hx
 ·exact h
 ·exact k x hx
theorem Many.tail {x:Nat × Array Value × TypeId} (k:Many w (x::L)):Many w L:=fun y hy=>k y (List.mem_cons_of_mem _ hy)
theorem Many.at (k:Many w L) (i:Nat) {g:Nat} {cs:Array Value} {t:TypeId} (hx:L[i]?=some (g,cs,t)):Blk w g cs t:=k _ (List.mem_of_getElem? hx)
theorem Many.below (k:Many w L) (hb:Below w.heap.size w w'):Many w' L:=fun x hx=>(k x hx).below hb
theorem Many.alloc (k:Many w L) (o:Obj):Many (w.alloc o) L:=fun x hx=>(k x hx).alloc o
theorem Many.drew (k:Many w L):Many w.drew L:=fun x hx=>(k x hx).drew
theorem Many.drewN (k:Many w L) (n:Nat):Many (w.drewN n) L:=fun x hx=>(k x hx).drewN n
theorem Many.far (k:Many w L) {g i:Nat} {u:Value} (hp:∀ x ∈ L,x.1 ≠ g):Many (w.setCell ⟨g,i,none⟩ u) L:=fun x hx=>(k x hx).far (hp x hx)
theorem Many.lts (k:Many w L):∀ x ∈ L,x.1<w.heap.size:=fun x hx=>(k x hx).lt
theorem Many.new (k:Many w L) {W:World} (hb:Many W L) {g i:Nat} (hg:w.heap.size≤g) (u:Value):Many (W.setCell ⟨g,i,none⟩ u) L:=hb.far (fun x hx=>by have:=k.lts x hx;show x.1 ≠ g;omega)
theorem Many.grown (k:Many w L) {row:Option Nat} (hg:w.grownBy w' row) (hr:∀ x ∈ L,some x.1 ≠ row):Many w' L:=fun x hx=>(k x hx).grown hg (hr x hx)
end
structure CpuAt (w:World) (g:Nat) (c:Cpu):Prop where
 c0:w.cell? ⟨g,0,none⟩=some (.int .u8 c.A)
 c1:w.cell? ⟨g,1,none⟩=some (.int .u8 c.X)
 c2:w.cell? ⟨g,2,none⟩=some (.int .u8 c.Y)
 c3:w.cell? ⟨g,3,none⟩=some (.int .u8 c.S)
 c4:w.cell? ⟨g,4,none⟩=some (.int .u16 c.PC)
 c5:w.cell? ⟨g,5,none⟩=some (.bool c.F.N)
 c6:w.cell? ⟨g,6,none⟩=some (.bool c.F.V)
 c7:w.cell? ⟨g,7,none⟩=some (.bool c.F.D)
 c8:w.cell? ⟨g,8,none⟩=some (.bool c.F.I)
 c9:w.cell? ⟨g,9,none⟩=some (.bool c.F.Z)
 c10:w.cell? ⟨g,10,none⟩=some (.bool c.F.C)
theorem Blk.cpu {w:World} {g:Nat} {c:Cpu} {t:TypeId} (h:Blk w g #[.int .u8 c.A,.int .u8 c.X,.int .u8 c.Y,.int .u8 c.S,.int .u16 c.PC,.bool c.F.N,.bool c.F.V,.bool c.F.D,.bool c.F.I,.bool c.F.Z,.bool c.F.C] t):CpuAt w g c :=
 ⟨blk_cell h 0,blk_cell h 1,blk_cell h 2,blk_cell h 3,blk_cell h 4,blk_cell h 5,blk_cell h 6,blk_cell h 7,blk_cell h 8,blk_cell h 9,blk_cell h 10⟩
abbrev putC (w:World) (g:Nat) (c:Cpu):World:=(((((((((((w.setCell ⟨g,0,none⟩ (.int .u8 c.A)).setCell ⟨g,1,none⟩ (.int .u8 c.X)).setCell ⟨g,2,none⟩ (.int .u8 c.Y)).setCell ⟨g,3,none⟩ (.int .u8 c.S)).setCell ⟨g,4,none⟩ (.int .u16 c.PC)).setCell ⟨g,5,none⟩ (.bool c.F.N)).setCell ⟨g,6,none⟩ (.bool c.F.V)).setCell ⟨g,7,none⟩ (.bool c.F.D)).setCell ⟨g,8,none⟩ (.bool c.F.I)).setCell ⟨g,9,none⟩ (.bool c.F.Z)).setCell ⟨g,10,none⟩ (.bool c.F.C))
theorem putC_blk {w:World} {g:Nat} {t:TypeId} {c:Cpu} (h:w.heap[g]?=some (.cells #[.int .u8 c.A,.int .u8 c.X,.int .u8 c.Y,.int .u8 c.S,.int .u16 c.PC,.bool c.F.N,.bool c.F.V,.bool c.F.D,.bool c.F.I,.bool c.F.Z,.bool c.F.C] t (0,0))) (d:Cpu):(putC w g d).heap[g]?=some (.cells #[.int .u8 d.A,.int .u8 d.X,.int .u8 d.Y,.int .u8 d.S,.int .u16 d.PC,.bool d.F.N,.bool d.F.V,.bool d.F.D,.bool d.F.I,.bool d.F.Z,.bool d.F.C] t (0,0)):=by
 unfold putC
 have h:(w.setCell ⟨g,0,none⟩ (.int .u8 d.A)).heap[g]?=some (.cells #[.int .u8 d.A,.int .u8 c.X,.int .u8 c.Y,.int .u8 c.S,.int .u16 c.PC,.bool c.F.N,.bool c.F.V,.bool c.F.D,.bool c.F.I,.bool c.F.Z,.bool c.F.C] t (0,0)):=blk_set h 0 _
 generalize (w.setCell ⟨g,0,none⟩ (.int .u8 d.A))=w0 at h ⊢
 have h:(w0.setCell ⟨g,1,none⟩ (.int .u8 d.X)).heap[g]?=some (.cells #[.int .u8 d.A,.int .u8 d.X,.int .u8 c.Y,.int .u8 c.S,.int .u16 c.PC,.bool c.F.N,.bool c.F.V,.bool c.F.D,.bool c.F.I,.bool c.F.Z,.bool c.F.C] t (0,0)):=blk_set h 1 _
 generalize (w0.setCell ⟨g,1,none⟩ (.int .u8 d.X))=w1 at h ⊢
 have h:(w1.setCell ⟨g,2,none⟩ (.int .u8 d.Y)).heap[g]?=some (.cells #[.int .u8 d.A,.int .u8 d.X,.int .u8 d.Y,.int .u8 c.S,.int .u16 c.PC,.bool c.F.N,.bool c.F.V,.bool c.F.D,.bool c.F.I,.bool c.F.Z,.bool c.F.C] t (0,0)):=blk_set h 2 _
 generalize (w1.setCell ⟨g,2,none⟩ (.int .u8 d.Y))=w2 at h ⊢
 have h:(w2.setCell ⟨g,3,none⟩ (.int .u8 d.S)).heap[g]?=some (.cells #[.int .u8 d.A,.int .u8 d.X,.int .u8 d.Y,.int .u8 d.S,.int .u16 c.PC,.bool c.F.N,.bool c.F.V,.bool c.F.D,.bool c.F.I,.bool c.F.Z,.bool c.F.C] t (0,0)):=blk_set h 3 _
 generalize (w2.setCell ⟨g,3,none⟩ (.int .u8 d.S))=w3 at h ⊢
 have h:(w3.setCell ⟨g,4,none⟩ (.int .u16 d.PC)).heap[g]?=some (.cells #[.int .u8 d.A,.int .u8 d.X,.int .u8 d.Y,.int .u8 d.S,.int .u16 d.PC,.bool c.F.N,.bool c.F.V,.bool c.F.D,.bool c.F.I,.bool c.F.Z,.bool c.F.C] t (0,0)):=blk_set h 4 _
 generalize (w3.setCell ⟨g,4,none⟩ (.int .u16 d.PC))=w4 at h ⊢
 have h:(w4.setCell ⟨g,5,none⟩ (.bool d.F.N)).heap[g]?=some (.cells #[.int .u8 d.A,.int .u8 d.X,.int .u8 d.Y,.int .u8 d.S,.int .u16 d.PC,.bool d.F.N,.bool c.F.V,.bool c.F.D,.bool c.F.I,.bool c.F.Z,.bool c.F.C] t (0,0)):=blk_set h 5 _
 generalize (w4.setCell ⟨g,5,none⟩ (.bool d.F.N))=w5 at h ⊢
 have h:(w5.setCell ⟨g,6,none⟩ (.bool d.F.V)).heap[g]?=some (.cells #[.int .u8 d.A,.int .u8 d.X,.int .u8 d.Y,.int .u8 d.S,.int .u16 d.PC,.bool d.F.N,.bool d.F.V,.bool c.F.D,.bool c.F.I,.bool c.F.Z,.bool c.F.C] t (0,0)):=blk_set h 6 _
 generalize (w5.setCell ⟨g,6,none⟩ (.bool d.F.V))=w6 at h ⊢
 have h:(w6.setCell ⟨g,7,none⟩ (.bool d.F.D)).heap[g]?=some (.cells #[.int .u8 d.A,.int .u8 d.X,.int .u8 d.Y,.int .u8 d.S,.int .u16 d.PC,.bool d.F.N,.bool d.F.V,.bool d.F.D,.bool c.F.I,.bool c.F.Z,.bool c.F.C] t (0,0)):=blk_set h 7 _
 generalize (w6.setCell ⟨g,7,none⟩ (.bool d.F.D))=w7 at h ⊢
 have h:(w7.setCell ⟨g,8,none⟩ (.bool d.F.I)).heap[g]?=some (.cells #[.int .u8 d.A,.int .u8 d.X,.int .u8 d.Y,.int .u8 d.S,.int .u16 d.PC,.bool d.F.N,.bool d.F.V,.bool d.F.D,.bool d.F.I,.bool c.F.Z,.bool c.F.C] t (0,0)):=blk_set h 8 _
 generalize (w7.setCell ⟨g,8,none⟩ (.bool d.F.I))=w8 at h ⊢
 have h:(w8.setCell ⟨g,9,none⟩ (.bool d.F.Z)).heap[g]?=some (.cells #[.int .u8 d.A,.int .u8 d.X,.int .u8 d.Y,.int .u8 d.S,.int .u16 d.PC,.bool d.F.N,.bool d.F.V,.bool d.F.D,.bool d.F.I,.bool d.F.Z,.bool c.F.C] t (0,0)):=blk_set h 9 _
 generalize (w8.setCell ⟨g,9,none⟩ (.bool d.F.Z))=w9 at h ⊢
 have h:(w9.setCell ⟨g,10,none⟩ (.bool d.F.C)).heap[g]?=some (.cells #[.int .u8 d.A,.int .u8 d.X,.int .u8 d.Y,.int .u8 d.S,.int .u16 d.PC,.bool d.F.N,.bool d.F.V,.bool d.F.D,.bool d.F.I,.bool d.F.Z,.bool d.F.C] t (0,0)):=blk_set h 10 _
 generalize (w9.setCell ⟨g,10,none⟩ (.bool d.F.C))=w10 at h ⊢
 exact h
theorem Blk.put {w:World} {g:Nat} {t:TypeId} {c:Cpu} (h:Blk w g #[.int .u8 c.A,.int .u8 c.X,.int .u8 c.Y,.int .u8 c.S,.int .u16 c.PC,.bool c.F.N,.bool c.F.V,.bool c.F.D,.bool c.F.I,.bool c.F.Z,.bool c.F.C] t) (d:Cpu):Blk (putC w g d) g #[.int .u8 d.A,.int .u8 d.X,.int .u8 d.Y,.int .u8 d.S,.int .u16 d.PC,.bool d.F.N,.bool d.F.V,.bool d.F.D,.bool d.F.I,.bool d.F.Z,.bool d.F.C] t:=putC_blk h d
theorem putC_far {w:World} {g k:Nat} (hk:k ≠ g) (d:Cpu):(putC w g d).heap[k]?=w.heap[k]? :=
 ((((((((((set_block _ g 10 _ k hk).trans (set_block _ g 9 _ k hk)).trans (set_block _ g 8 _ k hk)).trans (set_block _ g 7 _ k hk)).trans (set_block _ g 6 _ k hk)).trans (set_block _ g 5 _ k hk)).trans (set_block _ g 4 _ k hk)).trans (set_block _ g 3 _ k hk)).trans (set_block _ g 2 _ k hk)).trans (set_block _ g 1 _ k hk)).trans (set_block _ g 0 _ k hk)
theorem putC_size (w:World) (g:Nat) (d:Cpu):(putC w g d).heap.size=w.heap.size:=by
 unfold putC
 simp only[World.size_setCell]
theorem putC_below {B:Nat} {a w:World} (h:Below B a w) {g:Nat} (hg:B≤g) (d:Cpu):Below B a (putC w g d) :=
 ((((((((((h.setCell (p:=⟨g,0,none⟩) hg _).setCell (p:=⟨g,1,none⟩) hg _).setCell (p:=⟨g,2,none⟩) hg _).setCell (p:=⟨g,3,none⟩) hg _).setCell (p:=⟨g,4,none⟩) hg _).setCell (p:=⟨g,5,none⟩) hg _).setCell (p:=⟨g,6,none⟩) hg _).setCell (p:=⟨g,7,none⟩) hg _).setCell (p:=⟨g,8,none⟩) hg _).setCell (p:=⟨g,9,none⟩) hg _).setCell (p:=⟨g,10,none⟩) hg _
theorem Blk.farC {w:World} {g k:Nat} {cs:Array Value} {t:TypeId} {d:Cpu} (h:Blk w g cs t) (hk:g ≠ k):Blk (putC w k d) g cs t:=(putC_far hk d).trans h
theorem Same.putC {w w':World} {k g:Nat} {d:Cpu} (h:Same w w' k) (hk:k ≠ g):Same w (putC w' g d) k:=(putC_far hk d).trans h
def OwnX (w:World) (lo hi:Nat) (v:Value) (l:List Int):Prop:=Kd.R (Kd.int .u8) 5 w lo (fun k=>k<hi) v l
def OwnY (w:World) (lo hi:Nat) (v:Value) (l:List Cyc):Prop:=Kd.R cycK 70 w lo (fun k=>k<hi) v l
section
variable {w w':World} {lo hi:Nat} {v:Value}
theorem OwnX.of {l:List Int} (h:OwnB w lo v l):OwnX w lo w.heap.size v l:=Kd.R_mono (Kd.R_bound h) (fun _ hk=>hk.2.2.1)
theorem OwnY.of {l:List Cyc} (h:OwnC w lo v l):OwnY w lo w.heap.size v l:=Kd.R_mono (Kd.R_bound h) (fun _ hk=>hk.2.2.1)
theorem OwnX.b {l:List Int} (h:OwnX w lo hi v l):OwnB w lo v l:=Kd.R_mono h (fun _ _=>trivial)
theorem OwnY.b {l:List Cyc} (h:OwnY w lo hi v l):OwnC w lo v l:=Kd.R_mono h (fun _ _=>trivial)
theorem OwnX.below {l:List Int} (h:OwnX w lo hi v l) (hb:Below w.heap.size w w'):OwnX w' lo hi v l:=Kd.R_below h hb
theorem OwnY.below {l:List Cyc} (h:OwnY w lo hi v l) (hb:Below w.heap.size w w'):OwnY w' lo hi v l:=Kd.R_below h hb
theorem OwnX.step {l:List Int} (h:OwnX w lo hi v l) (hm:∀ k,lo≤k→k<hi→Same w w' k):OwnX w' lo hi v l:=Kd.R_mono (Kd.R_step (Kd.R_bound h) (fun k hk _=>hm k hk.2.1 hk.1)) (fun _ hk=>hk.1)
theorem OwnY.step {l:List Cyc} (h:OwnY w lo hi v l) (hm:∀ k,lo≤k→k<hi→Same w w' k):OwnY w' lo hi v l:=Kd.R_mono (Kd.R_step (Kd.R_bound h) (fun k hk _=>hm k hk.2.1 hk.1)) (fun _ hk=>hk.1)
theorem OwnX.row {l:List Int} (h:OwnX w lo hi v l):∀ k,v.ownBlock=some k→lo≤k∧k<hi:=fun k e=>⟨Kd.R_base h k e,h.1 k e⟩
theorem OwnY.row {l:List Cyc} (h:OwnY w lo hi v l):∀ k,v.ownBlock=some k→lo≤k∧k<hi:=fun k e=>⟨Kd.R_base h k e,h.1 k e⟩
theorem OwnX.typed {l:List Int} (h:OwnX w lo hi v l):∀ k,v.ownBlock=some k→∃ cells,w.heap[k]?=some (.cells cells 5 (0,0)):=fun k e=>by obtain ⟨_,_,ho,_⟩:=h;exact own_typed ho k e
theorem OwnY.typed {l:List Cyc} (h:OwnY w lo hi v l):∀ k,v.ownBlock=some k→∃ cells,w.heap[k]?=some (.cells cells 70 (0,0)):=fun k e=>by obtain ⟨_,_,ho,_⟩:=h;exact own_typed ho k e
theorem OwnX.grown {l:List Int} (h:OwnX w lo hi v l) {row:Option Nat} (hg:w.grownBy w' row) (hr:∀ k,row=some k→k<lo ∨ hi≤k):OwnX w' lo hi v l :=
 Kd.R_mono (Kd.R_grown (Kd.R_bound h) hg (fun k hk e=>by have:=hr k e.symm;have:=hk.1;have:=hk.2.1;omega)) (fun _ hk=>hk.1)
theorem OwnY.grown {l:List Cyc} (h:OwnY w lo hi v l) {row:Option Nat} (hg:w.grownBy w' row) (hr:∀ k,row=some k→k<lo ∨ hi≤k):OwnY w' lo hi v l :=
 Kd.R_mono (Kd.R_grown (Kd.R_bound h) hg (fun k hk e=>by have:=hr k e.symm;have:=hk.1;have:=hk.2.1;omega)) (fun _ hk=>hk.1)
theorem OwnY.grownT {l:List Cyc} (h:OwnY w lo hi v l) {row:Option Nat} (hg:w.grownBy w' row) (hr:∀ k,row=some k→∃ cells,w.heap[k]?=some (.cells cells 5 (0,0))):OwnY w' lo hi v l :=
 Kd.R_mono (Kd.R_grown (Kd.R_bound h) hg (fun k hk e=>by
  obtain ⟨c1,h1⟩:=hr k e.symm
  obtain ⟨q,hq,c2,h2⟩:=hk.2.2.2
  rw[h1] at h2
  injection h2 with h2
  injection h2 with _ h2 _
  subst h2
  exact absurd hq (by decide))) (fun _ hk=>hk.1)
theorem OwnX.grownT {l:List Int} (h:OwnX w lo hi v l) {row:Option Nat} (hg:w.grownBy w' row) (hr:∀ k,row=some k→∃ cells,w.heap[k]?=some (.cells cells 70 (0,0))):OwnX w' lo hi v l :=
 Kd.R_mono (Kd.R_grown (Kd.R_bound h) hg (fun k hk e=>by
  obtain ⟨c1,h1⟩:=hr k e.symm
  obtain ⟨q,hq,c2,h2⟩:=hk.2.2.2
  rw[h1] at h2
  injection h2 with h2
  injection h2 with _ h2 _
  subst h2
  exact absurd hq (by decide))) (fun _ hk=>hk.1)
theorem Many.grownT {L:List (Nat × Array Value × TypeId)} (k:Many w L) {row:Option Nat} {t:TypeId} (hg:w.grownBy w' row) (hr:∀ k,row=some k→∃ cells,w.heap[k]?=some (.cells cells t (0,0))) (ht:∀ x ∈ L,x.2.2 ≠ t):Many w' L :=
 k.grown hg (fun x hx e=>by
  obtain ⟨c1,h1⟩:=hr x.1 e.symm
  have h2:w.heap[x.1]?=some (.cells x.2.1 x.2.2 (0,0)):=k x hx
  rw[h1] at h2
  injection h2 with h2
  injection h2 with _ h2 _
  exact ht x hx h2.symm)
end
end Go.Proofs.YtoncmhfmkfeolaaGreatDoor
namespace Go.Proofs.YtoncmhfmkfeolaaGreatDoor
open Go.RowKit Go.Proofs.YtoncmhfmkfeolaaGreatDoorW.PrintWords
structure Evt where
 a:Int
 n:Bool
def asked (E:List Evt) (k:Int) (n:Bool):Bool:=E.any (fun e=>e.a == k && e.n == n)
def evK:Kd Evt:=Kd.iso (Kd.pair (Kd.int .i64) Kd.bool) (fun e=>(e.a,e.n))
def cpuK:Kd Cpu:=Kd.iso (Kd.pair (Kd.int .u8) (Kd.pair (Kd.int .u8) (Kd.pair (Kd.int .u8) (Kd.pair (Kd.int .u8) (Kd.pair (Kd.int .u16) (Kd.pair Kd.bool (Kd.pair Kd.bool (Kd.pair Kd.bool (Kd.pair Kd.bool (Kd.pair Kd.bool Kd.bool)))))))))) (fun c=>(c.A,c.X,c.Y,c.S,c.PC,c.F.N,c.F.V,c.F.D,c.F.I,c.F.Z,c.F.C))
def OwnI (w:World) (base:Nat) (v:Value) (l:List Int):Prop:=Kd.R (Kd.int .i64) 3 w base (fun _=>True) v l
def OwnP (w:World) (base:Nat) (v:Value) (l:List Cpu):Prop:=Kd.R cpuK 28 w base (fun _=>True) v l
def OwnV (w:World) (base:Nat) (v:Value) (l:List Evt):Prop:=Kd.R evK 91 w base (fun _=>True) v l
theorem infoInt:(Tryz.prog.info? 3).map (fun i=>(i.zero,i.size,i.bytes))=some (some (.int .i64 0),1,8):=by kernel_rfl
theorem infoCpu:(Tryz.prog.info? 28).map (fun i=>(i.zero,i.size,i.bytes))=some (some (.agg #[.int .u8 0,.int .u8 0,.int .u8 0,.int .u8 0,.int .u16 0,.bool false,.bool false,.bool false,.bool false,.bool false,.bool false]),11,12):=by kernel_rfl
theorem infoEvt:(Tryz.prog.info? 91).map (fun i=>(i.zero,i.size,i.bytes))=some (some (.agg #[.int .i64 0,.bool false]),2,16):=by kernel_rfl
theorem evt_at {w:World} {A:Option Addr} {n:Nat} {l:List Evt} (h:evK.C w A n l) (i:Int) (h0:0≤i) (h1:i<n) (z:Evt) :
  ∃ ad,A=some ad∧w.cell? (ad.add (i.toNat*2))=some (.int .i64 (l.getD i.toNat z).a)∧w.cell? (ad.add (i.toNat*2+1))=some (.bool (l.getD i.toNat z).n):=by
 obtain ⟨ad,c,rfl,_,hk,hx⟩:=ReadsRow.get_ h z i h0 h1
 obtain ⟨c0,c1,rfl,k0,k1⟩:=hk
 obtain rfl:c0=[_]:=k0
 obtain rfl:c1=[_]:=k1
 exact ⟨ad,rfl,hx 0 _ rfl,hx 1 _ rfl⟩
structure CpuIn (w:World) (ad:Addr) (k:Nat) (c:Cpu):Prop where
 c0:w.cell? (ad.add (k*11))=some (.int .u8 c.A)
 c1:w.cell? (ad.add (k*11+1))=some (.int .u8 c.X)
 c2:w.cell? (ad.add (k*11+2))=some (.int .u8 c.Y)
 c3:w.cell? (ad.add (k*11+3))=some (.int .u8 c.S)
 c4:w.cell? (ad.add (k*11+4))=some (.int .u16 c.PC)
 c5:w.cell? (ad.add (k*11+5))=some (.bool c.F.N)
 c6:w.cell? (ad.add (k*11+6))=some (.bool c.F.V)
 c7:w.cell? (ad.add (k*11+7))=some (.bool c.F.D)
 c8:w.cell? (ad.add (k*11+8))=some (.bool c.F.I)
 c9:w.cell? (ad.add (k*11+9))=some (.bool c.F.Z)
 c10:w.cell? (ad.add (k*11+10))=some (.bool c.F.C)
theorem cpu_at {w:World} {A:Option Addr} {n:Nat} {l:List Cpu} (h:cpuK.C w A n l) (i:Int) (h0:0≤i) (h1:i<n) (z:Cpu) :
  ∃ ad,A=some ad∧CpuIn w ad i.toNat (l.getD i.toNat z):=by
 obtain ⟨ad,c,rfl,_,hk,hx⟩:=ReadsRow.get_ h z i h0 h1
 obtain ⟨c0,r0,rfl,k0,c1,r1,rfl,k1,c2,r2,rfl,k2,c3,r3,rfl,k3,c4,r4,rfl,k4,c5,r5,rfl,k5,c6,r6,rfl,k6,c7,r7,rfl,k7,c8,r8,rfl,k8,c9,c10,rfl,k9,k10⟩:=hk
 obtain rfl:c0=[_]:=k0
 obtain rfl:c1=[_]:=k1
 obtain rfl:c2=[_]:=k2
 obtain rfl:c3=[_]:=k3
 obtain rfl:c4=[_]:=k4
 obtain rfl:c5=[_]:=k5
 obtain rfl:c6=[_]:=k6
 obtain rfl:c7=[_]:=k7
 obtain rfl:c8=[_]:=k8
 obtain rfl:c9=[_]:=k9
 obtain rfl:c10=[_]:=k10
 exact ⟨ad,rfl,⟨hx 0 _ rfl,hx 1 _ rfl,hx 2 _ rfl,hx 3 _ rfl,hx 4 _ rfl,hx 5 _ rfl,hx 6 _ rfl,hx 7 _ rfl,hx 8 _ rfl,hx 9 _ rfl,hx 10 _ rfl⟩⟩
theorem OwnI.below {w w':World} {base:Nat} {v:Value} {l:List Int} (h:OwnI w base v l) (hb:Below w.heap.size w w'):OwnI w' base v l:=Kd.R_below h hb
theorem OwnP.below {w w':World} {base:Nat} {v:Value} {l:List Cpu} (h:OwnP w base v l) (hb:Below w.heap.size w w'):OwnP w' base v l:=Kd.R_below h hb
theorem OwnI.lower {w:World} {base base':Nat} {v:Value} {l:List Int} (h:OwnI w base v l) (hb:base'≤base):OwnI w base' v l:=Kd.R_lower h hb
theorem OwnP.lower {w:World} {base base':Nat} {v:Value} {l:List Cpu} (h:OwnP w base v l) (hb:base'≤base):OwnP w base' v l:=Kd.R_lower h hb
theorem OwnI.reads {w:World} {base:Nat} {v:Value} {l:List Int} (h:OwnI w base v l):∃ A c,v=.slice A l.length c∧l.length≤c∧(Kd.int .i64).C w A l.length l:=Kd.R_reads h
theorem OwnP.reads {w:World} {base:Nat} {v:Value} {l:List Cpu} (h:OwnP w base v l):∃ A c,v=.slice A l.length c∧l.length≤c∧cpuK.C w A l.length l:=Kd.R_reads h
theorem OwnC.reads {w:World} {base:Nat} {v:Value} {l:List Cyc} (h:OwnC w base v l):∃ A c,v=.slice A l.length c∧l.length≤c∧cycK.C w A l.length l:=Kd.R_reads h
open Go.RowKit Go.Proofs.YtoncmhfmkfeolaaGreatDoorW.PrintWords
theorem R_append_lies {α:Type} (d:Kd α) {P:Program} {w:World} {ops:Array Oper} {o:Oper} {a:Act} {K:Act→World→Prop} {Q:Exit→Act→World→Prop} {E:Prop} (hgd:o.guard=none) (s x:Operand) (t:TypeId)
  (ho:o.op=.call { callee:=.builtin .append,args:=#[s,x],argTypes:=#[t,t] }) (base:Nat) (e:TypeId) (z:Value) (bytes:Nat)
  (ht:P.underlying t=some (.slice e)) (hinfo:(P.info? e).map (fun i=>(i.zero,i.size,i.bytes))=some (some z,d.sz,bytes)) (hz:z.cells.size=d.sz) (hs0:0<d.sz) (hb0:0<bytes)
  (v:Value) (xs:List α) (p:α) (cs:List Value) (okp:Nat→Prop) (g:Nat) (hs:a.eval s=v) (hx:a.eval x=.slice (some ⟨g,0,none⟩) 1 1) (hg:Blk w g cs.toArray e)
  (hp:d.M w base okp p cs) (hokp:∀ k,okp k→True∧some k ≠ v.ownBlock) (HO:d.R e w base (fun _=>True) v xs) (hbase:base≤w.heap.size) (hl:(xs.length+1)*bytes≤140737488355328)
  (h:∀ v1 w1,d.R e w1 base (fun _=>True) v1 (xs++[p])→w.grownBy w1 v.ownBlock→(v1.ownBlock=v.ownBlock ∨ ∃ k,v1.ownBlock=some k∧w.heap.size≤k)→K (a.put o.dst v1) w1) :
  if Region.wanted o (yielded ops a.tmps)=true then Oper.wp P o a w K Q else E:=by
 obtain ⟨i0,hi,hzz⟩:=Option.map_eq_some_iff.1 hinfo
 simp only[Prod.mk.injEq] at hzz
 obtain ⟨hz0,hz1,hz2⟩:=hzz
 obtain ⟨h0,inner,hown,hr⟩:=HO
 have hlen:xs.length+1≤140737488355328:=Nat.le_trans (Nat.le_mul_of_pos_right _ hb0) hl
 refine step_append_lies _ hgd s x t ho base e i0 z d.sz bytes ht hi hz0 hz1 hz2 hz hs0 v xs.length inner hs hown ⟨g,0,none⟩ 1 1 cs hx (by rw[d.K_len (d.K_of_M hp)];simp) (World.news_of_block hg) (d.K_one (d.K_of_M hp)) (by decide) (by simp only[maxLen];omega) hl hbase w.heap.size rfl ?_
 intro g1 cap w1 hown1 hg1 hat hlt
 have hat1:(Value.slice (some ⟨g1,0,none⟩) (xs.length+1) cap).ownBlock=v.ownBlock ∨ ∃ k,(Value.slice (some ⟨g1,0,none⟩) (xs.length+1) cap).ownBlock=some k∧w.heap.size≤k:=by
  rcases hat with hat|hat
  ·exact .inl hat.symm
  ·exact .inr ⟨g1,rfl,by omega⟩
 exact h _ w1 (Kd.R_appended h0 hr hp hokp (fun _ _=>trivial) hown1 hg1 hat1) hg1 hat1
section
variable {w w':World} {L:Lay} {v:Value} {T:Nat} {cs:Array Value} {b:Bus} {n:Nat}
theorem Hold.grown (h:Hold w L v T cs b n) {row:Option Nat} (hg:w.grownBy w' row) (h1:some L.g ≠ row) (h2:some L.r ≠ row) (h3:∀ k,v.ownBlock=some k→some k ≠ row):Hold w' L v T cs b n :=
 ⟨(hg.block _ h.lt h1).trans h.blk,h.mem.move (fun k hk=>hg.block _ (Kd.R_lt h.mem k hk) (by injection hk with hk;subst hk;exact h2)),h.log.move (fun k hk=>hg.block _ (Kd.R_lt h.log k hk) (h3 k hk)),h.bg,h.gr,h.gv,h.rv,h.ok,h.mb,h.tb,h.tn⟩
theorem Hold.other (h:Hold w L v T cs b n) {k t:Nat} {cells:Array Value} (hk:w.heap[k]?=some (.cells cells t (0,0))) (t1:t ≠ T) (t2:t ≠ 5) (t3:t ≠ 70):k ≠ L.g∧k ≠ L.r∧some k ≠ v.ownBlock:=by
 refine ⟨blk_ne hk h.blk t1,?_,fun e=>?_⟩
 ·obtain ⟨c1,h1⟩:=Kd.R_typed h.mem L.r rfl
  exact blk_ne hk h1 t2
 ·obtain ⟨c1,h1⟩:=Kd.R_typed h.log k e.symm
  exact blk_ne hk h1 t3 rfl
end
end Go.Proofs.YtoncmhfmkfeolaaGreatDoor
namespace Go.Proofs.YtoncmhfmkfeolaaGreatDoor
open Go.RowKit Go.Proofs.YtoncmhfmkfeolaaGreatDoorW.PrintWords
theorem laws_sameCycs (A B:Option Addr) (c d:Nat) (l:List Cyc) (w:World) (h:cycK.C w A l.length l) (h2:cycK.C w B l.length l) (hl:l.length≤1048576) :
  Calls Tryz.prog 16 #[.slice A l.length c,.slice B l.length d] w fun e w'=>e=.returned (.bool true)∧Below w.heap.size w w':=by
 have HB:=hR w;go_enter Tryz.func16,Tryz.ntmps16
 go_wp2
 go_loopw [5] (fun v4 wr=>∃ k:Nat,k≤l.length∧v4=.int .i64 k∧Aside0 (Below w.heap.size w wr)) (fun v4 _=>l.length - (intOf v4).toNat)
 case atStart=>exact ⟨0,Nat.zero_le _,rfl,HB⟩
 case round =>
  obtain ⟨k,hk,rfl,HB⟩:=hrel
  by_cases hlt:k<l.length
  ·obtain ⟨x,ex⟩:∃ x,l.getD k ⟨0,0,false⟩=x:=⟨_,rfl⟩
   obtain ⟨ad,rfl,hx,hy,hz⟩:=cyc_at h k (by omega) (by omega) ⟨0,0,false⟩
   obtain ⟨ae,rfl,gx,gy,gz⟩:=cyc_at h2 k (by omega) (by omega) ⟨0,0,false⟩
   rw[Int.toNat_natCast,ex] at hx hy hz gx gy gz
   have P1:=(HB.out.cell (World.block_lt_of_cell? w _ hx)).trans hx
   have P2:=(HB.out.cell (World.block_lt_of_cell? w _ hy)).trans hy
   have P3:=(HB.out.cell (World.block_lt_of_cell? w _ hz)).trans hz
   have R1:=(HB.out.cell (World.block_lt_of_cell? w _ gx)).trans gx
   have R2:=(HB.out.cell (World.block_lt_of_cell? w _ gy)).trans gy
   have R3:=(HB.out.cell (World.block_lt_of_cell? w _ gz)).trans gz
   rw[add_next] at P2 P3 R2 R3
   have HBr:=Aside0.mk (Below.refl wr.heap.size wr)
   have q0:(0:Int)≤(k:Int):=by omega
   have q1:(k:Int)<(l.length:Int):=by omega
   clear hx hy hz gx gy gz ex h h2
   go_wp2_with fail
   go_quiet (fail)
   go_wp2
   exact ⟨⟨k+1,by omega,by go_num,⟨blw⟩⟩,by simp[intOf];omega⟩
  ·go_wp2
   go_ret
   exact ⟨rfl,blw⟩
end Go.Proofs.YtoncmhfmkfeolaaGreatDoor
