/- The reference's processor at work: a struct of the call's own beside the bus; branches. -/
import Derived.Test.YtoncmhfmkfeolaaGreatDoorGJ
import Derived.Test.YtoncmhfmkfeolaaGreatDoorSpecV
import Derived.Test.YtoncmhfmkfeolaaGreatDoorGE
set_option linter.unusedVariables false
set_option linter.unusedSimpArgs false
namespace Go.Proofs.YtoncmhfmkfeolaaGreatDoor
open Go.RowKit Go.Proofs.YtoncmhfmkfeolaaGreatDoorW.PrintWords
theorem offs_in (b : Int) (h : 0 ≤ b∧b < 256) : -128 ≤ offs b∧offs b ≤ 128:=by unfold offs;split <;> omega
theorem Box.setA {w : World} {g : Nat} {c : Cpu} (h : Box w g c) (x : Int) : Box (w.setCell ⟨g,0,none⟩ (.int .u8 x)) g { c with A:=x }:=blk_set h 0 _
theorem Box.setX {w : World} {g : Nat} {c : Cpu} (h : Box w g c) (x : Int) : Box (w.setCell ⟨g,1,none⟩ (.int .u8 x)) g { c with X:=x }:=blk_set h 1 _
theorem Box.setY {w : World} {g : Nat} {c : Cpu} (h : Box w g c) (x : Int) : Box (w.setCell ⟨g,2,none⟩ (.int .u8 x)) g { c with Y:=x }:=blk_set h 2 _
theorem Box.setS {w : World} {g : Nat} {c : Cpu} (h : Box w g c) (x : Int) : Box (w.setCell ⟨g,3,none⟩ (.int .u8 x)) g { c with S:=x }:=blk_set h 3 _
theorem Box.setPC {w : World} {g : Nat} {c : Cpu} (h : Box w g c) (x : Int) : Box (w.setCell ⟨g,4,none⟩ (.int .u16 x)) g { c with PC:=x }:=blk_set h 4 _
theorem Box.setN {w : World} {g : Nat} {c : Cpu} (h : Box w g c) (x : Bool) : Box (w.setCell ⟨g,5,none⟩ (.bool x)) g { c with F:={ c.F with N:=x } }:=blk_set h 5 _
theorem Box.setV {w : World} {g : Nat} {c : Cpu} (h : Box w g c) (x : Bool) : Box (w.setCell ⟨g,6,none⟩ (.bool x)) g { c with F:={ c.F with V:=x } }:=blk_set h 6 _
theorem Box.setD {w : World} {g : Nat} {c : Cpu} (h : Box w g c) (x : Bool) : Box (w.setCell ⟨g,7,none⟩ (.bool x)) g { c with F:={ c.F with D:=x } }:=blk_set h 7 _
theorem Box.setI {w : World} {g : Nat} {c : Cpu} (h : Box w g c) (x : Bool) : Box (w.setCell ⟨g,8,none⟩ (.bool x)) g { c with F:={ c.F with I:=x } }:=blk_set h 8 _
theorem Box.setZ {w : World} {g : Nat} {c : Cpu} (h : Box w g c) (x : Bool) : Box (w.setCell ⟨g,9,none⟩ (.bool x)) g { c with F:={ c.F with Z:=x } }:=blk_set h 9 _
theorem Box.setC {w : World} {g : Nat} {c : Cpu} (h : Box w g c) (x : Bool) : Box (w.setCell ⟨g,10,none⟩ (.bool x)) g { c with F:={ c.F with C:=x } }:=blk_set h 10 _
theorem Box.setF {w : World} {g : Nat} {c : Cpu} (h : Box w g c) (f : F6) : Box ((((((w.setCell ⟨g,5,none⟩ (.bool f.N)).setCell ⟨g,6,none⟩ (.bool f.V)).setCell ⟨g,7,none⟩ (.bool f.D)).setCell ⟨g,8,none⟩ (.bool f.I)).setCell ⟨g,9,none⟩ (.bool f.Z)).setCell ⟨g,10,none⟩ (.bool f.C)) g (stF c f):=(((((h.setN f.N).setV f.V).setD f.D).setI f.I).setZ f.Z).setC f.C
def setBox (w : World) (g : Nat) (c : Cpu) : World:=(((((((((((w.setCell ⟨g,0,none⟩ (.int .u8 c.A)).setCell ⟨g,1,none⟩ (.int .u8 c.X)).setCell ⟨g,2,none⟩ (.int .u8 c.Y)).setCell ⟨g,3,none⟩ (.int .u8 c.S)).setCell ⟨g,4,none⟩ (.int .u16 c.PC)).setCell ⟨g,5,none⟩ (.bool c.F.N)).setCell ⟨g,6,none⟩ (.bool c.F.V)).setCell ⟨g,7,none⟩ (.bool c.F.D)).setCell ⟨g,8,none⟩ (.bool c.F.I)).setCell ⟨g,9,none⟩ (.bool c.F.Z)).setCell ⟨g,10,none⟩ (.bool c.F.C))
theorem Box.all {w : World} {g : Nat} {c : Cpu} (h : Box w g c) (d : Cpu) : Box (setBox w g d) g d:=(((((h.setA d.A).setX d.X).setY d.Y).setS d.S).setPC d.PC).setF d.F
structure SFacts (w : World) (P R : Nat) (c r : Cpu) : Prop where
  p0 : w.cell? ⟨P,0,none⟩ = some (.int .u8 c.A)
  p1 : w.cell? ⟨P,1,none⟩ = some (.int .u8 c.X)
  p2 : w.cell? ⟨P,2,none⟩ = some (.int .u8 c.Y)
  p3 : w.cell? ⟨P,3,none⟩ = some (.int .u8 c.S)
  p4 : w.cell? ⟨P,4,none⟩ = some (.int .u16 c.PC)
  p5 : w.cell? ⟨P,5,none⟩ = some (.bool c.F.N)
  p6 : w.cell? ⟨P,6,none⟩ = some (.bool c.F.V)
  p7 : w.cell? ⟨P,7,none⟩ = some (.bool c.F.D)
  p8 : w.cell? ⟨P,8,none⟩ = some (.bool c.F.I)
  p9 : w.cell? ⟨P,9,none⟩ = some (.bool c.F.Z)
  p10 : w.cell? ⟨P,10,none⟩ = some (.bool c.F.C)
  r0 : w.cell? ⟨R,0,none⟩ = some (.int .u8 r.A)
  r1 : w.cell? ⟨R,1,none⟩ = some (.int .u8 r.X)
  r2 : w.cell? ⟨R,2,none⟩ = some (.int .u8 r.Y)
  r3 : w.cell? ⟨R,3,none⟩ = some (.int .u8 r.S)
  r4 : w.cell? ⟨R,4,none⟩ = some (.int .u16 r.PC)
  r5 : w.cell? ⟨R,5,none⟩ = some (.bool r.F.N)
  r6 : w.cell? ⟨R,6,none⟩ = some (.bool r.F.V)
  r7 : w.cell? ⟨R,7,none⟩ = some (.bool r.F.D)
  r8 : w.cell? ⟨R,8,none⟩ = some (.bool r.F.I)
  r9 : w.cell? ⟨R,9,none⟩ = some (.bool r.F.Z)
  r10 : w.cell? ⟨R,10,none⟩ = some (.bool r.F.C)
  fp : ∀ i,w.frozen? ⟨P,i,none⟩ = false
  fr : ∀ i,w.frozen? ⟨R,i,none⟩ = false
  lp : P < w.heap.size
  lr : R < w.heap.size
structure SW (w0 w : World) (L : Lay) (v0 v : Value) (B : Bus) (n : Nat) (P R : Nat) (c r : Cpu) : Prop where
  H : HoldB w L v B n
  M : Mv w0 w L v0 v
  BP : Box w P c
  BR : Box w R r
  ap : P ≠ L.g∧P ≠ L.r∧some P ≠ v.ownBlock
  ar : R ≠ L.g∧R ≠ L.r∧some R ≠ v.ownBlock
  ne : P ≠ R
  sp : w0.heap.size ≤ P
  sr : w0.heap.size ≤ R
section
variable {w0 w w' : World} {L : Lay} {v0 v v' : Value} {B B' : Bus} {n n' P R : Nat} {c r : Cpu}
theorem SW.facts (s : SW w0 w L v0 v B n P R c r) : SFacts w P R c r :=
  ⟨s.BP.cell 0,s.BP.cell 1,s.BP.cell 2,s.BP.cell 3,s.BP.cell 4,s.BP.cell 5,s.BP.cell 6,s.BP.cell 7,s.BP.cell 8,s.BP.cell 9,s.BP.cell 10,s.BR.cell 0,s.BR.cell 1,s.BR.cell 2,s.BR.cell 3,s.BR.cell 4,s.BR.cell 5,s.BR.cell 6,s.BR.cell 7,s.BR.cell 8,s.BR.cell 9,s.BR.cell 10,s.BP.free,s.BR.free,s.BP.lt,s.BR.lt⟩
theorem SW.call (s : SW w0 w L v0 v B n P R c r) (H : HoldB w' L v' B' n') (M : Mv w w' L v v') : SW w0 w' L v0 v' B' n' P R c r :=
  ⟨H,s.M.tr M,s.BP.keep (M.blk P s.BP.lt s.ap),s.BR.keep (M.blk R s.BR.lt s.ar),(M.loc P s.BP.lt s.ap).2.2.2,(M.loc R s.BR.lt s.ar).2.2.2,s.ne,s.sp,s.sr⟩
theorem SW.below (s : SW w0 w L v0 v B n P R c r) (hb : Below w.heap.size w w') : SW w0 w' L v0 v B n P R c r :=
  ⟨s.H.below hb,s.M.bl hb,s.BP.below hb,s.BR.below hb,s.ap,s.ar,s.ne,s.sp,s.sr⟩
theorem SW.drew (s : SW w0 w L v0 v B n P R c r) : SW w0 w.drew L v0 v B n P R c r:=s.below (below_drew1 (Below.refl _ _))
theorem SW.drewN (s : SW w0 w L v0 v B n P R c r) (k : Nat) : SW w0 (w.drewN k) L v0 v B n P R c r:=s.below (pw_below_drewN (Below.refl _ _) k)
theorem SW.put (s : SW w0 w L v0 v B n P R c r) {i : Nat} {u : Value} {d : Cpu} (h : Box (w.setCell ⟨P,i,none⟩ u) P d) : SW w0 (w.setCell ⟨P,i,none⟩ u) L v0 v B n P R d r :=
  ⟨s.H.far P i u s.ap,s.M.far s.sp u,h,s.BR.other s.ne.symm u,s.ap,s.ar,s.ne,s.sp,s.sr⟩
theorem SW.putR (s : SW w0 w L v0 v B n P R c r) {i : Nat} {u : Value} {d : Cpu} (h : Box (w.setCell ⟨R,i,none⟩ u) R d) : SW w0 (w.setCell ⟨R,i,none⟩ u) L v0 v B n P R c d :=
  ⟨s.H.far R i u s.ar,s.M.far s.sr u,s.BP.other s.ne u,h,s.ap,s.ar,s.ne,s.sp,s.sr⟩
theorem SW.setA (s : SW w0 w L v0 v B n P R c r) (x : Int) : SW w0 (w.setCell ⟨P,0,none⟩ (.int .u8 x)) L v0 v B n P R { c with A:=x } r:=s.put (s.BP.setA x)
theorem SW.setS (s : SW w0 w L v0 v B n P R c r) (x : Int) : SW w0 (w.setCell ⟨P,3,none⟩ (.int .u8 x)) L v0 v B n P R { c with S:=x } r:=s.put (s.BP.setS x)
theorem SW.setPC (s : SW w0 w L v0 v B n P R c r) (x : Int) : SW w0 (w.setCell ⟨P,4,none⟩ (.int .u16 x)) L v0 v B n P R { c with PC:=x } r:=s.put (s.BP.setPC x)
theorem SW.setF (s : SW w0 w L v0 v B n P R c r) (f : F6) : SW w0 ((((((w.setCell ⟨P,5,none⟩ (.bool f.N)).setCell ⟨P,6,none⟩ (.bool f.V)).setCell ⟨P,7,none⟩ (.bool f.D)).setCell ⟨P,8,none⟩ (.bool f.I)).setCell ⟨P,9,none⟩ (.bool f.Z)).setCell ⟨P,10,none⟩ (.bool f.C)) L v0 v B n P R (stF c f) r:=by
  have s:=s.put (s.BP.setN f.N)
  have s:=s.put (s.BP.setV f.V)
  have s:=s.put (s.BP.setD f.D)
  have s:=s.put (s.BP.setI f.I)
  have s:=s.put (s.BP.setZ f.Z)
  exact s.put (s.BP.setC f.C)
theorem SW.fin (s : SW w0 w L v0 v B n P R c r) (d : Cpu) : SW w0 (setBox w R d) L v0 v B n P R c d:=by
  have s:=s.putR (s.BR.setA d.A)
  have s:=s.putR (s.BR.setX d.X)
  have s:=s.putR (s.BR.setY d.Y)
  have s:=s.putR (s.BR.setS d.S)
  have s:=s.putR (s.BR.setPC d.PC)
  have s:=s.putR (s.BR.setN d.F.N)
  have s:=s.putR (s.BR.setV d.F.V)
  have s:=s.putR (s.BR.setD d.F.D)
  have s:=s.putR (s.BR.setI d.F.I)
  have s:=s.putR (s.BR.setZ d.F.Z)
  exact s.putR (s.BR.setC d.F.C)
theorem SW.allP (s : SW w0 w L v0 v B n P R c r) (d : Cpu) : SW w0 (setBox w P d) L v0 v B n P R d r:=by
  have s:=s.put (s.BP.setA d.A)
  have s:=s.put (s.BP.setX d.X)
  have s:=s.put (s.BP.setY d.Y)
  have s:=s.put (s.BP.setS d.S)
  have s:=s.put (s.BP.setPC d.PC)
  exact s.setF d.F
theorem SW.start (w : World) (c : Cpu) (h : HoldB w L v B n) : SW w ((w.alloc (.cells #[.int .u8 c.A,.int .u8 c.X,.int .u8 c.Y,.int .u8 c.S,.int .u16 c.PC,.bool c.F.N,.bool c.F.V,.bool c.F.D,.bool c.F.I,.bool c.F.Z,.bool c.F.C] 28)).alloc (.cells #[.int .u8 cpu0.A,.int .u8 cpu0.X,.int .u8 cpu0.Y,.int .u8 cpu0.S,.int .u16 cpu0.PC,.bool cpu0.F.N,.bool cpu0.F.V,.bool cpu0.F.D,.bool cpu0.F.I,.bool cpu0.F.Z,.bool cpu0.F.C] 28)) L v v B n w.heap.size (w.heap.size+1) c cpu0:=by
  refine ⟨(h.alloc _).alloc _,((Mv.refl w L v h.size).al _).al _,(Box.new w c).below (below_alloc (Below.refl _ _) _),?_,h.apart _ (Nat.le_refl _),h.apart _ (by omega),by omega,Nat.le_refl _,by omega⟩
  have:=Box.new (w.alloc (.cells #[.int .u8 c.A,.int .u8 c.X,.int .u8 c.Y,.int .u8 c.S,.int .u16 c.PC,.bool c.F.N,.bool c.F.V,.bool c.F.D,.bool c.F.I,.bool c.F.Z,.bool c.F.C] 28)) cpu0
  rwa [World.size_alloc] at this
end
set_option maxRecDepth 20000 in
set_option maxHeartbeats 1000000 in
theorem spec_l06Branch (x : List UInt8) {w : World} {L : Lay} {v : Value} {c : Cpu} {b : Bus} {n : Nat} (h : HoldB w L v b n) (hn : n ≤ 800000) (hc : c.ok) :
    Calls Tryz.prog 126 #[.pointer (some ⟨L.g,0,none⟩),.agg #[.int .u8 c.A,.int .u8 c.X,.int .u8 c.Y,.int .u8 c.S,.int .u16 c.PC,.bool c.F.N,.bool c.F.V,.bool c.F.D,.bool c.F.I,.bool c.F.Z,.bool c.F.C],.string ⟨x.toArray⟩] w fun e w' => e = .returned (.agg #[.int .u8 (braC c b x).A,.int .u8 (braC c b x).X,.int .u8 (braC c b x).Y,.int .u8 (braC c b x).S,.int .u16 (braC c b x).PC,.bool (braC c b x).F.N,.bool (braC c b x).F.V,.bool (braC c b x).F.D,.bool (braC c b x).F.I,.bool (braC c b x).F.Z,.bool (braC c b x).F.C])∧∃ v',HoldB w' L v' (braB c b x) (n+3)∧Mv w w' L v v':=by
  have hc0:=hc;obtain ⟨a0,a1,x0,x1,y0,y1,s0',s1',p0,p1⟩:=hc;have pk:=peek_of h.peeks;obtain ⟨z0,z1⟩:=pk ((c.PC+1) % 65536);have hand:=i64_and255;have hand2:=i64_and65535;have s0:=SW.start w c h;obtain ⟨e0,e1,e2,e3,e4,e5,e6,e7,e8,e9,e10,u0,u1,u2,u3,u4,u5,u6,u7,u8,u9,u10,fp,fr,lp,lr⟩:=s0.facts
  have hbr:=fun W => spec_l06Holds c.F x W
  obtain ⟨q,hq⟩ : ∃ q,holds c.F x = q:=⟨_,rfl⟩
  rw [hq] at hbr
  have hP : IntKind.u16.wrap (c.PC+2) = (c.PC+2) % 65536:=IntKind.wrap_u16 _
  cases q
  · rw [show braC c b x = { c with PC:=(c.PC+2) % 65536 } from by simp [braC,hq],show braB c b x = b.rd ((c.PC+1) % 65536) from by simp [braB,hq]]
    clear hq
    have HB:=hR w;go_enter Tryz.func126,Tryz.ntmps126
    go_wp2_with fail
    refine Calls.mono (spec_rd _ ((c.PC+1) % 65536) b.m b rfl (by omega) s0.H (by omega)) ?_;rintro _ w1 ⟨rfl,v1,H1,M1⟩;have s1:=s0.call H1 M1;clear H1 M1;clear e0 e1 e2 e3 e4 e5 e6 e7 e8 e9 e10 u0 u1 u2 u3 u4 u5 u6 u7 u8 u9 u10 fp fr lp lr;obtain ⟨e0,e1,e2,e3,e4,e5,e6,e7,e8,e9,e10,u0,u1,u2,u3,u4,u5,u6,u7,u8,u9,u10,fp,fr,lp,lr⟩:=s1.facts
    have s2:=s1.setPC ((c.PC+2) % 65536)
    go_wp2_with fail
    refine Calls.mono (hbr _) ?_;rintro _ w3 ⟨rfl,hb⟩;have s3:=s2.below hb;clear hb;clear e0 e1 e2 e3 e4 e5 e6 e7 e8 e9 e10 u0 u1 u2 u3 u4 u5 u6 u7 u8 u9 u10 fp fr lp lr;obtain ⟨e0,e1,e2,e3,e4,e5,e6,e7,e8,e9,e10,u0,u1,u2,u3,u4,u5,u6,u7,u8,u9,u10,fp,fr,lp,lr⟩:=s3.facts
    go_wp2_with fail
    (refine bodyPost_ret (v:=.agg #[.int .u8 ({ c with PC:=(c.PC+2) % 65536 } : Cpu).A,.int .u8 ({ c with PC:=(c.PC+2) % 65536 } : Cpu).X,.int .u8 ({ c with PC:=(c.PC+2) % 65536 } : Cpu).Y,.int .u8 ({ c with PC:=(c.PC+2) % 65536 } : Cpu).S,.int .u16 ({ c with PC:=(c.PC+2) % 65536 } : Cpu).PC,.bool ({ c with PC:=(c.PC+2) % 65536 } : Cpu).F.N,.bool ({ c with PC:=(c.PC+2) % 65536 } : Cpu).F.V,.bool ({ c with PC:=(c.PC+2) % 65536 } : Cpu).F.D,.bool ({ c with PC:=(c.PC+2) % 65536 } : Cpu).F.I,.bool ({ c with PC:=(c.PC+2) % 65536 } : Cpu).F.Z,.bool ({ c with PC:=(c.PC+2) % 65536 } : Cpu).F.C]) (by (simp only [results,Tryz.results126];go_simp <;> (rfl))) rfl ?_)
    exact ⟨rfl,v1,(s3.fin { c with PC:=(c.PC+2) % 65536 }).H.mono (by omega),(s3.fin { c with PC:=(c.PC+2) % 65536 }).M⟩
  · have hof:=fun W => spec_l04Offset (peek b.m ((c.PC+1) % 65536)) W z0 z1
    have ob:=offs_in (peek b.m ((c.PC+1) % 65536)) ⟨z0,z1⟩
    obtain ⟨P,hP'⟩ : ∃ P,(c.PC+2) % 65536 = P:=⟨_,rfl⟩
    have HP:=Aside0.mk hP'
    rw [hP'] at hP
    have P0 : 0 ≤ P:=by omega
    have P1 : P < 65536:=by omega
    obtain ⟨T,hT⟩ : ∃ T,tgtA c.PC (peek b.m ((c.PC+1) % 65536)) = T:=⟨_,rfl⟩
    have HT:=Aside0.mk hT
    obtain ⟨O,hO⟩ : ∃ O,offs (peek b.m ((c.PC+1) % 65536)) = O:=⟨_,rfl⟩
    rw [hO] at hof ob
    have hT' : (P+O) % 65536 = T:=by rw [← hT,← hP',← hO];unfold tgtA;omega
    have T0 : 0 ≤ T:=by omega
    have T1 : T < 65536:=by omega
    have hTw : IntKind.u16.wrap T = T:=u16_wrap_in _ (by omega)
    have hpg : P / 256 * 256+T % 256 = pg P T:=rfl
    obtain ⟨g0,g1⟩:=pg_b (e:=T) P0 P1
    clear hP' hT hO
    by_cases he : pg P T = T
    · rw [show braC c b x = { c with PC:=T } from by simp [braC,hq,HT.out],show braB c b x = (b.rd ((c.PC+1) % 65536)).rd P from by simp [braB,hq,HT.out,HP.out,he]]
      have he1 : (pg P T != T) = false:=by simp [he]
      clear hq he
      have HB:=hR w;go_enter Tryz.func126,Tryz.ntmps126
      go_wp2_with fail
      refine Calls.mono (spec_rd _ ((c.PC+1) % 65536) b.m b rfl (by omega) s0.H (by omega)) ?_;rintro _ w1 ⟨rfl,v1,H1,M1⟩;have s1:=s0.call H1 M1;clear H1 M1;clear e0 e1 e2 e3 e4 e5 e6 e7 e8 e9 e10 u0 u1 u2 u3 u4 u5 u6 u7 u8 u9 u10 fp fr lp lr;obtain ⟨e0,e1,e2,e3,e4,e5,e6,e7,e8,e9,e10,u0,u1,u2,u3,u4,u5,u6,u7,u8,u9,u10,fp,fr,lp,lr⟩:=s1.facts
      have s2:=s1.setPC P
      go_wp2_with fail
      refine Calls.mono (hbr _) ?_;rintro _ w3 ⟨rfl,hb⟩;have s3:=s2.below hb;clear hb;clear e0 e1 e2 e3 e4 e5 e6 e7 e8 e9 e10 u0 u1 u2 u3 u4 u5 u6 u7 u8 u9 u10 fp fr lp lr;obtain ⟨e0,e1,e2,e3,e4,e5,e6,e7,e8,e9,e10,u0,u1,u2,u3,u4,u5,u6,u7,u8,u9,u10,fp,fr,lp,lr⟩:=s3.facts
      go_wp2_with fail
      refine Calls.mono (spec_rd _ P b.m (lo1 c b) rfl (by omega) s3.H (by omega)) ?_;rintro _ w4 ⟨rfl,v4,H4,M4⟩;have s4:=s3.call H4 M4;clear H4 M4;clear e0 e1 e2 e3 e4 e5 e6 e7 e8 e9 e10 u0 u1 u2 u3 u4 u5 u6 u7 u8 u9 u10 fp fr lp lr;obtain ⟨e0,e1,e2,e3,e4,e5,e6,e7,e8,e9,e10,u0,u1,u2,u3,u4,u5,u6,u7,u8,u9,u10,fp,fr,lp,lr⟩:=s4.facts
      go_wp2_with (first | (go_at_call 171;((with_reducible refine (hof _).mono ?_);rintro _ _ ⟨rfl,rfl⟩)))
      (refine bodyPost_ret (v:=.agg #[.int .u8 ({ c with PC:=T } : Cpu).A,.int .u8 ({ c with PC:=T } : Cpu).X,.int .u8 ({ c with PC:=T } : Cpu).Y,.int .u8 ({ c with PC:=T } : Cpu).S,.int .u16 ({ c with PC:=T } : Cpu).PC,.bool ({ c with PC:=T } : Cpu).F.N,.bool ({ c with PC:=T } : Cpu).F.V,.bool ({ c with PC:=T } : Cpu).F.D,.bool ({ c with PC:=T } : Cpu).F.I,.bool ({ c with PC:=T } : Cpu).F.Z,.bool ({ c with PC:=T } : Cpu).F.C]) (by (simp only [results,Tryz.results126];go_simp <;> (rfl))) rfl ?_)
      have s5:=s4.setPC T
      exact ⟨rfl,v4,(s5.fin { c with PC:=T }).H.mono (by omega),(s5.fin { c with PC:=T }).M⟩
    · rw [show braC c b x = { c with PC:=T } from by simp [braC,hq,HT.out],show braB c b x = ((b.rd ((c.PC+1) % 65536)).rd P).rd (pg P T) from by simp [braB,hq,HT.out,HP.out,he]]
      have he1 : (pg P T != T) = true:=by simp [he]
      clear hq he
      have HB:=hR w;go_enter Tryz.func126,Tryz.ntmps126
      go_wp2_with fail
      refine Calls.mono (spec_rd _ ((c.PC+1) % 65536) b.m b rfl (by omega) s0.H (by omega)) ?_;rintro _ w1 ⟨rfl,v1,H1,M1⟩;have s1:=s0.call H1 M1;clear H1 M1;clear e0 e1 e2 e3 e4 e5 e6 e7 e8 e9 e10 u0 u1 u2 u3 u4 u5 u6 u7 u8 u9 u10 fp fr lp lr;obtain ⟨e0,e1,e2,e3,e4,e5,e6,e7,e8,e9,e10,u0,u1,u2,u3,u4,u5,u6,u7,u8,u9,u10,fp,fr,lp,lr⟩:=s1.facts
      have s2:=s1.setPC P
      go_wp2_with fail
      refine Calls.mono (hbr _) ?_;rintro _ w3 ⟨rfl,hb⟩;have s3:=s2.below hb;clear hb;clear e0 e1 e2 e3 e4 e5 e6 e7 e8 e9 e10 u0 u1 u2 u3 u4 u5 u6 u7 u8 u9 u10 fp fr lp lr;obtain ⟨e0,e1,e2,e3,e4,e5,e6,e7,e8,e9,e10,u0,u1,u2,u3,u4,u5,u6,u7,u8,u9,u10,fp,fr,lp,lr⟩:=s3.facts
      go_wp2_with fail
      refine Calls.mono (spec_rd _ P b.m (lo1 c b) rfl (by omega) s3.H (by omega)) ?_;rintro _ w4 ⟨rfl,v4,H4,M4⟩;have s4:=s3.call H4 M4;clear H4 M4;clear e0 e1 e2 e3 e4 e5 e6 e7 e8 e9 e10 u0 u1 u2 u3 u4 u5 u6 u7 u8 u9 u10 fp fr lp lr;obtain ⟨e0,e1,e2,e3,e4,e5,e6,e7,e8,e9,e10,u0,u1,u2,u3,u4,u5,u6,u7,u8,u9,u10,fp,fr,lp,lr⟩:=s4.facts
      go_wp2_with (first | (go_at_call 171;((with_reducible refine (hof _).mono ?_);rintro _ _ ⟨rfl,rfl⟩)))
      refine Calls.mono (spec_rd _ (pg P T) b.m ((lo1 c b).rd P) rfl (by omega) s4.H (by omega)) ?_;rintro _ w6 ⟨rfl,v6,H6,M6⟩;have s6:=s4.call H6 M6;clear H6 M6;clear e0 e1 e2 e3 e4 e5 e6 e7 e8 e9 e10 u0 u1 u2 u3 u4 u5 u6 u7 u8 u9 u10 fp fr lp lr;obtain ⟨e0,e1,e2,e3,e4,e5,e6,e7,e8,e9,e10,u0,u1,u2,u3,u4,u5,u6,u7,u8,u9,u10,fp,fr,lp,lr⟩:=s6.facts
      go_wp2_with fail
      (refine bodyPost_ret (v:=.agg #[.int .u8 ({ c with PC:=T } : Cpu).A,.int .u8 ({ c with PC:=T } : Cpu).X,.int .u8 ({ c with PC:=T } : Cpu).Y,.int .u8 ({ c with PC:=T } : Cpu).S,.int .u16 ({ c with PC:=T } : Cpu).PC,.bool ({ c with PC:=T } : Cpu).F.N,.bool ({ c with PC:=T } : Cpu).F.V,.bool ({ c with PC:=T } : Cpu).F.D,.bool ({ c with PC:=T } : Cpu).F.I,.bool ({ c with PC:=T } : Cpu).F.Z,.bool ({ c with PC:=T } : Cpu).F.C]) (by (simp only [results,Tryz.results126];go_simp <;> (rfl))) rfl ?_)
      have s7:=s6.setPC T
      exact ⟨rfl,v6,(s7.fin { c with PC:=T }).H.mono (by omega),(s7.fin { c with PC:=T }).M⟩
end Go.Proofs.YtoncmhfmkfeolaaGreatDoor
namespace Go.Proofs.YtoncmhfmkfeolaaGreatDoor
open Go.RowKit Go.Proofs.YtoncmhfmkfeolaaGreatDoorW.PrintWords
def GoS (k m : Int) (x : List UInt8) : Prop:=∀ {w : World} {L : Lay} {v : Value} {c : Cpu} {b : Bus} {n : Nat} (_ : HoldB w L v b n) (_ : n ≤ 700000) (_ : c.ok),
    Calls Tryz.prog 128 #[.pointer (some ⟨L.g,0,none⟩),.agg #[.int .u8 c.A,.int .u8 c.X,.int .u8 c.Y,.int .u8 c.S,.int .u16 c.PC,.bool c.F.N,.bool c.F.V,.bool c.F.D,.bool c.F.I,.bool c.F.Z,.bool c.F.C],.string ⟨x.toArray⟩,.int .i64 m] w fun e w' => e = .returned (.agg #[.int .u8 (floC k m x c b).A,.int .u8 (floC k m x c b).X,.int .u8 (floC k m x c b).Y,.int .u8 (floC k m x c b).S,.int .u16 (floC k m x c b).PC,.bool (floC k m x c b).F.N,.bool (floC k m x c b).F.V,.bool (floC k m x c b).F.D,.bool (floC k m x c b).F.I,.bool (floC k m x c b).F.Z,.bool (floC k m x c b).F.C])∧∃ v',HoldB w' L v' (floB k m x c b) (n+6)∧Mv w w' L v v'
set_option maxRecDepth 20000 in
set_option maxHeartbeats 1000000 in
theorem go_6 (m : Int) : GoS 6 m [74,77,80]:=by
  intro w L v c b n h hn hc
  have hc0:=hc;obtain ⟨a0,a1,x0,x1,y0,y1,s0',s1',p0,p1⟩:=hc;have pk:=peek_of h.peeks;obtain ⟨z0,z1⟩:=pk ((c.PC+1) % 65536);have hand:=i64_and255;have hand2:=i64_and65535;have s0:=SW.start w c h;obtain ⟨e0,e1,e2,e3,e4,e5,e6,e7,e8,e9,e10,u0,u1,u2,u3,u4,u5,u6,u7,u8,u9,u10,fp,fr,lp,lr⟩:=s0.facts
  obtain ⟨t0,t1⟩:=pk ((c.PC+2) % 65536)
  obtain ⟨B,hB⟩ : ∃ B,word2 (peek b.m ((c.PC+1) % 65536)) (peek b.m ((c.PC+2) % 65536)) = B:=⟨_,rfl⟩
  have HB0:=Aside0.mk hB
  obtain ⟨b0,b1⟩ : 0 ≤ B∧B < 65536:=by rw [← hB];exact word2_in (pk _) (pk _)
  by_cases hm : m = 9
  · subst hm
    obtain ⟨i0,i1⟩:=pk B
    obtain ⟨j0,j1⟩:=pk (pg B (B+1))
    obtain ⟨g0,g1⟩:=pg_b (e:=B+1) b0 b1
    have hpg : B / 256 * 256+(B+1) % 256 = pg B (B+1):=rfl
    obtain ⟨T,hT⟩ : ∃ T,word2 (peek b.m B) (peek b.m (pg B (B+1))) = T:=⟨_,rfl⟩
    obtain ⟨T0,T1⟩ : 0 ≤ T∧T < 65536:=by rw [← hT];exact word2_in (pk _) (pk _)
    have hTw : IntKind.u16.wrap T = T:=u16_wrap_in _ (by omega)
    rw [show floC 6 9 [74,77,80] c b = { c with PC:=T } from by simp [floC,jmpC,HB0.out,hT],show floB 6 9 [74,77,80] c b = (((lo1 c b).rd ((c.PC+2) % 65536)).rd B).rd (pg B (B+1)) from by simp [floB,jmpB,HB0.out]]
    have HB:=hR w;go_enter Tryz.func128,Tryz.ntmps128;go_wp2_with fail;go_quiet (fail);have s0:=s0.drewN nq;clear e0 e1 e2 e3 e4 e5 e6 e7 e8 e9 e10 u0 u1 u2 u3 u4 u5 u6 u7 u8 u9 u10 fp fr lp lr;obtain ⟨e0,e1,e2,e3,e4,e5,e6,e7,e8,e9,e10,u0,u1,u2,u3,u4,u5,u6,u7,u8,u9,u10,fp,fr,lp,lr⟩:=s0.facts;go_wp2_with fail;refine Calls.mono (spec_rd _ ((c.PC+1) % 65536) b.m b rfl (by omega) s0.H (by omega)) ?_;rintro _ w1 ⟨rfl,v1,H1,M1⟩;have s1:=s0.call H1 M1;clear H1 M1;clear e0 e1 e2 e3 e4 e5 e6 e7 e8 e9 e10 u0 u1 u2 u3 u4 u5 u6 u7 u8 u9 u10 fp fr lp lr;obtain ⟨e0,e1,e2,e3,e4,e5,e6,e7,e8,e9,e10,u0,u1,u2,u3,u4,u5,u6,u7,u8,u9,u10,fp,fr,lp,lr⟩:=s1.facts
    go_wp2_with fail
    refine Calls.mono (spec_rd _ ((c.PC+2) % 65536) b.m (lo1 c b) rfl (by omega) s1.H (by omega)) ?_;rintro _ w2 ⟨rfl,v2,H2,M2⟩;have s2:=s1.call H2 M2;clear H2 M2;clear e0 e1 e2 e3 e4 e5 e6 e7 e8 e9 e10 u0 u1 u2 u3 u4 u5 u6 u7 u8 u9 u10 fp fr lp lr;obtain ⟨e0,e1,e2,e3,e4,e5,e6,e7,e8,e9,e10,u0,u1,u2,u3,u4,u5,u6,u7,u8,u9,u10,fp,fr,lp,lr⟩:=s2.facts
    go_wp2_with (first | (go_at_call 165;((with_reducible refine (spec_l04Word _ _ _ z0 z1 t0 t1).mono ?_);rintro _ _ ⟨rfl,rfl⟩)))
    refine Calls.mono (spec_rd _ B b.m ((lo1 c b).rd ((c.PC+2) % 65536)) rfl (by omega) s2.H (by omega)) ?_;rintro _ w3 ⟨rfl,v3,H3,M3⟩;have s3:=s2.call H3 M3;clear H3 M3;clear e0 e1 e2 e3 e4 e5 e6 e7 e8 e9 e10 u0 u1 u2 u3 u4 u5 u6 u7 u8 u9 u10 fp fr lp lr;obtain ⟨e0,e1,e2,e3,e4,e5,e6,e7,e8,e9,e10,u0,u1,u2,u3,u4,u5,u6,u7,u8,u9,u10,fp,fr,lp,lr⟩:=s3.facts
    go_wp2_with fail
    refine Calls.mono (spec_rd _ (pg B (B+1)) b.m (((lo1 c b).rd ((c.PC+2) % 65536)).rd B) rfl (by omega) s3.H (by omega)) ?_;rintro _ w4 ⟨rfl,v4,H4,M4⟩;have s4:=s3.call H4 M4;clear H4 M4;clear e0 e1 e2 e3 e4 e5 e6 e7 e8 e9 e10 u0 u1 u2 u3 u4 u5 u6 u7 u8 u9 u10 fp fr lp lr;obtain ⟨e0,e1,e2,e3,e4,e5,e6,e7,e8,e9,e10,u0,u1,u2,u3,u4,u5,u6,u7,u8,u9,u10,fp,fr,lp,lr⟩:=s4.facts
    go_wp2_with (first | (go_at_call 165;((with_reducible refine (spec_l04Word _ _ _ i0 i1 j0 j1).mono ?_);rintro _ _ ⟨rfl,rfl⟩)))
    (refine bodyPost_ret (v:=.agg #[.int .u8 ({ c with PC:=T } : Cpu).A,.int .u8 ({ c with PC:=T } : Cpu).X,.int .u8 ({ c with PC:=T } : Cpu).Y,.int .u8 ({ c with PC:=T } : Cpu).S,.int .u16 ({ c with PC:=T } : Cpu).PC,.bool ({ c with PC:=T } : Cpu).F.N,.bool ({ c with PC:=T } : Cpu).F.V,.bool ({ c with PC:=T } : Cpu).F.D,.bool ({ c with PC:=T } : Cpu).F.I,.bool ({ c with PC:=T } : Cpu).F.Z,.bool ({ c with PC:=T } : Cpu).F.C]) (by (simp only [results,Tryz.results128];go_simp <;> (rfl))) rfl ?_)
    have s5:=s4.setPC T
    exact ⟨rfl,v4,(s5.fin { c with PC:=T }).H.mono (by omega),(s5.fin { c with PC:=T }).M⟩
  · have hm1 : (m == 9) = false:=beq_eq_false_iff_ne.2 hm
    have hBw : IntKind.u16.wrap B = B:=u16_wrap_in _ (by omega)
    rw [show floC 6 m [74,77,80] c b = { c with PC:=B } from by simp [floC,jmpC,HB0.out,hm1],show floB 6 m [74,77,80] c b = (lo1 c b).rd ((c.PC+2) % 65536) from by simp [floB,jmpB,hm1]]
    clear hm
    have HB:=hR w;go_enter Tryz.func128,Tryz.ntmps128;go_wp2_with fail;go_quiet (fail);have s0:=s0.drewN nq;clear e0 e1 e2 e3 e4 e5 e6 e7 e8 e9 e10 u0 u1 u2 u3 u4 u5 u6 u7 u8 u9 u10 fp fr lp lr;obtain ⟨e0,e1,e2,e3,e4,e5,e6,e7,e8,e9,e10,u0,u1,u2,u3,u4,u5,u6,u7,u8,u9,u10,fp,fr,lp,lr⟩:=s0.facts;go_wp2_with fail;refine Calls.mono (spec_rd _ ((c.PC+1) % 65536) b.m b rfl (by omega) s0.H (by omega)) ?_;rintro _ w1 ⟨rfl,v1,H1,M1⟩;have s1:=s0.call H1 M1;clear H1 M1;clear e0 e1 e2 e3 e4 e5 e6 e7 e8 e9 e10 u0 u1 u2 u3 u4 u5 u6 u7 u8 u9 u10 fp fr lp lr;obtain ⟨e0,e1,e2,e3,e4,e5,e6,e7,e8,e9,e10,u0,u1,u2,u3,u4,u5,u6,u7,u8,u9,u10,fp,fr,lp,lr⟩:=s1.facts
    go_wp2_with fail
    refine Calls.mono (spec_rd _ ((c.PC+2) % 65536) b.m (lo1 c b) rfl (by omega) s1.H (by omega)) ?_;rintro _ w2 ⟨rfl,v2,H2,M2⟩;have s2:=s1.call H2 M2;clear H2 M2;clear e0 e1 e2 e3 e4 e5 e6 e7 e8 e9 e10 u0 u1 u2 u3 u4 u5 u6 u7 u8 u9 u10 fp fr lp lr;obtain ⟨e0,e1,e2,e3,e4,e5,e6,e7,e8,e9,e10,u0,u1,u2,u3,u4,u5,u6,u7,u8,u9,u10,fp,fr,lp,lr⟩:=s2.facts
    go_wp2_with (first | (go_at_call 165;((with_reducible refine (spec_l04Word _ _ _ z0 z1 t0 t1).mono ?_);rintro _ _ ⟨rfl,rfl⟩)))
    (refine bodyPost_ret (v:=.agg #[.int .u8 ({ c with PC:=B } : Cpu).A,.int .u8 ({ c with PC:=B } : Cpu).X,.int .u8 ({ c with PC:=B } : Cpu).Y,.int .u8 ({ c with PC:=B } : Cpu).S,.int .u16 ({ c with PC:=B } : Cpu).PC,.bool ({ c with PC:=B } : Cpu).F.N,.bool ({ c with PC:=B } : Cpu).F.V,.bool ({ c with PC:=B } : Cpu).F.D,.bool ({ c with PC:=B } : Cpu).F.I,.bool ({ c with PC:=B } : Cpu).F.Z,.bool ({ c with PC:=B } : Cpu).F.C]) (by (simp only [results,Tryz.results128];go_simp <;> (rfl))) rfl ?_)
    have s5:=s2.setPC B
    exact ⟨rfl,v2,(s5.fin { c with PC:=B }).H.mono (by omega),(s5.fin { c with PC:=B }).M⟩
set_option maxRecDepth 20000 in
set_option maxHeartbeats 1000000 in
theorem go_7 (m : Int) : GoS 7 m [74,83,82]:=by
  intro w L v c b n h hn hc
  have hc0:=hc;obtain ⟨a0,a1,x0,x1,y0,y1,s0',s1',p0,p1⟩:=hc;have pk:=peek_of h.peeks;obtain ⟨z0,z1⟩:=pk ((c.PC+1) % 65536);have hand:=i64_and255;have hand2:=i64_and65535;have s0:=SW.start w c h;obtain ⟨e0,e1,e2,e3,e4,e5,e6,e7,e8,e9,e10,u0,u1,u2,u3,u4,u5,u6,u7,u8,u9,u10,fp,fr,lp,lr⟩:=s0.facts
  obtain ⟨Q,hQ⟩ : ∃ Q,(c.PC+2) % 65536 = Q:=⟨_,rfl⟩
  have Q0 : 0 ≤ Q:=by omega
  have Q1 : Q < 65536:=by omega
  have W1 : IntKind.u8.wrap (Q / 256) = Q / 256:=by rw [IntKind.wrap_u8];omega
  have W2 : IntKind.u8.wrap (Q % 256) = Q % 256:=by rw [IntKind.wrap_u8];omega
  obtain ⟨J,hJ⟩ : ∃ J,jsrW c b = J:=⟨_,rfl⟩
  have hJe : ((((lo1 c b).rd (stk c.S)).wr (stk c.S) (Q / 256)).wr (stk (c.S - 1)) (Q % 256)) = J:=by rw [← hJ,← hQ];rfl
  have HJ:=Aside0.mk hJe
  have hjm : peek_in J.m:=by rw [← hJ];exact set_rd (set_rd h.peeks (by omega) (by omega)) (by omega) (by omega)
  obtain ⟨j0,j1⟩:=peek_of hjm Q
  obtain ⟨B,hB⟩ : ∃ B,word2 (peek b.m ((c.PC+1) % 65536)) (peek J.m Q) = B:=⟨_,rfl⟩
  obtain ⟨b0,b1⟩ : 0 ≤ B∧B < 65536:=by rw [← hB];exact word2_in ⟨z0,z1⟩ ⟨j0,j1⟩
  have hBw : IntKind.u16.wrap B = B:=u16_wrap_in _ (by omega)
  have hs1:=stk_b c.S
  have hs2:=stk_b (c.S - 1)
  rw [show floC 7 m [74,83,82] c b = { c with S:=(c.S - 2) % 256,PC:=B } from by rw [← hB,← hJ,← hQ];rfl,show floB 7 m [74,83,82] c b = J.rd Q from by rw [← hJ,← hQ];rfl]
  have HQ:=Aside0.mk hQ
  clear hJ hJe
  have HB:=hR w;go_enter Tryz.func128,Tryz.ntmps128;go_wp2_with fail;go_quiet (fail);have s0:=s0.drewN nq;clear e0 e1 e2 e3 e4 e5 e6 e7 e8 e9 e10 u0 u1 u2 u3 u4 u5 u6 u7 u8 u9 u10 fp fr lp lr;obtain ⟨e0,e1,e2,e3,e4,e5,e6,e7,e8,e9,e10,u0,u1,u2,u3,u4,u5,u6,u7,u8,u9,u10,fp,fr,lp,lr⟩:=s0.facts;go_wp2_with fail;refine Calls.mono (spec_rd _ ((c.PC+1) % 65536) b.m b rfl (by omega) s0.H (by omega)) ?_;rintro _ w1 ⟨rfl,v1,H1,M1⟩;have s1:=s0.call H1 M1;clear H1 M1;clear e0 e1 e2 e3 e4 e5 e6 e7 e8 e9 e10 u0 u1 u2 u3 u4 u5 u6 u7 u8 u9 u10 fp fr lp lr;obtain ⟨e0,e1,e2,e3,e4,e5,e6,e7,e8,e9,e10,u0,u1,u2,u3,u4,u5,u6,u7,u8,u9,u10,fp,fr,lp,lr⟩:=s1.facts
  go_wp2_with (first | (go_at_call 163;((with_reducible refine (spec_l06Stack _ _).mono ?_);rintro _ _ ⟨rfl,rfl⟩)))
  refine Calls.mono (spec_rd _ (stk c.S) b.m (lo1 c b) rfl (by omega) s1.H (by omega)) ?_;rintro _ w2 ⟨rfl,v2,H2,M2⟩;have s2:=s1.call H2 M2;clear H2 M2;clear e0 e1 e2 e3 e4 e5 e6 e7 e8 e9 e10 u0 u1 u2 u3 u4 u5 u6 u7 u8 u9 u10 fp fr lp lr;obtain ⟨e0,e1,e2,e3,e4,e5,e6,e7,e8,e9,e10,u0,u1,u2,u3,u4,u5,u6,u7,u8,u9,u10,fp,fr,lp,lr⟩:=s2.facts
  go_wp2_with (first | (go_at_call 163;((with_reducible refine (spec_l06Stack _ _).mono ?_);rintro _ _ ⟨rfl,rfl⟩)))
  refine Calls.mono (spec_wr _ (stk c.S) (Q / 256) ((lo1 c b).rd (stk c.S)) (by omega) s2.H (by omega) (by omega) (by omega)) ?_;rintro _ w3 ⟨rfl,v3,H3,M3⟩;have s3:=s2.call H3 M3;clear H3 M3;clear e0 e1 e2 e3 e4 e5 e6 e7 e8 e9 e10 u0 u1 u2 u3 u4 u5 u6 u7 u8 u9 u10 fp fr lp lr;obtain ⟨e0,e1,e2,e3,e4,e5,e6,e7,e8,e9,e10,u0,u1,u2,u3,u4,u5,u6,u7,u8,u9,u10,fp,fr,lp,lr⟩:=s3.facts
  go_wp2_with (first | (go_at_call 163;((with_reducible refine (spec_l06Stack _ _).mono ?_);rintro _ _ ⟨rfl,rfl⟩)))
  refine Calls.mono (spec_wr _ (stk (c.S - 1)) (Q % 256) (((lo1 c b).rd (stk c.S)).wr (stk c.S) (Q / 256)) (by omega) s3.H (by omega) (by omega) (by omega)) ?_;rintro _ w4 ⟨rfl,v4,H4,M4⟩;have s4:=s3.call H4 M4;clear H4 M4;clear e0 e1 e2 e3 e4 e5 e6 e7 e8 e9 e10 u0 u1 u2 u3 u4 u5 u6 u7 u8 u9 u10 fp fr lp lr;obtain ⟨e0,e1,e2,e3,e4,e5,e6,e7,e8,e9,e10,u0,u1,u2,u3,u4,u5,u6,u7,u8,u9,u10,fp,fr,lp,lr⟩:=s4.facts
  rw [HJ.out] at s4
  go_wp2_with fail
  refine Calls.mono (spec_rd _ Q J.m J rfl (by omega) s4.H (by omega)) ?_;rintro _ w5 ⟨rfl,v5,H5,M5⟩;have s5:=s4.call H5 M5;clear H5 M5;clear e0 e1 e2 e3 e4 e5 e6 e7 e8 e9 e10 u0 u1 u2 u3 u4 u5 u6 u7 u8 u9 u10 fp fr lp lr;obtain ⟨e0,e1,e2,e3,e4,e5,e6,e7,e8,e9,e10,u0,u1,u2,u3,u4,u5,u6,u7,u8,u9,u10,fp,fr,lp,lr⟩:=s5.facts
  go_wp2_with (first | (go_at_call 165;((with_reducible refine (spec_l04Word _ _ _ z0 z1 j0 j1).mono ?_);rintro _ _ ⟨rfl,rfl⟩)))
  (refine bodyPost_ret (v:=.agg #[.int .u8 ({ c with S:=(c.S - 2) % 256,PC:=B } : Cpu).A,.int .u8 ({ c with S:=(c.S - 2) % 256,PC:=B } : Cpu).X,.int .u8 ({ c with S:=(c.S - 2) % 256,PC:=B } : Cpu).Y,.int .u8 ({ c with S:=(c.S - 2) % 256,PC:=B } : Cpu).S,.int .u16 ({ c with S:=(c.S - 2) % 256,PC:=B } : Cpu).PC,.bool ({ c with S:=(c.S - 2) % 256,PC:=B } : Cpu).F.N,.bool ({ c with S:=(c.S - 2) % 256,PC:=B } : Cpu).F.V,.bool ({ c with S:=(c.S - 2) % 256,PC:=B } : Cpu).F.D,.bool ({ c with S:=(c.S - 2) % 256,PC:=B } : Cpu).F.I,.bool ({ c with S:=(c.S - 2) % 256,PC:=B } : Cpu).F.Z,.bool ({ c with S:=(c.S - 2) % 256,PC:=B } : Cpu).F.C]) (by (simp only [results,Tryz.results128];go_simp <;> (rfl))) rfl ?_)
  have s6:=(s5.setPC B).setS ((c.S - 2) % 256)
  exact ⟨rfl,v5,(s6.fin { c with S:=(c.S - 2) % 256,PC:=B }).H.mono (by omega),(s6.fin { c with S:=(c.S - 2) % 256,PC:=B }).M⟩
set_option maxRecDepth 20000 in
set_option maxHeartbeats 1000000 in
theorem go_8 (m : Int) : GoS 8 m [82,84,83]:=by
  intro w L v c b n h hn hc
  have hc0:=hc;obtain ⟨a0,a1,x0,x1,y0,y1,s0',s1',p0,p1⟩:=hc;have pk:=peek_of h.peeks;obtain ⟨z0,z1⟩:=pk ((c.PC+1) % 65536);have hand:=i64_and255;have hand2:=i64_and65535;have s0:=SW.start w c h;obtain ⟨e0,e1,e2,e3,e4,e5,e6,e7,e8,e9,e10,u0,u1,u2,u3,u4,u5,u6,u7,u8,u9,u10,fp,fr,lp,lr⟩:=s0.facts
  have hs0:=stk_b c.S
  have hs1:=stk_b (c.S+1)
  have hs2:=stk_b (c.S+2)
  obtain ⟨i0,i1⟩:=pk (stk (c.S+1))
  obtain ⟨j0,j1⟩:=pk (stk (c.S+2))
  obtain ⟨B,hB⟩ : ∃ B,word2 (peek b.m (stk (c.S+1))) (peek b.m (stk (c.S+2))) = B:=⟨_,rfl⟩
  obtain ⟨b0,b1⟩ : 0 ≤ B∧B < 65536:=by rw [← hB];exact word2_in (pk _) (pk _)
  have hBw : IntKind.u16.wrap (B+1) = (B+1) % 65536:=IntKind.wrap_u16 _
  rw [show floC 8 m [82,84,83] c b = { c with S:=(c.S+2) % 256,PC:=(B+1) % 65536 } from by rw [← hB];rfl,show floB 8 m [82,84,83] c b = ((((lo1 c b).rd (stk c.S)).rd (stk (c.S+1))).rd (stk (c.S+2))).rd B from by rw [← hB];rfl]
  have HB:=hR w;go_enter Tryz.func128,Tryz.ntmps128;go_wp2_with fail;go_quiet (fail);have s0:=s0.drewN nq;clear e0 e1 e2 e3 e4 e5 e6 e7 e8 e9 e10 u0 u1 u2 u3 u4 u5 u6 u7 u8 u9 u10 fp fr lp lr;obtain ⟨e0,e1,e2,e3,e4,e5,e6,e7,e8,e9,e10,u0,u1,u2,u3,u4,u5,u6,u7,u8,u9,u10,fp,fr,lp,lr⟩:=s0.facts;go_wp2_with fail;refine Calls.mono (spec_rd _ ((c.PC+1) % 65536) b.m b rfl (by omega) s0.H (by omega)) ?_;rintro _ w1 ⟨rfl,v1,H1,M1⟩;have s1:=s0.call H1 M1;clear H1 M1;clear e0 e1 e2 e3 e4 e5 e6 e7 e8 e9 e10 u0 u1 u2 u3 u4 u5 u6 u7 u8 u9 u10 fp fr lp lr;obtain ⟨e0,e1,e2,e3,e4,e5,e6,e7,e8,e9,e10,u0,u1,u2,u3,u4,u5,u6,u7,u8,u9,u10,fp,fr,lp,lr⟩:=s1.facts
  go_wp2_with (first | (go_at_call 163;((with_reducible refine (spec_l06Stack _ _).mono ?_);rintro _ _ ⟨rfl,rfl⟩)))
  refine Calls.mono (spec_rd _ (stk c.S) b.m (lo1 c b) rfl (by omega) s1.H (by omega)) ?_;rintro _ w2 ⟨rfl,v2,H2,M2⟩;have s2:=s1.call H2 M2;clear H2 M2;clear e0 e1 e2 e3 e4 e5 e6 e7 e8 e9 e10 u0 u1 u2 u3 u4 u5 u6 u7 u8 u9 u10 fp fr lp lr;obtain ⟨e0,e1,e2,e3,e4,e5,e6,e7,e8,e9,e10,u0,u1,u2,u3,u4,u5,u6,u7,u8,u9,u10,fp,fr,lp,lr⟩:=s2.facts
  go_wp2_with (first | (go_at_call 163;((with_reducible refine (spec_l06Stack _ _).mono ?_);rintro _ _ ⟨rfl,rfl⟩)))
  refine Calls.mono (spec_rd _ (stk (c.S+1)) b.m ((lo1 c b).rd (stk c.S)) rfl (by omega) s2.H (by omega)) ?_;rintro _ w3 ⟨rfl,v3,H3,M3⟩;have s3:=s2.call H3 M3;clear H3 M3;clear e0 e1 e2 e3 e4 e5 e6 e7 e8 e9 e10 u0 u1 u2 u3 u4 u5 u6 u7 u8 u9 u10 fp fr lp lr;obtain ⟨e0,e1,e2,e3,e4,e5,e6,e7,e8,e9,e10,u0,u1,u2,u3,u4,u5,u6,u7,u8,u9,u10,fp,fr,lp,lr⟩:=s3.facts
  go_wp2_with (first | (go_at_call 163;((with_reducible refine (spec_l06Stack _ _).mono ?_);rintro _ _ ⟨rfl,rfl⟩)))
  refine Calls.mono (spec_rd _ (stk (c.S+2)) b.m (((lo1 c b).rd (stk c.S)).rd (stk (c.S+1))) rfl (by omega) s3.H (by omega)) ?_;rintro _ w4 ⟨rfl,v4,H4,M4⟩;have s4:=s3.call H4 M4;clear H4 M4;clear e0 e1 e2 e3 e4 e5 e6 e7 e8 e9 e10 u0 u1 u2 u3 u4 u5 u6 u7 u8 u9 u10 fp fr lp lr;obtain ⟨e0,e1,e2,e3,e4,e5,e6,e7,e8,e9,e10,u0,u1,u2,u3,u4,u5,u6,u7,u8,u9,u10,fp,fr,lp,lr⟩:=s4.facts
  go_wp2_with (first | (go_at_call 165;((with_reducible refine (spec_l04Word _ _ _ i0 i1 j0 j1).mono ?_);rintro _ _ ⟨rfl,rfl⟩)))
  refine Calls.mono (spec_rd _ B b.m ((((lo1 c b).rd (stk c.S)).rd (stk (c.S+1))).rd (stk (c.S+2))) rfl (by omega) s4.H (by omega)) ?_;rintro _ w5 ⟨rfl,v5,H5,M5⟩;have s5:=s4.call H5 M5;clear H5 M5;clear e0 e1 e2 e3 e4 e5 e6 e7 e8 e9 e10 u0 u1 u2 u3 u4 u5 u6 u7 u8 u9 u10 fp fr lp lr;obtain ⟨e0,e1,e2,e3,e4,e5,e6,e7,e8,e9,e10,u0,u1,u2,u3,u4,u5,u6,u7,u8,u9,u10,fp,fr,lp,lr⟩:=s5.facts
  go_wp2_with fail
  (refine bodyPost_ret (v:=.agg #[.int .u8 ({ c with S:=(c.S+2) % 256,PC:=(B+1) % 65536 } : Cpu).A,.int .u8 ({ c with S:=(c.S+2) % 256,PC:=(B+1) % 65536 } : Cpu).X,.int .u8 ({ c with S:=(c.S+2) % 256,PC:=(B+1) % 65536 } : Cpu).Y,.int .u8 ({ c with S:=(c.S+2) % 256,PC:=(B+1) % 65536 } : Cpu).S,.int .u16 ({ c with S:=(c.S+2) % 256,PC:=(B+1) % 65536 } : Cpu).PC,.bool ({ c with S:=(c.S+2) % 256,PC:=(B+1) % 65536 } : Cpu).F.N,.bool ({ c with S:=(c.S+2) % 256,PC:=(B+1) % 65536 } : Cpu).F.V,.bool ({ c with S:=(c.S+2) % 256,PC:=(B+1) % 65536 } : Cpu).F.D,.bool ({ c with S:=(c.S+2) % 256,PC:=(B+1) % 65536 } : Cpu).F.I,.bool ({ c with S:=(c.S+2) % 256,PC:=(B+1) % 65536 } : Cpu).F.Z,.bool ({ c with S:=(c.S+2) % 256,PC:=(B+1) % 65536 } : Cpu).F.C]) (by (simp only [results,Tryz.results128];go_simp <;> (rfl))) rfl ?_)
  have s6:=(s5.setPC ((B+1) % 65536)).setS ((c.S+2) % 256)
  exact ⟨rfl,v5,(s6.fin { c with S:=(c.S+2) % 256,PC:=(B+1) % 65536 }).H.mono (by omega),(s6.fin { c with S:=(c.S+2) % 256,PC:=(B+1) % 65536 }).M⟩
set_option maxRecDepth 20000 in
set_option maxHeartbeats 1000000 in
theorem go_9 (m : Int) : GoS 9 m [82,84,73]:=by
  intro w L v c b n h hn hc
  have hc0:=hc;obtain ⟨a0,a1,x0,x1,y0,y1,s0',s1',p0,p1⟩:=hc;have pk:=peek_of h.peeks;obtain ⟨z0,z1⟩:=pk ((c.PC+1) % 65536);have hand:=i64_and255;have hand2:=i64_and65535;have s0:=SW.start w c h;obtain ⟨e0,e1,e2,e3,e4,e5,e6,e7,e8,e9,e10,u0,u1,u2,u3,u4,u5,u6,u7,u8,u9,u10,fp,fr,lp,lr⟩:=s0.facts
  have hs0:=stk_b c.S
  have hs1:=stk_b (c.S+1)
  have hs2:=stk_b (c.S+2)
  have hs3:=stk_b (c.S+3)
  obtain ⟨f0,f1⟩:=pk (stk (c.S+1))
  obtain ⟨i0,i1⟩:=pk (stk (c.S+2))
  obtain ⟨j0,j1⟩:=pk (stk (c.S+3))
  obtain ⟨B,hB⟩ : ∃ B,word2 (peek b.m (stk (c.S+2))) (peek b.m (stk (c.S+3))) = B:=⟨_,rfl⟩
  obtain ⟨b0,b1⟩ : 0 ≤ B∧B < 65536:=by rw [← hB];exact word2_in (pk _) (pk _)
  have hBw : IntKind.u16.wrap B = B:=u16_wrap_in _ (by omega)
  rw [show floC 9 m [82,84,73] c b = { c with S:=(c.S+3) % 256,PC:=B,F:=unpackP (peek b.m (stk (c.S+1))) } from by rw [← hB];rfl]
  obtain ⟨f,hf⟩ : ∃ f,unpackP (peek b.m (stk (c.S+1))) = f:=⟨_,rfl⟩
  have hup:=fun W => spec_UnpackP (peek b.m (stk (c.S+1))) W f0 f1
  rw [hf] at hup ⊢
  clear hf
  rw [show floB 9 m [82,84,73] c b = ((((lo1 c b).rd (stk c.S)).rd (stk (c.S+1))).rd (stk (c.S+2))).rd (stk (c.S+3)) from rfl]
  have HB:=hR w;go_enter Tryz.func128,Tryz.ntmps128;go_wp2_with fail;go_quiet (fail);have s0:=s0.drewN nq;clear e0 e1 e2 e3 e4 e5 e6 e7 e8 e9 e10 u0 u1 u2 u3 u4 u5 u6 u7 u8 u9 u10 fp fr lp lr;obtain ⟨e0,e1,e2,e3,e4,e5,e6,e7,e8,e9,e10,u0,u1,u2,u3,u4,u5,u6,u7,u8,u9,u10,fp,fr,lp,lr⟩:=s0.facts;go_wp2_with fail;refine Calls.mono (spec_rd _ ((c.PC+1) % 65536) b.m b rfl (by omega) s0.H (by omega)) ?_;rintro _ w1 ⟨rfl,v1,H1,M1⟩;have s1:=s0.call H1 M1;clear H1 M1;clear e0 e1 e2 e3 e4 e5 e6 e7 e8 e9 e10 u0 u1 u2 u3 u4 u5 u6 u7 u8 u9 u10 fp fr lp lr;obtain ⟨e0,e1,e2,e3,e4,e5,e6,e7,e8,e9,e10,u0,u1,u2,u3,u4,u5,u6,u7,u8,u9,u10,fp,fr,lp,lr⟩:=s1.facts
  go_wp2_with (first | (go_at_call 163;((with_reducible refine (spec_l06Stack _ _).mono ?_);rintro _ _ ⟨rfl,rfl⟩)))
  refine Calls.mono (spec_rd _ (stk c.S) b.m (lo1 c b) rfl (by omega) s1.H (by omega)) ?_;rintro _ w2 ⟨rfl,v2,H2,M2⟩;have s2:=s1.call H2 M2;clear H2 M2;clear e0 e1 e2 e3 e4 e5 e6 e7 e8 e9 e10 u0 u1 u2 u3 u4 u5 u6 u7 u8 u9 u10 fp fr lp lr;obtain ⟨e0,e1,e2,e3,e4,e5,e6,e7,e8,e9,e10,u0,u1,u2,u3,u4,u5,u6,u7,u8,u9,u10,fp,fr,lp,lr⟩:=s2.facts
  go_wp2_with (first | (go_at_call 163;((with_reducible refine (spec_l06Stack _ _).mono ?_);rintro _ _ ⟨rfl,rfl⟩)))
  refine Calls.mono (spec_rd _ (stk (c.S+1)) b.m ((lo1 c b).rd (stk c.S)) rfl (by omega) s2.H (by omega)) ?_;rintro _ w3 ⟨rfl,v3,H3,M3⟩;have s3:=s2.call H3 M3;clear H3 M3;clear e0 e1 e2 e3 e4 e5 e6 e7 e8 e9 e10 u0 u1 u2 u3 u4 u5 u6 u7 u8 u9 u10 fp fr lp lr;obtain ⟨e0,e1,e2,e3,e4,e5,e6,e7,e8,e9,e10,u0,u1,u2,u3,u4,u5,u6,u7,u8,u9,u10,fp,fr,lp,lr⟩:=s3.facts
  go_wp2_with fail
  refine Calls.mono (hup _) ?_;rintro _ w4 ⟨rfl,hb⟩;have s4:=s3.below hb;clear hb;clear e0 e1 e2 e3 e4 e5 e6 e7 e8 e9 e10 u0 u1 u2 u3 u4 u5 u6 u7 u8 u9 u10 fp fr lp lr;obtain ⟨e0,e1,e2,e3,e4,e5,e6,e7,e8,e9,e10,u0,u1,u2,u3,u4,u5,u6,u7,u8,u9,u10,fp,fr,lp,lr⟩:=s4.facts
  have s5:=s4.setF f
  go_wp2_with (first | (go_at_call 163;((with_reducible refine (spec_l06Stack _ _).mono ?_);rintro _ _ ⟨rfl,rfl⟩)))
  refine Calls.mono (spec_rd _ (stk (c.S+2)) b.m (((lo1 c b).rd (stk c.S)).rd (stk (c.S+1))) rfl (by omega) s5.H (by omega)) ?_;rintro _ w6 ⟨rfl,v6,H6,M6⟩;have s6:=s5.call H6 M6;clear H6 M6;clear e0 e1 e2 e3 e4 e5 e6 e7 e8 e9 e10 u0 u1 u2 u3 u4 u5 u6 u7 u8 u9 u10 fp fr lp lr;obtain ⟨e0,e1,e2,e3,e4,e5,e6,e7,e8,e9,e10,u0,u1,u2,u3,u4,u5,u6,u7,u8,u9,u10,fp,fr,lp,lr⟩:=s6.facts
  go_wp2_with (first | (go_at_call 163;((with_reducible refine (spec_l06Stack _ _).mono ?_);rintro _ _ ⟨rfl,rfl⟩)))
  refine Calls.mono (spec_rd _ (stk (c.S+3)) b.m ((((lo1 c b).rd (stk c.S)).rd (stk (c.S+1))).rd (stk (c.S+2))) rfl (by omega) s6.H (by omega)) ?_;rintro _ w7 ⟨rfl,v7,H7,M7⟩;have s7:=s6.call H7 M7;clear H7 M7;clear e0 e1 e2 e3 e4 e5 e6 e7 e8 e9 e10 u0 u1 u2 u3 u4 u5 u6 u7 u8 u9 u10 fp fr lp lr;obtain ⟨e0,e1,e2,e3,e4,e5,e6,e7,e8,e9,e10,u0,u1,u2,u3,u4,u5,u6,u7,u8,u9,u10,fp,fr,lp,lr⟩:=s7.facts
  go_wp2_with (first | (go_at_call 165;((with_reducible refine (spec_l04Word _ _ _ i0 i1 j0 j1).mono ?_);rintro _ _ ⟨rfl,rfl⟩)))
  (refine bodyPost_ret (v:=.agg #[.int .u8 ({ c with S:=(c.S+3) % 256,PC:=B,F:=f } : Cpu).A,.int .u8 ({ c with S:=(c.S+3) % 256,PC:=B,F:=f } : Cpu).X,.int .u8 ({ c with S:=(c.S+3) % 256,PC:=B,F:=f } : Cpu).Y,.int .u8 ({ c with S:=(c.S+3) % 256,PC:=B,F:=f } : Cpu).S,.int .u16 ({ c with S:=(c.S+3) % 256,PC:=B,F:=f } : Cpu).PC,.bool ({ c with S:=(c.S+3) % 256,PC:=B,F:=f } : Cpu).F.N,.bool ({ c with S:=(c.S+3) % 256,PC:=B,F:=f } : Cpu).F.V,.bool ({ c with S:=(c.S+3) % 256,PC:=B,F:=f } : Cpu).F.D,.bool ({ c with S:=(c.S+3) % 256,PC:=B,F:=f } : Cpu).F.I,.bool ({ c with S:=(c.S+3) % 256,PC:=B,F:=f } : Cpu).F.Z,.bool ({ c with S:=(c.S+3) % 256,PC:=B,F:=f } : Cpu).F.C]) (by (simp only [results,Tryz.results128];go_simp <;> ((first | rfl | (simp [stF];done))))) rfl ?_)
  have s8:=(s7.setPC B).setS ((c.S+3) % 256)
  exact ⟨rfl,v7,(s8.fin { c with S:=(c.S+3) % 256,PC:=B,F:=f }).H.mono (by omega),(s8.fin { c with S:=(c.S+3) % 256,PC:=B,F:=f }).M⟩
set_option maxRecDepth 20000 in
set_option maxHeartbeats 1000000 in
theorem go_10 (m : Int) : GoS 10 m [66,82,75]:=by
  intro w L v c b n h hn hc
  have hc0:=hc;obtain ⟨a0,a1,x0,x1,y0,y1,s0',s1',p0,p1⟩:=hc;have pk:=peek_of h.peeks;obtain ⟨z0,z1⟩:=pk ((c.PC+1) % 65536);have hand:=i64_and255;have hand2:=i64_and65535;have s0:=SW.start w c h;obtain ⟨e0,e1,e2,e3,e4,e5,e6,e7,e8,e9,e10,u0,u1,u2,u3,u4,u5,u6,u7,u8,u9,u10,fp,fr,lp,lr⟩:=s0.facts
  obtain ⟨C,hC⟩ : ∃ C,c.to (push3 c (lo1 c b) ((c.PC+2) % 65536) true) 65534 = C:=⟨_,rfl⟩
  rw [show floC 10 m [66,82,75] c b = C from by rw [← hC];rfl,show floB 10 m [66,82,75] c b = ((push3 c (lo1 c b) ((c.PC+2) % 65536) true).rd 65534).rd (65534+1) from rfl]
  have HC:=Aside0.mk hC
  clear hC
  have HB:=hR w;go_enter Tryz.func128,Tryz.ntmps128;go_wp2_with fail;go_quiet (fail);have s0:=s0.drewN nq;clear e0 e1 e2 e3 e4 e5 e6 e7 e8 e9 e10 u0 u1 u2 u3 u4 u5 u6 u7 u8 u9 u10 fp fr lp lr;obtain ⟨e0,e1,e2,e3,e4,e5,e6,e7,e8,e9,e10,u0,u1,u2,u3,u4,u5,u6,u7,u8,u9,u10,fp,fr,lp,lr⟩:=s0.facts;go_wp2_with fail;refine Calls.mono (spec_rd _ ((c.PC+1) % 65536) b.m b rfl (by omega) s0.H (by omega)) ?_;rintro _ w1 ⟨rfl,v1,H1,M1⟩;have s1:=s0.call H1 M1;clear H1 M1;clear e0 e1 e2 e3 e4 e5 e6 e7 e8 e9 e10 u0 u1 u2 u3 u4 u5 u6 u7 u8 u9 u10 fp fr lp lr;obtain ⟨e0,e1,e2,e3,e4,e5,e6,e7,e8,e9,e10,u0,u1,u2,u3,u4,u5,u6,u7,u8,u9,u10,fp,fr,lp,lr⟩:=s1.facts
  go_wp2_with fail
  refine Calls.mono (spec_l06Push c ((c.PC+2) % 65536) 65534 true (show HoldB w1 L v1 (lo1 c b) (n+1) from s1.H) (by omega) hc0 (by omega) (by omega) (by decide) (by decide)) ?_
  rintro _ w2 ⟨rfl,v2,H2,M2⟩
  have s2:=s1.call H2 M2
  rw [HC.out]
  clear e0 e1 e2 e3 e4 e5 e6 e7 e8 e9 e10 u0 u1 u2 u3 u4 u5 u6 u7 u8 u9 u10 fp fr lp lr;obtain ⟨e0,e1,e2,e3,e4,e5,e6,e7,e8,e9,e10,u0,u1,u2,u3,u4,u5,u6,u7,u8,u9,u10,fp,fr,lp,lr⟩:=s2.facts
  go_wp2_with fail
  (refine bodyPost_ret (v:=.agg #[.int .u8 C.A,.int .u8 C.X,.int .u8 C.Y,.int .u8 C.S,.int .u16 C.PC,.bool C.F.N,.bool C.F.V,.bool C.F.D,.bool C.F.I,.bool C.F.Z,.bool C.F.C]) (by (simp only [results,Tryz.results128];go_simp <;> (rfl))) rfl ?_)
  exact ⟨rfl,v2,(s2.fin C).H.mono (by omega),(s2.fin C).M⟩
open Go.RowKit Go.Proofs.YtoncmhfmkfeolaaGreatDoorW.PrintWords
set_option maxRecDepth 20000 in
set_option maxHeartbeats 1000000 in
theorem hold_push (x : List UInt8) (hx : x = [80,72,65] ∨ x = [80,72,80]) {w : World} {L : Lay} {v : Value} {c : Cpu} {b : Bus} {n : Nat} (h : HoldB w L v b n) (hn : n ≤ 800000) (hc : c.ok) :
    Calls Tryz.prog 176 #[.pointer (some ⟨L.g,0,none⟩),.agg #[.int .u8 c.A,.int .u8 c.X,.int .u8 c.Y,.int .u8 c.S,.int .u16 c.PC,.bool c.F.N,.bool c.F.V,.bool c.F.D,.bool c.F.I,.bool c.F.Z,.bool c.F.C],.string ⟨x.toArray⟩] w fun e w' => e = .returned (.agg #[.int .u8 ((phC c).fw 1).A,.int .u8 ((phC c).fw 1).X,.int .u8 ((phC c).fw 1).Y,.int .u8 ((phC c).fw 1).S,.int .u16 ((phC c).fw 1).PC,.bool ((phC c).fw 1).F.N,.bool ((phC c).fw 1).F.V,.bool ((phC c).fw 1).F.D,.bool ((phC c).fw 1).F.I,.bool ((phC c).fw 1).F.Z,.bool ((phC c).fw 1).F.C])∧∃ v',HoldB w' L v' (b.wr (stk c.S) (if x == [80,72,65] then c.A else packP c.F true)) (n+3)∧Mv w w' L v v':=by
  have hc0:=hc
  obtain ⟨a0,a1,x0,x1,y0,y1,s0',s1',p0,p1⟩:=hc
  have hP : IntKind.u16.wrap (c.PC+1) = (c.PC+1) % 65536:=IntKind.wrap_u16 _
  have sb:=stk_b c.S
  have s0:=SW.start w ({ c with PC:=(c.PC+1) % 65536 }) h
  obtain ⟨e0,e1,e2,e3,e4,e5,e6,e7,e8,e9,e10,u0,u1,u2,u3,u4,u5,u6,u7,u8,u9,u10,fp,fr,lp,lr⟩:=s0.facts
  rcases hx with rfl | rfl
  · rw [show (if ([80,72,65] : List UInt8) == [80,72,65] then c.A else packP c.F true) = c.A from rfl]
    have HB:=hR w;go_enter Tryz.func176,Tryz.ntmps176
    go_wp2_with fail
    go_region_held3 (fun w' => w'.cell? ⟨w.heap.size,0,none⟩ = some (.int .u8 c.A)) (first | (go_keep;done) | (go_split_ands;(repeat' apply And.intro) <;> (first | (with_reducible assumption) | (go_simp;done) | (exact cell_keep blw (by assumption)) | exact blw))) (first | (go_at_call 163;((with_reducible refine (spec_l06Stack _ _).mono ?_);rintro _ _ ⟨rfl,rfl⟩)) | (go_at_call 162;((with_reducible refine Calls.mono (spec_wr _ (stk c.S) c.A b (by omega) (SW.H (SW.drew s0)) (by omega) a0 a1) ?_);rintro _ w2 ⟨rfl,v2,H2,M2⟩;have s2:=(SW.drew s0).call H2 M2;clear H2 M2;clear e0 e1 e2 e3 e4 e5 e6 e7 e8 e9 e10 u0 u1 u2 u3 u4 u5 u6 u7 u8 u9 u10 fp fr lp lr;obtain ⟨e0,e1,e2,e3,e4,e5,e6,e7,e8,e9,e10,u0,u1,u2,u3,u4,u5,u6,u7,u8,u9,u10,fp,fr,lp,lr⟩:=s2.facts)))
    go_wp2_with fail
    (refine bodyPost_ret (v:=.agg #[.int .u8 ((phC c).fw 1).A,.int .u8 ((phC c).fw 1).X,.int .u8 ((phC c).fw 1).Y,.int .u8 ((phC c).fw 1).S,.int .u16 ((phC c).fw 1).PC,.bool ((phC c).fw 1).F.N,.bool ((phC c).fw 1).F.V,.bool ((phC c).fw 1).F.D,.bool ((phC c).fw 1).F.I,.bool ((phC c).fw 1).F.Z,.bool ((phC c).fw 1).F.C]) (by (simp only [results,Tryz.results176];go_simp <;> ((first | rfl | (simp [phC,Cpu.fw];done))))) rfl ?_)
    have s3:=s2.setS ((c.S - 1) % 256)
    exact ⟨rfl,v2,(s3.fin ((phC c).fw 1)).H.mono (by omega),(s3.fin ((phC c).fw 1)).M⟩
  · rw [show (if ([80,72,80] : List UInt8) == [80,72,65] then c.A else packP c.F true) = packP c.F true from rfl]
    have hpk:=packP_b c.F true
    have HB:=hR w;go_enter Tryz.func176,Tryz.ntmps176
    go_wp2_with fail
    go_region_held3 (fun w' => w'.cell? ⟨w.heap.size,5,none⟩ = some (.bool c.F.N)∧w'.cell? ⟨w.heap.size,6,none⟩ = some (.bool c.F.V)∧w'.cell? ⟨w.heap.size,7,none⟩ = some (.bool c.F.D)∧w'.cell? ⟨w.heap.size,8,none⟩ = some (.bool c.F.I)∧w'.cell? ⟨w.heap.size,9,none⟩ = some (.bool c.F.Z)∧w'.cell? ⟨w.heap.size,10,none⟩ = some (.bool c.F.C)) (first | (go_keep;done) | (go_split_ands;(repeat' apply And.intro) <;> (first | (with_reducible assumption) | (go_simp;done) | (exact cell_keep blw (by assumption)) | exact blw))) (first | (go_at_call 163;((with_reducible refine (spec_l06Stack _ _).mono ?_);rintro _ _ ⟨rfl,rfl⟩)) | (go_at_call 164;((with_reducible refine (spec_PackP _ _ _).mono ?_);rintro _ w1 ⟨rfl,hb⟩;have s1:=(SW.drew s0).below hb;clear hb;clear e0 e1 e2 e3 e4 e5 e6 e7 e8 e9 e10 u0 u1 u2 u3 u4 u5 u6 u7 u8 u9 u10 fp fr lp lr;obtain ⟨e0,e1,e2,e3,e4,e5,e6,e7,e8,e9,e10,u0,u1,u2,u3,u4,u5,u6,u7,u8,u9,u10,fp,fr,lp,lr⟩:=s1.facts)) | (go_at_call 162;((with_reducible refine Calls.mono (spec_wr _ (stk c.S) (packP c.F true) b (by omega) (SW.H s1) (by omega) hpk.1 hpk.2) ?_);rintro _ w2 ⟨rfl,v2,H2,M2⟩;have s2:=s1.call H2 M2;clear H2 M2;clear e0 e1 e2 e3 e4 e5 e6 e7 e8 e9 e10 u0 u1 u2 u3 u4 u5 u6 u7 u8 u9 u10 fp fr lp lr;obtain ⟨e0,e1,e2,e3,e4,e5,e6,e7,e8,e9,e10,u0,u1,u2,u3,u4,u5,u6,u7,u8,u9,u10,fp,fr,lp,lr⟩:=s2.facts)))
    go_wp2_with fail
    (refine bodyPost_ret (v:=.agg #[.int .u8 ((phC c).fw 1).A,.int .u8 ((phC c).fw 1).X,.int .u8 ((phC c).fw 1).Y,.int .u8 ((phC c).fw 1).S,.int .u16 ((phC c).fw 1).PC,.bool ((phC c).fw 1).F.N,.bool ((phC c).fw 1).F.V,.bool ((phC c).fw 1).F.D,.bool ((phC c).fw 1).F.I,.bool ((phC c).fw 1).F.Z,.bool ((phC c).fw 1).F.C]) (by (simp only [results,Tryz.results176];go_simp <;> ((first | rfl | (simp [phC,Cpu.fw];done))))) rfl ?_)
    have s3:=s2.setS ((c.S - 1) % 256)
    exact ⟨rfl,v2,(s3.fin ((phC c).fw 1)).H.mono (by omega),(s3.fin ((phC c).fw 1)).M⟩
set_option maxRecDepth 20000 in
set_option maxHeartbeats 1000000 in
theorem hold_pull (x : List UInt8) (hx : x = [80,76,65] ∨ x = [80,76,80]) {w : World} {L : Lay} {v : Value} {c : Cpu} {b : Bus} {n : Nat} (h : HoldB w L v b n) (hn : n ≤ 800000) (hc : c.ok) :
    Calls Tryz.prog 176 #[.pointer (some ⟨L.g,0,none⟩),.agg #[.int .u8 c.A,.int .u8 c.X,.int .u8 c.Y,.int .u8 c.S,.int .u16 c.PC,.bool c.F.N,.bool c.F.V,.bool c.F.D,.bool c.F.I,.bool c.F.Z,.bool c.F.C],.string ⟨x.toArray⟩] w fun e w' => e = .returned (.agg #[.int .u8 ((pulC x c b).fw 1).A,.int .u8 ((pulC x c b).fw 1).X,.int .u8 ((pulC x c b).fw 1).Y,.int .u8 ((pulC x c b).fw 1).S,.int .u16 ((pulC x c b).fw 1).PC,.bool ((pulC x c b).fw 1).F.N,.bool ((pulC x c b).fw 1).F.V,.bool ((pulC x c b).fw 1).F.D,.bool ((pulC x c b).fw 1).F.I,.bool ((pulC x c b).fw 1).F.Z,.bool ((pulC x c b).fw 1).F.C])∧∃ v',HoldB w' L v' ((b.rd (stk c.S)).rd (stk (c.S+1))) (n+3)∧Mv w w' L v v':=by
  have hc0:=hc
  have pk:=peek_of h.peeks
  obtain ⟨a0,a1,x0,x1,y0,y1,s0',s1',p0,p1⟩:=hc
  have hP : IntKind.u16.wrap (c.PC+1) = (c.PC+1) % 65536:=IntKind.wrap_u16 _
  have sb:=stk_b c.S
  have sb1:=stk_b (c.S+1)
  obtain ⟨i0,i1⟩:=pk (stk (c.S+1))
  obtain ⟨d,hd⟩ : ∃ d,peek b.m (stk (c.S+1)) = d:=⟨_,rfl⟩
  have s0:=SW.start w ({ c with PC:=(c.PC+1) % 65536 }) h
  obtain ⟨e0,e1,e2,e3,e4,e5,e6,e7,e8,e9,e10,u0,u1,u2,u3,u4,u5,u6,u7,u8,u9,u10,fp,fr,lp,lr⟩:=s0.facts
  rcases hx with rfl | rfl
  · obtain ⟨f,hf⟩ : ∃ f,nz d c.F = f:=⟨_,rfl⟩
    rw [show pulC [80,76,65] c b = { c with A:=d,F:=f,S:=(c.S+1) % 256 } from by rw [← hf,← hd];rfl]
    rw [hd] at i0 i1
    have hz:=fun W => spec_NZ d c.F W i0 i1
    rw [hf] at hz
    clear hf
    have HB:=hR w;go_enter Tryz.func176,Tryz.ntmps176
    go_wp2_with (first | (go_at_call 163;((with_reducible refine (spec_l06Stack _ _).mono ?_);rintro _ _ ⟨rfl,rfl⟩)))
    refine Calls.mono (spec_rd _ (stk c.S) b.m b rfl (by omega) s0.H (by omega)) ?_;rintro _ w1 ⟨rfl,v1,H1,M1⟩;have s1:=s0.call H1 M1;clear H1 M1;clear e0 e1 e2 e3 e4 e5 e6 e7 e8 e9 e10 u0 u1 u2 u3 u4 u5 u6 u7 u8 u9 u10 fp fr lp lr;obtain ⟨e0,e1,e2,e3,e4,e5,e6,e7,e8,e9,e10,u0,u1,u2,u3,u4,u5,u6,u7,u8,u9,u10,fp,fr,lp,lr⟩:=s1.facts
    go_wp2_with (first | (go_at_call 163;((with_reducible refine (spec_l06Stack _ _).mono ?_);rintro _ _ ⟨rfl,rfl⟩)))
    refine Calls.mono (spec_rd _ (stk (c.S+1)) b.m (b.rd (stk c.S)) rfl (by omega) s1.H (by omega)) ?_;rintro _ w2 ⟨rfl,v2,H2,M2⟩;have s2:=s1.call H2 M2;clear H2 M2;clear e0 e1 e2 e3 e4 e5 e6 e7 e8 e9 e10 u0 u1 u2 u3 u4 u5 u6 u7 u8 u9 u10 fp fr lp lr;obtain ⟨e0,e1,e2,e3,e4,e5,e6,e7,e8,e9,e10,u0,u1,u2,u3,u4,u5,u6,u7,u8,u9,u10,fp,fr,lp,lr⟩:=s2.facts
    have s3:=(s2.setS ((c.S+1) % 256)).setA d
    go_wp2_with fail
    refine Calls.mono (hz _) ?_;rintro _ w4 ⟨rfl,hb⟩;have s4:=s3.below hb;clear hb;clear e0 e1 e2 e3 e4 e5 e6 e7 e8 e9 e10 u0 u1 u2 u3 u4 u5 u6 u7 u8 u9 u10 fp fr lp lr;obtain ⟨e0,e1,e2,e3,e4,e5,e6,e7,e8,e9,e10,u0,u1,u2,u3,u4,u5,u6,u7,u8,u9,u10,fp,fr,lp,lr⟩:=s4.facts
    have s5:=s4.setF f
    go_wp2_with fail
    (refine bodyPost_ret (v:=.agg #[.int .u8 (({ c with A:=d,F:=f,S:=(c.S+1) % 256 } : Cpu).fw 1).A,.int .u8 (({ c with A:=d,F:=f,S:=(c.S+1) % 256 } : Cpu).fw 1).X,.int .u8 (({ c with A:=d,F:=f,S:=(c.S+1) % 256 } : Cpu).fw 1).Y,.int .u8 (({ c with A:=d,F:=f,S:=(c.S+1) % 256 } : Cpu).fw 1).S,.int .u16 (({ c with A:=d,F:=f,S:=(c.S+1) % 256 } : Cpu).fw 1).PC,.bool (({ c with A:=d,F:=f,S:=(c.S+1) % 256 } : Cpu).fw 1).F.N,.bool (({ c with A:=d,F:=f,S:=(c.S+1) % 256 } : Cpu).fw 1).F.V,.bool (({ c with A:=d,F:=f,S:=(c.S+1) % 256 } : Cpu).fw 1).F.D,.bool (({ c with A:=d,F:=f,S:=(c.S+1) % 256 } : Cpu).fw 1).F.I,.bool (({ c with A:=d,F:=f,S:=(c.S+1) % 256 } : Cpu).fw 1).F.Z,.bool (({ c with A:=d,F:=f,S:=(c.S+1) % 256 } : Cpu).fw 1).F.C]) (by (simp only [results,Tryz.results176];go_simp <;> ((first | rfl | (simp [Cpu.fw];done))))) rfl ?_)
    exact ⟨rfl,v2,(s5.fin (({ c with A:=d,F:=f,S:=(c.S+1) % 256 } : Cpu).fw 1)).H.mono (by omega),(s5.fin (({ c with A:=d,F:=f,S:=(c.S+1) % 256 } : Cpu).fw 1)).M⟩
  · obtain ⟨f,hf⟩ : ∃ f,unpackP d = f:=⟨_,rfl⟩
    rw [show pulC [80,76,80] c b = { c with F:=f,S:=(c.S+1) % 256 } from by rw [← hf,← hd];rfl]
    rw [hd] at i0 i1
    have hz:=fun W => spec_UnpackP d W i0 i1
    rw [hf] at hz
    clear hf
    have HB:=hR w;go_enter Tryz.func176,Tryz.ntmps176
    go_wp2_with (first | (go_at_call 163;((with_reducible refine (spec_l06Stack _ _).mono ?_);rintro _ _ ⟨rfl,rfl⟩)))
    refine Calls.mono (spec_rd _ (stk c.S) b.m b rfl (by omega) s0.H (by omega)) ?_;rintro _ w1 ⟨rfl,v1,H1,M1⟩;have s1:=s0.call H1 M1;clear H1 M1;clear e0 e1 e2 e3 e4 e5 e6 e7 e8 e9 e10 u0 u1 u2 u3 u4 u5 u6 u7 u8 u9 u10 fp fr lp lr;obtain ⟨e0,e1,e2,e3,e4,e5,e6,e7,e8,e9,e10,u0,u1,u2,u3,u4,u5,u6,u7,u8,u9,u10,fp,fr,lp,lr⟩:=s1.facts
    go_wp2_with (first | (go_at_call 163;((with_reducible refine (spec_l06Stack _ _).mono ?_);rintro _ _ ⟨rfl,rfl⟩)))
    refine Calls.mono (spec_rd _ (stk (c.S+1)) b.m (b.rd (stk c.S)) rfl (by omega) s1.H (by omega)) ?_;rintro _ w2 ⟨rfl,v2,H2,M2⟩;have s2:=s1.call H2 M2;clear H2 M2;clear e0 e1 e2 e3 e4 e5 e6 e7 e8 e9 e10 u0 u1 u2 u3 u4 u5 u6 u7 u8 u9 u10 fp fr lp lr;obtain ⟨e0,e1,e2,e3,e4,e5,e6,e7,e8,e9,e10,u0,u1,u2,u3,u4,u5,u6,u7,u8,u9,u10,fp,fr,lp,lr⟩:=s2.facts
    have s3:=s2.setS ((c.S+1) % 256)
    go_wp2_with fail
    refine Calls.mono (hz _) ?_;rintro _ w4 ⟨rfl,hb⟩;have s4:=s3.below hb;clear hb;clear e0 e1 e2 e3 e4 e5 e6 e7 e8 e9 e10 u0 u1 u2 u3 u4 u5 u6 u7 u8 u9 u10 fp fr lp lr;obtain ⟨e0,e1,e2,e3,e4,e5,e6,e7,e8,e9,e10,u0,u1,u2,u3,u4,u5,u6,u7,u8,u9,u10,fp,fr,lp,lr⟩:=s4.facts
    have s5:=s4.setF f
    go_wp2_with fail
    (refine bodyPost_ret (v:=.agg #[.int .u8 (({ c with F:=f,S:=(c.S+1) % 256 } : Cpu).fw 1).A,.int .u8 (({ c with F:=f,S:=(c.S+1) % 256 } : Cpu).fw 1).X,.int .u8 (({ c with F:=f,S:=(c.S+1) % 256 } : Cpu).fw 1).Y,.int .u8 (({ c with F:=f,S:=(c.S+1) % 256 } : Cpu).fw 1).S,.int .u16 (({ c with F:=f,S:=(c.S+1) % 256 } : Cpu).fw 1).PC,.bool (({ c with F:=f,S:=(c.S+1) % 256 } : Cpu).fw 1).F.N,.bool (({ c with F:=f,S:=(c.S+1) % 256 } : Cpu).fw 1).F.V,.bool (({ c with F:=f,S:=(c.S+1) % 256 } : Cpu).fw 1).F.D,.bool (({ c with F:=f,S:=(c.S+1) % 256 } : Cpu).fw 1).F.I,.bool (({ c with F:=f,S:=(c.S+1) % 256 } : Cpu).fw 1).F.Z,.bool (({ c with F:=f,S:=(c.S+1) % 256 } : Cpu).fw 1).F.C]) (by (simp only [results,Tryz.results176];go_simp <;> ((first | rfl | (simp [Cpu.fw];done))))) rfl ?_)
    exact ⟨rfl,v2,(s5.fin (({ c with F:=f,S:=(c.S+1) % 256 } : Cpu).fw 1)).H.mono (by omega),(s5.fin (({ c with F:=f,S:=(c.S+1) % 256 } : Cpu).fw 1)).M⟩
end Go.Proofs.YtoncmhfmkfeolaaGreatDoor
