/- The laws' own played, on two runs that are the same. -/
import Derived.Test.YtoncmhfmkfeolaaGreatDoorGO
import Derived.Test.YtoncmhfmkfeolaaGreatDoorGP
import Derived.Test.YtoncmhfmkfeolaaGreatDoorWLast
import Derived.BigQuiet
import Derived.Test.YtoncmhfmkfeolaaGreatDoorGM
import Derived.Test.YtoncmhfmkfeolaaGreatDoorGD
import Derived.Test.YtoncmhfmkfeolaaGreatDoorGA
import Derived.Test.YtoncmhfmkfeolaaGreatDoorGE
import Derived.Test.YtoncmhfmkfeolaaGreatDoorGN
set_option maxRecDepth 100000
set_option maxHeartbeats 8000000
set_option linter.unusedVariables false
set_option linter.unusedSimpArgs false
namespace Go.Proofs.YtoncmhfmkfeolaaGreatDoor
open Go.RowKit Go.Proofs.YtoncmhfmkfeolaaGreatDoorW.PrintWords
theorem laws_played (Q:Rs) (x1 x3 x5 x7 y1 y3 y5 y7:Option Addr) (x2 x4 x6 x8 y2 y4 y6 y8:Nat) (w:World) (h1:Q.t.length≤9223372036854775807) (h2:Q.st.length≤9223372036854775807) (h3:Q.cs.length≤9223372036854775807) :
  Calls Tryz.prog 29 #[.agg #[.int .u8 Q.c.A,.int .u8 Q.c.X,.int .u8 Q.c.Y,.int .u8 Q.c.S,.int .u16 Q.c.PC,.bool Q.c.F.N,.bool Q.c.F.V,.bool Q.c.F.D,.bool Q.c.F.I,.bool Q.c.F.Z,.bool Q.c.F.C,.slice x1 Q.m.length x2,.slice x3 Q.t.length x4,.slice x5 Q.st.length x6,.slice x7 Q.cs.length x8,.bool Q.jam],.agg #[.int .u8 Q.c.A,.int .u8 Q.c.X,.int .u8 Q.c.Y,.int .u8 Q.c.S,.int .u16 Q.c.PC,.bool Q.c.F.N,.bool Q.c.F.V,.bool Q.c.F.D,.bool Q.c.F.I,.bool Q.c.F.Z,.bool Q.c.F.C,.slice y1 Q.m.length y2,.slice y3 Q.t.length y4,.slice y5 Q.st.length y6,.slice y7 Q.cs.length y8,.bool Q.jam]] w fun e w'=>e=.returned (.bool true)∧Below w.heap.size w w':=by
 have HB:=hR w;go_enter Tryz.func29,Tryz.ntmps29
 go_wp2_with fail
 go_ret
 exact ⟨rfl,blw⟩
open Go.RowKit Go.Proofs.YtoncmhfmkfeolaaGreatDoorW.PrintWords
theorem pldS {W:World} {k7 ka kr:Nat} {x:Cpu} {A1:Option Addr} {c1:Nat} {L:List Int} {Q:Rs} {A3 B3 C3 D3:Option Addr} {c3 d3 f3 g3:Nat} (h7:Blk W k7 #[.int .u8 Q.c.A,.int .u8 Q.c.X,.int .u8 Q.c.Y,.int .u8 Q.c.S,.int .u16 Q.c.PC,.bool Q.c.F.N,.bool Q.c.F.V,.bool Q.c.F.D,.bool Q.c.F.I,.bool Q.c.F.Z,.bool Q.c.F.C,.slice A3 Q.m.length c3,.slice B3 Q.t.length d3,.slice C3 Q.st.length f3,.slice D3 Q.cs.length g3,.bool Q.jam] 38) (KA:Blk W ka #[.int .u8 x.A,.int .u8 x.X,.int .u8 x.Y,.int .u8 x.S,.int .u16 x.PC,.bool x.F.N,.bool x.F.V,.bool x.F.D,.bool x.F.I,.bool x.F.Z,.bool x.F.C] 28) (KB:Blk W kr #[.slice A1 L.length c1] 30):W.cell? ⟨k7,0,none⟩=some (.int .u8 Q.c.A)∧W.cell? ⟨k7,1,none⟩=some (.int .u8 Q.c.X)∧W.cell? ⟨k7,2,none⟩=some (.int .u8 Q.c.Y)∧W.cell? ⟨k7,3,none⟩=some (.int .u8 Q.c.S)∧W.cell? ⟨k7,4,none⟩=some (.int .u16 Q.c.PC)∧W.cell? ⟨k7,5,none⟩=some (.bool Q.c.F.N)∧W.cell? ⟨k7,6,none⟩=some (.bool Q.c.F.V)∧W.cell? ⟨k7,7,none⟩=some (.bool Q.c.F.D)∧W.cell? ⟨k7,8,none⟩=some (.bool Q.c.F.I)∧W.cell? ⟨k7,9,none⟩=some (.bool Q.c.F.Z)∧W.cell? ⟨k7,10,none⟩=some (.bool Q.c.F.C)∧W.cell? ⟨k7,11,none⟩=some (.slice A3 Q.m.length c3)∧W.cell? ⟨k7,12,none⟩=some (.slice B3 Q.t.length d3)∧W.cell? ⟨k7,13,none⟩=some (.slice C3 Q.st.length f3)∧W.cell? ⟨k7,14,none⟩=some (.slice D3 Q.cs.length g3)∧W.cell? ⟨k7,15,none⟩=some (.bool Q.jam)∧W.cell? ⟨ka,0,none⟩=some (.int .u8 x.A)∧W.cell? ⟨ka,1,none⟩=some (.int .u8 x.X)∧W.cell? ⟨ka,2,none⟩=some (.int .u8 x.Y)∧W.cell? ⟨ka,3,none⟩=some (.int .u8 x.S)∧W.cell? ⟨ka,4,none⟩=some (.int .u16 x.PC)∧W.cell? ⟨ka,5,none⟩=some (.bool x.F.N)∧W.cell? ⟨ka,6,none⟩=some (.bool x.F.V)∧W.cell? ⟨ka,7,none⟩=some (.bool x.F.D)∧W.cell? ⟨ka,8,none⟩=some (.bool x.F.I)∧W.cell? ⟨ka,9,none⟩=some (.bool x.F.Z)∧W.cell? ⟨ka,10,none⟩=some (.bool x.F.C)∧W.cell? ⟨kr,0,none⟩=some (.slice A1 L.length c1):=by
 obtain ⟨q0,q1,q2,q3,q4,q5,q6,q7,q8,q9,q10,q11,q12,q13,q14,q15⟩:=cells16 h7
 obtain ⟨p0,p1,p2,p3,p4,p5,p6,p7,p8,p9,p10⟩:=KA.cpu
 exact ⟨q0,q1,q2,q3,q4,q5,q6,q7,q8,q9,q10,q11,q12,q13,q14,q15,p0,p1,p2,p3,p4,p5,p6,p7,p8,p9,p10,KB.one⟩
open Go.RowKit Go.Proofs.YtoncmhfmkfeolaaGreatDoorW.PrintWords
theorem infoBool:(Tryz.prog.info? 4).map (fun i=>(i.zero,i.size,i.bytes))=some (some (.bool false),1,1):=by kernel_rfl
theorem Below.of_grown0 {w w':World} (h:w.grownBy w' none):Below w.heap.size w w':=Below.grown (Below.refl _ _) h (Nat.le_refl _) (fun k e=>by cases e)
def OwnT (w:World) (base:Nat) (v:Value) (l:List Bool):Prop:=Kd.R Kd.bool 4 w base (fun _=>True) v l
theorem OwnT.move {w w':World} {base:Nat} {v:Value} {l:List Bool} (h:OwnT w base v l) (hm:∀ k,v.ownBlock=some k→w'.heap[k]?=w.heap[k]?):OwnT w' base v l:=R_only (d:=Kd.bool) (w:=w) (fun h=>h) h hm
theorem OwnT.below {w w':World} {base:Nat} {v:Value} {l:List Bool} (h:OwnT w base v l) (hb:Below w.heap.size w w'):OwnT w' base v l:=Kd.R_below h hb
theorem impl_isSize (n:Int) (w:World):Calls Tryz.prog 79 #[.int .i64 n] w fun e w'=>e=.returned (.bool (ramSize n))∧w=w':=by
 have HB:=hR w;go_enter Tryz.func79,Tryz.ntmps79
 go_wp2_with (first|(go_at_call 102;((with_reducible refine (impl_isRamSize _ _).mono ?_);rintro _ _ ⟨rfl,rfl⟩)))
 go_ret
 exact ⟨rfl,rfl⟩
theorem impl_cell (x:Cyc) (n:Int) (w:World) (hx:0≤x.a∧x.a<65536) (h0:256≤n) (h1:n≤4096) :
  Calls Tryz.prog 81 #[.agg #[.int .u16 x.a,.int .u8 x.d,.bool x.w],.int .i64 n] w fun e w'=>e=.returned (.int .i64 (x.a % n))∧Below w.heap.size w w':=by
 have HB:=hR w;go_enter Tryz.func81,Tryz.ntmps81
 go_wp2_with fail
 go_ret
 exact ⟨rfl,blw⟩
open Go.RowKit Go.Proofs.YtoncmhfmkfeolaaGreatDoorW.PrintWords
inductive Ops (α:Type) where
 | ret (x:α)
 | rd (a:Int) (k:Int→Ops α)
 | wr (a d:Int) (k:Ops α)
def Ops.run {α:Type}:Ops α→Bus→α × Bus
 | .ret x,b=>(x,b)
 | .rd a k,b=>(k (peek b.m a)).run (b.rd a)
 | .wr a d k,b=>k.run (b.wr a d)
def Ops.map {α β:Type} (f:α→β):Ops α→Ops β
 | .ret x=>.ret (f x)
 | .rd a k=>.rd a (fun v=>(k v).map f)
 | .wr a d k=>.wr a d (k.map f)
theorem Ops.run_map {α β:Type} (f:α→β) (o:Ops α):∀ b,(o.map f).run b=(f (o.run b).1,(o.run b).2):=by
 induction o with
 | ret x=>intro b;rfl
 | rd a k ih=>intro b;exact ih _ _
 | wr a d k ih=>intro b;exact ih _
def fixO (k base e:Int) (K:Ops Cpu):Ops Cpu:=if k == 2 && pg base e == e then K else .rd (pg base e) fun _=>K
def plcEO (k base i:Int) (K:Int→Ops Cpu):Ops Cpu:=fixO k base ((base+i) % 65536) (K ((base+i) % 65536))
def plcO (c:Cpu) (m k:Int) (K:Int→Ops Cpu):Ops Cpu :=
 .rd ((c.PC+1) % 65536) fun z =>
 if m == 3 then K z
 else if m == 4 then .rd z fun _=>K ((z+c.X) % 256)
 else if m == 5 then .rd z fun _=>K ((z+c.Y) % 256)
 else if m == 10 then .rd z fun _=>.rd ((z+c.X) % 256) fun lo=>.rd ((z+c.X+1) % 256) fun hi=>K (word2 lo hi)
 else if m == 11 then .rd z fun lo=>.rd ((z+1) % 256) fun hi=>plcEO k (word2 lo hi) c.Y K
 else if m == 6 then .rd ((c.PC+2) % 65536) fun hi=>K (word2 z hi)
 else if m == 7 then .rd ((c.PC+2) % 65536) fun hi=>plcEO k (word2 z hi) c.X K
 else .rd ((c.PC+2) % 65536) fun hi=>plcEO k (word2 z hi) c.Y K
theorem fixO_run (k base e:Int) (K:Ops Cpu) (b:Bus):(fixO k base e K).run b=K.run (fixB b k base e):=by
 unfold fixO fixB
 split <;> rfl
theorem plcO_run (c:Cpu) (m k:Int) (K:Int→Ops Cpu) (b:Bus):(plcO c m k K).run b=(K (plc c b m k).1).run (plc c b m k).2:=by
 unfold plcO plc plcZ plcEO plcE
 simp only[Ops.run]
 repeat' split
 all_goals first|rfl|(simp only[Ops.run,fixO_run];done)|(simp only[Ops.run,fixO_run];rfl)
def opdO (k m:Int) (x:List UInt8) (c:Cpu):Ops Cpu :=
 if m == 2 then .rd ((c.PC+1) % 65536) fun v=>.ret (doT x c v).1
 else if k == 2 then plcO c m k fun e=>.rd e fun v=>.ret (doT x c v).1
 else if k == 3 then plcO c m k fun e=>.wr e (regT x c) (.ret c)
 else plcO c m k fun e=>.rd e fun v=>.wr e v (.wr e (doT x c v).2 (.ret (doT x c v).1))
theorem opdO_run (k m:Int) (x:List UInt8) (c:Cpu) (b:Bus):(opdO k m x c).run b=(opdC k m x c b,opdB k m x c b):=by
 have hm:=plc_m c b m k
 unfold opdO opdC opdB
 repeat' split
 ·rfl
 ·rw[plcO_run]
  simp only[Ops.run,hm]
 ·rw[plcO_run]
  rfl
 ·rw[plcO_run]
  simp only[Ops.run,hm]
def braO (c:Cpu) (x:List UInt8):Ops Cpu :=
 .rd ((c.PC+1) % 65536) fun d =>
 if holds c.F x then .rd ((c.PC+2) % 65536) fun _ =>
  if pg ((c.PC+2) % 65536) (tgtA c.PC d) == tgtA c.PC d then .ret { c with PC:=tgtA c.PC d } else .rd (pg ((c.PC+2) % 65536) (tgtA c.PC d)) fun _=>.ret { c with PC:=tgtA c.PC d }
 else .ret { c with PC:=(c.PC+2) % 65536 }
theorem braO_run (c:Cpu) (x:List UInt8) (b:Bus):(braO c x).run b=(braC c b x,braB c b x):=by
 unfold braO braC braB
 simp only[Ops.run]
 repeat' split
 all_goals rfl
def jmpO (c:Cpu) (m:Int):Ops Cpu :=
 .rd ((c.PC+1) % 65536) fun lo=>.rd ((c.PC+2) % 65536) fun hi =>
 if m == 9 then .rd (word2 lo hi) fun l2=>.rd (pg (word2 lo hi) (word2 lo hi+1)) fun h2=>.ret { c with PC:=word2 l2 h2 } else .ret { c with PC:=word2 lo hi }
theorem jmpO_run (c:Cpu) (m:Int) (b:Bus):(jmpO c m).run b=(jmpC c b m,jmpB c b m):=by
 unfold jmpO jmpC jmpB lo1
 simp only[Ops.run,Bus.rd]
 repeat' split
 all_goals rfl
def jsrO (c:Cpu):Ops Cpu :=
 .rd ((c.PC+1) % 65536) fun lo=>.rd (stk c.S) fun _=>.wr (stk c.S) ((c.PC+2) % 65536 / 256) (.wr (stk (c.S - 1)) ((c.PC+2) % 65536 % 256) (.rd ((c.PC+2) % 65536) fun hi=>.ret { c with S:=(c.S - 2) % 256,PC:=word2 lo hi }))
theorem jsrO_run (c:Cpu) (b:Bus):(jsrO c).run b=(jsrC c b,jsrB c b):=rfl
def rtsO (c:Cpu):Ops Cpu :=
 .rd ((c.PC+1) % 65536) fun _=>.rd (stk c.S) fun _=>.rd (stk (c.S+1)) fun lo=>.rd (stk (c.S+2)) fun hi=>.rd (word2 lo hi) fun _=>.ret { c with S:=(c.S+2) % 256,PC:=(word2 lo hi+1) % 65536 }
theorem rtsO_run (c:Cpu) (b:Bus):(rtsO c).run b=(rtsC c b,rtsB c b):=rfl
def rtiO (c:Cpu):Ops Cpu :=
 .rd ((c.PC+1) % 65536) fun _=>.rd (stk c.S) fun _=>.rd (stk (c.S+1)) fun f=>.rd (stk (c.S+2)) fun lo=>.rd (stk (c.S+3)) fun hi=>.ret { c with S:=(c.S+3) % 256,PC:=word2 lo hi,F:=unpackP f }
theorem rtiO_run (c:Cpu) (b:Bus):(rtiO c).run b=(rtiC c b,rtiB c b):=rfl
def push3O (c:Cpu) (pc:Int) (k:Bool) (K:Ops Cpu):Ops Cpu:=.wr (stk c.S) (pc / 256) (.wr (stk (c.S - 1)) (pc % 256) (.wr (stk (c.S - 2)) (packP c.F k) K))
def toO (c:Cpu) (a:Int):Ops Cpu:=.rd a fun lo=>.rd (a+1) fun hi=>.ret { c with S:=(c.S - 3) % 256,PC:=word2 lo hi,F:={ c.F with I:=true } }
def brkO (c:Cpu):Ops Cpu:=.rd ((c.PC+1) % 65536) fun _=>push3O c ((c.PC+2) % 65536) true (toO c 65534)
theorem brkO_run (c:Cpu) (b:Bus):(brkO c).run b=(brkC c b,brkB c b):=rfl
def floO (k m:Int) (x:List UInt8) (c:Cpu):Ops Cpu:=if k == 5 then braO c x else if k == 6 then jmpO c m else if k == 7 then jsrO c else if k == 8 then rtsO c else if k == 9 then rtiO c else if k == 10 then brkO c else .ret c
theorem floO_run (k m:Int) (x:List UInt8) (c:Cpu) (b:Bus):(floO k m x c).run b=(floC k m x c b,floB k m x c b):=by
 unfold floO floC floB
 repeat' split
 ·exact braO_run c x b
 ·exact jmpO_run c m b
 ·exact jsrO_run c b
 ·exact rtsO_run c b
 ·exact rtiO_run c b
 ·exact brkO_run c b
 ·rfl
def stpO (k m sz:Int) (x:List UInt8) (c:Cpu):Ops Cpu :=
 if k == 1 then .rd ((c.PC+1) % 65536) fun _=>.ret ((impT x c).fw sz)
 else if k == 2 || k == 3 || k == 4 then (opdO k m x c).map (fun d=>d.fw sz)
 else if k == 11 then .rd ((c.PC+1) % 65536) fun _=>.wr (stk c.S) (if x == [80,72,65] then c.A else packP c.F true) (.ret ((phC c).fw sz))
 else if k == 12 then .rd ((c.PC+1) % 65536) fun _=>.rd (stk c.S) fun _=>.rd (stk (c.S+1)) fun v=>.ret ((if x == [80,76,65] then { ldA c v with S:=(c.S+1) % 256 } else { c with S:=(c.S+1) % 256,F:=unpackP v }:Cpu).fw sz)
 else floO k m x c
theorem stpO_run (k m sz:Int) (x:List UInt8) (c:Cpu) (b:Bus):(stpO k m sz x c).run b=(stpC k m sz x c b,stpB k m x c b):=by
 unfold stpO stpC stpB
 by_cases h1:(k == 1)=true
 ·simp only[if_pos h1]
  rfl
 by_cases h2:(k == 2 || k == 3 || k == 4)=true
 ·simp only[if_neg h1,if_pos h2]
  rw[Ops.run_map,opdO_run]
 by_cases h3:(k == 11)=true
 ·simp only[if_neg h1,if_neg h2,if_pos h3]
  rfl
 by_cases h4:(k == 12)=true
 ·simp only[if_neg h1,if_neg h2,if_neg h3,if_pos h4]
  rfl
 ·simp only[if_neg h1,if_neg h2,if_neg h3,if_neg h4]
  exact floO_run k m x c b
def stepO (c:Cpu):Ops Cpu:=.rd c.PC fun code=>stpO (kindI code) (mdI code) (sizeM (mdI code)) (nmL code) c
theorem stepO_run (c:Cpu) (b:Bus):(stepO c).run b=(stepC c b,stepB c b):=stpO_run _ _ _ _ c (b.rd c.PC)
def serveO (c:Cpu) (nmi:Bool):Ops Cpu:=.rd c.PC fun _=>.rd c.PC fun _=>push3O c c.PC false (toO c (vec nmi))
theorem serveO_run (c:Cpu) (nmi:Bool) (b:Bus):(serveO c nmi).run b=(serveC c b nmi,serveB c b nmi):=rfl
def need (n:Int) (i:Int):List Cyc→Prop
 | []=>False
 | x::t=>if x.a % n=i then x.w=false else need n i t
def AgreeOn (n:Int) (s:List Cyc) (m m':List Int):Prop:=∀ i,0≤i→i<n→need n i s→rd m' i=rd m i
theorem Ops.det {α:Type} (o:Ops α):∀ (m m':List Int) (t rest:List Cyc) (_:ramSize m.length=true) (_:m'.length=m.length),
  ∃ s m1,o.run ⟨m,t⟩=((o.run ⟨m,t⟩).1,⟨m1,t++s⟩)∧m1.length=m.length∧(AgreeOn m.length (s++rest) m m'→∃ m1',o.run ⟨m',t⟩=((o.run ⟨m,t⟩).1,⟨m1',t++s⟩)∧m1'.length=m.length∧AgreeOn m.length rest m1 m1'):=by
 induction o with
 | ret x=>intro m m' t rest hs hl;exact ⟨[],m,by simp[Ops.run],rfl,fun h=>⟨m',by simp[Ops.run],hl,h⟩⟩
 | rd a k ih =>
  intro m m' t rest hs hl
  have hp:=ramSize_le hs
  obtain ⟨s,m1,h1,h2,h3⟩:=ih (peek m a) m m' (t++[⟨a,peek m a,false⟩]) rest hs hl
  refine ⟨⟨a,peek m a,false⟩::s,m1,?_,h2,fun hag=>?_⟩
  ·show (k (peek m a)).run ⟨m,t++[⟨a,peek m a,false⟩]⟩=_
   rw[h1]
   simp[Ops.run,Bus.rd]
  ·have q0:=Int.emod_nonneg a (show (m.length:Int) ≠ 0 by omega)
   have q1:=Int.emod_lt_of_pos a (show (0:Int)<m.length by omega)
   have e:peek m' a=peek m a:=by
    unfold peek
    rw[hl,if_pos hs,if_pos hs]
    exact hag _ q0 q1 (by simp[need])
   have hag2:AgreeOn m.length (s++rest) m m':=by
    intro i i0 i1 hn
    by_cases hi:a % m.length=i
    ·subst hi
     exact hag _ q0 q1 (by simp[need])
    ·exact hag i i0 i1 (by simp only[List.cons_append,need];rw[if_neg hi];exact hn)
   obtain ⟨m1',g1,g2,g3⟩:=h3 hag2
   refine ⟨m1',?_,g2,g3⟩
   show (k (peek m' a)).run ⟨m',t++[⟨a,peek m' a,false⟩]⟩=((k (peek m a)).run ⟨m,t++[⟨a,peek m a,false⟩]⟩ |>.1,_)
   rw[e,g1]
   simp
 | wr a d k ih =>
  intro m m' t rest hs hl
  have hp:=ramSize_le hs
  have q0:=Int.emod_nonneg a (show (m.length:Int) ≠ 0 by omega)
  have q1:=Int.emod_lt_of_pos a (show (0:Int)<m.length by omega)
  obtain ⟨s,m1,h1,h2,h3⟩:=ih (m.set (a % m.length).toNat d) (m'.set (a % m'.length).toNat d) (t++[⟨a,d,true⟩]) rest (by rw[List.length_set];exact hs) (by simp[hl])
  rw[List.length_set] at h2 h3
  refine ⟨⟨a,d,true⟩::s,m1,?_,h2,fun hag=>?_⟩
  ·show k.run ⟨m.set (a % m.length).toNat d,t++[⟨a,d,true⟩]⟩=(_,_)
   rw[h1]
   simp[Ops.run,Bus.wr]
  ·have hag2:AgreeOn m.length (s++rest) (m.set (a % m.length).toNat d) (m'.set (a % m'.length).toNat d):=by
    intro i i0 i1 hn
    rw[hl]
    by_cases hi:a % m.length=i
    ·subst hi
     rw[rd_set_eq _ _ _ q0 q1,rd_set_eq _ _ _ q0 (by rw[hl];exact q1)]
    ·rw[rd_set_ne _ _ _ _ q0 i0 hi,rd_set_ne _ _ _ _ q0 i0 hi]
     exact hag i i0 i1 (by simp only[List.cons_append,need];rw[if_neg hi];exact hn)
   obtain ⟨m1',g1,g2,g3⟩:=h3 hag2
   refine ⟨m1',?_,g2,g3⟩
   show k.run ⟨m'.set (a % m'.length).toNat d,t++[⟨a,d,true⟩]⟩=((k.run ⟨m.set (a % m.length).toNat d,t++[⟨a,d,true⟩]⟩).1,_)
   rw[g1]
   simp
open Go.RowKit Go.Proofs.YtoncmhfmkfeolaaGreatDoorW.PrintWords
def put1 (m:List Int) (x:Cyc):List Int:=if x.w then m.set (x.a % m.length).toNat x.d else m
def putL (m:List Int) (t:List Cyc):List Int:=t.foldl put1 m
def Fair:List Int→List Cyc→Prop
 | _,[]=>True
 | m,x::t=>(x.w=false→x.d=rd m (x.a % m.length))∧Fair (put1 m x) t
theorem put1_len (m:List Int) (x:Cyc):(put1 m x).length=m.length:=by unfold put1;split <;> simp
theorem putL_len (t:List Cyc):∀ m:List Int,(putL m t).length=m.length:=by
 induction t with
 | nil=>intro m;rfl
 | cons x t ih=>intro m;exact (ih _).trans (put1_len m x)
theorem putL_app (m:List Int) (s t:List Cyc):putL m (s++t)=putL (putL m s) t:=List.foldl_append
theorem Fair.app {t:List Cyc}:∀ {s:List Cyc} {m:List Int},Fair m s→Fair (putL m s) t→Fair m (s++t):=by
 intro s
 induction s with
 | nil=>intro m _ h;exact h
 | cons x s ih=>intro m h1 h2;exact ⟨h1.1,ih h1.2 h2⟩
theorem Ops.fair {α:Type} (o:Ops α):∀ (m:List Int) (t:List Cyc) (_:ramSize m.length=true),∃ s,(o.run ⟨m,t⟩).2=⟨putL m s,t++s⟩∧Fair m s:=by
 induction o with
 | ret x=>intro m t hs;exact ⟨[],by simp[Ops.run,putL],trivial⟩
 | rd a k ih =>
  intro m t hs
  obtain ⟨s,h1,h2⟩:=ih (peek m a) m (t++[⟨a,peek m a,false⟩]) hs
  refine ⟨⟨a,peek m a,false⟩::s,?_,fun _=>by simp[peek,hs],h2⟩
  show ((k (peek m a)).run ⟨m,t++[⟨a,peek m a,false⟩]⟩).2=_
  rw[h1]
  simp[putL,put1]
 | wr a d k ih =>
  intro m t hs
  obtain ⟨s,h1,h2⟩:=ih (m.set (a % m.length).toNat d) (t++[⟨a,d,true⟩]) (by rw[List.length_set];exact hs)
  refine ⟨⟨a,d,true⟩::s,?_,fun h=>absurd h (by simp),h2⟩
  show (k.run ⟨m.set (a % m.length).toNat d,t++[⟨a,d,true⟩]⟩).2=_
  rw[h1]
  simp[putL,put1]
theorem step_fair (c:Cpu) (m:List Int) (hs:ramSize m.length=true):(step c m).m=putL m (step c m).t∧Fair m (step c m).t:=by
 unfold step
 rw[if_pos hs]
 split
 ·exact ⟨rfl,trivial⟩
 ·obtain ⟨s,h1,h2⟩:=(stepO c).fair m [] hs
  rw[stepO_run] at h1
  have h1:stepB c ⟨m,[]⟩=⟨putL m s,[]++s⟩:=h1
  rw[h1]
  exact ⟨rfl,h2⟩
theorem serve_fair (c:Cpu) (m:List Int) (nmi:Bool) (hs:ramSize m.length=true):(serve c m nmi).m=putL m (serve c m nmi).t∧Fair m (serve c m nmi).t:=by
 unfold serve
 rw[if_pos hs]
 obtain ⟨s,h1,h2⟩:=(serveO c nmi).fair m [] hs
 rw[serveO_run] at h1
 have h1:serveB c ⟨m,[]⟩ nmi=⟨putL m s,[]++s⟩:=h1
 rw[h1]
 exact ⟨rfl,h2⟩
structure Fits (l:List Int) (r:Rs):Prop where
 m:r.m=putL l r.t
 f:Fair l r.t
theorem Fits.go {l:List Int} {r:Rs} (h:Fits l r) {s:After} (e:s.m=putL r.m s.t∧Fair r.m s.t):Fits l (r.go s) :=
 ⟨by show s.m=putL l (r.t++s.t);rw[putL_app,← h.m];exact e.1,Fair.app h.f (by rw[←h.m];exact e.2)⟩
theorem unit_fits (E:List Evt) (i:Int) {l:List Int} {r:Rs} (h:Fits l r) (hs:ramSize l.length=true):Fits l (unitN E i r):=by
 have hs2:ramSize r.m.length=true:=by rw[h.m,putL_len];exact hs
 unfold unitN
 repeat' split
 ·exact h.go (serve_fair _ _ _ hs2)
 ·exact h.go (serve_fair _ _ _ hs2)
 ·exact ⟨h.m,h.f⟩
 ·exact h.go (step_fair _ _ hs2)
theorem runN_fits (E:List Evt) (c:Cpu) (l:List Int) (hs:ramSize l.length=true) (k:Nat):Fits l (runN E (rs0 c l) k):=by
 induction k with
 | zero=>exact ⟨rfl,trivial⟩
 | succ k ih =>
  unfold runN
  split
  ·exact ih
  ·exact unit_fits E k ih hs
theorem run_fits (E:List Evt) (n:Int) (c:Cpu) (l:List Int) (hk:runOk l E n=true):Fits l (run c l E n):=by
 unfold run
 rw[if_pos hk]
 exact runN_fits E c l (runOk_said hk).1 _
theorem run_bad (E:List Evt) (n:Int) (c:Cpu) (l:List Int) (hk:runOk l E n=false):run c l E n=rs0 cpu0 []:=by
 unfold run
 rw[if_neg (by simp[hk])]
theorem take_at (cs:List Cyc) (k:Nat) (hk:k<cs.length):cs.take (k+1)=cs.take k++[cd cs k]:=by
 rw[List.take_succ_eq_append_getElem hk]
 unfold cd
 rw[List.getD_eq_getElem?_getD,List.getElem?_eq_getElem hk]
 rfl
theorem putL_take (m:List Int) (cs:List Cyc) (k:Nat) (hk:k<cs.length):putL m (cs.take (k+1))=put1 (putL m (cs.take k)) (cd cs k):=by
 rw[take_at cs k hk,putL_app]
 rfl
theorem Fair.drop {m:List Int}:∀ {s t:List Cyc},Fair m (s++t)→Fair (putL m s) t:=by
 intro s
 induction s generalizing m with
 | nil=>intro t h;exact h
 | cons x s ih=>intro t h;exact ih h.2
theorem Fair.at {m:List Int} {cs:List Cyc} (h:Fair m cs) (k:Nat) (hk:k<cs.length) (hw:(cd cs k).w=false):(cd cs k).d=rd (putL m (cs.take k)) ((cd cs k).a % m.length):=by
 have e:cs=cs.take k++cd cs k::cs.drop (k+1):=by
  have h1:=List.take_append_drop (k+1) cs
  rw[take_at cs k hk,List.append_assoc] at h1
  exact h1.symm
 have h2:Fair m (cs.take k++cd cs k::cs.drop (k+1)):=by rw[←e];exact h
 have h3:=h2.drop.1 hw
 rw[putL_len] at h3
 exact h3
theorem rb_set_eq (l:List Bool) (i:Int) (x:Bool) (h0:0≤i) (h1:i<l.length):(l.set i.toNat x).getD i.toNat false=x:=by
 rw[List.getD_eq_getElem?_getD,List.getElem?_set,if_pos rfl,if_pos (by omega)]
 rfl
theorem rb_set_ne (l:List Bool) (i j:Int) (x:Bool) (h0:0≤i) (h1:0≤j) (h:i ≠ j):(l.set i.toNat x).getD j.toNat false=l.getD j.toNat false:=by
 rw[List.getD_eq_getElem?_getD,List.getElem?_set,if_neg (by omega),← List.getD_eq_getElem?_getD]
theorem put1_eq {m:List Int} {x:Cyc} (hx:x.w=false→x.d=rd m (x.a % m.length)) (hs:0<m.length):rd (put1 m x) (x.a % m.length)=x.d:=by
 have q0:=Int.emod_nonneg x.a (show (m.length:Int) ≠ 0 by omega)
 have q1:=Int.emod_lt_of_pos x.a (show (0:Int)<m.length by omega)
 unfold put1
 split
 ·exact rd_set_eq _ _ _ q0 q1
 ·rename_i h
  exact (hx (by simpa using h)).symm
theorem put1_ne {m:List Int} {x:Cyc} (i:Int) (h0:0≤i) (hs:0<m.length) (h:x.a % m.length ≠ i):rd (put1 m x) i=rd m i:=by
 have q0:=Int.emod_nonneg x.a (show (m.length:Int) ≠ 0 by omega)
 unfold put1
 split
 ·exact rd_set_ne _ _ _ _ q0 h0 h
 ·rfl
end Go.Proofs.YtoncmhfmkfeolaaGreatDoor
