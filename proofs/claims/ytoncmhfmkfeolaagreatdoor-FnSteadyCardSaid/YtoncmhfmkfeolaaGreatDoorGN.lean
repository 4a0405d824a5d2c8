/- Plain laws of a step: what its cycles write is the memory behind it, what they read was there. -/
import Derived.Test.YtoncmhfmkfeolaaGreatDoorGI
import Derived.Test.YtoncmhfmkfeolaaGreatDoorGM
import Derived.Test.YtoncmhfmkfeolaaGreatDoorGD
set_option maxRecDepth 100000
set_option maxHeartbeats 8000000
set_option linter.unusedVariables false
set_option linter.unusedSimpArgs false
namespace Go.Proofs.YtoncmhfmkfeolaaGreatDoor
open Go.RowKit Go.Proofs.YtoncmhfmkfeolaaGreatDoorW.PrintWords
inductive BRun (a:Bus):Bus→Prop
 | refl:BRun a a
 | rd {b:Bus} (h:BRun a b) (x:Int):BRun a (b.rd x)
 | wr {b:Bus} (h:BRun a b) (x d:Int):BRun a (b.wr x d)
theorem BRun.trans {a b c:Bus} (h:BRun a b) (k:BRun b c):BRun a c:=by
 induction k with
 | refl=>exact h
 | rd _ x ih=>exact ih.rd x
 | wr _ x d ih=>exact ih.wr x d
theorem BRun.fix {a b:Bus} (h:BRun a b) (k base e:Int):BRun a (fixB b k base e):=by
 unfold fixB
 split
 ·exact h
 ·exact h.rd _
theorem plc_run (c:Cpu) (b:Bus) (m k:Int):BRun b (plc c b m k).2:=by
 unfold plc plcZ plcE
 repeat' split
 all_goals (repeat (first|(with_reducible exact BRun.refl)|(with_reducible assumption)|(with_reducible apply BRun.rd)|(with_reducible apply BRun.wr)|(with_reducible apply BRun.fix)))
theorem opd_run (k m:Int) (x:List UInt8) (c:Cpu) (b:Bus):BRun b (opdB k m x c b):=by
 have h:=plc_run c b m k
 unfold opdB lo1
 repeat' split
 all_goals (repeat (first|(with_reducible exact BRun.refl)|(with_reducible assumption)|(with_reducible apply BRun.rd)|(with_reducible apply BRun.wr)|(with_reducible apply BRun.fix)))
theorem stp_run (k m:Int) (x:List UInt8) (c:Cpu) (b:Bus):BRun b (stpB k m x c b):=by
 have h:=opd_run k m x c b
 unfold stpB floB braB jmpB jsrB jsrW rtsB rtiB brkB push3 phB pulB lo1
 repeat' split
 all_goals (repeat (first|(with_reducible exact BRun.refl)|(with_reducible assumption)|(with_reducible apply BRun.rd)|(with_reducible apply BRun.wr)|(with_reducible apply BRun.fix)))
theorem stepB_run (c:Cpu) (b:Bus):BRun b (stepB c b):=(BRun.refl.rd _).trans (stp_run _ _ _ _ _)
theorem serveB_run (c:Cpu) (b:Bus) (nmi:Bool):BRun b (serveB c b nmi):=by
 unfold serveB push3
 (repeat (first|(with_reducible exact BRun.refl)|(with_reducible assumption)|(with_reducible apply BRun.rd)|(with_reducible apply BRun.wr)|(with_reducible apply BRun.fix)))
theorem cd_old {t:List Cyc} (x:Cyc) {k:Nat} (h:k<t.length):cd (t++[x]) k=cd t k:=by
 unfold cd
 rw[List.getD_eq_getElem?_getD,List.getD_eq_getElem?_getD,List.getElem?_append_left h]
theorem cd_new (t:List Cyc) (x:Cyc):cd (t++[x]) t.length=x:=by
 unfold cd
 rw[List.getD_eq_getElem?_getD,List.getElem?_append_right (Nat.le_refl _),Nat.sub_self]
 rfl
theorem applyN_old (t:List Cyc) (x:Cyc) (l:List Int) (k:Nat) (h:k≤t.length):applyN (t++[x]) l k=applyN t l k:=by
 induction k with
 | zero=>rfl
 | succ k ih=>rw[applyN,applyN,ih (by omega),cd_old x (by omega)]
def seen (l:List Int) (t:List Cyc) (k:Nat):Prop:=rd (applyN t l (k+1)) ((cd t k).a % l.length)=(cd t k).d
structure Told (l:List Int) (b:Bus):Prop where
 len:b.m.length=l.length
 mem:applyN b.t l b.t.length=b.m
 see:∀ k,k<b.t.length→seen l b.t k
theorem seen_old {l:List Int} {t:List Cyc} (x:Cyc) {k:Nat} (hk:k<t.length) (h:seen l t k):seen l (t++[x]) k:=by
 unfold seen at *
 rw[applyN_old t x l (k+1) (by omega),cd_old x hk]
 exact h
theorem rd_set_eq (l:List Int) (i:Int) (x:Int) (h0:0≤i) (h1:i<l.length):rd (l.set i.toNat x) i=x:=by
 unfold rd
 rw[List.getD_eq_getElem?_getD,List.getElem?_set_self (by omega)]
 rfl
theorem rd_set_ne (l:List Int) (i j:Int) (x:Int) (h0:0≤i) (h1:0≤j) (h:i ≠ j):rd (l.set i.toNat x) j=rd l j:=by
 unfold rd
 rw[List.getD_eq_getElem?_getD,List.getElem?_set_ne (by omega),← List.getD_eq_getElem?_getD]
theorem Told.go {l:List Int} {b:Bus} (h:Told l b) (x:Cyc) (m:List Int) (hm:applyN (b.t++[x]) l (b.t.length+1)=m) (hl:m.length=l.length) (hs:rd m (x.a % l.length)=x.d):Told l ⟨m,b.t++[x]⟩:=by
 refine ⟨hl,?_,fun k hk=>?_⟩
 ·simp only[List.length_append,List.length_singleton]
  exact hm
 ·simp only[List.length_append,List.length_singleton] at hk
  rcases Nat.lt_or_ge k b.t.length with q|q
  ·exact seen_old x q (h.see k q)
  ·have e:k=b.t.length:=by omega
   subst e
   unfold seen
   simp only[]
   rw[hm,cd_new]
   exact hs
theorem Told.rd {l:List Int} (hs:ramSize l.length=true) {b:Bus} (h:Told l b) (x:Int):Told l (b.rd x):=by
 refine h.go _ b.m ?_ h.len ?_
 ·rw[applyN_off _ _ _ (by rw[cd_new]),applyN_old _ _ _ _ (Nat.le_refl _),h.mem]
 ·simp only[]
  unfold peek
  rw[h.len,if_pos hs]
theorem Told.wr {l:List Int} (hs:ramSize l.length=true) {b:Bus} (h:Told l b) (x d:Int):Told l (b.wr x d):=by
 have hp:=ramSize_le hs
 have h0:=Int.emod_nonneg x (show (l.length:Int) ≠ 0 by omega)
 have h1:=Int.emod_lt_of_pos x (show (0:Int)<l.length by omega)
 refine h.go _ _ ?_ (by rw[List.length_set];exact h.len) ?_
 ·rw[applyN_on _ _ _ (by rw[cd_new]),applyN_old _ _ _ _ (Nat.le_refl _),h.mem,cd_new,h.len]
 ·simp only[]
  rw[h.len]
  exact rd_set_eq _ _ _ h0 (by rw[h.len];exact h1)
theorem Told.run {l:List Int} (hs:ramSize l.length=true) {a b:Bus} (h:Told l a) (r:BRun a b):Told l b:=by
 induction r with
 | refl=>exact h
 | rd _ x ih=>exact Told.rd hs ih x
 | wr _ x d ih=>exact Told.wr hs ih x d
theorem Told.begin (l:List Int):Told l ⟨l,[]⟩:=⟨rfl,rfl,fun k hk=>absurd hk (by simp)⟩
theorem step_told (c:Cpu) (l:List Int) (hs:ramSize l.length=true):Told l ⟨(step c l).m,(step c l).t⟩:=by
 unfold step
 rw[if_pos hs]
 split
 ·exact Told.begin l
 ·exact Told.run hs (Told.begin l) (stepB_run c ⟨l,[]⟩)
theorem serve_told (c:Cpu) (l:List Int) (nmi:Bool) (hs:ramSize l.length=true):Told l ⟨(serve c l nmi).m,(serve c l nmi).t⟩:=by
 unfold serve
 rw[if_pos hs]
 exact Told.run hs (Told.begin l) (serveB_run c ⟨l,[]⟩ nmi)
theorem run_head {a b:Bus} (h:BRun a b) (k:Nat) (hk:k<a.t.length):cd b.t k=cd a.t k∧a.t.length≤b.t.length:=by
 induction h with
 | refl=>exact ⟨rfl,Nat.le_refl _⟩
 | rd _ x ih=>exact ⟨(cd_old _ (by omega)).trans ih.1,by simp[Bus.rd];omega⟩
 | wr _ x d ih=>exact ⟨(cd_old _ (by omega)).trans ih.1,by simp[Bus.wr];omega⟩
theorem lo1_run {c:Cpu} {b d:Bus} (h:BRun (lo1 c b) d):b.t.length+1≤d.t.length:=by
 have:=(run_head h b.t.length (by simp[lo1,Bus.rd])).2
 simpa [lo1,Bus.rd] using this
open Go.RowKit Go.Proofs.YtoncmhfmkfeolaaGreatDoorW.PrintWords
def Bus.sh (p:List Cyc) (b:Bus):Bus:=⟨b.m,p++b.t⟩
section
variable (p:List Cyc) (b:Bus) (c:Cpu)
theorem sh_m:(b.sh p).m=b.m:=rfl
theorem sh_rd (a:Int):(b.sh p).rd a=(b.rd a).sh p:=by simp[Bus.sh,Bus.rd]
theorem sh_wr (a d:Int):(b.sh p).wr a d=(b.wr a d).sh p:=by simp[Bus.sh,Bus.wr]
theorem fixB_sh (k base e:Int):fixB (b.sh p) k base e=(fixB b k base e).sh p:=by
 unfold fixB
 split
 ·rfl
 ·exact sh_rd p b _
theorem plcE_sh (k base i:Int):plcE k base i (b.sh p)=((plcE k base i b).1,(plcE k base i b).2.sh p):=by
 unfold plcE
 rw[fixB_sh]
theorem plcZ_sh (m k z:Int):plcZ c (b.sh p) m k z=((plcZ c b m k z).1,(plcZ c b m k z).2.sh p):=by
 unfold plcZ
 simp only[sh_m,sh_rd,plcE_sh]
 repeat' split
 all_goals rfl
theorem plc_sh (m k:Int):plc c (b.sh p) m k=((plc c b m k).1,(plc c b m k).2.sh p):=by
 unfold plc
 rw[sh_rd,sh_m,plcZ_sh]
theorem lo1_sh:lo1 c (b.sh p)=(lo1 c b).sh p:=sh_rd p b _
theorem opdB_sh (k m:Int) (x:List UInt8):opdB k m x c (b.sh p)=(opdB k m x c b).sh p:=by
 unfold opdB
 simp only[plc_sh,lo1_sh,sh_m,sh_rd,sh_wr]
 repeat' split
 all_goals rfl
theorem opdC_sh (k m:Int) (x:List UInt8):opdC k m x c (b.sh p)=opdC k m x c b:=by
 unfold opdC
 simp only[plc_sh,sh_m]
theorem push3_sh (pc:Int) (k:Bool):push3 c (b.sh p) pc k=(push3 c b pc k).sh p:=by
 unfold push3
 simp only[sh_wr]
theorem jsrW_sh:jsrW c (b.sh p)=(jsrW c b).sh p:=by
 unfold jsrW
 simp only[lo1_sh,sh_rd,sh_wr]
theorem floB_sh (k m:Int) (x:List UInt8):floB k m x c (b.sh p)=(floB k m x c b).sh p:=by
 unfold floB braB jmpB jsrB rtsB rtsA rtiB brkB
 simp only[lo1_sh,push3_sh,jsrW_sh,sh_m,sh_rd,sh_wr]
 repeat' split
 all_goals rfl
theorem floC_sh (k m:Int) (x:List UInt8):floC k m x c (b.sh p)=floC k m x c b:=by
 unfold floC braC jmpC jsrC rtsC rtsA rtiC brkC Cpu.to
 simp only[lo1_sh,push3_sh,jsrW_sh,sh_m]
theorem stpB_sh (k m:Int) (x:List UInt8):stpB k m x c (b.sh p)=(stpB k m x c b).sh p:=by
 unfold stpB phB pulB
 simp only[lo1_sh,opdB_sh,floB_sh,sh_rd,sh_wr]
 repeat' split
 all_goals rfl
theorem stpC_sh (k m sz:Int) (x:List UInt8):stpC k m sz x c (b.sh p)=stpC k m sz x c b:=by
 unfold stpC pulC
 simp only[opdC_sh,floC_sh,sh_m]
theorem stepB_sh:stepB c (b.sh p)=(stepB c b).sh p:=by
 unfold stepB stpBus
 rw[sh_rd,sh_m,stpB_sh]
theorem stepC_sh:stepC c (b.sh p)=stepC c b:=by
 unfold stepC stpOf
 rw[sh_rd,sh_m,stpC_sh]
theorem serveB_sh (nmi:Bool):serveB c (b.sh p) nmi=(serveB c b nmi).sh p:=by
 unfold serveB
 simp only[sh_rd,push3_sh]
theorem serveC_sh (nmi:Bool):serveC c (b.sh p) nmi=serveC c b nmi:=by
 unfold serveC Cpu.to
 simp only[sh_rd,push3_sh,sh_m]
end
theorem bus_sh (m:List Int) (t:List Cyc):(⟨m,t⟩:Bus)=(⟨m,[]⟩:Bus).sh t:=by simp[Bus.sh]
theorem step_bus (c:Cpu) (m:List Int) (t:List Cyc) (hs:ramSize m.length=true) (hj:jams m c.PC=false):stepC c ⟨m,t⟩=(step c m).c∧stepB c ⟨m,t⟩=⟨(step c m).m,t++(step c m).t⟩:=by
 have e:step c m=⟨stepC c ⟨m,[]⟩,(stepB c ⟨m,[]⟩).m,(stepB c ⟨m,[]⟩).t⟩:=by simp[step,hs,hj]
 rw[bus_sh,stepC_sh,stepB_sh,e]
 exact ⟨rfl,rfl⟩
theorem serve_bus (c:Cpu) (m:List Int) (t:List Cyc) (nmi:Bool) (hs:ramSize m.length=true):serveC c ⟨m,t⟩ nmi=(serve c m nmi).c∧serveB c ⟨m,t⟩ nmi=⟨(serve c m nmi).m,t++(serve c m nmi).t⟩:=by
 have e:serve c m nmi=⟨serveC c ⟨m,[]⟩ nmi,(serveB c ⟨m,[]⟩ nmi).m,(serveB c ⟨m,[]⟩ nmi).t⟩:=by simp[serve,hs]
 rw[bus_sh,serveC_sh,serveB_sh,e]
 exact ⟨rfl,rfl⟩
structure Rs where
 c:Cpu
 m:List Int
 t:List Cyc
 st:List Int
 cs:List Cpu
 jam:Bool
def Rs.go (r:Rs) (s:After):Rs:=⟨s.c,s.m,r.t++s.t,r.st++[(r.t.length:Int)],r.cs++[r.c],false⟩
def unitN (E:List Evt) (k:Int) (r:Rs):Rs :=
 if asked E k true then r.go (serve r.c r.m true)
 else if asked E k false && !r.c.F.I then r.go (serve r.c r.m false)
 else if jams r.m r.c.PC then { r with jam:=true }
 else r.go (step r.c r.m)
def runN (E:List Evt) (r:Rs):Nat→Rs
 | 0=>r
 | k+1=>if (runN E r k).jam then runN E r k else unitN E k (runN E r k)
def rs0 (c:Cpu) (m:List Int):Rs:=⟨c,m,[],[],[],false⟩
def runOk (l:List Int) (E:List Evt) (n:Int):Bool:=ramSize l.length && (decide (0≤n) && decide (n≤120)) && decide (E.length≤16)
def run (c:Cpu) (l:List Int) (E:List Evt) (n:Int):Rs:=if runOk l E n then runN E (rs0 c l) n.toNat else rs0 cpu0 []
structure RsOk (l:List Int) (r:Rs) (k:Nat):Prop where
 cok:r.c.ok
 len:r.m.length=l.length
 mb:∀ i,0≤rd r.m i∧rd r.m i<256
 tb:∀ x ∈ r.t,x.ok
 tn:r.t.length≤8*k
 sn:r.st.length≤k
 cn:r.cs.length=r.st.length
 csok:∀ x ∈ r.cs,x.ok
 sb:∀ x ∈ r.st,0≤x∧x≤8*k
end Go.Proofs.YtoncmhfmkfeolaaGreatDoor
namespace Go.Proofs.YtoncmhfmkfeolaaGreatDoor
open Go.RowKit Go.Proofs.YtoncmhfmkfeolaaGreatDoorW.PrintWords
theorem size_cases {n:Int} (h:ramSize n=true):n=256 ∨ n=512 ∨ n=1024 ∨ n=2048 ∨ n=4096:=by
 simp[ramSize] at h
 omega
theorem peek_set_eq {l:List Int} (hs:ramSize l.length=true) (a x:Int):peek (l.set (a % l.length).toNat x) a=x:=by
 have hp:=ramSize_le hs
 unfold peek
 rw[List.length_set,if_pos hs]
 exact rd_set_eq _ _ _ (Int.emod_nonneg _ (by omega)) (Int.emod_lt_of_pos _ (by omega))
theorem peek_set_ne {l:List Int} (hs:ramSize l.length=true) (a b x:Int) (h:a % l.length ≠ b % l.length):peek (l.set (a % l.length).toNat x) b=peek l b:=by
 have hp:=ramSize_le hs
 unfold peek
 rw[List.length_set,if_pos hs,if_pos hs]
 exact rd_set_ne _ _ _ _ (Int.emod_nonneg _ (by omega)) (Int.emod_nonneg _ (by omega)) h
theorem step_at (c:Cpu) (l:List Int) (code:Int) (hs:ramSize l.length=true) (hp:peek l c.PC=code) (hn:(nmL code == [])=false) :
  step c l=⟨stpOf code c (Bus.rd ⟨l,[]⟩ c.PC),(stpBus code c (Bus.rd ⟨l,[]⟩ c.PC)).m,(stpBus code c (Bus.rd ⟨l,[]⟩ c.PC)).t⟩:=by
 unfold step
 rw[if_pos hs,if_neg (by simp only[jams,hs,hp,hn];simp)]
 unfold stepC stepB
 simp only[hp]
theorem pack_back:∀ n v d i z c k:Bool,(unpackP (packP ⟨n,v,d,i,z,c⟩ k)).N=n∧(unpackP (packP ⟨n,v,d,i,z,c⟩ k)).V=v∧(unpackP (packP ⟨n,v,d,i,z,c⟩ k)).D=d∧(unpackP (packP ⟨n,v,d,i,z,c⟩ k)).I=i∧(unpackP (packP ⟨n,v,d,i,z,c⟩ k)).Z=z∧(unpackP (packP ⟨n,v,d,i,z,c⟩ k)).C=c:=by decide +kernel
theorem unpack_pack (f:F6) (k:Bool):unpackP (packP f k)=f:=by
 obtain ⟨n,v,d,i,z,c⟩:=f
 obtain ⟨h1,h2,h3,h4,h5,h6⟩:=pack_back n v d i z c k
 generalize unpackP (packP ⟨n,v,d,i,z,c⟩ k)=g at *
 obtain ⟨n',v',d',i',z',c'⟩:=g
 simp only at h1 h2 h3 h4 h5 h6
 subst h1 h2 h3 h4 h5 h6
 rfl
theorem stk_ne {n:Int} (h:ramSize n=true) (s i j:Int) (hi:0≤i) (hj:i<j) (hk:j≤3):stk (s - i) % n ≠ stk (s - j) % n:=by
 unfold stk
 rcases size_cases h with rfl|rfl|rfl|rfl|rfl <;> omega
theorem k64:kindI 64=9∧mdI 64=0∧(nmL 64 == [])=false:=by decide +kernel
theorem stp_rti (c:Cpu) (b:Bus):stpOf 64 c b=rtiC c b:=by
 obtain ⟨h1,h2,_⟩:=k64
 unfold stpOf
 rw[h1,h2]
 rfl
theorem cpu_ext {a b:Cpu} (h0:a.A=b.A) (h1:a.X=b.X) (h2:a.Y=b.Y) (h3:a.S=b.S) (h4:a.PC=b.PC) (h5:a.F=b.F):a=b:=by
 obtain ⟨_,_,_,_,_,_⟩:=a
 obtain ⟨_,_,_,_,_,_⟩:=b
 simp only at h0 h1 h2 h3 h4 h5
 subst h0 h1 h2 h3 h4 h5
 rfl
theorem fill_1 (L:List Int) (a x:Int) (h:ramSize L.length=true) (a0:0≤a) (a1:a<65536):fill L a [x]=L.set (a % L.length).toNat x:=by
 unfold fill
 rw[h]
 simp[fillN,rd]
 rw[show a % 65536=a from by omega]
theorem serve_seven (c:Cpu) (l:List Int) (nmi:Bool) (hs:ramSize l.length=true):(serve c l nmi).t.length=7∧(serve c l nmi).m.length=l.length:=by
 unfold serve
 rw[if_pos hs]
 simp[serveB,push3,Bus.rd,Bus.wr]
open Go.RowKit Go.Proofs.YtoncmhfmkfeolaaGreatDoorW.PrintWords
section
variable {c:Cpu} (h:c.ok)
include h
theorem ok_ldA {v:Int} (hv:0≤v∧v<256):(ldA c v).ok:=by
 obtain ⟨a0,a1,x0,x1,y0,y1,s0,s1,p0,p1⟩:=h
 exact ⟨hv.1,hv.2,x0,x1,y0,y1,s0,s1,p0,p1⟩
theorem ok_ldX {v:Int} (hv:0≤v∧v<256):(ldX c v).ok:=by
 obtain ⟨a0,a1,x0,x1,y0,y1,s0,s1,p0,p1⟩:=h
 exact ⟨a0,a1,hv.1,hv.2,y0,y1,s0,s1,p0,p1⟩
theorem ok_ldY {v:Int} (hv:0≤v∧v<256):(ldY c v).ok:=by
 obtain ⟨a0,a1,x0,x1,y0,y1,s0,s1,p0,p1⟩:=h
 exact ⟨a0,a1,x0,x1,hv.1,hv.2,s0,s1,p0,p1⟩
theorem ok_stA {r:Int × F6} (hv:0≤r.1∧r.1<256):(stA c r).ok:=by
 obtain ⟨a0,a1,x0,x1,y0,y1,s0,s1,p0,p1⟩:=h
 exact ⟨hv.1,hv.2,x0,x1,y0,y1,s0,s1,p0,p1⟩
theorem ok_F (f:F6):({ c with F:=f }:Cpu).ok:=by
 obtain ⟨a0,a1,x0,x1,y0,y1,s0,s1,p0,p1⟩:=h
 exact ⟨a0,a1,x0,x1,y0,y1,s0,s1,p0,p1⟩
theorem ok_S {s:Int} (hv:0≤s∧s<256):({ c with S:=s }:Cpu).ok:=by
 obtain ⟨a0,a1,x0,x1,y0,y1,s0,s1,p0,p1⟩:=h
 exact ⟨a0,a1,x0,x1,y0,y1,hv.1,hv.2,p0,p1⟩
theorem ok_pc {p:Int} (hv:0≤p∧p<65536):({ c with PC:=p }:Cpu).ok:=by
 obtain ⟨a0,a1,x0,x1,y0,y1,s0,s1,p0,p1⟩:=h
 exact ⟨a0,a1,x0,x1,y0,y1,s0,s1,hv.1,hv.2⟩
theorem ok_fw (n:Int):(c.fw n).ok:=ok_pc h (m16 _)
theorem ok_sp {s p:Int} (f:F6) (hs:0≤s∧s<256) (hp:0≤p∧p<65536):({ c with S:=s,PC:=p,F:=f }:Cpu).ok:=ok_pc (ok_S (ok_F h f) hs) hp
theorem do_ok (x:List UInt8) (v:Int) (h0:0≤v) (h1:v<256):(doT x c v).1.ok:=by
 refine do_cases c v x (fun _ d _=>d.ok) ?_ ?_ ?_ ?_ ?_ ?_ ?_ ?_ ?_ ?_ ?_ ?_ ?_ ?_ ?_ ?_ ?_ ?_ ?_
 all_goals first
  | exact ok_ldA h ⟨h0,h1⟩
  | exact ok_ldX h ⟨h0,h1⟩
  | exact ok_ldY h ⟨h0,h1⟩
  | exact ok_ldA h (w8b _ _ _)
  | exact ok_stA h ⟨adc_lo _ _ _,adc_hi _ _ _⟩
  | exact ok_stA h ⟨sbc_lo _ _ _,sbc_hi _ _ _⟩
  | exact ok_F h _
  | (intros;exact h)
theorem imp_ok (x:List UInt8):(impT x c).ok:=by
 have r0:=b2i_lo c.F.C
 have r1:=b2i_hi c.F.C
 have h':=h
 obtain ⟨a0,a1,x0,x1,y0,y1,s0,s1,p0,p1⟩:=h'
 refine imp_cases c x (fun _ d=>d.ok) ?_ ?_ ?_ ?_ ?_ ?_ ?_ ?_ ?_ ?_ ?_ ?_ ?_ ?_ ?_ ?_ ?_ ?_ ?_ ?_ ?_ ?_
 all_goals first
  | (refine ok_stA h ?_;simp only[aslT,lsrT,rolT,rorT];omega)
  | (refine ok_ldX h ?_;omega)
  | (refine ok_ldY h ?_;omega)
  | (refine ok_ldA h ?_;omega)
  | exact ok_S h ⟨x0,x1⟩
  | exact ok_F h _
  | (intros;exact h)
end
theorem mb256 (x:Int):0≤x % 256∧x % 256<256:=by omega
theorem flo_ok (k m:Int) (x:List UInt8) {c:Cpu} (h:c.ok) {b:Bus} (g:BOk b):(floC k m x c b).ok:=by
 unfold floC
 repeat' split
 ·unfold braC
  refine ok_pc h ?_
  split
  ·unfold tgtA;omega
  ·omega
 ·unfold jmpC
  refine ok_pc h ?_
  split
  ·exact wd g _ _
  ·exact wd g _ _
 ·have gj:=((jsr_le c b).ok g).m
  rw[show (jsrB c b).m=(jsrW c b).m from rfl] at gj
  exact ok_sp h c.F (mb256 _) (word2_in (peeks_of g _) (peek_bb gj _))
 ·exact ok_sp h c.F (mb256 _) (m16 _)
 ·exact ok_sp h _ (mb256 _) (wd g _ _)
 ·have gb:=((brk_le c b).ok g).m
  exact ok_sp h _ (mb256 _) (word2_in (peek_bb gb 65534) (peek_bb gb (65534+1)))
 ·exact h
theorem opd_ok (k m:Int) (x:List UInt8) {c:Cpu} (h:c.ok) {b:Bus} (g:BOk b):(opdC k m x c b).ok:=by
 unfold opdC
 repeat' split
 ·exact do_ok h x _ (peeks_of g _).1 (peeks_of g _).2
 ·exact do_ok h x _ (peeks_of g _).1 (peeks_of g _).2
 ·exact h
 ·exact do_ok h x _ (peeks_of g _).1 (peeks_of g _).2
theorem stp_ok (k m sz:Int) (x:List UInt8) {c:Cpu} (h:c.ok) {b:Bus} (g:BOk b):(stpC k m sz x c b).ok:=by
 unfold stpC
 repeat' split
 ·exact ok_fw (imp_ok h x) _
 ·exact ok_fw (opd_ok k m x h g) _
 ·exact ok_fw (ok_S h (mb256 _)) _
 ·refine ok_fw ?_ _
  unfold pulC
  split
  ·exact ok_S (ok_ldA h (peeks_of g _)) (mb256 _)
  ·exact ok_S (ok_F h _) (mb256 _)
 ·exact flo_ok k m x h g
theorem step_okc (c:Cpu) (l:List Int) (hc:c.ok) (h:∀ i,0≤rd l i∧rd l i<256):(step c l).c.ok:=by
 unfold step
 split
 ·split
  ·exact hc
  ·have hp:0≤c.PC∧c.PC<65536:=by obtain ⟨_,_,_,_,_,_,_,_,p0,p1⟩:=hc;exact ⟨p0,p1⟩
   exact stp_ok _ _ _ _ hc (BOk.rd ⟨h,by simp⟩ hp.1 hp.2)
 ·exact ⟨by decide,by decide,by decide,by decide,by decide,by decide,by decide,by decide,by decide,by decide⟩
theorem serve_okc (c:Cpu) (l:List Int) (nmi:Bool) (hc:c.ok) (h:∀ i,0≤rd l i∧rd l i<256):(serve c l nmi).c.ok:=by
 obtain ⟨a0,a1,x0,x1,y0,y1,s0,s1,p0,p1⟩:=hc
 unfold serve
 split
 ·have hb:=serveB_ok c ⟨l,[]⟩ nmi ⟨a0,a1,x0,x1,y0,y1,s0,s1,p0,p1⟩ ⟨h,by simp⟩
  have hm:(serveB c ⟨l,[]⟩ nmi).m=(push3 c ((Bus.rd ⟨l,[]⟩ c.PC).rd c.PC) c.PC false).m:=rfl
  have hb:=hb.m
  rw[hm] at hb
  have w:=word2_in (peek_bb hb (vec nmi)) (peek_bb hb (vec nmi+1))
  exact ⟨a0,a1,x0,x1,y0,y1,by show 0≤(c.S - 3) % 256;omega,by show (c.S - 3) % 256<256;omega,w.1,w.2⟩
 ·exact ⟨by decide,by decide,by decide,by decide,by decide,by decide,by decide,by decide,by decide,by decide⟩
theorem step_xb (c:Cpu) (l:List Int) (hc:c.ok) (h:∀ i,0≤rd l i∧rd l i<256):∀ x ∈ (step c l).t,x.ok:=by
 unfold step
 split
 ·split
  ·simp
  ·exact ((stepB_le c ⟨l,[]⟩ hc).ok ⟨h,by simp⟩).t
 ·simp
theorem serve_xb (c:Cpu) (l:List Int) (nmi:Bool) (hc:c.ok) (h:∀ i,0≤rd l i∧rd l i<256):∀ x ∈ (serve c l nmi).t,x.ok:=by
 unfold serve
 split
 ·exact (serveB_ok c ⟨l,[]⟩ nmi hc ⟨h,by simp⟩).t
 ·simp
theorem step_meq (c:Cpu) (l:List Int) (hc:c.ok) (hs:ramSize l.length=true):(step c l).m.length=l.length:=by
 unfold step
 rw[if_pos hs]
 split
 ·rfl
 ·exact (stepB_le c ⟨l,[]⟩ hc).m
end Go.Proofs.YtoncmhfmkfeolaaGreatDoor
namespace Go.Proofs.YtoncmhfmkfeolaaGreatDoor
open Go.RowKit Go.Proofs.YtoncmhfmkfeolaaGreatDoorW.PrintWords
theorem RsOk.go {l:List Int} {r:Rs} {k:Nat} {s:After} (h:RsOk l r k) (cok:s.c.ok) (hm:s.m.length=r.m.length) (mb:∀ i,0≤rd s.m i∧rd s.m i<256) (tb:∀ x ∈ s.t,x.ok) (tn:s.t.length≤8):RsOk l (r.go s) (k+1):=by
 refine ⟨cok,hm.trans h.len,mb,?_,?_,?_,?_,?_,?_⟩
 ·intro x hx
  rcases List.mem_append.1 hx with hx|hx
  ·exact h.tb x hx
  ·exact tb x hx
 ·have:=h.tn
  simp[Rs.go];omega
 ·have:=h.sn
  simp[Rs.go];omega
 ·have:=h.cn
  simp[Rs.go];omega
 ·intro x hx
  rcases List.mem_append.1 hx with hx|hx
  ·exact h.csok x hx
  ·rw[List.mem_singleton] at hx
   subst hx
   exact h.cok
 ·intro x hx
  rcases List.mem_append.1 hx with hx|hx
  ·have:=h.sb x hx
   omega
  ·rw[List.mem_singleton] at hx
   have:=h.tn
   omega
theorem RsOk.up {l:List Int} {r:Rs} {k j:Nat} (h:RsOk l r k) (hk:k≤j):RsOk l r j :=
 ⟨h.cok,h.len,h.mb,h.tb,by have:=h.tn;omega,by have:=h.sn;omega,h.cn,h.csok,fun x hx=>by have:=h.sb x hx;omega⟩
theorem unit_ok (E:List Evt) (i:Int) {l:List Int} {r:Rs} {k:Nat} (h:RsOk l r k) (hs:ramSize l.length=true):RsOk l (unitN E i r) (k+1):=by
 have hs2:ramSize r.m.length=true:=by rw[h.len];exact hs
 unfold unitN
 repeat' split
 ·exact h.go (serve_okc _ _ _ h.cok h.mb) (serve_seven _ _ _ hs2).2 (serve_mb _ _ _ h.cok h.mb) (serve_xb _ _ _ h.cok h.mb) (by rw[(serve_seven _ _ _ hs2).1];omega)
 ·exact h.go (serve_okc _ _ _ h.cok h.mb) (serve_seven _ _ _ hs2).2 (serve_mb _ _ _ h.cok h.mb) (serve_xb _ _ _ h.cok h.mb) (by rw[(serve_seven _ _ _ hs2).1];omega)
 ·exact ⟨h.cok,h.len,h.mb,h.tb,by have:=h.tn;simp only[];omega,by have:=h.sn;simp only[];omega,h.cn,h.csok,fun x hx=>by have:=h.sb x hx;omega⟩
 ·exact h.go (step_okc _ _ h.cok h.mb) (step_meq _ _ h.cok hs2) (step_mb _ _ h.cok h.mb) (step_xb _ _ h.cok h.mb) (step_tl _ _ h.cok)
theorem rs0_ok (c:Cpu) (l:List Int) (hc:c.ok) (h:∀ i,0≤rd l i∧rd l i<256):RsOk l (rs0 c l) 0 :=
 ⟨hc,rfl,h,by simp[rs0],by simp[rs0],by simp[rs0],rfl,by simp[rs0],by simp[rs0]⟩
theorem runN_ok (E:List Evt) (c:Cpu) (l:List Int) (hc:c.ok) (h:∀ i,0≤rd l i∧rd l i<256) (hs:ramSize l.length=true) (k:Nat):RsOk l (runN E (rs0 c l) k) k:=by
 induction k with
 | zero=>exact rs0_ok c l hc h
 | succ k ih =>
  unfold runN
  split
  ·exact ih.up (by omega)
  ·exact unit_ok E k ih hs
theorem cpu0_ok:cpu0.ok:=⟨by decide,by decide,by decide,by decide,by decide,by decide,by decide,by decide,by decide,by decide⟩
theorem runOk_said {l:List Int} {E:List Evt} {n:Int} (h:runOk l E n=true):ramSize l.length=true∧0≤n∧n≤120∧E.length≤16:=by
 unfold runOk at h
 simp only[Bool.and_eq_true,decide_eq_true_eq] at h
 exact ⟨h.1.1,h.1.2.1,h.1.2.2,h.2⟩
structure RunB (r:Rs) (n:Nat):Prop where
 cok:r.c.ok
 ml:r.m.length≤n
 mb:∀ i,0≤rd r.m i∧rd r.m i<256
 tb:∀ x ∈ r.t,x.ok
 tn:r.t.length≤960
 sn:r.st.length≤120
 cn:r.cs.length=r.st.length
 csok:∀ x ∈ r.cs,x.ok
 sb:∀ x ∈ r.st,0≤x∧x≤960
theorem run_b (E:List Evt) (n:Int) (c:Cpu) (l:List Int) (hc:c.ok) (h:∀ i,0≤rd l i∧rd l i<256):RunB (run c l E n) l.length:=by
 unfold run
 split
 ·rename_i hk
  obtain ⟨hs,n0,n1,_⟩:=runOk_said hk
  have r:=runN_ok E c l hc h hs n.toNat
  have hn:n.toNat≤120:=by omega
  exact ⟨r.cok,Nat.le_of_eq r.len,r.mb,r.tb,by have:=r.tn;omega,by have:=r.sn;omega,r.cn,r.csok,fun x hx=>by have:=r.sb x hx;omega⟩
 ·exact ⟨cpu0_ok,by simp[rs0],fun i=>by simp[rs0,rd],by simp[rs0],by simp[rs0],by simp[rs0],rfl,by simp[rs0],by simp[rs0]⟩
theorem asked_nil (k:Int) (n:Bool):asked [] k n=false:=rfl
theorem unit_nil (k:Int) (r:Rs):unitN [] k r=if jams r.m r.c.PC then { r with jam:=true } else r.go (step r.c r.m):=by
 unfold unitN
 rw[asked_nil,asked_nil]
 rfl
structure Sim (p:List Cyc) (r r':Rs):Prop where
 c:r'.c=r.c
 m:r'.m=r.m
 t:r'.t=p++r.t
 jam:r'.jam=r.jam
end Go.Proofs.YtoncmhfmkfeolaaGreatDoor
