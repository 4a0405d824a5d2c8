/- Run. -/
import Derived.Test.YtoncmhfmkfeolaaGreatDoorGR
import Derived.Deep.DeepCutAuto
import Derived.Deep.CutBlock
set_option maxRecDepth 100000
set_option maxHeartbeats 8000000
set_option linter.unusedVariables false
set_option linter.unusedSimpArgs false
namespace Go.Proofs.YtoncmhfmkfeolaaGreatDoor
open Go.RowKit Go.Proofs.YtoncmhfmkfeolaaGreatDoorW.PrintWords
theorem SpcAt.own {w0 w W:World} {base b:Nat} {r:Rs} {vm vt vs vp:Value} (h:SpcAt w0 w base b r vm vt vs vp) (hk:∀ k,base≤k→k ≠ b→W.heap[k]?=w.heap[k]?) :
  OwnB W base vm r.m∧OwnC W base vt r.t∧OwnI W base vs r.st∧OwnP W base vp r.cs:=by
 refine ⟨OwnB.move h.mem (fun k e=>?_),OwnC.move h.log (fun k e=>?_),h.st.keep (fun k e=>?_),h.cs.keep (fun k e=>?_)⟩
 ·obtain ⟨c1,h1⟩:=Kd.R_typed h.mem k e
  exact hk k (Kd.R_base h.mem k e) (blk_ne h1 h.out (by decide))
 ·obtain ⟨c1,h1⟩:=Kd.R_typed h.log k e
  exact hk k (Kd.R_base h.log k e) (blk_ne h1 h.out (by decide))
 ·obtain ⟨c1,h1⟩:=Kd.R_typed h.st k e
  exact hk k (Kd.R_base h.st k e) (blk_ne h1 h.out (by decide))
 ·obtain ⟨c1,h1⟩:=Kd.R_typed h.cs k e
  exact hk k (Kd.R_base h.cs k e) (blk_ne h1 h.out (by decide))
theorem spec_Run_ram (c:Cpu) (A:Option Addr) (d:Nat) (l:List Int) (B:Option Addr) (e n0:Nat) (n:Int) (w:World) (hn0:n0≤9223372036854775807) (hq1:ramSize l.length=false) :
  Calls Tryz.prog 12 #[.agg #[.int .u8 c.A,.int .u8 c.X,.int .u8 c.Y,.int .u8 c.S,.int .u16 c.PC,.bool c.F.N,.bool c.F.V,.bool c.F.D,.bool c.F.I,.bool c.F.Z,.bool c.F.C],.agg #[.slice A l.length d],.slice B n0 e,.int .i64 n] w fun e w'=>RunRet (rs0 cpu0 []) w w' e:=by
 have HB:=hR w;go_enter Tryz.func12,Tryz.ntmps12
 go_wp2_with fail
 refine (spec_RamOk _ _ _ _).mono ?_
 rintro _ w1 ⟨rfl,hb⟩
 have KR:Aside0 (Blk w1 (w.heap.size+1+1) #[.int .u8 0,.int .u8 0,.int .u8 0,.int .u8 0,.int .u16 0,.bool false,.bool false,.bool false,.bool false,.bool false,.bool false,.slice none 0 0,.slice none 0 0,.slice none 0 0,.slice none 0 0,.bool false] 38):=⟨Blk.below (Blk.at (by simp)) hb⟩
 (have HB:=Aside0.mk (below_step (w:=w) blw hb);have hz1:=hb.size;obtain ⟨hcl1,hfr1,hlt1,_⟩:=bcell hb;(try simp only[sA,sC,sD] at hz1);(try simp only[sA,sC,sD] at hcl1 hfr1 hlt1);have hk1_0:w.heap.size<w1.heap.size:=(by omega);have hk1_1:w.heap.size+1<w1.heap.size:=(by omega);have hk1_2:w.heap.size+1+1<w1.heap.size:=(by omega);have HB1:=hR w1;clear hb)
 go_upto_region 2 with (fail)
 have hkp:w.heap.size≤w.heap.size+1+1:=by omega
 refine wp_normal (spReg2 w1 _ KR.out _ _ _ _ _ _ _ _ _ _ _ _ _ _ _ _ _ _ _ _ _ _ _ _ _ _ _ _ _ _ _ _ _ _ _ _ _ _ _ _ _ _ _ _ _ _ _ _ _ _ _ _ _ _ _ _ _ _ _ _ _ _ _ _ _ _ _ _ _ _ _ _ _ _ _ _ _ _ _ _ _ _ _ _ _ _ _ _ _ _ _ _ _ _ _ _ _ _ _ _ _ _ _ _ _ _ _ _ _ _ _ _ _ _ _ _ _ _ _ _ _ _ _) ?_
 rintro _ w2 ⟨u26,⟨KS2,hb2⟩,rfl⟩
 have HB2:=Aside0.mk (hb2 _ _ (blw:Below w.heap.size w w1) hkp)
 obtain ⟨x0,x1,x2,x3,x4,x5,x6,x7,x8,x9,x10,x11,x12,x13,x14,x15⟩:=cells16 KS2
 have hl2:=KS2.lt
 clear hb2 KS2
 go_wp2_with fail
 (refine bodyPost_ret (v:=.agg #[.int .u8 0,.int .u8 0,.int .u8 0,.int .u8 0,.int .u16 0,.bool false,.bool false,.bool false,.bool false,.bool false,.bool false,.slice none 0 0,.slice none 0 0,.slice none 0 0,.slice none 0 0,.bool false]) (by (simp only[results,Tryz.results12];go_simp <;> (rfl))) rfl ?_)
 exact ⟨none,0,none,0,none,0,none,0,rfl,Kd.R_nil _ _ _ _ _,Kd.R_nil _ _ _ _ _,Kd.R_nil _ _ _ _ _,Kd.R_nil _ _ _ _ _,HB2.out⟩
theorem spec_Run_n (c:Cpu) (A:Option Addr) (d:Nat) (l:List Int) (B:Option Addr) (e n0:Nat) (n:Int) (w:World) (hn0:n0≤9223372036854775807) (hq1:ramSize l.length=true) (hq2:(decide ((0:Int)≤n) && decide (n≤120))=false) :
  Calls Tryz.prog 12 #[.agg #[.int .u8 c.A,.int .u8 c.X,.int .u8 c.Y,.int .u8 c.S,.int .u16 c.PC,.bool c.F.N,.bool c.F.V,.bool c.F.D,.bool c.F.I,.bool c.F.Z,.bool c.F.C],.agg #[.slice A l.length d],.slice B n0 e,.int .i64 n] w fun e w'=>RunRet (rs0 cpu0 []) w w' e:=by
 have HB:=hR w;go_enter Tryz.func12,Tryz.ntmps12
 go_wp2_with fail
 refine (spec_RamOk _ _ _ _).mono ?_
 rintro _ w1 ⟨rfl,hb⟩
 have KR:Aside0 (Blk w1 (w.heap.size+1+1) #[.int .u8 0,.int .u8 0,.int .u8 0,.int .u8 0,.int .u16 0,.bool false,.bool false,.bool false,.bool false,.bool false,.bool false,.slice none 0 0,.slice none 0 0,.slice none 0 0,.slice none 0 0,.bool false] 38):=⟨Blk.below (Blk.at (by simp)) hb⟩
 (have HB:=Aside0.mk (below_step (w:=w) blw hb);have hz1:=hb.size;obtain ⟨hcl1,hfr1,hlt1,_⟩:=bcell hb;(try simp only[sA,sC,sD] at hz1);(try simp only[sA,sC,sD] at hcl1 hfr1 hlt1);have hk1_0:w.heap.size<w1.heap.size:=(by omega);have hk1_1:w.heap.size+1<w1.heap.size:=(by omega);have hk1_2:w.heap.size+1+1<w1.heap.size:=(by omega);have HB1:=hR w1;clear hb)
 go_wp2_with fail
 refine (spec_l01In _ _ _ _).mono ?_
 rintro _ _ ⟨rfl,rfl⟩
 go_upto_region 2 with (fail)
 have hkp:w.heap.size≤w.heap.size+1+1:=by omega
 refine wp_normal (spReg2 w1 _ KR.out _ _ _ _ _ _ _ _ _ _ _ _ _ _ _ _ _ _ _ _ _ _ _ _ _ _ _ _ _ _ _ _ _ _ _ _ _ _ _ _ _ _ _ _ _ _ _ _ _ _ _ _ _ _ _ _ _ _ _ _ _ _ _ _ _ _ _ _ _ _ _ _ _ _ _ _ _ _ _ _ _ _ _ _ _ _ _ _ _ _ _ _ _ _ _ _ _ _ _ _ _ _ _ _ _ _ _ _ _ _ _ _ _ _ _ _ _ _ _ _ _ _ _) ?_
 rintro _ w2 ⟨u26,⟨KS2,hb2⟩,rfl⟩
 have HB2:=Aside0.mk (hb2 _ _ (blw:Below w.heap.size w w1) hkp)
 obtain ⟨x0,x1,x2,x3,x4,x5,x6,x7,x8,x9,x10,x11,x12,x13,x14,x15⟩:=cells16 KS2
 have hl2:=KS2.lt
 clear hb2 KS2
 go_wp2_with fail
 (refine bodyPost_ret (v:=.agg #[.int .u8 0,.int .u8 0,.int .u8 0,.int .u8 0,.int .u16 0,.bool false,.bool false,.bool false,.bool false,.bool false,.bool false,.slice none 0 0,.slice none 0 0,.slice none 0 0,.slice none 0 0,.bool false]) (by (simp only[results,Tryz.results12];go_simp <;> (rfl))) rfl ?_)
 exact ⟨none,0,none,0,none,0,none,0,rfl,Kd.R_nil _ _ _ _ _,Kd.R_nil _ _ _ _ _,Kd.R_nil _ _ _ _ _,Kd.R_nil _ _ _ _ _,HB2.out⟩
theorem spec_Run_ev (c:Cpu) (A:Option Addr) (d:Nat) (l:List Int) (B:Option Addr) (e n0:Nat) (n:Int) (w:World) (hn0:n0≤9223372036854775807) (hq1:ramSize l.length=true) (hq2:(decide ((0:Int)≤n) && decide (n≤120))=true) (h17:(16:Int)<(n0:Int)) :
  Calls Tryz.prog 12 #[.agg #[.int .u8 c.A,.int .u8 c.X,.int .u8 c.Y,.int .u8 c.S,.int .u16 c.PC,.bool c.F.N,.bool c.F.V,.bool c.F.D,.bool c.F.I,.bool c.F.Z,.bool c.F.C],.agg #[.slice A l.length d],.slice B n0 e,.int .i64 n] w fun e w'=>RunRet (rs0 cpu0 []) w w' e:=by
 have HB:=hR w;go_enter Tryz.func12,Tryz.ntmps12
 go_wp2_with fail
 refine (spec_RamOk _ _ _ _).mono ?_
 rintro _ w1 ⟨rfl,hb⟩
 have KR:Aside0 (Blk w1 (w.heap.size+1+1) #[.int .u8 0,.int .u8 0,.int .u8 0,.int .u8 0,.int .u16 0,.bool false,.bool false,.bool false,.bool false,.bool false,.bool false,.slice none 0 0,.slice none 0 0,.slice none 0 0,.slice none 0 0,.bool false] 38):=⟨Blk.below (Blk.at (by simp)) hb⟩
 (have HB:=Aside0.mk (below_step (w:=w) blw hb);have hz1:=hb.size;obtain ⟨hcl1,hfr1,hlt1,_⟩:=bcell hb;(try simp only[sA,sC,sD] at hz1);(try simp only[sA,sC,sD] at hcl1 hfr1 hlt1);have hk1_0:w.heap.size<w1.heap.size:=(by omega);have hk1_1:w.heap.size+1<w1.heap.size:=(by omega);have hk1_2:w.heap.size+1+1<w1.heap.size:=(by omega);have HB1:=hR w1;clear hb)
 go_wp2_with fail
 refine (spec_l01In _ _ _ _).mono ?_
 rintro _ _ ⟨rfl,rfl⟩
 go_upto_region 2 with (fail)
 have hkp:w.heap.size≤w.heap.size+1+1:=by omega
 refine wp_normal (spReg2 w1 _ KR.out _ _ _ _ _ _ _ _ _ _ _ _ _ _ _ _ _ _ _ _ _ _ _ _ _ _ _ _ _ _ _ _ _ _ _ _ _ _ _ _ _ _ _ _ _ _ _ _ _ _ _ _ _ _ _ _ _ _ _ _ _ _ _ _ _ _ _ _ _ _ _ _ _ _ _ _ _ _ _ _ _ _ _ _ _ _ _ _ _ _ _ _ _ _ _ _ _ _ _ _ _ _ _ _ _ _ _ _ _ _ _ _ _ _ _ _ _ _ _ _ _ _ _) ?_
 rintro _ w2 ⟨u26,⟨KS2,hb2⟩,rfl⟩
 have HB2:=Aside0.mk (hb2 _ _ (blw:Below w.heap.size w w1) hkp)
 obtain ⟨x0,x1,x2,x3,x4,x5,x6,x7,x8,x9,x10,x11,x12,x13,x14,x15⟩:=cells16 KS2
 have hl2:=KS2.lt
 clear hb2 KS2
 go_wp2_with fail
 (refine bodyPost_ret (v:=.agg #[.int .u8 0,.int .u8 0,.int .u8 0,.int .u8 0,.int .u16 0,.bool false,.bool false,.bool false,.bool false,.bool false,.bool false,.slice none 0 0,.slice none 0 0,.slice none 0 0,.slice none 0 0,.bool false]) (by (simp only[results,Tryz.results12];go_simp <;> (rfl))) rfl ?_)
 exact ⟨none,0,none,0,none,0,none,0,rfl,Kd.R_nil _ _ _ _ _,Kd.R_nil _ _ _ _ _,Kd.R_nil _ _ _ _ _,Kd.R_nil _ _ _ _ _,HB2.out⟩
theorem spec_Run (c:Cpu) (A:Option Addr) (d:Nat) (l:List Int) (B:Option Addr) (e:Nat) (E:List Evt) (n:Int) (w:World) (hc:c.ok) (h:Bs w A l) (hE:evK.C w B E.length E) (hl:E.length≤1048576) :
  Calls Tryz.prog 12 #[.agg #[.int .u8 c.A,.int .u8 c.X,.int .u8 c.Y,.int .u8 c.S,.int .u16 c.PC,.bool c.F.N,.bool c.F.V,.bool c.F.D,.bool c.F.I,.bool c.F.Z,.bool c.F.C],.agg #[.slice A l.length d],.slice B E.length e,.int .i64 n] w fun e w'=>RunRet (run c l E n) w w' e:=by
 obtain ⟨q,hq⟩:∃ q,runOk l E n=q:=⟨_,rfl⟩
 cases q
 ·have e:run c l E n=rs0 cpu0 []:=by simp[run,hq]
  rw[e]
  clear e
  obtain ⟨q1,hq1⟩:∃ q,ramSize l.length=q:=⟨_,rfl⟩
  obtain ⟨q2,hq2⟩:∃ q,(decide ((0:Int)≤n) && decide (n≤120))=q:=⟨_,rfl⟩
  have h16:q1=true→q2=true→(16:Int)<(E.length:Int):=fun e1 e2=>by
   unfold runOk at hq
   rw[hq1,hq2,e1,e2] at hq
   simp at hq
   omega
  clear hq
  cases q1
  ·exact spec_Run_ram c A d l B _ E.length n w (by omega) hq1
  cases q2
  ·exact spec_Run_n c A d l B _ E.length n w (by omega) hq1 hq2
  ·exact spec_Run_ev c A d l B _ E.length n w (by omega) hq1 hq2 (h16 rfl rfl)
 ·have e:run c l E n=runN E (rs0 c l) n.toNat:=by simp[run,hq]
  rw[e]
  clear e
  obtain ⟨hs,n0,n1,hl16⟩:=runOk_said hq
  have hsl:=ramSize_le hs
  have hwi:(decide ((0:Int)≤n) && decide (n≤120))=true:=by simp[n0,n1]
  clear hq
  have HB:=hR w;go_enter Tryz.func12,Tryz.ntmps12
  go_wp2_with fail
  refine (spec_RamOk _ _ _ _).mono ?_
  rintro _ w1 ⟨rfl,hb⟩
  have K4:Aside0 (Blk w1 w.heap.size #[.int .u8 c.A,.int .u8 c.X,.int .u8 c.Y,.int .u8 c.S,.int .u16 c.PC,.bool c.F.N,.bool c.F.V,.bool c.F.D,.bool c.F.I,.bool c.F.Z,.bool c.F.C] 28):=⟨Blk.below (((Blk.at rfl).alloc _).alloc _) hb⟩
  have K5:Aside0 (Blk w1 (w.heap.size+1) #[.slice A l.length d] 30):=⟨Blk.below ((Blk.at (by simp)).alloc _) hb⟩
  have KR:Aside0 (Blk w1 (w.heap.size+1+1) #[.int .u8 0,.int .u8 0,.int .u8 0,.int .u8 0,.int .u16 0,.bool false,.bool false,.bool false,.bool false,.bool false,.bool false,.slice none 0 0,.slice none 0 0,.slice none 0 0,.slice none 0 0,.bool false] 38):=⟨Blk.below (Blk.at (by simp)) hb⟩
  (have HB:=Aside0.mk (below_step (w:=w) blw hb);have hz1:=hb.size;obtain ⟨hcl1,hfr1,hlt1,_⟩:=bcell hb;(try simp only[sA,sC,sD] at hz1);(try simp only[sA,sC,sD] at hcl1 hfr1 hlt1);have hk1_0:w.heap.size<w1.heap.size:=(by omega);have hk1_1:w.heap.size+1<w1.heap.size:=(by omega);have hk1_2:w.heap.size+1+1<w1.heap.size:=(by omega);have HB1:=hR w1;clear hb)
  go_wp2_with fail
  refine (spec_l01In _ _ _ _).mono ?_
  rintro _ _ ⟨rfl,rfl⟩
  go_upto_region 3 with (fail)
  have HW1:Aside0 (Below w.heap.size w w1):=⟨blw⟩
  refine wp_normal (spReg3 c A l d w1 _ _ (h.below HW1.out) (by omega) K4.out K5.out _ _ _ _ _ _ _ _ _ _ _ _ _ _ _ _ _ _ _ _ _ _ _ _ _ _ _ _ _ _ _ _ _ _ _ _ _ _ _ _ _ _ _ _ _ _ _ _ _ _ _ _ _ _ _ _ _ _ _ _ _ _ _ _ _ _ _ _ _ _ _ _ _ _ _ _ _ _ _ _ _ _ _ _ _ _ _ _ _ _ _ _ _ _ _ _ _ _ _ _ _ _ _ _ _ _ _ _ _ _ _ _ _ _ _ _ _ _ _ _ _ _) ?_
  rintro _ w3 ⟨u9,u27,u28,u29,u30,u31,u32,u33,⟨b,A1,c1,rfl,HR0⟩,rfl⟩
  have HR0:=Aside0.mk HR0
  go_wp2_with fail
  go_loopw [10] (fun v10 wr=>∃ k:Nat,∃ vm vt vs vp:Value,k≤n.toNat∧v10=.int .i64 k∧(runN E (rs0 c l) k).jam=false∧Aside0 (SpcAt w1 wr w1.heap.size b (runN E (rs0 c l) k) vm vt vs vp)) (fun v10 _=>n.toNat - (intOf v10).toNat)
  case atStart=>exact ⟨0,_,_,_,_,Nat.zero_le _,rfl,rfl,HR0⟩
  case round =>
   clear HR0
   obtain ⟨k,vm,vt,vs,vp,hk,rfl,hj,HR⟩:=hrel
   have OK:=Aside0.mk (runN_ok E c l hc h.b hs k)
   have HU:Aside0 (runN E (rs0 c l) (k+1)=unitN E k (runN E (rs0 c l) k)):=⟨by rw[runN,if_neg (by simp[hj])]⟩
   generalize hR:runN E (rs0 c l) k=R at *
   have HRR:=Aside0.mk hR
   clear hR
   have hRt:=OK.out.tn
   have e15:wr.cell? ⟨b,15,none⟩=some (.bool R.jam):=blk_cell HR.out.out 15
   rw[hj] at e15
   by_cases hlt:k<n.toNat
   ·have hltn:(k:Int)<n:=by omega
    obtain ⟨Am,cm,em,_,_⟩:=Kd.R_reads HR.out.mem
    obtain ⟨At,ct,et,_,_⟩:=HR.out.log.reads
    subst em et
    obtain ⟨z0,z1,z2,z3,z4,z5,z6,z7,z8,z9,z10,z11,_,_,_,_⟩:=cells16 HR.out.out
    have HBr:=Aside0.mk (HW1.out.trans (HR.out.below.mono HW1.out.size))
    go_upto_block 2 with (fail)
    have hst1:(R.st.length+1)*8≤140737488355328:=by have:=OK.out.sn;omega
    have hcs1:(R.cs.length+1)*12≤140737488355328:=by have:=OK.out.sn;have:=OK.out.cn;omega
    have htl:R.t.length≤1048576:=by omega
    refine wp_normal (spSwitch l B e E k w1 _ w1.heap.size b wr.heap.size Am cm (.slice At R.t.length ct) vs vp R hl hs hj ⟨Kd.C_below hE (below_step HBr.out (blw))⟩ OK ⟨HR.out.wait (blw)⟩ ⟨by (repeat (with_reducible first| (refine Blk.far ?_ ?_;rotate_left;(first|omega|(simp only[sA,sC,sD] <;> omega)|(simp <;> omega)))|(refine Blk.at ?_;(first|omega|(simp only[sA,sC,sD] <;> omega)|(simp <;> omega)))|refine Blk.alloc ?_ _|refine Blk.drew ?_))⟩ _ _ _ _ _ _ _ _ _ _ _ _ _ _ _ _ _ _ _ _ _ _ _ _ _ _ _ _ _ _ _ _ _ _ _ _ _ _ _ _ _ _ _ _ _ _ _ _ _ _ _ _ _ _ _ _ _ _ _ _ _ _ _ _ _ _ _ _ _ _ _ _ _ _ _ _ _ _ _ _ _ _ _ _ _ _ _ _ _ _ _ _ _ _ _ _ _ _ _ _ _ _ _ _ _ _ _ _ _ _ _ _ _ _ _ _ _ _ _ _) ?_
    rintro _ w8 ⟨u12,u47,u48,u49,u50,u51,u52,u53,u54,u55,u56,u57,u58,u59,u60,u61,u62,u63,u64,u65,u66,u67,u68,u69,u70,u71,u72,u73,u74,u75,u76,u77,u78,u79,u80,u81,u82,u83,u84,u85,u86,u87,u88,u89,u90,u91,u92,u93,u94,u95,u96,u97,u98,u99,u100,u101,hp,rfl⟩
    clear z0 z1 z2 z3 z4 z5 z6 z7 z8 z9 z10 z11 e15 HBr HR
    rcases hp with ⟨s,B1,d1,A1,c1,rfl,HL,hu⟩|⟨A1,c1,HJ,hu⟩
    ·have HU2:=Aside0.mk hu
     have HL:=Aside0.mk HL
     clear hu
     have o15:w8.cell? ⟨b,15,none⟩=some (.bool false):=blk_cell HL.out.at_.out 15
     go_upto_region 16 with (fail)
     refine wp_normal (spReg16 w1 w8 w1.heap.size b wr.heap.size _ ⟨s.c,s.m,R.t,R.st,R.cs,false⟩ R.c s.t At ct _ vs vp _ HL hst1 htl _ _ _ _ _ _ _ _ _ _ _ _ _ _ _ _ _ _ _ _ _ _ _ _ _ _ _ _ _ _ _ _ _ _ _ _ _ _ _ _ _ _ _ _ _ _ _ _ _ _ _ _ _ _ _ _ _ _ _ _ _ _ _ _ _ _ _ _ _ _ _ _ _ _ _ _ _ _ _ _ _ _ _ _ _ _ _ _ _ _ _ _ _ _ _ _ _ _ _ _ _ _ _ _ _ _ _ _ _ _ _ _ _ _ _ _ _ _ _ _ _) ?_
     rintro _ w9 ⟨u104,u105,u106,u107,u108,u109,u110,u111,⟨v9,HL2⟩,rfl⟩
     have HL2:=Aside0.mk HL2
     clear o15 HL hst1
     go_upto_region 17 with (fail)
     refine wp_normal (spReg17 w1 w9 w1.heap.size b wr.heap.size _ _ R.c s.t _ _ _ vp _ HL2 hcs1 _ _ _ _ _ _ _ _ _ _ _ _ _ _ _ _ _ _ _ _ _ _ _ _ _ _ _ _ _ _ _ _ _ _ _ _ _ _ _ _ _ _ _ _ _ _ _ _ _ _ _ _ _ _ _ _ _ _ _ _ _ _ _ _ _ _ _ _ _ _ _ _ _ _ _ _ _ _ _ _ _ _ _ _ _ _ _ _ _ _ _ _ _ _ _ _ _ _ _ _ _ _ _ _ _ _ _ _ _ _ _ _ _ _ _ _ _ _ _ _ _) ?_
     rintro _ w10 ⟨u112,u113,u114,u115,u116,u117,⟨v10,HA,HC⟩,rfl⟩
     have HA:=Aside0.mk HA
     have HC:=Aside0.mk (Kd.R_reads' HC).2.2
     clear HL2 hcs1
     have hl18:(R.t.length+s.t.length)*4≤140737488355328:=by
      have h1:=(runN_ok E c l hc h.b hs (k+1)).tn
      rw[HU.out,HU2.out] at h1
      simp only[Rs.go,List.length_append] at h1
      omega
     go_upto_region 18 with (fail)
     refine wp_normal (spReg18 w1 w10 w1.heap.size b 0 _ s.t _ _ _ v10 B1 d1 HA HC hl18 _ _ _ _ _ _ _ _ _ _ _ _ _ _ _ _ _ _ _ _ _ _ _ _ _ _ _ _ _ _ _ _ _ _ _ _ _ _ _ _ _ _ _ _ _ _ _ _ _ _ _ _ _ _ _ _ _ _ _ _ _ _ _ _ _ _ _ _ _ _ _ _ _ _ _ _ _ _ _ _ _ _ _ _ _ _ _ _ _ _ _ _ _ _ _ _ _ _ _ _ _ _ _ _ _ _ _ _ _ _ _ _ _ _ _ _ _ _ _ _ _ _) ?_
     rintro _ w11 ⟨u118,u119,u120,u121,u122,⟨v11,HF⟩,rfl⟩
     have HF:=Aside0.mk HF
     clear HA HC hl18
     go_wp2_with fail
     have hre:runN E (rs0 c l) (k+1)=⟨s.c,s.m,R.t++s.t,R.st++[(R.t.length:Int)],R.cs++[R.c],false⟩:=by rw[HU.out,HU2.out];rfl
     exact ⟨⟨k+1,_,_,_,_,by omega,by go_num,by rw[hre],⟨by rw[hre];exact HF.out⟩⟩,by simp[intOf];omega⟩
    ·obtain ⟨q,hq⟩:∃ q:Rs,{ R with jam:=true }=q:=⟨_,rfl⟩
     have hqj:q.jam=true:=by rw[←hq]
     rw[hq] at HJ hu
     obtain ⟨vm2,vt2,HJ2⟩:∃ vm vt,SpcAt w1 w8 w1.heap.size b q vm vt vs vp:=⟨_,_,HJ⟩
     have HJ2:=Aside0.mk HJ2
     have hre:runN E (rs0 c l) (k+1)=q:=by rw[HU.out,hu]
     have hres:runN E (rs0 c l) n.toNat=q:=by
      obtain ⟨i,hi⟩:∃ i,n.toNat=k+1+i:=⟨n.toNat - (k+1),by omega⟩
      rw[hi,runN_stay E _ (k+1) (by rw[hre];exact hqj) i,hre]
     clear HJ hu hq hre hst1 hcs1 htl
     have o15:w8.cell? ⟨b,15,none⟩=some (.bool q.jam):=blk_cell HJ2.out.out 15
     rw[hqj] at o15
     go_upto_region 19 with (fail)
     clear o15
     obtain ⟨Ax,dx,ex,_,_⟩:=Kd.R_reads (HJ2.out.mem);obtain ⟨At,dt,et,_,_⟩:=(HJ2.out.log).reads;obtain ⟨As,ds,es,_,_⟩:=(HJ2.out.st).reads;obtain ⟨Ap,dp,ep,_,_⟩:=(HJ2.out.cs).reads;subst ex et es ep;have hkb:=HJ2.out;have KRx:Blk w8 (w.heap.size+1+1) #[.int .u8 0,.int .u8 0,.int .u8 0,.int .u8 0,.int .u16 0,.bool false,.bool false,.bool false,.bool false,.bool false,.bool false,.slice none 0 0,.slice none 0 0,.slice none 0 0,.slice none 0 0,.bool false] 38:=(hkb.below.block _ KR.out.lt).trans KR.out;have hb0:=hkb.hg;have hrl:=KR.out.lt;have HBx:Below w.heap.size w w8:=Below.trans (blw:Below w.heap.size w w1) (hkb.below.mono (by (first|omega|(simp only[sA,sC,sD] <;> omega)|(simp <;> omega))));have HOWN:=Aside0.mk (fun (W:World) hk=>SpcAt.own (W:=W) hkb hk);have HKS:=Aside0.mk hkb.out;have HRES:=Aside0.mk hres;have HKR:=Aside0.mk KRx;have HBX:=Aside0.mk HBx;clear hres KRx HBx hkb;refine wp_normal (spReg19 w8 _ _ q.c _ _ _ _ _ _ _ _ _ _ _ _ _ HKS.out HKR.out _ _ _ _ _ _ _ _ _ _ _ _ _ _ _ _ _ _ _ _ _ _ _ _ _ _ _ _ _ _ _ _ _ _ _ _ _ _ _ _ _ _ _ _ _ _ _ _ _ _ _ _ _ _ _ _ _ _ _ _ _ _ _ _ _ _ _ _ _ _ _ _ _ _ _ _ _ _ _ _ _ _ _ _ _ _ _ _ _ _ _ _ _ _ _ _ _ _ _ _ _ _ _ _ _ _ _ _ _ _ _ _ _ _ _ _ _ _ _ _ _ _) ?_;rintro _ w12 ⟨u123,⟨KS2,hf2,hb2⟩,rfl⟩;have HF2:=Aside0.mk hf2;have HB12:=Aside0.mk (hb2 _ _ HBX.out (by omega));obtain ⟨x0,x1,x2,x3,x4,x5,x6,x7,x8,x9,x10,x11,x12,x13,x14,x15⟩:=cells16 KS2;have hl12:=KS2.lt;clear hf2 hb2 KS2;go_wp2_with fail;(refine bodyPost_ret (v:=.agg #[.int .u8 q.c.A,.int .u8 q.c.X,.int .u8 q.c.Y,.int .u8 q.c.S,.int .u16 q.c.PC,.bool q.c.F.N,.bool q.c.F.V,.bool q.c.F.D,.bool q.c.F.I,.bool q.c.F.Z,.bool q.c.F.C,.slice Ax q.m.length dx,.slice At q.t.length dt,.slice As q.st.length ds,.slice Ap q.cs.length dp,.bool q.jam]) (by (simp only[results,Tryz.results12];go_simp <;> (rfl))) rfl ?_);rw[HRES.out];exact ⟨_,_,_,_,_,_,_,_,rfl,OwnB.lower (HOWN.out _ (fun k h1 h2=>HF2.out k (by omega))).1 (by (first|omega|(simp only[sA,sC,sD] <;> omega)|(simp <;> omega))),OwnC.lower (HOWN.out _ (fun k h1 h2=>HF2.out k (by omega))).2.1 (by (first|omega|(simp only[sA,sC,sD] <;> omega)|(simp <;> omega))),OwnI.lower (HOWN.out _ (fun k h1 h2=>HF2.out k (by omega))).2.2.1 (by (first|omega|(simp only[sA,sC,sD] <;> omega)|(simp <;> omega))),OwnP.lower (HOWN.out _ (fun k h1 h2=>HF2.out k (by omega))).2.2.2 (by (first|omega|(simp only[sA,sC,sD] <;> omega)|(simp <;> omega))),HB12.out⟩
   ·have hres:runN E (rs0 c l) n.toNat=R:=by rw[show n.toNat=k by omega];exact HRR.out
    go_upto_region 19 with (fail)
    clear e15
    obtain ⟨Ax,dx,ex,_,_⟩:=Kd.R_reads (HR.out.mem);obtain ⟨At,dt,et,_,_⟩:=(HR.out.log).reads;obtain ⟨As,ds,es,_,_⟩:=(HR.out.st).reads;obtain ⟨Ap,dp,ep,_,_⟩:=(HR.out.cs).reads;subst ex et es ep;have hkb:=HR.out;have KRx:Blk wr (w.heap.size+1+1) #[.int .u8 0,.int .u8 0,.int .u8 0,.int .u8 0,.int .u16 0,.bool false,.bool false,.bool false,.bool false,.bool false,.bool false,.slice none 0 0,.slice none 0 0,.slice none 0 0,.slice none 0 0,.bool false] 38:=(hkb.below.block _ KR.out.lt).trans KR.out;have hb0:=hkb.hg;have hrl:=KR.out.lt;have HBx:Below w.heap.size w wr:=Below.trans (blw:Below w.heap.size w w1) (hkb.below.mono (by (first|omega|(simp only[sA,sC,sD] <;> omega)|(simp <;> omega))));have HOWN:=Aside0.mk (fun (W:World) hk=>SpcAt.own (W:=W) hkb hk);have HKS:=Aside0.mk hkb.out;have HRES:=Aside0.mk hres;have HKR:=Aside0.mk KRx;have HBX:=Aside0.mk HBx;clear hres KRx HBx hkb;refine wp_normal (spReg19 wr _ _ R.c _ _ _ _ _ _ _ _ _ _ _ _ _ HKS.out HKR.out _ _ _ _ _ _ _ _ _ _ _ _ _ _ _ _ _ _ _ _ _ _ _ _ _ _ _ _ _ _ _ _ _ _ _ _ _ _ _ _ _ _ _ _ _ _ _ _ _ _ _ _ _ _ _ _ _ _ _ _ _ _ _ _ _ _ _ _ _ _ _ _ _ _ _ _ _ _ _ _ _ _ _ _ _ _ _ _ _ _ _ _ _ _ _ _ _ _ _ _ _ _ _ _ _ _ _ _ _ _ _ _ _ _ _ _ _ _ _ _ _ _) ?_;rintro _ w12 ⟨u123,⟨KS2,hf2,hb2⟩,rfl⟩;have HF2:=Aside0.mk hf2;have HB12:=Aside0.mk (hb2 _ _ HBX.out (by omega));obtain ⟨x0,x1,x2,x3,x4,x5,x6,x7,x8,x9,x10,x11,x12,x13,x14,x15⟩:=cells16 KS2;have hl12:=KS2.lt;clear hf2 hb2 KS2;go_wp2_with fail;(refine bodyPost_ret (v:=.agg #[.int .u8 R.c.A,.int .u8 R.c.X,.int .u8 R.c.Y,.int .u8 R.c.S,.int .u16 R.c.PC,.bool R.c.F.N,.bool R.c.F.V,.bool R.c.F.D,.bool R.c.F.I,.bool R.c.F.Z,.bool R.c.F.C,.slice Ax R.m.length dx,.slice At R.t.length dt,.slice As R.st.length ds,.slice Ap R.cs.length dp,.bool R.jam]) (by (simp only[results,Tryz.results12];go_simp <;> (rfl))) rfl ?_);rw[HRES.out];exact ⟨_,_,_,_,_,_,_,_,rfl,OwnB.lower (HOWN.out _ (fun k h1 h2=>HF2.out k (by omega))).1 (by (first|omega|(simp only[sA,sC,sD] <;> omega)|(simp <;> omega))),OwnC.lower (HOWN.out _ (fun k h1 h2=>HF2.out k (by omega))).2.1 (by (first|omega|(simp only[sA,sC,sD] <;> omega)|(simp <;> omega))),OwnI.lower (HOWN.out _ (fun k h1 h2=>HF2.out k (by omega))).2.2.1 (by (first|omega|(simp only[sA,sC,sD] <;> omega)|(simp <;> omega))),OwnP.lower (HOWN.out _ (fun k h1 h2=>HF2.out k (by omega))).2.2.2 (by (first|omega|(simp only[sA,sC,sD] <;> omega)|(simp <;> omega))),HB12.out⟩
end Go.Proofs.YtoncmhfmkfeolaaGreatDoor
