/- Run. -/
import Derived.Test.YtoncmhfmkfeolaaGreatDoorGP
import Derived.Deep.RegionHeld3
import Derived.Deep.DeepCutAuto
import Derived.Deep.CutBlock
set_option maxRecDepth 100000
set_option maxHeartbeats 8000000
set_option linter.unusedVariables false
set_option linter.unusedSimpArgs false
namespace Go.Proofs.YtoncmhfmkfeolaaGreatDoor
open Go.RowKit Go.Proofs.YtoncmhfmkfeolaaGreatDoorW.PrintWords
theorem runN_stay (E:List Evt) (r:Rs) (k:Nat) (h:(runN E r k).jam=true) (j:Nat):runN E r (k+j)=runN E r k:=by
 induction j with
 |zero=>rfl
 |succ j ih=>rw[←Nat.add_assoc,runN,ih,if_pos h]
theorem impl_Run (c:Cpu) (A:Option Addr) (d:Nat) (l:List Int) (B:Option Addr) (e:Nat) (E:List Evt) (n:Int) (w:World) (hc:c.ok) (h:Bs w A l) (hE:evK.C w B E.length E) (hl:E.length≤1048576) (he:Env w) :
  Calls Tryz.prog 11 #[.agg #[.int .u8 c.A,.int .u8 c.X,.int .u8 c.Y,.int .u8 c.S,.int .u16 c.PC,.bool c.F.N,.bool c.F.V,.bool c.F.D,.bool c.F.I,.bool c.F.Z,.bool c.F.C],.agg #[.slice A l.length d],.slice B E.length e,.int .i64 n] w fun e w'=>RunRet (run c l E n) w w' e:=by
 obtain ⟨q,hq⟩:∃ q,runOk l E n=q:=⟨_,rfl⟩
 cases q
 ·have e:run c l E n=rs0 cpu0 []:=by simp[run,hq]
  rw[e]
  clear e
  obtain ⟨q1,hq1⟩:∃ q,ramSize l.length=q:=⟨_,rfl⟩
  obtain ⟨q2,hq2⟩:∃ q,(decide ((0:Int)≤n) && decide (n≤120))=q:=⟨_,rfl⟩
  have h16:q1=true→q2=true→(16:Int)<(E.length:Int):=fun e1 e2=>by
   unfold runOk at hq
   rw[hq1,hq2,e1,e2] at hq
   simp at hq
   omega
  clear hq
  cases q1
  ·exact impl_Run_ram c A d l B e E.length n w (by omega) hq1
  cases q2
  ·exact impl_Run_n c A d l B e E.length n w (by omega) hq1 hq2
  ·exact impl_Run_ev c A d l B e E.length n w (by omega) hq1 hq2 (h16 rfl rfl)
 ·have e:run c l E n=runN E (rs0 c l) n.toNat:=by simp[run,hq]
  rw[e]
  clear e
  obtain ⟨hs,n0,n1,hl16⟩:=runOk_said hq
  have hsl:=ramSize_le hs
  have hwi:(decide ((0:Int)≤n) && decide (n≤120))=true:=by simp[n0,n1]
  clear hq
  have HB:=hR w;go_enter Tryz.func11,Tryz.ntmps11
  go_wp2_with fail
  refine (impl_RamOk _ _ _ _).mono ?_
  rintro _ w1 ⟨rfl,hb⟩
  have K4:Aside0 (Blk w1 w.heap.size #[.int .u8 c.A,.int .u8 c.X,.int .u8 c.Y,.int .u8 c.S,.int .u16 c.PC,.bool c.F.N,.bool c.F.V,.bool c.F.D,.bool c.F.I,.bool c.F.Z,.bool c.F.C] 28):=⟨Blk.below (((Blk.at rfl).alloc _).alloc _) hb⟩
  have K5:Aside0 (Blk w1 (w.heap.size+1) #[.slice A l.length d] 30):=⟨Blk.below ((Blk.at (by simp)).alloc _) hb⟩
  have KR:Aside0 (Blk w1 (w.heap.size+1+1) #[.int .u8 0,.int .u8 0,.int .u8 0,.int .u8 0,.int .u16 0,.bool false,.bool false,.bool false,.bool false,.bool false,.bool false,.slice none 0 0,.slice none 0 0,.slice none 0 0,.slice none 0 0,.bool false] 38):=⟨Blk.below (Blk.at (by simp)) hb⟩
  (have HB:=Aside0.mk (below_step (w:=w) blw hb);have hz1:=hb.size;obtain ⟨hcl1,hfr1,hlt1,_⟩:=bcell hb;(try simp only[sA,sC,sD] at hz1);(try simp only[sA,sC,sD] at hcl1 hfr1 hlt1);have hk1_0:w.heap.size<w1.heap.size:=(by omega);have hk1_1:w.heap.size+1<w1.heap.size:=(by omega);have hk1_2:w.heap.size+1+1<w1.heap.size:=(by omega);have HB1:=hR w1;clear hb)
  go_wp2_with fail
  refine (impl_within _ _ _ _).mono ?_
  rintro _ _ ⟨rfl,rfl⟩
  go_upto_region 3 with (fail)
  have he1:=Env.toL (he.below (w':=w1) (blw)) (Nat.le_refl w1.heap.size)
  refine wp_mono (runReg3 c A l d w w1 _ _ h hs (blw) K4.out K5.out _ _ _ _ _ _ _ _ _ _ _ _ _ _ _ _ _ _ _ _ _ _ _ _ _ _ _ _ _ _ _ _ _ _ _ _ _ _ _ _ _ _ _ _ _ _ _ _ _ _ _ _ _ _ _ _ _ _ _ _ _ _ _ _ _ _ _ _ _ _ _ _ _ _ _ _ _ _ _ _ _ _ _ _ _ _ _ _ _ _ _ _ _ _ _ _ _ _ _ _ _ _ _ _ _ _ _ _ _ _ _ _ _) ?_
  rintro _ _ w3 ⟨rfl,u9,u10,u28,u29,u30,u31,u32,u33,⟨g,b,r,cap,rfl,rfl,HR0⟩,rfl⟩
  have HR0:=Aside0.mk HR0
  go_wp2_with fail
  go_loopw [35] (fun v35 wr=>∃ k:Nat,∃ v us up:Value,k≤n.toNat∧v35=.int .i64 k∧(runN E (rs0 c l) k).jam=false∧Aside0 (RunAt w1 wr ⟨w1.heap.size,g,r,cap⟩ v b (runN E (rs0 c l) k) (10*k) us up us up false)) (fun v35 _=>n.toNat - (intOf v35).toNat)
  case atStart=>exact ⟨0,_,_,_,Nat.zero_le _,rfl,rfl,HR0⟩
  case round =>
   clear HR0
   obtain ⟨k,v,us,up,hk,rfl,hj,HR⟩:=hrel
   have OK:=Aside0.mk (runN_ok E c l hc h.b hs k)
   have HU:Aside0 (runN E (rs0 c l) (k+1)=unitN E k (runN E (rs0 c l) k)):=⟨by rw[runN,if_neg (by simp[hj])]⟩
   generalize hR:runN E (rs0 c l) k=R at *
   have HRR:=Aside0.mk hR
   clear hR
   obtain ⟨Av,dv,ev,_,_⟩:=Kd.R_reads (Hold.log HR.out.hold)
   simp only[] at ev
   subst ev
   have hRt:=OK.out.tn
   obtain ⟨e0,e1,e2,e3,e4,e5,e6,e7,e8,e9,e10,e11,e12,hfz,hlt1⟩:=HR.out.facts
   simp only[] at e0 e1 e2 e3 e4 e5 e6 e7 e8 e9 e10 e11 e12 hlt1
   by_cases hlt:k<n.toNat
   ·have hltn:(k:Int)<n:=by omega
    go_wp2_with fail
    go_region_held3 (fun w'=>w'.cell? ⟨g,0,none⟩=some (.int .u8 R.c.A)∧w'.cell? ⟨g,1,none⟩=some (.int .u8 R.c.X)∧w'.cell? ⟨g,2,none⟩=some (.int .u8 R.c.Y)∧w'.cell? ⟨g,3,none⟩=some (.int .u8 R.c.S)∧w'.cell? ⟨g,4,none⟩=some (.int .u16 R.c.PC)∧w'.cell? ⟨g,5,none⟩=some (.bool R.c.F.N)∧w'.cell? ⟨g,6,none⟩=some (.bool R.c.F.V)∧w'.cell? ⟨g,7,none⟩=some (.bool R.c.F.D)∧w'.cell? ⟨g,8,none⟩=some (.bool R.c.F.I)∧w'.cell? ⟨g,9,none⟩=some (.bool R.c.F.Z)∧w'.cell? ⟨g,10,none⟩=some (.bool R.c.F.C)∧w'.cell? ⟨g,12,none⟩=some (.slice Av R.t.length dv)) (first|(go_keep;done)|(go_split_ands;(repeat' apply And.intro) <;> (first|(with_reducible assumption)|(go_simp;done)|(exact cell_keep blw (by assumption))|exact blw))) (first|fail)
    have HBr:=Aside0.mk (below_step (w:=w) (blw) HR.out.below)
    have HBR:=hR wr
    go_upto_block 2 with (fail)
    refine wp_normal (runSwitch l B e E k w w1 _ g r cap b wr.heap.size _ us up R hE hl (by omega) hs he1 OK ⟨blw⟩ ⟨HR.out.wait (blw)⟩ ⟨by (repeat (with_reducible first| (refine Blk.far ?_ ?_;rotate_left;(first|omega|(simp only[sA,sC,sD] <;> omega)|(simp <;> omega)))|(refine Blk.at ?_;(first|omega|(simp only[sA,sC,sD] <;> omega)|(simp <;> omega)))|refine Blk.alloc ?_ _|refine Blk.drew ?_))⟩ ⟨blw⟩ _ _ _ _ _ _ _ _ _ _ _ _ _ _ _ _ _ _ _ _ _ _ _ _ _ _ _ _ _ _ _ _ _ _ _ _ _ _ _ _ _ _ _ _ _ _ _ _ _ _ _ _ _ _ _ _ _ _ _ _ _ _ _ _ _ _ _ _ _ _ _ _ _ _ _ _ _ _ _ _ _ _ _ _ _ _ _ _ _ _ _ _ _ _ _ _ _ _ _ _ _ _ _ _ _ _ _ _ _ _ _) ?_
    rintro _ w8 ⟨u47,u48,u49,u50,u51,u52,u53,u54,u55,u56,u57,u58,u59,u60,u61,u62,u63,u64,u65,u66,u67,u68,u69,u70,u71,u72,u73,u74,u75,u76,u77,u78,u79,u80,u81,u82,u83,⟨v',q,m,HQ,hst,hcs,hm,KB,hu⟩,rfl⟩
    have HQ:=Aside0.mk HQ
    have KB:=Aside0.mk KB
    have hupl:∀ x,up.ownBlock=some x→x<wr.heap.size:=fun x e=>Kd.R_lt HR.out.cs x e
    have HUP:=Aside0.mk hupl
    have hzq:wr.heap.size<w8.heap.size:=KB.out.lt
    obtain ⟨Aq,dq,evq,_,_⟩:=Kd.R_reads (Hold.log HQ.out.hold)
    simp only[] at evq
    subst evq
    clear hupl HBR HR e0 e1 e2 e3 e4 e5 e6 e7 e8 e9 e10 e11 e12 hfz hlt1 HBr
    obtain ⟨oc,of,ol⟩:=HQ.out.outFacts
    have o13:w8.cell? ⟨b,13,none⟩=some us:=oc 13
    have o14:w8.cell? ⟨b,14,none⟩=some up:=oc 14
    have o15:w8.cell? ⟨b,15,none⟩=some (.bool q.jam):=oc 15
    obtain ⟨jq,hjq⟩:∃ x,q.jam=x:=⟨_,rfl⟩
    rw[hjq] at o15 hu
    have HU2:=Aside0.mk hu
    have HJQ:=Aside0.mk hjq
    have HST:=Aside0.mk hst
    have HCS:=Aside0.mk hcs
    clear hu hjq hst hcs
    cases jq
    ·have hst1:(q.st.length+1)*8≤140737488355328:=by rw[HST.out];have:=OK.out.sn;omega
     have hcs1:(q.cs.length+1)*12≤140737488355328:=by rw[HCS.out];have:=OK.out.sn;have:=OK.out.cn;omega
     have hup:some wr.heap.size ≠ up.ownBlock:=fun e=>by have:=HUP.out _ e.symm;omega
     clear oc of
     go_upto_region 16 with (fail)
     refine wp_mono (runReg16 R.c R.t.length wr.heap.size b w1.heap.size g r cap m w1 w8 (.slice Aq q.t.length dq) us up q q.jam HQ KB hup hzq hst1 hcs1 _ _ _ _ _ _ _ _ _ _ _ _ _ _ _ _ _ _ _ _ _ _ _ _ _ _ _ _ _ _ _ _ _ _ _ _ _ _ _ _ _ _ _ _ _ _ _ _ _ _ _ _ _ _ _ _ _ _ _ _ _ _ _ _ _ _ _ _ _ _ _ _ _ _ _ _ _ _ _ _ _ _ _ _ _ _ _ _ _ _ _ _ _ _ _ _ _ _ _ _ _ _ _ _ _ _ _ _ _ _ _ _) ?_
     rintro _ _ w10 ⟨rfl,u86,u87,u88,u89,u90,u91,u92,u93,u94,u95,u96,u97,⟨v9,v10,HZ⟩,rfl⟩
     have HZ:=Aside0.mk HZ
     clear hst1 hcs1 hup HQ KB
     go_wp2_with fail
     have hre:runN E (rs0 c l) (k+1)=⟨q.c,q.m,q.t,q.st++[(R.t.length:Int)],q.cs++[R.c],false⟩:=by rw[HU.out,HU2.out,HST.out,HCS.out];rfl
     exact ⟨⟨k+1,_,v9,v10,by omega,by go_num,by rw[hre],⟨by rw[hre];have hz:=HZ.out;rw[HJQ.out] at hz;exact (hz.jamTo false).raise (by omega)⟩⟩,by simp[intOf];omega⟩
    ·have hre:runN E (rs0 c l) (k+1)=q:=by rw[HU.out,HU2.out];rfl
     have hres:runN E (rs0 c l) n.toNat=q:=by
      obtain ⟨i,hi⟩:∃ i,n.toNat=k+1+i:=⟨n.toNat - (k+1),by omega⟩
      rw[hi,runN_stay E _ (k+1) (by rw[hre];exact HJQ.out) i,hre]
     have HJ0:Aside0 (q.jam=true):=HJQ
     clear oc of hre
     obtain ⟨As,ds,es,_,_⟩:=(HQ.out.st).reads;obtain ⟨Ap,dp,ep,_,_⟩:=(HQ.out.cs).reads;subst es ep;go_upto_region 18 with (fail);refine wp_mono (runReg18 w1 w8 w1.heap.size g r cap b _ Aq dq q _ _ _ HQ _ _ _ _ _ _ _ _ _ _ _ _ _ _ _ _ _ _ _ _ _ _ _ _ _ _ _ _ _ _ _ _ _ _ _ _ _ _ _ _ _ _ _ _ _ _ _ _ _ _ _ _ _ _ _ _ _ _ _ _ _ _ _ _ _ _ _ _ _ _ _ _ _ _ _ _ _ _ _ _ _ _ _ _ _ _ _ _ _ _ _ _ _ _ _ _ _ _ _ _ _ _ _ _ _ _ _ _ _ _ _ _ _) ?_;rintro _ _ w11 ⟨rfl,u99,u100,u101,u102,u103,u104,u105,u106,u107,u108,u109,u110,u111,u112,u113,⟨KS,hfar,hbel,hsz⟩,rfl⟩;have KR11:Blk w11 (w.heap.size+1+1) #[.int .u8 0,.int .u8 0,.int .u8 0,.int .u8 0,.int .u16 0,.bool false,.bool false,.bool false,.bool false,.bool false,.bool false,.slice none 0 0,.slice none 0 0,.slice none 0 0,.slice none 0 0,.bool false] 38:=(hbel.block _ KR.out.lt).trans KR.out;have hb0:=HQ.out.hg;have hrl:=KR.out.lt;have HBx:=Below.trans (blw:Below w.heap.size w w1) (hbel.mono (by (first|omega|(simp only[sA,sC,sD] <;> omega)|(simp <;> omega))));have HOWN:=Aside0.mk (fun (W:World) hk=>RunAt.own (W:=W) HQ.out hk);simp only[] at hb0 HOWN;have HRES:=Aside0.mk hres;have HF:=Aside0.mk hfar;have HKS:=Aside0.mk KS;have HKR:=Aside0.mk KR11;have HBX:=Aside0.mk HBx;clear hbel hres hfar KS KR11 HBx;go_upto_region 19 with (fail);refine wp_normal (runReg19 w11 _ _ q.c _ _ _ _ _ _ _ _ _ _ _ _ _ HKS.out HKR.out _ _ _ _ _ _ _ _ _ _ _ _ _ _ _ _ _ _ _ _ _ _ _ _ _ _ _ _ _ _ _ _ _ _ _ _ _ _ _ _ _ _ _ _ _ _ _ _ _ _ _ _ _ _ _ _ _ _ _ _ _ _ _ _ _ _ _ _ _ _ _ _ _ _ _ _ _ _ _ _ _ _ _ _ _ _ _ _ _ _ _ _ _ _ _ _ _ _ _ _ _ _ _ _ _ _ _ _ _ _ _ _ _) ?_;rintro _ w12 ⟨u114,⟨KS2,hf2,hb2⟩,rfl⟩;have HF2:=Aside0.mk hf2;have HB12:=Aside0.mk (hb2 _ _ HBX.out (by omega));obtain ⟨x0,x1,x2,x3,x4,x5,x6,x7,x8,x9,x10,x11,x12,x13,x14,x15⟩:=cells16 KS2;have hl12:=KS2.lt;clear hf2 hb2 KS2;go_wp2_with fail;(refine bodyPost_ret (v:=.agg #[.int .u8 q.c.A,.int .u8 q.c.X,.int .u8 q.c.Y,.int .u8 q.c.S,.int .u16 q.c.PC,.bool q.c.F.N,.bool q.c.F.V,.bool q.c.F.D,.bool q.c.F.I,.bool q.c.F.Z,.bool q.c.F.C,.slice (some ⟨r,0,none⟩) q.m.length cap,.slice Aq q.t.length dq,.slice As q.st.length ds,.slice Ap q.cs.length dp,.bool q.jam]) (by (simp only[results,Tryz.results11];go_simp <;> (rfl))) rfl ?_);rw[HRES.out];exact ⟨_,_,_,_,_,_,_,_,rfl,OwnB.lower (HOWN.out _ (fun k h1 h2=>(HF2.out k (by omega)).trans (HF.out k h2))).1 (by (first|omega|(simp only[sA,sC,sD] <;> omega)|(simp <;> omega))),OwnC.lower (HOWN.out _ (fun k h1 h2=>(HF2.out k (by omega)).trans (HF.out k h2))).2.1 (by (first|omega|(simp only[sA,sC,sD] <;> omega)|(simp <;> omega))),OwnI.lower (HOWN.out _ (fun k h1 h2=>(HF2.out k (by omega)).trans (HF.out k h2))).2.2.1 (by (first|omega|(simp only[sA,sC,sD] <;> omega)|(simp <;> omega))),OwnP.lower (HOWN.out _ (fun k h1 h2=>(HF2.out k (by omega)).trans (HF.out k h2))).2.2.2 (by (first|omega|(simp only[sA,sC,sD] <;> omega)|(simp <;> omega))),HB12.out⟩
   ·have hres:runN E (rs0 c l) n.toNat=R:=by rw[show n.toNat=k by omega];exact HRR.out
    clear e0 e1 e2 e3 e4 e5 e6 e7 e8 e9 e10 e11 e12 hfz hlt1
    obtain ⟨As,ds,es,_,_⟩:=(HR.out.st).reads;obtain ⟨Ap,dp,ep,_,_⟩:=(HR.out.cs).reads;subst es ep;go_upto_region 18 with (fail);refine wp_mono (runReg18 w1 wr w1.heap.size g r cap b _ Av dv R _ _ _ HR _ _ _ _ _ _ _ _ _ _ _ _ _ _ _ _ _ _ _ _ _ _ _ _ _ _ _ _ _ _ _ _ _ _ _ _ _ _ _ _ _ _ _ _ _ _ _ _ _ _ _ _ _ _ _ _ _ _ _ _ _ _ _ _ _ _ _ _ _ _ _ _ _ _ _ _ _ _ _ _ _ _ _ _ _ _ _ _ _ _ _ _ _ _ _ _ _ _ _ _ _ _ _ _ _ _ _ _ _ _ _ _ _) ?_;rintro _ _ w11 ⟨rfl,u99,u100,u101,u102,u103,u104,u105,u106,u107,u108,u109,u110,u111,u112,u113,⟨KS,hfar,hbel,hsz⟩,rfl⟩;have KR11:Blk w11 (w.heap.size+1+1) #[.int .u8 0,.int .u8 0,.int .u8 0,.int .u8 0,.int .u16 0,.bool false,.bool false,.bool false,.bool false,.bool false,.bool false,.slice none 0 0,.slice none 0 0,.slice none 0 0,.slice none 0 0,.bool false] 38:=(hbel.block _ KR.out.lt).trans KR.out;have hb0:=HR.out.hg;have hrl:=KR.out.lt;have HBx:=Below.trans (blw:Below w.heap.size w w1) (hbel.mono (by (first|omega|(simp only[sA,sC,sD] <;> omega)|(simp <;> omega))));have HOWN:=Aside0.mk (fun (W:World) hk=>RunAt.own (W:=W) HR.out hk);simp only[] at hb0 HOWN;have HRES:=Aside0.mk hres;have HF:=Aside0.mk hfar;have HKS:=Aside0.mk KS;have HKR:=Aside0.mk KR11;have HBX:=Aside0.mk HBx;clear hbel hres hfar KS KR11 HBx;go_upto_region 19 with (fail);refine wp_normal (runReg19 w11 _ _ R.c _ _ _ _ _ _ _ _ _ _ _ _ _ HKS.out HKR.out _ _ _ _ _ _ _ _ _ _ _ _ _ _ _ _ _ _ _ _ _ _ _ _ _ _ _ _ _ _ _ _ _ _ _ _ _ _ _ _ _ _ _ _ _ _ _ _ _ _ _ _ _ _ _ _ _ _ _ _ _ _ _ _ _ _ _ _ _ _ _ _ _ _ _ _ _ _ _ _ _ _ _ _ _ _ _ _ _ _ _ _ _ _ _ _ _ _ _ _ _ _ _ _ _ _ _ _ _ _ _ _ _) ?_;rintro _ w12 ⟨u114,⟨KS2,hf2,hb2⟩,rfl⟩;have HF2:=Aside0.mk hf2;have HB12:=Aside0.mk (hb2 _ _ HBX.out (by omega));obtain ⟨x0,x1,x2,x3,x4,x5,x6,x7,x8,x9,x10,x11,x12,x13,x14,x15⟩:=cells16 KS2;have hl12:=KS2.lt;clear hf2 hb2 KS2;go_wp2_with fail;(refine bodyPost_ret (v:=.agg #[.int .u8 R.c.A,.int .u8 R.c.X,.int .u8 R.c.Y,.int .u8 R.c.S,.int .u16 R.c.PC,.bool R.c.F.N,.bool R.c.F.V,.bool R.c.F.D,.bool R.c.F.I,.bool R.c.F.Z,.bool R.c.F.C,.slice (some ⟨r,0,none⟩) R.m.length cap,.slice Av R.t.length dv,.slice As R.st.length ds,.slice Ap R.cs.length dp,.bool false]) (by (simp only[results,Tryz.results11];go_simp <;> (rfl))) rfl ?_);rw[HRES.out];exact ⟨_,_,_,_,_,_,_,_,(by rw[hj]),OwnB.lower (HOWN.out _ (fun k h1 h2=>(HF2.out k (by omega)).trans (HF.out k h2))).1 (by (first|omega|(simp only[sA,sC,sD] <;> omega)|(simp <;> omega))),OwnC.lower (HOWN.out _ (fun k h1 h2=>(HF2.out k (by omega)).trans (HF.out k h2))).2.1 (by (first|omega|(simp only[sA,sC,sD] <;> omega)|(simp <;> omega))),OwnI.lower (HOWN.out _ (fun k h1 h2=>(HF2.out k (by omega)).trans (HF.out k h2))).2.2.1 (by (first|omega|(simp only[sA,sC,sD] <;> omega)|(simp <;> omega))),OwnP.lower (HOWN.out _ (fun k h1 h2=>(HF2.out k (by omega)).trans (HF.out k h2))).2.2.2 (by (first|omega|(simp only[sA,sC,sD] <;> omega)|(simp <;> omega))),HB12.out⟩
end Go.Proofs.YtoncmhfmkfeolaaGreatDoor
