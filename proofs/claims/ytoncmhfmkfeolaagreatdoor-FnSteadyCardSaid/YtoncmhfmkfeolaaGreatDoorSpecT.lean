/- The reference's Step: jumps and the stack; the whole. -/
import Derived.Test.YtoncmhfmkfeolaaGreatDoorSpecS
import Derived.Deep.DeepCutAuto
import Derived.Deep.CutBlock
set_option linter.unusedVariables false
set_option linter.unusedSimpArgs false
namespace Go.Proofs.YtoncmhfmkfeolaaGreatDoor
open Go.RowKit Go.Proofs.YtoncmhfmkfeolaaGreatDoorW.PrintWords
set_option maxRecDepth 20000 in
set_option maxHeartbeats 4000000 in
theorem spec_StepB (c : Cpu) (A : Option Addr) (d : Nat) (l : List Int) (w : World) (hc : c.ok) (h : Bs w A l) (hq : ramSize l.length = true) (hj : jams l c.PC = false) (hcase : ¬ kindI (peek l c.PC) < 6) :
    Calls Tryz.prog 60 #[.agg #[.int .u8 c.A,.int .u8 c.X,.int .u8 c.Y,.int .u8 c.S,.int .u16 c.PC,.bool c.F.N,.bool c.F.V,.bool c.F.D,.bool c.F.I,.bool c.F.Z,.bool c.F.C],.agg #[.slice A l.length d]] w fun e w' => ∃ A1 c1 B1 d1,e = .returned (.tuple #[.agg #[.int .u8 (step c l).c.A,.int .u8 (step c l).c.X,.int .u8 (step c l).c.Y,.int .u8 (step c l).c.S,.int .u16 (step c l).c.PC,.bool (step c l).c.F.N,.bool (step c l).c.F.V,.bool (step c l).c.F.D,.bool (step c l).c.F.I,.bool (step c l).c.F.Z,.bool (step c l).c.F.C],.agg #[.slice A1 (step c l).m.length c1],.slice B1 (step c l).t.length d1]) ∧
      OwnB w' w.heap.size (.slice A1 (step c l).m.length c1) (step c l).m∧OwnC w' w.heap.size (.slice B1 (step c l).t.length d1) (step c l).t∧Below w.heap.size w w':=by
  have hs:=ramSize_le hq
  have hc0:=hc
  obtain ⟨a0,a1,x0,x1,y0,y1,s0',s1',p0,p1⟩:=hc0
  have hn : ¬ nmL (peek l c.PC) = []:=by
    intro hx
    simp [jams,hq,hx] at hj
  have e : step c l = ⟨stepC c ⟨l,[]⟩,(stepB c ⟨l,[]⟩).m,(stepB c ⟨l,[]⟩).t⟩:=by simp [step,hq,hj]
  obtain ⟨C,hC⟩ : ∃ x,stepC c ⟨l,[]⟩ = x:=⟨_,rfl⟩
  obtain ⟨D,hD⟩ : ∃ x,stepB c ⟨l,[]⟩ = x:=⟨_,rfl⟩
  rw [e,hC,hD]
  clear e
  have hjm:=fun A d W hw => spec_Jams A d l c.PC W hw p0 p1
  rw [hj] at hjm
  clear hj
  have pk:=peek_of h.b
  obtain ⟨k0,k1⟩:=pk c.PC
  unfold stepC at hC
  unfold stepB at hD
  have HB:=hR w;go_enter Tryz.func60,Tryz.ntmps60
  go_wp2_with fail
  refine (spec_RamOk _ _ _ _).mono ?_
  rintro _ w1 ⟨rfl,hb⟩
  obtain ⟨BP1,BR1,BQ1⟩:=start4 w c _ hb
  (have HB:=Aside0.mk (below_step (w:=w) blw hb);have hz1:=hb.size;obtain ⟨hcl1,hfr1,hlt1,_⟩:=bcell hb;(try simp only [sA,sC,sD] at hz1);(try simp only [sA,sC,sD] at hcl1 hfr1 hlt1);have hk1_0 : w.heap.size < w1.heap.size:=(by omega);have hk1_1 : w.heap.size+1 < w1.heap.size:=(by omega);have hk1_2 : w.heap.size+1+1 < w1.heap.size:=(by omega);have hk1_3 : w.heap.size+1+1+1 < w1.heap.size:=(by omega);have HB1:=hR w1;clear hb)
  go_wp2_with (first | ((with_reducible refine gate_dst (N:=15) rfl ?_);refine Kd.R_lit (Kd.int .u8) w1.heap.size 5 ?hg (N:=15) ?hd (xs:=([] : List Int)) (inner:=[]) (ok:=fun _ => True) (okp:=fun _ => True) ?hr ?hp (fun _ hk => hk) trivial (Below.refl _ _) (Nat.le_refl _) (by simp) ?_;(case hd => rfl);(case hg => rfl);(case hr => first | (go_simp;done) | (go_simp;rfl));(case hp => exact (Reps.none _ _));intro v1 w2 ho hb hg1 hn1;have HA:=Aside0.mk ho;clear ho hg1 hn1;have HB:=Aside0.mk (below_step (w:=w) blw hb);have HB1:=Aside0.mk (below_step (w:=w1) blw hb);have hz2:=hb.size;obtain ⟨hcl2,hfr2,hlt2,_⟩:=bcell hb;(try simp only [sA,sC,sD] at hz2);(try simp only [sA,sC,sD] at hcl2 hfr2 hlt2);have hk2_0 : w.heap.size < w2.heap.size:=(by omega);have hk2_1 : w.heap.size+1 < w2.heap.size:=(by omega);have hk2_2 : w.heap.size+1+1 < w2.heap.size:=(by omega);have hk2_3 : w.heap.size+1+1+1 < w2.heap.size:=(by omega);have HB2:=hR w2;clear hb) | (at_builtin;refine Kd.R_append_row (Value.int .u8) (0 : Int) (h1:=fun _ => rfl) w1.heap.size rfl _ _ 22 5 (.int .u8 0) 1 rfl Tryz.underlying22 infoU8 rfl (by decide) _ [] l _ _ _ (fun _ => True) rfl rfl (fun _ _ => trivial) ?a1 ?a2 (Below.refl _ _) ?a3 ?a4 ?_;(case a1 => exact HA.out);(case a2 => exact (Kd.C_below h.c HB.out));(case a3 => omega);(case a4 => simp;omega);intro v2 w3 ho2 hb2 hg2 hat2;rw [List.nil_append] at ho2;have hb : Below w1.heap.size w1 w3:=Below.trans (blw) hb2;clear hb2 hg2 hat2;(have HB:=Aside0.mk (below_step (w:=w) blw hb);have HB1:=Aside0.mk (below_step (w:=w1) blw hb);have hz3:=hb.size;obtain ⟨hcl3,hfr3,hlt3,_⟩:=bcell hb;(try simp only [sA,sC,sD] at hz3);(try simp only [sA,sC,sD] at hcl3 hfr3 hlt3);have hk3_0 : w.heap.size < w3.heap.size:=(by omega);have hk3_1 : w.heap.size+1 < w3.heap.size:=(by omega);have hk3_2 : w.heap.size+1+1 < w3.heap.size:=(by omega);have hk3_3 : w.heap.size+1+1+1 < w3.heap.size:=(by omega);have HB3:=hR w3;clear hb);have HO:=Aside0.mk (show OwnB _ _ _ _ from ho2);clear ho2;obtain ⟨A1,c1,e1,_,_⟩:=Kd.R_reads HO.out;subst e1;obtain ⟨r,cap,eo,gb,gl,cl,HCl⟩:=Kd.R_form HO.out (by omega);injection eo with ea en ec;subst ea ec;clear HCl en;have rb:=Kd.R_base HO.out r rfl;have H0:=HoldB.begin w3 w.heap.size r c1 l (OwnB.lower HO.out (by omega)) (by omega) hq h.b))
  refine Calls.mono (hjm _ _ _ (h.below (blw))) ?_
  rintro _ w4 ⟨rfl,hb⟩
  have H4:=H0.below hb
  (have HB:=Aside0.mk (below_step (w:=w) blw hb);have HB1:=Aside0.mk (below_step (w:=w1) blw hb);have hz4:=hb.size;obtain ⟨hcl4,hfr4,hlt4,_⟩:=bcell hb;(try simp only [sA,sC,sD] at hz4);(try simp only [sA,sC,sD] at hcl4 hfr4 hlt4);have hk4_0 : w.heap.size < w4.heap.size:=(by omega);have hk4_1 : w.heap.size+1 < w4.heap.size:=(by omega);have hk4_2 : w.heap.size+1+1 < w4.heap.size:=(by omega);have hk4_3 : w.heap.size+1+1+1 < w4.heap.size:=(by omega);have HB4:=hR w4;clear hb)
  have s4 : SW w w4 ⟨w.heap.size,w3.heap.size,r,c1⟩ (.slice none 0 0) (.slice none 0 0) ⟨l,[]⟩ 0 w.heap.size (w.heap.size+1+1) c cpu0 :=
    ⟨H4,Mv.of_below HB.out (Nat.le_refl _) _,BP1.keep (HB1.out.block _ BP1.lt),BR1.keep (HB1.out.block _ BR1.lt),⟨by simp only [];omega,by simp only [];omega,by simp [Value.ownBlock]⟩,⟨by simp only [];omega,by simp only [];omega,by simp [Value.ownBlock]⟩,by omega,Nat.le_refl _,by omega⟩
  have q4 : SQ w4 ⟨w.heap.size,w3.heap.size,r,c1⟩ (.slice none 0 0) (w.heap.size+1+1+1):=⟨(HB1.out.block _ (blk_lt BQ1)).trans BQ1,⟨by simp only [];omega,by simp only [];omega,by simp [Value.ownBlock]⟩⟩
  clear BP1 BR1 BQ1 H0 H4 HO HB HB1
  obtain ⟨code,hcode⟩ : ∃ code,peek l c.PC = code:=⟨_,rfl⟩
  rw [hcode] at hn k0 k1 hC hD hcase
  obtain ⟨e0,e1,e2,e3,e4,e5,e6,e7,e8,e9,e10,u0,u1,u2,u3,u4,u5,u6,u7,u8,u9,u10,fp,fr,lp,lr⟩:=s4.facts
  have hqc:=q4.cell;have hqf:=q4.free;have hql:=q4.lt
  go_wp2_with fail
  refine Calls.mono (spec_rd _ c.PC l ⟨l,[]⟩ rfl (by omega) (L:=⟨w.heap.size,w3.heap.size,r,c1⟩) s4.H (by omega)) ?_;rintro _ w5 ⟨rfl,v5,H5,M5⟩;have s5:=s4.call H5 M5;have q5:=q4.call M5;clear H5 M5;clear e0 e1 e2 e3 e4 e5 e6 e7 e8 e9 e10 u0 u1 u2 u3 u4 u5 u6 u7 u8 u9 u10 fp fr lp lr;obtain ⟨e0,e1,e2,e3,e4,e5,e6,e7,e8,e9,e10,u0,u1,u2,u3,u4,u5,u6,u7,u8,u9,u10,fp,fr,lp,lr⟩:=s5.facts;clear hqc hqf hql;have hqc:=q5.cell;have hqf:=q5.free;have hql:=q5.lt
  have hkd:=fun W => spec_KindOf code W k0 k1
  have hnd:=fun W => spec_NameOf code W k0 k1
  have hmd:=fun W => spec_ModeOf code W k0 k1
  have hsd:=fun W => spec_SizeOf code W k0 k1
  rw [of_byte (p:=fun c => kindS c = kindI c) kindSI code k0 k1] at hkd
  rw [of_byte (p:=fun c => nmS c = nmL c) nmSI code k0 k1] at hnd
  rw [of_byte (p:=fun c => mdS c = mdI c) mdSI code k0 k1] at hmd hsd
  have hok1:=codeOk_said (of_byte (p:=fun c => codeOk (nmL c) (kindI c) (mdI c) = true) codes_ok code k0 k1) hn
  have hok2:=codeOkS_said (of_byte (p:=fun c => codeOkS (nmL c) (kindI c) (mdI c) = true) codes_okS code k0 k1) hn
  unfold stpOf at hC
  unfold stpBus at hD
  generalize kindI code = k at *
  generalize mdI code = m at *
  generalize nmL code = x at *
  obtain ⟨⟨kk0,kk1⟩,hq2,hq3⟩:=hok1
  obtain ⟨B,hB⟩ : ∃ B,(⟨l,[]⟩ : Bus).rd c.PC = B:=⟨_,rfl⟩
  have hBm : B.m = l:=by rw [← hB];rfl
  rw [hB] at s5 hC hD
  clear hB
  have pk:=peek_of s5.H.peeks
  obtain ⟨z0,z1⟩:=pk ((c.PC+1) % 65536)
  have HC:=Aside0.mk hC
  have HD:=Aside0.mk hD
  have HBm:=Aside0.mk hBm
  clear hC hD hBm
  go_wp2_with fail
  refine Calls.mono (hkd _) ?_;rintro _ w6 ⟨rfl,hb⟩;have s6:=s5.below hb;have q6:=q5.below hb;clear hb;clear e0 e1 e2 e3 e4 e5 e6 e7 e8 e9 e10 u0 u1 u2 u3 u4 u5 u6 u7 u8 u9 u10 fp fr lp lr;obtain ⟨e0,e1,e2,e3,e4,e5,e6,e7,e8,e9,e10,u0,u1,u2,u3,u4,u5,u6,u7,u8,u9,u10,fp,fr,lp,lr⟩:=s6.facts;clear hqc hqf hql;have hqc:=q6.cell;have hqf:=q6.free;have hql:=q6.lt
  have hkd0:=hkd
  clear hkd
  have DS : DataSaid code k m x:=⟨hnd,hmd,hkd0,hsd⟩
  have hk : k = 6 ∨ k = 7 ∨ k = 8 ∨ k = 9 ∨ k = 10 ∨ k = 11 ∨ k = 12:=by omega
  clear hcase
  · have hgo : ∀ {w : World} {L : Lay} {v : Value} {n : Nat} (_ : HoldB w L v B n) (_ : n ≤ 700000),Calls Tryz.prog 128 #[.pointer (some ⟨L.g,0,none⟩),.agg #[.int .u8 c.A,.int .u8 c.X,.int .u8 c.Y,.int .u8 c.S,.int .u16 c.PC,.bool c.F.N,.bool c.F.V,.bool c.F.D,.bool c.F.I,.bool c.F.Z,.bool c.F.C],.string ⟨x.toArray⟩,.int .i64 m] w fun e w' => e = .returned (.agg #[.int .u8 C.A,.int .u8 C.X,.int .u8 C.Y,.int .u8 C.S,.int .u16 C.PC,.bool C.F.N,.bool C.F.V,.bool C.F.D,.bool C.F.I,.bool C.F.Z,.bool C.F.C])∧∃ v',HoldB w' L v' D (n+6)∧Mv w w' L v v':=by
      intro w L v n h hn
      rw [← HC.out,← HD.out]
      rcases hk with rfl | rfl | rfl | rfl | rfl | rfl | rfl
      · rw [hok2.k6 rfl];exact go_6 m h hn hc
      · rw [hok2.k7 rfl];exact go_7 m h hn hc
      · rw [hok2.k8 rfl];exact go_8 m h hn hc
      · rw [hok2.k9 rfl];exact go_9 m h hn hc
      · rw [hok2.k10 rfl];exact go_10 m h hn hc
      · rw [(hok2.k11 rfl).2];exact go_11 m x (hok2.k11 rfl).1 h hn hc
      · rw [(hok2.k12 rfl).2];exact go_12 m x (hok2.k12 rfl).1 h hn hc
    have t1 : (k == 1) = false:=beq_eq_false_iff_ne.2 (by omega)
    have t2 : (k == 2) = false:=beq_eq_false_iff_ne.2 (by omega)
    have t3 : (k == 3) = false:=beq_eq_false_iff_ne.2 (by omega)
    have t4 : (k == 4) = false:=beq_eq_false_iff_ne.2 (by omega)
    have t5 : (k == 5) = false:=beq_eq_false_iff_ne.2 (by omega)
    clear hk hsd
    go_wp2_with fail
    go_region_with (first | (go_at_call 121;((with_reducible refine (hnd _).mono ?_);rintro _ w8 ⟨rfl,hb⟩;have s8:=(SW.drew s6).below hb;have q8:=(SQ.drew q6).below hb;clear hb;clear e0 e1 e2 e3 e4 e5 e6 e7 e8 e9 e10 u0 u1 u2 u3 u4 u5 u6 u7 u8 u9 u10 fp fr lp lr;obtain ⟨e0,e1,e2,e3,e4,e5,e6,e7,e8,e9,e10,u0,u1,u2,u3,u4,u5,u6,u7,u8,u9,u10,fp,fr,lp,lr⟩:=s8.facts;clear hqc hqf hql;have hqc:=q8.cell;have hqf:=q8.free;have hql:=q8.lt)) | (go_at_call 125;((with_reducible refine (hmd _).mono ?_);rintro _ w9 ⟨rfl,hb⟩;have s9:=s8.below hb;have q9:=q8.below hb;clear hb;clear e0 e1 e2 e3 e4 e5 e6 e7 e8 e9 e10 u0 u1 u2 u3 u4 u5 u6 u7 u8 u9 u10 fp fr lp lr;obtain ⟨e0,e1,e2,e3,e4,e5,e6,e7,e8,e9,e10,u0,u1,u2,u3,u4,u5,u6,u7,u8,u9,u10,fp,fr,lp,lr⟩:=s9.facts;clear hqc hqf hql;have hqc:=q9.cell;have hqf:=q9.free;have hql:=q9.lt)) | (go_at_call 128;((with_reducible refine Calls.mono (hgo (L:=⟨w.heap.size,w3.heap.size,r,c1⟩) (SW.H s9) (by omega)) ?_);rintro _ w10 ⟨rfl,v10,H10,M10⟩;have s10:=s9.call H10 M10;have q10:=q9.call M10;clear H10 M10;clear e0 e1 e2 e3 e4 e5 e6 e7 e8 e9 e10 u0 u1 u2 u3 u4 u5 u6 u7 u8 u9 u10 fp fr lp lr;obtain ⟨e0,e1,e2,e3,e4,e5,e6,e7,e8,e9,e10,u0,u1,u2,u3,u4,u5,u6,u7,u8,u9,u10,fp,fr,lp,lr⟩:=s10.facts;clear hqc hqf hql;have hqc:=q10.cell;have hqf:=q10.free;have hql:=q10.lt)))
    all_goals
      rw [show (((((((((((w10.setCell ⟨w.heap.size,0,none⟩ (.int .u8 C.A)).setCell ⟨w.heap.size,1,none⟩ (.int .u8 C.X)).setCell ⟨w.heap.size,2,none⟩ (.int .u8 C.Y)).setCell ⟨w.heap.size,3,none⟩ (.int .u8 C.S)).setCell ⟨w.heap.size,4,none⟩ (.int .u16 C.PC)).setCell ⟨w.heap.size,5,none⟩ (.bool C.F.N)).setCell ⟨w.heap.size,6,none⟩ (.bool C.F.V)).setCell ⟨w.heap.size,7,none⟩ (.bool C.F.D)).setCell ⟨w.heap.size,8,none⟩ (.bool C.F.I)).setCell ⟨w.heap.size,9,none⟩ (.bool C.F.Z)).setCell ⟨w.heap.size,10,none⟩ (.bool C.F.C)) = setBox w10 w.heap.size C from rfl]
      have s11:=SW.allP s10 C
      have q11:=SQ.setBox q10 (g:=w.heap.size) (by omega) C
      generalize setBox w10 w.heap.size C = w11 at s11 q11 ⊢
      clear e0 e1 e2 e3 e4 e5 e6 e7 e8 e9 e10 u0 u1 u2 u3 u4 u5 u6 u7 u8 u9 u10 fp fr lp lr;obtain ⟨e0,e1,e2,e3,e4,e5,e6,e7,e8,e9,e10,u0,u1,u2,u3,u4,u5,u6,u7,u8,u9,u10,fp,fr,lp,lr⟩:=s11.facts
      clear hqc hqf hql;have hqc:=q11.cell;have hqf:=q11.free;have hql:=q11.lt
      go_wp2_with fail
      have m0 : w11.cell? ⟨w3.heap.size,0,none⟩ = some (.slice (some ⟨r,0,none⟩) D.m.length c1):=HoldB.mem s11.H;have hlv:=Hold.log s11.H;obtain ⟨A9,d9,ev9,_,_⟩:=Kd.R_reads hlv;have m1:=HoldB.log s11.H;rw [ev9] at m1;have m1 : w11.cell? ⟨w3.heap.size,1,none⟩ = some (.slice A9 D.t.length d9):=m1;have mlt : w3.heap.size < w11.heap.size:=HoldB.lt s11.H;clear e0 e1 e2 e3 e4 e5 e6 e7 e8 e9 e10 u0 u1 u2 u3 u4 u5 u6 u7 u8 u9 u10 fp fr lp lr;obtain ⟨e0,e1,e2,e3,e4,e5,e6,e7,e8,e9,e10,u0,u1,u2,u3,u4,u5,u6,u7,u8,u9,u10,fp,fr,lp,lr⟩:=s11.facts;clear hqc hqf hql;have hqc:=q11.cell;have hqf:=q11.free;have hql:=q11.lt;have sf:=SW.drew (SW.other (SW.fin s11 C) q11.a (by omega) (by omega) (by omega) 0 (.slice (some ⟨r,0,none⟩) D.m.length c1));go_region;go_wp2_with fail;(refine bodyPost_ret (v:=.tuple #[.agg #[.int .u8 (C).A,.int .u8 (C).X,.int .u8 (C).Y,.int .u8 (C).S,.int .u16 (C).PC,.bool (C).F.N,.bool (C).F.V,.bool (C).F.D,.bool (C).F.I,.bool (C).F.Z,.bool (C).F.C],.agg #[.slice (some ⟨r,0,none⟩) D.m.length c1],.slice A9 D.t.length d9]) (by (simp only [results,Tryz.results60];go_simp <;> ((first | rfl | (simp [Cpu.fw];done))))) rfl ?_);exact ⟨_,_,_,_,rfl,Hold.mem sf.H,by rw [← ev9];exact Hold.log sf.H,sf.M.below⟩
theorem ownC_empty (w : World) (n : Nat) (hn : w.heap.size = n) : OwnC (w.alloc (.cells #[] 70)) n (.slice (some ⟨n,0,none⟩) 0 0) []:=by
  subst hn
  refine ⟨fun _ _ => trivial,[],⟨rfl,.inr ⟨w.heap.size,0,#[],rfl,Nat.le_refl _,by show (w.heap.push _)[w.heap.size]? = _;simp,Nat.le_refl _,?_,rfl,rfl⟩⟩,Reps.none _ _⟩
  decide
set_option maxRecDepth 20000 in
set_option maxHeartbeats 1000000 in
theorem spec_Step (c : Cpu) (A : Option Addr) (d : Nat) (l : List Int) (w : World) (hc : c.ok) (h : Bs w A l) :
    Calls Tryz.prog 60 #[.agg #[.int .u8 c.A,.int .u8 c.X,.int .u8 c.Y,.int .u8 c.S,.int .u16 c.PC,.bool c.F.N,.bool c.F.V,.bool c.F.D,.bool c.F.I,.bool c.F.Z,.bool c.F.C],.agg #[.slice A l.length d]] w fun e w' => ∃ A1 c1 B1 d1,e = .returned (.tuple #[.agg #[.int .u8 (step c l).c.A,.int .u8 (step c l).c.X,.int .u8 (step c l).c.Y,.int .u8 (step c l).c.S,.int .u16 (step c l).c.PC,.bool (step c l).c.F.N,.bool (step c l).c.F.V,.bool (step c l).c.F.D,.bool (step c l).c.F.I,.bool (step c l).c.F.Z,.bool (step c l).c.F.C],.agg #[.slice A1 (step c l).m.length c1],.slice B1 (step c l).t.length d1]) ∧
      OwnB w' w.heap.size (.slice A1 (step c l).m.length c1) (step c l).m∧OwnC w' w.heap.size (.slice B1 (step c l).t.length d1) (step c l).t∧Below w.heap.size w w':=by
  obtain ⟨q,hq⟩ : ∃ q,ramSize l.length = q:=⟨_,rfl⟩
  cases q
  · have e : step c l = ⟨cpu0,[],[]⟩:=by simp [step,hq]
    rw [e]
    have HB:=hR w;go_enter Tryz.func60,Tryz.ntmps60
    go_wp2_with fail
    refine (spec_RamOk _ _ _ _).mono ?_
    rintro _ w1 ⟨rfl,hb⟩
    (have HB:=Aside0.mk (below_step (w:=w) blw hb);have hz1:=hb.size;obtain ⟨hcl1,hfr1,hlt1,_⟩:=bcell hb;(try simp only [sA,sC,sD] at hz1);(try simp only [sA,sC,sD] at hcl1 hfr1 hlt1);have hk1_0 : w.heap.size < w1.heap.size:=(by omega);have hk1_1 : w.heap.size+1 < w1.heap.size:=(by omega);have hk1_2 : w.heap.size+1+1 < w1.heap.size:=(by omega);have hk1_3 : w.heap.size+1+1+1 < w1.heap.size:=(by omega);have HB1:=hR w1;clear hb)
    go_wp2_with (first | ((with_reducible refine gate_dst (N:=14) rfl ?_);refine Kd.R_lit cycK w1.heap.size 70 ?hg (N:=14) ?hd (xs:=([] : List Cyc)) (inner:=[]) (ok:=fun _ => True) (okp:=fun _ => True) ?hr ?hp (fun _ hk => hk) trivial (Below.refl _ _) (Nat.le_refl _) (by simp) ?_;(case hd => rfl);(case hg => rfl);(case hr => first | (go_simp;done) | (go_simp;rfl));(case hp => exact (Reps.none _ _));intro v1 w2 ho hb hg1 hn1;have HT:=Aside0.mk (show OwnC _ _ _ _ from ho);clear ho hg1 hn1;(have HB:=Aside0.mk (below_step (w:=w) blw hb);have HB1:=Aside0.mk (below_step (w:=w1) blw hb);have hz2:=hb.size;obtain ⟨hcl2,hfr2,hlt2,_⟩:=bcell hb;(try simp only [sA,sC,sD] at hz2);(try simp only [sA,sC,sD] at hcl2 hfr2 hlt2);have hk2_0 : w.heap.size < w2.heap.size:=(by omega);have hk2_1 : w.heap.size+1 < w2.heap.size:=(by omega);have hk2_2 : w.heap.size+1+1 < w2.heap.size:=(by omega);have hk2_3 : w.heap.size+1+1+1 < w2.heap.size:=(by omega);have HB2:=hR w2;clear hb);obtain ⟨A1,c1,e1,_,_⟩:=Kd.R_reads HT.out;subst e1;have HT:=Aside0.mk (show OwnC _ _ (.slice A1 0 c1) [] from HT.out)))
    (refine bodyPost_ret (v:=.tuple #[.agg #[.int .u8 cpu0.A,.int .u8 cpu0.X,.int .u8 cpu0.Y,.int .u8 cpu0.S,.int .u16 cpu0.PC,.bool cpu0.F.N,.bool cpu0.F.V,.bool cpu0.F.D,.bool cpu0.F.I,.bool cpu0.F.Z,.bool cpu0.F.C],.agg #[.slice none 0 0],.slice A1 0 c1]) (by (simp only [results,Tryz.results60];go_simp <;> ((first | rfl | (simp [cpu0];done))))) rfl ?_)
    exact ⟨none,0,A1,c1,rfl,Kd.R_nil _ _ _ _ _,(by (apply OwnC.lower;(repeat (first | (with_reducible exact HT.out) | (with_reducible apply OwnC.alloc) | (with_reducible apply OwnC.drew) | (with_reducible apply OwnC.drewN) | (with_reducible apply OwnC.set)));all_goals (first | omega | (simp;done) | (simp;omega)))),blw⟩
  · obtain ⟨j,hj⟩ : ∃ j,jams l c.PC = j:=⟨_,rfl⟩
    cases j
    · by_cases hcase : kindI (peek l c.PC) < 6
      · exact spec_StepA c A d l w hc h hq hj hcase
      · exact spec_StepB c A d l w hc h hq hj hcase
    · have hs:=ramSize_le hq
      have e : step c l = ⟨c,l,[]⟩:=by simp [step,hq,hj]
      rw [e]
      clear e
      have hc0:=hc
      obtain ⟨_,_,_,_,_,_,_,_,p0,p1⟩:=hc0
      have hjm:=fun A d W hw => spec_Jams A d l c.PC W hw p0 p1
      rw [hj] at hjm
      clear hj
      have HB:=hR w;go_enter Tryz.func60,Tryz.ntmps60
      go_wp2_with fail
      refine (spec_RamOk _ _ _ _).mono ?_
      rintro _ w1 ⟨rfl,hb⟩
      (have HB:=Aside0.mk (below_step (w:=w) blw hb);have hz1:=hb.size;obtain ⟨hcl1,hfr1,hlt1,_⟩:=bcell hb;(try simp only [sA,sC,sD] at hz1);(try simp only [sA,sC,sD] at hcl1 hfr1 hlt1);have hk1_0 : w.heap.size < w1.heap.size:=(by omega);have hk1_1 : w.heap.size+1 < w1.heap.size:=(by omega);have hk1_2 : w.heap.size+1+1 < w1.heap.size:=(by omega);have hk1_3 : w.heap.size+1+1+1 < w1.heap.size:=(by omega);have HB1:=hR w1;clear hb)
      go_wp2_with (first | ((with_reducible refine gate_dst (N:=15) rfl ?_);refine Kd.R_lit (Kd.int .u8) w1.heap.size 5 ?hg (N:=15) ?hd (xs:=([] : List Int)) (inner:=[]) (ok:=fun _ => True) (okp:=fun _ => True) ?hr ?hp (fun _ hk => hk) trivial (Below.refl _ _) (Nat.le_refl _) (by simp) ?_;(case hd => rfl);(case hg => rfl);(case hr => first | (go_simp;done) | (go_simp;rfl));(case hp => exact (Reps.none _ _));intro v1 w2 ho hb hg1 hn1;have HA:=Aside0.mk ho;clear ho hg1 hn1;have HB:=Aside0.mk (below_step (w:=w) blw hb);have HB1:=Aside0.mk (below_step (w:=w1) blw hb);have hz2:=hb.size;obtain ⟨hcl2,hfr2,hlt2,_⟩:=bcell hb;(try simp only [sA,sC,sD] at hz2);(try simp only [sA,sC,sD] at hcl2 hfr2 hlt2);have hk2_0 : w.heap.size < w2.heap.size:=(by omega);have hk2_1 : w.heap.size+1 < w2.heap.size:=(by omega);have hk2_2 : w.heap.size+1+1 < w2.heap.size:=(by omega);have hk2_3 : w.heap.size+1+1+1 < w2.heap.size:=(by omega);have HB2:=hR w2;clear hb) | (at_builtin;refine Kd.R_append_row (Value.int .u8) (0 : Int) (h1:=fun _ => rfl) w1.heap.size rfl _ _ 22 5 (.int .u8 0) 1 rfl Tryz.underlying22 infoU8 rfl (by decide) _ [] l _ _ _ (fun _ => True) rfl rfl (fun _ _ => trivial) ?a1 ?a2 (Below.refl _ _) ?a3 ?a4 ?_;(case a1 => exact HA.out);(case a2 => exact (Kd.C_below h.c HB.out));(case a3 => omega);(case a4 => simp;omega);intro v2 w3 ho2 hb2 hg2 hat2;rw [List.nil_append] at ho2;have hb : Below w1.heap.size w1 w3:=Below.trans (blw) hb2;clear hb2 hg2 hat2;(have HB:=Aside0.mk (below_step (w:=w) blw hb);have HB1:=Aside0.mk (below_step (w:=w1) blw hb);have hz3:=hb.size;obtain ⟨hcl3,hfr3,hlt3,_⟩:=bcell hb;(try simp only [sA,sC,sD] at hz3);(try simp only [sA,sC,sD] at hcl3 hfr3 hlt3);have hk3_0 : w.heap.size < w3.heap.size:=(by omega);have hk3_1 : w.heap.size+1 < w3.heap.size:=(by omega);have hk3_2 : w.heap.size+1+1 < w3.heap.size:=(by omega);have hk3_3 : w.heap.size+1+1+1 < w3.heap.size:=(by omega);have HB3:=hR w3;clear hb);have HO:=Aside0.mk (show OwnB _ _ _ _ from ho2);clear ho2;obtain ⟨A1,c1,e1,_,_⟩:=Kd.R_reads HO.out;subst e1;obtain ⟨r,cap,eo,gb,gl,cl,HCl⟩:=Kd.R_form HO.out (by omega);injection eo with ea en ec;subst ea ec;clear HCl en;have rb:=Kd.R_base HO.out r rfl;have H0:=HoldB.begin w3 w.heap.size r c1 l (OwnB.lower HO.out (by omega)) (by omega) hq h.b))
      refine Calls.mono (hjm _ _ _ (h.below (blw))) ?_
      rintro _ w4 ⟨rfl,hb⟩
      have H4:=H0.below hb
      (have HB:=Aside0.mk (below_step (w:=w) blw hb);have HB1:=Aside0.mk (below_step (w:=w1) blw hb);have HB3:=Aside0.mk (below_step (w:=w3) blw hb);have hz4:=hb.size;obtain ⟨hcl4,hfr4,hlt4,_⟩:=bcell hb;(try simp only [sA,sC,sD] at hz4);(try simp only [sA,sC,sD] at hcl4 hfr4 hlt4);have hk4_0 : w.heap.size < w4.heap.size:=(by omega);have hk4_1 : w.heap.size+1 < w4.heap.size:=(by omega);have hk4_2 : w.heap.size+1+1 < w4.heap.size:=(by omega);have hk4_3 : w.heap.size+1+1+1 < w4.heap.size:=(by omega);have HB4:=hR w4;clear hb)
      have m0 : w4.cell? ⟨w3.heap.size,0,none⟩ = some (.slice (some ⟨r,0,none⟩) l.length c1):=HoldB.mem H4
      have mlt : w3.heap.size < w4.heap.size:=HoldB.lt H4
      have HO4:=Aside0.mk (OwnB.below HO.out HB3.out)
      clear H4 H0
      go_wp2_with fail
      go_region
      all_goals
        go_wp2_with fail
        (refine bodyPost_ret (v:=.tuple #[.agg #[.int .u8 c.A,.int .u8 c.X,.int .u8 c.Y,.int .u8 c.S,.int .u16 c.PC,.bool c.F.N,.bool c.F.V,.bool c.F.D,.bool c.F.I,.bool c.F.Z,.bool c.F.C],.agg #[.slice (some ⟨r,0,none⟩) l.length c1],.slice (some ⟨w4.heap.size,0,none⟩) 0 0]) (by (simp only [results,Tryz.results60];go_simp <;> (rfl))) rfl ?_)
        exact ⟨_,_,_,_,rfl,(by (apply OwnB.lower;(repeat (first | (with_reducible exact HO4.out) | (with_reducible apply OwnB.alloc) | (with_reducible apply OwnB.drew) | (with_reducible apply OwnB.drewN) | (with_reducible apply OwnB.set)));all_goals (first | omega | (simp;done) | (simp;omega)))),OwnC.drew (OwnC.lower (ownC_empty _ _ (by simp)) (by omega)),blw⟩
end Go.Proofs.YtoncmhfmkfeolaaGreatDoor
