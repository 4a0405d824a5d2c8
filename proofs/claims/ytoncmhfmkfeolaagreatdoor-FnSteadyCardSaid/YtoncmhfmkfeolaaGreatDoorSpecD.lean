/- The reference's processor at work: operands. -/
import Derived.Test.YtoncmhfmkfeolaaGreatDoorGK
import Derived.Test.YtoncmhfmkfeolaaGreatDoorGD
import Derived.Test.YtoncmhfmkfeolaaGreatDoorGG
set_option linter.unusedVariables false
set_option linter.unusedSimpArgs false
namespace Go.Proofs.YtoncmhfmkfeolaaGreatDoor
open Go.RowKit Go.Proofs.YtoncmhfmkfeolaaGreatDoorW.PrintWords
set_option maxRecDepth 20000 in
set_option maxHeartbeats 1000000 in
theorem go_11 (m : Int) (x : List UInt8) (hx : x = [80,72,65] ∨ x = [80,72,80]) {w : World} {L : Lay} {v : Value} {c : Cpu} {b : Bus} {n : Nat} (h : HoldB w L v b n) (hn : n ≤ 700000) (hc : c.ok) :
    Calls Tryz.prog 128 #[.pointer (some ⟨L.g,0,none⟩),.agg #[.int .u8 c.A,.int .u8 c.X,.int .u8 c.Y,.int .u8 c.S,.int .u16 c.PC,.bool c.F.N,.bool c.F.V,.bool c.F.D,.bool c.F.I,.bool c.F.Z,.bool c.F.C],.string ⟨x.toArray⟩,.int .i64 m] w fun e w' => e = .returned (.agg #[.int .u8 ((phC c).fw 1).A,.int .u8 ((phC c).fw 1).X,.int .u8 ((phC c).fw 1).Y,.int .u8 ((phC c).fw 1).S,.int .u16 ((phC c).fw 1).PC,.bool ((phC c).fw 1).F.N,.bool ((phC c).fw 1).F.V,.bool ((phC c).fw 1).F.D,.bool ((phC c).fw 1).F.I,.bool ((phC c).fw 1).F.Z,.bool ((phC c).fw 1).F.C])∧∃ v',HoldB w' L v' (phB x c b) (n+6)∧Mv w w' L v v':=by
  have hx0:=hx
  have hc0:=hc;obtain ⟨a0,a1,x0,x1,y0,y1,s0',s1',p0,p1⟩:=hc;have pk:=peek_of h.peeks;obtain ⟨z0,z1⟩:=pk ((c.PC+1) % 65536);have hand:=i64_and255;have hand2:=i64_and65535;have s0:=SW.start w c h;obtain ⟨e0,e1,e2,e3,e4,e5,e6,e7,e8,e9,e10,u0,u1,u2,u3,u4,u5,u6,u7,u8,u9,u10,fp,fr,lp,lr⟩:=s0.facts
  rcases hx with rfl | rfl
  all_goals
    have HB:=hR w;go_enter Tryz.func128,Tryz.ntmps128
    go_wp2_with fail
    go_quiet (fail)
    have s0:=s0.drewN nq
    clear e0 e1 e2 e3 e4 e5 e6 e7 e8 e9 e10 u0 u1 u2 u3 u4 u5 u6 u7 u8 u9 u10 fp fr lp lr;obtain ⟨e0,e1,e2,e3,e4,e5,e6,e7,e8,e9,e10,u0,u1,u2,u3,u4,u5,u6,u7,u8,u9,u10,fp,fr,lp,lr⟩:=s0.facts
    go_wp2_with fail
    refine Calls.mono (spec_rd _ ((c.PC+1) % 65536) b.m b rfl (by omega) s0.H (by omega)) ?_;rintro _ w1 ⟨rfl,v1,H1,M1⟩;have s1:=s0.call H1 M1;clear H1 M1;clear e0 e1 e2 e3 e4 e5 e6 e7 e8 e9 e10 u0 u1 u2 u3 u4 u5 u6 u7 u8 u9 u10 fp fr lp lr;obtain ⟨e0,e1,e2,e3,e4,e5,e6,e7,e8,e9,e10,u0,u1,u2,u3,u4,u5,u6,u7,u8,u9,u10,fp,fr,lp,lr⟩:=s1.facts
    go_wp2_with fail
    refine Calls.mono (hold_push _ (by first | exact Or.inl rfl | exact Or.inr rfl) s1.H (by omega) hc0) ?_;rintro _ w2 ⟨rfl,v2,H2,M2⟩;have s2:=s1.call H2 M2;clear H2 M2;clear e0 e1 e2 e3 e4 e5 e6 e7 e8 e9 e10 u0 u1 u2 u3 u4 u5 u6 u7 u8 u9 u10 fp fr lp lr;obtain ⟨e0,e1,e2,e3,e4,e5,e6,e7,e8,e9,e10,u0,u1,u2,u3,u4,u5,u6,u7,u8,u9,u10,fp,fr,lp,lr⟩:=s2.facts
    go_wp2_with fail
    (refine bodyPost_ret (v:=.agg #[.int .u8 ((phC c).fw 1).A,.int .u8 ((phC c).fw 1).X,.int .u8 ((phC c).fw 1).Y,.int .u8 ((phC c).fw 1).S,.int .u16 ((phC c).fw 1).PC,.bool ((phC c).fw 1).F.N,.bool ((phC c).fw 1).F.V,.bool ((phC c).fw 1).F.D,.bool ((phC c).fw 1).F.I,.bool ((phC c).fw 1).F.Z,.bool ((phC c).fw 1).F.C]) (by (simp only [results,Tryz.results128];go_simp <;> (rfl))) rfl ?_)
    exact ⟨rfl,v2,(s2.fin ((phC c).fw 1)).H.mono (by omega),(s2.fin ((phC c).fw 1)).M⟩
set_option maxRecDepth 20000 in
set_option maxHeartbeats 1000000 in
theorem go_12 (m : Int) (x : List UInt8) (hx : x = [80,76,65] ∨ x = [80,76,80]) {w : World} {L : Lay} {v : Value} {c : Cpu} {b : Bus} {n : Nat} (h : HoldB w L v b n) (hn : n ≤ 700000) (hc : c.ok) :
    Calls Tryz.prog 128 #[.pointer (some ⟨L.g,0,none⟩),.agg #[.int .u8 c.A,.int .u8 c.X,.int .u8 c.Y,.int .u8 c.S,.int .u16 c.PC,.bool c.F.N,.bool c.F.V,.bool c.F.D,.bool c.F.I,.bool c.F.Z,.bool c.F.C],.string ⟨x.toArray⟩,.int .i64 m] w fun e w' => e = .returned (.agg #[.int .u8 ((pulC x c b).fw 1).A,.int .u8 ((pulC x c b).fw 1).X,.int .u8 ((pulC x c b).fw 1).Y,.int .u8 ((pulC x c b).fw 1).S,.int .u16 ((pulC x c b).fw 1).PC,.bool ((pulC x c b).fw 1).F.N,.bool ((pulC x c b).fw 1).F.V,.bool ((pulC x c b).fw 1).F.D,.bool ((pulC x c b).fw 1).F.I,.bool ((pulC x c b).fw 1).F.Z,.bool ((pulC x c b).fw 1).F.C])∧∃ v',HoldB w' L v' (pulB c b) (n+6)∧Mv w w' L v v':=by
  have hx0:=hx
  have hc0:=hc;obtain ⟨a0,a1,x0,x1,y0,y1,s0',s1',p0,p1⟩:=hc;have pk:=peek_of h.peeks;obtain ⟨z0,z1⟩:=pk ((c.PC+1) % 65536);have hand:=i64_and255;have hand2:=i64_and65535;have s0:=SW.start w c h;obtain ⟨e0,e1,e2,e3,e4,e5,e6,e7,e8,e9,e10,u0,u1,u2,u3,u4,u5,u6,u7,u8,u9,u10,fp,fr,lp,lr⟩:=s0.facts
  obtain ⟨C,hC⟩ : ∃ C,(pulC x c b).fw 1 = C:=⟨_,rfl⟩
  rw [hC]
  have hpl:=fun {w : World} {v : Value} {n : Nat} (h : HoldB w L v (lo1 c b) n) (hn : n ≤ 800000) => hold_pull x hx0 h hn hc0
  rw [show (pulC x c (lo1 c b)).fw 1 = C from hC] at hpl
  clear hC
  rcases hx with rfl | rfl
  all_goals
    have HB:=hR w;go_enter Tryz.func128,Tryz.ntmps128
    go_wp2_with fail
    go_quiet (fail)
    have s0:=s0.drewN nq
    clear e0 e1 e2 e3 e4 e5 e6 e7 e8 e9 e10 u0 u1 u2 u3 u4 u5 u6 u7 u8 u9 u10 fp fr lp lr;obtain ⟨e0,e1,e2,e3,e4,e5,e6,e7,e8,e9,e10,u0,u1,u2,u3,u4,u5,u6,u7,u8,u9,u10,fp,fr,lp,lr⟩:=s0.facts
    go_wp2_with fail
    refine Calls.mono (spec_rd _ ((c.PC+1) % 65536) b.m b rfl (by omega) s0.H (by omega)) ?_;rintro _ w1 ⟨rfl,v1,H1,M1⟩;have s1:=s0.call H1 M1;clear H1 M1;clear e0 e1 e2 e3 e4 e5 e6 e7 e8 e9 e10 u0 u1 u2 u3 u4 u5 u6 u7 u8 u9 u10 fp fr lp lr;obtain ⟨e0,e1,e2,e3,e4,e5,e6,e7,e8,e9,e10,u0,u1,u2,u3,u4,u5,u6,u7,u8,u9,u10,fp,fr,lp,lr⟩:=s1.facts
    go_wp2_with fail
    refine Calls.mono (hpl s1.H (by omega)) ?_;rintro _ w2 ⟨rfl,v2,H2,M2⟩;have s2:=s1.call H2 M2;clear H2 M2;clear e0 e1 e2 e3 e4 e5 e6 e7 e8 e9 e10 u0 u1 u2 u3 u4 u5 u6 u7 u8 u9 u10 fp fr lp lr;obtain ⟨e0,e1,e2,e3,e4,e5,e6,e7,e8,e9,e10,u0,u1,u2,u3,u4,u5,u6,u7,u8,u9,u10,fp,fr,lp,lr⟩:=s2.facts
    go_wp2_with fail
    (refine bodyPost_ret (v:=.agg #[.int .u8 C.A,.int .u8 C.X,.int .u8 C.Y,.int .u8 C.S,.int .u16 C.PC,.bool C.F.N,.bool C.F.V,.bool C.F.D,.bool C.F.I,.bool C.F.Z,.bool C.F.C]) (by (simp only [results,Tryz.results128];go_simp <;> (rfl))) rfl ?_)
    exact ⟨rfl,v2,(s2.fin C).H.mono (by omega),(s2.fin C).M⟩
theorem doT_fw (x : List UInt8) (c : Cpu) (v z : Int) : (doT x (c.fw z) v).1 = (doT x c v).1.fw z:=by
  refine do_cases c v x (fun x c1 _ => (doT x (c.fw z) v).1 = c1.fw z) rfl rfl rfl rfl rfl rfl rfl rfl rfl rfl rfl rfl rfl rfl rfl rfl rfl rfl ?_
  intro q0 q1 q2 q3 q4 q5 q6 q7 q8 q9 q10 q11 q12 q13 q14 q15 q16 q17
  rw [doT_none x (c.fw z) v q0 q1 q2 q3 q4 q5 q6 q7 q8 q9 q10 q11 q12 q13 q14 q15 q16 q17]
theorem doS_b (x : List UInt8) (c : Cpu) (v : Int) (hc : c.ok) (h0 : 0 ≤ v) (h1 : v < 256) : 0 ≤ (doT x c v).2∧(doT x c v).2 < 256:=by
  have r0:=b2i_lo c.F.C
  have r1:=b2i_hi c.F.C
  refine do_cases c v x (fun _ _ r => 0 ≤ r∧r < 256) ?_ ?_ ?_ ?_ ?_ ?_ ?_ ?_ ?_ ?_ ?_ ?_ ?_ ?_ ?_ ?_ ?_ ?_ ?_
  all_goals first | (intros;exact ⟨h0,h1⟩) | exact w8b' _ _ _ | (simp only [aslT,lsrT,rolT,rorT];omega) | omega
theorem chg_stF (x : List UInt8) (c : Cpu) (v : Int) (hx : chgX x = true) : (doT x c v).1 = stF c (doT x c v).1.F:=by
  have hs : x = [65,83,76] ∨ x = [76,83,82] ∨ x = [82,79,76] ∨ x = [82,79,82] ∨ x = [73,78,67] ∨ x = [68,69,67]:=by simpa [chgX,or_assoc] using hx
  rcases hs with rfl | rfl | rfl | rfl | rfl | rfl <;> rfl
structure DataSaid (code k m : Int) (x : List UInt8) : Prop where
  nm : ∀ W,Calls Tryz.prog 121 #[.int .u8 code] W fun e w' => e = .returned (.string ⟨x.toArray⟩)∧Below W.heap.size W w'
  md : ∀ W,Calls Tryz.prog 125 #[.int .u8 code] W fun e w' => e = .returned (.int .i64 m)∧Below W.heap.size W w'
  kd : ∀ W,Calls Tryz.prog 123 #[.int .u8 code] W fun e w' => e = .returned (.int .i64 k)∧Below W.heap.size W w'
  sz : ∀ W,Calls Tryz.prog 147 #[.int .u8 code] W fun e w' => e = .returned (.int .i64 (sizeM m))∧Below W.heap.size W w'
def PMs (m : Int) : Prop:=m = 3 ∨ m = 4 ∨ m = 5 ∨ m = 6 ∨ m = 7 ∨ m = 8 ∨ m = 10 ∨ m = 11
theorem PMs.ne {m : Int} (h : PMs m) : (m == 2) = false:=beq_eq_false_iff_ne.2 (by unfold PMs at h;omega)
def DatS (code k m : Int) (x : List UInt8) : Prop:=∀ {w : World} {L : Lay} {v : Value} {c : Cpu} {b : Bus} {n : Nat} (_ : HoldB w L v b n) (_ : n ≤ 600000) (_ : c.ok),
    Calls Tryz.prog 127 #[.pointer (some ⟨L.g,0,none⟩),.agg #[.int .u8 c.A,.int .u8 c.X,.int .u8 c.Y,.int .u8 c.S,.int .u16 c.PC,.bool c.F.N,.bool c.F.V,.bool c.F.D,.bool c.F.I,.bool c.F.Z,.bool c.F.C],.int .u8 code] w fun e w' => e = .returned (.agg #[.int .u8 ((opdC k m x c b).fw (sizeM m)).A,.int .u8 ((opdC k m x c b).fw (sizeM m)).X,.int .u8 ((opdC k m x c b).fw (sizeM m)).Y,.int .u8 ((opdC k m x c b).fw (sizeM m)).S,.int .u16 ((opdC k m x c b).fw (sizeM m)).PC,.bool ((opdC k m x c b).fw (sizeM m)).F.N,.bool ((opdC k m x c b).fw (sizeM m)).F.V,.bool ((opdC k m x c b).fw (sizeM m)).F.D,.bool ((opdC k m x c b).fw (sizeM m)).F.I,.bool ((opdC k m x c b).fw (sizeM m)).F.Z,.bool ((opdC k m x c b).fw (sizeM m)).F.C])∧∃ v',HoldB w' L v' (opdB k m x c b) (n+10)∧Mv w w' L v v'
set_option maxRecDepth 20000 in
set_option maxHeartbeats 2000000 in
theorem dat_imm (code k : Int) (x : List UInt8) (D : DataSaid code k 2 x) (hx : chgX x = false) : DatS code k 2 x:=by
  intro w L v c b n h hn hc
  have hdn:=D.nm
  have hdm:=D.md
  have hdk:=D.kd
  have hds:=D.sz
  have hz2 : sizeM 2 = 2:=rfl
  rw [hz2] at hds ⊢
  have hwz : IntKind.u16.wrap 2 = 2:=rfl
  have hc0:=hc;obtain ⟨a0,a1,x0,x1,y0,y1,s0',s1',p0,p1⟩:=hc;have pk:=peek_of h.peeks;obtain ⟨z0,z1⟩:=pk ((c.PC+1) % 65536);have hand:=i64_and255;have hand2:=i64_and65535;have s0:=SW.start w c h;obtain ⟨e0,e1,e2,e3,e4,e5,e6,e7,e8,e9,e10,u0,u1,u2,u3,u4,u5,u6,u7,u8,u9,u10,fp,fr,lp,lr⟩:=s0.facts
  have hus:=fun W => spec_l06Use x c (peek b.m ((c.PC+1) % 65536)) W hx hc0 z0 z1
  rw [show opdC k 2 x c b = (doT x c (peek b.m ((c.PC+1) % 65536))).1 from rfl,show opdB k 2 x c b = lo1 c b from rfl]
  obtain ⟨C,hC⟩ : ∃ C,(doT x c (peek b.m ((c.PC+1) % 65536))).1 = C:=⟨_,rfl⟩
  rw [hC] at hus ⊢
  clear hC
  have hw : IntKind.u16.wrap (C.PC+2) = (C.PC+2) % 65536:=IntKind.wrap_u16 _
  have hq1 : IntKind.i64.wrap c.PC = c.PC:=w64 (by omega)
  have hq2 : IntKind.i64.wrap (c.PC+1) = c.PC+1:=w64 (by omega)
  have HB:=hR w;go_enter Tryz.func127,Tryz.ntmps127;go_wp2_with fail;refine Calls.mono (hdn _) ?_;rintro _ w1 ⟨rfl,hb⟩;have s1:=s0.below hb;clear hb;clear e0 e1 e2 e3 e4 e5 e6 e7 e8 e9 e10 u0 u1 u2 u3 u4 u5 u6 u7 u8 u9 u10 fp fr lp lr;obtain ⟨e0,e1,e2,e3,e4,e5,e6,e7,e8,e9,e10,u0,u1,u2,u3,u4,u5,u6,u7,u8,u9,u10,fp,fr,lp,lr⟩:=s1.facts;go_wp2_with fail;refine Calls.mono (hdm _) ?_;rintro _ w2 ⟨rfl,hb⟩;have s2:=s1.below hb;clear hb;clear e0 e1 e2 e3 e4 e5 e6 e7 e8 e9 e10 u0 u1 u2 u3 u4 u5 u6 u7 u8 u9 u10 fp fr lp lr;obtain ⟨e0,e1,e2,e3,e4,e5,e6,e7,e8,e9,e10,u0,u1,u2,u3,u4,u5,u6,u7,u8,u9,u10,fp,fr,lp,lr⟩:=s2.facts;go_wp2_with fail;refine Calls.mono (hdk _) ?_;rintro _ w3 ⟨rfl,hb⟩;have s3:=s2.below hb;clear hb;clear e0 e1 e2 e3 e4 e5 e6 e7 e8 e9 e10 u0 u1 u2 u3 u4 u5 u6 u7 u8 u9 u10 fp fr lp lr;obtain ⟨e0,e1,e2,e3,e4,e5,e6,e7,e8,e9,e10,u0,u1,u2,u3,u4,u5,u6,u7,u8,u9,u10,fp,fr,lp,lr⟩:=s3.facts;go_wp2_with fail;refine Calls.mono (hds _) ?_;rintro _ w4 ⟨rfl,hb⟩;have s4:=s3.below hb;clear hb;clear e0 e1 e2 e3 e4 e5 e6 e7 e8 e9 e10 u0 u1 u2 u3 u4 u5 u6 u7 u8 u9 u10 fp fr lp lr;obtain ⟨e0,e1,e2,e3,e4,e5,e6,e7,e8,e9,e10,u0,u1,u2,u3,u4,u5,u6,u7,u8,u9,u10,fp,fr,lp,lr⟩:=s4.facts;clear hdn hdm hdk hds
  go_wp2_with fail
  go_region_with (first | (go_at_call 119;((with_reducible refine Calls.mono (spec_rd _ ((c.PC+1) % 65536) b.m b rfl (by omega) (SW.H (SW.drew s4)) (by omega)) ?_);rintro _ w5 ⟨rfl,v5,H5,M5⟩;have s5:=(SW.drew s4).call H5 M5;clear H5 M5;clear e0 e1 e2 e3 e4 e5 e6 e7 e8 e9 e10 u0 u1 u2 u3 u4 u5 u6 u7 u8 u9 u10 fp fr lp lr;obtain ⟨e0,e1,e2,e3,e4,e5,e6,e7,e8,e9,e10,u0,u1,u2,u3,u4,u5,u6,u7,u8,u9,u10,fp,fr,lp,lr⟩:=s5.facts)) | (go_at_call 172;((with_reducible refine (hus _).mono ?_);rintro _ w6 ⟨rfl,hb⟩;have s6:=s5.below hb;clear hb;clear e0 e1 e2 e3 e4 e5 e6 e7 e8 e9 e10 u0 u1 u2 u3 u4 u5 u6 u7 u8 u9 u10 fp fr lp lr;obtain ⟨e0,e1,e2,e3,e4,e5,e6,e7,e8,e9,e10,u0,u1,u2,u3,u4,u5,u6,u7,u8,u9,u10,fp,fr,lp,lr⟩:=s6.facts)))
  all_goals
    rw [show (((((((((((w6.setCell ⟨w.heap.size,0,none⟩ (.int .u8 C.A)).setCell ⟨w.heap.size,1,none⟩ (.int .u8 C.X)).setCell ⟨w.heap.size,2,none⟩ (.int .u8 C.Y)).setCell ⟨w.heap.size,3,none⟩ (.int .u8 C.S)).setCell ⟨w.heap.size,4,none⟩ (.int .u16 C.PC)).setCell ⟨w.heap.size,5,none⟩ (.bool C.F.N)).setCell ⟨w.heap.size,6,none⟩ (.bool C.F.V)).setCell ⟨w.heap.size,7,none⟩ (.bool C.F.D)).setCell ⟨w.heap.size,8,none⟩ (.bool C.F.I)).setCell ⟨w.heap.size,9,none⟩ (.bool C.F.Z)).setCell ⟨w.heap.size,10,none⟩ (.bool C.F.C)) = setBox w6 w.heap.size C from rfl]
    have s7:=SW.allP s6 C
    generalize setBox w6 w.heap.size C = w7 at s7 ⊢
    clear e0 e1 e2 e3 e4 e5 e6 e7 e8 e9 e10 u0 u1 u2 u3 u4 u5 u6 u7 u8 u9 u10 fp fr lp lr;obtain ⟨e0,e1,e2,e3,e4,e5,e6,e7,e8,e9,e10,u0,u1,u2,u3,u4,u5,u6,u7,u8,u9,u10,fp,fr,lp,lr⟩:=s7.facts
    go_wp2_with fail
    (refine bodyPost_ret (v:=.agg #[.int .u8 (C.fw 2).A,.int .u8 (C.fw 2).X,.int .u8 (C.fw 2).Y,.int .u8 (C.fw 2).S,.int .u16 (C.fw 2).PC,.bool (C.fw 2).F.N,.bool (C.fw 2).F.V,.bool (C.fw 2).F.D,.bool (C.fw 2).F.I,.bool (C.fw 2).F.Z,.bool (C.fw 2).F.C]) (by (simp only [results,Tryz.results127];go_simp <;> ((first | rfl | (simp [Cpu.fw];done))))) rfl ?_)
    have s8:=s7.setPC ((C.PC+2) % 65536)
    exact ⟨rfl,v5,(s8.fin (C.fw 2)).H.mono (by omega),(s8.fin (C.fw 2)).M⟩
theorem fw_setF (c : Cpu) (f : F6) (z : Int) : (stF (c.fw z) f) = (stF c f).fw z:=rfl
set_option maxRecDepth 20000 in
set_option maxHeartbeats 2000000 in
theorem dat_2 (code m : Int) (x : List UInt8) (hm : PMs m) (D : DataSaid code 2 m x) (hx : chgX x = false) : DatS code 2 m x:=by
  intro w L v c b n h hn hc
  have hem:=hm.ne
  have hdn:=D.nm;have hdm:=D.md;have hdk:=D.kd;have hds:=D.sz;have hsz:=sizeM_b m;have hwz : IntKind.u16.wrap (sizeM m) = sizeM m:=u16_wrap_in _ (by omega);obtain ⟨z,hz⟩ : ∃ z,sizeM m = z:=⟨_,rfl⟩;rw [hz] at hsz hwz;rw [hz] at hds;rw [hz];clear hz;have hw : IntKind.u16.wrap (c.PC+z) = (c.PC+z) % 65536:=IntKind.wrap_u16 _
  have hc0:=hc;obtain ⟨a0,a1,x0,x1,y0,y1,s0',s1',p0,p1⟩:=hc;have pk:=peek_of h.peeks;obtain ⟨z0,z1⟩:=pk ((c.PC+1) % 65536);have hand:=i64_and255;have hand2:=i64_and65535;have s0:=SW.start w c h;obtain ⟨e0,e1,e2,e3,e4,e5,e6,e7,e8,e9,e10,u0,u1,u2,u3,u4,u5,u6,u7,u8,u9,u10,fp,fr,lp,lr⟩:=s0.facts
  have em:=hm.ne;have hpl:=@plc_b c b m 2 h.peeks;have hpm:=plc_m c b m 2;obtain ⟨E,hE⟩ : ∃ E,(plc c b m 2).1 = E:=⟨_,rfl⟩;obtain ⟨B,hB⟩ : ∃ B,(plc c b m 2).2 = B:=⟨_,rfl⟩;rw [hE] at hpl;rw [hB] at hpm;obtain ⟨g0,g1⟩:=hpl;obtain ⟨r0,r1⟩:=pk E;have HE:=Aside0.mk hE;have HB0:=Aside0.mk hB;have HM:=Aside0.mk hpm;have hplc:=fun {w : World} {v : Value} {n : Nat} (h : HoldB w L v b n) (hn : n ≤ 800000) => spec_l06Place m 2 hm h hn hc0;rw [hE,hB] at hplc;clear hE hB hpm
  have hcf : (c.fw z).ok:=⟨a0,a1,x0,x1,y0,y1,s0',s1',by show 0 ≤ (c.PC+z) % 65536;omega,by show (c.PC+z) % 65536 < 65536;omega⟩
  have hus:=fun W => spec_l06Use x ({ c with PC:=(c.PC+z) % 65536 }) (peek b.m E) W hx hcf r0 r1
  rw [show opdC 2 m x c b = (doT x c (peek b.m E)).1 from by simp [opdC,em,HE.out],show opdB 2 m x c b = B.rd E from by simp [opdB,em,HE.out,HB0.out]]
  rw [show (doT x c (peek b.m E)).1.fw z = (doT x ({ c with PC:=(c.PC+z) % 65536 }) (peek b.m E)).1 from (doT_fw x c (peek b.m E) z).symm]
  obtain ⟨C,hC⟩ : ∃ C,(doT x ({ c with PC:=(c.PC+z) % 65536 }) (peek b.m E)).1 = C:=⟨_,rfl⟩
  rw [hC] at hus ⊢
  clear hC
  have hEw : IntKind.i64.wrap E = E:=w64 (by omega)
  have HB:=hR w;go_enter Tryz.func127,Tryz.ntmps127;go_wp2_with fail;refine Calls.mono (hdn _) ?_;rintro _ w1 ⟨rfl,hb⟩;have s1:=s0.below hb;clear hb;clear e0 e1 e2 e3 e4 e5 e6 e7 e8 e9 e10 u0 u1 u2 u3 u4 u5 u6 u7 u8 u9 u10 fp fr lp lr;obtain ⟨e0,e1,e2,e3,e4,e5,e6,e7,e8,e9,e10,u0,u1,u2,u3,u4,u5,u6,u7,u8,u9,u10,fp,fr,lp,lr⟩:=s1.facts;go_wp2_with fail;refine Calls.mono (hdm _) ?_;rintro _ w2 ⟨rfl,hb⟩;have s2:=s1.below hb;clear hb;clear e0 e1 e2 e3 e4 e5 e6 e7 e8 e9 e10 u0 u1 u2 u3 u4 u5 u6 u7 u8 u9 u10 fp fr lp lr;obtain ⟨e0,e1,e2,e3,e4,e5,e6,e7,e8,e9,e10,u0,u1,u2,u3,u4,u5,u6,u7,u8,u9,u10,fp,fr,lp,lr⟩:=s2.facts;go_wp2_with fail;refine Calls.mono (hdk _) ?_;rintro _ w3 ⟨rfl,hb⟩;have s3:=s2.below hb;clear hb;clear e0 e1 e2 e3 e4 e5 e6 e7 e8 e9 e10 u0 u1 u2 u3 u4 u5 u6 u7 u8 u9 u10 fp fr lp lr;obtain ⟨e0,e1,e2,e3,e4,e5,e6,e7,e8,e9,e10,u0,u1,u2,u3,u4,u5,u6,u7,u8,u9,u10,fp,fr,lp,lr⟩:=s3.facts;go_wp2_with fail;refine Calls.mono (hds _) ?_;rintro _ w4 ⟨rfl,hb⟩;have s4:=s3.below hb;clear hb;clear e0 e1 e2 e3 e4 e5 e6 e7 e8 e9 e10 u0 u1 u2 u3 u4 u5 u6 u7 u8 u9 u10 fp fr lp lr;obtain ⟨e0,e1,e2,e3,e4,e5,e6,e7,e8,e9,e10,u0,u1,u2,u3,u4,u5,u6,u7,u8,u9,u10,fp,fr,lp,lr⟩:=s4.facts;clear hdn hdm hdk hds;go_wp2_with fail;refine Calls.mono (hplc s4.H (by omega)) ?_;rintro _ w5 ⟨rfl,v5,H5,M5⟩;have s5:=s4.call H5 M5;clear H5 M5;clear e0 e1 e2 e3 e4 e5 e6 e7 e8 e9 e10 u0 u1 u2 u3 u4 u5 u6 u7 u8 u9 u10 fp fr lp lr;obtain ⟨e0,e1,e2,e3,e4,e5,e6,e7,e8,e9,e10,u0,u1,u2,u3,u4,u5,u6,u7,u8,u9,u10,fp,fr,lp,lr⟩:=s5.facts;have s6:=s5.setPC ((c.PC+z) % 65536);go_wp2_with fail
  go_region_with (first | (go_at_call 119;((with_reducible refine Calls.mono (spec_rd _ E b.m B HM.out (by omega) (SW.H (SW.drew s6)) (by omega)) ?_);rintro _ w7 ⟨rfl,v7,H7,M7⟩;have s7:=(SW.drew s6).call H7 M7;clear H7 M7;clear e0 e1 e2 e3 e4 e5 e6 e7 e8 e9 e10 u0 u1 u2 u3 u4 u5 u6 u7 u8 u9 u10 fp fr lp lr;obtain ⟨e0,e1,e2,e3,e4,e5,e6,e7,e8,e9,e10,u0,u1,u2,u3,u4,u5,u6,u7,u8,u9,u10,fp,fr,lp,lr⟩:=s7.facts)) | (go_at_call 172;((with_reducible refine (hus _).mono ?_);rintro _ w8 ⟨rfl,hb⟩;have s8:=s7.below hb;clear hb;clear e0 e1 e2 e3 e4 e5 e6 e7 e8 e9 e10 u0 u1 u2 u3 u4 u5 u6 u7 u8 u9 u10 fp fr lp lr;obtain ⟨e0,e1,e2,e3,e4,e5,e6,e7,e8,e9,e10,u0,u1,u2,u3,u4,u5,u6,u7,u8,u9,u10,fp,fr,lp,lr⟩:=s8.facts)))
  all_goals
    go_wp2_with fail
    (refine bodyPost_ret (v:=.agg #[.int .u8 C.A,.int .u8 C.X,.int .u8 C.Y,.int .u8 C.S,.int .u16 C.PC,.bool C.F.N,.bool C.F.V,.bool C.F.D,.bool C.F.I,.bool C.F.Z,.bool C.F.C]) (by (simp only [results,Tryz.results127];go_simp <;> (rfl))) rfl ?_)
    exact ⟨rfl,v7,(s8.fin C).H.mono (by omega),(s8.fin C).M⟩
set_option maxRecDepth 20000 in
set_option maxHeartbeats 2000000 in
theorem dat_3 (code m : Int) (x : List UInt8) (hm : PMs m) (D : DataSaid code 3 m x) : DatS code 3 m x:=by
  intro w L v c b n h hn hc
  have hem:=hm.ne
  have hdn:=D.nm;have hdm:=D.md;have hdk:=D.kd;have hds:=D.sz;have hsz:=sizeM_b m;have hwz : IntKind.u16.wrap (sizeM m) = sizeM m:=u16_wrap_in _ (by omega);obtain ⟨z,hz⟩ : ∃ z,sizeM m = z:=⟨_,rfl⟩;rw [hz] at hsz hwz;rw [hz] at hds;rw [hz];clear hz;have hw : IntKind.u16.wrap (c.PC+z) = (c.PC+z) % 65536:=IntKind.wrap_u16 _
  have hc0:=hc;obtain ⟨a0,a1,x0,x1,y0,y1,s0',s1',p0,p1⟩:=hc;have pk:=peek_of h.peeks;obtain ⟨z0,z1⟩:=pk ((c.PC+1) % 65536);have hand:=i64_and255;have hand2:=i64_and65535;have s0:=SW.start w c h;obtain ⟨e0,e1,e2,e3,e4,e5,e6,e7,e8,e9,e10,u0,u1,u2,u3,u4,u5,u6,u7,u8,u9,u10,fp,fr,lp,lr⟩:=s0.facts
  have em:=hm.ne;have hpl:=@plc_b c b m 3 h.peeks;have hpm:=plc_m c b m 3;obtain ⟨E,hE⟩ : ∃ E,(plc c b m 3).1 = E:=⟨_,rfl⟩;obtain ⟨B,hB⟩ : ∃ B,(plc c b m 3).2 = B:=⟨_,rfl⟩;rw [hE] at hpl;rw [hB] at hpm;obtain ⟨g0,g1⟩:=hpl;obtain ⟨r0,r1⟩:=pk E;have HE:=Aside0.mk hE;have HB0:=Aside0.mk hB;have HM:=Aside0.mk hpm;have hplc:=fun {w : World} {v : Value} {n : Nat} (h : HoldB w L v b n) (hn : n ≤ 800000) => spec_l06Place m 3 hm h hn hc0;rw [hE,hB] at hplc;clear hE hB hpm
  have hrg:=fun W => spec_l06Reg x (c.fw z) W
  rw [show regT x (c.fw z) = regT x c from rfl] at hrg
  obtain ⟨d0,d1⟩ : 0 ≤ regT x c∧regT x c < 256:=by unfold regT;split <;> (try split) <;> omega
  rw [show opdC 3 m x c b = c from by simp [opdC,em],show opdB 3 m x c b = B.wr E (regT x c) from by simp [opdB,em,HE.out,HB0.out]]
  have HB:=hR w;go_enter Tryz.func127,Tryz.ntmps127;go_wp2_with fail;refine Calls.mono (hdn _) ?_;rintro _ w1 ⟨rfl,hb⟩;have s1:=s0.below hb;clear hb;clear e0 e1 e2 e3 e4 e5 e6 e7 e8 e9 e10 u0 u1 u2 u3 u4 u5 u6 u7 u8 u9 u10 fp fr lp lr;obtain ⟨e0,e1,e2,e3,e4,e5,e6,e7,e8,e9,e10,u0,u1,u2,u3,u4,u5,u6,u7,u8,u9,u10,fp,fr,lp,lr⟩:=s1.facts;go_wp2_with fail;refine Calls.mono (hdm _) ?_;rintro _ w2 ⟨rfl,hb⟩;have s2:=s1.below hb;clear hb;clear e0 e1 e2 e3 e4 e5 e6 e7 e8 e9 e10 u0 u1 u2 u3 u4 u5 u6 u7 u8 u9 u10 fp fr lp lr;obtain ⟨e0,e1,e2,e3,e4,e5,e6,e7,e8,e9,e10,u0,u1,u2,u3,u4,u5,u6,u7,u8,u9,u10,fp,fr,lp,lr⟩:=s2.facts;go_wp2_with fail;refine Calls.mono (hdk _) ?_;rintro _ w3 ⟨rfl,hb⟩;have s3:=s2.below hb;clear hb;clear e0 e1 e2 e3 e4 e5 e6 e7 e8 e9 e10 u0 u1 u2 u3 u4 u5 u6 u7 u8 u9 u10 fp fr lp lr;obtain ⟨e0,e1,e2,e3,e4,e5,e6,e7,e8,e9,e10,u0,u1,u2,u3,u4,u5,u6,u7,u8,u9,u10,fp,fr,lp,lr⟩:=s3.facts;go_wp2_with fail;refine Calls.mono (hds _) ?_;rintro _ w4 ⟨rfl,hb⟩;have s4:=s3.below hb;clear hb;clear e0 e1 e2 e3 e4 e5 e6 e7 e8 e9 e10 u0 u1 u2 u3 u4 u5 u6 u7 u8 u9 u10 fp fr lp lr;obtain ⟨e0,e1,e2,e3,e4,e5,e6,e7,e8,e9,e10,u0,u1,u2,u3,u4,u5,u6,u7,u8,u9,u10,fp,fr,lp,lr⟩:=s4.facts;clear hdn hdm hdk hds;go_wp2_with fail;refine Calls.mono (hplc s4.H (by omega)) ?_;rintro _ w5 ⟨rfl,v5,H5,M5⟩;have s5:=s4.call H5 M5;clear H5 M5;clear e0 e1 e2 e3 e4 e5 e6 e7 e8 e9 e10 u0 u1 u2 u3 u4 u5 u6 u7 u8 u9 u10 fp fr lp lr;obtain ⟨e0,e1,e2,e3,e4,e5,e6,e7,e8,e9,e10,u0,u1,u2,u3,u4,u5,u6,u7,u8,u9,u10,fp,fr,lp,lr⟩:=s5.facts;have s6:=s5.setPC ((c.PC+z) % 65536);go_wp2_with fail
  refine Calls.mono (hrg _) ?_;rintro _ w7 ⟨rfl,hb⟩;have s7:=s6.below hb;clear hb;clear e0 e1 e2 e3 e4 e5 e6 e7 e8 e9 e10 u0 u1 u2 u3 u4 u5 u6 u7 u8 u9 u10 fp fr lp lr;obtain ⟨e0,e1,e2,e3,e4,e5,e6,e7,e8,e9,e10,u0,u1,u2,u3,u4,u5,u6,u7,u8,u9,u10,fp,fr,lp,lr⟩:=s7.facts
  go_wp2_with fail
  refine Calls.mono (spec_wr _ E (regT x c) B (by omega) s7.H (by omega) d0 d1) ?_;rintro _ w8 ⟨rfl,v8,H8,M8⟩;have s8:=s7.call H8 M8;clear H8 M8;clear e0 e1 e2 e3 e4 e5 e6 e7 e8 e9 e10 u0 u1 u2 u3 u4 u5 u6 u7 u8 u9 u10 fp fr lp lr;obtain ⟨e0,e1,e2,e3,e4,e5,e6,e7,e8,e9,e10,u0,u1,u2,u3,u4,u5,u6,u7,u8,u9,u10,fp,fr,lp,lr⟩:=s8.facts
  go_wp2_with fail
  (refine bodyPost_ret (v:=.agg #[.int .u8 (c.fw z).A,.int .u8 (c.fw z).X,.int .u8 (c.fw z).Y,.int .u8 (c.fw z).S,.int .u16 (c.fw z).PC,.bool (c.fw z).F.N,.bool (c.fw z).F.V,.bool (c.fw z).F.D,.bool (c.fw z).F.I,.bool (c.fw z).F.Z,.bool (c.fw z).F.C]) (by (simp only [results,Tryz.results127];go_simp <;> ((first | rfl | (simp [Cpu.fw];done))))) rfl ?_)
  exact ⟨rfl,v8,(s8.fin (c.fw z)).H.mono (by omega),(s8.fin (c.fw z)).M⟩
set_option maxRecDepth 20000 in
set_option maxHeartbeats 2000000 in
theorem dat_4 (code m : Int) (x : List UInt8) (hm : PMs m) (D : DataSaid code 4 m x) (hx : chgX x = true) : DatS code 4 m x:=by
  intro w L v c b n h hn hc
  have hem:=hm.ne
  have hdn:=D.nm;have hdm:=D.md;have hdk:=D.kd;have hds:=D.sz;have hsz:=sizeM_b m;have hwz : IntKind.u16.wrap (sizeM m) = sizeM m:=u16_wrap_in _ (by omega);obtain ⟨z,hz⟩ : ∃ z,sizeM m = z:=⟨_,rfl⟩;rw [hz] at hsz hwz;rw [hz] at hds;rw [hz];clear hz;have hw : IntKind.u16.wrap (c.PC+z) = (c.PC+z) % 65536:=IntKind.wrap_u16 _
  have hc0:=hc;obtain ⟨a0,a1,x0,x1,y0,y1,s0',s1',p0,p1⟩:=hc;have pk:=peek_of h.peeks;obtain ⟨z0,z1⟩:=pk ((c.PC+1) % 65536);have hand:=i64_and255;have hand2:=i64_and65535;have s0:=SW.start w c h;obtain ⟨e0,e1,e2,e3,e4,e5,e6,e7,e8,e9,e10,u0,u1,u2,u3,u4,u5,u6,u7,u8,u9,u10,fp,fr,lp,lr⟩:=s0.facts
  have em:=hm.ne;have hpl:=@plc_b c b m 4 h.peeks;have hpm:=plc_m c b m 4;obtain ⟨E,hE⟩ : ∃ E,(plc c b m 4).1 = E:=⟨_,rfl⟩;obtain ⟨B,hB⟩ : ∃ B,(plc c b m 4).2 = B:=⟨_,rfl⟩;rw [hE] at hpl;rw [hB] at hpm;obtain ⟨g0,g1⟩:=hpl;obtain ⟨r0,r1⟩:=pk E;have HE:=Aside0.mk hE;have HB0:=Aside0.mk hB;have HM:=Aside0.mk hpm;have hplc:=fun {w : World} {v : Value} {n : Nat} (h : HoldB w L v b n) (hn : n ≤ 800000) => spec_l06Place m 4 hm h hn hc0;rw [hE,hB] at hplc;clear hE hB hpm
  obtain ⟨T,hT⟩ : ∃ T,doT x c (peek b.m E) = T:=⟨_,rfl⟩
  have hch:=fun W => spec_l06Change x c (peek b.m E) W hx r0 r1
  have hTb : 0 ≤ T.2∧T.2 < 256:=by rw [← hT];exact doS_b x c _ hc0 r0 r1
  have hTc : T.1 = stF c T.1.F:=by rw [← hT];exact chg_stF x c _ hx
  rw [hT] at hch
  rw [show opdC 4 m x c b = stF c T.1.F from by rw [← hTc];simp [opdC,em,HE.out,hT],show opdB 4 m x c b = ((B.rd E).wr E (peek b.m E)).wr E T.2 from by simp [opdB,em,HE.out,HB0.out,hT]]
  obtain ⟨q,f,hf⟩ : ∃ q f,(q,f) = (T.2,T.1.F):=⟨_,_,rfl⟩
  obtain ⟨hq,hf⟩:=Prod.mk.inj hf
  rw [← hq,← hf] at hch
  rw [← hf,← hq]
  rw [← hq] at hTb
  clear hT hTc hq hf
  have HB:=hR w;go_enter Tryz.func127,Tryz.ntmps127;go_wp2_with fail;refine Calls.mono (hdn _) ?_;rintro _ w1 ⟨rfl,hb⟩;have s1:=s0.below hb;clear hb;clear e0 e1 e2 e3 e4 e5 e6 e7 e8 e9 e10 u0 u1 u2 u3 u4 u5 u6 u7 u8 u9 u10 fp fr lp lr;obtain ⟨e0,e1,e2,e3,e4,e5,e6,e7,e8,e9,e10,u0,u1,u2,u3,u4,u5,u6,u7,u8,u9,u10,fp,fr,lp,lr⟩:=s1.facts;go_wp2_with fail;refine Calls.mono (hdm _) ?_;rintro _ w2 ⟨rfl,hb⟩;have s2:=s1.below hb;clear hb;clear e0 e1 e2 e3 e4 e5 e6 e7 e8 e9 e10 u0 u1 u2 u3 u4 u5 u6 u7 u8 u9 u10 fp fr lp lr;obtain ⟨e0,e1,e2,e3,e4,e5,e6,e7,e8,e9,e10,u0,u1,u2,u3,u4,u5,u6,u7,u8,u9,u10,fp,fr,lp,lr⟩:=s2.facts;go_wp2_with fail;refine Calls.mono (hdk _) ?_;rintro _ w3 ⟨rfl,hb⟩;have s3:=s2.below hb;clear hb;clear e0 e1 e2 e3 e4 e5 e6 e7 e8 e9 e10 u0 u1 u2 u3 u4 u5 u6 u7 u8 u9 u10 fp fr lp lr;obtain ⟨e0,e1,e2,e3,e4,e5,e6,e7,e8,e9,e10,u0,u1,u2,u3,u4,u5,u6,u7,u8,u9,u10,fp,fr,lp,lr⟩:=s3.facts;go_wp2_with fail;refine Calls.mono (hds _) ?_;rintro _ w4 ⟨rfl,hb⟩;have s4:=s3.below hb;clear hb;clear e0 e1 e2 e3 e4 e5 e6 e7 e8 e9 e10 u0 u1 u2 u3 u4 u5 u6 u7 u8 u9 u10 fp fr lp lr;obtain ⟨e0,e1,e2,e3,e4,e5,e6,e7,e8,e9,e10,u0,u1,u2,u3,u4,u5,u6,u7,u8,u9,u10,fp,fr,lp,lr⟩:=s4.facts;clear hdn hdm hdk hds;go_wp2_with fail;refine Calls.mono (hplc s4.H (by omega)) ?_;rintro _ w5 ⟨rfl,v5,H5,M5⟩;have s5:=s4.call H5 M5;clear H5 M5;clear e0 e1 e2 e3 e4 e5 e6 e7 e8 e9 e10 u0 u1 u2 u3 u4 u5 u6 u7 u8 u9 u10 fp fr lp lr;obtain ⟨e0,e1,e2,e3,e4,e5,e6,e7,e8,e9,e10,u0,u1,u2,u3,u4,u5,u6,u7,u8,u9,u10,fp,fr,lp,lr⟩:=s5.facts;have s6:=s5.setPC ((c.PC+z) % 65536);go_wp2_with fail
  refine Calls.mono (spec_rd _ E b.m B HM.out (by omega) s6.H (by omega)) ?_;rintro _ w7 ⟨rfl,v7,H7,M7⟩;have s7:=s6.call H7 M7;clear H7 M7;clear e0 e1 e2 e3 e4 e5 e6 e7 e8 e9 e10 u0 u1 u2 u3 u4 u5 u6 u7 u8 u9 u10 fp fr lp lr;obtain ⟨e0,e1,e2,e3,e4,e5,e6,e7,e8,e9,e10,u0,u1,u2,u3,u4,u5,u6,u7,u8,u9,u10,fp,fr,lp,lr⟩:=s7.facts
  go_wp2_with fail
  refine Calls.mono (spec_wr _ E (peek b.m E) (B.rd E) (by omega) s7.H (by omega) r0 r1) ?_;rintro _ w8 ⟨rfl,v8,H8,M8⟩;have s8:=s7.call H8 M8;clear H8 M8;clear e0 e1 e2 e3 e4 e5 e6 e7 e8 e9 e10 u0 u1 u2 u3 u4 u5 u6 u7 u8 u9 u10 fp fr lp lr;obtain ⟨e0,e1,e2,e3,e4,e5,e6,e7,e8,e9,e10,u0,u1,u2,u3,u4,u5,u6,u7,u8,u9,u10,fp,fr,lp,lr⟩:=s8.facts
  go_wp2_with fail
  refine Calls.mono (hch _) ?_;rintro _ w9 ⟨rfl,hb⟩;have s9:=s8.below hb;clear hb;clear e0 e1 e2 e3 e4 e5 e6 e7 e8 e9 e10 u0 u1 u2 u3 u4 u5 u6 u7 u8 u9 u10 fp fr lp lr;obtain ⟨e0,e1,e2,e3,e4,e5,e6,e7,e8,e9,e10,u0,u1,u2,u3,u4,u5,u6,u7,u8,u9,u10,fp,fr,lp,lr⟩:=s9.facts
  have hap:=s9.H.apart w9.heap.size (Nat.le_refl _)
  go_wp2_with fail
  refine Calls.mono (spec_wr _ E q ((B.rd E).wr E (peek b.m E)) (by omega) (s9.below (below_alloc (Below.refl _ _) _)).H (by omega) hTb.1 hTb.2) ?_
  rintro _ w10 ⟨rfl,v10,H10,M10⟩
  obtain ⟨hl10,hf10,hz10,_⟩:=M10.loc w9.heap.size (by simp) hap
  have s10:=(s9.below (below_alloc (Below.refl _ _) _)).call H10 M10
  clear H10 M10
  clear e0 e1 e2 e3 e4 e5 e6 e7 e8 e9 e10 u0 u1 u2 u3 u4 u5 u6 u7 u8 u9 u10 fp fr lp lr;obtain ⟨e0,e1,e2,e3,e4,e5,e6,e7,e8,e9,e10,u0,u1,u2,u3,u4,u5,u6,u7,u8,u9,u10,fp,fr,lp,lr⟩:=s10.facts
  have s11:=s10.setF f
  go_wp2_with fail
  (refine bodyPost_ret (v:=.agg #[.int .u8 ((stF c f).fw z).A,.int .u8 ((stF c f).fw z).X,.int .u8 ((stF c f).fw z).Y,.int .u8 ((stF c f).fw z).S,.int .u16 ((stF c f).fw z).PC,.bool ((stF c f).fw z).F.N,.bool ((stF c f).fw z).F.V,.bool ((stF c f).fw z).F.D,.bool ((stF c f).fw z).F.I,.bool ((stF c f).fw z).F.Z,.bool ((stF c f).fw z).F.C]) (by (simp only [results,Tryz.results127];go_simp <;> ((first | rfl | (simp [Cpu.fw,stF];done))))) rfl ?_)
  exact ⟨rfl,v10,(s11.fin ((stF c f).fw z)).H.mono (by omega),(s11.fin ((stF c f).fw z)).M⟩
theorem spec_l06Data (code k m : Int) (x : List UInt8) (D : DataSaid code k m x) (hk : (m = 2∧k = 2) ∨ PMs m) (h2 : k = 2 → chgX x = false) (h4 : k = 4 → chgX x = true) (h : k = 2 ∨ k = 3 ∨ k = 4) : DatS code k m x:=by
  rcases hk with ⟨rfl,rfl⟩ | hm
  · exact dat_imm code 2 x D (h2 rfl)
  · rcases h with rfl | rfl | rfl
    · exact dat_2 code m x hm D (h2 rfl)
    · exact dat_3 code m x hm D
    · exact dat_4 code m x hm D (h4 rfl)
end Go.Proofs.YtoncmhfmkfeolaaGreatDoor
