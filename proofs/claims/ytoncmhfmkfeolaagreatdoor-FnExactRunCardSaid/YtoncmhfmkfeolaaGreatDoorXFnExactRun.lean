/- FnExactRun: the program's Run returns what the reference's returns, in memory of its own, for all arguments. -/
import Derived.Test.YtoncmhfmkfeolaaGreatDoorSpcX
import Derived.Test.YtoncmhfmkfeolaaGreatDoorRunI
import Derived.Test.YtoncmhfmkfeolaaGreatDoorExR
import Derived.Test.YtoncmhfmkfeolaaGreatDoorExRa
import Derived.Test.YtoncmhfmkfeolaaGreatDoorExRb
import Derived.Test.YtoncmhfmkfeolaaGreatDoorExS
import Derived.Test.YtoncmhfmkfeolaaGreatDoorExSa
import Derived.Test.YtoncmhfmkfeolaaGreatDoorExSb
import Derived.Test.YtoncmhfmkfeolaaGreatDoorGA
import Derived.Deep.CutBlock
import Derived.Deep.DeepCutAuto
set_option linter.unusedVariables false
set_option linter.unusedSimpArgs false
namespace Go.Proofs.YtoncmhfmkfeolaaGreatDoor
open Go.RowKit Go.Proofs.YtoncmhfmkfeolaaGreatDoorW.PrintWords
set_option maxRecDepth 20000 in
set_option maxHeartbeats 600000 in
theorem FnExactRun_walk (c : Cpu) (A : Option Addr) (l : List Int) (d : Nat) (B : Option Addr) (E : List Evt) (e : Nat) (n : Int) (w : World) (hc : c.ok) (h : Bs w A l) (hl : l.length ≤ 9223372036854775807) (hE : evK.C w B E.length E) (hel : E.length ≤ 9223372036854775807) (_ : -9223372036854775808 ≤ n) (_ : n ≤ 9223372036854775807) (he : Env w) :
    Calls Tryz.prog 4 #[.agg #[.int .u8 c.A,.int .u8 c.X,.int .u8 c.Y,.int .u8 c.S,.int .u16 c.PC,.bool c.F.N,.bool c.F.V,.bool c.F.D,.bool c.F.I,.bool c.F.Z,.bool c.F.C],.agg #[.slice A l.length d],.slice B E.length e,.int .i64 n] w fun e w' => e = .returned (.bool true)∧Below w.heap.size w w':=by
  by_cases hbg : (1048576 : Int) < l.length
  · have hs:=szF_big hbg
    have HB:=hR w;go_enter Tryz.func4,Tryz.ntmps4
    go_wp2_with fail
    refine (laws_szRam _ _ _ _ _ hl (by omega) (by omega)).mono ?_
    rintro _ w1 ⟨rfl,hb⟩
    replace HB:=Aside0.mk (below_step (w:=w) (blw) hb)
    go_wp2_with fail
    go_ret
    exact ⟨rfl,HB.out⟩
  have hs:=szF_ok (n:=1048576) (m:=l.length) (by omega)
  have hl2 : l.length ≤ 1048576:=by omega
  by_cases hbg2 : (1048576 - l.length : Int) < E.length
  · have hs2:=szF_big hbg2
    have HB:=hR w;go_enter Tryz.func4,Tryz.ntmps4
    go_wp2_with fail
    refine (laws_szRam _ _ _ _ _ hl (by omega) (by omega)).mono ?_
    rintro _ w1 ⟨rfl,hb⟩
    replace HB:=Aside0.mk (below_step (w:=w) (blw) hb)
    go_wp2_with fail
    refine (laws_szEventS _ _ E.length _ _ hel (by omega) (by omega)).mono ?_
    rintro _ _ ⟨rfl,rfl⟩
    go_wp2_with fail
    go_ret
    exact ⟨rfl,HB.out⟩
  have hs2:=szF_ok (n:=1048576 - l.length) (m:=E.length) (by omega)
  have hel2 : E.length ≤ 1048576:=by omega
  have RB:=Aside0.mk (run_b E n c l hc h.b)
  have HSP:=Aside0.mk (fun (W : World) A d B e (h1 : Bs W A l) (h2 : evK.C W B E.length E) => spec_Run c A d l B e E n W hc h1 h2 hel2)
  have HIM:=Aside0.mk (fun (W : World) A d B e (h1 : Bs W A l) (h2 : evK.C W B E.length E) (h3 : Env W) => impl_Run c A d l B e E n W hc h1 h2 hel2 h3)
  generalize run c l E n = Q at *
  have b1:=RB.out.ml
  have b2:=RB.out.tn
  have b3:=RB.out.sn
  have b4:=RB.out.cn
  have b5 : Q.cs.length ≤ 120:=by omega
  replace b4:=Aside0.mk b4
  have hN : 0 ≤ mkN Q:=by unfold mkN;omega
  have HB:=hR w;go_enter Tryz.func4,Tryz.ntmps4
  go_wp2_with fail
  refine (laws_szRam _ _ _ _ _ hl (by omega) (by omega)).mono ?_
  rintro _ w1 ⟨rfl,hb⟩
  have K : Aside0 (Many w1 [(w.heap.size,#[.int .u8 c.A,.int .u8 c.X,.int .u8 c.Y,.int .u8 c.S,.int .u16 c.PC,.bool c.F.N,.bool c.F.V,.bool c.F.D,.bool c.F.I,.bool c.F.Z,.bool c.F.C],46),(w.heap.size+1,#[.slice A l.length d],47)]):=⟨Many.below (Many.cons ((Blk.at rfl).alloc _) (Many.cons (Blk.at (by simp)) (Many.nil _))) hb⟩
  replace HB:=Aside0.mk (below_step (w:=w) (blw) hb)
  have hz1:=hb.size
  simp only [sA,sC,sD] at hz1
  clear hb
  go_wp2_with fail
  refine (laws_szEventS _ _ E.length _ _ hel (by omega) (by omega)).mono ?_
  rintro _ _ ⟨rfl,rfl⟩
  go_upto_region 8 with (fail)
  refine wp_normal (exReg8 w1 _ _ c A d l B e E n Q (K.out.at 0 rfl) (K.out.at 1 rfl) (h.below HB.out) (Kd.C_below hE HB.out) hl2 hel2 ⟨fun W A d B e h1 h2 _ => HSP.out W A d B e h1 h2⟩ _ _ _ _ _ _ _ _ _ _ _ _ _ _ _ _ _ _ _ _ _ _ _ _ _ _ _ _ _ _ _ _ _ _ _ _ _ _ _ _ _ _ _ _ _ _ _ _ _ _ _ _ _ _ _ _ _ _ _ _ _ _ _ _ _ _ _ _ _ _ _ _ _ _ _ _ _ _ _ _ _ _ _ _ _ _ _ _ _ _ _ _ _ _ _ _ _ _ _ _ _) ?_
  rintro _ w2 ⟨b10,A3,c3,B3,d3,C3,e3,D3,f3,u28,u29,u30,u31,u32,u33,u34,u35,⟨h10,K10,XO,hb⟩,rfl⟩
  have l10:=K10.lt
  have hz2:=hb.size
  have X3:=Aside0.mk (ShX.of XO.m XO.t XO.st XO.cs)
  replace HB:=Aside0.mk (below_step HB.out hb)
  replace K : Aside0 (Many w2 [(b10,#[.int .u8 Q.c.A,.int .u8 Q.c.X,.int .u8 Q.c.Y,.int .u8 Q.c.S,.int .u16 Q.c.PC,.bool Q.c.F.N,.bool Q.c.F.V,.bool Q.c.F.D,.bool Q.c.F.I,.bool Q.c.F.Z,.bool Q.c.F.C,.slice A3 Q.m.length c3,.slice B3 Q.t.length d3,.slice C3 Q.st.length e3,.slice D3 Q.cs.length f3,.bool Q.jam],38),(w.heap.size,#[.int .u8 c.A,.int .u8 c.X,.int .u8 c.Y,.int .u8 c.S,.int .u16 c.PC,.bool c.F.N,.bool c.F.V,.bool c.F.D,.bool c.F.I,.bool c.F.Z,.bool c.F.C],46),(w.heap.size+1,#[.slice A l.length d],47)]):=⟨Many.cons K10 (K.out.below hb)⟩
  clear hb K10 XO
  have r5:=(K.out.at 2 rfl).one
  go_wp2_with fail
  refine Calls.mono (laws_toRam A d l w2 (h.below HB.out) hl2) ?_
  rintro _ w3 ⟨A11,c11,rfl,ho,hb⟩
  have XR:=Aside0.mk (OwnX.of ho)
  have hz3:=hb.size
  replace K:=Aside0.mk (K.out.below hb)
  replace HB:=Aside0.mk (below_step HB.out hb)
  replace X3:=Aside0.mk (X3.out.below hb)
  clear ho hb r5
  go_upto_region 10 with (fail)
  have hb : Below w3.heap.size w3 (w3.alloc (.cells #[.slice A11 l.length c11] 30)):=blw
  have hz4 : (w3.alloc (.cells #[.slice A11 l.length c11] 30)).heap.size = w3.heap.size+1:=by simp
  have K11:=Aside0.mk (Blk.at (w:=w3) (cs:=#[.slice A11 l.length c11]) (t:=30) rfl)
  replace K:=Aside0.mk (K.out.below hb)
  replace HB:=Aside0.mk (below_step HB.out hb)
  replace X3:=Aside0.mk (X3.out.below hb)
  replace XR:=Aside0.mk (XR.out.below hb)
  replace K : Aside0 (Many (w3.alloc (.cells #[.slice A11 l.length c11] 30)) [(w3.heap.size,#[.slice A11 l.length c11],30),(b10,#[.int .u8 Q.c.A,.int .u8 Q.c.X,.int .u8 Q.c.Y,.int .u8 Q.c.S,.int .u16 Q.c.PC,.bool Q.c.F.N,.bool Q.c.F.V,.bool Q.c.F.D,.bool Q.c.F.I,.bool Q.c.F.Z,.bool Q.c.F.C,.slice A3 Q.m.length c3,.slice B3 Q.t.length d3,.slice C3 Q.st.length e3,.slice D3 Q.cs.length f3,.bool Q.jam],38),(w.heap.size,#[.int .u8 c.A,.int .u8 c.X,.int .u8 c.Y,.int .u8 c.S,.int .u16 c.PC,.bool c.F.N,.bool c.F.V,.bool c.F.D,.bool c.F.I,.bool c.F.Z,.bool c.F.C],46),(w.heap.size+1,#[.slice A l.length d],47)]):=⟨Many.cons K11.out K.out⟩
  clear hb K11
  generalize w3.alloc (.cells #[.slice A11 l.length c11] 30) = w4 at *
  replace hz4 : w3.heap.size+1 ≤ w4.heap.size:=by omega
  go_wp2_with fail
  refine Calls.mono (laws_toEventS B e E w4 (Kd.C_below hE HB.out) hel2) ?_
  rintro _ w5 ⟨B12,c12,rfl,ho,hb⟩
  have XE : Aside0 (OwnW w5 w4.heap.size w5.heap.size (.slice B12 E.length c12) E):=⟨R_range ho⟩
  have hz5:=hb.size
  replace K:=Aside0.mk (K.out.below hb)
  replace HB:=Aside0.mk (below_step HB.out hb)
  replace X3:=Aside0.mk (X3.out.below hb)
  replace XR:=Aside0.mk (XR.out.below hb)
  clear ho hb
  go_upto_region 11 with (fail)
  refine wp_normal (exReg11 w5 _ _ c A11 c11 l B12 c12 E n Q (K.out.at 2 rfl) (K.out.at 0 rfl) (XR.out.b.bs h.b) (Kd.R_reads' XE.out).2.2 hl2 hel2 ⟨fun W A d B e h1 h2 h3 => HIM.out W A d B e h1 h2 (he.below (below_step HB.out h3))⟩ _ _ _ _ _ _ _ _ _ _ _ _ _ _ _ _ _ _ _ _ _ _ _ _ _ _ _ _ _ _ _ _ _ _ _ _ _ _ _ _ _ _ _ _ _ _ _ _ _ _ _ _ _ _ _ _ _ _ _ _ _ _ _ _ _ _ _ _ _ _ _ _ _ _ _ _ _ _ _ _ _ _ _ _ _ _ _ _ _ _ _ _ _ _ _ _ _ _ _ _ _) ?_
  rintro _ w6 ⟨b13,A6,c6,B6,d6,C6,e6,D6,f6,u40,u41,u42,u43,u44,u45,⟨h13,K13,XO,hb⟩,rfl⟩
  have l13:=K13.lt
  have hz6:=hb.size
  have X6:=Aside0.mk (ShX.of XO.m XO.t XO.st XO.cs)
  replace K:=Aside0.mk (K.out.below hb)
  replace HB:=Aside0.mk (below_step HB.out hb)
  replace X3:=Aside0.mk (X3.out.below hb)
  replace XR:=Aside0.mk (XR.out.below hb)
  replace XE:=Aside0.mk (Kd.R_below XE.out hb)
  replace K : Aside0 (Many w6 [(b13,#[.int .u8 Q.c.A,.int .u8 Q.c.X,.int .u8 Q.c.Y,.int .u8 Q.c.S,.int .u16 Q.c.PC,.bool Q.c.F.N,.bool Q.c.F.V,.bool Q.c.F.D,.bool Q.c.F.I,.bool Q.c.F.Z,.bool Q.c.F.C,.slice A6 Q.m.length c6,.slice B6 Q.t.length d6,.slice C6 Q.st.length e6,.slice D6 Q.cs.length f6,.bool Q.jam],38),(w3.heap.size,#[.slice A11 l.length c11],30),(b10,#[.int .u8 Q.c.A,.int .u8 Q.c.X,.int .u8 Q.c.Y,.int .u8 Q.c.S,.int .u16 Q.c.PC,.bool Q.c.F.N,.bool Q.c.F.V,.bool Q.c.F.D,.bool Q.c.F.I,.bool Q.c.F.Z,.bool Q.c.F.C,.slice A3 Q.m.length c3,.slice B3 Q.t.length d3,.slice C3 Q.st.length e3,.slice D3 Q.cs.length f3,.bool Q.jam],38),(w.heap.size,#[.int .u8 c.A,.int .u8 c.X,.int .u8 c.Y,.int .u8 c.S,.int .u16 c.PC,.bool c.F.N,.bool c.F.V,.bool c.F.D,.bool c.F.I,.bool c.F.Z,.bool c.F.C],46),(w.heap.size+1,#[.slice A l.length d],47)]):=⟨Many.cons K13 K.out⟩
  clear hb K13 XO
  go_upto_region 12 with (fail)
  refine wp_normal (exReg12 _ _ _ Q A6 B6 C6 D6 c6 d6 e6 f6 A3 B3 C3 D3 c3 d3 e3 f3 (K.out.at 0 rfl) (K.out.at 2 rfl) (X6.out.b RB.out.mb) (X3.out.b RB.out.mb) (by omega) b2 b3 b5 _ _ _ _ _ _ _ _ _ _ _ _ _ _ _ _ _ _ _ _ _ _ _ _ _ _ _ _ _ _ _ _ _ _ _ _ _ _ _ _ _ _ _ _ _ _ _ _ _ _ _ _ _ _ _ _ _ _ _ _ _ _ _ _ _ _ _ _ _ _ _ _ _ _ _ _ _ _ _ _ _ _ _ _ _ _ _ _ _ _ _ _ _ _ _ _ _ _ _ _ _ _ _) ?_
  rintro _ w7 ⟨hb,u46,u47,u48,rfl⟩
  have hz7:=hb.size
  replace K:=Aside0.mk (K.out.below hb)
  replace HB:=Aside0.mk (below_step HB.out hb)
  replace X3:=Aside0.mk (X3.out.below hb)
  replace XR:=Aside0.mk (XR.out.below hb)
  replace XE:=Aside0.mk (Kd.R_below XE.out hb)
  replace X6:=Aside0.mk (X6.out.below hb)
  clear hb
  have r5:=(K.out.at 4 rfl).one
  have r11:=(K.out.at 1 rfl).one
  go_upto_region 14 with (fail)
  refine wp_normal (exReg14 w7 _ _ A A11 d c11 l r11 r5 (XR.out.b.bs h.b) (h.below HB.out) hl2 _ _ _ _ _ _ _ _ _ _ _ _ _ _ _ _ _ _ _ _ _ _ _ _ _ _ _ _ _ _ _ _ _ _ _ _ _ _ _ _ _ _ _ _ _ _ _ _ _ _ _ _ _ _ _ _ _ _ _ _ _ _ _ _ _ _ _ _ _ _ _ _ _ _ _ _ _ _ _ _ _ _ _ _ _ _ _ _ _ _ _ _ _ _ _ _ _ _ _ _ _ _ _) ?_
  rintro _ w8 ⟨hb,u50,u51,u52,u53,rfl⟩
  have hz8:=hb.size
  replace K:=Aside0.mk (K.out.below hb)
  replace HB:=Aside0.mk (below_step HB.out hb)
  replace X3:=Aside0.mk (X3.out.below hb)
  replace XR:=Aside0.mk (XR.out.below hb)
  replace XE:=Aside0.mk (Kd.R_below XE.out hb)
  replace X6:=Aside0.mk (X6.out.below hb)
  clear hb r5 r11
  go_wp2_with fail
  refine Calls.mono (laws_toEventS B e E w8 (Kd.C_below hE HB.out) hel2) ?_
  rintro _ w9 ⟨B9,c9,rfl,ho,hb⟩
  have E9:=Aside0.mk (Kd.R_reads' ho).2.2
  have hz9:=hb.size
  replace K:=Aside0.mk (K.out.below hb)
  replace HB:=Aside0.mk (below_step HB.out hb)
  replace X3:=Aside0.mk (X3.out.below hb)
  replace XR:=Aside0.mk (XR.out.below hb)
  replace XE:=Aside0.mk (Kd.R_below XE.out hb)
  replace X6:=Aside0.mk (X6.out.below hb)
  clear ho hb
  go_wp2_with fail
  refine Calls.mono (laws_eqEventS B12 B9 c12 c9 E w9 (Kd.R_reads' XE.out).2.2 E9.out hel2) ?_
  rintro _ w10 ⟨rfl,hb⟩
  have hz10:=hb.size
  replace K:=Aside0.mk (K.out.below hb)
  replace HB:=Aside0.mk (below_step HB.out hb)
  replace X3:=Aside0.mk (X3.out.below hb)
  replace XR:=Aside0.mk (XR.out.below hb)
  replace XE:=Aside0.mk (Kd.R_below XE.out hb)
  replace X6:=Aside0.mk (X6.out.below hb)
  clear hb E9
  have r11:=(K.out.at 1 rfl).one
  go_wp2_with fail
  refine Calls.mono (laws_markRam w2.heap.size A11 c11 l 1 _ XR.out.b hl2 (by omega) (by omega)) ?_
  rintro _ w11 ⟨rfl,_,hg⟩
  have T:=Tch.of_grown hg XR.out.row XR.out.typed (by decide)
  have hz11:=T.size
  clear hg r11 XR
  replace K:=Aside0.mk (K.out.tch T (by simp [RT]))
  replace HB:=Aside0.mk (T.below _ _ HB.out (by omega) (by omega))
  replace X3:=Aside0.mk (X3.out.tch T (by omega))
  replace XE:=Aside0.mk (R_tch XE.out T (by omega))
  replace X6:=Aside0.mk (X6.out.tch T (by omega))
  clear T
  go_wp2_with fail
  refine Calls.mono (laws_markEventS w4.heap.size B12 c12 E (1+l.length) _ (R_all XE.out) hel2 (by omega) (by omega)) ?_
  rintro _ w12 ⟨rfl,_,hg⟩
  have T:=Tch.of_grown hg (R_row XE.out) (R_typ XE.out) (by decide)
  have hz12:=T.size
  clear hg XE
  replace K:=Aside0.mk (K.out.tch T (by simp [RT]))
  replace HB:=Aside0.mk (T.below _ _ HB.out (by omega) (by omega))
  replace X3:=Aside0.mk (X3.out.tch T (by omega))
  replace X6:=Aside0.mk (X6.out.tch T (by omega))
  clear T
  go_upto_region 21 with (fail)
  refine wp_normal (exReg21 _ _ _ Q A6 B6 C6 D6 c6 d6 e6 f6 A3 B3 C3 D3 c3 d3 e3 f3 (K.out.at 0 rfl) (K.out.at 2 rfl) (X6.out.b RB.out.mb) (X3.out.b RB.out.mb) (by omega) b2 b3 b5 _ (by omega) _ _ _ _ _ _ _ _ _ _ _ _ _ _ _ _ _ _ _ _ _ _ _ _ _ _ _ _ _ _ _ _ _ _ _ _ _ _ _ _ _ _ _ _ _ _ _ _ _ _ _ _ _ _ _ _ _ _ _ _ _ _ _ _ _ _ _ _ _ _ _ _ _ _ _ _ _ _ _ _ _ _ _ _ _ _ _ _ _ _ _ _ _ _ _ _ _ _ _ _ _ _) ?_
  rintro _ w13 ⟨hb,u66,u67,u68,u69,u70,u71,u72,rfl⟩
  have hz13:=hb.size
  replace K:=Aside0.mk (K.out.below hb)
  replace HB:=Aside0.mk (below_step HB.out hb)
  replace X3:=Aside0.mk (X3.out.below hb)
  replace X6:=Aside0.mk (X6.out.below hb)
  clear hb
  go_upto_region 24 with (fail)
  refine wp_normal (exReg24 _ w5.heap.size w6.heap.size _ Q A6 B6 C6 D6 c6 d6 e6 f6 (K.out.at 0 rfl) X6.out (by omega) (by omega) b2 b3 b5 _ _ _ _ _ _ _ _ _ _ _ _ _ _ _ _ _ _ _ _ _ _ _ _ _ _ _ _ _ _ _ _ _ _ _ _ _ _ _ _ _ _ _ _ _ _ _ _ _ _ _ _ _ _ _ _ _ _ _ _ _ _ _ _ _ _ _ _ _ _ _ _ _ _ _ _ _ _ _ _ _ _ _ _ _ _ _ _ _ _ _ _ _ _ _ _ _ _ _ _ _ _ _) ?_
  rintro _ w14 ⟨⟨m1,m2,m3,m4,T⟩,u74,u75,u76,rfl⟩
  have hz14:=T.size
  clear X6
  replace K:=Aside0.mk (K.out.tch T (by simp [RT]))
  replace HB:=Aside0.mk (T.below _ _ HB.out (by omega) (by omega))
  replace X3:=Aside0.mk (X3.out.tch T (by omega))
  have M1:=Aside0.mk (Bs.mk (Kd.R_reads' m1.b).2.2 (mkB_b _ _))
  have M2 : Aside0 (cycK.C w14 B6 Q.t.length (mkC (1+Q.m.length) Q.t.length)):=⟨by have hh:=(Kd.R_reads' m2).2.2;simpa only [mkQ,mkC_len] using hh⟩
  have M3 : Aside0 ((Kd.int .i64).C w14 C6 Q.st.length (mkI (1+Q.m.length+3 * Q.t.length) Q.st.length)):=⟨by have hh:=(Kd.R_reads' m3).2.2;simpa only [mkQ,mkI,mkG_len] using hh⟩
  have M4 : Aside0 (cpuK.C w14 D6 Q.cs.length (mkG mkP1 11 (1+Q.m.length+3 * Q.t.length+Q.st.length) Q.cs.length)):=⟨by have hh:=(Kd.R_reads' m4).2.2;simpa only [mkQ,mkG_len] using hh⟩
  clear T m1 m2 m3 m4
  go_upto_region 26 with (fail)
  refine wp_normal (exReg26 _ _ Q A6 B6 C6 D6 c6 d6 e6 f6 (K.out.at 0 rfl) M1.out M2.out M3.out M4.out (by omega) b2 b3 b5 _ _ _ _ _ _ _ _ _ _ _ _ _ _ _ _ _ _ _ _ _ _ _ _ _ _ _ _ _ _ _ _ _ _ _ _ _ _ _ _ _ _ _ _ _ _ _ _ _ _ _ _ _ _ _ _ _ _ _ _ _ _ _ _ _ _ _ _ _ _ _ _ _ _ _ _ _ _ _ _ _ _ _ _ _ _ _ _ _ _ _ _ _ _ _ _ _ _ _ _ _ _ _) ?_
  rintro _ w15 ⟨hb,u77,u78,u79,rfl⟩
  have hz15:=hb.size
  replace K:=Aside0.mk (K.out.below hb)
  replace HB:=Aside0.mk (below_step HB.out hb)
  replace X3:=Aside0.mk (X3.out.below hb)
  replace M1:=Aside0.mk (M1.out.below hb)
  replace M2:=Aside0.mk (Kd.C_below M2.out hb)
  replace M3:=Aside0.mk (Kd.C_below M3.out hb)
  replace M4:=Aside0.mk (Kd.C_below M4.out hb)
  clear hb
  go_upto_region 31 with (fail)
  refine wp_normal (exReg31 w15 _ _ c A d l B e E n Q (K.out.at 3 rfl) (K.out.at 4 rfl) (h.below HB.out) (Kd.C_below hE HB.out) hl2 hel2 ⟨fun W A d B e h1 h2 h3 => HIM.out W A d B e h1 h2 (he.below (below_step HB.out h3))⟩ _ _ _ _ _ _ _ _ _ _ _ _ _ _ _ _ _ _ _ _ _ _ _ _ _ _ _ _ _ _ _ _ _ _ _ _ _ _ _ _ _ _ _ _ _ _ _ _ _ _ _ _ _ _ _ _ _ _ _ _ _ _ _ _ _ _ _ _ _ _ _ _ _ _ _ _ _ _ _ _ _ _ _ _ _ _ _ _ _ _ _ _ _ _ _ _ _ _ _ _ _) ?_
  rintro _ w16 ⟨b17,A9,c9,B9,d9,C9,e9,D9,f9,u85,u86,u87,u88,u89,u90,u91,u92,⟨h17,K17,XO,hb⟩,rfl⟩
  have hz16:=hb.size
  have X9:=Aside0.mk (ShX.of XO.m XO.t XO.st XO.cs)
  replace K:=Aside0.mk (K.out.below hb)
  replace HB:=Aside0.mk (below_step HB.out hb)
  replace X3:=Aside0.mk (X3.out.below hb)
  replace M1:=Aside0.mk (M1.out.below hb)
  replace M2:=Aside0.mk (Kd.C_below M2.out hb)
  replace M3:=Aside0.mk (Kd.C_below M3.out hb)
  replace M4:=Aside0.mk (Kd.C_below M4.out hb)
  replace K : Aside0 (Many w16 [(b17,#[.int .u8 Q.c.A,.int .u8 Q.c.X,.int .u8 Q.c.Y,.int .u8 Q.c.S,.int .u16 Q.c.PC,.bool Q.c.F.N,.bool Q.c.F.V,.bool Q.c.F.D,.bool Q.c.F.I,.bool Q.c.F.Z,.bool Q.c.F.C,.slice A9 Q.m.length c9,.slice B9 Q.t.length d9,.slice C9 Q.st.length e9,.slice D9 Q.cs.length f9,.bool Q.jam],38),(b13,#[.int .u8 Q.c.A,.int .u8 Q.c.X,.int .u8 Q.c.Y,.int .u8 Q.c.S,.int .u16 Q.c.PC,.bool Q.c.F.N,.bool Q.c.F.V,.bool Q.c.F.D,.bool Q.c.F.I,.bool Q.c.F.Z,.bool Q.c.F.C,.slice A6 Q.m.length c6,.slice B6 Q.t.length d6,.slice C6 Q.st.length e6,.slice D6 Q.cs.length f6,.bool Q.jam],38),(w3.heap.size,#[.slice A11 l.length c11],30),(b10,#[.int .u8 Q.c.A,.int .u8 Q.c.X,.int .u8 Q.c.Y,.int .u8 Q.c.S,.int .u16 Q.c.PC,.bool Q.c.F.N,.bool Q.c.F.V,.bool Q.c.F.D,.bool Q.c.F.I,.bool Q.c.F.Z,.bool Q.c.F.C,.slice A3 Q.m.length c3,.slice B3 Q.t.length d3,.slice C3 Q.st.length e3,.slice D3 Q.cs.length f3,.bool Q.jam],38),(w.heap.size,#[.int .u8 c.A,.int .u8 c.X,.int .u8 c.Y,.int .u8 c.S,.int .u16 c.PC,.bool c.F.N,.bool c.F.V,.bool c.F.D,.bool c.F.I,.bool c.F.Z,.bool c.F.C],46),(w.heap.size+1,#[.slice A l.length d],47)]):=⟨Many.cons K17 K.out⟩
  clear hb K17 XO
  go_upto_region 32 with (fail)
  refine wp_normal (exReg32 _ _ _ Q A9 B9 C9 D9 c9 d9 e9 f9 A3 B3 C3 D3 c3 d3 e3 f3 (K.out.at 0 rfl) (K.out.at 3 rfl) (X9.out.b RB.out.mb) (X3.out.b RB.out.mb) (by omega) b2 b3 b5 _ _ _ _ _ _ _ _ _ _ _ _ _ _ _ _ _ _ _ _ _ _ _ _ _ _ _ _ _ _ _ _ _ _ _ _ _ _ _ _ _ _ _ _ _ _ _ _ _ _ _ _ _ _ _ _ _ _ _ _ _ _ _ _ _ _ _ _ _ _ _ _ _ _ _ _ _ _ _ _ _ _ _ _ _ _ _ _ _ _ _ _ _ _ _ _ _ _ _ _ _ _ _) ?_
  rintro _ w17 ⟨hb,u93,u94,u95,rfl⟩
  have hz17:=hb.size
  replace K:=Aside0.mk (K.out.below hb)
  replace HB:=Aside0.mk (below_step HB.out hb)
  replace X3:=Aside0.mk (X3.out.below hb)
  replace M1:=Aside0.mk (M1.out.below hb)
  replace M2:=Aside0.mk (Kd.C_below M2.out hb)
  replace M3:=Aside0.mk (Kd.C_below M3.out hb)
  replace M4:=Aside0.mk (Kd.C_below M4.out hb)
  replace X9:=Aside0.mk (X9.out.below hb)
  clear hb
  go_upto_region 35 with (fail)
  refine wp_normal (exReg35 _ _ Q A6 B6 C6 D6 c6 d6 e6 f6 (K.out.at 1 rfl) M1.out M2.out M3.out M4.out (by omega) b2 b3 b5 _ _ _ _ _ _ _ _ _ _ _ _ _ _ _ _ _ _ _ _ _ _ _ _ _ _ _ _ _ _ _ _ _ _ _ _ _ _ _ _ _ _ _ _ _ _ _ _ _ _ _ _ _ _ _ _ _ _ _ _ _ _ _ _ _ _ _ _ _ _ _ _ _ _ _ _ _ _ _ _ _ _ _ _ _ _ _ _ _ _ _ _ _ _ _ _ _ _ _ _ _ _ _) ?_
  rintro _ w18 ⟨hb,u97,u98,u99,rfl⟩
  have hz18:=hb.size
  replace K:=Aside0.mk (K.out.below hb)
  replace HB:=Aside0.mk (below_step HB.out hb)
  replace X3:=Aside0.mk (X3.out.below hb)
  replace M1:=Aside0.mk (M1.out.below hb)
  replace M2:=Aside0.mk (Kd.C_below M2.out hb)
  replace M3:=Aside0.mk (Kd.C_below M3.out hb)
  replace M4:=Aside0.mk (Kd.C_below M4.out hb)
  replace X9:=Aside0.mk (X9.out.below hb)
  clear hb
  go_wp2_with fail
  go_ret
  exact ⟨rfl,HB.out⟩
end Go.Proofs.YtoncmhfmkfeolaaGreatDoor
