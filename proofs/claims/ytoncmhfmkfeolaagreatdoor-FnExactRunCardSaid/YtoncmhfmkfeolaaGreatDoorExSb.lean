/- laws.FnExactRun's straight regions that load whole runs. -/
import Derived.Test.YtoncmhfmkfeolaaGreatDoorGY
import Derived.Test.YtoncmhfmkfeolaaGreatDoorGP
set_option linter.unusedVariables false
set_option linter.unusedSimpArgs false
namespace Go.Proofs.YtoncmhfmkfeolaaGreatDoor
open Go.RowKit Go.Proofs.YtoncmhfmkfeolaaGreatDoorW.PrintWords
set_option maxRecDepth 100000 in
set_option maxHeartbeats 600000 in
theorem exReg26 (w0 : World) (k6 : Nat) (Q : Rs) (A6 B6 C6 D6 : Option Addr) (c6 d6 e6 f6 : Nat) (h6 : Blk w0 k6 #[.int .u8 Q.c.A,.int .u8 Q.c.X,.int .u8 Q.c.Y,.int .u8 Q.c.S,.int .u16 Q.c.PC,.bool Q.c.F.N,.bool Q.c.F.V,.bool Q.c.F.D,.bool Q.c.F.I,.bool Q.c.F.Z,.bool Q.c.F.C,.slice A6 Q.m.length c6,.slice B6 Q.t.length d6,.slice C6 Q.st.length e6,.slice D6 Q.cs.length f6,.bool Q.jam] 38) (m1 : Bs w0 A6 (mkB 1 Q.m.length)) (m2 : cycK.C w0 B6 Q.t.length (mkC (1+Q.m.length) Q.t.length)) (m3 : (Kd.int .i64).C w0 C6 Q.st.length (mkI (1+Q.m.length+3 * Q.t.length) Q.st.length)) (m4 : cpuK.C w0 D6 Q.cs.length (mkG mkP1 11 (1+Q.m.length+3 * Q.t.length+Q.st.length) Q.cs.length)) (b0 : Q.m.length ≤ 1048576) (b2 : Q.t.length ≤ 960) (b3 : Q.st.length ≤ 120) (b5 : Q.cs.length ≤ 120)
    (s0 s1 s2 s3 s4 s5 s6 s7 s8 s9 s10 s11 s12 s14 s15 s17 s18 s19 s20 s21 s22 s23 s24 s25 s26 s27 s28 s29 s30 s31 s32 s33 s34 s35 s36 s37 s38 s39 s40 s41 s42 s43 s44 s45 s46 s47 s48 s49 s50 s51 s52 s53 s54 s55 s56 s57 s58 s59 s60 s61 s62 s63 s64 s65 s66 s67 s68 s69 s70 s71 s72 s73 s74 s75 s76 s77 s78 s79 s80 s81 s82 s83 s84 s85 s86 s87 s88 s89 s90 s91 s92 s93 s94 s95 s96 s97 s98 s99 s100 s101 s102 s103 s104 : Value) :
    Code.wp Tryz.prog ((Tryz.f4.body.bind (regOf 26)).getD .skip) (OnNormal fun a' w' => Below w0.heap.size w0 w'∧∃ u77 u78 u79,a' = ⟨List.toArray (s0::s1::s2::s3::s4::s5::s6::s7::s8::s9::s10::s11::s12::.pointer (some ⟨k6,0,none⟩)::s14::s15::.int .i64 (mkN Q)::s17::s18::s19::s20::s21::s22::s23::s24::s25::s26::s27::s28::s29::s30::s31::s32::s33::s34::s35::s36::s37::s38::s39::s40::s41::s42::s43::s44::s45::s46::s47::s48::s49::s50::s51::s52::s53::s54::s55::s56::s57::s58::s59::s60::s61::s62::s63::s64::s65::s66::s67::s68::s69::s70::s71::s72::s73::s74::s75::s76::u77::u78::u79::s80::s81::s82::s83::s84::s85::s86::s87::s88::s89::s90::s91::s92::s93::s94::s95::s96::s97::s98::s99::s100::s101::s102::s103::s104::[]),[]⟩) ⟨List.toArray (s0::s1::s2::s3::s4::s5::s6::s7::s8::s9::s10::s11::s12::.pointer (some ⟨k6,0,none⟩)::s14::s15::.int .i64 1::s17::s18::s19::s20::s21::s22::s23::s24::s25::s26::s27::s28::s29::s30::s31::s32::s33::s34::s35::s36::s37::s38::s39::s40::s41::s42::s43::s44::s45::s46::s47::s48::s49::s50::s51::s52::s53::s54::s55::s56::s57::s58::s59::s60::s61::s62::s63::s64::s65::s66::s67::s68::s69::s70::s71::s72::s73::s74::s75::s76::s77::s78::s79::s80::s81::s82::s83::s84::s85::s86::s87::s88::s89::s90::s91::s92::s93::s94::s95::s96::s97::s98::s99::s100::s101::s102::s103::s104::[]),[]⟩ w0:=by
  conv => arg 2;whnf
  obtain ⟨y0,y1,y2,y3,y4,y5,y6,y7,y8,y9,y10,y11,y12,y13,y14,y15⟩:=cells16 h6
  go_wp2_with fail
  refine Calls.mono (laws_heldShot Q A6 B6 C6 D6 c6 d6 e6 f6 _ m1 m2 m3 m4 b0 b2 b3 b5) ?_
  rintro _ w1 ⟨rfl,hb⟩
  go_wp2_with fail
  exact ⟨hb,_,_,_,rfl⟩
set_option maxRecDepth 100000 in
set_option maxHeartbeats 600000 in
theorem exReg35 (w0 : World) (k6 : Nat) (Q : Rs) (A6 B6 C6 D6 : Option Addr) (c6 d6 e6 f6 : Nat) (h6 : Blk w0 k6 #[.int .u8 Q.c.A,.int .u8 Q.c.X,.int .u8 Q.c.Y,.int .u8 Q.c.S,.int .u16 Q.c.PC,.bool Q.c.F.N,.bool Q.c.F.V,.bool Q.c.F.D,.bool Q.c.F.I,.bool Q.c.F.Z,.bool Q.c.F.C,.slice A6 Q.m.length c6,.slice B6 Q.t.length d6,.slice C6 Q.st.length e6,.slice D6 Q.cs.length f6,.bool Q.jam] 38) (m1 : Bs w0 A6 (mkB 1 Q.m.length)) (m2 : cycK.C w0 B6 Q.t.length (mkC (1+Q.m.length) Q.t.length)) (m3 : (Kd.int .i64).C w0 C6 Q.st.length (mkI (1+Q.m.length+3 * Q.t.length) Q.st.length)) (m4 : cpuK.C w0 D6 Q.cs.length (mkG mkP1 11 (1+Q.m.length+3 * Q.t.length+Q.st.length) Q.cs.length)) (b0 : Q.m.length ≤ 1048576) (b2 : Q.t.length ≤ 960) (b3 : Q.st.length ≤ 120) (b5 : Q.cs.length ≤ 120)
    (s0 s1 s2 s3 s4 s5 s6 s7 s8 s9 s10 s11 s12 s14 s15 s17 s18 s19 s20 s21 s22 s23 s24 s25 s26 s27 s28 s29 s30 s31 s32 s33 s34 s35 s36 s37 s38 s39 s40 s41 s42 s43 s44 s45 s46 s47 s48 s49 s50 s51 s52 s53 s54 s55 s56 s57 s58 s59 s60 s61 s62 s63 s64 s65 s66 s67 s68 s69 s70 s71 s72 s73 s74 s75 s76 s77 s78 s79 s80 s81 s82 s83 s84 s85 s86 s87 s88 s89 s90 s91 s92 s93 s94 s95 s96 s97 s98 s99 s100 s101 s102 s103 s104 : Value) :
    Code.wp Tryz.prog ((Tryz.f4.body.bind (regOf 35)).getD .skip) (OnNormal fun a' w' => Below w0.heap.size w0 w'∧∃ u97 u98 u99,a' = ⟨List.toArray (s0::s1::s2::s3::s4::s5::s6::s7::s8::s9::s10::s11::s12::.pointer (some ⟨k6,0,none⟩)::s14::s15::.int .i64 (mkN Q)::s17::s18::s19::s20::s21::s22::s23::s24::s25::s26::s27::s28::s29::s30::s31::s32::s33::s34::s35::s36::s37::s38::s39::s40::s41::s42::s43::s44::s45::s46::s47::s48::s49::s50::s51::s52::s53::s54::s55::s56::s57::s58::s59::s60::s61::s62::s63::s64::s65::s66::s67::s68::s69::s70::s71::s72::s73::s74::s75::s76::s77::s78::s79::s80::s81::s82::s83::s84::s85::s86::s87::s88::s89::s90::s91::s92::s93::s94::s95::s96::u97::u98::u99::s100::s101::s102::s103::s104::[]),[]⟩) ⟨List.toArray (s0::s1::s2::s3::s4::s5::s6::s7::s8::s9::s10::s11::s12::.pointer (some ⟨k6,0,none⟩)::s14::s15::.int .i64 1::s17::s18::s19::s20::s21::s22::s23::s24::s25::s26::s27::s28::s29::s30::s31::s32::s33::s34::s35::s36::s37::s38::s39::s40::s41::s42::s43::s44::s45::s46::s47::s48::s49::s50::s51::s52::s53::s54::s55::s56::s57::s58::s59::s60::s61::s62::s63::s64::s65::s66::s67::s68::s69::s70::s71::s72::s73::s74::s75::s76::s77::s78::s79::s80::s81::s82::s83::s84::s85::s86::s87::s88::s89::s90::s91::s92::s93::s94::s95::s96::s97::s98::s99::s100::s101::s102::s103::s104::[]),[]⟩ w0:=by
  conv => arg 2;whnf
  obtain ⟨y0,y1,y2,y3,y4,y5,y6,y7,y8,y9,y10,y11,y12,y13,y14,y15⟩:=cells16 h6
  go_wp2_with fail
  refine Calls.mono (laws_heldShot Q A6 B6 C6 D6 c6 d6 e6 f6 _ m1 m2 m3 m4 b0 b2 b3 b5) ?_
  rintro _ w1 ⟨rfl,hb⟩
  go_wp2_with fail
  exact ⟨hb,_,_,_,rfl⟩
end Go.Proofs.YtoncmhfmkfeolaaGreatDoor
