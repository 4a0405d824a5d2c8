/- laws.FnExactRun's straight regions that load whole runs. -/
import Derived.Test.YtoncmhfmkfeolaaGreatDoorGY
import Derived.Test.YtoncmhfmkfeolaaGreatDoorGP
set_option linter.unusedVariables false
set_option linter.unusedSimpArgs false
namespace Go.Proofs.YtoncmhfmkfeolaaGreatDoor
open Go.RowKit Go.Proofs.YtoncmhfmkfeolaaGreatDoorW.PrintWords
set_option maxRecDepth 100000 in
set_option maxHeartbeats 600000 in
theorem exReg12 (w0 : World) (k6 k3 : Nat) (Q : Rs) (A6 B6 C6 D6 : Option Addr) (c6 d6 e6 f6 : Nat) (A3 B3 C3 D3 : Option Addr) (c3 d3 e3 f3 : Nat) (h6 : Blk w0 k6 #[.int .u8 Q.c.A,.int .u8 Q.c.X,.int .u8 Q.c.Y,.int .u8 Q.c.S,.int .u16 Q.c.PC,.bool Q.c.F.N,.bool Q.c.F.V,.bool Q.c.F.D,.bool Q.c.F.I,.bool Q.c.F.Z,.bool Q.c.F.C,.slice A6 Q.m.length c6,.slice B6 Q.t.length d6,.slice C6 Q.st.length e6,.slice D6 Q.cs.length f6,.bool Q.jam] 38) (h3 : Blk w0 k3 #[.int .u8 Q.c.A,.int .u8 Q.c.X,.int .u8 Q.c.Y,.int .u8 Q.c.S,.int .u16 Q.c.PC,.bool Q.c.F.N,.bool Q.c.F.V,.bool Q.c.F.D,.bool Q.c.F.I,.bool Q.c.F.Z,.bool Q.c.F.C,.slice A3 Q.m.length c3,.slice B3 Q.t.length d3,.slice C3 Q.st.length e3,.slice D3 Q.cs.length f3,.bool Q.jam] 38) (x6 : ShB w0 Q A6 B6 C6 D6) (x3 : ShB w0 Q A3 B3 C3 D3) (b0 : Q.m.length ≤ 1048576) (b2 : Q.t.length ≤ 960) (b3 : Q.st.length ≤ 120) (b5 : Q.cs.length ≤ 120)
    (s0 s1 s2 s3 s4 s5 s6 s7 s8 s9 s11 s12 s14 s15 s16 s17 s18 s19 s20 s21 s22 s23 s24 s25 s26 s27 s28 s29 s30 s31 s32 s33 s34 s35 s36 s37 s38 s39 s40 s41 s42 s43 s44 s45 s46 s47 s48 s49 s50 s51 s52 s53 s54 s55 s56 s57 s58 s59 s60 s61 s62 s63 s64 s65 s66 s67 s68 s69 s70 s71 s72 s73 s74 s75 s76 s77 s78 s79 s80 s81 s82 s83 s84 s85 s86 s87 s88 s89 s90 s91 s92 s93 s94 s95 s96 s97 s98 s99 s100 s101 s102 s103 s104 : Value) :
    Code.wp Tryz.prog ((Tryz.f4.body.bind (regOf 12)).getD .skip) (OnNormal fun a' w' => Below w0.heap.size w0 w'∧∃ u46 u47 u48,a' = ⟨List.toArray (s0::s1::s2::s3::s4::s5::s6::s7::s8::s9::.pointer (some ⟨k3,0,none⟩)::s11::s12::.pointer (some ⟨k6,0,none⟩)::s14::s15::s16::s17::s18::s19::s20::s21::s22::s23::s24::s25::s26::s27::s28::s29::s30::s31::s32::s33::s34::s35::s36::s37::s38::s39::s40::s41::s42::s43::s44::s45::u46::u47::u48::.bool false::s50::s51::s52::s53::s54::s55::s56::s57::s58::s59::s60::s61::s62::s63::s64::s65::s66::s67::s68::s69::s70::s71::s72::s73::s74::s75::s76::s77::s78::s79::s80::s81::s82::s83::s84::s85::s86::s87::s88::s89::s90::s91::s92::s93::s94::s95::s96::s97::s98::s99::s100::s101::s102::s103::s104::[]),[]⟩) ⟨List.toArray (s0::s1::s2::s3::s4::s5::s6::s7::s8::s9::.pointer (some ⟨k3,0,none⟩)::s11::s12::.pointer (some ⟨k6,0,none⟩)::s14::s15::s16::s17::s18::s19::s20::s21::s22::s23::s24::s25::s26::s27::s28::s29::s30::s31::s32::s33::s34::s35::s36::s37::s38::s39::s40::s41::s42::s43::s44::s45::s46::s47::s48::s49::s50::s51::s52::s53::s54::s55::s56::s57::s58::s59::s60::s61::s62::s63::s64::s65::s66::s67::s68::s69::s70::s71::s72::s73::s74::s75::s76::s77::s78::s79::s80::s81::s82::s83::s84::s85::s86::s87::s88::s89::s90::s91::s92::s93::s94::s95::s96::s97::s98::s99::s100::s101::s102::s103::s104::[]),[]⟩ w0:=by
  conv => arg 2;whnf
  obtain ⟨y0,y1,y2,y3,y4,y5,y6,y7,y8,y9,y10,y11,y12,y13,y14,y15⟩:=cells16 h6
  obtain ⟨z0,z1,z2,z3,z4,z5,z6,z7,z8,z9,z10,z11,z12,z13,z14,z15⟩:=cells16 h3
  go_wp2_with fail
  refine Calls.mono (laws_eqShot Q A6 B6 C6 D6 A3 B3 C3 D3 c6 d6 e6 f6 c3 d3 e3 f3 _ (x6.below (Below.refl _ _)) (x3.below (Below.refl _ _)) b0 b2 b3 b5) ?_
  rintro _ w1 ⟨rfl,hb⟩
  go_wp2_with fail
  exact ⟨hb,_,_,_,rfl⟩
set_option maxRecDepth 100000 in
set_option maxHeartbeats 600000 in
theorem exReg21 (w0 : World) (k6 k3 : Nat) (Q : Rs) (A6 B6 C6 D6 : Option Addr) (c6 d6 e6 f6 : Nat) (A3 B3 C3 D3 : Option Addr) (c3 d3 e3 f3 : Nat) (h6 : Blk w0 k6 #[.int .u8 Q.c.A,.int .u8 Q.c.X,.int .u8 Q.c.Y,.int .u8 Q.c.S,.int .u16 Q.c.PC,.bool Q.c.F.N,.bool Q.c.F.V,.bool Q.c.F.D,.bool Q.c.F.I,.bool Q.c.F.Z,.bool Q.c.F.C,.slice A6 Q.m.length c6,.slice B6 Q.t.length d6,.slice C6 Q.st.length e6,.slice D6 Q.cs.length f6,.bool Q.jam] 38) (h3 : Blk w0 k3 #[.int .u8 Q.c.A,.int .u8 Q.c.X,.int .u8 Q.c.Y,.int .u8 Q.c.S,.int .u16 Q.c.PC,.bool Q.c.F.N,.bool Q.c.F.V,.bool Q.c.F.D,.bool Q.c.F.I,.bool Q.c.F.Z,.bool Q.c.F.C,.slice A3 Q.m.length c3,.slice B3 Q.t.length d3,.slice C3 Q.st.length e3,.slice D3 Q.cs.length f3,.bool Q.jam] 38) (x6 : ShB w0 Q A6 B6 C6 D6) (x3 : ShB w0 Q A3 B3 C3 D3) (b0 : Q.m.length ≤ 1048576) (b2 : Q.t.length ≤ 960) (b3 : Q.st.length ≤ 120) (b5 : Q.cs.length ≤ 120) (k : Int) (hk : 0 ≤ k)
    (s0 s1 s2 s3 s4 s5 s6 s7 s8 s9 s11 s12 s15 s16 s17 s18 s19 s20 s21 s22 s23 s24 s25 s26 s27 s28 s29 s30 s31 s32 s33 s34 s35 s36 s37 s38 s39 s40 s41 s42 s43 s44 s45 s46 s47 s48 s49 s50 s51 s52 s53 s54 s55 s56 s57 s58 s59 s60 s61 s62 s63 s64 s65 s66 s67 s68 s69 s70 s71 s72 s73 s74 s75 s76 s77 s78 s79 s80 s81 s82 s83 s84 s85 s86 s87 s88 s89 s90 s91 s92 s93 s94 s95 s96 s97 s98 s99 s100 s101 s102 s103 s104 : Value) :
    Code.wp Tryz.prog ((Tryz.f4.body.bind (regOf 21)).getD .skip) (OnNormal fun a' w' => Below w0.heap.size w0 w'∧∃ u66 u67 u68 u69 u70 u71 u72,a' = ⟨List.toArray (s0::s1::s2::s3::s4::s5::s6::s7::s8::s9::.pointer (some ⟨k3,0,none⟩)::s11::s12::.pointer (some ⟨k6,0,none⟩)::.int .i64 k::s15::s16::s17::s18::s19::s20::s21::s22::s23::s24::s25::s26::s27::s28::s29::s30::s31::s32::s33::s34::s35::s36::s37::s38::s39::s40::s41::s42::s43::s44::s45::s46::s47::s48::s49::s50::s51::s52::s53::s54::s55::s56::s57::s58::s59::s60::s61::s62::s63::s64::s65::u66::u67::u68::u69::u70::u71::u72::.bool false::s74::s75::s76::s77::s78::s79::s80::s81::s82::s83::s84::s85::s86::s87::s88::s89::s90::s91::s92::s93::s94::s95::s96::s97::s98::s99::s100::s101::s102::s103::s104::[]),[]⟩) ⟨List.toArray (s0::s1::s2::s3::s4::s5::s6::s7::s8::s9::.pointer (some ⟨k3,0,none⟩)::s11::s12::.pointer (some ⟨k6,0,none⟩)::.int .i64 k::s15::s16::s17::s18::s19::s20::s21::s22::s23::s24::s25::s26::s27::s28::s29::s30::s31::s32::s33::s34::s35::s36::s37::s38::s39::s40::s41::s42::s43::s44::s45::s46::s47::s48::s49::s50::s51::s52::s53::s54::s55::s56::s57::s58::s59::s60::s61::s62::s63::s64::s65::s66::s67::s68::s69::s70::s71::s72::s73::s74::s75::s76::s77::s78::s79::s80::s81::s82::s83::s84::s85::s86::s87::s88::s89::s90::s91::s92::s93::s94::s95::s96::s97::s98::s99::s100::s101::s102::s103::s104::[]),[]⟩ w0:=by
  conv => arg 2;whnf
  obtain ⟨y0,y1,y2,y3,y4,y5,y6,y7,y8,y9,y10,y11,y12,y13,y14,y15⟩:=cells16 h6
  obtain ⟨z0,z1,z2,z3,z4,z5,z6,z7,z8,z9,z10,z11,z12,z13,z14,z15⟩:=cells16 h3
  go_wp2_with fail
  refine Calls.mono (laws_eqShot Q A6 B6 C6 D6 A3 B3 C3 D3 c6 d6 e6 f6 c3 d3 e3 f3 _ (x6.below (Below.refl _ _)) (x3.below (Below.refl _ _)) b0 b2 b3 b5) ?_
  rintro _ w1 ⟨rfl,hb⟩
  go_wp2_with fail
  refine ⟨hb,?_⟩
  simp
  exact hk
end Go.Proofs.YtoncmhfmkfeolaaGreatDoor
