/- laws.FnRun's region 5: the reference's run tells as many cycles. -/
import Derived.Test.YtoncmhfmkfeolaaGreatDoorSpcX
import Derived.Test.YtoncmhfmkfeolaaGreatDoorWLast
import Derived.BigQuiet
import Derived.Test.YtoncmhfmkfeolaaGreatDoorGM
import Derived.Test.YtoncmhfmkfeolaaGreatDoorGP
set_option linter.unusedVariables false
set_option linter.unusedSimpArgs false
namespace Go.Proofs.YtoncmhfmkfeolaaGreatDoor
open Go.RowKit Go.Proofs.YtoncmhfmkfeolaaGreatDoorW.PrintWords Go.Proofs.YtoncmhfmkfeolaaGreatDoorW.PrintLast
set_option maxRecDepth 100000 in
set_option maxHeartbeats 400000 in
theorem fnrReg5 (w4 : World) (ka kr ks : Nat) (x : Cpu) (A1 : Option Addr) (c1 : Nat) (L : List Int) (B3 : Option Addr) (m d3 : Nat) (vE : Value) (n : Int) (Q : Rs) (hm : Q.t.length = m) (KA : Blk w4 ka #[.int .u8 x.A,.int .u8 x.X,.int .u8 x.Y,.int .u8 x.S,.int .u16 x.PC,.bool x.F.N,.bool x.F.V,.bool x.F.D,.bool x.F.I,.bool x.F.Z,.bool x.F.C] 28) (KB : Blk w4 kr #[.slice A1 L.length c1] 30) (h12 : w4.cell? ⟨ks,12,none⟩ = some (.slice B3 m d3))
    (hcall : Aside0 (∀ W : World,Below w4.heap.size w4 W → Calls Tryz.prog 12 #[.agg #[.int .u8 x.A,.int .u8 x.X,.int .u8 x.Y,.int .u8 x.S,.int .u16 x.PC,.bool x.F.N,.bool x.F.V,.bool x.F.D,.bool x.F.I,.bool x.F.Z,.bool x.F.C],.agg #[.slice A1 L.length c1],vE,.int .i64 n] W fun e w' => RunRet Q W w' e))
    (s0 s1 s2 s8 s9 s10 s11 s12 s13 s14 s15 s16 s17 s18 s19 s20 s21 s22 s23 s24 s25 s26 s27 s28 s29 s30 s31 s32 s33 s34 s35 s36 s37 s38 s39 s40 s41 s42 s43 s44 s45 s46 s47 s48 s49 s50 s51 s52 s53 s54 s55 s56 s57 s58 s59 s60 s61 s62 s63 s64 s65 s66 s67 s68 s69 s70 s71 s72 s73 s74 s75 s76 s77 s78 s79 s80 s81 s82 s83 s84 s85 s86 s87 s88 s89 s90 s91 s92 s93 s94 s95 s96 s97 s98 s99 s100 s101 : Value) :
    Code.wp Tryz.prog ((Tryz.f3.body.bind (regOf 5)).getD .skip) (OnNormal fun a' w' => Below w4.heap.size w4 w'∧∃ u25 u26 u27 u28 u29 u30 u31 u32 u33 u34,a' = ⟨List.toArray (s0::s1::s2::.pointer (some ⟨ka,0,none⟩)::.pointer (some ⟨kr,0,none⟩)::vE::.int .i64 n::.pointer (some ⟨ks,0,none⟩)::s8::s9::s10::s11::s12::s13::s14::s15::s16::s17::s18::s19::s20::s21::s22::s23::s24::u25::u26::u27::u28::u29::u30::u31::u32::u33::u34::.bool false::s36::s37::s38::s39::s40::s41::s42::s43::s44::s45::s46::s47::s48::s49::s50::s51::s52::s53::s54::s55::s56::s57::s58::s59::s60::s61::s62::s63::s64::s65::s66::s67::s68::s69::s70::s71::s72::s73::s74::s75::s76::s77::s78::s79::s80::s81::s82::s83::s84::s85::s86::s87::s88::s89::s90::s91::s92::s93::s94::s95::s96::s97::s98::s99::s100::s101::[]),[]⟩) ⟨List.toArray (s0::s1::s2::.pointer (some ⟨ka,0,none⟩)::.pointer (some ⟨kr,0,none⟩)::vE::.int .i64 n::.pointer (some ⟨ks,0,none⟩)::s8::s9::s10::s11::s12::s13::s14::s15::s16::s17::s18::s19::s20::s21::s22::s23::s24::s25::s26::s27::s28::s29::s30::s31::s32::s33::s34::s35::s36::s37::s38::s39::s40::s41::s42::s43::s44::s45::s46::s47::s48::s49::s50::s51::s52::s53::s54::s55::s56::s57::s58::s59::s60::s61::s62::s63::s64::s65::s66::s67::s68::s69::s70::s71::s72::s73::s74::s75::s76::s77::s78::s79::s80::s81::s82::s83::s84::s85::s86::s87::s88::s89::s90::s91::s92::s93::s94::s95::s96::s97::s98::s99::s100::s101::[]),[]⟩ w4:=by
  conv => arg 2;whnf
  refine start_ (n:=11) (S:=fun w' => w'.cell? ⟨ka,0,none⟩ = some (.int .u8 x.A)∧w'.cell? ⟨ka,1,none⟩ = some (.int .u8 x.X)∧w'.cell? ⟨ka,2,none⟩ = some (.int .u8 x.Y)∧w'.cell? ⟨ka,3,none⟩ = some (.int .u8 x.S)∧w'.cell? ⟨ka,4,none⟩ = some (.int .u16 x.PC)∧w'.cell? ⟨ka,5,none⟩ = some (.bool x.F.N)∧w'.cell? ⟨ka,6,none⟩ = some (.bool x.F.V)∧w'.cell? ⟨ka,7,none⟩ = some (.bool x.F.D)∧w'.cell? ⟨ka,8,none⟩ = some (.bool x.F.I)∧w'.cell? ⟨ka,9,none⟩ = some (.bool x.F.Z)∧w'.cell? ⟨ka,10,none⟩ = some (.bool x.F.C)∧w'.cell? ⟨kr,0,none⟩ = some (.slice A1 L.length c1)∧w'.cell? ⟨ks,12,none⟩ = some (.slice B3 m d3)) (ds:=[]) #[false,false,false,false,false,false,false,false,false,false,false] (by kernel_rfl) rfl rfl ?_ (fun hHeld => ?_)
  · exact ⟨(cpuAll KA).1,(cpuAll KA).2.1,(cpuAll KA).2.2.1,(cpuAll KA).2.2.2.1,(cpuAll KA).2.2.2.2.1,(cpuAll KA).2.2.2.2.2.1,(cpuAll KA).2.2.2.2.2.2.1,(cpuAll KA).2.2.2.2.2.2.2.1,(cpuAll KA).2.2.2.2.2.2.2.2.1,(cpuAll KA).2.2.2.2.2.2.2.2.2.1,(cpuAll KA).2.2.2.2.2.2.2.2.2.2,KB.one,h12⟩
  have hb0 : Below w4.heap.size w4 w4.drew:=blw
  generalize w4.drew = W at hb0 hHeld ⊢
  refine pure_ (i:=0) (N:=some 25) (v:=?_) (a':=?_) #[true,false,false,false,false,false,false,false,false,false,false] rfl rfl (by kernel_rfl) (fun _ _ _ h => h) (Or.inl ⟨by rfl,?_⟩) ?_ ?_
  rotate_left
  · intro w'
    go_simp
    first | with_reducible rfl | rfl
  rotate_left
  · simp only [Act.put,List.setIfInBounds_toArray,List.set_cons_zero,List.set_cons_succ,i64_w,i32_w]
    rfl
  refine pure_ (i:=5) (N:=some 30) (v:=?_) (a':=?_) #[true,false,false,false,false,true,false,false,false,false,false] rfl rfl (by kernel_rfl) (fun _ _ _ h => h) (Or.inl ⟨by rfl,?_⟩) ?_ ?_
  rotate_left
  · intro w'
    go_simp
    first | with_reducible rfl | rfl
  rotate_left
  · simp only [Act.put,List.setIfInBounds_toArray,List.set_cons_zero,List.set_cons_succ,i64_w,i32_w]
    rfl
  refine pure_ (i:=6) (N:=some 31) (v:=?_) (a':=?_) #[true,false,false,false,false,true,true,false,false,false,false] rfl rfl (by kernel_rfl) (fun _ _ _ h => h) (Or.inl ⟨by rfl,?_⟩) ?_ ?_
  rotate_left
  · intro w'
    go_simp
    first | with_reducible rfl | rfl
  rotate_left
  · simp only [Act.put,List.setIfInBounds_toArray,List.set_cons_zero,List.set_cons_succ,i64_w,i32_w]
    rfl
  refine take_ (i:=1) (N:=some 26) (v:=?_) (a':=?_) #[true,true,false,false,false,true,true,false,false,false,false] rfl rfl (by kernel_rfl) (fun _ _ _ h => h) (Or.inl ⟨by rfl,?_⟩) hHeld ?_ ?_
  rotate_left
  · rintro w' ⟨s0',s1',s2',s3',s4',s5',s6',s7',s8',s9',s10',s11',s12'⟩
    go_simp
    first | with_reducible rfl | rfl
  rotate_left
  · simp only [Act.put,List.setIfInBounds_toArray,List.set_cons_zero,List.set_cons_succ,i64_w,i32_w]
    rfl
  refine take_ (i:=3) (N:=some 28) (v:=?_) (a':=?_) #[true,true,false,true,false,true,true,false,false,false,false] rfl rfl (by kernel_rfl) (fun _ _ _ h => h) (Or.inl ⟨by rfl,?_⟩) hHeld ?_ ?_
  rotate_left
  · rintro w' ⟨s0',s1',s2',s3',s4',s5',s6',s7',s8',s9',s10',s11',s12'⟩
    go_simp
    first | with_reducible rfl | rfl
  rotate_left
  · simp only [Act.put,List.setIfInBounds_toArray,List.set_cons_zero,List.set_cons_succ,i64_w,i32_w]
    rfl
  refine take_ (i:=4) (N:=some 29) (v:=?_) (a':=?_) #[true,true,false,true,true,true,true,false,false,false,false] rfl rfl (by kernel_rfl) (fun _ _ _ h => h) (Or.inl ⟨by rfl,?_⟩) hHeld ?_ ?_
  rotate_left
  · rintro w' ⟨s0',s1',s2',s3',s4',s5',s6',s7',s8',s9',s10',s11',s12'⟩
    go_simp
    first | with_reducible rfl | rfl
  rotate_left
  · simp only [Act.put,List.setIfInBounds_toArray,List.set_cons_zero,List.set_cons_succ,i64_w,i32_w]
    rfl
  refine pure_ (i:=2) (N:=some 27) (v:=?_) (a':=?_) #[true,true,true,true,true,true,true,false,false,false,false] rfl rfl (by kernel_rfl) (fun _ _ _ h => h) (Or.inl ⟨by rfl,?_⟩) ?_ ?_
  rotate_left
  · intro w'
    go_simp
    first | with_reducible rfl | rfl
  rotate_left
  · simp only [Act.put,List.setIfInBounds_toArray,List.set_cons_zero,List.set_cons_succ,i64_w,i32_w]
    rfl
  refine one_ (i:=7) (N:=some 32) #[true,true,true,true,true,true,true,true,false,false,false] rfl rfl (by kernel_rfl) (by decide) (fun K hK => ?_)
  refine goes_ Tryz.func12 (by kernel_rfl) rfl #[.agg #[.int .u8 x.A,.int .u8 x.X,.int .u8 x.Y,.int .u8 x.S,.int .u16 x.PC,.bool x.F.N,.bool x.F.V,.bool x.F.D,.bool x.F.I,.bool x.F.Z,.bool x.F.C],.agg #[.slice A1 L.length c1],vE,.int .i64 n] (by rfl) rfl rfl (by simp only [List.map_toArray,List.map_cons,List.map_nil];rfl) ?_
  refine Calls.mono (hcall.out W hb0) ?_
  rintro _ w8 ⟨A5,c5,B5,d5,C5,f5,D5,g5,rfl,_,_,_,_,hb⟩
  refine ⟨_,rfl,?_⟩
  have hb1:=below_step hb0 hb
  refine hK.out _ _ ⟨(cpuAll (KA.below hb1)).1,(cpuAll (KA.below hb1)).2.1,(cpuAll (KA.below hb1)).2.2.1,(cpuAll (KA.below hb1)).2.2.2.1,(cpuAll (KA.below hb1)).2.2.2.2.1,(cpuAll (KA.below hb1)).2.2.2.2.2.1,(cpuAll (KA.below hb1)).2.2.2.2.2.2.1,(cpuAll (KA.below hb1)).2.2.2.2.2.2.2.1,(cpuAll (KA.below hb1)).2.2.2.2.2.2.2.2.1,(cpuAll (KA.below hb1)).2.2.2.2.2.2.2.2.2.1,(cpuAll (KA.below hb1)).2.2.2.2.2.2.2.2.2.2,(KB.below hb1).one,(cell_keep hb1 h12)⟩ (fun hHeld => ?_)
  clear hK K
  refine norm_ (a':=?_) ?_ ?_
  rotate_left
  · show Act.put _ (some 32) _ = _
    simp only [Act.put,List.setIfInBounds_toArray,List.set_cons_zero,List.set_cons_succ,i64_w,i32_w]
    rfl
  refine pure_ (i:=8) (N:=some 33) (v:=?_) (a':=?_) #[true,true,true,true,true,true,true,true,true,false,false] rfl rfl (by kernel_rfl) (fun _ _ _ h => h) (Or.inl ⟨by rfl,?_⟩) ?_ ?_
  rotate_left
  · intro w'
    go_simp
    first | with_reducible rfl | rfl
  rotate_left
  · simp only [Act.put,List.setIfInBounds_toArray,List.set_cons_zero,List.set_cons_succ,i64_w,i32_w]
    rfl
  refine pure_ (i:=9) (N:=some 34) (v:=?_) (a':=?_) #[true,true,true,true,true,true,true,true,true,true,false] rfl rfl (by kernel_rfl) (fun _ _ _ h => h) (Or.inl ⟨by rfl,?_⟩) ?_ ?_
  rotate_left
  · intro w'
    go_simp
    first | with_reducible rfl | rfl
  rotate_left
  · simp only [Act.put,List.setIfInBounds_toArray,List.set_cons_zero,List.set_cons_succ,i64_w,i32_w]
    rfl
  refine pure_ (i:=10) (N:=some 35) (v:=?_) (a':=?_) #[true,true,true,true,true,true,true,true,true,true,true] rfl rfl (by kernel_rfl) (fun _ _ _ h => h) (Or.inl ⟨by rfl,?_⟩) ?_ ?_
  rotate_left
  · intro w'
    go_simp
    first | with_reducible rfl | rfl
  rotate_left
  · simp only [Act.put,List.setIfInBounds_toArray,List.set_cons_zero,List.set_cons_succ,i64_w,i32_w]
    rfl
  refine done_ (by kernel_rfl) ?_
  refine ⟨hb1,_,_,_,_,_,_,_,_,_,_,rfl⟩
open Go.RowKit Go.Proofs.YtoncmhfmkfeolaaGreatDoorW.PrintWords Go.Proofs.YtoncmhfmkfeolaaGreatDoorW.PrintLast
theorem R_litF {α : Type} (d : Kd α) (W : World) (base e : Nat) (hb : base ≤ W.heap.size) : d.R e (W.alloc (.cells #[] e)) base (fun _ => True) (.slice (some ⟨W.heap.size,0,none⟩) 0 0) [] :=
  ⟨fun _ _ => trivial,[],by simpa using World.ownsRow_lit (base:=base) (e:=e) (size:=d.sz) W #[] 0 hb (by decide) (by simp),Reps.none _ _⟩
theorem fnr13S {W : World} {c : Cpu} {k7 k9 k10 : Nat} {m : List Int} {tF tG T : List Cyc} {j : Bool} {A7 A10 B7 B9 B10 : Option Addr} {c7 c10 d7 d9 d10 : Nat} {x13 x14 y13 y14 z0 z1 z2 z3 z4 z5 z6 z7 z8 z9 z10 z11 z13 z14 z15 : Value} (h10 : Blk W k10 #[.int .u8 c.A,.int .u8 c.X,.int .u8 c.Y,.int .u8 c.S,.int .u16 c.PC,.bool c.F.N,.bool c.F.V,.bool c.F.D,.bool c.F.I,.bool c.F.Z,.bool c.F.C,.slice A10 m.length c10,.slice B10 tG.length d10,y13,y14,.bool j] 38) (h7 : Blk W k7 #[.int .u8 c.A,.int .u8 c.X,.int .u8 c.Y,.int .u8 c.S,.int .u16 c.PC,.bool c.F.N,.bool c.F.V,.bool c.F.D,.bool c.F.I,.bool c.F.Z,.bool c.F.C,.slice A7 m.length c7,.slice B7 T.length d7,x13,x14,.bool j] 38) (h9 : Blk W k9 #[z0,z1,z2,z3,z4,z5,z6,z7,z8,z9,z10,z11,.slice B9 tF.length d9,z13,z14,z15] 38) : W.cell? ⟨k10,0,none⟩ = some (.int .u8 c.A)∧W.cell? ⟨k10,1,none⟩ = some (.int .u8 c.X)∧W.cell? ⟨k10,2,none⟩ = some (.int .u8 c.Y)∧W.cell? ⟨k10,3,none⟩ = some (.int .u8 c.S)∧W.cell? ⟨k10,4,none⟩ = some (.int .u16 c.PC)∧W.cell? ⟨k10,5,none⟩ = some (.bool c.F.N)∧W.cell? ⟨k10,6,none⟩ = some (.bool c.F.V)∧W.cell? ⟨k10,7,none⟩ = some (.bool c.F.D)∧W.cell? ⟨k10,8,none⟩ = some (.bool c.F.I)∧W.cell? ⟨k10,9,none⟩ = some (.bool c.F.Z)∧W.cell? ⟨k10,10,none⟩ = some (.bool c.F.C)∧W.cell? ⟨k10,11,none⟩ = some (.slice A10 m.length c10)∧W.cell? ⟨k10,12,none⟩ = some (.slice B10 tG.length d10)∧W.cell? ⟨k10,15,none⟩ = some (.bool j)∧W.cell? ⟨k7,0,none⟩ = some (.int .u8 c.A)∧W.cell? ⟨k7,1,none⟩ = some (.int .u8 c.X)∧W.cell? ⟨k7,2,none⟩ = some (.int .u8 c.Y)∧W.cell? ⟨k7,3,none⟩ = some (.int .u8 c.S)∧W.cell? ⟨k7,4,none⟩ = some (.int .u16 c.PC)∧W.cell? ⟨k7,5,none⟩ = some (.bool c.F.N)∧W.cell? ⟨k7,6,none⟩ = some (.bool c.F.V)∧W.cell? ⟨k7,7,none⟩ = some (.bool c.F.D)∧W.cell? ⟨k7,8,none⟩ = some (.bool c.F.I)∧W.cell? ⟨k7,9,none⟩ = some (.bool c.F.Z)∧W.cell? ⟨k7,10,none⟩ = some (.bool c.F.C)∧W.cell? ⟨k7,11,none⟩ = some (.slice A7 m.length c7)∧W.cell? ⟨k7,12,none⟩ = some (.slice B7 T.length d7)∧W.cell? ⟨k7,15,none⟩ = some (.bool j)∧W.cell? ⟨k9,12,none⟩ = some (.slice B9 tF.length d9):=by
  exact ⟨h10.cell 0,h10.cell 1,h10.cell 2,h10.cell 3,h10.cell 4,h10.cell 5,h10.cell 6,h10.cell 7,h10.cell 8,h10.cell 9,h10.cell 10,h10.cell 11,h10.cell 12,h10.cell 15,h7.cell 0,h7.cell 1,h7.cell 2,h7.cell 3,h7.cell 4,h7.cell 5,h7.cell 6,h7.cell 7,h7.cell 8,h7.cell 9,h7.cell 10,h7.cell 11,h7.cell 12,h7.cell 15,h9.cell 12⟩
set_option maxRecDepth 100000 in
set_option maxHeartbeats 1000000 in
theorem fnrReg13 (w0 : World) (c : Cpu) (k7 k9 k10 : Nat) (m : List Int) (tF tG T : List Cyc) (j : Bool) (A7 A10 B7 B9 B10 : Option Addr) (c7 c10 d7 d9 d10 : Nat) (x13 x14 y13 y14 z0 z1 z2 z3 z4 z5 z6 z7 z8 z9 z10 z11 z13 z14 z15 : Value) (h10 : Blk w0 k10 #[.int .u8 c.A,.int .u8 c.X,.int .u8 c.Y,.int .u8 c.S,.int .u16 c.PC,.bool c.F.N,.bool c.F.V,.bool c.F.D,.bool c.F.I,.bool c.F.Z,.bool c.F.C,.slice A10 m.length c10,.slice B10 tG.length d10,y13,y14,.bool j] 38) (h7 : Blk w0 k7 #[.int .u8 c.A,.int .u8 c.X,.int .u8 c.Y,.int .u8 c.S,.int .u16 c.PC,.bool c.F.N,.bool c.F.V,.bool c.F.D,.bool c.F.I,.bool c.F.Z,.bool c.F.C,.slice A7 m.length c7,.slice B7 T.length d7,x13,x14,.bool j] 38) (h9 : Blk w0 k9 #[z0,z1,z2,z3,z4,z5,z6,z7,z8,z9,z10,z11,.slice B9 tF.length d9,z13,z14,z15] 38)
    (b10 : Bs w0 A10 m) (b7 : Bs w0 A7 m) (hF : cycK.C w0 B9 tF.length tF) (hG : cycK.C w0 B10 tG.length tG) (hQ : cycK.C w0 B7 T.length T) (hT : Aside0 (tF ++ tG = T)) (hml : m.length ≤ 1048576) (hfl : tF.length ≤ 960) (hgl : tG.length ≤ 960) (hql : T.length ≤ 1048576)
    (s0 s1 s2 s3 s4 s5 s6 s8 s11 s12 s13 s14 s15 s16 s17 s18 s19 s20 s21 s22 s23 s24 s25 s26 s27 s28 s29 s30 s31 s32 s33 s34 s35 s36 s37 s38 s39 s40 s41 s42 s43 s44 s45 s46 s47 s48 s49 s50 s51 s52 s53 s54 s55 s56 s57 s58 s59 s60 s61 s62 s63 s64 s65 s66 s67 s68 s69 s70 s71 s72 s73 s74 s75 s76 s77 s78 s79 s80 s81 s82 s83 s84 s85 s86 s87 s88 s89 s90 s91 s92 s93 s94 s95 s96 s97 s98 s99 s100 s101 : Value) :
    Code.wp Tryz.prog ((Tryz.f3.body.bind (regOf 13)).getD .skip) (OnNormal fun a' w' => Below w0.heap.size w0 w'∧∃ u69 u70 u71 u72 u73 u74 u75 u76 u77 u78 u79 u80 u81 u82 u83 u84 u85 u86 u87 u88 u89 u90 u91 u92 u93 u94 u95 u96 u97 u98 u99 u100 u101,a' = ⟨List.toArray (s0::s1::.bool true::s3::s4::s5::s6::.pointer (some ⟨k7,0,none⟩)::s8::.pointer (some ⟨k9,0,none⟩)::.pointer (some ⟨k10,0,none⟩)::s11::s12::s13::s14::s15::s16::s17::s18::s19::s20::s21::s22::s23::s24::s25::s26::s27::s28::s29::s30::s31::s32::s33::s34::s35::s36::s37::s38::s39::s40::s41::s42::s43::s44::s45::s46::s47::s48::s49::s50::s51::s52::s53::s54::s55::s56::s57::s58::s59::s60::s61::s62::s63::s64::s65::s66::s67::s68::u69::u70::u71::u72::u73::u74::u75::u76::u77::u78::u79::u80::u81::u82::u83::u84::u85::u86::u87::u88::u89::u90::u91::u92::u93::u94::u95::u96::u97::u98::u99::u100::u101::[]),[]⟩) ⟨List.toArray (s0::s1::s2::s3::s4::s5::s6::.pointer (some ⟨k7,0,none⟩)::s8::.pointer (some ⟨k9,0,none⟩)::.pointer (some ⟨k10,0,none⟩)::s11::s12::s13::s14::s15::s16::s17::s18::s19::s20::s21::s22::s23::s24::s25::s26::s27::s28::s29::s30::s31::s32::s33::s34::s35::s36::s37::s38::s39::s40::s41::s42::s43::s44::s45::s46::s47::s48::s49::s50::s51::s52::s53::s54::s55::s56::s57::s58::s59::s60::s61::s62::s63::s64::s65::s66::s67::s68::s69::s70::s71::s72::s73::s74::s75::s76::s77::s78::s79::s80::s81::s82::s83::s84::s85::s86::s87::s88::s89::s90::s91::s92::s93::s94::s95::s96::s97::s98::s99::s100::s101::[]),[]⟩ w0:=by
  conv => arg 2;whnf
  have HB : Aside0 (Below w0.heap.size w0 w0.drew):=⟨blw⟩
  refine start_ (n:=34) (S:=fun w' => w'.cell? ⟨k10,0,none⟩ = some (.int .u8 c.A)∧w'.cell? ⟨k10,1,none⟩ = some (.int .u8 c.X)∧w'.cell? ⟨k10,2,none⟩ = some (.int .u8 c.Y)∧w'.cell? ⟨k10,3,none⟩ = some (.int .u8 c.S)∧w'.cell? ⟨k10,4,none⟩ = some (.int .u16 c.PC)∧w'.cell? ⟨k10,5,none⟩ = some (.bool c.F.N)∧w'.cell? ⟨k10,6,none⟩ = some (.bool c.F.V)∧w'.cell? ⟨k10,7,none⟩ = some (.bool c.F.D)∧w'.cell? ⟨k10,8,none⟩ = some (.bool c.F.I)∧w'.cell? ⟨k10,9,none⟩ = some (.bool c.F.Z)∧w'.cell? ⟨k10,10,none⟩ = some (.bool c.F.C)∧w'.cell? ⟨k10,11,none⟩ = some (.slice A10 m.length c10)∧w'.cell? ⟨k10,12,none⟩ = some (.slice B10 tG.length d10)∧w'.cell? ⟨k10,15,none⟩ = some (.bool j)∧w'.cell? ⟨k7,0,none⟩ = some (.int .u8 c.A)∧w'.cell? ⟨k7,1,none⟩ = some (.int .u8 c.X)∧w'.cell? ⟨k7,2,none⟩ = some (.int .u8 c.Y)∧w'.cell? ⟨k7,3,none⟩ = some (.int .u8 c.S)∧w'.cell? ⟨k7,4,none⟩ = some (.int .u16 c.PC)∧w'.cell? ⟨k7,5,none⟩ = some (.bool c.F.N)∧w'.cell? ⟨k7,6,none⟩ = some (.bool c.F.V)∧w'.cell? ⟨k7,7,none⟩ = some (.bool c.F.D)∧w'.cell? ⟨k7,8,none⟩ = some (.bool c.F.I)∧w'.cell? ⟨k7,9,none⟩ = some (.bool c.F.Z)∧w'.cell? ⟨k7,10,none⟩ = some (.bool c.F.C)∧w'.cell? ⟨k7,11,none⟩ = some (.slice A7 m.length c7)∧w'.cell? ⟨k7,12,none⟩ = some (.slice B7 T.length d7)∧w'.cell? ⟨k7,15,none⟩ = some (.bool j)∧w'.cell? ⟨k9,12,none⟩ = some (.slice B9 tF.length d9)) (ds:=[]) #[false,false,false,false,false,false,false,false,false,false,false,false,false,false,false,false,false,false,false,false,false,false,false,false,false,false,false,false,false,false,false,false,false,false] (by kernel_rfl) rfl rfl ?_ (fun hHeld => ?_)
  · exact (fnr13S (h10.below HB.out) (h7.below HB.out) (h9.below HB.out))
  generalize w0.drew = W at HB hHeld ⊢
  refine pure_ (i:=0) (N:=some 69) (v:=?_) (a':=?_) #[true,false,false,false,false,false,false,false,false,false,false,false,false,false,false,false,false,false,false,false,false,false,false,false,false,false,false,false,false,false,false,false,false,false] rfl rfl (by kernel_rfl) (fun _ _ _ h => h) (Or.inl ⟨by rfl,?_⟩) ?_ ?_
  rotate_left
  · intro w'
    go_simp
    with_reducible rfl
  rotate_left
  · simp only [Act.put,List.setIfInBounds_toArray,List.set_cons_zero,List.set_cons_succ,i64_w,i32_w]
    rfl
  refine take_ (i:=1) (N:=some 70) (v:=?_) (a':=?_) #[true,true,false,false,false,false,false,false,false,false,false,false,false,false,false,false,false,false,false,false,false,false,false,false,false,false,false,false,false,false,false,false,false,false] rfl rfl (by kernel_rfl) (fun _ _ _ h => h) (Or.inl ⟨by rfl,?_⟩) hHeld ?_ ?_
  rotate_left
  · rintro w' ⟨s0',s1',s2',s3',s4',s5',s6',s7',s8',s9',s10',s11',s12',s13',s14',s15',s16',s17',s18',s19',s20',s21',s22',s23',s24',s25',s26',s27',s28'⟩
    go_simp
    with_reducible rfl
  rotate_left
  · simp only [Act.put,List.setIfInBounds_toArray,List.set_cons_zero,List.set_cons_succ,i64_w,i32_w]
    rfl
  refine pure_ (i:=2) (N:=some 71) (v:=?_) (a':=?_) #[true,true,true,false,false,false,false,false,false,false,false,false,false,false,false,false,false,false,false,false,false,false,false,false,false,false,false,false,false,false,false,false,false,false] rfl rfl (by kernel_rfl) (fun _ _ _ h => h) (Or.inl ⟨by rfl,?_⟩) ?_ ?_
  rotate_left
  · intro w'
    go_simp
    with_reducible rfl
  rotate_left
  · simp only [Act.put,List.setIfInBounds_toArray,List.set_cons_zero,List.set_cons_succ,i64_w,i32_w]
    rfl
  refine take_ (i:=3) (N:=some 72) (v:=?_) (a':=?_) #[true,true,true,true,false,false,false,false,false,false,false,false,false,false,false,false,false,false,false,false,false,false,false,false,false,false,false,false,false,false,false,false,false,false] rfl rfl (by kernel_rfl) (fun _ _ _ h => h) (Or.inl ⟨by rfl,?_⟩) hHeld ?_ ?_
  rotate_left
  · rintro w' ⟨s0',s1',s2',s3',s4',s5',s6',s7',s8',s9',s10',s11',s12',s13',s14',s15',s16',s17',s18',s19',s20',s21',s22',s23',s24',s25',s26',s27',s28'⟩
    go_simp
    with_reducible rfl
  rotate_left
  · simp only [Act.put,List.setIfInBounds_toArray,List.set_cons_zero,List.set_cons_succ,i64_w,i32_w]
    rfl
  refine pure_ (i:=4) (N:=some 73) (v:=.bool true) (a':=?_) #[true,true,true,true,true,false,false,false,false,false,false,false,false,false,false,false,false,false,false,false,false,false,false,false,false,false,false,false,false,false,false,false,false,false] rfl rfl (by kernel_rfl) (fun _ _ _ h => h) (Or.inl ⟨by rfl,?_⟩) ?_ ?_
  · intro w'
    go_simp
    (try rfl)
  rotate_left
  · simp only [Act.put,List.setIfInBounds_toArray,List.set_cons_zero,List.set_cons_succ,i64_w,i32_w]
    rfl
  refine pure_ (i:=5) (N:=some 74) (v:=?_) (a':=?_) #[true,true,true,true,true,true,false,false,false,false,false,false,false,false,false,false,false,false,false,false,false,false,false,false,false,false,false,false,false,false,false,false,false,false] rfl rfl (by kernel_rfl) (fun _ _ _ h => h) (Or.inl ⟨by rfl,?_⟩) ?_ ?_
  rotate_left
  · intro w'
    go_simp
    with_reducible rfl
  rotate_left
  · simp only [Act.put,List.setIfInBounds_toArray,List.set_cons_zero,List.set_cons_succ,i64_w,i32_w]
    rfl
  refine pure_ (i:=6) (N:=some 75) (v:=?_) (a':=?_) #[true,true,true,true,true,true,true,false,false,false,false,false,false,false,false,false,false,false,false,false,false,false,false,false,false,false,false,false,false,false,false,false,false,false] rfl rfl (by kernel_rfl) (fun _ _ _ h => h) (Or.inl ⟨by rfl,?_⟩) ?_ ?_
  rotate_left
  · intro w'
    go_simp
    with_reducible rfl
  rotate_left
  · simp only [Act.put,List.setIfInBounds_toArray,List.set_cons_zero,List.set_cons_succ,i64_w,i32_w]
    rfl
  refine pure_ (i:=7) (N:=some 76) (v:=?_) (a':=?_) #[true,true,true,true,true,true,true,true,false,false,false,false,false,false,false,false,false,false,false,false,false,false,false,false,false,false,false,false,false,false,false,false,false,false] rfl rfl (by kernel_rfl) (fun _ _ _ h => h) (Or.inl ⟨by rfl,?_⟩) ?_ ?_
  rotate_left
  · intro w'
    go_simp
    with_reducible rfl
  rotate_left
  · simp only [Act.put,List.setIfInBounds_toArray,List.set_cons_zero,List.set_cons_succ,i64_w,i32_w]
    rfl
  refine take_ (i:=8) (N:=some 77) (v:=?_) (a':=?_) #[true,true,true,true,true,true,true,true,true,false,false,false,false,false,false,false,false,false,false,false,false,false,false,false,false,false,false,false,false,false,false,false,false,false] rfl rfl (by kernel_rfl) (fun _ _ _ h => h) (Or.inl ⟨by rfl,?_⟩) hHeld ?_ ?_
  rotate_left
  · rintro w' ⟨s0',s1',s2',s3',s4',s5',s6',s7',s8',s9',s10',s11',s12',s13',s14',s15',s16',s17',s18',s19',s20',s21',s22',s23',s24',s25',s26',s27',s28'⟩
    go_simp
    with_reducible rfl
  rotate_left
  · simp only [Act.put,List.setIfInBounds_toArray,List.set_cons_zero,List.set_cons_succ,i64_w,i32_w]
    rfl
  refine pure_ (i:=9) (N:=some 78) (v:=?_) (a':=?_) #[true,true,true,true,true,true,true,true,true,true,false,false,false,false,false,false,false,false,false,false,false,false,false,false,false,false,false,false,false,false,false,false,false,false] rfl rfl (by kernel_rfl) (fun _ _ _ h => h) (Or.inl ⟨by rfl,?_⟩) ?_ ?_
  rotate_left
  · intro w'
    go_simp
    with_reducible rfl
  rotate_left
  · simp only [Act.put,List.setIfInBounds_toArray,List.set_cons_zero,List.set_cons_succ,i64_w,i32_w]
    rfl
  refine pure_ (i:=10) (N:=some 79) (v:=?_) (a':=?_) #[true,true,true,true,true,true,true,true,true,true,true,false,false,false,false,false,false,false,false,false,false,false,false,false,false,false,false,false,false,false,false,false,false,false] rfl rfl (by kernel_rfl) (fun _ _ _ h => h) (Or.inl ⟨by rfl,?_⟩) ?_ ?_
  rotate_left
  · intro w'
    go_simp
    with_reducible rfl
  rotate_left
  · simp only [Act.put,List.setIfInBounds_toArray,List.set_cons_zero,List.set_cons_succ,i64_w,i32_w]
    rfl
  refine take_ (i:=11) (N:=some 80) (v:=?_) (a':=?_) #[true,true,true,true,true,true,true,true,true,true,true,true,false,false,false,false,false,false,false,false,false,false,false,false,false,false,false,false,false,false,false,false,false,false] rfl rfl (by kernel_rfl) (fun _ _ _ h => h) (Or.inl ⟨by rfl,?_⟩) hHeld ?_ ?_
  rotate_left
  · rintro w' ⟨s0',s1',s2',s3',s4',s5',s6',s7',s8',s9',s10',s11',s12',s13',s14',s15',s16',s17',s18',s19',s20',s21',s22',s23',s24',s25',s26',s27',s28'⟩
    go_simp
    with_reducible rfl
  rotate_left
  · simp only [Act.put,List.setIfInBounds_toArray,List.set_cons_zero,List.set_cons_succ,i64_w,i32_w]
    rfl
  refine one_ (i:=12) (N:=some 81) #[true,true,true,true,true,true,true,true,true,true,true,true,true,false,false,false,false,false,false,false,false,false,false,false,false,false,false,false,false,false,false,false,false,false] rfl rfl (by kernel_rfl) (by decide) (fun K hK => ?_)
  refine goes_ Tryz.func15 (by kernel_rfl) rfl #[.slice A10 m.length c10,.slice A7 m.length c7] (by rfl) rfl rfl (by simp only [List.map_toArray,List.map_cons,List.map_nil];rfl) ?_
  refine Calls.mono (laws_sameBytes A10 A7 c10 c7 m W (b10.below HB.out) (b7.below HB.out) hml) ?_
  rintro _ w1 ⟨rfl,hb⟩
  refine ⟨_,rfl,?_⟩
  replace HB:=Aside0.mk (below_step HB.out hb)
  (try replace KL:=Aside0.mk (Kd.R_below KL.out hb))
  clear hb hHeld
  refine hK.out _ _ (fnr13S (h10.below HB.out) (h7.below HB.out) (h9.below HB.out)) (fun hHeld => ?_)
  clear hK K
  refine norm_ (a':=?_) ?_ ?_
  rotate_left
  · show Act.put _ (some 81) _ = _
    simp only [Act.put,List.setIfInBounds_toArray,List.set_cons_zero,List.set_cons_succ,i64_w,i32_w]
    rfl
  refine pure_ (i:=13) (N:=some 82) (v:=?_) (a':=?_) #[true,true,true,true,true,true,true,true,true,true,true,true,true,true,false,false,false,false,false,false,false,false,false,false,false,false,false,false,false,false,false,false,false,false] rfl rfl (by kernel_rfl) (fun _ _ _ h => h) (Or.inl ⟨by rfl,?_⟩) ?_ ?_
  rotate_left
  · intro w'
    go_simp
    with_reducible rfl
  rotate_left
  · simp only [Act.put,List.setIfInBounds_toArray,List.set_cons_zero,List.set_cons_succ,i64_w,i32_w]
    rfl
  refine pure_ (i:=14) (N:=some 83) (v:=?_) (a':=?_) #[true,true,true,true,true,true,true,true,true,true,true,true,true,true,true,false,false,false,false,false,false,false,false,false,false,false,false,false,false,false,false,false,false,false] rfl rfl (by kernel_rfl) (fun _ _ _ h => h) (Or.inl ⟨by rfl,?_⟩) ?_ ?_
  rotate_left
  · intro w'
    go_simp
    with_reducible rfl
  rotate_left
  · simp only [Act.put,List.setIfInBounds_toArray,List.set_cons_zero,List.set_cons_succ,i64_w,i32_w]
    rfl
  refine pure_ (i:=16) (N:=some 85) (v:=?_) (a':=?_) #[true,true,true,true,true,true,true,true,true,true,true,true,true,true,true,false,true,false,false,false,false,false,false,false,false,false,false,false,false,false,false,false,false,false] rfl rfl (by kernel_rfl) (fun _ _ _ h => h) (Or.inl ⟨by rfl,?_⟩) ?_ ?_
  rotate_left
  · intro w'
    go_simp
    with_reducible rfl
  rotate_left
  · simp only [Act.put,List.setIfInBounds_toArray,List.set_cons_zero,List.set_cons_succ,i64_w,i32_w]
    rfl
  refine take_ (i:=17) (N:=some 86) (v:=?_) (a':=?_) #[true,true,true,true,true,true,true,true,true,true,true,true,true,true,true,false,true,true,false,false,false,false,false,false,false,false,false,false,false,false,false,false,false,false] rfl rfl (by kernel_rfl) (fun _ _ _ h => h) (Or.inl ⟨by rfl,?_⟩) hHeld ?_ ?_
  rotate_left
  · rintro w' ⟨s0',s1',s2',s3',s4',s5',s6',s7',s8',s9',s10',s11',s12',s13',s14',s15',s16',s17',s18',s19',s20',s21',s22',s23',s24',s25',s26',s27',s28'⟩
    go_simp
    with_reducible rfl
  rotate_left
  · simp only [Act.put,List.setIfInBounds_toArray,List.set_cons_zero,List.set_cons_succ,i64_w,i32_w]
    rfl
  refine pure_ (i:=19) (N:=some 88) (v:=?_) (a':=?_) #[true,true,true,true,true,true,true,true,true,true,true,true,true,true,true,false,true,true,false,true,false,false,false,false,false,false,false,false,false,false,false,false,false,false] rfl rfl (by kernel_rfl) (fun _ _ _ h => h) (Or.inl ⟨by rfl,?_⟩) ?_ ?_
  rotate_left
  · intro w'
    go_simp
    with_reducible rfl
  rotate_left
  · simp only [Act.put,List.setIfInBounds_toArray,List.set_cons_zero,List.set_cons_succ,i64_w,i32_w]
    rfl
  refine take_ (i:=20) (N:=some 89) (v:=?_) (a':=?_) #[true,true,true,true,true,true,true,true,true,true,true,true,true,true,true,false,true,true,false,true,true,false,false,false,false,false,false,false,false,false,false,false,false,false] rfl rfl (by kernel_rfl) (fun _ _ _ h => h) (Or.inl ⟨by rfl,?_⟩) hHeld ?_ ?_
  rotate_left
  · rintro w' ⟨s0',s1',s2',s3',s4',s5',s6',s7',s8',s9',s10',s11',s12',s13',s14',s15',s16',s17',s18',s19',s20',s21',s22',s23',s24',s25',s26',s27',s28'⟩
    go_simp
    with_reducible rfl
  rotate_left
  · simp only [Act.put,List.setIfInBounds_toArray,List.set_cons_zero,List.set_cons_succ,i64_w,i32_w]
    rfl
  refine pure_ (i:=22) (N:=some 91) (v:=?_) (a':=?_) #[true,true,true,true,true,true,true,true,true,true,true,true,true,true,true,false,true,true,false,true,true,false,true,false,false,false,false,false,false,false,false,false,false,false] rfl rfl (by kernel_rfl) (fun _ _ _ h => h) (Or.inl ⟨by rfl,?_⟩) ?_ ?_
  rotate_left
  · intro w'
    go_simp
    with_reducible rfl
  rotate_left
  · simp only [Act.put,List.setIfInBounds_toArray,List.set_cons_zero,List.set_cons_succ,i64_w,i32_w]
    rfl
  refine take_ (i:=23) (N:=some 92) (v:=?_) (a':=?_) #[true,true,true,true,true,true,true,true,true,true,true,true,true,true,true,false,true,true,false,true,true,false,true,true,false,false,false,false,false,false,false,false,false,false] rfl rfl (by kernel_rfl) (fun _ _ _ h => h) (Or.inl ⟨by rfl,?_⟩) hHeld ?_ ?_
  rotate_left
  · rintro w' ⟨s0',s1',s2',s3',s4',s5',s6',s7',s8',s9',s10',s11',s12',s13',s14',s15',s16',s17',s18',s19',s20',s21',s22',s23',s24',s25',s26',s27',s28'⟩
    go_simp
    with_reducible rfl
  rotate_left
  · simp only [Act.put,List.setIfInBounds_toArray,List.set_cons_zero,List.set_cons_succ,i64_w,i32_w]
    rfl
  refine one_ (i:=15) (N:=some 84) #[true,true,true,true,true,true,true,true,true,true,true,true,true,true,true,true,true,true,false,true,true,false,true,true,false,false,false,false,false,false,false,false,false,false] rfl rfl (by kernel_rfl) (by decide) (fun K hK => ?_)
  refine value_ (w1:=?_) (v:=?_) (by rfl) rfl ?_ ?_
  rotate_left 2
  · go_simp
    constructor
    · rfl
    · rfl
  have KL : Aside0 (cycK.R 70 (w1.alloc (.cells #[] 70)) w0.heap.size (fun _ => True) (.slice (some ⟨w1.heap.size,0,none⟩) 0 0) []):=⟨R_litF _ _ _ _ HB.out.size⟩
  have hb : Below w1.heap.size w1 (w1.alloc (.cells #[] 70)):=blw
  replace HB:=Aside0.mk (HB.out.trans (hb.mono HB.out.size))
  clear hb hHeld
  obtain ⟨gl,hgl⟩ : ∃ x,w1.heap.size = x:=⟨_,rfl⟩
  rw [hgl] at KL ⊢
  clear hgl
  generalize w1.alloc (.cells #[] 70) = w2 at *
  refine hK.out _ _ (fnr13S (h10.below HB.out) (h7.below HB.out) (h9.below HB.out)) (fun hHeld => ?_)
  clear hK K
  refine norm_ (a':=?_) ?_ ?_
  rotate_left
  · show Act.put _ (some 84) _ = _
    simp only [Act.put,List.setIfInBounds_toArray,List.set_cons_zero,List.set_cons_succ,i64_w,i32_w]
    rfl
  refine one_ (i:=18) (N:=some 87) #[true,true,true,true,true,true,true,true,true,true,true,true,true,true,true,true,true,true,true,true,true,false,true,true,false,false,false,false,false,false,false,false,false,false] rfl rfl (by kernel_rfl) (by decide) (fun K hK => ?_)
  refine Kd.R_append_rows_step cycK (Rr:=cycK.K w0) (w0:=w0) w0.heap.size (by rfl) (.tmp 84) (.tmp 86) 34 70 (.agg #[.int .u16 0,.int .u8 0,.bool false]) 4 (by rfl) Tryz.underlying34 infoCyc rfl (by decide) (by decide) (Value.slice (some ⟨gl,0,none⟩) 0 0) [] tF B9 tF.length d9 (fun _ => True) (fun k => some k ≠ (Value.slice (some ⟨gl,0,none⟩) 0 0).ownBlock) (by rfl) (by rfl) KL.out (Kd.C_below hF HB.out) (fun _ _ hq => hq) (fun _ hk => ⟨trivial,hk⟩) (fun _ _ => trivial) HB.out HB.out.size (by first | omega | (simp;omega)) ?_
  intro v3 w3 ho hb4 hg4 _
  rw [List.nil_append] at ho
  obtain ⟨E3,e3,ee,_,_⟩:=Kd.R_reads ho
  subst ee
  replace KL:=Aside0.mk ho
  replace HB:=Aside0.mk hb4
  clear hHeld ho hb4 hg4
  refine hK.out _ _ (fnr13S (h10.below HB.out) (h7.below HB.out) (h9.below HB.out)) (fun hHeld => ?_)
  clear hK K
  refine norm_ (a':=?_) ?_ ?_
  rotate_left
  · show Act.put _ (some 87) _ = _
    simp only [Act.put,List.setIfInBounds_toArray,List.set_cons_zero,List.set_cons_succ,i64_w,i32_w]
    rfl
  refine one_ (i:=21) (N:=some 90) #[true,true,true,true,true,true,true,true,true,true,true,true,true,true,true,true,true,true,true,true,true,true,true,true,false,false,false,false,false,false,false,false,false,false] rfl rfl (by kernel_rfl) (by decide) (fun K hK => ?_)
  refine Kd.R_append_rows_step cycK (Rr:=cycK.K w0) (w0:=w0) w0.heap.size (by rfl) (.tmp 87) (.tmp 89) 34 70 (.agg #[.int .u16 0,.int .u8 0,.bool false]) 4 (by rfl) Tryz.underlying34 infoCyc rfl (by decide) (by decide) (Value.slice E3 tF.length e3) tF tG B10 tG.length d10 (fun _ => True) (fun k => some k ≠ (Value.slice E3 tF.length e3).ownBlock) (by rfl) (by rfl) KL.out (Kd.C_below hG HB.out) (fun _ _ hq => hq) (fun _ hk => ⟨trivial,hk⟩) (fun _ _ => trivial) HB.out HB.out.size (by first | omega | (simp;omega)) ?_
  intro v4 w4 ho hb4 hg4 _
  rw [hT.out] at ho
  obtain ⟨E4,e4,ee,_,_⟩:=Kd.R_reads ho
  subst ee
  replace KL:=Aside0.mk ho
  replace HB:=Aside0.mk hb4
  clear hHeld ho hb4 hg4
  refine hK.out _ _ (fnr13S (h10.below HB.out) (h7.below HB.out) (h9.below HB.out)) (fun hHeld => ?_)
  clear hK K
  refine norm_ (a':=?_) ?_ ?_
  rotate_left
  · show Act.put _ (some 90) _ = _
    simp only [Act.put,List.setIfInBounds_toArray,List.set_cons_zero,List.set_cons_succ,i64_w,i32_w]
    rfl
  refine one_ (i:=24) (N:=some 93) #[true,true,true,true,true,true,true,true,true,true,true,true,true,true,true,true,true,true,true,true,true,true,true,true,true,false,false,false,false,false,false,false,false,false] rfl rfl (by kernel_rfl) (by decide) (fun K hK => ?_)
  refine goes_ Tryz.func16 (by kernel_rfl) rfl #[.slice E4 T.length e4,.slice B7 T.length d7] (by rfl) rfl rfl (by simp only [List.map_toArray,List.map_cons,List.map_nil];rfl) ?_
  refine Calls.mono (laws_sameCycs E4 B7 e4 d7 T w4 (Kd.R_reads' KL.out).2.2 (Kd.C_below hQ HB.out) hql) ?_
  rintro _ w5 ⟨rfl,hb⟩
  refine ⟨_,rfl,?_⟩
  replace HB:=Aside0.mk (below_step HB.out hb)
  (try replace KL:=Aside0.mk (Kd.R_below KL.out hb))
  clear hb hHeld
  refine hK.out _ _ (fnr13S (h10.below HB.out) (h7.below HB.out) (h9.below HB.out)) (fun hHeld => ?_)
  clear hK K
  refine norm_ (a':=?_) ?_ ?_
  rotate_left
  · show Act.put _ (some 93) _ = _
    simp only [Act.put,List.setIfInBounds_toArray,List.set_cons_zero,List.set_cons_succ,i64_w,i32_w]
    rfl
  refine pure_ (i:=25) (N:=some 94) (v:=?_) (a':=?_) #[true,true,true,true,true,true,true,true,true,true,true,true,true,true,true,true,true,true,true,true,true,true,true,true,true,true,false,false,false,false,false,false,false,false] rfl rfl (by kernel_rfl) (fun _ _ _ h => h) (Or.inl ⟨by rfl,?_⟩) ?_ ?_
  rotate_left
  · intro w'
    go_simp
    with_reducible rfl
  rotate_left
  · simp only [Act.put,List.setIfInBounds_toArray,List.set_cons_zero,List.set_cons_succ,i64_w,i32_w]
    rfl
  refine pure_ (i:=26) (N:=some 95) (v:=?_) (a':=?_) #[true,true,true,true,true,true,true,true,true,true,true,true,true,true,true,true,true,true,true,true,true,true,true,true,true,true,true,false,false,false,false,false,false,false] rfl rfl (by kernel_rfl) (fun _ _ _ h => h) (Or.inl ⟨by rfl,?_⟩) ?_ ?_
  rotate_left
  · intro w'
    go_simp
    with_reducible rfl
  rotate_left
  · simp only [Act.put,List.setIfInBounds_toArray,List.set_cons_zero,List.set_cons_succ,i64_w,i32_w]
    rfl
  refine pure_ (i:=27) (N:=some 96) (v:=?_) (a':=?_) #[true,true,true,true,true,true,true,true,true,true,true,true,true,true,true,true,true,true,true,true,true,true,true,true,true,true,true,true,false,false,false,false,false,false] rfl rfl (by kernel_rfl) (fun _ _ _ h => h) (Or.inl ⟨by rfl,?_⟩) ?_ ?_
  rotate_left
  · intro w'
    go_simp
    with_reducible rfl
  rotate_left
  · simp only [Act.put,List.setIfInBounds_toArray,List.set_cons_zero,List.set_cons_succ,i64_w,i32_w]
    rfl
  refine take_ (i:=28) (N:=some 97) (v:=?_) (a':=?_) #[true,true,true,true,true,true,true,true,true,true,true,true,true,true,true,true,true,true,true,true,true,true,true,true,true,true,true,true,true,false,false,false,false,false] rfl rfl (by kernel_rfl) (fun _ _ _ h => h) (Or.inl ⟨by rfl,?_⟩) hHeld ?_ ?_
  rotate_left
  · rintro w' ⟨s0',s1',s2',s3',s4',s5',s6',s7',s8',s9',s10',s11',s12',s13',s14',s15',s16',s17',s18',s19',s20',s21',s22',s23',s24',s25',s26',s27',s28'⟩
    go_simp
    with_reducible rfl
  rotate_left
  · simp only [Act.put,List.setIfInBounds_toArray,List.set_cons_zero,List.set_cons_succ,i64_w,i32_w]
    rfl
  refine pure_ (i:=29) (N:=some 98) (v:=?_) (a':=?_) #[true,true,true,true,true,true,true,true,true,true,true,true,true,true,true,true,true,true,true,true,true,true,true,true,true,true,true,true,true,true,false,false,false,false] rfl rfl (by kernel_rfl) (fun _ _ _ h => h) (Or.inl ⟨by rfl,?_⟩) ?_ ?_
  rotate_left
  · intro w'
    go_simp
    with_reducible rfl
  rotate_left
  · simp only [Act.put,List.setIfInBounds_toArray,List.set_cons_zero,List.set_cons_succ,i64_w,i32_w]
    rfl
  refine take_ (i:=30) (N:=some 99) (v:=?_) (a':=?_) #[true,true,true,true,true,true,true,true,true,true,true,true,true,true,true,true,true,true,true,true,true,true,true,true,true,true,true,true,true,true,true,false,false,false] rfl rfl (by kernel_rfl) (fun _ _ _ h => h) (Or.inl ⟨by rfl,?_⟩) hHeld ?_ ?_
  rotate_left
  · rintro w' ⟨s0',s1',s2',s3',s4',s5',s6',s7',s8',s9',s10',s11',s12',s13',s14',s15',s16',s17',s18',s19',s20',s21',s22',s23',s24',s25',s26',s27',s28'⟩
    go_simp
    with_reducible rfl
  rotate_left
  · simp only [Act.put,List.setIfInBounds_toArray,List.set_cons_zero,List.set_cons_succ,i64_w,i32_w]
    rfl
  refine pure_ (i:=31) (N:=some 100) (v:=.bool true) (a':=?_) #[true,true,true,true,true,true,true,true,true,true,true,true,true,true,true,true,true,true,true,true,true,true,true,true,true,true,true,true,true,true,true,true,false,false] rfl rfl (by kernel_rfl) (fun _ _ _ h => h) (Or.inl ⟨by rfl,?_⟩) ?_ ?_
  · intro w'
    go_simp
    (try rfl)
  rotate_left
  · simp only [Act.put,List.setIfInBounds_toArray,List.set_cons_zero,List.set_cons_succ,i64_w,i32_w]
    rfl
  refine pure_ (i:=32) (N:=some 101) (v:=?_) (a':=?_) #[true,true,true,true,true,true,true,true,true,true,true,true,true,true,true,true,true,true,true,true,true,true,true,true,true,true,true,true,true,true,true,true,true,false] rfl rfl (by kernel_rfl) (fun _ _ _ h => h) (Or.inl ⟨by rfl,?_⟩) ?_ ?_
  rotate_left
  · intro w'
    go_simp
    with_reducible rfl
  rotate_left
  · simp only [Act.put,List.setIfInBounds_toArray,List.set_cons_zero,List.set_cons_succ,i64_w,i32_w]
    rfl
  refine pure_ (i:=33) (N:=some 2) (v:=?_) (a':=?_) #[true,true,true,true,true,true,true,true,true,true,true,true,true,true,true,true,true,true,true,true,true,true,true,true,true,true,true,true,true,true,true,true,true,true] rfl rfl (by kernel_rfl) (fun _ _ _ h => h) (Or.inl ⟨by rfl,?_⟩) ?_ ?_
  rotate_left
  · intro w'
    go_simp
    with_reducible rfl
  rotate_left
  · simp only [Act.put,List.setIfInBounds_toArray,List.set_cons_zero,List.set_cons_succ,i64_w,i32_w]
    rfl
  refine done_ (by kernel_rfl) ?_
  exact ⟨HB.out,_,_,_,_,_,_,_,_,_,_,_,_,_,_,_,_,_,_,_,_,_,_,_,_,_,_,_,_,_,_,_,_,_,rfl⟩
end Go.Proofs.YtoncmhfmkfeolaaGreatDoor
