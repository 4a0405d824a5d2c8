/- laws.FnExactRun's regions that make a run of copies, in an order that is left open; and one that reads. -/
import Derived.Test.YtoncmhfmkfeolaaGreatDoorGY
import Derived.Test.YtoncmhfmkfeolaaGreatDoorGP
import Derived.Test.YtoncmhfmkfeolaaGreatDoorWLast
import Derived.BigQuiet
set_option linter.unusedVariables false
set_option linter.unusedSimpArgs false
namespace Go.Proofs.YtoncmhfmkfeolaaGreatDoor
open Go.RowKit Go.Proofs.YtoncmhfmkfeolaaGreatDoorW.PrintWords Go.Proofs.YtoncmhfmkfeolaaGreatDoorW.PrintLast
theorem xfar16 {w : World} {g k : Nat} {b0 b1 b2 b3 b4 b5 b6 b7 b8 b9 b10 b11 b12 b13 b14 b15 : Value} (hk : k ≠ g) : ((((((((((((((((w.setCell ⟨g,0,none⟩ b0).setCell ⟨g,1,none⟩ b1).setCell ⟨g,2,none⟩ b2).setCell ⟨g,3,none⟩ b3).setCell ⟨g,4,none⟩ b4).setCell ⟨g,5,none⟩ b5).setCell ⟨g,6,none⟩ b6).setCell ⟨g,7,none⟩ b7).setCell ⟨g,8,none⟩ b8).setCell ⟨g,9,none⟩ b9).setCell ⟨g,10,none⟩ b10).setCell ⟨g,11,none⟩ b11).setCell ⟨g,12,none⟩ b12).setCell ⟨g,13,none⟩ b13).setCell ⟨g,14,none⟩ b14).setCell ⟨g,15,none⟩ b15).heap[k]? = w.heap[k]?:=by
  have h : Same w ((((((((((((((((w.setCell ⟨g,0,none⟩ b0).setCell ⟨g,1,none⟩ b1).setCell ⟨g,2,none⟩ b2).setCell ⟨g,3,none⟩ b3).setCell ⟨g,4,none⟩ b4).setCell ⟨g,5,none⟩ b5).setCell ⟨g,6,none⟩ b6).setCell ⟨g,7,none⟩ b7).setCell ⟨g,8,none⟩ b8).setCell ⟨g,9,none⟩ b9).setCell ⟨g,10,none⟩ b10).setCell ⟨g,11,none⟩ b11).setCell ⟨g,12,none⟩ b12).setCell ⟨g,13,none⟩ b13).setCell ⟨g,14,none⟩ b14).setCell ⟨g,15,none⟩ b15) k:=by (repeat (with_reducible first | exact Same.refl _ _ | refine Same.set ?_ hk))
  exact h
theorem xbelow16 {B : Nat} {a w : World} {g : Nat} {b0 b1 b2 b3 b4 b5 b6 b7 b8 b9 b10 b11 b12 b13 b14 b15 : Value} (h : Below B a w) (hg : B ≤ g) : Below B a ((((((((((((((((w.setCell ⟨g,0,none⟩ b0).setCell ⟨g,1,none⟩ b1).setCell ⟨g,2,none⟩ b2).setCell ⟨g,3,none⟩ b3).setCell ⟨g,4,none⟩ b4).setCell ⟨g,5,none⟩ b5).setCell ⟨g,6,none⟩ b6).setCell ⟨g,7,none⟩ b7).setCell ⟨g,8,none⟩ b8).setCell ⟨g,9,none⟩ b9).setCell ⟨g,10,none⟩ b10).setCell ⟨g,11,none⟩ b11).setCell ⟨g,12,none⟩ b12).setCell ⟨g,13,none⟩ b13).setCell ⟨g,14,none⟩ b14).setCell ⟨g,15,none⟩ b15):=by
  (repeat (with_reducible first | exact h | refine Below.setCell ?_ hg _))
structure ShO (w : World) (lo : Nat) (Q : Rs) (x1 : Option Addr) (x2 : Nat) (x3 : Option Addr) (x4 : Nat) (x5 : Option Addr) (x6 : Nat) (x7 : Option Addr) (x8 : Nat) : Prop where
  m : OwnB w lo (.slice x1 Q.m.length x2) Q.m
  t : OwnC w lo (.slice x3 Q.t.length x4) Q.t
  st : OwnI w lo (.slice x5 Q.st.length x6) Q.st
  cs : OwnP w lo (.slice x7 Q.cs.length x8) Q.cs
theorem ShO.below {w w' : World} {lo : Nat} {Q : Rs} {x1 x3 x5 x7 : Option Addr} {x2 x4 x6 x8 : Nat} (h : ShO w lo Q x1 x2 x3 x4 x5 x6 x7 x8) (hb : Below w.heap.size w w') : ShO w' lo Q x1 x2 x3 x4 x5 x6 x7 x8:=⟨h.m.below hb,h.t.below hb,h.st.below hb,h.cs.below hb⟩
theorem ShO.keep {w w' : World} {lo : Nat} {Q : Rs} {x1 x3 x5 x7 : Option Addr} {x2 x4 x6 x8 : Nat} (h : ShO w lo Q x1 x2 x3 x4 x5 x6 x7 x8) {g : Nat} {cs : Array Value} (hg : Blk w g cs 38) (hk : ∀ k,k ≠ g → w'.heap[k]? = w.heap[k]?) : ShO w' lo Q x1 x2 x3 x4 x5 x6 x7 x8:=by
  refine ⟨OwnB.move h.m (fun k e => ?_),OwnC.move h.t (fun k e => ?_),h.st.keep (fun k e => ?_),h.cs.keep (fun k e => ?_)⟩
  · obtain ⟨c1,h1⟩:=Kd.R_typed h.m k e
    exact hk k (blk_ne h1 hg (by decide))
  · obtain ⟨c1,h1⟩:=Kd.R_typed h.t k e
    exact hk k (blk_ne h1 hg (by decide))
  · obtain ⟨c1,h1⟩:=Kd.R_typed h.st k e
    exact hk k (blk_ne h1 hg (by decide))
  · obtain ⟨c1,h1⟩:=Kd.R_typed h.cs k e
    exact hk k (blk_ne h1 hg (by decide))
theorem exS {W : World} {c : Cpu} {k4 k5 : Nat} {A : Option Addr} {n d : Nat} {t u : TypeId} (h4 : Blk W k4 #[.int .u8 c.A,.int .u8 c.X,.int .u8 c.Y,.int .u8 c.S,.int .u16 c.PC,.bool c.F.N,.bool c.F.V,.bool c.F.D,.bool c.F.I,.bool c.F.Z,.bool c.F.C] t) (h5 : Blk W k5 #[.slice A n d] u) : W.cell? ⟨k4,0,none⟩ = some (.int .u8 c.A)∧W.cell? ⟨k4,1,none⟩ = some (.int .u8 c.X)∧W.cell? ⟨k4,2,none⟩ = some (.int .u8 c.Y)∧W.cell? ⟨k4,3,none⟩ = some (.int .u8 c.S)∧W.cell? ⟨k4,4,none⟩ = some (.int .u16 c.PC)∧W.cell? ⟨k4,5,none⟩ = some (.bool c.F.N)∧W.cell? ⟨k4,6,none⟩ = some (.bool c.F.V)∧W.cell? ⟨k4,7,none⟩ = some (.bool c.F.D)∧W.cell? ⟨k4,8,none⟩ = some (.bool c.F.I)∧W.cell? ⟨k4,9,none⟩ = some (.bool c.F.Z)∧W.cell? ⟨k4,10,none⟩ = some (.bool c.F.C)∧W.cell? ⟨k5,0,none⟩ = some (.slice A n d) :=
  ⟨h4.cell 0,h4.cell 1,h4.cell 2,h4.cell 3,h4.cell 4,h4.cell 5,h4.cell 6,h4.cell 7,h4.cell 8,h4.cell 9,h4.cell 10,h5.one⟩
set_option maxRecDepth 100000 in
set_option maxHeartbeats 2000000 in
theorem exReg11 (w0 : World) (k4 k5 : Nat) (c : Cpu) (A : Option Addr) (d : Nat) (l : List Int) (B : Option Addr) (e : Nat) (E : List Evt) (n : Int) (Q : Rs) (h4 : Blk w0 k4 #[.int .u8 c.A,.int .u8 c.X,.int .u8 c.Y,.int .u8 c.S,.int .u16 c.PC,.bool c.F.N,.bool c.F.V,.bool c.F.D,.bool c.F.I,.bool c.F.Z,.bool c.F.C] 46) (h5 : Blk w0 k5 #[.slice A l.length d] 30) (hR : Bs w0 A l) (hE : evK.C w0 B E.length E) (hl : l.length ≤ 1048576) (hel : E.length ≤ 1048576)
    (hcall : Aside0 (∀ (W : World) (A : Option Addr) (d : Nat) (B : Option Addr) (e : Nat) (_ : Bs W A l) (_ : evK.C W B E.length E) (_ : Below w0.heap.size w0 W),Calls Tryz.prog 11 #[.agg #[.int .u8 c.A,.int .u8 c.X,.int .u8 c.Y,.int .u8 c.S,.int .u16 c.PC,.bool c.F.N,.bool c.F.V,.bool c.F.D,.bool c.F.I,.bool c.F.Z,.bool c.F.C],.agg #[.slice A l.length d],.slice B E.length e,.int .i64 n] W fun e w' => RunRet Q W w' e))
    (s0 s1 s2 s5 s6 s7 s8 s9 s10 s13 s14 s15 s16 s17 s18 s19 s20 s21 s22 s23 s24 s25 s26 s27 s28 s29 s30 s31 s32 s33 s34 s35 s36 s37 s38 s39 s40 s41 s42 s43 s44 s45 s46 s47 s48 s49 s50 s51 s52 s53 s54 s55 s56 s57 s58 s59 s60 s61 s62 s63 s64 s65 s66 s67 s68 s69 s70 s71 s72 s73 s74 s75 s76 s77 s78 s79 s80 s81 s82 s83 s84 s85 s86 s87 s88 s89 s90 s91 s92 s93 s94 s95 s96 s97 s98 s99 s100 s101 s102 s103 s104 : Value) :
    Code.wp Tryz.prog ((Tryz.f4.body.bind (regOf 11)).getD .skip) (OnNormal fun a' w' => ∃ b A3 c3 B3 d3 C3 e3 D3 f3 u40 u41 u42 u43 u44 u45,(w0.heap.size ≤ b∧Blk w' b #[.int .u8 Q.c.A,.int .u8 Q.c.X,.int .u8 Q.c.Y,.int .u8 Q.c.S,.int .u16 Q.c.PC,.bool Q.c.F.N,.bool Q.c.F.V,.bool Q.c.F.D,.bool Q.c.F.I,.bool Q.c.F.Z,.bool Q.c.F.C,.slice A3 Q.m.length c3,.slice B3 Q.t.length d3,.slice C3 Q.st.length e3,.slice D3 Q.cs.length f3,.bool Q.jam] 38∧ShO w' w0.heap.size Q A3 c3 B3 d3 C3 e3 D3 f3∧Below w0.heap.size w0 w')∧a' = ⟨List.toArray (s0::s1::s2::.int .i64 n::.pointer (some ⟨k4,0,none⟩)::s5::s6::s7::s8::s9::s10::.pointer (some ⟨k5,0,none⟩)::.slice B E.length e::.pointer (some ⟨b,0,none⟩)::s14::s15::s16::s17::s18::s19::s20::s21::s22::s23::s24::s25::s26::s27::s28::s29::s30::s31::s32::s33::s34::s35::s36::s37::s38::s39::u40::u41::u42::u43::u44::u45::s46::s47::s48::s49::s50::s51::s52::s53::s54::s55::s56::s57::s58::s59::s60::s61::s62::s63::s64::s65::s66::s67::s68::s69::s70::s71::s72::s73::s74::s75::s76::s77::s78::s79::s80::s81::s82::s83::s84::s85::s86::s87::s88::s89::s90::s91::s92::s93::s94::s95::s96::s97::s98::s99::s100::s101::s102::s103::s104::[]),[]⟩) ⟨List.toArray (s0::s1::s2::.int .i64 n::.pointer (some ⟨k4,0,none⟩)::s5::s6::s7::s8::s9::s10::.pointer (some ⟨k5,0,none⟩)::.slice B E.length e::s13::s14::s15::s16::s17::s18::s19::s20::s21::s22::s23::s24::s25::s26::s27::s28::s29::s30::s31::s32::s33::s34::s35::s36::s37::s38::s39::s40::s41::s42::s43::s44::s45::s46::s47::s48::s49::s50::s51::s52::s53::s54::s55::s56::s57::s58::s59::s60::s61::s62::s63::s64::s65::s66::s67::s68::s69::s70::s71::s72::s73::s74::s75::s76::s77::s78::s79::s80::s81::s82::s83::s84::s85::s86::s87::s88::s89::s90::s91::s92::s93::s94::s95::s96::s97::s98::s99::s100::s101::s102::s103::s104::[]),[]⟩ w0:=by
  conv => arg 2;whnf
  have HB : Aside0 (Below w0.heap.size w0 w0.drew):=⟨blw⟩
  refine start_ (n:=8) (S:=fun w' => w'.cell? ⟨k4,0,none⟩ = some (.int .u8 c.A)∧w'.cell? ⟨k4,1,none⟩ = some (.int .u8 c.X)∧w'.cell? ⟨k4,2,none⟩ = some (.int .u8 c.Y)∧w'.cell? ⟨k4,3,none⟩ = some (.int .u8 c.S)∧w'.cell? ⟨k4,4,none⟩ = some (.int .u16 c.PC)∧w'.cell? ⟨k4,5,none⟩ = some (.bool c.F.N)∧w'.cell? ⟨k4,6,none⟩ = some (.bool c.F.V)∧w'.cell? ⟨k4,7,none⟩ = some (.bool c.F.D)∧w'.cell? ⟨k4,8,none⟩ = some (.bool c.F.I)∧w'.cell? ⟨k4,9,none⟩ = some (.bool c.F.Z)∧w'.cell? ⟨k4,10,none⟩ = some (.bool c.F.C)∧w'.cell? ⟨k5,0,none⟩ = some (.slice A l.length d)) (ds:=[]) #[false,false,false,false,false,false,false,false] (by kernel_rfl) rfl rfl ?_ (fun hHeld => ?_)
  · exact (exS (h4.below HB.out) (h5.below HB.out))
  generalize w0.drew = W at HB hHeld ⊢
  refine take_ (i:=0) (N:=some 40) (v:=?_) (a':=?_) #[true,false,false,false,false,false,false,false] rfl rfl (by kernel_rfl) (fun _ _ _ h => h) (Or.inl ⟨by rfl,?_⟩) hHeld ?_ ?_
  rotate_left
  · rintro w' ⟨s0',s1',s2',s3',s4',s5',s6',s7',s8',s9',s10',s11'⟩
    go_simp
    first | with_reducible rfl | rfl
  rotate_left
  · simp only [Act.put,List.setIfInBounds_toArray,List.set_cons_zero,List.set_cons_succ,i64_w,i32_w]
    rfl
  refine take_ (i:=2) (N:=some 42) (v:=?_) (a':=?_) #[true,false,true,false,false,false,false,false] rfl rfl (by kernel_rfl) (fun _ _ _ h => h) (Or.inl ⟨by rfl,?_⟩) hHeld ?_ ?_
  rotate_left
  · rintro w' ⟨s0',s1',s2',s3',s4',s5',s6',s7',s8',s9',s10',s11'⟩
    go_simp
    first | with_reducible rfl | rfl
  rotate_left
  · simp only [Act.put,List.setIfInBounds_toArray,List.set_cons_zero,List.set_cons_succ,i64_w,i32_w]
    rfl
  refine pure_ (i:=3) (N:=some 43) (v:=?_) (a':=?_) #[true,false,true,true,false,false,false,false] rfl rfl (by kernel_rfl) (fun _ _ _ h => h) (Or.inl ⟨by rfl,?_⟩) ?_ ?_
  rotate_left
  · intro w'
    go_simp
    first | with_reducible rfl | rfl
  rotate_left
  · simp only [Act.put,List.setIfInBounds_toArray,List.set_cons_zero,List.set_cons_succ,i64_w,i32_w]
    rfl
  refine pure_ (i:=4) (N:=some 44) (v:=?_) (a':=?_) #[true,false,true,true,true,false,false,false] rfl rfl (by kernel_rfl) (fun _ _ _ h => h) (Or.inl ⟨by rfl,?_⟩) ?_ ?_
  rotate_left
  · intro w'
    go_simp
    first | with_reducible rfl | rfl
  rotate_left
  · simp only [Act.put,List.setIfInBounds_toArray,List.set_cons_zero,List.set_cons_succ,i64_w,i32_w]
    rfl
  iterate 4
   (all_goals first
    | (have h0:=QC;have h1:=XO;have h2:=KO;clear h0 h1 h2;refine one_ (i:=7) (N:=none) #[true,true,true,true,true,true,true,true] rfl rfl (by kernel_rfl) (by decide) (fun K hK => ?_))
    | (have h0:=QC;have h1:=KO;clear h0 h1;refine one_ (i:=5) (N:=some 45) #[true,true,true,true,true,true,true,false] rfl rfl (by kernel_rfl) (by decide) (fun K hK => ?_))
    | (have h0:=QC;have h1:=XO;clear h0 h1;refine one_ (i:=6) (N:=some 13) #[true,true,true,true,true,true,true,false] rfl rfl (by kernel_rfl) (by decide) (fun K hK => ?_))
    | (have h0:=KO;clear h0;refine one_ (i:=1) (N:=some 41) #[true,true,true,true,true,false,true,false] rfl rfl (by kernel_rfl) (by decide) (fun K hK => ?_))
    | (have h0:=QC;clear h0;refine two_ (i:=5) (j:=6) (Ni:=some 45) (Nj:=some 13) #[true,true,true,true,true,true,false,false] #[true,true,true,true,true,false,true,false] rfl rfl rfl rfl (by kernel_rfl) (by decide) (by decide) (fun K hK => ?_) (fun K hK => ?_))
    | (refine two_ (i:=1) (j:=6) (Ni:=some 41) (Nj:=some 13) #[true,true,true,true,true,false,false,false] #[true,false,true,true,true,false,true,false] rfl rfl rfl rfl (by kernel_rfl) (by decide) (by decide) (fun K hK => ?_) (fun K hK => ?_))
    all_goals first
    | (refine goes_ Tryz.func19 (by kernel_rfl) rfl #[.agg #[.int .u8 c.A,.int .u8 c.X,.int .u8 c.Y,.int .u8 c.S,.int .u16 c.PC,.bool c.F.N,.bool c.F.V,.bool c.F.D,.bool c.F.I,.bool c.F.Z,.bool c.F.C]] (by rfl) rfl rfl (by simp only [List.map_toArray,List.map_cons,List.map_nil];rfl) ?_;refine Calls.mono (laws_toCpu c W) ?_;rintro _ W ⟨rfl,hb⟩;refine ⟨_,rfl,?_⟩;(try replace RB:=Aside0.mk (RB.out.below hb));(try replace EB:=Aside0.mk (Kd.C_below EB.out hb));(try replace XO:=Aside0.mk (XO.out.below hb));(try replace KO:=Aside0.mk (KO.out.below hb));have QC:=Aside0.mk hb;replace HB:=Aside0.mk (below_step HB.out hb);clear hb hHeld;refine hK.out _ _ (exS (h4.below HB.out) (h5.below HB.out)) (fun hHeld => ?_);clear hK K;refine norm_ (a':=?_) ?_ ?_;rotate_left;(show Act.put _ (some 41) _ = _;simp only [Act.put,List.setIfInBounds_toArray,List.set_cons_zero,List.set_cons_succ,i64_w,i32_w];rfl))
    | (refine goes_ Tryz.func11 (by kernel_rfl) rfl #[.agg #[.int .u8 c.A,.int .u8 c.X,.int .u8 c.Y,.int .u8 c.S,.int .u16 c.PC,.bool c.F.N,.bool c.F.V,.bool c.F.D,.bool c.F.I,.bool c.F.Z,.bool c.F.C],.agg #[.slice A l.length d],.slice B E.length e,.int .i64 n] (by rfl) rfl rfl (by simp only [List.map_toArray,List.map_cons,List.map_nil];rfl) ?_;refine Calls.mono (hcall.out W A d B e (hR.below HB.out) (Kd.C_below hE HB.out) HB.out) ?_;rintro _ W ⟨A3,c3,B3,d3,C3,e3,D3,f3,rfl,hm,ht,hs,hp,hb⟩;refine ⟨_,rfl,?_⟩;(try replace RB:=Aside0.mk (RB.out.below hb));(try replace EB:=Aside0.mk (Kd.C_below EB.out hb));(try replace XO:=Aside0.mk (XO.out.below hb));(try replace KO:=Aside0.mk (KO.out.below hb));have XO : Aside0 (ShO _ w0.heap.size Q A3 c3 B3 d3 C3 e3 D3 f3):=⟨⟨OwnB.lower hm HB.out.size,OwnC.lower ht HB.out.size,OwnI.lower hs HB.out.size,OwnP.lower hp HB.out.size⟩⟩;replace HB:=Aside0.mk (below_step HB.out hb);clear hm ht hs hp hb hHeld;refine hK.out _ _ (exS (h4.below HB.out) (h5.below HB.out)) (fun hHeld => ?_);clear hK K;refine norm_ (a':=?_) ?_ ?_;rotate_left;(show Act.put _ (some 45) _ = _;simp only [Act.put,List.setIfInBounds_toArray,List.set_cons_zero,List.set_cons_succ,i64_w,i32_w];rfl))
    | (have ol:=KO.out.lt;have of:=KO.out.free;obtain ⟨z0,z1,z2,z3,z4,z5,z6,z7,z8,z9,z10,z11,z12,z13,z14,z15⟩:=cells16 KO.out;refine skip_ (w1:=?_) (by rfl) rfl ?_ ?_;rotate_left;(go_simp;rfl);replace XO : Aside0 (ShO ((((((((((((((((W.setCell ⟨b,0,none⟩ (.int .u8 Q.c.A)).setCell ⟨b,1,none⟩ (.int .u8 Q.c.X)).setCell ⟨b,2,none⟩ (.int .u8 Q.c.Y)).setCell ⟨b,3,none⟩ (.int .u8 Q.c.S)).setCell ⟨b,4,none⟩ (.int .u16 Q.c.PC)).setCell ⟨b,5,none⟩ (.bool Q.c.F.N)).setCell ⟨b,6,none⟩ (.bool Q.c.F.V)).setCell ⟨b,7,none⟩ (.bool Q.c.F.D)).setCell ⟨b,8,none⟩ (.bool Q.c.F.I)).setCell ⟨b,9,none⟩ (.bool Q.c.F.Z)).setCell ⟨b,10,none⟩ (.bool Q.c.F.C)).setCell ⟨b,11,none⟩ (.slice A3 Q.m.length c3)).setCell ⟨b,12,none⟩ (.slice B3 Q.t.length d3)).setCell ⟨b,13,none⟩ (.slice C3 Q.st.length e3)).setCell ⟨b,14,none⟩ (.slice D3 Q.cs.length f3)).setCell ⟨b,15,none⟩ (.bool Q.jam)) w0.heap.size Q A3 c3 B3 d3 C3 e3 D3 f3):=⟨XO.out.keep KO.out (fun k hk => xfar16 hk)⟩;replace HB : Aside0 (Below w0.heap.size w0 ((((((((((((((((W.setCell ⟨b,0,none⟩ (.int .u8 Q.c.A)).setCell ⟨b,1,none⟩ (.int .u8 Q.c.X)).setCell ⟨b,2,none⟩ (.int .u8 Q.c.Y)).setCell ⟨b,3,none⟩ (.int .u8 Q.c.S)).setCell ⟨b,4,none⟩ (.int .u16 Q.c.PC)).setCell ⟨b,5,none⟩ (.bool Q.c.F.N)).setCell ⟨b,6,none⟩ (.bool Q.c.F.V)).setCell ⟨b,7,none⟩ (.bool Q.c.F.D)).setCell ⟨b,8,none⟩ (.bool Q.c.F.I)).setCell ⟨b,9,none⟩ (.bool Q.c.F.Z)).setCell ⟨b,10,none⟩ (.bool Q.c.F.C)).setCell ⟨b,11,none⟩ (.slice A3 Q.m.length c3)).setCell ⟨b,12,none⟩ (.slice B3 Q.t.length d3)).setCell ⟨b,13,none⟩ (.slice C3 Q.st.length e3)).setCell ⟨b,14,none⟩ (.slice D3 Q.cs.length f3)).setCell ⟨b,15,none⟩ (.bool Q.jam))):=⟨xbelow16 HB.out hob⟩;have DONE : Aside0 (Blk ((((((((((((((((W.setCell ⟨b,0,none⟩ (.int .u8 Q.c.A)).setCell ⟨b,1,none⟩ (.int .u8 Q.c.X)).setCell ⟨b,2,none⟩ (.int .u8 Q.c.Y)).setCell ⟨b,3,none⟩ (.int .u8 Q.c.S)).setCell ⟨b,4,none⟩ (.int .u16 Q.c.PC)).setCell ⟨b,5,none⟩ (.bool Q.c.F.N)).setCell ⟨b,6,none⟩ (.bool Q.c.F.V)).setCell ⟨b,7,none⟩ (.bool Q.c.F.D)).setCell ⟨b,8,none⟩ (.bool Q.c.F.I)).setCell ⟨b,9,none⟩ (.bool Q.c.F.Z)).setCell ⟨b,10,none⟩ (.bool Q.c.F.C)).setCell ⟨b,11,none⟩ (.slice A3 Q.m.length c3)).setCell ⟨b,12,none⟩ (.slice B3 Q.t.length d3)).setCell ⟨b,13,none⟩ (.slice C3 Q.st.length e3)).setCell ⟨b,14,none⟩ (.slice D3 Q.cs.length f3)).setCell ⟨b,15,none⟩ (.bool Q.jam)) b #[.int .u8 Q.c.A,.int .u8 Q.c.X,.int .u8 Q.c.Y,.int .u8 Q.c.S,.int .u16 Q.c.PC,.bool Q.c.F.N,.bool Q.c.F.V,.bool Q.c.F.D,.bool Q.c.F.I,.bool Q.c.F.Z,.bool Q.c.F.C,.slice A3 Q.m.length c3,.slice B3 Q.t.length d3,.slice C3 Q.st.length e3,.slice D3 Q.cs.length f3,.bool Q.jam] 38):=⟨set16 KO.out⟩;replace KO:=DONE;clear ol of hHeld z0 z1 z2 z3 z4 z5 z6 z7 z8 z9 z10 z11 z12 z13 z14 z15;generalize ((((((((((((((((W.setCell ⟨b,0,none⟩ (.int .u8 Q.c.A)).setCell ⟨b,1,none⟩ (.int .u8 Q.c.X)).setCell ⟨b,2,none⟩ (.int .u8 Q.c.Y)).setCell ⟨b,3,none⟩ (.int .u8 Q.c.S)).setCell ⟨b,4,none⟩ (.int .u16 Q.c.PC)).setCell ⟨b,5,none⟩ (.bool Q.c.F.N)).setCell ⟨b,6,none⟩ (.bool Q.c.F.V)).setCell ⟨b,7,none⟩ (.bool Q.c.F.D)).setCell ⟨b,8,none⟩ (.bool Q.c.F.I)).setCell ⟨b,9,none⟩ (.bool Q.c.F.Z)).setCell ⟨b,10,none⟩ (.bool Q.c.F.C)).setCell ⟨b,11,none⟩ (.slice A3 Q.m.length c3)).setCell ⟨b,12,none⟩ (.slice B3 Q.t.length d3)).setCell ⟨b,13,none⟩ (.slice C3 Q.st.length e3)).setCell ⟨b,14,none⟩ (.slice D3 Q.cs.length f3)).setCell ⟨b,15,none⟩ (.bool Q.jam)) = W at *;refine hK.out _ _ (exS (h4.below HB.out) (h5.below HB.out)) (fun hHeld => ?_);clear hK K)
    | (refine value_ (w1:=?_) (v:=?_) (by rfl) rfl ?_ ?_;rotate_left 2;(go_simp;constructor <;> rfl);have hb : Below W.heap.size W (W.alloc (.cells #[.int .u8 0,.int .u8 0,.int .u8 0,.int .u8 0,.int .u16 0,.bool false,.bool false,.bool false,.bool false,.bool false,.bool false,.slice none 0 0,.slice none 0 0,.slice none 0 0,.slice none 0 0,.bool false] 38)):=blw;(try replace RB:=Aside0.mk (RB.out.below hb));(try replace EB:=Aside0.mk (Kd.C_below EB.out hb));(try replace XO:=Aside0.mk (XO.out.below hb));(try replace KO:=Aside0.mk (KO.out.below hb));obtain ⟨b,hbo⟩ : ∃ x,W.heap.size = x:=⟨_,rfl⟩;have hob : w0.heap.size ≤ W.heap.size:=HB.out.size;have KO : Aside0 (Blk (W.alloc (.cells #[.int .u8 0,.int .u8 0,.int .u8 0,.int .u8 0,.int .u16 0,.bool false,.bool false,.bool false,.bool false,.bool false,.bool false,.slice none 0 0,.slice none 0 0,.slice none 0 0,.slice none 0 0,.bool false] 38)) W.heap.size #[.int .u8 0,.int .u8 0,.int .u8 0,.int .u8 0,.int .u16 0,.bool false,.bool false,.bool false,.bool false,.bool false,.bool false,.slice none 0 0,.slice none 0 0,.slice none 0 0,.slice none 0 0,.bool false] 38):=⟨Blk.at rfl⟩;rw [hbo] at KO hob ⊢;replace HB:=Aside0.mk (HB.out.trans (hb.mono HB.out.size));clear hb hbo hHeld;generalize W.alloc (.cells #[.int .u8 0,.int .u8 0,.int .u8 0,.int .u8 0,.int .u16 0,.bool false,.bool false,.bool false,.bool false,.bool false,.bool false,.slice none 0 0,.slice none 0 0,.slice none 0 0,.slice none 0 0,.bool false] 38) = W at *;refine hK.out _ _ (exS (h4.below HB.out) (h5.below HB.out)) (fun hHeld => ?_);clear hK K;refine norm_ (a':=?_) ?_ ?_;rotate_left;(show Act.put _ (some 13) _ = _;simp only [Act.put,List.setIfInBounds_toArray,List.set_cons_zero,List.set_cons_succ,i64_w,i32_w];rfl)))
  all_goals
    refine done_ (by kernel_rfl) ?_
    exact ⟨b,A3,c3,B3,d3,C3,e3,D3,f3,_,_,_,_,_,_,⟨hob,KO.out,XO.out,HB.out⟩,rfl⟩
set_option maxRecDepth 100000 in
set_option maxHeartbeats 1000000 in
theorem exReg14 (w0 : World) (k5 k11 : Nat) (A A1 : Option Addr) (d c1 : Nat) (l : List Int) (h11 : w0.cell? ⟨k11,0,none⟩ = some (.slice A1 l.length c1)) (h5 : w0.cell? ⟨k5,0,none⟩ = some (.slice A l.length d)) (hX : Bs w0 A1 l) (hR : Bs w0 A l) (hl : l.length ≤ 1048576)
    (s0 s1 s2 s3 s4 s6 s7 s8 s9 s10 s12 s13 s14 s15 s16 s17 s18 s19 s20 s21 s22 s23 s24 s25 s26 s27 s28 s29 s30 s31 s32 s33 s34 s35 s36 s37 s38 s39 s40 s41 s42 s43 s44 s45 s46 s47 s48 s49 s50 s51 s52 s53 s54 s55 s56 s57 s58 s59 s60 s61 s62 s63 s64 s65 s66 s67 s68 s69 s70 s71 s72 s73 s74 s75 s76 s77 s78 s79 s80 s81 s82 s83 s84 s85 s86 s87 s88 s89 s90 s91 s92 s93 s94 s95 s96 s97 s98 s99 s100 s101 s102 s103 s104 : Value) :
    Code.wp Tryz.prog ((Tryz.f4.body.bind (regOf 14)).getD .skip) (OnNormal fun a' w' => Below w0.heap.size w0 w'∧∃ u50 u51 u52 u53,a' = ⟨List.toArray (s0::s1::s2::s3::s4::.pointer (some ⟨k5,0,none⟩)::s6::s7::s8::s9::s10::.pointer (some ⟨k11,0,none⟩)::s12::s13::s14::s15::s16::s17::s18::s19::s20::s21::s22::s23::s24::s25::s26::s27::s28::s29::s30::s31::s32::s33::s34::s35::s36::s37::s38::s39::s40::s41::s42::s43::s44::s45::s46::s47::s48::s49::u50::u51::u52::u53::.bool false::s55::s56::s57::s58::s59::s60::s61::s62::s63::s64::s65::s66::s67::s68::s69::s70::s71::s72::s73::s74::s75::s76::s77::s78::s79::s80::s81::s82::s83::s84::s85::s86::s87::s88::s89::s90::s91::s92::s93::s94::s95::s96::s97::s98::s99::s100::s101::s102::s103::s104::[]),[]⟩) ⟨List.toArray (s0::s1::s2::s3::s4::.pointer (some ⟨k5,0,none⟩)::s6::s7::s8::s9::s10::.pointer (some ⟨k11,0,none⟩)::s12::s13::s14::s15::s16::s17::s18::s19::s20::s21::s22::s23::s24::s25::s26::s27::s28::s29::s30::s31::s32::s33::s34::s35::s36::s37::s38::s39::s40::s41::s42::s43::s44::s45::s46::s47::s48::s49::s50::s51::s52::s53::s54::s55::s56::s57::s58::s59::s60::s61::s62::s63::s64::s65::s66::s67::s68::s69::s70::s71::s72::s73::s74::s75::s76::s77::s78::s79::s80::s81::s82::s83::s84::s85::s86::s87::s88::s89::s90::s91::s92::s93::s94::s95::s96::s97::s98::s99::s100::s101::s102::s103::s104::[]),[]⟩ w0:=by
  conv => arg 2;whnf
  have HB : Aside0 (Below w0.heap.size w0 w0.drew):=⟨blw⟩
  refine start_ (n:=5) (S:=fun w' => w'.cell? ⟨k11,0,none⟩ = some (.slice A1 l.length c1)∧w'.cell? ⟨k5,0,none⟩ = some (.slice A l.length d)) (ds:=[]) #[false,false,false,false,false] (by kernel_rfl) rfl rfl ?_ (fun hHeld => ?_)
  · exact ⟨cell_keep HB.out h11,cell_keep HB.out h5⟩
  generalize w0.drew = W at HB hHeld ⊢
  refine take_ (i:=0) (N:=some 50) (v:=?_) (a':=?_) #[true,false,false,false,false] rfl rfl (by kernel_rfl) (fun _ _ _ h => h) (Or.inl ⟨by rfl,?_⟩) hHeld ?_ ?_
  rotate_left
  · rintro w' ⟨s0',s1'⟩
    go_simp
    first | with_reducible rfl | rfl
  rotate_left
  · simp only [Act.put,List.setIfInBounds_toArray,List.set_cons_zero,List.set_cons_succ,i64_w,i32_w]
    rfl
  refine take_ (i:=1) (N:=some 51) (v:=?_) (a':=?_) #[true,true,false,false,false] rfl rfl (by kernel_rfl) (fun _ _ _ h => h) (Or.inl ⟨by rfl,?_⟩) hHeld ?_ ?_
  rotate_left
  · rintro w' ⟨s0',s1'⟩
    go_simp
    first | with_reducible rfl | rfl
  rotate_left
  · simp only [Act.put,List.setIfInBounds_toArray,List.set_cons_zero,List.set_cons_succ,i64_w,i32_w]
    rfl
  refine one_ (i:=2) (N:=some 52) #[true,true,true,false,false] rfl rfl (by kernel_rfl) (by decide) (fun K hK => ?_)
  refine goes_ Tryz.func20 (by kernel_rfl) rfl #[.agg #[.slice A l.length d]] (by rfl) rfl rfl (by simp only [List.map_toArray,List.map_cons,List.map_nil];rfl) ?_
  refine Calls.mono (laws_toRam A d l W (hR.below HB.out) hl) ?_
  rintro _ w1 ⟨A2,c2,rfl,ho,hb⟩
  refine ⟨_,rfl,?_⟩
  have RB:=Aside0.mk (ho.bs hR.b)
  replace HB:=Aside0.mk (below_step HB.out hb)
  clear ho hb hHeld
  refine hK.out _ _ ⟨cell_keep HB.out h11,cell_keep HB.out h5⟩ (fun hHeld => ?_)
  clear hK K
  refine norm_ (a':=?_) ?_ ?_
  rotate_left
  · show Act.put _ (some 52) _ = _
    simp only [Act.put,List.setIfInBounds_toArray,List.set_cons_zero,List.set_cons_succ,i64_w,i32_w]
    rfl
  refine one_ (i:=3) (N:=some 53) #[true,true,true,true,false] rfl rfl (by kernel_rfl) (by decide) (fun K hK => ?_)
  refine goes_ Tryz.func23 (by kernel_rfl) rfl #[.agg #[.slice A1 l.length c1],.agg #[.slice A2 l.length c2]] (by rfl) rfl rfl (by simp only [List.map_toArray,List.map_cons,List.map_nil];rfl) ?_
  refine Calls.mono (laws_eqRam A1 A2 c1 c2 l w1 (hX.below HB.out) RB.out hl) ?_
  rintro _ w2 ⟨rfl,hb⟩
  refine ⟨_,rfl,?_⟩
  replace HB:=Aside0.mk (below_step HB.out hb)
  clear hb hHeld
  refine hK.out _ _ ⟨cell_keep HB.out h11,cell_keep HB.out h5⟩ (fun hHeld => ?_)
  clear hK K
  refine norm_ (a':=?_) ?_ ?_
  rotate_left
  · show Act.put _ (some 53) _ = _
    simp only [Act.put,List.setIfInBounds_toArray,List.set_cons_zero,List.set_cons_succ,i64_w,i32_w]
    rfl
  refine pure_ (i:=4) (N:=some 54) (v:=?_) (a':=?_) #[true,true,true,true,true] rfl rfl (by kernel_rfl) (fun _ _ _ h => h) (Or.inl ⟨by rfl,?_⟩) ?_ ?_
  rotate_left
  · intro w'
    go_simp
    first | with_reducible rfl | rfl
  rotate_left
  · simp only [Act.put,List.setIfInBounds_toArray,List.set_cons_zero,List.set_cons_succ,i64_w,i32_w]
    rfl
  refine done_ (by kernel_rfl) ?_
  exact ⟨HB.out,_,_,_,_,rfl⟩
end Go.Proofs.YtoncmhfmkfeolaaGreatDoor
