/- laws.FnSteady's region 5: the reference's run is the same. -/
import Derived.Test.YtoncmhfmkfeolaaGreatDoorGW
set_option maxRecDepth 100000
set_option maxHeartbeats 8000000
set_option linter.unusedVariables false
set_option linter.unusedSimpArgs false
namespace Go.Proofs.YtoncmhfmkfeolaaGreatDoor
open Go.RowKit Go.Proofs.YtoncmhfmkfeolaaGreatDoorW.PrintWords Go.Proofs.YtoncmhfmkfeolaaGreatDoorW.PrintLast
theorem fnSteadyReg5 (w0:World) (k7 ka kr:Nat) (x:Cpu) (A1:Option Addr) (c1:Nat) (L:List Int) (Q:Rs) (A3 B3 C3 D3:Option Addr) (c3 d3 f3 g3:Nat) (vE:Value) (n:Int) (h7:Blk w0 k7 #[.int .u8 Q.c.A,.int .u8 Q.c.X,.int .u8 Q.c.Y,.int .u8 Q.c.S,.int .u16 Q.c.PC,.bool Q.c.F.N,.bool Q.c.F.V,.bool Q.c.F.D,.bool Q.c.F.I,.bool Q.c.F.Z,.bool Q.c.F.C,.slice A3 Q.m.length c3,.slice B3 Q.t.length d3,.slice C3 Q.st.length f3,.slice D3 Q.cs.length g3,.bool Q.jam] 38) (KA:Blk w0 ka #[.int .u8 x.A,.int .u8 x.X,.int .u8 x.Y,.int .u8 x.S,.int .u16 x.PC,.bool x.F.N,.bool x.F.V,.bool x.F.D,.bool x.F.I,.bool x.F.Z,.bool x.F.C] 28) (KB:Blk w0 kr #[.slice A1 L.length c1] 30)
  (hcall:Aside0 (∀ W:World,Below w0.heap.size w0 W→Calls Tryz.prog 12 #[.agg #[.int .u8 x.A,.int .u8 x.X,.int .u8 x.Y,.int .u8 x.S,.int .u16 x.PC,.bool x.F.N,.bool x.F.V,.bool x.F.D,.bool x.F.I,.bool x.F.Z,.bool x.F.C],.agg #[.slice A1 L.length c1],vE,.int .i64 n] W fun e w'=>RunRet Q W w' e)) (ht:Q.t.length≤960) (hs:Q.st.length≤120) (hc:Q.cs.length≤120)
  (s0 s1 s2 s8 s9 s10 s11 s12 s13 s14 s15 s16 s17 s18 s19 s20 s21 s22 s23 s24 s25 s26 s27 s28 s29 s30 s31 s32 s33 s34 s35 s36 s37 s38 s39 s40 s41 s42 s43 s44 s45 s46 s47 s48 s49 s50 s51 s52 s53 s54 s55 s56 s57 s58 s59 s60 s61 s62 s63 s64 s65 s66 s67 s68 s69 s70 s71 s72 s73 s74 s75 s76 s77 s78 s79 s80 s81 s82 s83 s84 s85 s86 s87 s88 s89 s90 s91 s92 s93 s94 s95 s96 s97 s98 s99 s100 s101 s102 s103 s104 s105 s106 s107 s108 s109 s110 s111 s112 s113 s114 s115 s116 s117 s118 s119 s120 s121 s122 s123 s124 s125 s126 s127 s128:Value) :
  Code.wp Tryz.prog ((Tryz.f7.body.bind (regOf 5)).getD .skip) (OnNormal fun a' w'=>Below w0.heap.size w0 w'∧∃ u27 u28 u29 u30 u31 u32 u33,a'=⟨List.toArray (s0::s1::s2::.pointer (some ⟨ka,0,none⟩)::.pointer (some ⟨kr,0,none⟩)::vE::.int .i64 n::.pointer (some ⟨k7,0,none⟩)::s8::s9::s10::s11::s12::s13::s14::s15::s16::s17::s18::s19::s20::s21::s22::s23::s24::s25::s26::u27::u28::u29::u30::u31::u32::u33::.bool false::s35::s36::s37::s38::s39::s40::s41::s42::s43::s44::s45::s46::s47::s48::s49::s50::s51::s52::s53::s54::s55::s56::s57::s58::s59::s60::s61::s62::s63::s64::s65::s66::s67::s68::s69::s70::s71::s72::s73::s74::s75::s76::s77::s78::s79::s80::s81::s82::s83::s84::s85::s86::s87::s88::s89::s90::s91::s92::s93::s94::s95::s96::s97::s98::s99::s100::s101::s102::s103::s104::s105::s106::s107::s108::s109::s110::s111::s112::s113::s114::s115::s116::s117::s118::s119::s120::s121::s122::s123::s124::s125::s126::s127::s128::[]),[]⟩) ⟨List.toArray (s0::s1::s2::.pointer (some ⟨ka,0,none⟩)::.pointer (some ⟨kr,0,none⟩)::vE::.int .i64 n::.pointer (some ⟨k7,0,none⟩)::s8::s9::s10::s11::s12::s13::s14::s15::s16::s17::s18::s19::s20::s21::s22::s23::s24::s25::s26::s27::s28::s29::s30::s31::s32::s33::s34::s35::s36::s37::s38::s39::s40::s41::s42::s43::s44::s45::s46::s47::s48::s49::s50::s51::s52::s53::s54::s55::s56::s57::s58::s59::s60::s61::s62::s63::s64::s65::s66::s67::s68::s69::s70::s71::s72::s73::s74::s75::s76::s77::s78::s79::s80::s81::s82::s83::s84::s85::s86::s87::s88::s89::s90::s91::s92::s93::s94::s95::s96::s97::s98::s99::s100::s101::s102::s103::s104::s105::s106::s107::s108::s109::s110::s111::s112::s113::s114::s115::s116::s117::s118::s119::s120::s121::s122::s123::s124::s125::s126::s127::s128::[]),[]⟩ w0:=by
 conv=>arg 2;whnf
 have HB:Aside0 (Below w0.heap.size w0 w0.drew):=⟨blw⟩
 refine start_ (n:=8) (S:=fun w'=>w'.cell? ⟨k7,0,none⟩=some (.int .u8 Q.c.A)∧w'.cell? ⟨k7,1,none⟩=some (.int .u8 Q.c.X)∧w'.cell? ⟨k7,2,none⟩=some (.int .u8 Q.c.Y)∧w'.cell? ⟨k7,3,none⟩=some (.int .u8 Q.c.S)∧w'.cell? ⟨k7,4,none⟩=some (.int .u16 Q.c.PC)∧w'.cell? ⟨k7,5,none⟩=some (.bool Q.c.F.N)∧w'.cell? ⟨k7,6,none⟩=some (.bool Q.c.F.V)∧w'.cell? ⟨k7,7,none⟩=some (.bool Q.c.F.D)∧w'.cell? ⟨k7,8,none⟩=some (.bool Q.c.F.I)∧w'.cell? ⟨k7,9,none⟩=some (.bool Q.c.F.Z)∧w'.cell? ⟨k7,10,none⟩=some (.bool Q.c.F.C)∧w'.cell? ⟨k7,11,none⟩=some (.slice A3 Q.m.length c3)∧w'.cell? ⟨k7,12,none⟩=some (.slice B3 Q.t.length d3)∧w'.cell? ⟨k7,13,none⟩=some (.slice C3 Q.st.length f3)∧w'.cell? ⟨k7,14,none⟩=some (.slice D3 Q.cs.length g3)∧w'.cell? ⟨k7,15,none⟩=some (.bool Q.jam)∧w'.cell? ⟨ka,0,none⟩=some (.int .u8 x.A)∧w'.cell? ⟨ka,1,none⟩=some (.int .u8 x.X)∧w'.cell? ⟨ka,2,none⟩=some (.int .u8 x.Y)∧w'.cell? ⟨ka,3,none⟩=some (.int .u8 x.S)∧w'.cell? ⟨ka,4,none⟩=some (.int .u16 x.PC)∧w'.cell? ⟨ka,5,none⟩=some (.bool x.F.N)∧w'.cell? ⟨ka,6,none⟩=some (.bool x.F.V)∧w'.cell? ⟨ka,7,none⟩=some (.bool x.F.D)∧w'.cell? ⟨ka,8,none⟩=some (.bool x.F.I)∧w'.cell? ⟨ka,9,none⟩=some (.bool x.F.Z)∧w'.cell? ⟨ka,10,none⟩=some (.bool x.F.C)∧w'.cell? ⟨kr,0,none⟩=some (.slice A1 L.length c1)) (ds:=[]) #[false,false,false,false,false,false,false,false] (by kernel_rfl) rfl rfl ?_ (fun hHeld=>?_)
 ·exact pldS (h7.below HB.out) (KA.below HB.out) (KB.below HB.out)
 generalize w0.drew=W at HB hHeld ⊢
 refine take_ (i:=0) (N:=some 27) (v:=?_) (a':=?_) #[true,false,false,false,false,false,false,false] rfl rfl (by kernel_rfl) (fun _ _ _ h=>h) (Or.inl ⟨by rfl,?_⟩) hHeld ?_ ?_
 rotate_left
 ·rintro w' ⟨s0',s1',s2',s3',s4',s5',s6',s7',s8',s9',s10',s11',s12',s13',s14',s15',s16',s17',s18',s19',s20',s21',s22',s23',s24',s25',s26',s27'⟩
  go_simp
  first|with_reducible rfl|rfl
 rotate_left
 ·simp only[Act.put,List.setIfInBounds_toArray,List.set_cons_zero,List.set_cons_succ,i64_w,i32_w]
  rfl
 refine take_ (i:=1) (N:=some 28) (v:=?_) (a':=?_) #[true,true,false,false,false,false,false,false] rfl rfl (by kernel_rfl) (fun _ _ _ h=>h) (Or.inl ⟨by rfl,?_⟩) hHeld ?_ ?_
 rotate_left
 ·rintro w' ⟨s0',s1',s2',s3',s4',s5',s6',s7',s8',s9',s10',s11',s12',s13',s14',s15',s16',s17',s18',s19',s20',s21',s22',s23',s24',s25',s26',s27'⟩
  go_simp
  first|with_reducible rfl|rfl
 rotate_left
 ·simp only[Act.put,List.setIfInBounds_toArray,List.set_cons_zero,List.set_cons_succ,i64_w,i32_w]
  rfl
 refine take_ (i:=2) (N:=some 29) (v:=?_) (a':=?_) #[true,true,true,false,false,false,false,false] rfl rfl (by kernel_rfl) (fun _ _ _ h=>h) (Or.inl ⟨by rfl,?_⟩) hHeld ?_ ?_
 rotate_left
 ·rintro w' ⟨s0',s1',s2',s3',s4',s5',s6',s7',s8',s9',s10',s11',s12',s13',s14',s15',s16',s17',s18',s19',s20',s21',s22',s23',s24',s25',s26',s27'⟩
  go_simp
  first|with_reducible rfl|rfl
 rotate_left
 ·simp only[Act.put,List.setIfInBounds_toArray,List.set_cons_zero,List.set_cons_succ,i64_w,i32_w]
  rfl
 refine pure_ (i:=3) (N:=some 30) (v:=?_) (a':=?_) #[true,true,true,true,false,false,false,false] rfl rfl (by kernel_rfl) (fun _ _ _ h=>h) (Or.inl ⟨by rfl,?_⟩) ?_ ?_
 rotate_left
 ·intro w'
  go_simp
  first|with_reducible rfl|rfl
 rotate_left
 ·simp only[Act.put,List.setIfInBounds_toArray,List.set_cons_zero,List.set_cons_succ,i64_w,i32_w]
  rfl
 refine pure_ (i:=4) (N:=some 31) (v:=?_) (a':=?_) #[true,true,true,true,true,false,false,false] rfl rfl (by kernel_rfl) (fun _ _ _ h=>h) (Or.inl ⟨by rfl,?_⟩) ?_ ?_
 rotate_left
 ·intro w'
  go_simp
  first|with_reducible rfl|rfl
 rotate_left
 ·simp only[Act.put,List.setIfInBounds_toArray,List.set_cons_zero,List.set_cons_succ,i64_w,i32_w]
  rfl
 refine one_ (i:=5) (N:=some 32) #[true,true,true,true,true,true,false,false] rfl rfl (by kernel_rfl) (by decide) (fun K hK=>?_)
 refine goes_ Tryz.func12 (by kernel_rfl) rfl #[.agg #[.int .u8 x.A,.int .u8 x.X,.int .u8 x.Y,.int .u8 x.S,.int .u16 x.PC,.bool x.F.N,.bool x.F.V,.bool x.F.D,.bool x.F.I,.bool x.F.Z,.bool x.F.C],.agg #[.slice A1 L.length c1],vE,.int .i64 n] (by rfl) rfl rfl (by simp only[List.map_toArray,List.map_cons,List.map_nil];rfl) ?_
 refine Calls.mono (hcall.out W HB.out) ?_
 rintro _ w8 ⟨A5,c5,B5,d5,C5,e5,D5,f5,rfl,_,_,_,_,hb⟩
 refine ⟨_,rfl,?_⟩
 replace HB:=Aside0.mk (below_step HB.out hb)
 clear hb hHeld
 refine hK.out _ _ (pldS (h7.below HB.out) (KA.below HB.out) (KB.below HB.out)) (fun hHeld=>?_)
 clear hK K
 refine norm_ (a':=?_) ?_ ?_
 rotate_left
 ·show Act.put _ (some 32) _=_
  simp only[Act.put,List.setIfInBounds_toArray,List.set_cons_zero,List.set_cons_succ,i64_w,i32_w]
  rfl
 refine one_ (i:=6) (N:=some 33) #[true,true,true,true,true,true,true,false] rfl rfl (by kernel_rfl) (by decide) (fun K hK=>?_)
 refine goes_ Tryz.func29 (by kernel_rfl) rfl #[.agg #[.int .u8 Q.c.A,.int .u8 Q.c.X,.int .u8 Q.c.Y,.int .u8 Q.c.S,.int .u16 Q.c.PC,.bool Q.c.F.N,.bool Q.c.F.V,.bool Q.c.F.D,.bool Q.c.F.I,.bool Q.c.F.Z,.bool Q.c.F.C,.slice A3 Q.m.length c3,.slice B3 Q.t.length d3,.slice C3 Q.st.length f3,.slice D3 Q.cs.length g3,.bool Q.jam],.agg #[.int .u8 Q.c.A,.int .u8 Q.c.X,.int .u8 Q.c.Y,.int .u8 Q.c.S,.int .u16 Q.c.PC,.bool Q.c.F.N,.bool Q.c.F.V,.bool Q.c.F.D,.bool Q.c.F.I,.bool Q.c.F.Z,.bool Q.c.F.C,.slice A5 Q.m.length c5,.slice B5 Q.t.length d5,.slice C5 Q.st.length e5,.slice D5 Q.cs.length f5,.bool Q.jam]] (by rfl) rfl rfl (by simp only[List.map_toArray,List.map_cons,List.map_nil];rfl) ?_
 refine Calls.mono (laws_played Q A3 B3 C3 D3 A5 B5 C5 D5 c3 d3 f3 g3 c5 d5 e5 f5 w8 (by omega) (by omega) (by omega)) ?_
 rintro _ w9 ⟨rfl,hb⟩
 refine ⟨_,rfl,?_⟩
 replace HB:=Aside0.mk (below_step HB.out hb)
 clear hb hHeld
 refine hK.out _ _ (pldS (h7.below HB.out) (KA.below HB.out) (KB.below HB.out)) (fun hHeld=>?_)
 clear hK K
 refine norm_ (a':=?_) ?_ ?_
 rotate_left
 ·show Act.put _ (some 33) _=_
  simp only[Act.put,List.setIfInBounds_toArray,List.set_cons_zero,List.set_cons_succ,i64_w,i32_w]
  rfl
 refine pure_ (i:=7) (N:=some 34) (v:=?_) (a':=?_) #[true,true,true,true,true,true,true,true] rfl rfl (by kernel_rfl) (fun _ _ _ h=>h) (Or.inl ⟨by rfl,?_⟩) ?_ ?_
 rotate_left
 ·intro w'
  go_simp
  first|with_reducible rfl|rfl
 rotate_left
 ·simp only[Act.put,List.setIfInBounds_toArray,List.set_cons_zero,List.set_cons_succ,i64_w,i32_w]
  rfl
 refine done_ (by kernel_rfl) ?_
 exact ⟨HB.out,_,_,_,_,_,_,_,rfl⟩
open Go.RowKit Go.Proofs.YtoncmhfmkfeolaaGreatDoorW.PrintWords
def metN (n:Int) (cs:List Cyc):Nat→List Bool
 | 0=>List.replicate n.toNat false
 | k+1=>(metN n cs k).set ((cd cs k).a % n).toNat true
def newAt (n:Int) (cs:List Cyc) (k:Nat):Bool:=!(metN n cs k).getD ((cd cs k).a % n).toNat false && !(cd cs k).w
def firstB (n:Int) (cs:List Cyc):Nat→List Int
 | 0=>newRam n
 | k+1=>if newAt n cs k then (firstB n cs k).set ((cd cs k).a % n).toNat (cd cs k).d else firstB n cs k
def firstK (n:Int) (cs:List Cyc):Nat→List Bool
 | 0=>List.replicate n.toNat false
 | k+1=>if newAt n cs k then (firstK n cs k).set ((cd cs k).a % n).toNat true else firstK n cs k
def oddD (n:Int) (cs:List Cyc):Nat→List Int
 | 0=>List.replicate n.toNat 0
 | k+1=>(oddD n cs k).set ((cd cs k).a % n).toNat (cd cs k).d
theorem metN_len (n:Int) (cs:List Cyc) (k:Nat):(metN n cs k).length=n.toNat:=by
 induction k with
 | zero=>simp[metN]
 | succ k ih=>rw[metN,List.length_set,ih]
theorem firstB_len (n:Int) (cs:List Cyc) (k:Nat) (hs:ramSize n=true):(firstB n cs k).length=n.toNat:=by
 induction k with
 | zero=>simp[firstB,newRam,hs]
 | succ k ih=>rw[firstB];split;rw[List.length_set,ih];exact ih
theorem firstK_len (n:Int) (cs:List Cyc) (k:Nat):(firstK n cs k).length=n.toNat:=by
 induction k with
 | zero=>simp[firstK]
 | succ k ih=>rw[firstK];split;rw[List.length_set,ih];exact ih
theorem oddD_len (n:Int) (cs:List Cyc) (k:Nat):(oddD n cs k).length=n.toNat:=by
 induction k with
 | zero=>simp[oddD]
 | succ k ih=>rw[oddD,List.length_set,ih]
theorem rep_false (n:Nat) (i:Nat):(List.replicate n false).getD i false=false:=by
 rw[List.getD_eq_getElem?_getD,List.getElem?_replicate]
 split <;> rfl
theorem need_app_met {n:Int} {i:Int} {t:List Cyc}:∀ {s:List Cyc},(∃ x ∈ s,x.a % n=i)→need n i (s++t)→need n i s:=by
 intro s
 induction s with
 | nil=>rintro ⟨x,hx,_⟩;cases hx
 | cons y s ih =>
  rintro ⟨x,hx,e⟩ h
  simp only[List.cons_append,need] at h ⊢
  split
  ·rename_i hy;rw[if_pos hy] at h;exact h
  ·rename_i hy
   rw[if_neg hy] at h
   rcases List.mem_cons.1 hx with rfl|hx
   ·exact absurd e hy
   ·exact ih ⟨x,hx,e⟩ h
theorem need_app_new {n:Int} {i:Int} {t:List Cyc}:∀ {s:List Cyc},(∀ x ∈ s,x.a % n ≠ i)→need n i (s++t)→need n i t:=by
 intro s
 induction s with
 | nil=>intro _ h;exact h
 | cons y s ih =>
  intro hn h
  simp only[List.cons_append,need] at h
  rw[if_neg (hn y (by simp))] at h
  exact ih (fun x hx=>hn x (by simp[hx])) h
theorem metN_iff (n:Int) (cs:List Cyc) (hn:0<n) (k:Nat) (hk:k≤cs.length) (i:Int) (i0:0≤i) (i1:i<n):(metN n cs k).getD i.toNat false=true ↔ ∃ x ∈ cs.take k,x.a % n=i:=by
 induction k with
 | zero =>
  rw[metN,rep_false]
  simp
 | succ k ih =>
  have q0:=Int.emod_nonneg (cd cs k).a (show n ≠ 0 by omega)
  have q1:=Int.emod_lt_of_pos (cd cs k).a hn
  rw[take_at cs k (by omega),metN]
  by_cases hi:(cd cs k).a % n=i
  ·rw[hi,rb_set_eq _ _ _ i0 (by rw[metN_len];omega)]
   exact ⟨fun _=>⟨cd cs k,by simp,hi⟩,fun _=>rfl⟩
  ·rw[rb_set_ne _ _ _ _ q0 i0 hi,ih (by omega)]
   constructor
   ·rintro ⟨x,hx,e⟩;exact ⟨x,by simp[hx],e⟩
   ·rintro ⟨x,hx,e⟩
    rcases List.mem_append.1 hx with hx|hx
    ·exact ⟨x,hx,e⟩
    ·rw[List.mem_singleton] at hx;subst hx;exact absurd e hi
structure FirstOk (l:List Int) (cs:List Cyc) (k:Nat) (i:Int):Prop where
 same:(metN l.length cs k).getD i.toNat false=false→rd (putL l (cs.take k)) i=rd l i
 known:(firstK l.length cs k).getD i.toNat false=true→rd (firstB l.length cs k) i=rd l i
 nought:(firstK l.length cs k).getD i.toNat false=false→rd (firstB l.length cs k) i=0
 need:need l.length i (cs.take k)→(firstK l.length cs k).getD i.toNat false=true
theorem first_law (l:List Int) (cs:List Cyc) (hs:ramSize l.length=true) (hf:Fair l cs) (k:Nat) (hk:k≤cs.length) (i:Int) (i0:0≤i) (i1:i<l.length):FirstOk l cs k i:=by
 have hp:=ramSize_le hs
 induction k with
 | zero =>
  refine ⟨fun _=>rfl,fun h=>?_,fun _=>newRam_rd _ _,fun h=>absurd h (by simp[need])⟩
  rw[firstK,rep_false] at h
  exact absurd h (by simp)
 | succ k ih =>
  have ih:=ih (by omega)
  have q0:=Int.emod_nonneg (cd cs k).a (show (l.length:Int) ≠ 0 by omega)
  have q1:=Int.emod_lt_of_pos (cd cs k).a (show (0:Int)<l.length by omega)
  have hl:=putL_len (cs.take k) l
  have hm:=metN_iff l.length cs (by omega) k (by omega) i i0 i1
  by_cases hi:(cd cs k).a % l.length=i
  ·have hN:newAt l.length cs k=(!(metN l.length cs k).getD i.toNat false && !(cd cs k).w):=by unfold newAt;rw[hi]
   refine ⟨fun h=>?_,?_,?_,fun h=>?_⟩
   ·rw[metN,hi,rb_set_eq _ _ _ i0 (by rw[metN_len];omega)] at h
    exact absurd h (by simp)
   ·rw[firstK,firstB]
    split
    ·rename_i hnew
     rw[hN] at hnew
     simp only[Bool.and_eq_true,Bool.not_eq_true'] at hnew
     intro _
     rw[hi,rd_set_eq _ _ _ i0 (by rw[firstB_len _ _ _ hs];omega),hf.at k (by omega) hnew.2,hi]
     exact ih.same hnew.1
    ·exact ih.known
   ·rw[firstK,firstB]
    split
    ·intro h
     rw[hi,rb_set_eq _ _ _ i0 (by rw[firstK_len];omega)] at h
     exact absurd h (by simp)
    ·exact ih.nought
   ·rw[take_at cs k (by omega)] at h
    rw[firstK]
    split
    ·rw[hi,rb_set_eq _ _ _ i0 (by rw[firstK_len];omega)]
    ·rename_i hnew
     rw[hN] at hnew
     cases hmet:(metN l.length cs k).getD i.toNat false with
     | true=>exact ih.need (need_app_met (hm.1 hmet) h)
     | false =>
      have h2:=need_app_new (fun x hx e=>by have:=hm.2 ⟨x,hx,e⟩;rw[hmet] at this;exact absurd this (by simp)) h
      simp only[Go.Proofs.YtoncmhfmkfeolaaGreatDoor.need] at h2
      rw[if_pos hi] at h2
      rw[hmet,h2] at hnew
      exact absurd rfl hnew
  ·refine ⟨fun h=>?_,?_,?_,fun h=>?_⟩
   ·rw[metN,rb_set_ne _ _ _ _ q0 i0 hi] at h
    rw[putL_take l cs k (by omega),put1_ne i i0 (by omega) (by rw[hl];exact hi)]
    exact ih.same h
   ·rw[firstK,firstB]
    split
    ·rw[rb_set_ne _ _ _ _ q0 i0 hi,rd_set_ne _ _ _ _ q0 i0 hi];exact ih.known
    ·exact ih.known
   ·rw[firstK,firstB]
    split
    ·rw[rb_set_ne _ _ _ _ q0 i0 hi,rd_set_ne _ _ _ _ q0 i0 hi];exact ih.nought
    ·exact ih.nought
   ·rw[take_at cs k (by omega)] at h
    have h2:Go.Proofs.YtoncmhfmkfeolaaGreatDoor.need l.length i (cs.take k):=by
     cases hmet:(metN l.length cs k).getD i.toNat false with
     | true=>exact need_app_met (hm.1 hmet) h
     | false =>
      have h2:=need_app_new (fun x hx e=>by have:=hm.2 ⟨x,hx,e⟩;rw[hmet] at this;exact absurd this (by simp)) h
      simp only[Go.Proofs.YtoncmhfmkfeolaaGreatDoor.need] at h2
      rw[if_neg hi] at h2
      exact absurd h2 id
    have h3:=ih.need h2
    rw[firstK]
    split
    ·rw[rb_set_ne _ _ _ _ q0 i0 hi];exact h3
    ·exact h3
def NoOdd (n:Int) (cs:List Cyc):Prop:=∀ k,k<cs.length→(cd cs k).w=false→(metN n cs k).getD ((cd cs k).a % n).toNat false=true→rd (oddD n cs k) ((cd cs k).a % n)=(cd cs k).d
theorem odd_law (l:List Int) (cs:List Cyc) (hs:ramSize l.length=true) (hf:Fair l cs) (k:Nat) (hk:k≤cs.length) (i:Int) (i0:0≤i) (i1:i<l.length) :
  (metN l.length cs k).getD i.toNat false=true→rd (oddD l.length cs k) i=rd (putL l (cs.take k)) i:=by
 have hp:=ramSize_le hs
 induction k with
 | zero =>
  intro h
  rw[metN,rep_false] at h
  exact absurd h (by simp)
 | succ k ih =>
  have q0:=Int.emod_nonneg (cd cs k).a (show (l.length:Int) ≠ 0 by omega)
  have q1:=Int.emod_lt_of_pos (cd cs k).a (show (0:Int)<l.length by omega)
  have hl:=putL_len (cs.take k) l
  rw[putL_take l cs k (by omega),oddD,metN]
  by_cases hi:(cd cs k).a % l.length=i
  ·intro _
   subst hi
   rw[rd_set_eq _ _ _ q0 (by rw[oddD_len];omega)]
   have e:=put1_eq (m:=putL l (cs.take k)) (x:=cd cs k) (fun hw=>by rw[hl];exact hf.at k (by omega) hw) (by omega)
   rw[hl] at e
   exact e.symm
  ·rw[rd_set_ne _ _ _ _ q0 i0 hi,put1_ne i i0 (by omega) (by rw[hl];exact hi),rb_set_ne _ _ _ _ q0 i0 hi]
   exact ih (by omega)
theorem no_odd (l:List Int) (cs:List Cyc) (hs:ramSize l.length=true) (hf:Fair l cs):NoOdd l.length cs:=by
 have hp:=ramSize_le hs
 intro k hk hw hm
 have q0:=Int.emod_nonneg (cd cs k).a (show (l.length:Int) ≠ 0 by omega)
 have q1:=Int.emod_lt_of_pos (cd cs k).a (show (0:Int)<l.length by omega)
 rw[odd_law l cs hs hf k (by omega) _ q0 q1 hm]
 exact (hf.at k hk hw).symm
structure Twin (l:List Int) (rest:List Cyc) (r r':Rs):Prop where
 c:r'.c=r.c
 t:r'.t=r.t
 jam:r'.jam=false
 len:r'.m.length=l.length
 ag:AgreeOn l.length rest r.m r'.m
theorem step_jam_peek {m m':List Int} {pc:Int} (hm:m'.length=m.length) (e:peek m' pc=peek m pc):jams m' pc=jams m pc:=by
 unfold jams
 rw[e,hm]
theorem run_st (E:List Evt) (r0:Rs) (h0:r0.st=[]) (hj:r0.jam=false):∀ k,(runN E r0 k).st.length≤k∧((runN E r0 k).jam=false→(runN E r0 k).st.length=k):=by
 intro k
 induction k with
 | zero=>exact ⟨by simp[runN,h0],fun _=>by simp[runN,h0]⟩
 | succ k ih =>
  rw[runN]
  split
  ·rename_i h
   exact ⟨by omega,fun h2=>by rw[h] at h2;exact absurd h2 (by simp)⟩
  ·rename_i h
   have e:=ih.2 (by simpa using h)
   unfold unitN
   repeat' split
   ·simp[Rs.go,e]
   ·simp[Rs.go,e]
   ·simp only[];exact ⟨by omega,fun h2=>absurd h2 (by simp)⟩
   ·simp[Rs.go,e]
theorem run_made (E:List Evt) (r0:Rs) (h0:r0.st=[]) (hj:r0.jam=false):∀ k,∃ j,j≤k∧(runN E r0 k).st.length=j∧(runN E r0 j).jam=false∧(runN E r0 j).t=(runN E r0 k).t∧(runN E r0 j).c=(runN E r0 k).c∧(∀ i,i≤j→(runN E r0 i).jam=false):=by
 intro k
 induction k with
 | zero =>
  refine ⟨0,Nat.le_refl _,by simp[runN,h0],hj,rfl,rfl,fun i hi=>?_⟩
  obtain rfl:i=0:=by omega
  exact hj
 | succ k ih =>
  obtain ⟨j,hjk,e1,e2,e3,e4,e5⟩:=ih
  rw[runN]
  split
  ·exact ⟨j,by omega,e1,e2,e3,e4,e5⟩
  ·rename_i h
   have hs:=(run_st E r0 h0 hj k).2 (by simpa using h)
   obtain rfl:j=k:=by omega
   have hu:runN E r0 (j+1)=unitN E j (runN E r0 j):=by rw[runN,if_neg h]
   have hgo:∀ s,unitN E j (runN E r0 j)=(runN E r0 j).go s→∃ i,i≤j+1∧(unitN E j (runN E r0 j)).st.length=i∧(runN E r0 i).jam=false∧(runN E r0 i).t=(unitN E j (runN E r0 j)).t∧(runN E r0 i).c=(unitN E j (runN E r0 j)).c∧(∀ q,q≤i→(runN E r0 q).jam=false):=by
    intro s e
    refine ⟨j+1,Nat.le_refl _,by rw[e];simp[Rs.go,e1],by rw[hu,e];rfl,by rw[hu],by rw[hu],fun q hq=>?_⟩
    rcases Nat.lt_or_ge j q with hq2|hq2
    ·obtain rfl:q=j+1:=by omega
     rw[hu,e];rfl
    ·exact e5 q hq2
   by_cases a1:asked E j true=true
   ·exact hgo _ (by unfold unitN;rw[if_pos a1])
   ·by_cases a2:(asked E j false && !(runN E r0 j).c.F.I)=true
    ·exact hgo _ (by unfold unitN;rw[if_neg a1,if_pos a2])
    ·by_cases a3:jams (runN E r0 j).m (runN E r0 j).c.PC=true
     ·have e:unitN E j (runN E r0 j)={ runN E r0 j with jam:=true }:=by unfold unitN;rw[if_neg a1,if_neg a2,if_pos a3]
      rw[e]
      exact ⟨j,by omega,e1,e2,rfl,rfl,e5⟩
     ·exact hgo _ (by unfold unitN;rw[if_neg a1,if_neg a2,if_neg a3])
theorem Ops.twin (o:Ops Cpu) (l m m':List Int) (s rest:List Cyc) (hs:ramSize m.length=true) (hm:m.length=l.length) (hm':m'.length=m.length)
  (hr:(o.run ⟨m,[]⟩).2.t=s) (hag:AgreeOn l.length (s++rest) m m') :
  (o.run ⟨m',[]⟩).1=(o.run ⟨m,[]⟩).1∧(o.run ⟨m',[]⟩).2.t=s∧(o.run ⟨m',[]⟩).2.m.length=l.length∧AgreeOn l.length rest (o.run ⟨m,[]⟩).2.m (o.run ⟨m',[]⟩).2.m:=by
 obtain ⟨s2,m1,h1,h2,h3⟩:=o.det m m' [] rest hs hm'
 have e:s2=s:=by rw[h1] at hr;simpa using hr
 subst e
 obtain ⟨m1',g1,g2,g3⟩:=h3 (by rw[hm];exact hag)
 rw[g1]
 rw[h1]
 exact ⟨rfl,by simp,by simp only[];omega,by rw[←hm];exact g3⟩
theorem first_read {α:Type} (a:Int) (k:Int→Ops α) (m:List Int) (hs:ramSize m.length=true):∃ s,((Ops.rd a k).run ⟨m,[]⟩).2.t=⟨a,peek m a,false⟩::s:=by
 obtain ⟨s,h1,_⟩:=(k (peek m a)).fair m [⟨a,peek m a,false⟩] hs
 refine ⟨s,?_⟩
 show ((k (peek m a)).run ⟨m,[]++[⟨a,peek m a,false⟩]⟩).2.t=_
 rw[List.nil_append,h1]
 rfl
theorem step_out (c:Cpu) (m:List Int) (hs:ramSize m.length=true) (hj:jams m c.PC=false):step c m=⟨((stepO c).run ⟨m,[]⟩).1,((stepO c).run ⟨m,[]⟩).2.m,((stepO c).run ⟨m,[]⟩).2.t⟩:=by
 rw[stepO_run]
 simp[step,hs,hj]
theorem serve_out (c:Cpu) (m:List Int) (nmi:Bool) (hs:ramSize m.length=true):serve c m nmi=⟨((serveO c nmi).run ⟨m,[]⟩).1,((serveO c nmi).run ⟨m,[]⟩).2.m,((serveO c nmi).run ⟨m,[]⟩).2.t⟩:=by
 rw[serveO_run]
 simp[serve,hs]
theorem peek_agree {m m':List Int} {a d:Int} {s:List Cyc} (hs:ramSize m.length=true) (hm:m'.length=m.length) (h:AgreeOn m.length (⟨a,d,false⟩::s) m m'):peek m' a=peek m a:=by
 have hp:=ramSize_le hs
 have q0:=Int.emod_nonneg a (show (m.length:Int) ≠ 0 by omega)
 have q1:=Int.emod_lt_of_pos a (show (0:Int)<m.length by omega)
 unfold peek
 rw[hm,if_pos hs,if_pos hs]
 exact h _ q0 q1 (by simp[need])
structure Goes (l:List Int) (rest:List Cyc) (s s':After):Prop where
 c:s'.c=s.c
 t:s'.t=s.t
 len:s'.m.length=l.length
 ag:AgreeOn l.length rest s.m s'.m
theorem serve_goes (c:Cpu) (l m m':List Int) (nmi:Bool) (rest:List Cyc) (hs:ramSize m.length=true) (hm:m.length=l.length) (hm':m'.length=m.length) (hag:AgreeOn l.length ((serve c m nmi).t++rest) m m') :
  Goes l rest (serve c m nmi) (serve c m' nmi):=by
 have e:=serve_out c m nmi hs
 obtain ⟨h1,h2,h3,h4⟩:=(serveO c nmi).twin l m m' (serve c m nmi).t rest hs hm hm' (by rw[e]) hag
 rw[serve_out c m' nmi (by rw[hm'];exact hs)]
 refine ⟨by rw[e];exact h1,h2,h3,by rw[e];exact h4⟩
theorem step_goes (c:Cpu) (l m m':List Int) (rest:List Cyc) (hs:ramSize m.length=true) (hm:m.length=l.length) (hm':m'.length=m.length) (hj:jams m c.PC=false) (hag:AgreeOn l.length ((step c m).t++rest) m m') :
  jams m' c.PC=false∧Goes l rest (step c m) (step c m'):=by
 have e:=step_out c m hs hj
 obtain ⟨h1,h2,h3,h4⟩:=(stepO c).twin l m m' (step c m).t rest hs hm hm' (by rw[e]) hag
 obtain ⟨s,hf⟩:=first_read c.PC (fun code=>stpO (kindI code) (mdI code) (sizeM (mdI code)) (nmL code) c) m hs
 have hf2:(step c m).t=⟨c.PC,peek m c.PC,false⟩::s:=by rw[e];exact hf
 have hj2:jams m' c.PC=false:=by
  rw[hf2,← hm] at hag
  rw[step_jam_peek hm' (peek_agree hs hm' hag)]
  exact hj
 refine ⟨hj2,?_⟩
 rw[step_out c m' (by rw[hm'];exact hs) hj2]
 refine ⟨by rw[e];exact h1,h2,h3,by rw[e];exact h4⟩
theorem Twin.go {l:List Int} {rest:List Cyc} {r r':Rs} {s s':After} (T:r'.t=r.t∧r'.c=r.c) (h:Goes l rest s s'):Twin l rest (r.go s) (r'.go s') :=
 ⟨h.c,by simp only[Rs.go];rw[T.1,h.t],rfl,h.len,h.ag⟩
theorem unit_t (E:List Evt) (i:Int) (r:Rs):∃ s,(unitN E i r).t=r.t++s:=by
 unfold unitN
 repeat' split
 ·exact ⟨_,rfl⟩
 ·exact ⟨_,rfl⟩
 ·exact ⟨[],by simp⟩
 ·exact ⟨_,rfl⟩
theorem runN_t (E:List Evt) (r0:Rs) (i j:Nat):∃ s,(runN E r0 (i+j)).t=(runN E r0 i).t++s:=by
 induction j with
 | zero=>exact ⟨[],by simp⟩
 | succ j ih =>
  obtain ⟨s,hs⟩:=ih
  rw[←Nat.add_assoc,runN]
  split
  ·exact ⟨s,hs⟩
  ·obtain ⟨s2,h2⟩:=unit_t E ((i+j:Nat):Int) (runN E r0 (i+j))
   exact ⟨s++s2,by rw[h2,hs,List.append_assoc]⟩
theorem unit_twin (E:List Evt) (i:Int) {l:List Int} {rest:List Cyc} {r r':Rs} (s:List Cyc) (hs:ramSize l.length=true) (hm:r.m.length=l.length) (he:(unitN E i r).t=r.t++s) (hj:(unitN E i r).jam=false) (T:Twin l (s++rest) r r') :
  Twin l rest (unitN E i r) (unitN E i r'):=by
 have hs2:ramSize r.m.length=true:=by rw[hm];exact hs
 have hm':r'.m.length=r.m.length:=by rw[T.len,hm]
 have hc:=T.c
 unfold unitN at he hj ⊢
 rw[hc]
 split
 ·rename_i a1
  rw[if_pos a1] at he
  have e:(serve r.c r.m true).t=s:=List.append_cancel_left (show r.t++(serve r.c r.m true).t=r.t++s from he)
  exact Twin.go ⟨T.t,T.c⟩ (serve_goes r.c l r.m r'.m true rest hs2 hm hm' (by rw[e];exact T.ag))
 ·rename_i a1
  rw[if_neg a1] at he hj
  split
  ·rename_i a2
   rw[if_pos a2] at he
   have e:(serve r.c r.m false).t=s:=List.append_cancel_left (show r.t++(serve r.c r.m false).t=r.t++s from he)
   exact Twin.go ⟨T.t,T.c⟩ (serve_goes r.c l r.m r'.m false rest hs2 hm hm' (by rw[e];exact T.ag))
  ·rename_i a2
   rw[if_neg a2] at he hj
   cases a3:jams r.m r.c.PC with
   | true=>rw[a3,if_pos rfl] at hj;exact absurd hj (by simp)
   | false =>
    rw[a3,if_neg (by simp)] at he
    have e:(step r.c r.m).t=s:=List.append_cancel_left (show r.t++(step r.c r.m).t=r.t++s from he)
    obtain ⟨g1,g2⟩:=step_goes r.c l r.m r'.m rest hs2 hm hm' a3 (by rw[e];exact T.ag)
    rw[g1,if_neg (by simp),if_neg (by simp)]
    exact Twin.go ⟨T.t,T.c⟩ g2
theorem run_twin (E:List Evt) (c:Cpu) (l l':List Int) (hl:l'.length=l.length) (n:Int) (hk:runOk l E n=true) (hag:AgreeOn l.length (run c l E n).t l l') :
  (run c l' E (run c l E n).st.length).t=(run c l E n).t∧(run c l' E (run c l E n).st.length).c=(run c l E n).c:=by
 obtain ⟨hs,n0,n1,hE⟩:=runOk_said hk
 have e:run c l E n=runN E (rs0 c l) n.toNat:=by unfold run;rw[if_pos hk]
 rw[e] at hag ⊢
 obtain ⟨j,hjk,e1,e2,e3,e4,e5⟩:=run_made E (rs0 c l) rfl rfl n.toNat
 rw[e1]
 have hk':runOk l' E j=true:=by
  unfold runOk
  rw[hl,hs]
  simp
  omega
 have e':run c l' E j=runN E (rs0 c l') j:=by
  unfold run
  rw[if_pos hk',Int.toNat_natCast]
 rw[e',← e3,← e4]
 rw[←e3] at hag
 have main:∀ i,i≤j→∀ rest,(runN E (rs0 c l) j).t=(runN E (rs0 c l) i).t++rest→Twin l rest (runN E (rs0 c l) i) (runN E (rs0 c l') i):=by
  intro i
  induction i with
  | zero =>
   intro _ rest hr
   refine ⟨rfl,rfl,rfl,hl,?_⟩
   have hr:(runN E (rs0 c l) j).t=rest:=by rw[hr];rfl
   rw[←hr]
   exact hag
  | succ i ih =>
   intro hi rest hr
   obtain ⟨s,hs1⟩:=unit_t E i (runN E (rs0 c l) i)
   have hji:=e5 i (by omega)
   have hj1:=e5 (i+1) hi
   have hu:runN E (rs0 c l) (i+1)=unitN E i (runN E (rs0 c l) i):=by rw[runN,if_neg (by simp[hji])]
   rw[hu,hs1,List.append_assoc] at hr
   have T:=ih (by omega) _ hr
   have hu':runN E (rs0 c l') (i+1)=unitN E i (runN E (rs0 c l') i):=by rw[runN,if_neg (by simp[T.jam])]
   rw[hu,hu']
   rw[hu] at hj1
   have F:=runN_fits E c l hs i
   exact unit_twin E i s hs (by rw[F.m,putL_len]) hs1 hj1 T
 have T:=main j (Nat.le_refl _) [] (by simp)
 exact ⟨T.t,T.c⟩
end Go.Proofs.YtoncmhfmkfeolaaGreatDoor
