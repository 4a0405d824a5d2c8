/- The reference's run in the midst: the variable of what is handed back, and its rows. -/
import Derived.Test.YtoncmhfmkfeolaaGreatDoorGO
import Derived.Test.YtoncmhfmkfeolaaGreatDoorGP
import Derived.BigQuiet
set_option maxRecDepth 100000
set_option maxHeartbeats 8000000
set_option linter.unusedVariables false
set_option linter.unusedSimpArgs false
namespace Go.Proofs.YtoncmhfmkfeolaaGreatDoor
open Go.RowKit Go.Proofs.YtoncmhfmkfeolaaGreatDoorW.PrintWords
structure SpcAt (w0 w:World) (base b:Nat) (r:Rs) (vm vt vs vp:Value):Prop where
 out:Blk w b #[.int .u8 r.c.A,.int .u8 r.c.X,.int .u8 r.c.Y,.int .u8 r.c.S,.int .u16 r.c.PC,.bool r.c.F.N,.bool r.c.F.V,.bool r.c.F.D,.bool r.c.F.I,.bool r.c.F.Z,.bool r.c.F.C,vm,vt,vs,vp,.bool r.jam] 38
 mem:OwnB w base vm r.m
 log:OwnC w base vt r.t
 st:OwnI w base vs r.st
 cs:OwnP w base vp r.cs
 hg:base≤b
 below:Below base w0 w
section
variable {w0 w w':World} {base b:Nat} {r:Rs} {vm vt vs vp:Value}
theorem SpcAt.size (h:SpcAt w0 w base b r vm vt vs vp):base≤w.heap.size:=Nat.le_of_lt (Nat.lt_of_le_of_lt h.hg h.out.lt)
theorem SpcAt.wait (h:SpcAt w0 w base b r vm vt vs vp) (hb:Below w.heap.size w w'):SpcAt w0 w' base b r vm vt vs vp :=
 ⟨h.out.below hb,h.mem.below hb,Kd.R_below h.log hb,h.st.below hb,h.cs.below hb,h.hg,h.below.trans (hb.mono h.size)⟩
theorem SpcAt.rows (h:SpcAt w0 w base b r vm vt vs vp) (hk:∀ k,k ≠ b→w'.heap[k]?=w.heap[k]?):OwnB w' base vm r.m∧OwnC w' base vt r.t∧OwnI w' base vs r.st∧OwnP w' base vp r.cs:=by
 refine ⟨OwnB.move h.mem (fun k e=>?_),OwnC.move h.log (fun k e=>?_),h.st.keep (fun k e=>?_),h.cs.keep (fun k e=>?_)⟩
 ·obtain ⟨c1,h1⟩:=Kd.R_typed h.mem k e
  exact hk k (blk_ne h1 h.out (by decide))
 ·obtain ⟨c1,h1⟩:=Kd.R_typed h.log k e
  exact hk k (blk_ne h1 h.out (by decide))
 ·obtain ⟨c1,h1⟩:=Kd.R_typed h.st k e
  exact hk k (blk_ne h1 h.out (by decide))
 ·obtain ⟨c1,h1⟩:=Kd.R_typed h.cs k e
  exact hk k (blk_ne h1 h.out (by decide))
theorem SpcAt.put (h:SpcAt w0 w base b r vm vt vs vp) {d:Cpu} {vm':Value} {m':List Int} (hm:OwnB w base vm' m') (hk:∀ k,k ≠ b→w'.heap[k]?=w.heap[k]?) (ho:Blk w' b #[.int .u8 d.A,.int .u8 d.X,.int .u8 d.Y,.int .u8 d.S,.int .u16 d.PC,.bool d.F.N,.bool d.F.V,.bool d.F.D,.bool d.F.I,.bool d.F.Z,.bool d.F.C,vm',vt,vs,vp,.bool r.jam] 38) (hb:Below base w0 w') :
  SpcAt w0 w' base b ⟨d,m',r.t,r.st,r.cs,r.jam⟩ vm' vt vs vp:=by
 obtain ⟨_,q1,q2,q3⟩:=h.rows hk
 refine ⟨ho,OwnB.move hm (fun k e=>?_),q1,q2,q3,h.hg,hb⟩
 obtain ⟨c1,h1⟩:=Kd.R_typed hm k e
 exact hk k (blk_ne h1 h.out (by decide))
theorem SpcAt.jam (h:SpcAt w0 w base b r vm vt vs vp) (x:Bool):SpcAt w0 (w.setCell ⟨b,15,none⟩ (.bool x)) base b { r with jam:=x } vm vt vs vp:=by
 obtain ⟨q0,q1,q2,q3⟩:=h.rows (w':=w.setCell ⟨b,15,none⟩ (.bool x)) (fun k hk=>set_block _ _ _ _ _ hk)
 exact ⟨blk_set h.out 15 _,q0,q1,q2,q3,h.hg,h.below.setCell (p:=⟨b,15,none⟩) h.hg _⟩
theorem SpcAt.appS (h:SpcAt w0 w base b r vm vt vs vp) {x:Int} {v1:Value} (ho:(Kd.int .i64).R 3 w' base (fun _=>True) v1 (r.st++[x])) (hg:w.grownBy w' vs.ownBlock) :
  SpcAt w0 (w'.setCell ⟨b,13,none⟩ v1) base b ⟨r.c,r.m,r.t,r.st++[x],r.cs,r.jam⟩ vm vt v1 vp:=by
 have hs:=h.below.grown hg h.size (fun k hk=>Kd.R_base h.st k hk)
 have hout:=(hg.block _ h.out.lt (row_ne h.st h.out (by decide))).trans h.out
 refine ⟨blk_set hout 13 _,OwnB.move (OwnB.move (w':=w') h.mem (fun k e=>?_)) (fun k e=>?_),OwnC.move (OwnC.move (w':=w') h.log (fun k e=>?_)) (fun k e=>?_),OwnI.keep ho (fun k e=>?_),OwnP.keep (OwnP.keep (w':=w') h.cs (fun k e=>?_)) (fun k e=>?_),h.hg,hs.setCell (p:=⟨b,13,none⟩) h.hg _⟩
 ·obtain ⟨c1,h1⟩:=Kd.R_typed h.mem k e
  exact hg.block _ (blk_lt h1) (row_ne h.st h1 (by decide))
 ·obtain ⟨c1,h1⟩:=Kd.R_typed h.mem k e
  exact set_block _ _ _ _ _ (blk_ne h1 h.out (by decide))
 ·obtain ⟨c1,h1⟩:=Kd.R_typed h.log k e
  exact hg.block _ (blk_lt h1) (row_ne h.st h1 (by decide))
 ·obtain ⟨c1,h1⟩:=Kd.R_typed h.log k e
  exact set_block _ _ _ _ _ (blk_ne h1 h.out (by decide))
 ·obtain ⟨c1,h1⟩:=Kd.R_typed ho k e
  exact set_block _ _ _ _ _ (blk_ne h1 hout (by decide))
 ·obtain ⟨c1,h1⟩:=Kd.R_typed h.cs k e
  exact hg.block _ (blk_lt h1) (row_ne h.st h1 (by decide))
 ·obtain ⟨c1,h1⟩:=Kd.R_typed h.cs k e
  exact set_block _ _ _ _ _ (blk_ne h1 h.out (by decide))
theorem SpcAt.appP (h:SpcAt w0 w base b r vm vt vs vp) {x:Cpu} {v1:Value} (ho:cpuK.R 28 w' base (fun _=>True) v1 (r.cs++[x])) (hg:w.grownBy w' vp.ownBlock) :
  SpcAt w0 (w'.setCell ⟨b,14,none⟩ v1) base b ⟨r.c,r.m,r.t,r.st,r.cs++[x],r.jam⟩ vm vt vs v1:=by
 have hs:=h.below.grown hg h.size (fun k hk=>Kd.R_base h.cs k hk)
 have hout:=(hg.block _ h.out.lt (row_ne h.cs h.out (by decide))).trans h.out
 refine ⟨blk_set hout 14 _,OwnB.move (OwnB.move (w':=w') h.mem (fun k e=>?_)) (fun k e=>?_),OwnC.move (OwnC.move (w':=w') h.log (fun k e=>?_)) (fun k e=>?_),OwnI.keep (OwnI.keep (w':=w') h.st (fun k e=>?_)) (fun k e=>?_),OwnP.keep ho (fun k e=>?_),h.hg,hs.setCell (p:=⟨b,14,none⟩) h.hg _⟩
 ·obtain ⟨c1,h1⟩:=Kd.R_typed h.mem k e
  exact hg.block _ (blk_lt h1) (row_ne h.cs h1 (by decide))
 ·obtain ⟨c1,h1⟩:=Kd.R_typed h.mem k e
  exact set_block _ _ _ _ _ (blk_ne h1 h.out (by decide))
 ·obtain ⟨c1,h1⟩:=Kd.R_typed h.log k e
  exact hg.block _ (blk_lt h1) (row_ne h.cs h1 (by decide))
 ·obtain ⟨c1,h1⟩:=Kd.R_typed h.log k e
  exact set_block _ _ _ _ _ (blk_ne h1 h.out (by decide))
 ·obtain ⟨c1,h1⟩:=Kd.R_typed h.st k e
  exact hg.block _ (blk_lt h1) (row_ne h.cs h1 (by decide))
 ·obtain ⟨c1,h1⟩:=Kd.R_typed h.st k e
  exact set_block _ _ _ _ _ (blk_ne h1 h.out (by decide))
 ·obtain ⟨c1,h1⟩:=Kd.R_typed ho k e
  exact set_block _ _ _ _ _ (blk_ne h1 hout (by decide))
theorem SpcAt.appT (h:SpcAt w0 w base b r vm vt vs vp) {s:List Cyc} {v1:Value} (ho:cycK.R 70 w' base (fun _=>True) v1 (r.t++s)) (hg:w.grownBy w' vt.ownBlock) :
  SpcAt w0 (w'.setCell ⟨b,12,none⟩ v1) base b ⟨r.c,r.m,r.t++s,r.st,r.cs,r.jam⟩ vm v1 vs vp:=by
 have hs:=h.below.grown hg h.size (fun k hk=>Kd.R_base h.log k hk)
 have hout:=(hg.block _ h.out.lt (row_ne h.log h.out (by decide))).trans h.out
 refine ⟨blk_set hout 12 _,OwnB.move (OwnB.move (w':=w') h.mem (fun k e=>?_)) (fun k e=>?_),OwnC.move ho (fun k e=>?_),OwnI.keep (OwnI.keep (w':=w') h.st (fun k e=>?_)) (fun k e=>?_),OwnP.keep (OwnP.keep (w':=w') h.cs (fun k e=>?_)) (fun k e=>?_),h.hg,hs.setCell (p:=⟨b,12,none⟩) h.hg _⟩
 ·obtain ⟨c1,h1⟩:=Kd.R_typed h.mem k e
  exact hg.block _ (blk_lt h1) (row_ne h.log h1 (by decide))
 ·obtain ⟨c1,h1⟩:=Kd.R_typed h.mem k e
  exact set_block _ _ _ _ _ (blk_ne h1 h.out (by decide))
 ·obtain ⟨c1,h1⟩:=Kd.R_typed ho k e
  exact set_block _ _ _ _ _ (blk_ne h1 hout (by decide))
 ·obtain ⟨c1,h1⟩:=Kd.R_typed h.st k e
  exact hg.block _ (blk_lt h1) (row_ne h.log h1 (by decide))
 ·obtain ⟨c1,h1⟩:=Kd.R_typed h.st k e
  exact set_block _ _ _ _ _ (blk_ne h1 h.out (by decide))
 ·obtain ⟨c1,h1⟩:=Kd.R_typed h.cs k e
  exact hg.block _ (blk_lt h1) (row_ne h.log h1 (by decide))
 ·obtain ⟨c1,h1⟩:=Kd.R_typed h.cs k e
  exact set_block _ _ _ _ _ (blk_ne h1 h.out (by decide))
end
end Go.Proofs.YtoncmhfmkfeolaaGreatDoor
namespace Go.Proofs.YtoncmhfmkfeolaaGreatDoor
open Go.RowKit Go.Proofs.YtoncmhfmkfeolaaGreatDoorW.PrintWords Go.Proofs.YtoncmhfmkfeolaaGreatDoorW.PrintLast
theorem R_lit0 {α:Type} (d:Kd α) (W:World) (base e:Nat) (hb:base≤W.heap.size):d.R e (W.alloc (.cells #[] e)) base (fun _=>True) (.slice (some ⟨W.heap.size,0,none⟩) 0 0) [] :=
 ⟨fun _ _=>trivial,[],by simpa using World.ownsRow_lit (base:=base) (e:=e) (size:=d.sz) W #[] 0 hb (by decide) (by simp),Reps.none _ _⟩
theorem spReg3 (c:Cpu) (A:Option Addr) (l:List Int) (d:Nat) (w1:World) (g4 g5:Nat) (h:Bs w1 A l) (hl:l.length≤1048576) (k4:Blk w1 g4 #[.int .u8 c.A,.int .u8 c.X,.int .u8 c.Y,.int .u8 c.S,.int .u16 c.PC,.bool c.F.N,.bool c.F.V,.bool c.F.D,.bool c.F.I,.bool c.F.Z,.bool c.F.C] 28) (k5:Blk w1 g5 #[.slice A l.length d] 30)
  (s0 s1 s2 s3 s6 s7 s8 s9 s10 s11 s12 s13 s14 s15 s16 s17 s18 s19 s20 s21 s22 s23 s24 s25 s26 s27 s28 s29 s30 s31 s32 s33 s34 s35 s36 s37 s38 s39 s40 s41 s42 s43 s44 s45 s46 s47 s48 s49 s50 s51 s52 s53 s54 s55 s56 s57 s58 s59 s60 s61 s62 s63 s64 s65 s66 s67 s68 s69 s70 s71 s72 s73 s74 s75 s76 s77 s78 s79 s80 s81 s82 s83 s84 s85 s86 s87 s88 s89 s90 s91 s92 s93 s94 s95 s96 s97 s98 s99 s100 s101 s102 s103 s104 s105 s106 s107 s108 s109 s110 s111 s112 s113 s114 s115 s116 s117 s118 s119 s120 s121 s122 s123:Value) :
  Code.wp Tryz.prog ((Tryz.f12.body.bind (regOf 3)).getD .skip) (OnNormal fun a' w'=>∃ u9 u27 u28 u29 u30 u31 u32 u33,(∃ b A1 c1,u9=.pointer (some ⟨b,0,none⟩)∧SpcAt w1 w' w1.heap.size b (rs0 c l) (.slice A1 l.length c1) (.slice none 0 0) (.slice none 0 0) (.slice none 0 0))∧a'=⟨List.toArray (s0::s1::s2::s3::.pointer (some ⟨g4,0,none⟩)::.pointer (some ⟨g5,0,none⟩)::s6::s7::s8::u9::s10::s11::s12::s13::s14::s15::s16::s17::s18::s19::s20::s21::s22::s23::s24::s25::s26::u27::u28::u29::u30::u31::u32::u33::s34::s35::s36::s37::s38::s39::s40::s41::s42::s43::s44::s45::s46::s47::s48::s49::s50::s51::s52::s53::s54::s55::s56::s57::s58::s59::s60::s61::s62::s63::s64::s65::s66::s67::s68::s69::s70::s71::s72::s73::s74::s75::s76::s77::s78::s79::s80::s81::s82::s83::s84::s85::s86::s87::s88::s89::s90::s91::s92::s93::s94::s95::s96::s97::s98::s99::s100::s101::s102::s103::s104::s105::s106::s107::s108::s109::s110::s111::s112::s113::s114::s115::s116::s117::s118::s119::s120::s121::s122::s123::[]),[]⟩) ⟨List.toArray (s0::s1::s2::s3::.pointer (some ⟨g4,0,none⟩)::.pointer (some ⟨g5,0,none⟩)::s6::s7::s8::s9::s10::s11::s12::s13::s14::s15::s16::s17::s18::s19::s20::s21::s22::s23::s24::s25::s26::s27::s28::s29::s30::s31::s32::s33::s34::s35::s36::s37::s38::s39::s40::s41::s42::s43::s44::s45::s46::s47::s48::s49::s50::s51::s52::s53::s54::s55::s56::s57::s58::s59::s60::s61::s62::s63::s64::s65::s66::s67::s68::s69::s70::s71::s72::s73::s74::s75::s76::s77::s78::s79::s80::s81::s82::s83::s84::s85::s86::s87::s88::s89::s90::s91::s92::s93::s94::s95::s96::s97::s98::s99::s100::s101::s102::s103::s104::s105::s106::s107::s108::s109::s110::s111::s112::s113::s114::s115::s116::s117::s118::s119::s120::s121::s122::s123::[]),[]⟩ w1:=by
 conv=>arg 2;whnf
 refine start_ (n:=9) (S:=fun w'=>w'.cell? ⟨g4,0,none⟩=some (.int .u8 c.A)∧w'.cell? ⟨g4,1,none⟩=some (.int .u8 c.X)∧w'.cell? ⟨g4,2,none⟩=some (.int .u8 c.Y)∧w'.cell? ⟨g4,3,none⟩=some (.int .u8 c.S)∧w'.cell? ⟨g4,4,none⟩=some (.int .u16 c.PC)∧w'.cell? ⟨g4,5,none⟩=some (.bool c.F.N)∧w'.cell? ⟨g4,6,none⟩=some (.bool c.F.V)∧w'.cell? ⟨g4,7,none⟩=some (.bool c.F.D)∧w'.cell? ⟨g4,8,none⟩=some (.bool c.F.I)∧w'.cell? ⟨g4,9,none⟩=some (.bool c.F.Z)∧w'.cell? ⟨g4,10,none⟩=some (.bool c.F.C)∧w'.cell? ⟨g5,0,none⟩=some (.slice A l.length d)) (ds:=[8]) #[false,false,false,false,false,false,false,false,false] (by kernel_rfl) rfl rfl ?_ (fun hHeld=>?_)
 ·exact ⟨(cpuAll k4).1,(cpuAll k4).2.1,(cpuAll k4).2.2.1,(cpuAll k4).2.2.2.1,(cpuAll k4).2.2.2.2.1,(cpuAll k4).2.2.2.2.2.1,(cpuAll k4).2.2.2.2.2.2.1,(cpuAll k4).2.2.2.2.2.2.2.1,(cpuAll k4).2.2.2.2.2.2.2.2.1,(cpuAll k4).2.2.2.2.2.2.2.2.2.1,(cpuAll k4).2.2.2.2.2.2.2.2.2.2,k5.one⟩
 have K4:=Aside0.mk (k4.below (below_drew1 (Below.refl _ _)))
 have K5:=Aside0.mk (k5.below (below_drew1 (Below.refl _ _)))
 have hl4:=k4.lt
 have hl5:=k5.lt
 have HB:Aside0 (Below w1.heap.size w1 w1.drew):=⟨below_drew1 (Below.refl _ _)⟩
 have hsz:w1.heap.size≤w1.drew.heap.size:=Nat.le_refl _
 clear k4 k5
 generalize w1.drew=W at *
 refine pure_ (i:=2) (N:=some 29) (v:=?_) (a':=?_) #[false,false,true,false,false,false,false,false,false] rfl rfl (by kernel_rfl) (fun _ _ _ h=>h) (Or.inl ⟨by rfl,?_⟩) ?_ ?_
 rotate_left
 ·intro w'
  go_simp
  with_reducible rfl
 rotate_left
 ·simp only[Act.put,List.setIfInBounds_toArray,List.set_cons_zero,List.set_cons_succ,i64_w,i32_w]
  rfl
 refine take_ (i:=0) (N:=some 27) (v:=?_) (a':=?_) #[true,false,true,false,false,false,false,false,false] rfl rfl (by kernel_rfl) (fun _ _ _ h=>h) (Or.inl ⟨by rfl,?_⟩) hHeld ?_ ?_
 rotate_left
 ·rintro w' ⟨s0',s1',s2',s3',s4',s5',s6',s7',s8',s9',s10',s11'⟩
  go_simp
  with_reducible rfl
 rotate_left
 ·simp only[Act.put,List.setIfInBounds_toArray,List.set_cons_zero,List.set_cons_succ,i64_w,i32_w]
  rfl
 refine take_ (i:=3) (N:=some 30) (v:=?_) (a':=?_) #[true,false,true,true,false,false,false,false,false] rfl rfl (by kernel_rfl) (fun _ _ _ h=>h) (Or.inl ⟨by rfl,?_⟩) hHeld ?_ ?_
 rotate_left
 ·rintro w' ⟨s0',s1',s2',s3',s4',s5',s6',s7',s8',s9',s10',s11'⟩
  go_simp
  with_reducible rfl
 rotate_left
 ·simp only[Act.put,List.setIfInBounds_toArray,List.set_cons_zero,List.set_cons_succ,i64_w,i32_w]
  rfl
 refine two_ (i:=1) (j:=7) (Ni:=some 28) (Nj:=some 9) #[true,true,true,true,false,false,false,false,false] #[true,false,true,true,false,false,false,true,false] rfl rfl rfl rfl (by kernel_rfl) (by decide) (by decide) (fun K hK=>?_) (fun K hK=>?_)
 ·skip
  refine value_ (w1:=?_) (v:=?_) (by rfl) rfl ?_ ?_
  rotate_left 2
  ·go_simp
   constructor
   ·rfl
   ·rfl
  have hlb:w1.heap.size≤W.heap.size:=hsz
  obtain ⟨gl,hgl⟩:∃ x,W.heap.size=x:=⟨_,rfl⟩
  have KL:Aside0 ((Kd.int .u8).R 5 (W.alloc (.cells #[] 5)) w1.heap.size (fun _=>True) (.slice (some ⟨W.heap.size,0,none⟩) 0 0) []):=⟨R_lit0 _ _ _ _ hsz⟩
  rw[hgl] at KL hlb ⊢
  have hb:Below W.heap.size W (W.alloc (.cells #[] 5)):=blw
  replace K4:=Aside0.mk (K4.out.below hb)
  replace K5:=Aside0.mk (K5.out.below hb)
  replace HB:=Aside0.mk (HB.out.trans (hb.mono HB.out.size))
  (first|replace KO:=Aside0.mk (KO.out.below hb)|skip)
  replace hsz:=Nat.le_trans hsz hb.size
  clear hb hHeld hgl
  generalize W.alloc (.cells #[] 5)=Wa at *
  refine hK.out _ _ ⟨(cpuAll K4.out).1,(cpuAll K4.out).2.1,(cpuAll K4.out).2.2.1,(cpuAll K4.out).2.2.2.1,(cpuAll K4.out).2.2.2.2.1,(cpuAll K4.out).2.2.2.2.2.1,(cpuAll K4.out).2.2.2.2.2.2.1,(cpuAll K4.out).2.2.2.2.2.2.2.1,(cpuAll K4.out).2.2.2.2.2.2.2.2.1,(cpuAll K4.out).2.2.2.2.2.2.2.2.2.1,(cpuAll K4.out).2.2.2.2.2.2.2.2.2.2,K5.out.one⟩ (fun hHeld=>?_)
  clear hK K
  refine norm_ (a':=?_) ?_ ?_
  rotate_left
  ·show Act.put _ (some 28) _=_
   simp only[Act.put,List.setIfInBounds_toArray,List.set_cons_zero,List.set_cons_succ,i64_w,i32_w]
   rfl
  refine two_ (i:=4) (j:=7) (Ni:=some 31) (Nj:=some 9) #[true,true,true,true,true,false,false,false,false] #[true,true,true,true,false,false,false,true,false] rfl rfl rfl rfl (by kernel_rfl) (by decide) (by decide) (fun K hK=>?_) (fun K hK=>?_)
  ·skip
   refine Kd.R_append_rows_step (Kd.int .u8) (Rr:=(Kd.int .u8).K w1) (w0:=w1) w1.heap.size (by rfl) (.tmp 28) (.tmp 30) 22 5 (.int .u8 0) 1 (by rfl) Tryz.underlying22 infoU8 rfl (by decide) (by decide) (.slice (some ⟨gl,0,none⟩) 0 0) [] l A l.length d (fun _=>True) (fun k=>some k ≠ (Value.slice (some ⟨gl,0,none⟩) 0 0).ownBlock) (by rfl) (by rfl) KL.out (Kd.C_below h.c HB.out) (fun _ _ hq=>hq) (fun _ hk=>⟨trivial,hk⟩) (fun _ _=>trivial) HB.out hsz (by simp;omega) ?_
   intro v4 w4 ho hb4 hg4 _
   rw[List.nil_append] at ho
   obtain ⟨A1,c1,e1,_,_⟩:=Kd.R_reads ho
   subst e1
   have KM:=Aside0.mk ho
   have hn4:some g4 ≠ (Value.slice (some ⟨gl,0,none⟩) 0 0).ownBlock:=fun e=>by have e2:g4=gl:=Option.some.inj e;omega
   have hn5:some g5 ≠ (Value.slice (some ⟨gl,0,none⟩) 0 0).ownBlock:=fun e=>by have e2:g5=gl:=Option.some.inj e;omega
   (first|replace KO:=Aside0.mk (Blk.grown KO.out hg4 (row_ne KL.out KO.out (by decide)))|skip)
   replace K4:=Aside0.mk (K4.out.grown hg4 hn4)
   replace K5:=Aside0.mk (K5.out.grown hg4 hn5)
   replace HB:=Aside0.mk hb4
   replace hsz:=Nat.le_trans hsz hg4.size
   clear hHeld KL ho hb4 hg4 hn4 hn5
   refine hK.out _ _ ⟨(cpuAll K4.out).1,(cpuAll K4.out).2.1,(cpuAll K4.out).2.2.1,(cpuAll K4.out).2.2.2.1,(cpuAll K4.out).2.2.2.2.1,(cpuAll K4.out).2.2.2.2.2.1,(cpuAll K4.out).2.2.2.2.2.2.1,(cpuAll K4.out).2.2.2.2.2.2.2.1,(cpuAll K4.out).2.2.2.2.2.2.2.2.1,(cpuAll K4.out).2.2.2.2.2.2.2.2.2.1,(cpuAll K4.out).2.2.2.2.2.2.2.2.2.2,K5.out.one⟩ (fun hHeld=>?_)
   clear hK K
   refine norm_ (a':=?_) ?_ ?_
   rotate_left
   ·show Act.put _ (some 31) _=_
    simp only[Act.put,List.setIfInBounds_toArray,List.set_cons_zero,List.set_cons_succ,i64_w,i32_w]
    rfl
   refine pure_ (i:=5) (N:=some 32) (v:=?_) (a':=?_) #[true,true,true,true,true,true,false,false,false] rfl rfl (by kernel_rfl) (fun _ _ _ h=>h) (Or.inl ⟨by rfl,?_⟩) ?_ ?_
   rotate_left
   ·intro w'
    go_simp
    with_reducible rfl
   rotate_left
   ·simp only[Act.put,List.setIfInBounds_toArray,List.set_cons_zero,List.set_cons_succ,i64_w,i32_w]
    rfl
   refine pure_ (i:=6) (N:=some 33) (v:=?_) (a':=?_) #[true,true,true,true,true,true,true,false,false] rfl rfl (by kernel_rfl) (fun _ _ _ h=>h) (Or.inl ⟨by rfl,?_⟩) ?_ ?_
   rotate_left
   ·intro w'
    go_simp
    with_reducible rfl
   rotate_left
   ·simp only[Act.put,List.setIfInBounds_toArray,List.set_cons_zero,List.set_cons_succ,i64_w,i32_w]
    rfl
   refine one_ (i:=7) (N:=some 9) #[true,true,true,true,true,true,true,true,false] rfl rfl (by kernel_rfl) (by decide) (fun K hK=>?_)
   refine value_ (w1:=?_) (v:=?_) (by rfl) rfl ?_ ?_
   rotate_left 2
   ·go_simp
    constructor
    ·rfl
    ·rfl
   obtain ⟨bo,hbo⟩:∃ x,w4.heap.size=x:=⟨_,rfl⟩
   have KO:Aside0 (Blk (w4.alloc (.cells #[.int .u8 0,.int .u8 0,.int .u8 0,.int .u8 0,.int .u16 0,.bool false,.bool false,.bool false,.bool false,.bool false,.bool false,.slice none 0 0,.slice none 0 0,.slice none 0 0,.slice none 0 0,.bool false] 38)) w4.heap.size #[.int .u8 0,.int .u8 0,.int .u8 0,.int .u8 0,.int .u16 0,.bool false,.bool false,.bool false,.bool false,.bool false,.bool false,.slice none 0 0,.slice none 0 0,.slice none 0 0,.slice none 0 0,.bool false] 38):=⟨Blk.at rfl⟩
   have hob:w1.heap.size≤w4.heap.size:=hsz
   rw[hbo] at KO hob ⊢
   have hb:Below w4.heap.size w4 (w4.alloc (.cells #[.int .u8 0,.int .u8 0,.int .u8 0,.int .u8 0,.int .u16 0,.bool false,.bool false,.bool false,.bool false,.bool false,.bool false,.slice none 0 0,.slice none 0 0,.slice none 0 0,.slice none 0 0,.bool false] 38)):=blw
   replace K4:=Aside0.mk (K4.out.below hb)
   replace K5:=Aside0.mk (K5.out.below hb)
   replace HB:=Aside0.mk (HB.out.trans (hb.mono HB.out.size))
   (first|replace KL:=Aside0.mk (Kd.R_below KL.out hb)|skip)
   (first|replace KM:=Aside0.mk (Kd.R_below KM.out hb)|skip)
   replace hsz:=Nat.le_trans hsz hb.size
   clear hb hHeld hbo
   generalize w4.alloc (.cells #[.int .u8 0,.int .u8 0,.int .u8 0,.int .u8 0,.int .u16 0,.bool false,.bool false,.bool false,.bool false,.bool false,.bool false,.slice none 0 0,.slice none 0 0,.slice none 0 0,.slice none 0 0,.bool false] 38)=Wb at *
   refine hK.out _ _ ⟨(cpuAll K4.out).1,(cpuAll K4.out).2.1,(cpuAll K4.out).2.2.1,(cpuAll K4.out).2.2.2.1,(cpuAll K4.out).2.2.2.2.1,(cpuAll K4.out).2.2.2.2.2.1,(cpuAll K4.out).2.2.2.2.2.2.1,(cpuAll K4.out).2.2.2.2.2.2.2.1,(cpuAll K4.out).2.2.2.2.2.2.2.2.1,(cpuAll K4.out).2.2.2.2.2.2.2.2.2.1,(cpuAll K4.out).2.2.2.2.2.2.2.2.2.2,K5.out.one⟩ (fun hHeld=>?_)
   clear hK K
   refine norm_ (a':=?_) ?_ ?_
   rotate_left
   ·show Act.put _ (some 9) _=_
    simp only[Act.put,List.setIfInBounds_toArray,List.set_cons_zero,List.set_cons_succ,i64_w,i32_w]
    rfl
   have ol:=KO.out.lt
   have of:=KO.out.free
   obtain ⟨z0,z1,z2,z3,z4,z5,z6,z7,z8,z9,z10,z11,z12,z13,z14,z15⟩:=cells16 KO.out
   refine last_ (i:=8) (N:=none) #[true,true,true,true,true,true,true,true,true] rfl rfl (by kernel_rfl) (by decide) (fun K hK=>?_)
   refine skip_ (w1:=?_) (by rfl) rfl ?_ ?_
   rotate_left
   ·go_simp
    rfl
   refine hK.out _ _ ?_
   clear hK K
   refine done_ (by kernel_rfl) ?_
   refine ⟨_,_,_,_,_,_,_,_,⟨bo,A1,c1,rfl,⟨set16 KO.out,OwnB.move KM.out (fun k e=>?_),Kd.R_nil _ _ _ _ _,Kd.R_nil _ _ _ _ _,Kd.R_nil _ _ _ _ _,hob,?_⟩⟩,rfl⟩
   ·obtain ⟨x1,h1⟩:=Kd.R_typed KM.out k e
    have hkb:=blk_ne h1 KO.out (by decide)
    show Same _ _ k
    (repeat (with_reducible first|exact Same.refl _ _|refine Same.drew ?_|refine Same.set ?_ hkb))
   ·(repeat (with_reducible first|exact HB.out|refine below_drew ?_|refine Below.setCell ?_ hob _))
  ·skip
   refine value_ (w1:=?_) (v:=?_) (by rfl) rfl ?_ ?_
   rotate_left 2
   ·go_simp
    constructor
    ·rfl
    ·rfl
   obtain ⟨bo,hbo⟩:∃ x,Wa.heap.size=x:=⟨_,rfl⟩
   have KO:Aside0 (Blk (Wa.alloc (.cells #[.int .u8 0,.int .u8 0,.int .u8 0,.int .u8 0,.int .u16 0,.bool false,.bool false,.bool false,.bool false,.bool false,.bool false,.slice none 0 0,.slice none 0 0,.slice none 0 0,.slice none 0 0,.bool false] 38)) Wa.heap.size #[.int .u8 0,.int .u8 0,.int .u8 0,.int .u8 0,.int .u16 0,.bool false,.bool false,.bool false,.bool false,.bool false,.bool false,.slice none 0 0,.slice none 0 0,.slice none 0 0,.slice none 0 0,.bool false] 38):=⟨Blk.at rfl⟩
   have hob:w1.heap.size≤Wa.heap.size:=hsz
   rw[hbo] at KO hob ⊢
   have hb:Below Wa.heap.size Wa (Wa.alloc (.cells #[.int .u8 0,.int .u8 0,.int .u8 0,.int .u8 0,.int .u16 0,.bool false,.bool false,.bool false,.bool false,.bool false,.bool false,.slice none 0 0,.slice none 0 0,.slice none 0 0,.slice none 0 0,.bool false] 38)):=blw
   replace K4:=Aside0.mk (K4.out.below hb)
   replace K5:=Aside0.mk (K5.out.below hb)
   replace HB:=Aside0.mk (HB.out.trans (hb.mono HB.out.size))
   (first|replace KL:=Aside0.mk (Kd.R_below KL.out hb)|skip)
   (first|replace KM:=Aside0.mk (Kd.R_below KM.out hb)|skip)
   replace hsz:=Nat.le_trans hsz hb.size
   clear hb hHeld hbo
   generalize Wa.alloc (.cells #[.int .u8 0,.int .u8 0,.int .u8 0,.int .u8 0,.int .u16 0,.bool false,.bool false,.bool false,.bool false,.bool false,.bool false,.slice none 0 0,.slice none 0 0,.slice none 0 0,.slice none 0 0,.bool false] 38)=Wb at *
   refine hK.out _ _ ⟨(cpuAll K4.out).1,(cpuAll K4.out).2.1,(cpuAll K4.out).2.2.1,(cpuAll K4.out).2.2.2.1,(cpuAll K4.out).2.2.2.2.1,(cpuAll K4.out).2.2.2.2.2.1,(cpuAll K4.out).2.2.2.2.2.2.1,(cpuAll K4.out).2.2.2.2.2.2.2.1,(cpuAll K4.out).2.2.2.2.2.2.2.2.1,(cpuAll K4.out).2.2.2.2.2.2.2.2.2.1,(cpuAll K4.out).2.2.2.2.2.2.2.2.2.2,K5.out.one⟩ (fun hHeld=>?_)
   clear hK K
   refine norm_ (a':=?_) ?_ ?_
   rotate_left
   ·show Act.put _ (some 9) _=_
    simp only[Act.put,List.setIfInBounds_toArray,List.set_cons_zero,List.set_cons_succ,i64_w,i32_w]
    rfl
   refine one_ (i:=4) (N:=some 31) #[true,true,true,true,true,false,false,true,false] rfl rfl (by kernel_rfl) (by decide) (fun K hK=>?_)
   refine Kd.R_append_rows_step (Kd.int .u8) (Rr:=(Kd.int .u8).K w1) (w0:=w1) w1.heap.size (by rfl) (.tmp 28) (.tmp 30) 22 5 (.int .u8 0) 1 (by rfl) Tryz.underlying22 infoU8 rfl (by decide) (by decide) (.slice (some ⟨gl,0,none⟩) 0 0) [] l A l.length d (fun _=>True) (fun k=>some k ≠ (Value.slice (some ⟨gl,0,none⟩) 0 0).ownBlock) (by rfl) (by rfl) KL.out (Kd.C_below h.c HB.out) (fun _ _ hq=>hq) (fun _ hk=>⟨trivial,hk⟩) (fun _ _=>trivial) HB.out hsz (by simp;omega) ?_
   intro v4 w4 ho hb4 hg4 _
   rw[List.nil_append] at ho
   obtain ⟨A1,c1,e1,_,_⟩:=Kd.R_reads ho
   subst e1
   have KM:=Aside0.mk ho
   have hn4:some g4 ≠ (Value.slice (some ⟨gl,0,none⟩) 0 0).ownBlock:=fun e=>by have e2:g4=gl:=Option.some.inj e;omega
   have hn5:some g5 ≠ (Value.slice (some ⟨gl,0,none⟩) 0 0).ownBlock:=fun e=>by have e2:g5=gl:=Option.some.inj e;omega
   (first|replace KO:=Aside0.mk (Blk.grown KO.out hg4 (row_ne KL.out KO.out (by decide)))|skip)
   replace K4:=Aside0.mk (K4.out.grown hg4 hn4)
   replace K5:=Aside0.mk (K5.out.grown hg4 hn5)
   replace HB:=Aside0.mk hb4
   replace hsz:=Nat.le_trans hsz hg4.size
   clear hHeld KL ho hb4 hg4 hn4 hn5
   refine hK.out _ _ ⟨(cpuAll K4.out).1,(cpuAll K4.out).2.1,(cpuAll K4.out).2.2.1,(cpuAll K4.out).2.2.2.1,(cpuAll K4.out).2.2.2.2.1,(cpuAll K4.out).2.2.2.2.2.1,(cpuAll K4.out).2.2.2.2.2.2.1,(cpuAll K4.out).2.2.2.2.2.2.2.1,(cpuAll K4.out).2.2.2.2.2.2.2.2.1,(cpuAll K4.out).2.2.2.2.2.2.2.2.2.1,(cpuAll K4.out).2.2.2.2.2.2.2.2.2.2,K5.out.one⟩ (fun hHeld=>?_)
   clear hK K
   refine norm_ (a':=?_) ?_ ?_
   rotate_left
   ·show Act.put _ (some 31) _=_
    simp only[Act.put,List.setIfInBounds_toArray,List.set_cons_zero,List.set_cons_succ,i64_w,i32_w]
    rfl
   refine pure_ (i:=5) (N:=some 32) (v:=?_) (a':=?_) #[true,true,true,true,true,true,false,true,false] rfl rfl (by kernel_rfl) (fun _ _ _ h=>h) (Or.inl ⟨by rfl,?_⟩) ?_ ?_
   rotate_left
   ·intro w'
    go_simp
    with_reducible rfl
   rotate_left
   ·simp only[Act.put,List.setIfInBounds_toArray,List.set_cons_zero,List.set_cons_succ,i64_w,i32_w]
    rfl
   refine pure_ (i:=6) (N:=some 33) (v:=?_) (a':=?_) #[true,true,true,true,true,true,true,true,false] rfl rfl (by kernel_rfl) (fun _ _ _ h=>h) (Or.inl ⟨by rfl,?_⟩) ?_ ?_
   rotate_left
   ·intro w'
    go_simp
    with_reducible rfl
   rotate_left
   ·simp only[Act.put,List.setIfInBounds_toArray,List.set_cons_zero,List.set_cons_succ,i64_w,i32_w]
    rfl
   have ol:=KO.out.lt
   have of:=KO.out.free
   obtain ⟨z0,z1,z2,z3,z4,z5,z6,z7,z8,z9,z10,z11,z12,z13,z14,z15⟩:=cells16 KO.out
   refine last_ (i:=8) (N:=none) #[true,true,true,true,true,true,true,true,true] rfl rfl (by kernel_rfl) (by decide) (fun K hK=>?_)
   refine skip_ (w1:=?_) (by rfl) rfl ?_ ?_
   rotate_left
   ·go_simp
    rfl
   refine hK.out _ _ ?_
   clear hK K
   refine done_ (by kernel_rfl) ?_
   refine ⟨_,_,_,_,_,_,_,_,⟨bo,A1,c1,rfl,⟨set16 KO.out,OwnB.move KM.out (fun k e=>?_),Kd.R_nil _ _ _ _ _,Kd.R_nil _ _ _ _ _,Kd.R_nil _ _ _ _ _,hob,?_⟩⟩,rfl⟩
   ·obtain ⟨x1,h1⟩:=Kd.R_typed KM.out k e
    have hkb:=blk_ne h1 KO.out (by decide)
    show Same _ _ k
    (repeat (with_reducible first|exact Same.refl _ _|refine Same.drew ?_|refine Same.set ?_ hkb))
   ·(repeat (with_reducible first|exact HB.out|refine below_drew ?_|refine Below.setCell ?_ hob _))
 ·skip
  refine value_ (w1:=?_) (v:=?_) (by rfl) rfl ?_ ?_
  rotate_left 2
  ·go_simp
   constructor
   ·rfl
   ·rfl
  obtain ⟨bo,hbo⟩:∃ x,W.heap.size=x:=⟨_,rfl⟩
  have KO:Aside0 (Blk (W.alloc (.cells #[.int .u8 0,.int .u8 0,.int .u8 0,.int .u8 0,.int .u16 0,.bool false,.bool false,.bool false,.bool false,.bool false,.bool false,.slice none 0 0,.slice none 0 0,.slice none 0 0,.slice none 0 0,.bool false] 38)) W.heap.size #[.int .u8 0,.int .u8 0,.int .u8 0,.int .u8 0,.int .u16 0,.bool false,.bool false,.bool false,.bool false,.bool false,.bool false,.slice none 0 0,.slice none 0 0,.slice none 0 0,.slice none 0 0,.bool false] 38):=⟨Blk.at rfl⟩
  have hob:w1.heap.size≤W.heap.size:=hsz
  rw[hbo] at KO hob ⊢
  have hb:Below W.heap.size W (W.alloc (.cells #[.int .u8 0,.int .u8 0,.int .u8 0,.int .u8 0,.int .u16 0,.bool false,.bool false,.bool false,.bool false,.bool false,.bool false,.slice none 0 0,.slice none 0 0,.slice none 0 0,.slice none 0 0,.bool false] 38)):=blw
  replace K4:=Aside0.mk (K4.out.below hb)
  replace K5:=Aside0.mk (K5.out.below hb)
  replace HB:=Aside0.mk (HB.out.trans (hb.mono HB.out.size))
  (first|replace KL:=Aside0.mk (Kd.R_below KL.out hb)|skip)
  (first|replace KM:=Aside0.mk (Kd.R_below KM.out hb)|skip)
  replace hsz:=Nat.le_trans hsz hb.size
  clear hb hHeld hbo
  generalize W.alloc (.cells #[.int .u8 0,.int .u8 0,.int .u8 0,.int .u8 0,.int .u16 0,.bool false,.bool false,.bool false,.bool false,.bool false,.bool false,.slice none 0 0,.slice none 0 0,.slice none 0 0,.slice none 0 0,.bool false] 38)=Wa at *
  refine hK.out _ _ ⟨(cpuAll K4.out).1,(cpuAll K4.out).2.1,(cpuAll K4.out).2.2.1,(cpuAll K4.out).2.2.2.1,(cpuAll K4.out).2.2.2.2.1,(cpuAll K4.out).2.2.2.2.2.1,(cpuAll K4.out).2.2.2.2.2.2.1,(cpuAll K4.out).2.2.2.2.2.2.2.1,(cpuAll K4.out).2.2.2.2.2.2.2.2.1,(cpuAll K4.out).2.2.2.2.2.2.2.2.2.1,(cpuAll K4.out).2.2.2.2.2.2.2.2.2.2,K5.out.one⟩ (fun hHeld=>?_)
  clear hK K
  refine norm_ (a':=?_) ?_ ?_
  rotate_left
  ·show Act.put _ (some 9) _=_
   simp only[Act.put,List.setIfInBounds_toArray,List.set_cons_zero,List.set_cons_succ,i64_w,i32_w]
   rfl
  refine one_ (i:=1) (N:=some 28) #[true,true,true,true,false,false,false,true,false] rfl rfl (by kernel_rfl) (by decide) (fun K hK=>?_)
  refine value_ (w1:=?_) (v:=?_) (by rfl) rfl ?_ ?_
  rotate_left 2
  ·go_simp
   constructor
   ·rfl
   ·rfl
  have hlb:w1.heap.size≤Wa.heap.size:=hsz
  obtain ⟨gl,hgl⟩:∃ x,Wa.heap.size=x:=⟨_,rfl⟩
  have KL:Aside0 ((Kd.int .u8).R 5 (Wa.alloc (.cells #[] 5)) w1.heap.size (fun _=>True) (.slice (some ⟨Wa.heap.size,0,none⟩) 0 0) []):=⟨R_lit0 _ _ _ _ hsz⟩
  rw[hgl] at KL hlb ⊢
  have hb:Below Wa.heap.size Wa (Wa.alloc (.cells #[] 5)):=blw
  replace K4:=Aside0.mk (K4.out.below hb)
  replace K5:=Aside0.mk (K5.out.below hb)
  replace HB:=Aside0.mk (HB.out.trans (hb.mono HB.out.size))
  (first|replace KO:=Aside0.mk (KO.out.below hb)|skip)
  replace hsz:=Nat.le_trans hsz hb.size
  clear hb hHeld hgl
  generalize Wa.alloc (.cells #[] 5)=Wb at *
  refine hK.out _ _ ⟨(cpuAll K4.out).1,(cpuAll K4.out).2.1,(cpuAll K4.out).2.2.1,(cpuAll K4.out).2.2.2.1,(cpuAll K4.out).2.2.2.2.1,(cpuAll K4.out).2.2.2.2.2.1,(cpuAll K4.out).2.2.2.2.2.2.1,(cpuAll K4.out).2.2.2.2.2.2.2.1,(cpuAll K4.out).2.2.2.2.2.2.2.2.1,(cpuAll K4.out).2.2.2.2.2.2.2.2.2.1,(cpuAll K4.out).2.2.2.2.2.2.2.2.2.2,K5.out.one⟩ (fun hHeld=>?_)
  clear hK K
  refine norm_ (a':=?_) ?_ ?_
  rotate_left
  ·show Act.put _ (some 28) _=_
   simp only[Act.put,List.setIfInBounds_toArray,List.set_cons_zero,List.set_cons_succ,i64_w,i32_w]
   rfl
  refine one_ (i:=4) (N:=some 31) #[true,true,true,true,true,false,false,true,false] rfl rfl (by kernel_rfl) (by decide) (fun K hK=>?_)
  refine Kd.R_append_rows_step (Kd.int .u8) (Rr:=(Kd.int .u8).K w1) (w0:=w1) w1.heap.size (by rfl) (.tmp 28) (.tmp 30) 22 5 (.int .u8 0) 1 (by rfl) Tryz.underlying22 infoU8 rfl (by decide) (by decide) (.slice (some ⟨gl,0,none⟩) 0 0) [] l A l.length d (fun _=>True) (fun k=>some k ≠ (Value.slice (some ⟨gl,0,none⟩) 0 0).ownBlock) (by rfl) (by rfl) KL.out (Kd.C_below h.c HB.out) (fun _ _ hq=>hq) (fun _ hk=>⟨trivial,hk⟩) (fun _ _=>trivial) HB.out hsz (by simp;omega) ?_
  intro v4 w4 ho hb4 hg4 _
  rw[List.nil_append] at ho
  obtain ⟨A1,c1,e1,_,_⟩:=Kd.R_reads ho
  subst e1
  have KM:=Aside0.mk ho
  have hn4:some g4 ≠ (Value.slice (some ⟨gl,0,none⟩) 0 0).ownBlock:=fun e=>by have e2:g4=gl:=Option.some.inj e;omega
  have hn5:some g5 ≠ (Value.slice (some ⟨gl,0,none⟩) 0 0).ownBlock:=fun e=>by have e2:g5=gl:=Option.some.inj e;omega
  (first|replace KO:=Aside0.mk (Blk.grown KO.out hg4 (row_ne KL.out KO.out (by decide)))|skip)
  replace K4:=Aside0.mk (K4.out.grown hg4 hn4)
  replace K5:=Aside0.mk (K5.out.grown hg4 hn5)
  replace HB:=Aside0.mk hb4
  replace hsz:=Nat.le_trans hsz hg4.size
  clear hHeld KL ho hb4 hg4 hn4 hn5
  refine hK.out _ _ ⟨(cpuAll K4.out).1,(cpuAll K4.out).2.1,(cpuAll K4.out).2.2.1,(cpuAll K4.out).2.2.2.1,(cpuAll K4.out).2.2.2.2.1,(cpuAll K4.out).2.2.2.2.2.1,(cpuAll K4.out).2.2.2.2.2.2.1,(cpuAll K4.out).2.2.2.2.2.2.2.1,(cpuAll K4.out).2.2.2.2.2.2.2.2.1,(cpuAll K4.out).2.2.2.2.2.2.2.2.2.1,(cpuAll K4.out).2.2.2.2.2.2.2.2.2.2,K5.out.one⟩ (fun hHeld=>?_)
  clear hK K
  refine norm_ (a':=?_) ?_ ?_
  rotate_left
  ·show Act.put _ (some 31) _=_
   simp only[Act.put,List.setIfInBounds_toArray,List.set_cons_zero,List.set_cons_succ,i64_w,i32_w]
   rfl
  refine pure_ (i:=5) (N:=some 32) (v:=?_) (a':=?_) #[true,true,true,true,true,true,false,true,false] rfl rfl (by kernel_rfl) (fun _ _ _ h=>h) (Or.inl ⟨by rfl,?_⟩) ?_ ?_
  rotate_left
  ·intro w'
   go_simp
   with_reducible rfl
  rotate_left
  ·simp only[Act.put,List.setIfInBounds_toArray,List.set_cons_zero,List.set_cons_succ,i64_w,i32_w]
   rfl
  refine pure_ (i:=6) (N:=some 33) (v:=?_) (a':=?_) #[true,true,true,true,true,true,true,true,false] rfl rfl (by kernel_rfl) (fun _ _ _ h=>h) (Or.inl ⟨by rfl,?_⟩) ?_ ?_
  rotate_left
  ·intro w'
   go_simp
   with_reducible rfl
  rotate_left
  ·simp only[Act.put,List.setIfInBounds_toArray,List.set_cons_zero,List.set_cons_succ,i64_w,i32_w]
   rfl
  have ol:=KO.out.lt
  have of:=KO.out.free
  obtain ⟨z0,z1,z2,z3,z4,z5,z6,z7,z8,z9,z10,z11,z12,z13,z14,z15⟩:=cells16 KO.out
  refine last_ (i:=8) (N:=none) #[true,true,true,true,true,true,true,true,true] rfl rfl (by kernel_rfl) (by decide) (fun K hK=>?_)
  refine skip_ (w1:=?_) (by rfl) rfl ?_ ?_
  rotate_left
  ·go_simp
   rfl
  refine hK.out _ _ ?_
  clear hK K
  refine done_ (by kernel_rfl) ?_
  refine ⟨_,_,_,_,_,_,_,_,⟨bo,A1,c1,rfl,⟨set16 KO.out,OwnB.move KM.out (fun k e=>?_),Kd.R_nil _ _ _ _ _,Kd.R_nil _ _ _ _ _,Kd.R_nil _ _ _ _ _,hob,?_⟩⟩,rfl⟩
  ·obtain ⟨x1,h1⟩:=Kd.R_typed KM.out k e
   have hkb:=blk_ne h1 KO.out (by decide)
   show Same _ _ k
   (repeat (with_reducible first|exact Same.refl _ _|refine Same.drew ?_|refine Same.set ?_ hkb))
  ·(repeat (with_reducible first|exact HB.out|refine below_drew ?_|refine Below.setCell ?_ hob _))
end Go.Proofs.YtoncmhfmkfeolaaGreatDoor
