/- The program's machine in the midst of a run: beside it the rows of starts and processors, and the variable that they go to. -/
import Derived.Test.YtoncmhfmkfeolaaGreatDoorGM
import Derived.Test.YtoncmhfmkfeolaaGreatDoorGN
import Derived.Test.YtoncmhfmkfeolaaGreatDoorWLast
import Derived.Deep.RegionHeld3
import Derived.BigQuiet
import Derived.Test.YtoncmhfmkfeolaaGreatDoorGD
import Derived.Test.YtoncmhfmkfeolaaGreatDoorGI
set_option maxRecDepth 100000
set_option maxHeartbeats 8000000
set_option linter.unusedVariables false
set_option linter.unusedSimpArgs false
namespace Go.Proofs.YtoncmhfmkfeolaaGreatDoor
open Go.RowKit Go.Proofs.YtoncmhfmkfeolaaGreatDoorW.PrintWords
structure RunAt (w0 w:World) (L:Lay) (v:Value) (g:Nat) (r:Rs) (n:Nat) (us up vs vp:Value) (j:Bool):Prop where
 hold:HoldM w L v r.c ⟨r.m,r.t⟩ n
 out:Blk w g #[.int .u8 0,.int .u8 0,.int .u8 0,.int .u8 0,.int .u16 0,.bool false,.bool false,.bool false,.bool false,.bool false,.bool false,.slice none 0 0,.slice none 0 0,us,up,.bool j] 38
 st:OwnI w L.base vs r.st
 cs:OwnP w L.base vp r.cs
 hg:L.base≤g
 below:Below L.base w0 w
section
variable {w0 w w':World} {L:Lay} {v v':Value} {g:Nat} {r:Rs} {n:Nat} {us up vs vp:Value} {j:Bool}
theorem OwnI.keep {base:Nat} {l:List Int} (h:OwnI w base vs l) (hm:∀ k,vs.ownBlock=some k→w'.heap[k]?=w.heap[k]?):OwnI w' base vs l:=R_only (d:=Kd.int .i64) (w:=w) (fun h=>h) h hm
theorem OwnP.keep {base:Nat} {l:List Cpu} (h:OwnP w base vp l) (hm:∀ k,vp.ownBlock=some k→w'.heap[k]?=w.heap[k]?):OwnP w' base vp l:=R_only (d:=cpuK) (w:=w) (fun h=>h) h hm
theorem RunAt.size (h:RunAt w0 w L v g r n us up vs vp j):L.base≤w.heap.size:=h.hold.size
theorem RunAt.wait (h:RunAt w0 w L v g r n us up vs vp j) (hb:Below w.heap.size w w'):RunAt w0 w' L v g r n us up vs vp j :=
 ⟨h.hold.below hb,h.out.below hb,h.st.below hb,h.cs.below hb,h.hg,h.below.trans (hb.mono h.size)⟩
theorem RunAt.facts (h:RunAt w0 w L v g r n us up vs vp j):FactsM w L v r.c ⟨r.m,r.t⟩:=h.hold.facts
theorem RunAt.outOther (h:RunAt w0 w L v g r n us up vs vp j):g ≠ L.g∧g ≠ L.r∧some g ≠ v.ownBlock:=Hold.other h.hold h.out (by decide) (by decide) (by decide)
theorem RunAt.move (h:RunAt w0 w L v g r n us up vs vp j) {c':Cpu} {m':List Int} {t':List Cyc} {k:Nat} (H:HoldM w' L v' c' ⟨m',t'⟩ k) (M:Mv w w' L v v') :
  RunAt w0 w' L v' g ⟨c',m',t',r.st,r.cs,r.jam⟩ k us up vs vp j:=by
 have ho:=h.outOther
 refine ⟨H,(M.keep g h.out.lt ho.1 ho.2.1 ho.2.2).trans h.out,h.st.keep (fun k hk=>?_),h.cs.keep (fun k hk=>?_),h.hg,h.below.trans M.below⟩
 ·obtain ⟨c1,h1⟩:=Kd.R_typed h.st k hk
  have ho:=Hold.other h.hold h1 (by decide) (by decide) (by decide)
  exact M.keep k (blk_lt h1) ho.1 ho.2.1 ho.2.2
 ·obtain ⟨c1,h1⟩:=Kd.R_typed h.cs k hk
  have ho:=Hold.other h.hold h1 (by decide) (by decide) (by decide)
  exact M.keep k (blk_lt h1) ho.1 ho.2.1 ho.2.2
theorem RunAt.jamTo (h:RunAt w0 w L v g r n us up vs vp j) (x:Bool):RunAt w0 w L v g { r with jam:=x } n us up vs vp j:=⟨h.hold,h.out,h.st,h.cs,h.hg,h.below⟩
theorem RunAt.raise (h:RunAt w0 w L v g r n us up vs vp j) {m:Nat} (hm:n≤m):RunAt w0 w L v g r m us up vs vp j:=⟨HoldM.mono h.hold hm,h.out,h.st,h.cs,h.hg,h.below⟩
theorem RunAt.put (h:RunAt w0 w L v g r n us up vs vp j) (i:Nat) (u:Value) {us' up':Value} {j':Bool}
  (hi:(#[.int .u8 0,.int .u8 0,.int .u8 0,.int .u8 0,.int .u16 0,.bool false,.bool false,.bool false,.bool false,.bool false,.bool false,.slice none 0 0,.slice none 0 0,us,up,.bool j]:Array Value).setIfInBounds i u=#[.int .u8 0,.int .u8 0,.int .u8 0,.int .u8 0,.int .u16 0,.bool false,.bool false,.bool false,.bool false,.bool false,.bool false,.slice none 0 0,.slice none 0 0,us',up',.bool j']) :
  RunAt w0 (w.setCell ⟨g,i,none⟩ u) L v g r n us' up' vs vp j':=by
 have ho:=h.outOther
 refine ⟨Hold.far h.hold (p:=⟨g,i,none⟩) ho u,?_,h.st.keep (fun k hk=>?_),h.cs.keep (fun k hk=>?_),h.hg,h.below.setCell (p:=⟨g,i,none⟩) h.hg u⟩
 ·have:=blk_set h.out i u
  rw[hi] at this
  exact this
 ·obtain ⟨c1,h1⟩:=Kd.R_typed h.st k hk
  exact set_block _ _ _ _ _ (blk_ne h1 h.out (by decide))
 ·obtain ⟨c1,h1⟩:=Kd.R_typed h.cs k hk
  exact set_block _ _ _ _ _ (blk_ne h1 h.out (by decide))
theorem RunAt.putS (h:RunAt w0 w L v g r n us up vs vp j) (u:Value):RunAt w0 (w.setCell ⟨g,13,none⟩ u) L v g r n u up vs vp j:=h.put 13 u rfl
theorem RunAt.putP (h:RunAt w0 w L v g r n us up vs vp j) (u:Value):RunAt w0 (w.setCell ⟨g,14,none⟩ u) L v g r n us u vs vp j:=h.put 14 u rfl
theorem RunAt.putJ (h:RunAt w0 w L v g r n us up vs vp j) (q:Bool):RunAt w0 (w.setCell ⟨g,15,none⟩ (.bool q)) L v g r n us up vs vp q:=h.put 15 (.bool q) rfl
theorem row_ne {W:World} {base e t k0:Nat} {α:Type} {d:Kd α} {u:Value} {l:List α} {cells:Array Value} {ok:Nat→Prop} (h:d.R e W base ok u l) (hk:W.heap[k0]?=some (.cells cells t (0,0))) (ht:t ≠ e):some k0 ≠ u.ownBlock:=fun he=>by
 obtain ⟨c1,h1⟩:=Kd.R_typed h k0 he.symm
 exact blk_ne hk h1 ht rfl
theorem RunAt.appS (h:RunAt w0 w L v g r n us up vs vp j) {x:Int} {v1:Value} (ho:(Kd.int .i64).R 3 w' L.base (fun _=>True) v1 (r.st++[x])) (hg:w.grownBy w' vs.ownBlock) :
  RunAt w0 w' L v g ⟨r.c,r.m,r.t,r.st++[x],r.cs,r.jam⟩ n us up v1 vp j:=by
 refine ⟨Hold.grown h.hold hg (row_ne h.st h.hold.blk (by decide)) ?_ (fun k hk=>?_),(hg.block _ h.out.lt (row_ne h.st h.out (by decide))).trans h.out,ho,h.cs.keep (fun k hk=>?_),h.hg,h.below.grown hg h.size (fun k hk=>Kd.R_base h.st k hk)⟩
 ·obtain ⟨c1,h1⟩:=Kd.R_typed h.hold.mem L.r rfl
  exact row_ne h.st h1 (by decide)
 ·obtain ⟨c1,h1⟩:=Kd.R_typed h.hold.log k hk
  exact row_ne h.st h1 (by decide)
 ·obtain ⟨c1,h1⟩:=Kd.R_typed h.cs k hk
  exact hg.block _ (blk_lt h1) (row_ne h.st h1 (by decide))
theorem RunAt.appP (h:RunAt w0 w L v g r n us up vs vp j) {x:Cpu} {v1:Value} (ho:cpuK.R 28 w' L.base (fun _=>True) v1 (r.cs++[x])) (hg:w.grownBy w' vp.ownBlock) :
  RunAt w0 w' L v g ⟨r.c,r.m,r.t,r.st,r.cs++[x],r.jam⟩ n us up vs v1 j:=by
 refine ⟨Hold.grown h.hold hg (row_ne h.cs h.hold.blk (by decide)) ?_ (fun k hk=>?_),(hg.block _ h.out.lt (row_ne h.cs h.out (by decide))).trans h.out,h.st.keep (fun k hk=>?_),ho,h.hg,h.below.grown hg h.size (fun k hk=>Kd.R_base h.cs k hk)⟩
 ·obtain ⟨c1,h1⟩:=Kd.R_typed h.hold.mem L.r rfl
  exact row_ne h.cs h1 (by decide)
 ·obtain ⟨c1,h1⟩:=Kd.R_typed h.hold.log k hk
  exact row_ne h.cs h1 (by decide)
 ·obtain ⟨c1,h1⟩:=Kd.R_typed h.st k hk
  exact hg.block _ (blk_lt h1) (row_ne h.cs h1 (by decide))
theorem RunAt.outFacts (h:RunAt w0 w L v g r n us up vs vp j):(∀ i,w.cell? ⟨g,i,none⟩=(#[.int .u8 0,.int .u8 0,.int .u8 0,.int .u8 0,.int .u16 0,.bool false,.bool false,.bool false,.bool false,.bool false,.bool false,.slice none 0 0,.slice none 0 0,us,up,.bool j]:Array Value)[i]?)∧(∀ i,w.frozen? ⟨g,i,none⟩=false)∧g<w.heap.size:=⟨fun i=>blk_cell h.out i,fun i=>blk_frozen h.out i,h.out.lt⟩
end
def vAt (w:World) (b i:Nat):Value:=(w.cell? ⟨b,i,none⟩).getD (.bool false)
theorem vAt_of {w:World} {b i:Nat} {u:Value} (h:w.cell? ⟨b,i,none⟩=some u):vAt w b i=u:=by unfold vAt;rw[h];rfl
theorem vAt_held {w:World} {b i:Nat} {u:Value} (h:w.cell? ⟨b,i,none⟩=some u):w.cell? ⟨b,i,none⟩=some (vAt w b i):=by rw[vAt_of h];exact h
theorem RunAt.vat {w0 w:World} {L:Lay} {v:Value} {g:Nat} {r:Rs} {n:Nat} {us up vs vp:Value} {j:Bool} (h:RunAt w0 w L v g r n us up vs vp j):w.frozen? ⟨g,13,none⟩=false∧w.frozen? ⟨g,14,none⟩=false∧w.cell? ⟨g,13,none⟩=some (vAt w g 13)∧w.cell? ⟨g,14,none⟩=some (vAt w g 14) :=
 ⟨blk_frozen h.out 13,blk_frozen h.out 14,vAt_held (u:=us) (blk_cell h.out 13),vAt_held (u:=up) (blk_cell h.out 14)⟩
theorem cpuAll {w:World} {g:Nat} {c:Cpu} {t:TypeId} (h:Blk w g #[.int .u8 c.A,.int .u8 c.X,.int .u8 c.Y,.int .u8 c.S,.int .u16 c.PC,.bool c.F.N,.bool c.F.V,.bool c.F.D,.bool c.F.I,.bool c.F.Z,.bool c.F.C] t):w.cell? ⟨g,0,none⟩=some (.int .u8 c.A)∧w.cell? ⟨g,1,none⟩=some (.int .u8 c.X)∧w.cell? ⟨g,2,none⟩=some (.int .u8 c.Y)∧w.cell? ⟨g,3,none⟩=some (.int .u8 c.S)∧w.cell? ⟨g,4,none⟩=some (.int .u16 c.PC)∧w.cell? ⟨g,5,none⟩=some (.bool c.F.N)∧w.cell? ⟨g,6,none⟩=some (.bool c.F.V)∧w.cell? ⟨g,7,none⟩=some (.bool c.F.D)∧w.cell? ⟨g,8,none⟩=some (.bool c.F.I)∧w.cell? ⟨g,9,none⟩=some (.bool c.F.Z)∧w.cell? ⟨g,10,none⟩=some (.bool c.F.C) :=
 ⟨h.cell 0,h.cell 1,h.cell 2,h.cell 3,h.cell 4,h.cell 5,h.cell 6,h.cell 7,h.cell 8,h.cell 9,h.cell 10⟩
end Go.Proofs.YtoncmhfmkfeolaaGreatDoor
namespace Go.Proofs.YtoncmhfmkfeolaaGreatDoor
open Go.RowKit Go.Proofs.YtoncmhfmkfeolaaGreatDoorW.PrintWords Go.Proofs.YtoncmhfmkfeolaaGreatDoorW.PrintLast
def regOf (n:Nat):Code→Option Code
 | .region id ops b=>if id=n then some (.region id ops b) else none
 | .seq a b=>match regOf n a with
  | some c=>some c
  | none=>regOf n b
 | .cond _ a b=>match regOf n a with
  | some c=>some c
  | none=>regOf n b
 | .block _ c=>regOf n c
 | .loop c=>regOf n c
 | .scope c=>regOf n c
 | _=>none
theorem runReg16 (c0:Cpu) (x:Int) (gb b base g r cap m:Nat) (w1 w8:World) (v' us up:Value) (q:Rs) (j:Bool) (HQ:Aside0 (RunAt w1 w8 ⟨base,g,r,cap⟩ v' b q m us up us up j)) (KB:Aside0 (Blk w8 gb #[.int .u8 c0.A,.int .u8 c0.X,.int .u8 c0.Y,.int .u8 c0.S,.int .u16 c0.PC,.bool c0.F.N,.bool c0.F.V,.bool c0.F.D,.bool c0.F.I,.bool c0.F.Z,.bool c0.F.C] 28)) (hup:some gb ≠ up.ownBlock) (hgb:gb<w8.heap.size)
  (hst1:(q.st.length+1)*8≤140737488355328) (hcs1:(q.cs.length+1)*12≤140737488355328)
  (s0 s1 s2 s3 s4 s5 s6 s7 s8 s9 s11 s14 s15 s16 s17 s18 s19 s20 s21 s22 s23 s24 s25 s26 s27 s28 s29 s30 s31 s32 s33 s34 s35 s36 s37 s38 s39 s40 s41 s42 s43 s44 s45 s46 s47 s48 s49 s50 s51 s52 s53 s54 s55 s56 s57 s58 s59 s60 s61 s62 s63 s64 s65 s66 s67 s68 s69 s70 s71 s72 s73 s74 s75 s76 s77 s78 s79 s80 s81 s82 s83 s84 s85 s86 s87 s88 s89 s90 s91 s92 s93 s94 s95 s96 s97 s98 s99 s100 s101 s102 s103 s104 s105 s106 s107 s108 s109 s110 s111 s112 s113 s114:Value) :
  Code.wp Tryz.prog ((Tryz.f11.body.bind (regOf 16)).getD .skip) (fun e a' w'=>e=.normal∧∃ u86 u87 u88 u89 u90 u91 u92 u93 u94 u95 u96 u97,(∃ v9 v10,RunAt w1 w' ⟨base,g,r,cap⟩ v' b ⟨q.c,q.m,q.t,q.st++[x],q.cs++[c0],q.jam⟩ m v9 v10 v9 v10 j)∧a'=⟨List.toArray (s0::s1::s2::s3::s4::s5::s6::s7::s8::s9::.pointer (some ⟨b,0,none⟩)::s11::.int .i64 x::.pointer (some ⟨gb,0,none⟩)::s14::s15::s16::s17::s18::s19::s20::s21::s22::s23::s24::s25::s26::s27::s28::s29::s30::s31::s32::s33::s34::s35::s36::s37::s38::s39::s40::s41::s42::s43::s44::s45::s46::s47::s48::s49::s50::s51::s52::s53::s54::s55::s56::s57::s58::s59::s60::s61::s62::s63::s64::s65::s66::s67::s68::s69::s70::s71::s72::s73::s74::s75::s76::s77::s78::s79::s80::s81::s82::s83::s84::s85::u86::u87::u88::u89::u90::u91::u92::u93::u94::u95::u96::u97::s98::s99::s100::s101::s102::s103::s104::s105::s106::s107::s108::s109::s110::s111::s112::s113::s114::[]),[]⟩) ⟨List.toArray (s0::s1::s2::s3::s4::s5::s6::s7::s8::s9::.pointer (some ⟨b,0,none⟩)::s11::.int .i64 x::.pointer (some ⟨gb,0,none⟩)::s14::s15::s16::s17::s18::s19::s20::s21::s22::s23::s24::s25::s26::s27::s28::s29::s30::s31::s32::s33::s34::s35::s36::s37::s38::s39::s40::s41::s42::s43::s44::s45::s46::s47::s48::s49::s50::s51::s52::s53::s54::s55::s56::s57::s58::s59::s60::s61::s62::s63::s64::s65::s66::s67::s68::s69::s70::s71::s72::s73::s74::s75::s76::s77::s78::s79::s80::s81::s82::s83::s84::s85::s86::s87::s88::s89::s90::s91::s92::s93::s94::s95::s96::s97::s98::s99::s100::s101::s102::s103::s104::s105::s106::s107::s108::s109::s110::s111::s112::s113::s114::[]),[]⟩ w8:=by
 conv=>arg 2;whnf
 refine start_ (n:=14) (S:=fun w'=>w'.cell? ⟨b,13,none⟩=some us∧w'.cell? ⟨b,14,none⟩=some up∧w'.cell? ⟨gb,0,none⟩=some (.int .u8 c0.A)∧w'.cell? ⟨gb,1,none⟩=some (.int .u8 c0.X)∧w'.cell? ⟨gb,2,none⟩=some (.int .u8 c0.Y)∧w'.cell? ⟨gb,3,none⟩=some (.int .u8 c0.S)∧w'.cell? ⟨gb,4,none⟩=some (.int .u16 c0.PC)∧w'.cell? ⟨gb,5,none⟩=some (.bool c0.F.N)∧w'.cell? ⟨gb,6,none⟩=some (.bool c0.F.V)∧w'.cell? ⟨gb,7,none⟩=some (.bool c0.F.D)∧w'.cell? ⟨gb,8,none⟩=some (.bool c0.F.I)∧w'.cell? ⟨gb,9,none⟩=some (.bool c0.F.Z)∧w'.cell? ⟨gb,10,none⟩=some (.bool c0.F.C)) (ds:=[11,13]) #[false,false,false,false,false,false,false,false,false,false,false,false,false,false] (by kernel_rfl) rfl rfl ?_ (fun hHeld=>?_)
 ·exact ⟨(HQ.out.wait (below_drew1 (Below.refl _ _))).outFacts.1 13,(HQ.out.wait (below_drew1 (Below.refl _ _))).outFacts.1 14,cpuAll (KB.out.below (below_drew1 (Below.refl _ _)))⟩
 replace HQ:=Aside0.mk (HQ.out.wait (below_drew1 (Below.refl _ _)))
 replace KB:=Aside0.mk (KB.out.below (below_drew1 (Below.refl _ _)))
 replace hgb:gb<w8.drew.heap.size:=hgb
 generalize w8.drew=W at *
 refine pure_ (i:=0) (N:=some 86) (v:=?_) (a':=?_) #[true,false,false,false,false,false,false,false,false,false,false,false,false,false] rfl rfl (by kernel_rfl) (fun _ _ _ h=>by cases h.1) (Or.inl ⟨by rfl,?_⟩) ?_ ?_
 rotate_left
 ·intro w'
  go_simp
  with_reducible rfl
 rotate_left
 ·simp only[Act.put,List.setIfInBounds_toArray,List.set_cons_zero,List.set_cons_succ,i64_w,i32_w]
  rfl
 refine pure_ (i:=2) (N:=some 88) (v:=?_) (a':=?_) #[true,false,true,false,false,false,false,false,false,false,false,false,false,false] rfl rfl (by kernel_rfl) (fun _ _ _ h=>by cases h.1) (Or.inl ⟨by rfl,?_⟩) ?_ ?_
 rotate_left
 ·intro w'
  go_simp
  with_reducible rfl
 rotate_left
 ·simp only[Act.put,List.setIfInBounds_toArray,List.set_cons_zero,List.set_cons_succ,i64_w,i32_w]
  rfl
 refine pure_ (i:=5) (N:=some 91) (v:=?_) (a':=?_) #[true,false,true,false,false,true,false,false,false,false,false,false,false,false] rfl rfl (by kernel_rfl) (fun _ _ _ h=>by cases h.1) (Or.inl ⟨by rfl,?_⟩) ?_ ?_
 rotate_left
 ·intro w'
  go_simp
  with_reducible rfl
 rotate_left
 ·simp only[Act.put,List.setIfInBounds_toArray,List.set_cons_zero,List.set_cons_succ,i64_w,i32_w]
  rfl
 refine take_ (i:=1) (N:=some 87) (v:=?_) (a':=?_) #[true,true,true,false,false,true,false,false,false,false,false,false,false,false] rfl rfl (by kernel_rfl) (fun _ _ _ h=>by cases h.1) (Or.inl ⟨by rfl,?_⟩) hHeld ?_ ?_
 rotate_left
 ·rintro w' ⟨s0',s1',s2',s3',s4',s5',s6',s7',s8',s9',s10',s11',s12'⟩
  go_simp
  with_reducible rfl
 rotate_left
 ·simp only[Act.put,List.setIfInBounds_toArray,List.set_cons_zero,List.set_cons_succ,i64_w,i32_w]
  rfl
 refine take_ (i:=6) (N:=some 92) (v:=?_) (a':=?_) #[true,true,true,false,false,true,true,false,false,false,false,false,false,false] rfl rfl (by kernel_rfl) (fun _ _ _ h=>by cases h.1) (Or.inl ⟨by rfl,?_⟩) hHeld ?_ ?_
 rotate_left
 ·rintro w' ⟨s0',s1',s2',s3',s4',s5',s6',s7',s8',s9',s10',s11',s12'⟩
  go_simp
  with_reducible rfl
 rotate_left
 ·simp only[Act.put,List.setIfInBounds_toArray,List.set_cons_zero,List.set_cons_succ,i64_w,i32_w]
  rfl
 refine take_ (i:=7) (N:=some 93) (v:=?_) (a':=?_) #[true,true,true,false,false,true,true,true,false,false,false,false,false,false] rfl rfl (by kernel_rfl) (fun _ _ _ h=>by cases h.1) (Or.inl ⟨by rfl,?_⟩) hHeld ?_ ?_
 rotate_left
 ·rintro w' ⟨s0',s1',s2',s3',s4',s5',s6',s7',s8',s9',s10',s11',s12'⟩
  go_simp
  with_reducible rfl
 rotate_left
 ·simp only[Act.put,List.setIfInBounds_toArray,List.set_cons_zero,List.set_cons_succ,i64_w,i32_w]
  rfl
 refine two_ (i:=3) (j:=8) (Ni:=some 89) (Nj:=some 94) #[true,true,true,true,false,true,true,true,false,false,false,false,false,false] #[true,true,true,false,false,true,true,true,true,false,false,false,false,false] rfl rfl rfl rfl (by kernel_rfl) (by decide) (by decide) (fun K hK=>?_) (fun K hK=>?_)
 ·skip
  refine value_ (w1:=?_) (v:=?_) (by rfl) rfl ?_ ?_
  rotate_left 2
  ·go_simp
   constructor
   ·rfl
   ·rfl
  have hb:Below W.heap.size W (W.alloc (.cells #[.int .i64 x] 3)):=blw
  have KX1:Aside0 (Blk (W.alloc (.cells #[.int .i64 x] 3)) W.heap.size #[.int .i64 x] 3):=⟨Blk.at rfl⟩
  replace HQ:=Aside0.mk (HQ.out.wait hb)
  replace KB:=Aside0.mk (KB.out.below hb)
  (first|replace KX2:=Aside0.mk (KX2.out.below hb)|skip)
  have hg0:=hb.size
  replace hgb:=Nat.lt_of_lt_of_le hgb hg0
  clear hb hg0 hHeld
  generalize W.alloc (.cells #[.int .i64 x] 3)=Wa at *
  refine hK.out _ _ ⟨HQ.out.outFacts.1 13,HQ.out.outFacts.1 14,cpuAll KB.out⟩ (fun hHeld=>?_)
  clear hK K
  refine norm_ (a':=?_) ?_ ?_
  rotate_left
  ·show Act.put _ (some 89) _=_
   simp only[Act.put,List.setIfInBounds_toArray,List.set_cons_zero,List.set_cons_succ,i64_w,i32_w]
   rfl
  refine two_ (i:=4) (j:=8) (Ni:=some 90) (Nj:=some 94) #[true,true,true,true,true,true,true,true,false,false,false,false,false,false] #[true,true,true,true,false,true,true,true,true,false,false,false,false,false] rfl rfl rfl rfl (by kernel_rfl) (by decide) (by decide) (fun K hK=>?_) (fun K hK=>?_)
  ·skip
   refine R_append_lies (Kd.int .i64) (by rfl) (.tmp 87) (.tmp 89) 35 (by rfl) base 3 (.int .i64 0) 8 Tryz.underlying35 infoInt rfl (by decide) (by decide) us q.st x [.int .i64 x] (fun k=>some k ≠ us.ownBlock) _ (by rfl) rfl KX1.out rfl (fun _ hk=>⟨trivial,hk⟩) HQ.out.st HQ.out.size hst1 ?_
   intro v9 w9 ho9 hg9 _
   have KB9:=Aside0.mk (Blk.grown KB.out hg9 (row_ne HQ.out.st KB.out (by decide)))
   (first|(have KX9:=Aside0.mk (Blk.grown KX2.out hg9 (row_ne HQ.out.st KX2.out (by decide))))|skip)
   have HQ9:=Aside0.mk (RunAt.appS HQ.out ho9 hg9)
   replace hgb:=Nat.lt_of_lt_of_le hgb hg9.size
   clear hHeld ho9 hg9 HQ KB KX1
   (first|clear KX2|skip)
   have HQ:=HQ9
   have KB:=KB9
   (first|have KX2:=KX9|skip)
   clear HQ9 KB9
   (first|clear KX9|skip)
   skip
   refine hK.out _ _ ⟨HQ.out.outFacts.1 13,HQ.out.outFacts.1 14,cpuAll KB.out⟩ (fun hHeld=>?_)
   clear hK K
   refine norm_ (a':=?_) ?_ ?_
   rotate_left
   ·show Act.put _ (some 90) _=_
    simp only[Act.put,List.setIfInBounds_toArray,List.set_cons_zero,List.set_cons_succ,i64_w,i32_w]
    rfl
   refine pure_ (i:=10) (N:=some 96) (v:=?_) (a':=?_) #[true,true,true,true,true,true,true,true,false,false,true,false,false,false] rfl rfl (by kernel_rfl) (fun _ _ _ h=>by cases h.1) (Or.inl ⟨by rfl,?_⟩) ?_ ?_
   rotate_left
   ·intro w'
    go_simp
    with_reducible rfl
   rotate_left
   ·simp only[Act.put,List.setIfInBounds_toArray,List.set_cons_zero,List.set_cons_succ,i64_w,i32_w]
    rfl
   refine one_ (i:=8) (N:=some 94) #[true,true,true,true,true,true,true,true,true,false,true,false,false,false] rfl rfl (by kernel_rfl) (by decide) (fun K hK=>?_)
   refine value_ (w1:=?_) (v:=?_) (by rfl) rfl ?_ ?_
   rotate_left 2
   ·go_simp
    constructor
    ·rfl
    ·rfl
   have hb:Below w9.heap.size w9 (w9.alloc (.cells #[.int .u8 c0.A,.int .u8 c0.X,.int .u8 c0.Y,.int .u8 c0.S,.int .u16 c0.PC,.bool c0.F.N,.bool c0.F.V,.bool c0.F.D,.bool c0.F.I,.bool c0.F.Z,.bool c0.F.C] 28)):=blw
   have KX2:Aside0 (Blk (w9.alloc (.cells #[.int .u8 c0.A,.int .u8 c0.X,.int .u8 c0.Y,.int .u8 c0.S,.int .u16 c0.PC,.bool c0.F.N,.bool c0.F.V,.bool c0.F.D,.bool c0.F.I,.bool c0.F.Z,.bool c0.F.C] 28)) w9.heap.size #[.int .u8 c0.A,.int .u8 c0.X,.int .u8 c0.Y,.int .u8 c0.S,.int .u16 c0.PC,.bool c0.F.N,.bool c0.F.V,.bool c0.F.D,.bool c0.F.I,.bool c0.F.Z,.bool c0.F.C] 28):=⟨Blk.at rfl⟩
   replace HQ:=Aside0.mk (HQ.out.wait hb)
   replace KB:=Aside0.mk (KB.out.below hb)
   (first|replace KX1:=Aside0.mk (KX1.out.below hb)|skip)
   have hg0:=hb.size
   replace hgb:=Nat.lt_of_lt_of_le hgb hg0
   clear hb hg0 hHeld
   generalize w9.alloc (.cells #[.int .u8 c0.A,.int .u8 c0.X,.int .u8 c0.Y,.int .u8 c0.S,.int .u16 c0.PC,.bool c0.F.N,.bool c0.F.V,.bool c0.F.D,.bool c0.F.I,.bool c0.F.Z,.bool c0.F.C] 28)=Wb at *
   refine hK.out _ _ ⟨HQ.out.outFacts.1 13,HQ.out.outFacts.1 14,cpuAll KB.out⟩ (fun hHeld=>?_)
   clear hK K
   refine norm_ (a':=?_) ?_ ?_
   rotate_left
   ·show Act.put _ (some 94) _=_
    simp only[Act.put,List.setIfInBounds_toArray,List.set_cons_zero,List.set_cons_succ,i64_w,i32_w]
    rfl
   refine one_ (i:=9) (N:=some 95) #[true,true,true,true,true,true,true,true,true,true,true,false,false,false] rfl rfl (by kernel_rfl) (by decide) (fun K hK=>?_)
   refine R_append_lies cpuK (by rfl) (.tmp 92) (.tmp 94) 36 (by rfl) base 28 (.agg #[.int .u8 0,.int .u8 0,.int .u8 0,.int .u8 0,.int .u16 0,.bool false,.bool false,.bool false,.bool false,.bool false,.bool false]) 12 Tryz.underlying36 infoCpu rfl (by decide) (by decide) up q.cs c0 [.int .u8 c0.A,.int .u8 c0.X,.int .u8 c0.Y,.int .u8 c0.S,.int .u16 c0.PC,.bool c0.F.N,.bool c0.F.V,.bool c0.F.D,.bool c0.F.I,.bool c0.F.Z,.bool c0.F.C] (fun k=>some k ≠ up.ownBlock) _ (by rfl) rfl KX2.out ⟨[_],_,rfl,rfl,[_],_,rfl,rfl,[_],_,rfl,rfl,[_],_,rfl,rfl,[_],_,rfl,rfl,[_],_,rfl,rfl,[_],_,rfl,rfl,[_],_,rfl,rfl,[_],_,rfl,rfl,[_],[_],rfl,rfl,rfl⟩ (fun _ hk=>⟨trivial,hk⟩) HQ.out.cs HQ.out.size hcs1 ?_
   intro v10 w10 ho10 hg10 _
   have KB10:=Aside0.mk (Blk.grown KB.out hg10 hup)
   have HQ10:=Aside0.mk (RunAt.appP HQ.out ho10 hg10)
   replace hgb:=Nat.lt_of_lt_of_le hgb hg10.size
   clear hHeld ho10 hg10 HQ KB KX2
   have HQ:=HQ10
   have KB:=KB10
   clear HQ10 KB10
   refine hK.out _ _ ⟨HQ.out.outFacts.1 13,HQ.out.outFacts.1 14,cpuAll KB.out⟩ (fun hHeld=>?_)
   clear hK K
   refine norm_ (a':=?_) ?_ ?_
   rotate_left
   ·show Act.put _ (some 95) _=_
    simp only[Act.put,List.setIfInBounds_toArray,List.set_cons_zero,List.set_cons_succ,i64_w,i32_w]
    rfl
   obtain ⟨A9,c9,e9,_,_⟩:=HQ.out.st.reads
   obtain ⟨A10,c10,e10,_,_⟩:=HQ.out.cs.reads
   subst e9 e10
   have HF:Aside0 (RunAt w1 w10 ⟨base,g,r,cap⟩ v' b ⟨q.c,q.m,q.t,q.st++[x],q.cs++[c0],q.jam⟩ m us up (.slice A9 (q.st.length+1) c9) (.slice A10 (q.cs.length+1) c10) j):=⟨by have:=HQ.out;simp only[List.length_append,List.length_singleton] at this;exact this⟩
   have hl:=HQ.out.outFacts.2.2
   have z13:=HQ.out.outFacts.2.1 13
   have z14:=HQ.out.outFacts.2.1 14
   obtain ⟨h13,h14,_⟩:=hHeld
   refine last_ (i:=11) (N:=none) #[true,true,true,true,true,true,true,true,true,true,true,true,false,false] rfl rfl (by kernel_rfl) (by decide) (fun K hK=>?_)
   refine skip_ (w1:=?_) (by rfl) rfl ?_ ?_
   rotate_left
   ·go_simp
    rfl
   refine hK.out _ _ ?_
   clear hK K
   refine pure_ (i:=12) (N:=some 97) (v:=?_) (a':=?_) #[true,true,true,true,true,true,true,true,true,true,true,true,true,false] rfl rfl (by kernel_rfl) (fun _ _ _ h=>by cases h.1) (Or.inl ⟨by rfl,?_⟩) ?_ ?_
   rotate_left
   ·intro w'
    go_simp
    with_reducible rfl
   rotate_left
   ·simp only[Act.put,List.setIfInBounds_toArray,List.set_cons_zero,List.set_cons_succ,i64_w,i32_w]
    rfl
   refine last_ (i:=13) (N:=none) #[true,true,true,true,true,true,true,true,true,true,true,true,true,true] rfl rfl (by kernel_rfl) (by decide) (fun K hK=>?_)
   refine skip_ (w1:=?_) (by rfl) rfl ?_ ?_
   rotate_left
   ·go_simp
    rfl
   refine hK.out _ _ ?_
   clear hK K
   refine done_ (by kernel_rfl) ?_
   refine ⟨rfl,_,_,_,_,_,_,_,_,_,_,_,_,⟨_,_,(HF.out.putS (.slice A9 (q.st.length+1) c9)).putP (.slice A10 (q.cs.length+1) c10)⟩,rfl⟩
  ·skip
   refine value_ (w1:=?_) (v:=?_) (by rfl) rfl ?_ ?_
   rotate_left 2
   ·go_simp
    constructor
    ·rfl
    ·rfl
   have hb:Below Wa.heap.size Wa (Wa.alloc (.cells #[.int .u8 c0.A,.int .u8 c0.X,.int .u8 c0.Y,.int .u8 c0.S,.int .u16 c0.PC,.bool c0.F.N,.bool c0.F.V,.bool c0.F.D,.bool c0.F.I,.bool c0.F.Z,.bool c0.F.C] 28)):=blw
   have KX2:Aside0 (Blk (Wa.alloc (.cells #[.int .u8 c0.A,.int .u8 c0.X,.int .u8 c0.Y,.int .u8 c0.S,.int .u16 c0.PC,.bool c0.F.N,.bool c0.F.V,.bool c0.F.D,.bool c0.F.I,.bool c0.F.Z,.bool c0.F.C] 28)) Wa.heap.size #[.int .u8 c0.A,.int .u8 c0.X,.int .u8 c0.Y,.int .u8 c0.S,.int .u16 c0.PC,.bool c0.F.N,.bool c0.F.V,.bool c0.F.D,.bool c0.F.I,.bool c0.F.Z,.bool c0.F.C] 28):=⟨Blk.at rfl⟩
   replace HQ:=Aside0.mk (HQ.out.wait hb)
   replace KB:=Aside0.mk (KB.out.below hb)
   (first|replace KX1:=Aside0.mk (KX1.out.below hb)|skip)
   have hg0:=hb.size
   replace hgb:=Nat.lt_of_lt_of_le hgb hg0
   clear hb hg0 hHeld
   generalize Wa.alloc (.cells #[.int .u8 c0.A,.int .u8 c0.X,.int .u8 c0.Y,.int .u8 c0.S,.int .u16 c0.PC,.bool c0.F.N,.bool c0.F.V,.bool c0.F.D,.bool c0.F.I,.bool c0.F.Z,.bool c0.F.C] 28)=Wb at *
   refine hK.out _ _ ⟨HQ.out.outFacts.1 13,HQ.out.outFacts.1 14,cpuAll KB.out⟩ (fun hHeld=>?_)
   clear hK K
   refine norm_ (a':=?_) ?_ ?_
   rotate_left
   ·show Act.put _ (some 94) _=_
    simp only[Act.put,List.setIfInBounds_toArray,List.set_cons_zero,List.set_cons_succ,i64_w,i32_w]
    rfl
   refine one_ (i:=4) (N:=some 90) #[true,true,true,true,true,true,true,true,true,false,false,false,false,false] rfl rfl (by kernel_rfl) (by decide) (fun K hK=>?_)
   refine R_append_lies (Kd.int .i64) (by rfl) (.tmp 87) (.tmp 89) 35 (by rfl) base 3 (.int .i64 0) 8 Tryz.underlying35 infoInt rfl (by decide) (by decide) us q.st x [.int .i64 x] (fun k=>some k ≠ us.ownBlock) _ (by rfl) rfl KX1.out rfl (fun _ hk=>⟨trivial,hk⟩) HQ.out.st HQ.out.size hst1 ?_
   intro v9 w9 ho9 hg9 _
   have KB9:=Aside0.mk (Blk.grown KB.out hg9 (row_ne HQ.out.st KB.out (by decide)))
   (first|(have KX9:=Aside0.mk (Blk.grown KX2.out hg9 (row_ne HQ.out.st KX2.out (by decide))))|skip)
   have HQ9:=Aside0.mk (RunAt.appS HQ.out ho9 hg9)
   replace hgb:=Nat.lt_of_lt_of_le hgb hg9.size
   clear hHeld ho9 hg9 HQ KB KX1
   (first|clear KX2|skip)
   have HQ:=HQ9
   have KB:=KB9
   (first|have KX2:=KX9|skip)
   clear HQ9 KB9
   (first|clear KX9|skip)
   skip
   refine hK.out _ _ ⟨HQ.out.outFacts.1 13,HQ.out.outFacts.1 14,cpuAll KB.out⟩ (fun hHeld=>?_)
   clear hK K
   refine norm_ (a':=?_) ?_ ?_
   rotate_left
   ·show Act.put _ (some 90) _=_
    simp only[Act.put,List.setIfInBounds_toArray,List.set_cons_zero,List.set_cons_succ,i64_w,i32_w]
    rfl
   refine pure_ (i:=10) (N:=some 96) (v:=?_) (a':=?_) #[true,true,true,true,true,true,true,true,true,false,true,false,false,false] rfl rfl (by kernel_rfl) (fun _ _ _ h=>by cases h.1) (Or.inl ⟨by rfl,?_⟩) ?_ ?_
   rotate_left
   ·intro w'
    go_simp
    with_reducible rfl
   rotate_left
   ·simp only[Act.put,List.setIfInBounds_toArray,List.set_cons_zero,List.set_cons_succ,i64_w,i32_w]
    rfl
   refine one_ (i:=9) (N:=some 95) #[true,true,true,true,true,true,true,true,true,true,true,false,false,false] rfl rfl (by kernel_rfl) (by decide) (fun K hK=>?_)
   refine R_append_lies cpuK (by rfl) (.tmp 92) (.tmp 94) 36 (by rfl) base 28 (.agg #[.int .u8 0,.int .u8 0,.int .u8 0,.int .u8 0,.int .u16 0,.bool false,.bool false,.bool false,.bool false,.bool false,.bool false]) 12 Tryz.underlying36 infoCpu rfl (by decide) (by decide) up q.cs c0 [.int .u8 c0.A,.int .u8 c0.X,.int .u8 c0.Y,.int .u8 c0.S,.int .u16 c0.PC,.bool c0.F.N,.bool c0.F.V,.bool c0.F.D,.bool c0.F.I,.bool c0.F.Z,.bool c0.F.C] (fun k=>some k ≠ up.ownBlock) _ (by rfl) rfl KX2.out ⟨[_],_,rfl,rfl,[_],_,rfl,rfl,[_],_,rfl,rfl,[_],_,rfl,rfl,[_],_,rfl,rfl,[_],_,rfl,rfl,[_],_,rfl,rfl,[_],_,rfl,rfl,[_],_,rfl,rfl,[_],[_],rfl,rfl,rfl⟩ (fun _ hk=>⟨trivial,hk⟩) HQ.out.cs HQ.out.size hcs1 ?_
   intro v10 w10 ho10 hg10 _
   have KB10:=Aside0.mk (Blk.grown KB.out hg10 hup)
   have HQ10:=Aside0.mk (RunAt.appP HQ.out ho10 hg10)
   replace hgb:=Nat.lt_of_lt_of_le hgb hg10.size
   clear hHeld ho10 hg10 HQ KB KX2
   have HQ:=HQ10
   have KB:=KB10
   clear HQ10 KB10
   refine hK.out _ _ ⟨HQ.out.outFacts.1 13,HQ.out.outFacts.1 14,cpuAll KB.out⟩ (fun hHeld=>?_)
   clear hK K
   refine norm_ (a':=?_) ?_ ?_
   rotate_left
   ·show Act.put _ (some 95) _=_
    simp only[Act.put,List.setIfInBounds_toArray,List.set_cons_zero,List.set_cons_succ,i64_w,i32_w]
    rfl
   obtain ⟨A9,c9,e9,_,_⟩:=HQ.out.st.reads
   obtain ⟨A10,c10,e10,_,_⟩:=HQ.out.cs.reads
   subst e9 e10
   have HF:Aside0 (RunAt w1 w10 ⟨base,g,r,cap⟩ v' b ⟨q.c,q.m,q.t,q.st++[x],q.cs++[c0],q.jam⟩ m us up (.slice A9 (q.st.length+1) c9) (.slice A10 (q.cs.length+1) c10) j):=⟨by have:=HQ.out;simp only[List.length_append,List.length_singleton] at this;exact this⟩
   have hl:=HQ.out.outFacts.2.2
   have z13:=HQ.out.outFacts.2.1 13
   have z14:=HQ.out.outFacts.2.1 14
   obtain ⟨h13,h14,_⟩:=hHeld
   refine last_ (i:=11) (N:=none) #[true,true,true,true,true,true,true,true,true,true,true,true,false,false] rfl rfl (by kernel_rfl) (by decide) (fun K hK=>?_)
   refine skip_ (w1:=?_) (by rfl) rfl ?_ ?_
   rotate_left
   ·go_simp
    rfl
   refine hK.out _ _ ?_
   clear hK K
   refine pure_ (i:=12) (N:=some 97) (v:=?_) (a':=?_) #[true,true,true,true,true,true,true,true,true,true,true,true,true,false] rfl rfl (by kernel_rfl) (fun _ _ _ h=>by cases h.1) (Or.inl ⟨by rfl,?_⟩) ?_ ?_
   rotate_left
   ·intro w'
    go_simp
    with_reducible rfl
   rotate_left
   ·simp only[Act.put,List.setIfInBounds_toArray,List.set_cons_zero,List.set_cons_succ,i64_w,i32_w]
    rfl
   refine last_ (i:=13) (N:=none) #[true,true,true,true,true,true,true,true,true,true,true,true,true,true] rfl rfl (by kernel_rfl) (by decide) (fun K hK=>?_)
   refine skip_ (w1:=?_) (by rfl) rfl ?_ ?_
   rotate_left
   ·go_simp
    rfl
   refine hK.out _ _ ?_
   clear hK K
   refine done_ (by kernel_rfl) ?_
   refine ⟨rfl,_,_,_,_,_,_,_,_,_,_,_,_,⟨_,_,(HF.out.putS (.slice A9 (q.st.length+1) c9)).putP (.slice A10 (q.cs.length+1) c10)⟩,rfl⟩
 ·skip
  refine value_ (w1:=?_) (v:=?_) (by rfl) rfl ?_ ?_
  rotate_left 2
  ·go_simp
   constructor
   ·rfl
   ·rfl
  have hb:Below W.heap.size W (W.alloc (.cells #[.int .u8 c0.A,.int .u8 c0.X,.int .u8 c0.Y,.int .u8 c0.S,.int .u16 c0.PC,.bool c0.F.N,.bool c0.F.V,.bool c0.F.D,.bool c0.F.I,.bool c0.F.Z,.bool c0.F.C] 28)):=blw
  have KX2:Aside0 (Blk (W.alloc (.cells #[.int .u8 c0.A,.int .u8 c0.X,.int .u8 c0.Y,.int .u8 c0.S,.int .u16 c0.PC,.bool c0.F.N,.bool c0.F.V,.bool c0.F.D,.bool c0.F.I,.bool c0.F.Z,.bool c0.F.C] 28)) W.heap.size #[.int .u8 c0.A,.int .u8 c0.X,.int .u8 c0.Y,.int .u8 c0.S,.int .u16 c0.PC,.bool c0.F.N,.bool c0.F.V,.bool c0.F.D,.bool c0.F.I,.bool c0.F.Z,.bool c0.F.C] 28):=⟨Blk.at rfl⟩
  replace HQ:=Aside0.mk (HQ.out.wait hb)
  replace KB:=Aside0.mk (KB.out.below hb)
  (first|replace KX1:=Aside0.mk (KX1.out.below hb)|skip)
  have hg0:=hb.size
  replace hgb:=Nat.lt_of_lt_of_le hgb hg0
  clear hb hg0 hHeld
  generalize W.alloc (.cells #[.int .u8 c0.A,.int .u8 c0.X,.int .u8 c0.Y,.int .u8 c0.S,.int .u16 c0.PC,.bool c0.F.N,.bool c0.F.V,.bool c0.F.D,.bool c0.F.I,.bool c0.F.Z,.bool c0.F.C] 28)=Wa at *
  refine hK.out _ _ ⟨HQ.out.outFacts.1 13,HQ.out.outFacts.1 14,cpuAll KB.out⟩ (fun hHeld=>?_)
  clear hK K
  refine norm_ (a':=?_) ?_ ?_
  rotate_left
  ·show Act.put _ (some 94) _=_
   simp only[Act.put,List.setIfInBounds_toArray,List.set_cons_zero,List.set_cons_succ,i64_w,i32_w]
   rfl
  refine one_ (i:=3) (N:=some 89) #[true,true,true,true,false,true,true,true,true,false,false,false,false,false] rfl rfl (by kernel_rfl) (by decide) (fun K hK=>?_)
  refine value_ (w1:=?_) (v:=?_) (by rfl) rfl ?_ ?_
  rotate_left 2
  ·go_simp
   constructor
   ·rfl
   ·rfl
  have hb:Below Wa.heap.size Wa (Wa.alloc (.cells #[.int .i64 x] 3)):=blw
  have KX1:Aside0 (Blk (Wa.alloc (.cells #[.int .i64 x] 3)) Wa.heap.size #[.int .i64 x] 3):=⟨Blk.at rfl⟩
  replace HQ:=Aside0.mk (HQ.out.wait hb)
  replace KB:=Aside0.mk (KB.out.below hb)
  (first|replace KX2:=Aside0.mk (KX2.out.below hb)|skip)
  have hg0:=hb.size
  replace hgb:=Nat.lt_of_lt_of_le hgb hg0
  clear hb hg0 hHeld
  generalize Wa.alloc (.cells #[.int .i64 x] 3)=Wb at *
  refine hK.out _ _ ⟨HQ.out.outFacts.1 13,HQ.out.outFacts.1 14,cpuAll KB.out⟩ (fun hHeld=>?_)
  clear hK K
  refine norm_ (a':=?_) ?_ ?_
  rotate_left
  ·show Act.put _ (some 89) _=_
   simp only[Act.put,List.setIfInBounds_toArray,List.set_cons_zero,List.set_cons_succ,i64_w,i32_w]
   rfl
  refine one_ (i:=4) (N:=some 90) #[true,true,true,true,true,true,true,true,true,false,false,false,false,false] rfl rfl (by kernel_rfl) (by decide) (fun K hK=>?_)
  refine R_append_lies (Kd.int .i64) (by rfl) (.tmp 87) (.tmp 89) 35 (by rfl) base 3 (.int .i64 0) 8 Tryz.underlying35 infoInt rfl (by decide) (by decide) us q.st x [.int .i64 x] (fun k=>some k ≠ us.ownBlock) _ (by rfl) rfl KX1.out rfl (fun _ hk=>⟨trivial,hk⟩) HQ.out.st HQ.out.size hst1 ?_
  intro v9 w9 ho9 hg9 _
  have KB9:=Aside0.mk (Blk.grown KB.out hg9 (row_ne HQ.out.st KB.out (by decide)))
  (first|(have KX9:=Aside0.mk (Blk.grown KX2.out hg9 (row_ne HQ.out.st KX2.out (by decide))))|skip)
  have HQ9:=Aside0.mk (RunAt.appS HQ.out ho9 hg9)
  replace hgb:=Nat.lt_of_lt_of_le hgb hg9.size
  clear hHeld ho9 hg9 HQ KB KX1
  (first|clear KX2|skip)
  have HQ:=HQ9
  have KB:=KB9
  (first|have KX2:=KX9|skip)
  clear HQ9 KB9
  (first|clear KX9|skip)
  skip
  refine hK.out _ _ ⟨HQ.out.outFacts.1 13,HQ.out.outFacts.1 14,cpuAll KB.out⟩ (fun hHeld=>?_)
  clear hK K
  refine norm_ (a':=?_) ?_ ?_
  rotate_left
  ·show Act.put _ (some 90) _=_
   simp only[Act.put,List.setIfInBounds_toArray,List.set_cons_zero,List.set_cons_succ,i64_w,i32_w]
   rfl
  refine pure_ (i:=10) (N:=some 96) (v:=?_) (a':=?_) #[true,true,true,true,true,true,true,true,true,false,true,false,false,false] rfl rfl (by kernel_rfl) (fun _ _ _ h=>by cases h.1) (Or.inl ⟨by rfl,?_⟩) ?_ ?_
  rotate_left
  ·intro w'
   go_simp
   with_reducible rfl
  rotate_left
  ·simp only[Act.put,List.setIfInBounds_toArray,List.set_cons_zero,List.set_cons_succ,i64_w,i32_w]
   rfl
  refine one_ (i:=9) (N:=some 95) #[true,true,true,true,true,true,true,true,true,true,true,false,false,false] rfl rfl (by kernel_rfl) (by decide) (fun K hK=>?_)
  refine R_append_lies cpuK (by rfl) (.tmp 92) (.tmp 94) 36 (by rfl) base 28 (.agg #[.int .u8 0,.int .u8 0,.int .u8 0,.int .u8 0,.int .u16 0,.bool false,.bool false,.bool false,.bool false,.bool false,.bool false]) 12 Tryz.underlying36 infoCpu rfl (by decide) (by decide) up q.cs c0 [.int .u8 c0.A,.int .u8 c0.X,.int .u8 c0.Y,.int .u8 c0.S,.int .u16 c0.PC,.bool c0.F.N,.bool c0.F.V,.bool c0.F.D,.bool c0.F.I,.bool c0.F.Z,.bool c0.F.C] (fun k=>some k ≠ up.ownBlock) _ (by rfl) rfl KX2.out ⟨[_],_,rfl,rfl,[_],_,rfl,rfl,[_],_,rfl,rfl,[_],_,rfl,rfl,[_],_,rfl,rfl,[_],_,rfl,rfl,[_],_,rfl,rfl,[_],_,rfl,rfl,[_],_,rfl,rfl,[_],[_],rfl,rfl,rfl⟩ (fun _ hk=>⟨trivial,hk⟩) HQ.out.cs HQ.out.size hcs1 ?_
  intro v10 w10 ho10 hg10 _
  have KB10:=Aside0.mk (Blk.grown KB.out hg10 hup)
  have HQ10:=Aside0.mk (RunAt.appP HQ.out ho10 hg10)
  replace hgb:=Nat.lt_of_lt_of_le hgb hg10.size
  clear hHeld ho10 hg10 HQ KB KX2
  have HQ:=HQ10
  have KB:=KB10
  clear HQ10 KB10
  refine hK.out _ _ ⟨HQ.out.outFacts.1 13,HQ.out.outFacts.1 14,cpuAll KB.out⟩ (fun hHeld=>?_)
  clear hK K
  refine norm_ (a':=?_) ?_ ?_
  rotate_left
  ·show Act.put _ (some 95) _=_
   simp only[Act.put,List.setIfInBounds_toArray,List.set_cons_zero,List.set_cons_succ,i64_w,i32_w]
   rfl
  obtain ⟨A9,c9,e9,_,_⟩:=HQ.out.st.reads
  obtain ⟨A10,c10,e10,_,_⟩:=HQ.out.cs.reads
  subst e9 e10
  have HF:Aside0 (RunAt w1 w10 ⟨base,g,r,cap⟩ v' b ⟨q.c,q.m,q.t,q.st++[x],q.cs++[c0],q.jam⟩ m us up (.slice A9 (q.st.length+1) c9) (.slice A10 (q.cs.length+1) c10) j):=⟨by have:=HQ.out;simp only[List.length_append,List.length_singleton] at this;exact this⟩
  have hl:=HQ.out.outFacts.2.2
  have z13:=HQ.out.outFacts.2.1 13
  have z14:=HQ.out.outFacts.2.1 14
  obtain ⟨h13,h14,_⟩:=hHeld
  refine last_ (i:=11) (N:=none) #[true,true,true,true,true,true,true,true,true,true,true,true,false,false] rfl rfl (by kernel_rfl) (by decide) (fun K hK=>?_)
  refine skip_ (w1:=?_) (by rfl) rfl ?_ ?_
  rotate_left
  ·go_simp
   rfl
  refine hK.out _ _ ?_
  clear hK K
  refine pure_ (i:=12) (N:=some 97) (v:=?_) (a':=?_) #[true,true,true,true,true,true,true,true,true,true,true,true,true,false] rfl rfl (by kernel_rfl) (fun _ _ _ h=>by cases h.1) (Or.inl ⟨by rfl,?_⟩) ?_ ?_
  rotate_left
  ·intro w'
   go_simp
   with_reducible rfl
  rotate_left
  ·simp only[Act.put,List.setIfInBounds_toArray,List.set_cons_zero,List.set_cons_succ,i64_w,i32_w]
   rfl
  refine last_ (i:=13) (N:=none) #[true,true,true,true,true,true,true,true,true,true,true,true,true,true] rfl rfl (by kernel_rfl) (by decide) (fun K hK=>?_)
  refine skip_ (w1:=?_) (by rfl) rfl ?_ ?_
  rotate_left
  ·go_simp
   rfl
  refine hK.out _ _ ?_
  clear hK K
  refine done_ (by kernel_rfl) ?_
  refine ⟨rfl,_,_,_,_,_,_,_,_,_,_,_,_,⟨_,_,(HF.out.putS (.slice A9 (q.st.length+1) c9)).putP (.slice A10 (q.cs.length+1) c10)⟩,rfl⟩
open Go.RowKit Go.Proofs.YtoncmhfmkfeolaaGreatDoorW.PrintWords
theorem zero16 {w:World} {g:Nat} {t:TypeId} (h:Blk w g #[.int .u8 0,.int .u8 0,.int .u8 0,.int .u8 0,.int .u16 0,.bool false,.bool false,.bool false,.bool false,.bool false,.bool false,.slice none 0 0,.slice none 0 0,.slice none 0 0,.slice none 0 0,.bool false] t):Blk ((((((((((((((((w.setCell ⟨g,0,none⟩ (.int .u8 0)).setCell ⟨g,1,none⟩ (.int .u8 0)).setCell ⟨g,2,none⟩ (.int .u8 0)).setCell ⟨g,3,none⟩ (.int .u8 0)).setCell ⟨g,4,none⟩ (.int .u16 0)).setCell ⟨g,5,none⟩ (.bool false)).setCell ⟨g,6,none⟩ (.bool false)).setCell ⟨g,7,none⟩ (.bool false)).setCell ⟨g,8,none⟩ (.bool false)).setCell ⟨g,9,none⟩ (.bool false)).setCell ⟨g,10,none⟩ (.bool false)).setCell ⟨g,11,none⟩ (.slice none 0 0)).setCell ⟨g,12,none⟩ (.slice none 0 0)).setCell ⟨g,13,none⟩ (.slice none 0 0)).setCell ⟨g,14,none⟩ (.slice none 0 0)).setCell ⟨g,15,none⟩ (.bool false)) g #[.int .u8 0,.int .u8 0,.int .u8 0,.int .u8 0,.int .u16 0,.bool false,.bool false,.bool false,.bool false,.bool false,.bool false,.slice none 0 0,.slice none 0 0,.slice none 0 0,.slice none 0 0,.bool false] t:=by
 have h0:Blk (w.setCell ⟨g,0,none⟩ (.int .u8 0)) g #[.int .u8 0,.int .u8 0,.int .u8 0,.int .u8 0,.int .u16 0,.bool false,.bool false,.bool false,.bool false,.bool false,.bool false,.slice none 0 0,.slice none 0 0,.slice none 0 0,.slice none 0 0,.bool false] t:=blk_set h 0 _
 have h1:=blk_set h0 1 (.int .u8 0)
 have h2:=blk_set h1 2 (.int .u8 0)
 have h3:=blk_set h2 3 (.int .u8 0)
 have h4:=blk_set h3 4 (.int .u16 0)
 have h5:=blk_set h4 5 (.bool false)
 have h6:=blk_set h5 6 (.bool false)
 have h7:=blk_set h6 7 (.bool false)
 have h8:=blk_set h7 8 (.bool false)
 have h9:=blk_set h8 9 (.bool false)
 have h10:=blk_set h9 10 (.bool false)
 have h11:=blk_set h10 11 (.slice none 0 0)
 have h12:=blk_set h11 12 (.slice none 0 0)
 have h13:=blk_set h12 13 (.slice none 0 0)
 have h14:=blk_set h13 14 (.slice none 0 0)
 exact blk_set h14 15 (.bool false)
theorem RunAt.start {w0 W:World} {base g b r cap:Nat} {c:Cpu} {l:List Int} (hg:Blk W g #[.int .u8 c.A,.int .u8 c.X,.int .u8 c.Y,.int .u8 c.S,.int .u16 c.PC,.bool c.F.N,.bool c.F.V,.bool c.F.D,.bool c.F.I,.bool c.F.Z,.bool c.F.C,.slice (some ⟨r,0,none⟩) l.length cap,.slice none 0 0] 97) (ho:Blk W b #[.int .u8 0,.int .u8 0,.int .u8 0,.int .u8 0,.int .u16 0,.bool false,.bool false,.bool false,.bool false,.bool false,.bool false,.slice none 0 0,.slice none 0 0,.slice none 0 0,.slice none 0 0,.bool false] 38) (hm:OwnB W base (.slice (some ⟨r,0,none⟩) l.length cap) l) (bg:base≤g) (bo:base≤b) (hb:Below base w0 W) (hs:ramSize l.length=true) (hl:∀ i,0≤rd l i∧rd l i<256) :
  RunAt w0 W ⟨base,g,r,cap⟩ (.slice none 0 0) b (rs0 c l) 0 (.slice none 0 0) (.slice none 0 0) (.slice none 0 0) (.slice none 0 0) false:=by
 refine ⟨⟨hg,hm,Kd.R_nil _ _ _ _ _,bg,?_,by simp[Value.ownBlock],by simp[Value.ownBlock],hs,hl,fun k=>by simp[rs0,cd,Cyc.ok],by simp[rs0]⟩,ho,Kd.R_nil _ _ _ _ _,Kd.R_nil _ _ _ _ _,bo,hb⟩
 obtain ⟨c1,h1⟩:=Kd.R_typed hm r rfl
 exact blk_ne hg h1 (by decide)
theorem runReg3 (c:Cpu) (A:Option Addr) (l:List Int) (d:Nat) (w w1:World) (g4 g5:Nat) (h:Bs w A l) (hs:ramSize l.length=true) (hbw:Below w.heap.size w w1) (k4:Blk w1 g4 #[.int .u8 c.A,.int .u8 c.X,.int .u8 c.Y,.int .u8 c.S,.int .u16 c.PC,.bool c.F.N,.bool c.F.V,.bool c.F.D,.bool c.F.I,.bool c.F.Z,.bool c.F.C] 28) (k5:Blk w1 g5 #[.slice A l.length d] 30)
  (s0 s1 s2 s3 s6 s7 s8 s9 s10 s11 s12 s13 s14 s15 s16 s17 s18 s19 s20 s21 s22 s23 s24 s25 s26 s27 s28 s29 s30 s31 s32 s33 s34 s35 s36 s37 s38 s39 s40 s41 s42 s43 s44 s45 s46 s47 s48 s49 s50 s51 s52 s53 s54 s55 s56 s57 s58 s59 s60 s61 s62 s63 s64 s65 s66 s67 s68 s69 s70 s71 s72 s73 s74 s75 s76 s77 s78 s79 s80 s81 s82 s83 s84 s85 s86 s87 s88 s89 s90 s91 s92 s93 s94 s95 s96 s97 s98 s99 s100 s101 s102 s103 s104 s105 s106 s107 s108 s109 s110 s111 s112 s113 s114:Value) :
  Code.wp Tryz.prog ((Tryz.f11.body.bind (regOf 3)).getD .skip) (fun e a' w'=>e=.normal∧∃ u9 u10 u28 u29 u30 u31 u32 u33,(∃ g b r cap,u9=.pointer (some ⟨g,0,none⟩)∧u10=.pointer (some ⟨b,0,none⟩)∧RunAt w1 w' ⟨w1.heap.size,g,r,cap⟩ (.slice none 0 0) b (rs0 c l) 0 (.slice none 0 0) (.slice none 0 0) (.slice none 0 0) (.slice none 0 0) false)∧a'=⟨List.toArray (s0::s1::s2::s3::.pointer (some ⟨g4,0,none⟩)::.pointer (some ⟨g5,0,none⟩)::s6::s7::s8::u9::u10::s11::s12::s13::s14::s15::s16::s17::s18::s19::s20::s21::s22::s23::s24::s25::s26::s27::u28::u29::u30::u31::u32::u33::s34::s35::s36::s37::s38::s39::s40::s41::s42::s43::s44::s45::s46::s47::s48::s49::s50::s51::s52::s53::s54::s55::s56::s57::s58::s59::s60::s61::s62::s63::s64::s65::s66::s67::s68::s69::s70::s71::s72::s73::s74::s75::s76::s77::s78::s79::s80::s81::s82::s83::s84::s85::s86::s87::s88::s89::s90::s91::s92::s93::s94::s95::s96::s97::s98::s99::s100::s101::s102::s103::s104::s105::s106::s107::s108::s109::s110::s111::s112::s113::s114::[]),[]⟩) ⟨List.toArray (s0::s1::s2::s3::.pointer (some ⟨g4,0,none⟩)::.pointer (some ⟨g5,0,none⟩)::s6::s7::s8::s9::s10::s11::s12::s13::s14::s15::s16::s17::s18::s19::s20::s21::s22::s23::s24::s25::s26::s27::s28::s29::s30::s31::s32::s33::s34::s35::s36::s37::s38::s39::s40::s41::s42::s43::s44::s45::s46::s47::s48::s49::s50::s51::s52::s53::s54::s55::s56::s57::s58::s59::s60::s61::s62::s63::s64::s65::s66::s67::s68::s69::s70::s71::s72::s73::s74::s75::s76::s77::s78::s79::s80::s81::s82::s83::s84::s85::s86::s87::s88::s89::s90::s91::s92::s93::s94::s95::s96::s97::s98::s99::s100::s101::s102::s103::s104::s105::s106::s107::s108::s109::s110::s111::s112::s113::s114::[]),[]⟩ w1:=by
 conv=>arg 2;whnf
 have hsl:=ramSize_le hs
 have HB:=Aside0.mk hbw
 have HB1:=hR w1
 have hz1:=hbw.size
 have hk1_0:=k4.lt
 have hk1_1:=k5.lt
 obtain ⟨p0,p1,p2,p3,p4,p5,p6,p7,p8,p9,p10⟩:=k4.cpu
 have p11:=k5.one
 clear hbw
 go_region_held3 (fun w'=>∀ p:Addr,p.block<w1.heap.size→w'.cell? p=w1.cell? p) ((intro p hp;exact Below.cell (by exact blw) hp)) (first|(go_at_call 51;((with_reducible refine (impl_cloned _ _ _ _ (h.below (blw)) (by omega)).mono ?_);rintro _ w2 ⟨A1,c1,rfl,HO,hb⟩;have HX2:=Aside0.mk (blk_moves hb);have HO:=Aside0.mk HO;have HB:=Aside0.mk (below_step (w:=w) blw hb);have HB1:=Aside0.mk (below_step (w:=w1) blw hb);have hz2:=hb.size;obtain ⟨hcl2,hfr2,hlt2,_⟩:=bcell hb;(try simp only[sA,sC,sD] at hz2);(try simp only[sA,sC,sD] at hcl2 hfr2 hlt2);have HB2:=hR w2;clear hb)))
 all_goals
  obtain ⟨r,cap,eo,gb,gl,cl,HCl⟩:=Kd.R_form HO.out (by omega)
  injection eo with ea en ec
  subst ea ec
  clear HCl en
  refine ⟨rfl,?_⟩
  repeat apply Exists.intro
  refine ⟨?_,rfl⟩
 all_goals refine ⟨_,_,_,_,rfl,rfl,RunAt.start ?_ ?_ (by (apply OwnB.lower;(repeat (first|(with_reducible exact HO.out)|(with_reducible apply OwnB.alloc)|(with_reducible apply OwnB.drew)|(with_reducible apply OwnB.drewN)|(with_reducible apply OwnB.set)));all_goals (first|omega|(simp;done)|(simp;omega)))) (by (first|omega|(simp only[sA,sC,sD] <;> omega)|(simp <;> omega))) (by (first|omega|(simp only[sA,sC,sD] <;> omega)|(simp <;> omega))) (blw) hs h.b⟩
 all_goals (repeat (with_reducible first|refine zero16 ?_|apply HX2.out|(refine Blk.far ?_ ?_;rotate_left;(first|omega|(simp only[sA,sC,sD] <;> omega)|(simp <;> omega)))|(refine Blk.at ?_;(first|omega|(simp only[sA,sC,sD] <;> omega)|(simp <;> omega)))|refine Blk.alloc ?_ _|refine Blk.drew ?_))
open Go.RowKit Go.Proofs.YtoncmhfmkfeolaaGreatDoorW.PrintWords
theorem shot13 {w:World} {g:Nat} {t:TypeId} {us up a1 a2:Value} {j:Bool} (d:Cpu) (h:Blk w g #[.int .u8 0,.int .u8 0,.int .u8 0,.int .u8 0,.int .u16 0,.bool false,.bool false,.bool false,.bool false,.bool false,.bool false,.slice none 0 0,.slice none 0 0,us,up,.bool j] t) :
  Blk (((((((((((((w.setCell ⟨g,0,none⟩ (.int .u8 d.A)).setCell ⟨g,1,none⟩ (.int .u8 d.X)).setCell ⟨g,2,none⟩ (.int .u8 d.Y)).setCell ⟨g,3,none⟩ (.int .u8 d.S)).setCell ⟨g,4,none⟩ (.int .u16 d.PC)).setCell ⟨g,5,none⟩ (.bool d.F.N)).setCell ⟨g,6,none⟩ (.bool d.F.V)).setCell ⟨g,7,none⟩ (.bool d.F.D)).setCell ⟨g,8,none⟩ (.bool d.F.I)).setCell ⟨g,9,none⟩ (.bool d.F.Z)).setCell ⟨g,10,none⟩ (.bool d.F.C)).setCell ⟨g,11,none⟩ a1).setCell ⟨g,12,none⟩ a2) g #[.int .u8 d.A,.int .u8 d.X,.int .u8 d.Y,.int .u8 d.S,.int .u16 d.PC,.bool d.F.N,.bool d.F.V,.bool d.F.D,.bool d.F.I,.bool d.F.Z,.bool d.F.C,a1,a2,us,up,.bool j] t:=by
 have h:Blk (w.setCell ⟨g,0,none⟩ (.int .u8 d.A)) g #[(.int .u8 d.A),(.int .u8 0),(.int .u8 0),(.int .u8 0),(.int .u16 0),(.bool false),(.bool false),(.bool false),(.bool false),(.bool false),(.bool false),(.slice none 0 0),(.slice none 0 0),us,up,.bool j] t:=blk_set h 0 _
 generalize (w.setCell ⟨g,0,none⟩ (.int .u8 d.A))=w0 at h ⊢
 have h:Blk (w0.setCell ⟨g,1,none⟩ (.int .u8 d.X)) g #[(.int .u8 d.A),(.int .u8 d.X),(.int .u8 0),(.int .u8 0),(.int .u16 0),(.bool false),(.bool false),(.bool false),(.bool false),(.bool false),(.bool false),(.slice none 0 0),(.slice none 0 0),us,up,.bool j] t:=blk_set h 1 _
 generalize (w0.setCell ⟨g,1,none⟩ (.int .u8 d.X))=w1 at h ⊢
 have h:Blk (w1.setCell ⟨g,2,none⟩ (.int .u8 d.Y)) g #[(.int .u8 d.A),(.int .u8 d.X),(.int .u8 d.Y),(.int .u8 0),(.int .u16 0),(.bool false),(.bool false),(.bool false),(.bool false),(.bool false),(.bool false),(.slice none 0 0),(.slice none 0 0),us,up,.bool j] t:=blk_set h 2 _
 generalize (w1.setCell ⟨g,2,none⟩ (.int .u8 d.Y))=w2 at h ⊢
 have h:Blk (w2.setCell ⟨g,3,none⟩ (.int .u8 d.S)) g #[(.int .u8 d.A),(.int .u8 d.X),(.int .u8 d.Y),(.int .u8 d.S),(.int .u16 0),(.bool false),(.bool false),(.bool false),(.bool false),(.bool false),(.bool false),(.slice none 0 0),(.slice none 0 0),us,up,.bool j] t:=blk_set h 3 _
 generalize (w2.setCell ⟨g,3,none⟩ (.int .u8 d.S))=w3 at h ⊢
 have h:Blk (w3.setCell ⟨g,4,none⟩ (.int .u16 d.PC)) g #[(.int .u8 d.A),(.int .u8 d.X),(.int .u8 d.Y),(.int .u8 d.S),(.int .u16 d.PC),(.bool false),(.bool false),(.bool false),(.bool false),(.bool false),(.bool false),(.slice none 0 0),(.slice none 0 0),us,up,.bool j] t:=blk_set h 4 _
 generalize (w3.setCell ⟨g,4,none⟩ (.int .u16 d.PC))=w4 at h ⊢
 have h:Blk (w4.setCell ⟨g,5,none⟩ (.bool d.F.N)) g #[(.int .u8 d.A),(.int .u8 d.X),(.int .u8 d.Y),(.int .u8 d.S),(.int .u16 d.PC),(.bool d.F.N),(.bool false),(.bool false),(.bool false),(.bool false),(.bool false),(.slice none 0 0),(.slice none 0 0),us,up,.bool j] t:=blk_set h 5 _
 generalize (w4.setCell ⟨g,5,none⟩ (.bool d.F.N))=w5 at h ⊢
 have h:Blk (w5.setCell ⟨g,6,none⟩ (.bool d.F.V)) g #[(.int .u8 d.A),(.int .u8 d.X),(.int .u8 d.Y),(.int .u8 d.S),(.int .u16 d.PC),(.bool d.F.N),(.bool d.F.V),(.bool false),(.bool false),(.bool false),(.bool false),(.slice none 0 0),(.slice none 0 0),us,up,.bool j] t:=blk_set h 6 _
 generalize (w5.setCell ⟨g,6,none⟩ (.bool d.F.V))=w6 at h ⊢
 have h:Blk (w6.setCell ⟨g,7,none⟩ (.bool d.F.D)) g #[(.int .u8 d.A),(.int .u8 d.X),(.int .u8 d.Y),(.int .u8 d.S),(.int .u16 d.PC),(.bool d.F.N),(.bool d.F.V),(.bool d.F.D),(.bool false),(.bool false),(.bool false),(.slice none 0 0),(.slice none 0 0),us,up,.bool j] t:=blk_set h 7 _
 generalize (w6.setCell ⟨g,7,none⟩ (.bool d.F.D))=w7 at h ⊢
 have h:Blk (w7.setCell ⟨g,8,none⟩ (.bool d.F.I)) g #[(.int .u8 d.A),(.int .u8 d.X),(.int .u8 d.Y),(.int .u8 d.S),(.int .u16 d.PC),(.bool d.F.N),(.bool d.F.V),(.bool d.F.D),(.bool d.F.I),(.bool false),(.bool false),(.slice none 0 0),(.slice none 0 0),us,up,.bool j] t:=blk_set h 8 _
 generalize (w7.setCell ⟨g,8,none⟩ (.bool d.F.I))=w8 at h ⊢
 have h:Blk (w8.setCell ⟨g,9,none⟩ (.bool d.F.Z)) g #[(.int .u8 d.A),(.int .u8 d.X),(.int .u8 d.Y),(.int .u8 d.S),(.int .u16 d.PC),(.bool d.F.N),(.bool d.F.V),(.bool d.F.D),(.bool d.F.I),(.bool d.F.Z),(.bool false),(.slice none 0 0),(.slice none 0 0),us,up,.bool j] t:=blk_set h 9 _
 generalize (w8.setCell ⟨g,9,none⟩ (.bool d.F.Z))=w9 at h ⊢
 have h:Blk (w9.setCell ⟨g,10,none⟩ (.bool d.F.C)) g #[(.int .u8 d.A),(.int .u8 d.X),(.int .u8 d.Y),(.int .u8 d.S),(.int .u16 d.PC),(.bool d.F.N),(.bool d.F.V),(.bool d.F.D),(.bool d.F.I),(.bool d.F.Z),(.bool d.F.C),(.slice none 0 0),(.slice none 0 0),us,up,.bool j] t:=blk_set h 10 _
 generalize (w9.setCell ⟨g,10,none⟩ (.bool d.F.C))=w10 at h ⊢
 have h:Blk (w10.setCell ⟨g,11,none⟩ a1) g #[(.int .u8 d.A),(.int .u8 d.X),(.int .u8 d.Y),(.int .u8 d.S),(.int .u16 d.PC),(.bool d.F.N),(.bool d.F.V),(.bool d.F.D),(.bool d.F.I),(.bool d.F.Z),(.bool d.F.C),a1,(.slice none 0 0),us,up,.bool j] t:=blk_set h 11 _
 generalize (w10.setCell ⟨g,11,none⟩ a1)=w11 at h ⊢
 have h:Blk (w11.setCell ⟨g,12,none⟩ a2) g #[(.int .u8 d.A),(.int .u8 d.X),(.int .u8 d.Y),(.int .u8 d.S),(.int .u16 d.PC),(.bool d.F.N),(.bool d.F.V),(.bool d.F.D),(.bool d.F.I),(.bool d.F.Z),(.bool d.F.C),a1,a2,us,up,.bool j] t:=blk_set h 12 _
 exact h
theorem cells16 {w:World} {g:Nat} {t:TypeId} {a0 a1 a2 a3 a4 a5 a6 a7 a8 a9 a10 a11 a12 a13 a14 a15:Value} (h:Blk w g #[a0,a1,a2,a3,a4,a5,a6,a7,a8,a9,a10,a11,a12,a13,a14,a15] t):w.cell? ⟨g,0,none⟩=some a0∧w.cell? ⟨g,1,none⟩=some a1∧w.cell? ⟨g,2,none⟩=some a2∧w.cell? ⟨g,3,none⟩=some a3∧w.cell? ⟨g,4,none⟩=some a4∧w.cell? ⟨g,5,none⟩=some a5∧w.cell? ⟨g,6,none⟩=some a6∧w.cell? ⟨g,7,none⟩=some a7∧w.cell? ⟨g,8,none⟩=some a8∧w.cell? ⟨g,9,none⟩=some a9∧w.cell? ⟨g,10,none⟩=some a10∧w.cell? ⟨g,11,none⟩=some a11∧w.cell? ⟨g,12,none⟩=some a12∧w.cell? ⟨g,13,none⟩=some a13∧w.cell? ⟨g,14,none⟩=some a14∧w.cell? ⟨g,15,none⟩=some a15 :=
 ⟨h.cell 0,h.cell 1,h.cell 2,h.cell 3,h.cell 4,h.cell 5,h.cell 6,h.cell 7,h.cell 8,h.cell 9,h.cell 10,h.cell 11,h.cell 12,h.cell 13,h.cell 14,h.cell 15⟩
def RunRet (r:Rs) (W w':World) (e:Ending):Prop:=∃ A1 c1 B1 d1 C1 e1 D1 f1,e=.returned (.agg #[.int .u8 r.c.A,.int .u8 r.c.X,.int .u8 r.c.Y,.int .u8 r.c.S,.int .u16 r.c.PC,.bool r.c.F.N,.bool r.c.F.V,.bool r.c.F.D,.bool r.c.F.I,.bool r.c.F.Z,.bool r.c.F.C,.slice A1 r.m.length c1,.slice B1 r.t.length d1,.slice C1 r.st.length e1,.slice D1 r.cs.length f1,.bool r.jam]) ∧
 OwnB w' W.heap.size (.slice A1 r.m.length c1) r.m∧OwnC w' W.heap.size (.slice B1 r.t.length d1) r.t∧OwnI w' W.heap.size (.slice C1 r.st.length e1) r.st∧OwnP w' W.heap.size (.slice D1 r.cs.length f1) r.cs∧Below W.heap.size W w'
theorem RunAt.own {w0 w W:World} {L:Lay} {v:Value} {g:Nat} {r:Rs} {n:Nat} {us up:Value} {j:Bool} (h:RunAt w0 w L v g r n us up us up j) (hk:∀ k,L.base≤k→k ≠ g→W.heap[k]?=w.heap[k]?) :
  OwnB W L.base (.slice (some ⟨L.r,0,none⟩) r.m.length L.cap) r.m∧OwnC W L.base v r.t∧OwnI W L.base us r.st∧OwnP W L.base up r.cs:=by
 refine ⟨OwnB.move h.hold.mem (fun k e=>?_),OwnC.move h.hold.log (fun k e=>?_),h.st.keep (fun k e=>?_),h.cs.keep (fun k e=>?_)⟩
 ·obtain ⟨c1,h1⟩:=Kd.R_typed h.hold.mem k e
  exact hk k (Kd.R_base h.hold.mem k e) (blk_ne h1 h.out (by decide))
 ·obtain ⟨c1,h1⟩:=Kd.R_typed h.hold.log k e
  exact hk k (Kd.R_base h.hold.log k e) (blk_ne h1 h.out (by decide))
 ·obtain ⟨c1,h1⟩:=Kd.R_typed h.st k e
  exact hk k (Kd.R_base h.st k e) (blk_ne h1 h.out (by decide))
 ·obtain ⟨c1,h1⟩:=Kd.R_typed h.cs k e
  exact hk k (Kd.R_base h.cs k e) (blk_ne h1 h.out (by decide))
theorem runReg18 (w1 w8:World) (base g r cap b m:Nat) (Aq:Option Addr) (dq:Nat) (q:Rs) (us up:Value) (j:Bool) (HQ:Aside0 (RunAt w1 w8 ⟨base,g,r,cap⟩ (.slice Aq q.t.length dq) b q m us up us up j))
  (s0 s1 s2 s3 s4 s5 s6 s7 s8 s11 s12 s13 s14 s15 s16 s17 s18 s19 s20 s21 s22 s23 s24 s25 s26 s27 s28 s29 s30 s31 s32 s33 s34 s35 s36 s37 s38 s39 s40 s41 s42 s43 s44 s45 s46 s47 s48 s49 s50 s51 s52 s53 s54 s55 s56 s57 s58 s59 s60 s61 s62 s63 s64 s65 s66 s67 s68 s69 s70 s71 s72 s73 s74 s75 s76 s77 s78 s79 s80 s81 s82 s83 s84 s85 s86 s87 s88 s89 s90 s91 s92 s93 s94 s95 s96 s97 s98 s99 s100 s101 s102 s103 s104 s105 s106 s107 s108 s109 s110 s111 s112 s113 s114:Value) :
  Code.wp Tryz.prog ((Tryz.f11.body.bind (regOf 18)).getD .skip) (fun e a' w'=>e=.normal∧∃ u99 u100 u101 u102 u103 u104 u105 u106 u107 u108 u109 u110 u111 u112 u113,(Blk w' b #[.int .u8 q.c.A,.int .u8 q.c.X,.int .u8 q.c.Y,.int .u8 q.c.S,.int .u16 q.c.PC,.bool q.c.F.N,.bool q.c.F.V,.bool q.c.F.D,.bool q.c.F.I,.bool q.c.F.Z,.bool q.c.F.C,.slice (some ⟨r,0,none⟩) q.m.length cap,.slice Aq q.t.length dq,us,up,.bool j] 38∧(∀ k,k ≠ b→w'.heap[k]?=w8.heap[k]?)∧Below base w1 w'∧w'.heap.size=w8.heap.size)∧a'=⟨List.toArray (s0::s1::s2::s3::s4::s5::s6::s7::s8::.pointer (some ⟨g,0,none⟩)::.pointer (some ⟨b,0,none⟩)::s11::s12::s13::s14::s15::s16::s17::s18::s19::s20::s21::s22::s23::s24::s25::s26::s27::s28::s29::s30::s31::s32::s33::s34::s35::s36::s37::s38::s39::s40::s41::s42::s43::s44::s45::s46::s47::s48::s49::s50::s51::s52::s53::s54::s55::s56::s57::s58::s59::s60::s61::s62::s63::s64::s65::s66::s67::s68::s69::s70::s71::s72::s73::s74::s75::s76::s77::s78::s79::s80::s81::s82::s83::s84::s85::s86::s87::s88::s89::s90::s91::s92::s93::s94::s95::s96::s97::s98::u99::u100::u101::u102::u103::u104::u105::u106::u107::u108::u109::u110::u111::u112::u113::s114::[]),[]⟩) ⟨List.toArray (s0::s1::s2::s3::s4::s5::s6::s7::s8::.pointer (some ⟨g,0,none⟩)::.pointer (some ⟨b,0,none⟩)::s11::s12::s13::s14::s15::s16::s17::s18::s19::s20::s21::s22::s23::s24::s25::s26::s27::s28::s29::s30::s31::s32::s33::s34::s35::s36::s37::s38::s39::s40::s41::s42::s43::s44::s45::s46::s47::s48::s49::s50::s51::s52::s53::s54::s55::s56::s57::s58::s59::s60::s61::s62::s63::s64::s65::s66::s67::s68::s69::s70::s71::s72::s73::s74::s75::s76::s77::s78::s79::s80::s81::s82::s83::s84::s85::s86::s87::s88::s89::s90::s91::s92::s93::s94::s95::s96::s97::s98::s99::s100::s101::s102::s103::s104::s105::s106::s107::s108::s109::s110::s111::s112::s113::s114::[]),[]⟩ w8:=by
 conv=>arg 2;whnf
 obtain ⟨e0,e1,e2,e3,e4,e5,e6,e7,e8,e9,e10,e11,e12,hfz,hlt1⟩:=HQ.out.facts
 simp only[] at e0 e1 e2 e3 e4 e5 e6 e7 e8 e9 e10 e11 e12 hlt1
 obtain ⟨oc,of,ol⟩:=HQ.out.outFacts
 have o0:w8.cell? ⟨b,0,none⟩=some (.int .u8 0):=oc 0
 have o1:w8.cell? ⟨b,1,none⟩=some (.int .u8 0):=oc 1
 have o2:w8.cell? ⟨b,2,none⟩=some (.int .u8 0):=oc 2
 have o3:w8.cell? ⟨b,3,none⟩=some (.int .u8 0):=oc 3
 have o4:w8.cell? ⟨b,4,none⟩=some (.int .u16 0):=oc 4
 have o5:w8.cell? ⟨b,5,none⟩=some (.bool false):=oc 5
 have o6:w8.cell? ⟨b,6,none⟩=some (.bool false):=oc 6
 have o7:w8.cell? ⟨b,7,none⟩=some (.bool false):=oc 7
 have o8:w8.cell? ⟨b,8,none⟩=some (.bool false):=oc 8
 have o9:w8.cell? ⟨b,9,none⟩=some (.bool false):=oc 9
 have o10:w8.cell? ⟨b,10,none⟩=some (.bool false):=oc 10
 have o11:w8.cell? ⟨b,11,none⟩=some (.slice none 0 0):=oc 11
 have o12:w8.cell? ⟨b,12,none⟩=some (.slice none 0 0):=oc 12
 have hbg:b ≠ g:=HQ.out.outOther.1
 have hgb:g ≠ b:=hbg.symm
 have HO:=Aside0.mk HQ.out.out
 have HBW:=Aside0.mk HQ.out.below
 have hbb:=HQ.out.hg
 simp only[] at hbb HBW
 clear oc HQ
 go_region_held3 (fun w'=>w'.cell? ⟨g,0,none⟩=some (.int .u8 q.c.A)∧w'.cell? ⟨g,1,none⟩=some (.int .u8 q.c.X)∧w'.cell? ⟨g,2,none⟩=some (.int .u8 q.c.Y)∧w'.cell? ⟨g,3,none⟩=some (.int .u8 q.c.S)∧w'.cell? ⟨g,4,none⟩=some (.int .u16 q.c.PC)∧w'.cell? ⟨g,5,none⟩=some (.bool q.c.F.N)∧w'.cell? ⟨g,6,none⟩=some (.bool q.c.F.V)∧w'.cell? ⟨g,7,none⟩=some (.bool q.c.F.D)∧w'.cell? ⟨g,8,none⟩=some (.bool q.c.F.I)∧w'.cell? ⟨g,9,none⟩=some (.bool q.c.F.Z)∧w'.cell? ⟨g,10,none⟩=some (.bool q.c.F.C)∧w'.cell? ⟨g,11,none⟩=some (.slice (some ⟨r,0,none⟩) q.m.length cap)∧w'.cell? ⟨g,12,none⟩=some (.slice Aq q.t.length dq)) (first|(go_keep;done)|(go_split_ands;(repeat' apply And.intro) <;> (first|(with_reducible assumption)|(go_simp;done)|(exact cell_keep blw (by assumption))|exact blw))) (first|fail)
 refine ⟨rfl,?_⟩
 repeat apply Exists.intro
 refine ⟨⟨?_,?_,?_,?_⟩,rfl⟩
 ·exact (shot13 q.c HO.out).drew
 ·intro k hk
  show Same w8 _ k
  (repeat (with_reducible first|exact Same.refl _ _|refine Same.drew ?_|refine Same.set ?_ hk))
 ·(repeat (with_reducible first|exact HBW.out|refine below_drew ?_|refine Below.setCell ?_ hbb _))
 ·simp only[sC,sD]
end Go.Proofs.YtoncmhfmkfeolaaGreatDoor
