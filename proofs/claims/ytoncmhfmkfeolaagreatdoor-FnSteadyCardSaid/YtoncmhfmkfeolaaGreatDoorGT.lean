/- The draw of a run. -/
import Derived.Test.YtoncmhfmkfeolaaGreatDoorGS
import Derived.Test.YtoncmhfmkfeolaaGreatDoorWLast
import Derived.Test.YtoncmhfmkfeolaaGreatDoorGP
import Derived.BigQuiet
set_option maxRecDepth 100000
set_option maxHeartbeats 8000000
set_option linter.unusedVariables false
set_option linter.unusedSimpArgs false
namespace Go.Proofs.YtoncmhfmkfeolaaGreatDoor
open Go.RowKit Go.Proofs.YtoncmhfmkfeolaaGreatDoorW.PrintWords
structure Dr (w wr:World) (g:Nat) (A:Option Addr) (c:Nat) (l:List Int) (z0 z1 rr a hi:Nat) (p:Cpu) (vR:Value) (R:List Int):Prop where
 ka:Blk wr a #[.int .u8 p.A,.int .u8 p.X,.int .u8 p.Y,.int .u8 p.S,.int .u16 p.PC,.bool p.F.N,.bool p.F.V,.bool p.F.D,.bool p.F.I,.bool p.F.Z,.bool p.F.C] 28
 kr:Blk wr rr #[vR] 30
 zc:Blk wr z0 #[.int .u8 0,.int .u8 0,.int .u8 0,.int .u8 0,.int .u16 0,.bool false,.bool false,.bool false,.bool false,.bool false,.bool false] 28
 zr:Blk wr z1 #[.slice none 0 0] 30
 own:OwnX wr w.heap.size hi vR R
 cur:Cur wr g A c l
 only:w.grownBy wr (some g)
 ha:w.heap.size≤a
 hr:w.heap.size≤rr
 hw:w.heap.size≤hi
 hi_:hi≤wr.heap.size
 hg:g<w.heap.size
 n0:z0<w.heap.size
 n1:z1<w.heap.size
 g0:z0 ≠ g
 g1:z1 ≠ g
section
variable {w wr w2:World} {g:Nat} {A:Option Addr} {c:Nat} {l:List Int} {z0 z1 rr a hi:Nat} {p:Cpu} {vR:Value} {R:List Int}
theorem XX {w w':World} {lo hi:Nat} {v:Value} {l:List Int} (h:OwnX w lo hi v l) (hm:∀ k,v.ownBlock=some k→w'.heap[k]?=w.heap[k]?):OwnX w' lo hi v l:=by
 obtain ⟨h0,inner,ho,hr⟩:=h
 exact ⟨h0,inner,own_move ho hm,hr.imp_ (fun _ _ hp=>hp)⟩
theorem Dr.call (h:Dr w wr g A c l z0 z1 rr a hi p vR R) (hc:Cur w2 g A c l) (hb:wr.grownBy w2 (some g)):Dr w w2 g A c l z0 z1 rr a hi p vR R:=by
 have:=h.hg;have:=h.ha;have:=h.hr;have:=h.hw
 exact ⟨h.ka.grown hb (some_ne (by omega)),h.kr.grown hb (some_ne (by omega)),h.zc.grown hb (some_ne h.g0),h.zr.grown hb (some_ne h.g1),h.own.grown hb (fun k e=>by injection e with e;omega),hc,h.only.trans hb,h.ha,h.hr,h.hw,Nat.le_trans h.hi_ hb.size,h.hg,h.n0,h.n1,h.g0,h.g1⟩
theorem Dr.below (h:Dr w wr g A c l z0 z1 rr a hi p vR R) (hb:Below wr.heap.size wr w2):Dr w w2 g A c l z0 z1 rr a hi p vR R :=
 ⟨h.ka.below hb,h.kr.below hb,h.zc.below hb,h.zr.below hb,h.own.below hb,h.cur.below hb,grown_below h.only hb,h.ha,h.hr,h.hw,Nat.le_trans h.hi_ hb.size,h.hg,h.n0,h.n1,h.g0,h.g1⟩
theorem Dr.grow (h:Dr w wr g A c l z0 z1 rr a hi p vR R) {v6:Value} {L:List Int} (ho:OwnB wr hi v6 L) (hb:wr.grownBy w2 v6.ownBlock):Dr w w2 g A c l z0 z1 rr a hi p vR R:=by
 have h1:=h.hg;have h2:=h.hw
 have hr:∀ k,v6.ownBlock=some k→hi≤k:=fun k e=>Kd.R_base ho k e
 refine ⟨h.ka.grown hb (row_ne ho h.ka (by decide)),h.kr.grown hb (row_ne ho h.kr (by decide)),h.zc.grown hb (row_ne ho h.zc (by decide)),h.zr.grown hb (row_ne ho h.zr (by decide)),h.own.grown hb (fun k e=>.inr (hr k e)),h.cur.away hb (fun k e=>by have:=hr k e;omega),⟨hb.os.trans h.only.os,hb.tape.trans h.only.tape,hb.output.trans h.only.output,Nat.le_trans h.only.size hb.size,fun k hk hne=>?_⟩,h.ha,h.hr,h.hw,Nat.le_trans h.hi_ hb.size,h.hg,h.n0,h.n1,h.g0,h.g1⟩
 rw[hb.block k (Nat.lt_of_lt_of_le hk h.only.size) (fun e=>by have:=hr k e.symm;omega)]
 exact h.only.block k hk hne
theorem Dr.setR (h:Dr w wr g A c l z0 z1 rr a hi p vR R) {v':Value} {R':List Int} (ho:OwnB wr w.heap.size v' R'):Dr w (wr.setCell ⟨rr,0,none⟩ v') g A c l z0 z1 rr a wr.heap.size p v' R':=by
 have h1:=h.hg;have h2:=h.hr;have h3:=h.only.size
 refine ⟨h.ka.far (blk_ne h.ka h.kr (by decide)),blk_set h.kr 0 _,h.zc.far (by have:=h.n0;omega),h.zr.far (by have:=h.n1;omega),OwnX.keep (OwnX.of ho) (fun k e=>?_),h.cur.put (by omega),grown_new h.only (by omega) _ _,h.ha,h.hr,h3,?_,h.hg,h.n0,h.n1,h.g0,h.g1⟩
 ·obtain ⟨c1,h1⟩:=Kd.R_typed ho k e
  exact set_block _ _ _ _ _ (blk_ne h1 h.kr (by decide))
 ·rw[sC];exact Nat.le_refl _
theorem Dr.growV (h:Dr w wr g A c l z0 z1 rr a hi p vR R) {v6:Value} {E:List Evt} (ho:OwnV wr hi v6 E) (hb:wr.grownBy w2 v6.ownBlock):Dr w w2 g A c l z0 z1 rr a hi p vR R:=by
 have h1:=h.hg;have h2:=h.hw
 have hr:∀ k,v6.ownBlock=some k→hi≤k:=fun k e=>Kd.R_base ho k e
 refine ⟨h.ka.grown hb (row_ne ho h.ka (by decide)),h.kr.grown hb (row_ne ho h.kr (by decide)),h.zc.grown hb (row_ne ho h.zc (by decide)),h.zr.grown hb (row_ne ho h.zr (by decide)),h.own.grown hb (fun k e=>.inr (hr k e)),h.cur.away hb (fun k e=>by have:=hr k e;omega),⟨hb.os.trans h.only.os,hb.tape.trans h.only.tape,hb.output.trans h.only.output,Nat.le_trans h.only.size hb.size,fun k hk hne=>?_⟩,h.ha,h.hr,h.hw,Nat.le_trans h.hi_ hb.size,h.hg,h.n0,h.n1,h.g0,h.g1⟩
 rw[hb.block k (Nat.lt_of_lt_of_le hk h.only.size) (fun e=>by have:=hr k e.symm;omega)]
 exact h.only.block k hk hne
end
end Go.Proofs.YtoncmhfmkfeolaaGreatDoor
namespace Go.Proofs.YtoncmhfmkfeolaaGreatDoor
open Go.RowKit Go.Proofs.YtoncmhfmkfeolaaGreatDoorW.PrintWords Go.Proofs.YtoncmhfmkfeolaaGreatDoorW.PrintLast
theorem set11 {w:World} {g:Nat} {t:TypeId} {a0 a1 a2 a3 a4 a5 a6 a7 a8 a9 a10 b0 b1 b2 b3 b4 b5 b6 b7 b8 b9 b10:Value} (h:Blk w g #[a0,a1,a2,a3,a4,a5,a6,a7,a8,a9,a10] t):Blk (((((((((((w.setCell ⟨g,0,none⟩ b0).setCell ⟨g,1,none⟩ b1).setCell ⟨g,2,none⟩ b2).setCell ⟨g,3,none⟩ b3).setCell ⟨g,4,none⟩ b4).setCell ⟨g,5,none⟩ b5).setCell ⟨g,6,none⟩ b6).setCell ⟨g,7,none⟩ b7).setCell ⟨g,8,none⟩ b8).setCell ⟨g,9,none⟩ b9).setCell ⟨g,10,none⟩ b10) g #[b0,b1,b2,b3,b4,b5,b6,b7,b8,b9,b10] t:=by
 have h:Blk (w.setCell ⟨g,0,none⟩ b0) g #[b0,a1,a2,a3,a4,a5,a6,a7,a8,a9,a10] t:=blk_set h 0 _
 generalize (w.setCell ⟨g,0,none⟩ b0)=w0 at h ⊢
 have h:Blk (w0.setCell ⟨g,1,none⟩ b1) g #[b0,b1,a2,a3,a4,a5,a6,a7,a8,a9,a10] t:=blk_set h 1 _
 generalize (w0.setCell ⟨g,1,none⟩ b1)=w1 at h ⊢
 have h:Blk (w1.setCell ⟨g,2,none⟩ b2) g #[b0,b1,b2,a3,a4,a5,a6,a7,a8,a9,a10] t:=blk_set h 2 _
 generalize (w1.setCell ⟨g,2,none⟩ b2)=w2 at h ⊢
 have h:Blk (w2.setCell ⟨g,3,none⟩ b3) g #[b0,b1,b2,b3,a4,a5,a6,a7,a8,a9,a10] t:=blk_set h 3 _
 generalize (w2.setCell ⟨g,3,none⟩ b3)=w3 at h ⊢
 have h:Blk (w3.setCell ⟨g,4,none⟩ b4) g #[b0,b1,b2,b3,b4,a5,a6,a7,a8,a9,a10] t:=blk_set h 4 _
 generalize (w3.setCell ⟨g,4,none⟩ b4)=w4 at h ⊢
 have h:Blk (w4.setCell ⟨g,5,none⟩ b5) g #[b0,b1,b2,b3,b4,b5,a6,a7,a8,a9,a10] t:=blk_set h 5 _
 generalize (w4.setCell ⟨g,5,none⟩ b5)=w5 at h ⊢
 have h:Blk (w5.setCell ⟨g,6,none⟩ b6) g #[b0,b1,b2,b3,b4,b5,b6,a7,a8,a9,a10] t:=blk_set h 6 _
 generalize (w5.setCell ⟨g,6,none⟩ b6)=w6 at h ⊢
 have h:Blk (w6.setCell ⟨g,7,none⟩ b7) g #[b0,b1,b2,b3,b4,b5,b6,b7,a8,a9,a10] t:=blk_set h 7 _
 generalize (w6.setCell ⟨g,7,none⟩ b7)=w7 at h ⊢
 have h:Blk (w7.setCell ⟨g,8,none⟩ b8) g #[b0,b1,b2,b3,b4,b5,b6,b7,b8,a9,a10] t:=blk_set h 8 _
 generalize (w7.setCell ⟨g,8,none⟩ b8)=w8 at h ⊢
 have h:Blk (w8.setCell ⟨g,9,none⟩ b9) g #[b0,b1,b2,b3,b4,b5,b6,b7,b8,b9,a10] t:=blk_set h 9 _
 generalize (w8.setCell ⟨g,9,none⟩ b9)=w9 at h ⊢
 have h:Blk (w9.setCell ⟨g,10,none⟩ b10) g #[b0,b1,b2,b3,b4,b5,b6,b7,b8,b9,b10] t:=blk_set h 10 _
 exact h
theorem drReg9 (w1 wr:World) (g:Nat) (A:Option Addr) (c:Nat) (l:List Int) (z0 z1 rr a hi:Nat) (p:Cpu) (A1:Option Addr) (c1:Nat) (R:List Int) (vE:Value) (hl:l.length≤1048576) (HM:Aside0 (Dr w1 wr g A c l z0 z1 rr a hi p (.slice A1 R.length c1) R))
  (s0 s1 s4 s5 s10 s11 s12 s13 s14 s15 s16 s17 s18 s19 s20 s21 s22 s23 s24 s25 s26 s27 s28 s29 s30 s31 s32 s33 s34 s35 s36 s37 s38 s39 s40 s41 s42:Value) :
  Code.wp Tryz.prog ((Tryz.f10.body.bind (regOf 9)).getD .skip) (OnNormal fun a' w'=>∃ u4 u5 u37 u38 u39 u40 u41 u42,(u4=vE∧(∃ n:Int,u5=.int .i64 n)∧Blk w' z0 #[.int .u8 p.A,.int .u8 p.X,.int .u8 p.Y,.int .u8 p.S,.int .u16 p.PC,.bool p.F.N,.bool p.F.V,.bool p.F.D,.bool p.F.I,.bool p.F.Z,.bool p.F.C] 28∧Blk w' z1 #[.slice A1 R.length c1] 30∧(∀ k,k<wr.heap.size→k ≠ g→k ≠ z0→k ≠ z1→w'.heap[k]?=wr.heap[k]?)∧(∀ B w0,Below B w0 wr→B≤g→B≤z0→B≤z1→Below B w0 w'))∧a'=⟨#[s0,s1,.pointer (some ⟨z0,0,none⟩),.pointer (some ⟨z1,0,none⟩),u4,u5,.pointer (some ⟨g,0,none⟩),.pointer (some ⟨a,0,none⟩),.pointer (some ⟨rr,0,none⟩),vE,s10,s11,s12,s13,s14,s15,s16,s17,s18,s19,s20,s21,s22,s23,s24,s25,s26,s27,s28,s29,s30,s31,s32,s33,s34,s35,s36,u37,u38,u39,u40,u41,u42],[]⟩) ⟨#[s0,s1,.pointer (some ⟨z0,0,none⟩),.pointer (some ⟨z1,0,none⟩),s4,s5,.pointer (some ⟨g,0,none⟩),.pointer (some ⟨a,0,none⟩),.pointer (some ⟨rr,0,none⟩),vE,s10,s11,s12,s13,s14,s15,s16,s17,s18,s19,s20,s21,s22,s23,s24,s25,s26,s27,s28,s29,s30,s31,s32,s33,s34,s35,s36,s37,s38,s39,s40,s41,s42],[]⟩ wr:=by
 conv=>arg 2;whnf
 have HM0:=HM
 replace HM:=Aside0.mk (HM.out.below (below_drew1 (Below.refl _ _)))
 refine start_ (n:=10) (S:=fun w'=>w'.cell? ⟨a,0,none⟩=some (.int .u8 p.A)∧w'.cell? ⟨a,1,none⟩=some (.int .u8 p.X)∧w'.cell? ⟨a,2,none⟩=some (.int .u8 p.Y)∧w'.cell? ⟨a,3,none⟩=some (.int .u8 p.S)∧w'.cell? ⟨a,4,none⟩=some (.int .u16 p.PC)∧w'.cell? ⟨a,5,none⟩=some (.bool p.F.N)∧w'.cell? ⟨a,6,none⟩=some (.bool p.F.V)∧w'.cell? ⟨a,7,none⟩=some (.bool p.F.D)∧w'.cell? ⟨a,8,none⟩=some (.bool p.F.I)∧w'.cell? ⟨a,9,none⟩=some (.bool p.F.Z)∧w'.cell? ⟨a,10,none⟩=some (.bool p.F.C)∧w'.cell? ⟨rr,0,none⟩=some (.slice A1 R.length c1)) (ds:=[7]) #[false,false,false,false,false,false,false,false,false,false] (by kernel_rfl) rfl rfl ?_ (fun hHeld=>?_)
 ·exact ⟨(cpuAll HM.out.ka).1,(cpuAll HM.out.ka).2.1,(cpuAll HM.out.ka).2.2.1,(cpuAll HM.out.ka).2.2.2.1,(cpuAll HM.out.ka).2.2.2.2.1,(cpuAll HM.out.ka).2.2.2.2.2.1,(cpuAll HM.out.ka).2.2.2.2.2.2.1,(cpuAll HM.out.ka).2.2.2.2.2.2.2.1,(cpuAll HM.out.ka).2.2.2.2.2.2.2.2.1,(cpuAll HM.out.ka).2.2.2.2.2.2.2.2.2.1,(cpuAll HM.out.ka).2.2.2.2.2.2.2.2.2.2,HM.out.kr.one⟩
 have HB:Aside0 (Below wr.heap.size wr wr.drew):=⟨below_drew1 (Below.refl _ _)⟩
 generalize wr.drew=W at *
 refine pure_ (i:=2) (N:=some 39) (v:=?_) (a':=?_) #[false,false,true,false,false,false,false,false,false,false] rfl rfl (by kernel_rfl) (fun _ _ _ h=>h) (Or.inl ⟨by rfl,?_⟩) ?_ ?_
 rotate_left
 ·intro w'
  go_simp
  with_reducible rfl
 rotate_left
 ·simp only[Act.put,List.setIfInBounds_toArray,List.set_cons_zero,List.set_cons_succ,i64_w,i32_w]
  rfl
 refine pure_ (i:=3) (N:=some 40) (v:=?_) (a':=?_) #[false,false,true,true,false,false,false,false,false,false] rfl rfl (by kernel_rfl) (fun _ _ _ h=>h) (Or.inl ⟨by rfl,?_⟩) ?_ ?_
 rotate_left
 ·intro w'
  go_simp
  with_reducible rfl
 rotate_left
 ·simp only[Act.put,List.setIfInBounds_toArray,List.set_cons_zero,List.set_cons_succ,i64_w,i32_w]
  rfl
 refine take_ (i:=0) (N:=some 37) (v:=?_) (a':=?_) #[true,false,true,true,false,false,false,false,false,false] rfl rfl (by kernel_rfl) (fun _ _ _ h=>h) (Or.inl ⟨by rfl,?_⟩) hHeld ?_ ?_
 rotate_left
 ·rintro w' ⟨s0',s1',s2',s3',s4',s5',s6',s7',s8',s9',s10',s11'⟩
  go_simp
  with_reducible rfl
 rotate_left
 ·simp only[Act.put,List.setIfInBounds_toArray,List.set_cons_zero,List.set_cons_succ,i64_w,i32_w]
  rfl
 refine take_ (i:=1) (N:=some 38) (v:=?_) (a':=?_) #[true,true,true,true,false,false,false,false,false,false] rfl rfl (by kernel_rfl) (fun _ _ _ h=>h) (Or.inl ⟨by rfl,?_⟩) hHeld ?_ ?_
 rotate_left
 ·rintro w' ⟨s0',s1',s2',s3',s4',s5',s6',s7',s8',s9',s10',s11'⟩
  go_simp
  with_reducible rfl
 rotate_left
 ·simp only[Act.put,List.setIfInBounds_toArray,List.set_cons_zero,List.set_cons_succ,i64_w,i32_w]
  rfl
 refine one_ (i:=4) (N:=some 41) #[true,true,true,true,true,false,false,false,false,false] rfl rfl (by kernel_rfl) (by decide) (fun K hK=>?_)
 refine value_ (w1:=?_) (v:=?_) (by rfl) rfl ?_ ?_
 rotate_left 2
 ·go_simp
  constructor
  ·rfl
  ·rfl
 have hb:Below W.heap.size W (W.alloc (.cells #[.int .i64 0,.int .i64 1,.int .i64 5,.int .i64 20,.int .i64 40,.int .i64 120,.int .i64 121,.int .i64 (-1)] 3)):=blw
 have KL:Aside0 (Kd.C (Kd.int .i64) (W.alloc (.cells #[.int .i64 0,.int .i64 1,.int .i64 5,.int .i64 20,.int .i64 40,.int .i64 120,.int .i64 121,.int .i64 (-1)] 3)) (some ⟨W.heap.size,0,none⟩) 8 [0,1,5,20,40,120,121,-1]):=⟨C_alloc W [0,1,5,20,40,120,121,-1] 3 (by simp)⟩
 have hgW:g ≠ W.heap.size:=by have:=HM.out.only.size;have:=HM.out.hg;omega
 replace HM:=Aside0.mk (HM.out.below hb)
 replace HB:=Aside0.mk (below_step HB.out hb)
 clear hb hHeld
 obtain ⟨gl,hgl⟩:∃ x,W.heap.size=x:=⟨_,rfl⟩
 rw[hgl] at KL hgW ⊢
 generalize W.alloc (.cells #[.int .i64 0,.int .i64 1,.int .i64 5,.int .i64 20,.int .i64 40,.int .i64 120,.int .i64 121,.int .i64 (-1)] 3)=Wa at *
 refine hK.out _ _ ⟨(cpuAll HM.out.ka).1,(cpuAll HM.out.ka).2.1,(cpuAll HM.out.ka).2.2.1,(cpuAll HM.out.ka).2.2.2.1,(cpuAll HM.out.ka).2.2.2.2.1,(cpuAll HM.out.ka).2.2.2.2.2.1,(cpuAll HM.out.ka).2.2.2.2.2.2.1,(cpuAll HM.out.ka).2.2.2.2.2.2.2.1,(cpuAll HM.out.ka).2.2.2.2.2.2.2.2.1,(cpuAll HM.out.ka).2.2.2.2.2.2.2.2.2.1,(cpuAll HM.out.ka).2.2.2.2.2.2.2.2.2.2,HM.out.kr.one⟩ (fun hHeld=>?_)
 clear hK K
 refine norm_ (a':=?_) ?_ ?_
 rotate_left
 ·show Act.put _ (some 41) _=_
  simp only[Act.put,List.setIfInBounds_toArray,List.set_cons_zero,List.set_cons_succ,i64_w,i32_w]
  rfl
 refine one_ (i:=5) (N:=some 42) #[true,true,true,true,true,true,false,false,false,false] rfl rfl (by kernel_rfl) (by decide) (fun K hK=>?_)
 refine goes_ Tryz.func48 (by kernel_rfl) rfl #[.pointer (some ⟨g,0,none⟩),.slice (some ⟨gl,0,none⟩) 8 8] (by rfl) rfl rfl (by simp only[List.map_toArray,List.map_cons,List.map_nil];rfl) ?_
 refine Calls.mono (spec_l01PickInt g A c l (some ⟨gl,0,none⟩) 8 [0,1,5,20,40,120,121,-1] _ HM.out.cur hl KL.out (by simp) (by simp) (fun ad e=>by injection e with e;subst e;exact fun q=>hgW q.symm)) ?_
 rintro _ w8 ⟨q,hq,rfl,hc,hb⟩
 refine ⟨_,rfl,?_⟩
 have HG:=Aside0.mk hb
 replace HM:=Aside0.mk (HM.out.call hc hb)
 clear hc hb hHeld KL
 refine hK.out _ _ ⟨(cpuAll HM.out.ka).1,(cpuAll HM.out.ka).2.1,(cpuAll HM.out.ka).2.2.1,(cpuAll HM.out.ka).2.2.2.1,(cpuAll HM.out.ka).2.2.2.2.1,(cpuAll HM.out.ka).2.2.2.2.2.1,(cpuAll HM.out.ka).2.2.2.2.2.2.1,(cpuAll HM.out.ka).2.2.2.2.2.2.2.1,(cpuAll HM.out.ka).2.2.2.2.2.2.2.2.1,(cpuAll HM.out.ka).2.2.2.2.2.2.2.2.2.1,(cpuAll HM.out.ka).2.2.2.2.2.2.2.2.2.2,HM.out.kr.one⟩ (fun hHeld=>?_)
 clear hK K
 refine norm_ (a':=?_) ?_ ?_
 rotate_left
 ·show Act.put _ (some 42) _=_
  simp only[Act.put,List.setIfInBounds_toArray,List.set_cons_zero,List.set_cons_succ,i64_w,i32_w]
  rfl
 have KA:=Aside0.mk HM.out.zc
 have KB:=Aside0.mk HM.out.zr
 have fA:=HM.out.zc.free
 have fB:=HM.out.zr.free
 have lA:=HM.out.zc.lt
 have lB:=HM.out.zr.lt
 obtain ⟨z0',z1',z2',z3',z4',z5',z6',z7',z8',z9',z10'⟩:=Blk.cpu (c:=⟨0,0,0,0,0,⟨false,false,false,false,false,false⟩⟩) HM.out.zc
 have y0:=HM.out.zr.one
 have hz01:z0 ≠ z1:=blk_ne HM.out.zc HM.out.zr (by decide)
 have hz10:z1 ≠ z0:=hz01.symm
 have hza:a ≠ z0:=by have:=HM.out.ha;have:=HM.out.n0;omega
 have hzr:rr ≠ z0:=by have:=HM.out.hr;have:=HM.out.n0;omega
 have hza1:a ≠ z1:=by have:=HM.out.ha;have:=HM.out.n1;omega
 have hzr1:rr ≠ z1:=by have:=HM.out.hr;have:=HM.out.n1;omega
 refine one_ (i:=6) (N:=none) #[true,true,true,true,true,true,true,false,false,false] rfl rfl (by kernel_rfl) (by decide) (fun K hK=>?_)
 refine skip_ (w1:=?_) (by rfl) rfl ?_ ?_
 rotate_left
 ·go_simp
  rfl
 have HKA:Blk (((((((((((w8.setCell ⟨z0,0,none⟩ (.int .u8 p.A)).setCell ⟨z0,1,none⟩ (.int .u8 p.X)).setCell ⟨z0,2,none⟩ (.int .u8 p.Y)).setCell ⟨z0,3,none⟩ (.int .u8 p.S)).setCell ⟨z0,4,none⟩ (.int .u16 p.PC)).setCell ⟨z0,5,none⟩ (.bool p.F.N)).setCell ⟨z0,6,none⟩ (.bool p.F.V)).setCell ⟨z0,7,none⟩ (.bool p.F.D)).setCell ⟨z0,8,none⟩ (.bool p.F.I)).setCell ⟨z0,9,none⟩ (.bool p.F.Z)).setCell ⟨z0,10,none⟩ (.bool p.F.C)) a #[.int .u8 p.A,.int .u8 p.X,.int .u8 p.Y,.int .u8 p.S,.int .u16 p.PC,.bool p.F.N,.bool p.F.V,.bool p.F.D,.bool p.F.I,.bool p.F.Z,.bool p.F.C] 28:=by (repeat (with_reducible first|exact HM.out.ka|refine Blk.far ?_ hza))
 have HKR:Blk (((((((((((w8.setCell ⟨z0,0,none⟩ (.int .u8 p.A)).setCell ⟨z0,1,none⟩ (.int .u8 p.X)).setCell ⟨z0,2,none⟩ (.int .u8 p.Y)).setCell ⟨z0,3,none⟩ (.int .u8 p.S)).setCell ⟨z0,4,none⟩ (.int .u16 p.PC)).setCell ⟨z0,5,none⟩ (.bool p.F.N)).setCell ⟨z0,6,none⟩ (.bool p.F.V)).setCell ⟨z0,7,none⟩ (.bool p.F.D)).setCell ⟨z0,8,none⟩ (.bool p.F.I)).setCell ⟨z0,9,none⟩ (.bool p.F.Z)).setCell ⟨z0,10,none⟩ (.bool p.F.C)) rr #[.slice A1 R.length c1] 30:=by (repeat (with_reducible first|exact HM.out.kr|refine Blk.far ?_ hzr))
 refine hK.out _ _ ⟨(cpuAll HKA).1,(cpuAll HKA).2.1,(cpuAll HKA).2.2.1,(cpuAll HKA).2.2.2.1,(cpuAll HKA).2.2.2.2.1,(cpuAll HKA).2.2.2.2.2.1,(cpuAll HKA).2.2.2.2.2.2.1,(cpuAll HKA).2.2.2.2.2.2.2.1,(cpuAll HKA).2.2.2.2.2.2.2.2.1,(cpuAll HKA).2.2.2.2.2.2.2.2.2.1,(cpuAll HKA).2.2.2.2.2.2.2.2.2.2,HKR.one⟩ (fun hHeld=>?_)
 clear hK K
 have HZ0:Aside0 (Blk (((((((((((w8.setCell ⟨z0,0,none⟩ (.int .u8 p.A)).setCell ⟨z0,1,none⟩ (.int .u8 p.X)).setCell ⟨z0,2,none⟩ (.int .u8 p.Y)).setCell ⟨z0,3,none⟩ (.int .u8 p.S)).setCell ⟨z0,4,none⟩ (.int .u16 p.PC)).setCell ⟨z0,5,none⟩ (.bool p.F.N)).setCell ⟨z0,6,none⟩ (.bool p.F.V)).setCell ⟨z0,7,none⟩ (.bool p.F.D)).setCell ⟨z0,8,none⟩ (.bool p.F.I)).setCell ⟨z0,9,none⟩ (.bool p.F.Z)).setCell ⟨z0,10,none⟩ (.bool p.F.C)) z0 #[.int .u8 p.A,.int .u8 p.X,.int .u8 p.Y,.int .u8 p.S,.int .u16 p.PC,.bool p.F.N,.bool p.F.V,.bool p.F.D,.bool p.F.I,.bool p.F.Z,.bool p.F.C] 28):=⟨set11 HM.out.zc⟩
 have HZ1:Aside0 (Blk (((((((((((w8.setCell ⟨z0,0,none⟩ (.int .u8 p.A)).setCell ⟨z0,1,none⟩ (.int .u8 p.X)).setCell ⟨z0,2,none⟩ (.int .u8 p.Y)).setCell ⟨z0,3,none⟩ (.int .u8 p.S)).setCell ⟨z0,4,none⟩ (.int .u16 p.PC)).setCell ⟨z0,5,none⟩ (.bool p.F.N)).setCell ⟨z0,6,none⟩ (.bool p.F.V)).setCell ⟨z0,7,none⟩ (.bool p.F.D)).setCell ⟨z0,8,none⟩ (.bool p.F.I)).setCell ⟨z0,9,none⟩ (.bool p.F.Z)).setCell ⟨z0,10,none⟩ (.bool p.F.C)) z1 #[.slice none 0 0] 30):=⟨by (repeat (with_reducible first|exact HM.out.zr|refine Blk.far ?_ hz10))⟩
 have HSM:Aside0 (∀ k,k ≠ z0→Same w8 (((((((((((w8.setCell ⟨z0,0,none⟩ (.int .u8 p.A)).setCell ⟨z0,1,none⟩ (.int .u8 p.X)).setCell ⟨z0,2,none⟩ (.int .u8 p.Y)).setCell ⟨z0,3,none⟩ (.int .u8 p.S)).setCell ⟨z0,4,none⟩ (.int .u16 p.PC)).setCell ⟨z0,5,none⟩ (.bool p.F.N)).setCell ⟨z0,6,none⟩ (.bool p.F.V)).setCell ⟨z0,7,none⟩ (.bool p.F.D)).setCell ⟨z0,8,none⟩ (.bool p.F.I)).setCell ⟨z0,9,none⟩ (.bool p.F.Z)).setCell ⟨z0,10,none⟩ (.bool p.F.C)) k):=⟨fun k hk=>by (repeat (with_reducible first|exact Same.refl _ _|refine Same.set ?_ hk))⟩
 have HBL:Aside0 (∀ B w0,Below B w0 w8→B≤z0→Below B w0 (((((((((((w8.setCell ⟨z0,0,none⟩ (.int .u8 p.A)).setCell ⟨z0,1,none⟩ (.int .u8 p.X)).setCell ⟨z0,2,none⟩ (.int .u8 p.Y)).setCell ⟨z0,3,none⟩ (.int .u8 p.S)).setCell ⟨z0,4,none⟩ (.int .u16 p.PC)).setCell ⟨z0,5,none⟩ (.bool p.F.N)).setCell ⟨z0,6,none⟩ (.bool p.F.V)).setCell ⟨z0,7,none⟩ (.bool p.F.D)).setCell ⟨z0,8,none⟩ (.bool p.F.I)).setCell ⟨z0,9,none⟩ (.bool p.F.Z)).setCell ⟨z0,10,none⟩ (.bool p.F.C))):=⟨fun B w0 h hB=>by (repeat (with_reducible first|exact h|refine Below.setCell ?_ hB _))⟩
 clear HKA HKR fA fB lA lB z0' z1' z2' z3' z4' z5' z6' z7' z8' z9' z10' y0
 generalize (((((((((((w8.setCell ⟨z0,0,none⟩ (.int .u8 p.A)).setCell ⟨z0,1,none⟩ (.int .u8 p.X)).setCell ⟨z0,2,none⟩ (.int .u8 p.Y)).setCell ⟨z0,3,none⟩ (.int .u8 p.S)).setCell ⟨z0,4,none⟩ (.int .u16 p.PC)).setCell ⟨z0,5,none⟩ (.bool p.F.N)).setCell ⟨z0,6,none⟩ (.bool p.F.V)).setCell ⟨z0,7,none⟩ (.bool p.F.D)).setCell ⟨z0,8,none⟩ (.bool p.F.I)).setCell ⟨z0,9,none⟩ (.bool p.F.Z)).setCell ⟨z0,10,none⟩ (.bool p.F.C))=w9 at *
 have fB:=HZ1.out.free 0
 have lB:=HZ1.out.lt
 have y0:=HZ1.out.one
 refine last_ (i:=7) (N:=none) #[true,true,true,true,true,true,true,true,false,false] rfl rfl (by kernel_rfl) (by decide) (fun K hK=>?_)
 refine skip_ (w1:=?_) (by rfl) rfl ?_ ?_
 rotate_left
 ·go_simp
  rfl
 refine hK.out _ _ ?_
 clear hK K
 refine pure_ (i:=8) (N:=some 4) (v:=?_) (a':=?_) #[true,true,true,true,true,true,true,true,true,false] rfl rfl (by kernel_rfl) (fun _ _ _ h=>h) (Or.inl ⟨by rfl,?_⟩) ?_ ?_
 rotate_left
 ·intro w'
  go_simp
  with_reducible rfl
 rotate_left
 ·simp only[Act.put,List.setIfInBounds_toArray,List.set_cons_zero,List.set_cons_succ,i64_w,i32_w]
  rfl
 refine pure_ (i:=9) (N:=some 5) (v:=?_) (a':=?_) #[true,true,true,true,true,true,true,true,true,true] rfl rfl (by kernel_rfl) (fun _ _ _ h=>h) (Or.inl ⟨by rfl,?_⟩) ?_ ?_
 rotate_left
 ·intro w'
  go_simp
  with_reducible rfl
 rotate_left
 ·simp only[Act.put,List.setIfInBounds_toArray,List.set_cons_zero,List.set_cons_succ,i64_w,i32_w]
  rfl
 refine done_ (by kernel_rfl) ?_
 refine ⟨_,_,_,_,_,_,_,_,⟨rfl,⟨_,rfl⟩,?_,?_,?_,?_⟩,rfl⟩
 ·exact HZ0.out.far hz01
 ·exact HZ1.out.put1
 ·intro k hk k0 k1 k2
  exact (set_block _ _ _ _ _ k2).trans ((show w9.heap[k]?=w8.heap[k]? from HSM.out k k1).trans ((HG.out.block k (Nat.lt_of_lt_of_le hk HB.out.size) (fun e=>k0 (by injection e))).trans (HB.out.block k hk)))
 ·intro B w0 h k0 k1 k2
  have h1:=HM0.out.hg
  have h2:=HM0.out.only.size
  have h3:=HB.out.size
  exact (HBL.out B w0 (Below.grown (h.trans (HB.out.mono (by omega))) HG.out (by omega) (fun k e=>by injection e with e;omega)) k1).setCell (p:=⟨z1,0,none⟩) k2 _
open Go.RowKit Go.Proofs.YtoncmhfmkfeolaaGreatDoorW.PrintWords
def lenV:Value→Nat
 | .slice _ n _=>n
 | _=>0
theorem spec_DrawRun (A:Option Addr) (c:Nat) (l:List Int) (w:World) (h:Bs w A l) (hl:l.length≤1048576) :
  Calls Tryz.prog 10 #[.slice A l.length c] w fun e w'=>∃ (p:Cpu) (R:List Int) (A1:Option Addr) (c1:Nat) (E:List Evt) (B1:Option Addr) (d1:Nat) (n:Int),e=.returned (.tuple #[.agg #[.int .u8 p.A,.int .u8 p.X,.int .u8 p.Y,.int .u8 p.S,.int .u16 p.PC,.bool p.F.N,.bool p.F.V,.bool p.F.D,.bool p.F.I,.bool p.F.Z,.bool p.F.C],.agg #[.slice A1 R.length c1],.slice B1 E.length d1,.int .i64 n])∧p.ok∧R.length≤8192∧(∀ i,0≤rd R i∧rd R i<256)∧OwnB w' w.heap.size (.slice A1 R.length c1) R∧OwnV w' w.heap.size (.slice B1 E.length d1) E∧E.length≤17∧Below w.heap.size w w':=by
 have HB:=hR w;go_enter Tryz.func10,Tryz.ntmps10
 go_wp2_with fail
 refine Calls.mono (spec_l01New A c l _ (h.below (blw)) hl) ?_
 rintro _ w1 ⟨g,rfl,g0,hc,hb⟩
 have hg:g<w1.heap.size:=World.block_lt_of_cell? w1 _ hc.b
 simp only[sA] at g0
 have K:Aside0 (Many w1 [(w.heap.size,#[.int .u8 0,.int .u8 0,.int .u8 0,.int .u8 0,.int .u16 0,.bool false,.bool false,.bool false,.bool false,.bool false,.bool false],28),(w.heap.size+1,#[.slice none 0 0],30)]):=⟨Many.below (Many.cons ((Blk.at rfl).alloc _) (Many.cons (Blk.at (by simp)) (Many.nil _))) hb⟩
 have hz1:=hb.size
 simp only[sA] at hz1
 have HB1:=Aside0.mk (below_step (w:=w) (blw) hb)
 clear hb
 go_wp2_with fail
 refine Calls.mono (spec_l07Machine g A c l _ hc hl) ?_
 rintro _ w2 ⟨p,R,A2,c2,rfl,hp0,hr,hRb,ho,hc2,hb2⟩
 replace K:=Aside0.mk (Many.grown K.out hb2 (by simp;omega))
 have hz2:=hb2.size
 have O:=Aside0.mk (OwnX.of ho)
 have HC2:=Aside0.mk hc2
 have HG2:=Aside0.mk hb2
 clear ho hc hc2 hb2
 have hR8:=ramSize_le hr
 go_upto_region 3 with (fail)
 have HM:Aside0 (Dr w1 ((w2.alloc (.cells #[.int .u8 p.A,.int .u8 p.X,.int .u8 p.Y,.int .u8 p.S,.int .u16 p.PC,.bool p.F.N,.bool p.F.V,.bool p.F.D,.bool p.F.I,.bool p.F.Z,.bool p.F.C] 28)).alloc (.cells #[.slice A2 R.length c2] 30)) g A c l w.heap.size (w.heap.size+1) (w2.heap.size+1) w2.heap.size w2.heap.size p (.slice A2 R.length c2) R):=⟨⟨(Blk.at rfl).alloc _,Blk.at (by simp),((K.out.at 0 rfl).alloc _).alloc _,((K.out.at 1 rfl).alloc _).alloc _,O.out.below (blw),HC2.out.below (blw),grown_below HG2.out (blw),by omega,by omega,by omega,by (first|omega|(simp only[sA,sC,sD] <;> omega)|(simp <;> omega)),hg,by omega,by omega,by omega,by omega⟩⟩
 clear K O HC2 HG2
 generalize (w2.alloc (.cells #[.int .u8 p.A,.int .u8 p.X,.int .u8 p.Y,.int .u8 p.S,.int .u16 p.PC,.bool p.F.N,.bool p.F.V,.bool p.F.D,.bool p.F.I,.bool p.F.Z,.bool p.F.C] 28)).alloc (.cells #[.slice A2 R.length c2] 30)=w3 at *
 go_wp2_with fail
 refine Calls.mono (spec_l01Once g A c l _ _ HM.out.cur hl (by omega) (by omega)) ?_
 rintro _ w4 ⟨b,rfl,hc4,hb4⟩
 replace HM:=Aside0.mk (HM.out.call hc4 hb4)
 clear hc4 hb4
 cases b
 ·go_wp2_with fail
  refine Calls.mono (spec_l07Events g A c l _ HM.out.cur hl) ?_
  rintro _ w6 ⟨E,B1,d1,rfl,hE,HE⟩
  have OE:=Aside0.mk (Kd.R_lower HE.own HM.out.hi_)
  replace HM:=Aside0.mk (HM.out.call HE.cur HE.only)
  clear HE
  have hwi:=HM.out.hw
  go_wp2_with fail
  refine Calls.mono (spec_l01Once g A c l _ _ HM.out.cur hl (by omega) (by omega)) ?_
  rintro _ w7 ⟨b2,rfl,hc7,hb7⟩
  replace OE:=Aside0.mk (OwnV.keep OE.out (fun k e=>hb7.block k (Kd.R_lt OE.out k e) (fun q=>by have:=Kd.R_base OE.out k e;injection q with q;omega)))
  replace HM:=Aside0.mk (HM.out.call hc7 hb7)
  clear hc7 hb7
  cases b2
  ·go_upto_region 9 with (fail)
   refine wp_normal (drReg9 w1 _ g A c l _ _ _ _ _ p _ _ R _ hl HM _ _ _ _ _ _ _ _ _ _ _ _ _ _ _ _ _ _ _ _ _ _ _ _ _ _ _ _ _ _ _ _ _ _ _ _ _) ?_
   rintro _ w9 ⟨u4,u5,u37,u38,u39,u40,u41,u42,⟨rfl,⟨n,rfl⟩,K0,K1,hk,hbel⟩,rfl⟩
   obtain ⟨x0,x1,x2,x3,x4,x5,x6,x7,x8,x9,x10⟩:=cpuAll K0
   have y0:=K1.one
   have l0:=K0.lt
   have l1:=K1.lt
   have HKK:=Aside0.mk hk
   have HBE:=Aside0.mk hbel
   clear hk hbel K0 K1
   go_wp2_with fail
   (refine bodyPost_ret (v:=.tuple #[.agg #[.int .u8 p.A,.int .u8 p.X,.int .u8 p.Y,.int .u8 p.S,.int .u16 p.PC,.bool p.F.N,.bool p.F.V,.bool p.F.D,.bool p.F.I,.bool p.F.Z,.bool p.F.C],.agg #[.slice A2 R.length c2],.slice B1 E.length d1,.int .i64 n]) (by (simp only[results,Tryz.results10];go_simp <;> (rfl))) rfl ?_)
   refine ⟨p,R,_,_,E,_,_,n,rfl,hp0,by omega,hRb,OwnB.lower (OwnB.move HM.out.own.b (fun k e=>HKK.out k (Kd.R_lt HM.out.own.b k e) ?_ ?_ ?_)) (by omega),Kd.R_lower (OwnV.keep OE.out (fun k e=>HKK.out k (Kd.R_lt OE.out k e) ?_ ?_ ?_)) (by omega),by omega,HBE.out _ _ (Below.grown HB1.out HM.out.only (by omega) (fun k e=>by injection e with e;omega)) (by omega) (by omega) (by omega)⟩
   all_goals first|(have:=Kd.R_base HM.out.own.b k e;omega)|(have:=Kd.R_base OE.out k e;have:=HM.out.hw;omega)
  ·go_wp2_with fail
   go_loopw [9] (fun v9 wr=>∃ E:List Evt,∃ v:Value,E.length≤17∧v=v9∧Aside0 (Dr w1 wr g A c l w.heap.size (w.heap.size+1) (w2.heap.size+1) w2.heap.size w2.heap.size p (.slice A2 R.length c2) R)∧Aside0 (OwnV wr w2.heap.size v E)) (fun v9 _=>20 - lenV v9)
   case atStart=>exact ⟨E,_,by omega,rfl,HM,OE⟩
   case round =>
    clear HM OE hE
    obtain ⟨E,v9,hE,rfl,HM,OE⟩:=hrel
    obtain ⟨B1,d1,e1,_,_⟩:=Kd.R_reads OE.out
    subst e1
    have hwi:=HM.out.hw
    go_wp2_with fail
    refine (spec_l01Below _ _ _ _ _ _ HM.out.cur hl (by omega) (by omega)).mono ?_
    rintro _ w8 ⟨x,rfl,x0,x3,hc8,hb8⟩
    have x3:=x3 (by omega)
    replace OE:=Aside0.mk (OwnV.keep OE.out (fun k e=>hb8.block k (Kd.R_lt OE.out k e) (fun q=>by have:=Kd.R_base OE.out k e;injection q with q;omega)))
    replace HM:=Aside0.mk (HM.out.call hc8 hb8)
    clear hc8 hb8
    have e3:IntKind.i64.wrap (15+x)=15+x:=w64 (by omega)
    by_cases hlt:(E.length:Int)<15+x
    ·go_wp2_with (at_builtin;refine Kd.R_append evK (w0:=w8) w2.heap.size rfl _ _ 31 91 (.agg #[.int .i64 0,.bool false]) 16 rfl Tryz.underlying31 infoEvt rfl (by decide) (by decide) (.slice B1 E.length d1) E ⟨(E.length:Int),false⟩ [.int .i64 (E.length:Int),.bool false] (fun _=>True) (fun k=>some k ≠ (Value.slice B1 E.length d1).ownBlock) rfl rfl ⟨[_],[_],rfl,rfl,rfl⟩ (fun _ hk=>⟨trivial,hk⟩) (fun _ _=>trivial) OE.out (Below.refl _ _) HM.out.hi_ (by omega) ?_;intro v2 wa ho2 hb2 hg2 hat2;obtain ⟨Aq,cq,eq,_,_⟩:=Kd.R_reads ho2;rw[List.length_append,List.length_singleton] at eq;subst eq;have HA:=Aside0.mk (HM.out.growV OE.out hg2);have HO:=Aside0.mk (show OwnV _ _ _ _ from ho2);clear ho2 hb2 hg2 hat2)
     exact ⟨⟨E++[⟨(E.length:Int),false⟩],_,by simp;omega,rfl,HA,HO⟩,by simp[lenV];omega⟩
    ·go_upto_region 9 with (fail)
     refine wp_normal (drReg9 w1 _ g A c l _ _ _ _ _ p _ _ R _ hl HM _ _ _ _ _ _ _ _ _ _ _ _ _ _ _ _ _ _ _ _ _ _ _ _ _ _ _ _ _ _ _ _ _ _ _ _ _) ?_
     rintro _ w9 ⟨u4,u5,u37,u38,u39,u40,u41,u42,⟨rfl,⟨n,rfl⟩,K0,K1,hk,hbel⟩,rfl⟩
     obtain ⟨x0,x1,x2,x3,x4,x5,x6,x7,x8,x9,x10⟩:=cpuAll K0
     have y0:=K1.one
     have l0:=K0.lt
     have l1:=K1.lt
     have HKK:=Aside0.mk hk
     have HBE:=Aside0.mk hbel
     clear hk hbel K0 K1
     go_wp2_with fail
     (refine bodyPost_ret (v:=.tuple #[.agg #[.int .u8 p.A,.int .u8 p.X,.int .u8 p.Y,.int .u8 p.S,.int .u16 p.PC,.bool p.F.N,.bool p.F.V,.bool p.F.D,.bool p.F.I,.bool p.F.Z,.bool p.F.C],.agg #[.slice A2 R.length c2],.slice B1 E.length d1,.int .i64 n]) (by (simp only[results,Tryz.results10];go_simp <;> (rfl))) rfl ?_)
     refine ⟨p,R,_,_,E,_,_,n,rfl,hp0,by omega,hRb,OwnB.lower (OwnB.move HM.out.own.b (fun k e=>HKK.out k (Kd.R_lt HM.out.own.b k e) ?_ ?_ ?_)) (by omega),Kd.R_lower (OwnV.keep OE.out (fun k e=>HKK.out k (Kd.R_lt OE.out k e) ?_ ?_ ?_)) (by omega),by omega,HBE.out _ _ (Below.grown HB1.out HM.out.only (by omega) (fun k e=>by injection e with e;omega)) (by omega) (by omega) (by omega)⟩
     all_goals first|(have:=Kd.R_base HM.out.own.b k e;omega)|(have:=Kd.R_base OE.out k e;have:=HM.out.hw;omega)
 ·go_wp2_with fail
  refine Calls.mono (spec_l05Any g A c l _ HM.out.cur hl) ?_
  rintro _ w5 ⟨R5,A5,c5,rfl,m0,HL⟩
  have HO:=Aside0.mk (OwnB.lower (base':=w1.heap.size) HL.own HM.out.only.size)
  have hb5:=rd_lit2 R5 HL.b
  replace HM:=Aside0.mk (HM.out.call HL.cur HL.only)
  clear HL
  have f0:=HM.out.kr.free 0
  have l0:=HM.out.kr.lt
  have c0:w5.cell? ⟨w2.heap.size+1,0,none⟩=some (.slice A2 R.length c2):=HM.out.kr.cell 0
  go_upto_region 5 with (fail)
  replace HM:=Aside0.mk (HM.out.setR HO.out)
  clear HO f0 l0 c0
  generalize w5.setCell ⟨w2.heap.size+1,0,none⟩ (.slice A5 R5.length c5)=w5b at *
  go_wp2_with fail
  refine Calls.mono (spec_l07Events g A c l _ HM.out.cur hl) ?_
  rintro _ w6 ⟨E,B1,d1,rfl,hE,HE⟩
  have OE:=Aside0.mk (Kd.R_lower HE.own HM.out.hi_)
  replace HM:=Aside0.mk (HM.out.call HE.cur HE.only)
  clear HE
  have hwi:=HM.out.hw
  go_wp2_with fail
  refine Calls.mono (spec_l01Once g A c l _ _ HM.out.cur hl (by omega) (by omega)) ?_
  rintro _ w7 ⟨b2,rfl,hc7,hb7⟩
  replace OE:=Aside0.mk (OwnV.keep OE.out (fun k e=>hb7.block k (Kd.R_lt OE.out k e) (fun q=>by have:=Kd.R_base OE.out k e;injection q with q;omega)))
  replace HM:=Aside0.mk (HM.out.call hc7 hb7)
  clear hc7 hb7
  cases b2
  ·go_upto_region 9 with (fail)
   refine wp_normal (drReg9 w1 _ g A c l _ _ _ _ _ p _ _ R5 _ hl HM _ _ _ _ _ _ _ _ _ _ _ _ _ _ _ _ _ _ _ _ _ _ _ _ _ _ _ _ _ _ _ _ _ _ _ _ _) ?_
   rintro _ w9 ⟨u4,u5,u37,u38,u39,u40,u41,u42,⟨rfl,⟨n,rfl⟩,K0,K1,hk,hbel⟩,rfl⟩
   obtain ⟨x0,x1,x2,x3,x4,x5,x6,x7,x8,x9,x10⟩:=cpuAll K0
   have y0:=K1.one
   have l0:=K0.lt
   have l1:=K1.lt
   have HKK:=Aside0.mk hk
   have HBE:=Aside0.mk hbel
   clear hk hbel K0 K1
   go_wp2_with fail
   (refine bodyPost_ret (v:=.tuple #[.agg #[.int .u8 p.A,.int .u8 p.X,.int .u8 p.Y,.int .u8 p.S,.int .u16 p.PC,.bool p.F.N,.bool p.F.V,.bool p.F.D,.bool p.F.I,.bool p.F.Z,.bool p.F.C],.agg #[.slice A5 R5.length c5],.slice B1 E.length d1,.int .i64 n]) (by (simp only[results,Tryz.results10];go_simp <;> (rfl))) rfl ?_)
   refine ⟨p,R5,_,_,E,_,_,n,rfl,hp0,m0,hb5,OwnB.lower (OwnB.move HM.out.own.b (fun k e=>HKK.out k (Kd.R_lt HM.out.own.b k e) ?_ ?_ ?_)) (by omega),Kd.R_lower (OwnV.keep OE.out (fun k e=>HKK.out k (Kd.R_lt OE.out k e) ?_ ?_ ?_)) (by omega),by omega,HBE.out _ _ (Below.grown HB1.out HM.out.only (by omega) (fun k e=>by injection e with e;omega)) (by omega) (by omega) (by omega)⟩
   all_goals first|(have:=Kd.R_base HM.out.own.b k e;omega)|(have:=Kd.R_base OE.out k e;have:=HM.out.hw;omega)
  ·go_wp2_with fail
   go_loopw [9] (fun v9 wr=>∃ E:List Evt,∃ v:Value,E.length≤17∧v=v9∧Aside0 (Dr w1 wr g A c l w.heap.size (w.heap.size+1) (w2.heap.size+1) w2.heap.size w5.heap.size p (.slice A5 R5.length c5) R5)∧Aside0 (OwnV wr w5.heap.size v E)) (fun v9 _=>20 - lenV v9)
   case atStart=>exact ⟨E,_,by omega,rfl,HM,OE⟩
   case round =>
    clear HM OE hE
    obtain ⟨E,v9,hE,rfl,HM,OE⟩:=hrel
    obtain ⟨B1,d1,e1,_,_⟩:=Kd.R_reads OE.out
    subst e1
    have hwi:=HM.out.hw
    go_wp2_with fail
    refine (spec_l01Below _ _ _ _ _ _ HM.out.cur hl (by omega) (by omega)).mono ?_
    rintro _ w8 ⟨x,rfl,x0,x3,hc8,hb8⟩
    have x3:=x3 (by omega)
    replace OE:=Aside0.mk (OwnV.keep OE.out (fun k e=>hb8.block k (Kd.R_lt OE.out k e) (fun q=>by have:=Kd.R_base OE.out k e;injection q with q;omega)))
    replace HM:=Aside0.mk (HM.out.call hc8 hb8)
    clear hc8 hb8
    have e3:IntKind.i64.wrap (15+x)=15+x:=w64 (by omega)
    by_cases hlt:(E.length:Int)<15+x
    ·go_wp2_with (at_builtin;refine Kd.R_append evK (w0:=w8) w5.heap.size rfl _ _ 31 91 (.agg #[.int .i64 0,.bool false]) 16 rfl Tryz.underlying31 infoEvt rfl (by decide) (by decide) (.slice B1 E.length d1) E ⟨(E.length:Int),false⟩ [.int .i64 (E.length:Int),.bool false] (fun _=>True) (fun k=>some k ≠ (Value.slice B1 E.length d1).ownBlock) rfl rfl ⟨[_],[_],rfl,rfl,rfl⟩ (fun _ hk=>⟨trivial,hk⟩) (fun _ _=>trivial) OE.out (Below.refl _ _) HM.out.hi_ (by omega) ?_;intro v2 wa ho2 hb2 hg2 hat2;obtain ⟨Aq,cq,eq,_,_⟩:=Kd.R_reads ho2;rw[List.length_append,List.length_singleton] at eq;subst eq;have HA:=Aside0.mk (HM.out.growV OE.out hg2);have HO:=Aside0.mk (show OwnV _ _ _ _ from ho2);clear ho2 hb2 hg2 hat2)
     exact ⟨⟨E++[⟨(E.length:Int),false⟩],_,by simp;omega,rfl,HA,HO⟩,by simp[lenV];omega⟩
    ·go_upto_region 9 with (fail)
     refine wp_normal (drReg9 w1 _ g A c l _ _ _ _ _ p _ _ R5 _ hl HM _ _ _ _ _ _ _ _ _ _ _ _ _ _ _ _ _ _ _ _ _ _ _ _ _ _ _ _ _ _ _ _ _ _ _ _ _) ?_
     rintro _ w9 ⟨u4,u5,u37,u38,u39,u40,u41,u42,⟨rfl,⟨n,rfl⟩,K0,K1,hk,hbel⟩,rfl⟩
     obtain ⟨x0,x1,x2,x3,x4,x5,x6,x7,x8,x9,x10⟩:=cpuAll K0
     have y0:=K1.one
     have l0:=K0.lt
     have l1:=K1.lt
     have HKK:=Aside0.mk hk
     have HBE:=Aside0.mk hbel
     clear hk hbel K0 K1
     go_wp2_with fail
     (refine bodyPost_ret (v:=.tuple #[.agg #[.int .u8 p.A,.int .u8 p.X,.int .u8 p.Y,.int .u8 p.S,.int .u16 p.PC,.bool p.F.N,.bool p.F.V,.bool p.F.D,.bool p.F.I,.bool p.F.Z,.bool p.F.C],.agg #[.slice A5 R5.length c5],.slice B1 E.length d1,.int .i64 n]) (by (simp only[results,Tryz.results10];go_simp <;> (rfl))) rfl ?_)
     refine ⟨p,R5,_,_,E,_,_,n,rfl,hp0,m0,hb5,OwnB.lower (OwnB.move HM.out.own.b (fun k e=>HKK.out k (Kd.R_lt HM.out.own.b k e) ?_ ?_ ?_)) (by omega),Kd.R_lower (OwnV.keep OE.out (fun k e=>HKK.out k (Kd.R_lt OE.out k e) ?_ ?_ ?_)) (by omega),by omega,HBE.out _ _ (Below.grown HB1.out HM.out.only (by omega) (fun k e=>by injection e with e;omega)) (by omega) (by omega) (by omega)⟩
     all_goals first|(have:=Kd.R_base HM.out.own.b k e;omega)|(have:=Kd.R_base OE.out k e;have:=HM.out.hw;omega)
end Go.Proofs.YtoncmhfmkfeolaaGreatDoor
