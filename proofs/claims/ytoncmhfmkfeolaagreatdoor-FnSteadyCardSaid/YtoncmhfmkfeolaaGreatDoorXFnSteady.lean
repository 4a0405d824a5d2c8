/- The walk of FnSteady, for every input. -/
import Derived.Test.YtoncmhfmkfeolaaGreatDoorSpcX
import Derived.Test.YtoncmhfmkfeolaaGreatDoorRunI
import Derived.Test.YtoncmhfmkfeolaaGreatDoorGT
import Derived.Test.YtoncmhfmkfeolaaGreatDoorHA
import Derived.Test.YtoncmhfmkfeolaaGreatDoorFirstR
import Derived.Test.YtoncmhfmkfeolaaGreatDoorOddR
import Derived.Test.YtoncmhfmkfeolaaGreatDoorGM
import Derived.Deep.CutBlock
import Derived.Deep.DeepCutAuto
set_option maxRecDepth 100000
set_option maxHeartbeats 900000
set_option linter.unusedVariables false
set_option linter.unusedSimpArgs false
namespace Go.Proofs.YtoncmhfmkfeolaaGreatDoor
open Go.RowKit Go.Proofs.YtoncmhfmkfeolaaGreatDoorW.PrintWords
theorem cd_all {l:List Cyc} (h:∀ x ∈ l,x.ok) (k:Nat):(cd l k).ok:=by
 unfold cd
 rw[List.getD_eq_getElem?_getD]
 rcases Nat.lt_or_ge k l.length with hk|hk
 ·rw[List.getElem?_eq_getElem hk]
  exact h _ (List.getElem_mem hk)
 ·rw[List.getElem?_eq_none hk]
  exact ⟨by decide,by decide,by decide,by decide⟩
theorem firstB_b (n:Int) (cs:List Cyc) (hb:∀ k,(cd cs k).ok) (k:Nat):∀ i,0≤rd (firstB n cs k) i∧rd (firstB n cs k) i<256:=by
 induction k with
 | zero=>exact newRam_b n
 | succ k ih =>
  rw[firstB]
  split
  ·exact set_rd ih (hb k).2.2.1 (hb k).2.2.2
  ·exact ih
theorem impl_Steady (B:Option Addr) (d:Nat) (cs:List Cyc) (n:Int) (w:World) (h2:Cs w B cs) (hs:ramSize n=true) (hodd:NoOdd n cs) :
  Calls Tryz.prog 35 #[.slice B cs.length d,.int .i64 n] w fun e w'=>e=.returned (.bool true)∧Below w.heap.size w w':=by
 have HB:=hR w;go_enter Tryz.func35,Tryz.ntmps35
 go_wp2_with fail
 refine (impl_isSize n _).mono ?_
 rintro _ _ ⟨rfl,rfl⟩
 rw[hs]
 go_wp2_with fail
 refine (impl_Odd B d cs n _ h2 hs hodd).mono ?_
 rintro _ w1 ⟨q,rfl,hb⟩
 go_wp2_with fail
 go_ret
 exact ⟨rfl,hb⟩
theorem FnSteady_walk (A:Option Addr) (l:List Int) (c:Nat) (w:World) (h:Bs w A l) (hl:l.length≤9223372036854775807) (he:Env w) :
  Calls Tryz.prog 7 #[.slice A l.length c] w fun e w'=>e=.returned (.bool true)∧Below w.heap.size w w':=by
 by_cases hbig:(1048576:Int)<l.length
 ·have HB:=hR w;go_enter Tryz.func7,Tryz.ntmps7
  go_wp2_with (first|(go_at_call 9;((with_reducible refine (laws_big _ _ _ _ (by omega)).mono ?_);rintro _ _ ⟨rfl,rfl⟩)))
  go_ret
  exact ⟨rfl,blw⟩
 have hl2:l.length≤1048576:=by omega
 have HB:=hR w;go_enter Tryz.func7,Tryz.ntmps7
 go_wp2_with fail
 refine (laws_big _ _ _ _ (by omega)).mono ?_
 rintro _ _ ⟨rfl,rfl⟩
 go_wp2_with fail
 refine Calls.mono (spec_DrawRun A c l _ h hl2) ?_
 rintro _ w1 ⟨x,L,A1,c1,E,B1,d1,n,rfl,hx,hL,hLb,ho,hoE,hE17,hb⟩
 replace HB:=Aside0.mk (below_step HB.out hb)
 have BS:=Aside0.mk (ho.bs hLb)
 have ES:=Aside0.mk (Kd.R_reads' hoE).2.2
 have hzw:=HB.out.size
 clear hb ho hoE
 have HB1:=hR w1
 go_upto_region 4 with (fail)
 have hb:Below w1.heap.size w1 ((w1.alloc (.cells #[.int .u8 x.A,.int .u8 x.X,.int .u8 x.Y,.int .u8 x.S,.int .u16 x.PC,.bool x.F.N,.bool x.F.V,.bool x.F.D,.bool x.F.I,.bool x.F.Z,.bool x.F.C] 28)).alloc (.cells #[.slice A1 L.length c1] 30)):=blw
 have K:Aside0 (Many ((w1.alloc (.cells #[.int .u8 x.A,.int .u8 x.X,.int .u8 x.Y,.int .u8 x.S,.int .u16 x.PC,.bool x.F.N,.bool x.F.V,.bool x.F.D,.bool x.F.I,.bool x.F.Z,.bool x.F.C] 28)).alloc (.cells #[.slice A1 L.length c1] 30)) [(w1.heap.size,#[.int .u8 x.A,.int .u8 x.X,.int .u8 x.Y,.int .u8 x.S,.int .u16 x.PC,.bool x.F.N,.bool x.F.V,.bool x.F.D,.bool x.F.I,.bool x.F.Z,.bool x.F.C],28),(w1.heap.size+1,#[.slice A1 L.length c1],30)]):=⟨Many.cons ((Blk.at rfl).alloc _) (Many.cons (Blk.at (by simp)) (Many.nil _))⟩
 replace HB:=Aside0.mk (below_step HB.out hb)
 replace BS:=Aside0.mk (BS.out.below hb)
 replace ES:=Aside0.mk (Kd.C_below ES.out hb)
 have hz2:((w1.alloc (.cells #[.int .u8 x.A,.int .u8 x.X,.int .u8 x.Y,.int .u8 x.S,.int .u16 x.PC,.bool x.F.N,.bool x.F.V,.bool x.F.D,.bool x.F.I,.bool x.F.Z,.bool x.F.C] 28)).alloc (.cells #[.slice A1 L.length c1] 30)).heap.size=w1.heap.size+1+1:=by simp
 clear hb
 generalize (w1.alloc (.cells #[.int .u8 x.A,.int .u8 x.X,.int .u8 x.Y,.int .u8 x.S,.int .u16 x.PC,.bool x.F.N,.bool x.F.V,.bool x.F.D,.bool x.F.I,.bool x.F.Z,.bool x.F.C] 28)).alloc (.cells #[.slice A1 L.length c1] 30)=w2 at *
 have HB2:=hR w2
 obtain ⟨e0,e1,e2,e3,e4,e5,e6,e7,e8,e9,e10⟩:=(K.out.at 0 rfl).cpu
 have r4:=(K.out.at 1 rfl).one
 go_wp2_with fail
 refine Calls.mono (impl_Run x A1 c1 L B1 d1 E n w2 hx BS.out ES.out (by omega) (he.below HB.out)) ?_
 rintro _ w3 ⟨A3,c3,B3,d3,C3,f3,D3,g3,rfl,hm,ht,hs,hp,hb⟩
 have HQB:=Aside0.mk (run_b E n x L hx hLb)
 have hSR:=Aside0.mk (fun (W:World) a b=>spec_Run x A1 c1 L B1 d1 E n W hx a b (by omega))
 have FIT:=Aside0.mk (run_fits E n x L)
 have BAD:=Aside0.mk (run_bad E n x L)
 generalize hQ:run x L E n=Q at *
 have HM:=Aside0.mk (hm.bs HQB.out.mb)
 have HT:=Aside0.mk (Cs.mk (Kd.R_reads' ht).2.2 (cd_all HQB.out.tb))
 have hb3:=below_step (w:=w2) (blw) hb
 replace K:=Aside0.mk (K.out.below hb3)
 replace HB:=Aside0.mk (below_step HB.out hb3)
 replace BS:=Aside0.mk (BS.out.below hb3)
 replace ES:=Aside0.mk (Kd.C_below ES.out hb3)
 have hz3:=hb3.size
 clear hb hb3 e0 e1 e2 e3 e4 e5 e6 e7 e8 e9 e10 r4
 go_upto_region 5 with (fail)
 have hb:Below w3.heap.size w3 (w3.alloc (.cells #[.int .u8 Q.c.A,.int .u8 Q.c.X,.int .u8 Q.c.Y,.int .u8 Q.c.S,.int .u16 Q.c.PC,.bool Q.c.F.N,.bool Q.c.F.V,.bool Q.c.F.D,.bool Q.c.F.I,.bool Q.c.F.Z,.bool Q.c.F.C,.slice A3 Q.m.length c3,.slice B3 Q.t.length d3,.slice C3 Q.st.length f3,.slice D3 Q.cs.length g3,.bool Q.jam] 38)):=blw
 have K4:Aside0 (Many (w3.alloc (.cells #[.int .u8 Q.c.A,.int .u8 Q.c.X,.int .u8 Q.c.Y,.int .u8 Q.c.S,.int .u16 Q.c.PC,.bool Q.c.F.N,.bool Q.c.F.V,.bool Q.c.F.D,.bool Q.c.F.I,.bool Q.c.F.Z,.bool Q.c.F.C,.slice A3 Q.m.length c3,.slice B3 Q.t.length d3,.slice C3 Q.st.length f3,.slice D3 Q.cs.length g3,.bool Q.jam] 38)) [(w3.heap.size,#[.int .u8 Q.c.A,.int .u8 Q.c.X,.int .u8 Q.c.Y,.int .u8 Q.c.S,.int .u16 Q.c.PC,.bool Q.c.F.N,.bool Q.c.F.V,.bool Q.c.F.D,.bool Q.c.F.I,.bool Q.c.F.Z,.bool Q.c.F.C,.slice A3 Q.m.length c3,.slice B3 Q.t.length d3,.slice C3 Q.st.length f3,.slice D3 Q.cs.length g3,.bool Q.jam],38),(w1.heap.size,#[.int .u8 x.A,.int .u8 x.X,.int .u8 x.Y,.int .u8 x.S,.int .u16 x.PC,.bool x.F.N,.bool x.F.V,.bool x.F.D,.bool x.F.I,.bool x.F.Z,.bool x.F.C],28),(w1.heap.size+1,#[.slice A1 L.length c1],30)]):=⟨Many.cons (Blk.at rfl) (K.out.below hb)⟩
 replace HM:=Aside0.mk (HM.out.below hb)
 replace HT:=Aside0.mk (HT.out.below hb)
 replace HB:=Aside0.mk (below_step HB.out hb)
 replace BS:=Aside0.mk (BS.out.below hb)
 replace ES:=Aside0.mk (Kd.C_below ES.out hb)
 have hz4:(w3.alloc (.cells #[.int .u8 Q.c.A,.int .u8 Q.c.X,.int .u8 Q.c.Y,.int .u8 Q.c.S,.int .u16 Q.c.PC,.bool Q.c.F.N,.bool Q.c.F.V,.bool Q.c.F.D,.bool Q.c.F.I,.bool Q.c.F.Z,.bool Q.c.F.C,.slice A3 Q.m.length c3,.slice B3 Q.t.length d3,.slice C3 Q.st.length f3,.slice D3 Q.cs.length g3,.bool Q.jam] 38)).heap.size=w3.heap.size+1:=by simp
 clear hb K hm ht hs hp
 generalize w3.alloc (.cells #[.int .u8 Q.c.A,.int .u8 Q.c.X,.int .u8 Q.c.Y,.int .u8 Q.c.S,.int .u16 Q.c.PC,.bool Q.c.F.N,.bool Q.c.F.V,.bool Q.c.F.D,.bool Q.c.F.I,.bool Q.c.F.Z,.bool Q.c.F.C,.slice A3 Q.m.length c3,.slice B3 Q.t.length d3,.slice C3 Q.st.length f3,.slice D3 Q.cs.length g3,.bool Q.jam] 38)=w4 at *
 have HB4:=hR w4
 obtain ⟨e0,e1,e2,e3,e4,e5,e6,e7,e8,e9,e10⟩:=(K4.out.at 1 rfl).cpu
 have r4:=(K4.out.at 2 rfl).one
 have t12:w4.cell? ⟨w3.heap.size,12,none⟩=some (.slice B3 Q.t.length d3):=(K4.out.at 0 rfl).cell 12
 have q1:=HQB.out.tn
 have q2:=HQB.out.sn
 have q3:=HQB.out.cn
 have q4:=HQB.out.ml
 refine wp_normal (fnSteadyReg5 w4 _ _ _ x A1 c1 L Q A3 B3 C3 D3 c3 d3 f3 g3 (.slice B1 E.length d1) n (K4.out.at 0 rfl) (K4.out.at 1 rfl) (K4.out.at 2 rfl) ⟨fun W hW=>hSR.out W (BS.out.below hW) (Kd.C_below ES.out hW)⟩ q1 q2 (by omega) _ _ _ _ _ _ _ _ _ _ _ _ _ _ _ _ _ _ _ _ _ _ _ _ _ _ _ _ _ _ _ _ _ _ _ _ _ _ _ _ _ _ _ _ _ _ _ _ _ _ _ _ _ _ _ _ _ _ _ _ _ _ _ _ _ _ _ _ _ _ _ _ _ _ _ _ _ _ _ _ _ _ _ _ _ _ _ _ _ _ _ _ _ _ _ _ _ _ _ _ _ _ _ _ _ _ _ _ _ _ _ _ _ _ _ _ _ _ _ _ _ _ _ _) ?_
 rintro _ w5 ⟨hb,u27,u28,u29,u30,u31,u32,u33,rfl⟩
 have hz5:=hb.size
 have K:=Aside0.mk (K4.out.below hb)
 replace HB:=Aside0.mk (below_step HB.out hb)
 replace BS:=Aside0.mk (BS.out.below hb)
 replace ES:=Aside0.mk (Kd.C_below ES.out hb)
 replace HM:=Aside0.mk (HM.out.below hb)
 replace HT:=Aside0.mk (HT.out.below hb)
 clear hb e0 e1 e2 e3 e4 e5 e6 e7 e8 e9 e10 r4 t12 hSR HB4 K4
 have r4:=(K.out.at 2 rfl).one
 obtain ⟨q,hq⟩:∃ q,ramSize L.length=q:=⟨_,rfl⟩
 go_wp2_with fail
 refine (spec_RamOk A1 c1 L _).mono ?_
 rintro _ w6 ⟨rfl,hb⟩
 rw[hq]
 have hz6:=hb.size
 replace K:=Aside0.mk (K.out.below hb)
 replace HB:=Aside0.mk (below_step HB.out hb)
 replace BS:=Aside0.mk (BS.out.below hb)
 replace ES:=Aside0.mk (Kd.C_below ES.out hb)
 replace HM:=Aside0.mk (HM.out.below hb)
 replace HT:=Aside0.mk (HT.out.below hb)
 clear hb r4
 have r4:=(K.out.at 2 rfl).one
 have r11:w6.cell? ⟨w3.heap.size,11,none⟩=some (.slice A3 Q.m.length c3):=(K.out.at 0 rfl).cell 11
 have r12:w6.cell? ⟨w3.heap.size,12,none⟩=some (.slice B3 Q.t.length d3):=(K.out.at 0 rfl).cell 12
 cases q
 ·go_wp2_with fail
  go_ret
  exact ⟨rfl,HB.out⟩
 by_cases ht0:Q.t.length=0
 ·go_wp2_with fail
  go_ret
  exact ⟨rfl,HB.out⟩
 have hok:runOk L E n=true:=by
  cases e:runOk L E n
  ·exact absurd (by rw[BAD.out e];rfl) ht0
  ·rfl
 have HF:=Aside0.mk (FIT.out hok)
 have ODD:=Aside0.mk (no_odd L Q.t hq HF.out.f)
 have LAW:=Aside0.mk (first_law L Q.t hq HF.out.f Q.t.length (Nat.le_refl _))
 have hlen:(firstB L.length Q.t Q.t.length).length=L.length:=by rw[firstB_len _ _ _ hq,Int.toNat_natCast]
 have HLEN:=Aside0.mk hlen
 have TW:=Aside0.mk (run_twin E x L (firstB L.length Q.t Q.t.length) hlen n hok (by
  rw[hQ]
  intro i i0 i1 hn
  exact (LAW.out i i0 i1).known ((LAW.out i i0 i1).need (by rw[List.take_length];exact hn))))
 rw[hQ] at TW
 clear hok BAD FIT hlen
 go_wp2_with fail
 refine Calls.mono (impl_FirstRam B3 d3 Q.t (L.length:Int) w6 HT.out hq) ?_
 rintro _ w7 ⟨A7,c7,B7,d7,rfl,ho7,ht7,hb⟩
 rw[Int.toNat_natCast] at ho7 ht7 ⊢
 have hz7:=hb.size
 replace K:=Aside0.mk (K.out.below hb)
 replace HB:=Aside0.mk (below_step HB.out hb)
 replace BS:=Aside0.mk (BS.out.below hb)
 replace ES:=Aside0.mk (Kd.C_below ES.out hb)
 replace HT:=Aside0.mk (HT.out.below hb)
 clear hb r4 r11 r12
 go_upto_region 11 with (fail)
 have hb:Below w7.heap.size w7 (w7.alloc (.cells #[.slice A7 L.length c7] 30)):=blw
 have K8:=Aside0.mk (Blk.at (w:=w7) (cs:=#[.slice A7 L.length c7]) (t:=30) rfl)
 replace K:=Aside0.mk (K.out.below hb)
 replace HB:=Aside0.mk (below_step HB.out hb)
 replace BS:=Aside0.mk (BS.out.below hb)
 replace ES:=Aside0.mk (Kd.C_below ES.out hb)
 replace HT:=Aside0.mk (HT.out.below hb)
 have HO:=Aside0.mk (ho7.below hb)
 have HK:=Aside0.mk (OwnT.below ht7 hb)
 clear hb ho7 ht7
 generalize w7.alloc (.cells #[.slice A7 L.length c7] 30)=w8 at *
 have hp:=ramSize_le hq
 obtain ⟨g,cap,eo,gb,gl,_⟩:=Kd.R_form HO.out (by rw[firstB_len _ _ _ hq];omega)
 rw[firstB_len _ _ _ hq,Int.toNat_natCast] at eo
 injection eo with ea _ ec
 subst ea ec
 obtain ⟨g2,cap2,eo,gb2,gl2,_⟩:=Kd.R_form HK.out (by rw[firstK_len];omega)
 rw[firstK_len,Int.toNat_natCast] at eo
 injection eo with ea _ ec
 subst ea ec
 have s12:w8.cell? ⟨w3.heap.size,12,none⟩=some (.slice B3 Q.t.length d3):=(K.out.at 0 rfl).cell 12
 go_wp2_with fail
 refine Calls.mono (impl_Steady B3 d3 Q.t (L.length:Int) w8 HT.out hq ODD.out) ?_
 rintro _ w9 ⟨rfl,hb⟩
 replace K:=Aside0.mk (K.out.below hb)
 replace K8:=Aside0.mk (K8.out.below hb)
 replace HB:=Aside0.mk (below_step HB.out hb)
 replace BS:=Aside0.mk (BS.out.below hb)
 replace ES:=Aside0.mk (Kd.C_below ES.out hb)
 replace HT:=Aside0.mk (HT.out.below hb)
 replace HO:=Aside0.mk (HO.out.below hb)
 replace HK:=Aside0.mk (OwnT.below HK.out hb)
 have hz9:=hb.size
 clear hb s12
 have s12:w9.cell? ⟨w3.heap.size,12,none⟩=some (.slice B3 Q.t.length d3):=(K.out.at 0 rfl).cell 12
 go_wp2_with fail
 refine Calls.mono (impl_Odd B3 d3 Q.t (L.length:Int) w9 HT.out hq ODD.out) ?_
 rintro _ w10 ⟨q9,rfl,hb⟩
 replace K:=Aside0.mk (K.out.below hb)
 replace K8:=Aside0.mk (K8.out.below hb)
 replace HB:=Aside0.mk (below_step HB.out hb)
 replace BS:=Aside0.mk (BS.out.below hb)
 replace ES:=Aside0.mk (Kd.C_below ES.out hb)
 replace HT:=Aside0.mk (HT.out.below hb)
 replace HO:=Aside0.mk (HO.out.below hb)
 replace HK:=Aside0.mk (OwnT.below HK.out hb)
 have hz10:=hb.size
 clear hb s12
 have s8:=K8.out.one
 have sr:=(K.out.at 2 rfl).one
 go_upto_region 13 with (fail)
 go_wp2_with fail
 go_loopw [11] (fun v wr=>∃ k:Nat,k≤L.length∧v=.int .i64 k∧Aside0 (Below w10.heap.size w10 wr)) (fun v _=>L.length - (intOf v).toNat)
 case atStart=>exact ⟨0,Nat.zero_le _,rfl,⟨Below.refl _ _⟩⟩
 case round =>
  obtain ⟨k,hk,rfl,HW⟩:=hrel
  by_cases hlt:k<L.length
  ·obtain ⟨hk1,_⟩:=Kd.R_celln false HK.out (k:Int) (by omega) (by omega)
   obtain ⟨hb1,_⟩:=Kd.R_celln 0 HO.out (k:Int) (by omega) (by omega)
   obtain ⟨ad,rfl,hm1⟩:=BS.out.at (k:Int) (by omega) (by omega)
   rw[Int.toNat_natCast] at hk1 hb1 hm1
   have P1:=cell_keep HW.out hk1
   have P2:=cell_keep HW.out hb1
   have P3:=cell_keep HW.out hm1
   have P4:=cell_keep HW.out s8
   have P5:=cell_keep HW.out sr
   have q0:(0:Int)≤(k:Int):=by omega
   have q1:(k:Int)<(L.length:Int):=by omega
   have LK:=Aside0.mk (LAW.out k q0 q1)
   clear hk1 hb1 hm1
   cases e:rdOf false (firstK L.length Q.t Q.t.length) k
   ·rw[e] at P1
    have e2:rdOf 0 (firstB L.length Q.t Q.t.length) k=0:=LK.out.nought (by simpa [rdOf] using e)
    rw[e2] at P2
    go_wp2
    go_quiet (fail)
    go_wp2
    go_roundw
    case rel=>exact ⟨k+1,by omega,by go_num,⟨blw⟩⟩
    case measure=>simp[intOf];omega
   ·rw[e] at P1
    have e2:rdOf 0 (firstB L.length Q.t Q.t.length) k=rd L k:=LK.out.known (by simpa [rdOf] using e)
    rw[e2] at P2
    go_wp2
    go_quiet (fail)
    go_wp2
    go_roundw
    case rel=>exact ⟨k+1,by omega,by go_num,⟨blw⟩⟩
    case measure=>simp[intOf];omega
  ·have hHW:=HW.out
   replace K:=Aside0.mk (K.out.below HW.out)
   replace K8:=Aside0.mk (K8.out.below HW.out)
   replace HB:=Aside0.mk (below_step HB.out HW.out)
   replace ES:=Aside0.mk (Kd.C_below ES.out HW.out)
   replace HT:=Aside0.mk (HT.out.below HW.out)
   replace HO:=Aside0.mk (HO.out.below HW.out)
   clear HW hHW s8 sr
   have FB:=Aside0.mk (Bs.mk (Kd.R_reads' HO.out).2.2 (firstB_b _ _ HT.out.b _))
   obtain ⟨e0,e1,e2,e3,e4,e5,e6,e7,e8,e9,e10⟩:=(K.out.at 1 rfl).cpu
   have s8:=K8.out.one
   have s13:wr.cell? ⟨w3.heap.size,13,none⟩=some (.slice C3 Q.st.length f3):=(K.out.at 0 rfl).cell 13
   go_upto_region 18 with (fail)
   go_wp2_with fail
   have hR:=impl_Run x (some ⟨g,0,none⟩) c7 (firstB L.length Q.t Q.t.length) B1 d1 E (Q.st.length:Int) wr hx FB.out ES.out (by omega) (he.below HB.out)
   rw[HLEN.out] at hR
   refine Calls.mono hR ?_
   clear hR
   rintro _ w11 ⟨A9,c9,B9,d9,C9,f9,D9,g9,rfl,hm9,ht9,_,_,hb⟩
   obtain ⟨tw1,tw2⟩:=TW.out
   generalize run x (firstB L.length Q.t Q.t.length) E (Q.st.length:Int)=Z at *
   have TW1:=Aside0.mk tw1
   have TW2:=Aside0.mk tw2
   have HT9:=Aside0.mk (Kd.R_reads' ht9).2.2
   replace K:=Aside0.mk (K.out.below hb)
   replace HB:=Aside0.mk (below_step HB.out hb)
   replace HT:=Aside0.mk (HT.out.below hb)
   clear hb hm9 ht9 tw1 tw2 TW e0 e1 e2 e3 e4 e5 e6 e7 e8 e9 e10 s8 s13
   go_upto_region 19 with (fail)
   have hb:Below w11.heap.size w11 (w11.alloc (.cells #[.int .u8 Z.c.A,.int .u8 Z.c.X,.int .u8 Z.c.Y,.int .u8 Z.c.S,.int .u16 Z.c.PC,.bool Z.c.F.N,.bool Z.c.F.V,.bool Z.c.F.D,.bool Z.c.F.I,.bool Z.c.F.Z,.bool Z.c.F.C,.slice A9 Z.m.length c9,.slice B9 Z.t.length d9,.slice C9 Z.st.length f9,.slice D9 Z.cs.length g9,.bool Z.jam] 38)):=blw
   have K12:Aside0 (Blk (w11.alloc (.cells #[.int .u8 Z.c.A,.int .u8 Z.c.X,.int .u8 Z.c.Y,.int .u8 Z.c.S,.int .u16 Z.c.PC,.bool Z.c.F.N,.bool Z.c.F.V,.bool Z.c.F.D,.bool Z.c.F.I,.bool Z.c.F.Z,.bool Z.c.F.C,.slice A9 Z.m.length c9,.slice B9 Z.t.length d9,.slice C9 Z.st.length f9,.slice D9 Z.cs.length g9,.bool Z.jam] 38)) w11.heap.size #[.int .u8 Z.c.A,.int .u8 Z.c.X,.int .u8 Z.c.Y,.int .u8 Z.c.S,.int .u16 Z.c.PC,.bool Z.c.F.N,.bool Z.c.F.V,.bool Z.c.F.D,.bool Z.c.F.I,.bool Z.c.F.Z,.bool Z.c.F.C,.slice A9 Z.m.length c9,.slice B9 Z.t.length d9,.slice C9 Z.st.length f9,.slice D9 Z.cs.length g9,.bool Z.jam] 38):=⟨Blk.at rfl⟩
   replace K:=Aside0.mk (K.out.below hb)
   replace HB:=Aside0.mk (below_step HB.out hb)
   replace HT:=Aside0.mk (HT.out.below hb)
   replace HT9:=Aside0.mk (Kd.C_below HT9.out hb)
   clear hb
   generalize w11.alloc (.cells #[.int .u8 Z.c.A,.int .u8 Z.c.X,.int .u8 Z.c.Y,.int .u8 Z.c.S,.int .u16 Z.c.PC,.bool Z.c.F.N,.bool Z.c.F.V,.bool Z.c.F.D,.bool Z.c.F.I,.bool Z.c.F.Z,.bool Z.c.F.C,.slice A9 Z.m.length c9,.slice B9 Z.t.length d9,.slice C9 Z.st.length f9,.slice D9 Z.cs.length g9,.bool Z.jam] 38)=w12 at *
   rw[TW1.out,TW2.out] at K12
   rw[TW1.out] at HT9
   have y12:w12.cell? ⟨w11.heap.size,12,none⟩=some (.slice B9 Q.t.length d9):=K12.out.cell 12
   have z12:w12.cell? ⟨w3.heap.size,12,none⟩=some (.slice B3 Q.t.length d3):=(K.out.at 0 rfl).cell 12
   go_wp2_with fail
   refine Calls.mono (laws_sameCycs B9 B3 d9 d3 Q.t w12 HT9.out HT.out.c (by omega)) ?_
   rintro _ w13 ⟨rfl,hb⟩
   replace K:=Aside0.mk (K.out.below hb)
   replace K12:=Aside0.mk (K12.out.below hb)
   replace HB:=Aside0.mk (below_step HB.out hb)
   clear hb y12 z12
   obtain ⟨y0,y1,y2,y3,y4,y5,y6,y7,y8,y9,y10,y11,y12,y13,y14,y15⟩:=cells16 K12.out
   obtain ⟨z0,z1,z2,z3,z4,z5,z6,z7,z8,z9,z10,z11,z12,z13,z14,z15⟩:=cells16 (K.out.at 0 rfl)
   go_wp2_with fail
   go_ret
   exact ⟨rfl,HB.out⟩
end Go.Proofs.YtoncmhfmkfeolaaGreatDoor
