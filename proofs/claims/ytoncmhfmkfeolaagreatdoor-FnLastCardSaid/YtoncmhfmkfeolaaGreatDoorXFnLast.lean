/- FnLast: the last bytes of a run's cells are those of the memory behind it, which is the one ahead with all that was written. For every input. -/
import Derived.Test.YtoncmhfmkfeolaaGreatDoorSpcX
import Derived.Test.YtoncmhfmkfeolaaGreatDoorRunI
import Derived.Test.YtoncmhfmkfeolaaGreatDoorGT
import Derived.Test.YtoncmhfmkfeolaaGreatDoorGX
import Derived.Test.YtoncmhfmkfeolaaGreatDoorGW
import Derived.Deep.CutBlock
import Derived.Deep.DeepCutAuto
set_option linter.unusedVariables false
set_option linter.unusedSimpArgs false
namespace Go.Proofs.YtoncmhfmkfeolaaGreatDoor
open Go.RowKit Go.Proofs.YtoncmhfmkfeolaaGreatDoorW.PrintWords
theorem cd_all {l : List Cyc} (h : ∀ x ∈ l,x.ok) (k : Nat) : (cd l k).ok:=by
  unfold cd
  rw [List.getD_eq_getElem?_getD]
  rcases Nat.lt_or_ge k l.length with hk | hk
  · rw [List.getElem?_eq_getElem hk]
    exact h _ (List.getElem_mem hk)
  · rw [List.getElem?_eq_none hk]
    exact ⟨by decide,by decide,by decide,by decide⟩
set_option maxRecDepth 20000 in
set_option maxHeartbeats 400000 in
theorem FnLast_walk (A : Option Addr) (l : List Int) (c : Nat) (w : World) (h : Bs w A l) (hl : l.length ≤ 9223372036854775807) (he : Env w) :
    Calls Tryz.prog 5 #[.slice A l.length c] w fun e w' => e = .returned (.bool true)∧Below w.heap.size w w':=by
  by_cases hbig : (1048576 : Int) < l.length
  · have HB:=hR w;go_enter Tryz.func5,Tryz.ntmps5
    go_wp2_with (first | (go_at_call 9;((with_reducible refine (laws_big _ _ _ _ (by omega)).mono ?_);rintro _ _ ⟨rfl,rfl⟩)))
    go_ret
    exact ⟨rfl,blw⟩
  have hl2 : l.length ≤ 1048576:=by omega
  have HB:=hR w;go_enter Tryz.func5,Tryz.ntmps5
  go_wp2_with fail
  refine (laws_big _ _ _ _ (by omega)).mono ?_
  rintro _ _ ⟨rfl,rfl⟩
  go_wp2_with fail
  refine Calls.mono (spec_DrawRun A c l _ h hl2) ?_
  rintro _ w1 ⟨x,L,A1,c1,E,B1,d1,n,rfl,hx,hL,hLb,ho,hoE,hE17,hb⟩
  replace HB:=Aside0.mk (below_step HB.out hb)
  have BS:=Aside0.mk (ho.bs hLb)
  have ES:=Aside0.mk (Kd.R_reads' hoE).2.2
  have hzw:=HB.out.size
  clear hb ho hoE
  have HB1:=hR w1
  go_upto_region 4 with (fail)
  have hb : Below w1.heap.size w1 ((w1.alloc (.cells #[.int .u8 x.A,.int .u8 x.X,.int .u8 x.Y,.int .u8 x.S,.int .u16 x.PC,.bool x.F.N,.bool x.F.V,.bool x.F.D,.bool x.F.I,.bool x.F.Z,.bool x.F.C] 28)).alloc (.cells #[.slice A1 L.length c1] 30)):=blw
  have K : Aside0 (Many ((w1.alloc (.cells #[.int .u8 x.A,.int .u8 x.X,.int .u8 x.Y,.int .u8 x.S,.int .u16 x.PC,.bool x.F.N,.bool x.F.V,.bool x.F.D,.bool x.F.I,.bool x.F.Z,.bool x.F.C] 28)).alloc (.cells #[.slice A1 L.length c1] 30)) [(w1.heap.size,#[.int .u8 x.A,.int .u8 x.X,.int .u8 x.Y,.int .u8 x.S,.int .u16 x.PC,.bool x.F.N,.bool x.F.V,.bool x.F.D,.bool x.F.I,.bool x.F.Z,.bool x.F.C],28),(w1.heap.size+1,#[.slice A1 L.length c1],30)]):=⟨Many.cons ((Blk.at rfl).alloc _) (Many.cons (Blk.at (by simp)) (Many.nil _))⟩
  replace HB:=Aside0.mk (below_step HB.out hb)
  replace BS:=Aside0.mk (BS.out.below hb)
  replace ES:=Aside0.mk (Kd.C_below ES.out hb)
  have hz2 : ((w1.alloc (.cells #[.int .u8 x.A,.int .u8 x.X,.int .u8 x.Y,.int .u8 x.S,.int .u16 x.PC,.bool x.F.N,.bool x.F.V,.bool x.F.D,.bool x.F.I,.bool x.F.Z,.bool x.F.C] 28)).alloc (.cells #[.slice A1 L.length c1] 30)).heap.size = w1.heap.size+1+1:=by simp
  clear hb
  generalize (w1.alloc (.cells #[.int .u8 x.A,.int .u8 x.X,.int .u8 x.Y,.int .u8 x.S,.int .u16 x.PC,.bool x.F.N,.bool x.F.V,.bool x.F.D,.bool x.F.I,.bool x.F.Z,.bool x.F.C] 28)).alloc (.cells #[.slice A1 L.length c1] 30) = w2 at *
  have HB2:=hR w2
  obtain ⟨e0,e1,e2,e3,e4,e5,e6,e7,e8,e9,e10⟩:=(K.out.at 0 rfl).cpu
  have r4:=(K.out.at 1 rfl).one
  go_wp2_with fail
  refine Calls.mono (impl_Run x A1 c1 L B1 d1 E n w2 hx BS.out ES.out (by omega) (he.below HB.out)) ?_
  rintro _ w3 ⟨A3,c3,B3,d3,C3,f3,D3,g3,rfl,hm,ht,hs,hp,hb⟩
  have HQB:=Aside0.mk (run_b E n x L hx hLb)
  have hSR:=Aside0.mk (fun (W : World) a b => spec_Run x A1 c1 L B1 d1 E n W hx a b (by omega))
  have FIT:=Aside0.mk (run_fits E n x L)
  have BAD:=Aside0.mk (run_bad E n x L)
  generalize hQ : run x L E n = Q at *
  have HM:=Aside0.mk (hm.bs HQB.out.mb)
  have HT:=Aside0.mk (Cs.mk (Kd.R_reads' ht).2.2 (cd_all HQB.out.tb))
  have hb3:=below_step (w:=w2) (blw) hb
  replace K:=Aside0.mk (K.out.below hb3)
  replace HB:=Aside0.mk (below_step HB.out hb3)
  replace BS:=Aside0.mk (BS.out.below hb3)
  replace ES:=Aside0.mk (Kd.C_below ES.out hb3)
  have hz3:=hb3.size
  clear hb hb3 e0 e1 e2 e3 e4 e5 e6 e7 e8 e9 e10 r4
  go_upto_region 5 with (fail)
  have hb : Below w3.heap.size w3 (w3.alloc (.cells #[.int .u8 Q.c.A,.int .u8 Q.c.X,.int .u8 Q.c.Y,.int .u8 Q.c.S,.int .u16 Q.c.PC,.bool Q.c.F.N,.bool Q.c.F.V,.bool Q.c.F.D,.bool Q.c.F.I,.bool Q.c.F.Z,.bool Q.c.F.C,.slice A3 Q.m.length c3,.slice B3 Q.t.length d3,.slice C3 Q.st.length f3,.slice D3 Q.cs.length g3,.bool Q.jam] 38)):=blw
  have K4 : Aside0 (Many (w3.alloc (.cells #[.int .u8 Q.c.A,.int .u8 Q.c.X,.int .u8 Q.c.Y,.int .u8 Q.c.S,.int .u16 Q.c.PC,.bool Q.c.F.N,.bool Q.c.F.V,.bool Q.c.F.D,.bool Q.c.F.I,.bool Q.c.F.Z,.bool Q.c.F.C,.slice A3 Q.m.length c3,.slice B3 Q.t.length d3,.slice C3 Q.st.length f3,.slice D3 Q.cs.length g3,.bool Q.jam] 38)) [(w3.heap.size,#[.int .u8 Q.c.A,.int .u8 Q.c.X,.int .u8 Q.c.Y,.int .u8 Q.c.S,.int .u16 Q.c.PC,.bool Q.c.F.N,.bool Q.c.F.V,.bool Q.c.F.D,.bool Q.c.F.I,.bool Q.c.F.Z,.bool Q.c.F.C,.slice A3 Q.m.length c3,.slice B3 Q.t.length d3,.slice C3 Q.st.length f3,.slice D3 Q.cs.length g3,.bool Q.jam],38),(w1.heap.size,#[.int .u8 x.A,.int .u8 x.X,.int .u8 x.Y,.int .u8 x.S,.int .u16 x.PC,.bool x.F.N,.bool x.F.V,.bool x.F.D,.bool x.F.I,.bool x.F.Z,.bool x.F.C],28),(w1.heap.size+1,#[.slice A1 L.length c1],30)]):=⟨Many.cons (Blk.at rfl) (K.out.below hb)⟩
  replace HM:=Aside0.mk (HM.out.below hb)
  replace HT:=Aside0.mk (HT.out.below hb)
  replace HB:=Aside0.mk (below_step HB.out hb)
  replace BS:=Aside0.mk (BS.out.below hb)
  replace ES:=Aside0.mk (Kd.C_below ES.out hb)
  have hz4 : (w3.alloc (.cells #[.int .u8 Q.c.A,.int .u8 Q.c.X,.int .u8 Q.c.Y,.int .u8 Q.c.S,.int .u16 Q.c.PC,.bool Q.c.F.N,.bool Q.c.F.V,.bool Q.c.F.D,.bool Q.c.F.I,.bool Q.c.F.Z,.bool Q.c.F.C,.slice A3 Q.m.length c3,.slice B3 Q.t.length d3,.slice C3 Q.st.length f3,.slice D3 Q.cs.length g3,.bool Q.jam] 38)).heap.size = w3.heap.size+1:=by simp
  clear hb K hm ht hs hp
  generalize w3.alloc (.cells #[.int .u8 Q.c.A,.int .u8 Q.c.X,.int .u8 Q.c.Y,.int .u8 Q.c.S,.int .u16 Q.c.PC,.bool Q.c.F.N,.bool Q.c.F.V,.bool Q.c.F.D,.bool Q.c.F.I,.bool Q.c.F.Z,.bool Q.c.F.C,.slice A3 Q.m.length c3,.slice B3 Q.t.length d3,.slice C3 Q.st.length f3,.slice D3 Q.cs.length g3,.bool Q.jam] 38) = w4 at *
  have HB4:=hR w4
  obtain ⟨e0,e1,e2,e3,e4,e5,e6,e7,e8,e9,e10⟩:=(K4.out.at 1 rfl).cpu
  have r4:=(K4.out.at 2 rfl).one
  have t12 : w4.cell? ⟨w3.heap.size,12,none⟩ = some (.slice B3 Q.t.length d3):=(K4.out.at 0 rfl).cell 12
  have q1:=HQB.out.tn
  have q2:=HQB.out.sn
  have q3:=HQB.out.cn
  have q4:=HQB.out.ml
  refine wp_normal (fnLastReg5 w4 _ _ _ x A1 c1 L Q A3 B3 C3 D3 c3 d3 f3 g3 (.slice B1 E.length d1) n (K4.out.at 0 rfl) (K4.out.at 1 rfl) (K4.out.at 2 rfl) ⟨fun W hW => hSR.out W (BS.out.below hW) (Kd.C_below ES.out hW)⟩ q1 q2 (by omega) _ _ _ _ _ _ _ _ _ _ _ _ _ _ _ _ _ _ _ _ _ _ _ _ _ _ _ _ _ _ _ _ _ _ _ _ _ _ _ _ _ _ _ _ _ _ _ _ _ _ _ _ _ _ _ _ _ _ _ _ _ _ _ _ _ _ _ _ _ _ _ _ _ _ _ _ _ _ _ _ _ _ _ _ _ _ _ _) ?_
  rintro _ w5 ⟨hb,u25,u26,u27,u28,u29,u30,u31,rfl⟩
  have hz5:=hb.size
  have K:=Aside0.mk (K4.out.below hb)
  replace HB:=Aside0.mk (below_step HB.out hb)
  replace BS:=Aside0.mk (BS.out.below hb)
  replace HM:=Aside0.mk (HM.out.below hb)
  replace HT:=Aside0.mk (HT.out.below hb)
  clear hb e0 e1 e2 e3 e4 e5 e6 e7 e8 e9 e10 r4 t12 ES hSR HB4 K4
  have r4:=(K.out.at 2 rfl).one
  obtain ⟨q,hq⟩ : ∃ q,ramSize L.length = q:=⟨_,rfl⟩
  go_wp2_with fail
  refine (spec_RamOk A1 c1 L _).mono ?_
  rintro _ w6 ⟨rfl,hb⟩
  rw [hq]
  have hz6:=hb.size
  replace K:=Aside0.mk (K.out.below hb)
  replace HB:=Aside0.mk (below_step HB.out hb)
  replace BS:=Aside0.mk (BS.out.below hb)
  replace HM:=Aside0.mk (HM.out.below hb)
  replace HT:=Aside0.mk (HT.out.below hb)
  clear hb r4
  have r4:=(K.out.at 2 rfl).one
  have r11 : w6.cell? ⟨w3.heap.size,11,none⟩ = some (.slice A3 Q.m.length c3):=(K.out.at 0 rfl).cell 11
  have r12 : w6.cell? ⟨w3.heap.size,12,none⟩ = some (.slice B3 Q.t.length d3):=(K.out.at 0 rfl).cell 12
  cases q
  · go_wp2_with fail
    go_ret
    exact ⟨rfl,HB.out⟩
  by_cases hm0 : Q.m.length = 0
  · go_wp2_with fail
    go_ret
    exact ⟨rfl,HB.out⟩
  have hok : runOk L E n = true:=by
    cases e : runOk L E n
    · exact absurd (by rw [BAD.out e];rfl) hm0
    · rfl
  have HF:=Aside0.mk (FIT.out hok)
  have HML:=Aside0.mk (show Q.m.length = L.length by rw [HF.out.m,putL_len])
  clear hok BAD FIT
  go_wp2_with fail
  refine Calls.mono (impl_LastRam B3 d3 Q.t (L.length : Int) w6 HT.out hq) ?_
  rintro _ w7 ⟨A7,c7,B7,d7,rfl,ho7,ht7,hb⟩
  rw [Int.toNat_natCast] at ho7 ht7 ⊢
  have hz7:=hb.size
  replace K:=Aside0.mk (K.out.below hb)
  replace HB:=Aside0.mk (below_step HB.out hb)
  replace BS:=Aside0.mk (BS.out.below hb)
  replace HM:=Aside0.mk (HM.out.below hb)
  replace HT:=Aside0.mk (HT.out.below hb)
  clear hb r4 r11 r12
  go_upto_region 10 with (fail)
  have hb : Below w7.heap.size w7 (w7.alloc (.cells #[.slice A7 L.length c7] 30)):=blw
  have K8:=Aside0.mk (Blk.at (w:=w7) (cs:=#[.slice A7 L.length c7]) (t:=30) rfl)
  replace K:=Aside0.mk (K.out.below hb)
  replace HB:=Aside0.mk (below_step HB.out hb)
  replace BS:=Aside0.mk (BS.out.below hb)
  replace HM:=Aside0.mk (HM.out.below hb)
  replace HT:=Aside0.mk (HT.out.below hb)
  have HO:=Aside0.mk (ho7.below hb)
  have HK:=Aside0.mk (OwnT.below ht7 hb)
  clear hb ho7 ht7
  generalize w7.alloc (.cells #[.slice A7 L.length c7] 30) = w8 at *
  have hp:=ramSize_le hq
  obtain ⟨g,cap,eo,gb,gl,_⟩:=Kd.R_form HO.out (by rw [lastB_len _ _ _ hq];omega)
  rw [lastB_len _ _ _ hq,Int.toNat_natCast] at eo
  injection eo with ea _ ec
  subst ea ec
  obtain ⟨g2,cap2,eo,gb2,gl2,_⟩:=Kd.R_form HK.out (by rw [lastK_len];omega)
  rw [lastK_len,Int.toNat_natCast] at eo
  injection eo with ea _ ec
  subst ea ec
  have s8:=K8.out.one
  have s11 : w8.cell? ⟨w3.heap.size,11,none⟩ = some (.slice A3 Q.m.length c3):=(K.out.at 0 rfl).cell 11
  have s12 : w8.cell? ⟨w3.heap.size,12,none⟩ = some (.slice B3 Q.t.length d3):=(K.out.at 0 rfl).cell 12
  have sr:=(K.out.at 2 rfl).one
  go_wp2_with fail
  go_loopw [10] (fun v wr => ∃ k : Nat,k ≤ L.length∧v = .int .i64 k∧Aside0 (Below w8.heap.size w8 wr)) (fun v _ => L.length - (intOf v).toNat)
  case atStart => exact ⟨0,Nat.zero_le _,rfl,⟨Below.refl _ _⟩⟩
  case round =>
    obtain ⟨k,hk,rfl,HW⟩:=hrel
    by_cases hlt : k < L.length
    · obtain ⟨hk1,_⟩:=Kd.R_celln false HK.out (k : Int) (by omega) (by omega)
      obtain ⟨hb1,_⟩:=Kd.R_celln 0 HO.out (k : Int) (by omega) (by omega)
      obtain ⟨ad,rfl,hm1⟩:=HM.out.at (k : Int) (by omega) (by rw [HML.out];omega)
      rw [Int.toNat_natCast] at hk1 hb1 hm1
      have P1:=cell_keep HW.out hk1
      have P2:=cell_keep HW.out hb1
      have P3:=cell_keep HW.out hm1
      have P4:=cell_keep HW.out s8
      have P5:=cell_keep HW.out s11
      have q0 : (0 : Int) ≤ (k : Int):=by omega
      have q1 : (k : Int) < (L.length : Int):=by omega
      have q2 : (k : Int) < (Q.m.length : Int):=by rw [HML.out];omega
      have LAW:=Aside0.mk (last_law L Q.t hq HF.out.f Q.t.length (Nat.le_refl _) k q0 q1)
      clear hk1 hb1 hm1
      cases e : rdOf false (lastK L.length Q.t Q.t.length) k
      · rw [e] at P1
        go_wp2
        go_quiet (fail)
        go_wp2
        go_roundw
        case rel => exact ⟨k+1,by omega,by go_num,⟨blw⟩⟩
        case measure => simp [intOf];omega
      · rw [e] at P1
        have e2 : rdOf 0 (lastB L.length Q.t Q.t.length) k = rd Q.m k:=by
          have h3:=LAW.out (by simpa [rdOf] using e)
          rw [List.take_length,← HF.out.m] at h3
          exact h3
        rw [e2] at P2
        go_wp2
        go_quiet (fail)
        go_wp2
        go_roundw
        case rel => exact ⟨k+1,by omega,by go_num,⟨blw⟩⟩
        case measure => simp [intOf];omega
    · have hHW:=HW.out
      have HAP:=Aside0.mk (show apply L Q.t = Q.m by rw [apply_putL Q.t L hq,← HF.out.m])
      replace K:=Aside0.mk (K.out.below HW.out)
      have P4:=cell_keep HW.out s8
      have P5:=cell_keep HW.out s11
      have P6:=cell_keep HW.out s12
      have P7:=cell_keep HW.out sr
      go_upto_region 15 with (fail)
      refine wp_normal (fnLastReg15 _ _ _ A1 A3 B3 (some ⟨g2,0,none⟩) c1 c3 d3 d7 L Q P7 P5 P6 (HM.out.below HW.out) HQB.out.mb (by omega) (by omega) (by omega) ⟨fun W hW => by
        have hc:=impl_Apply A1 c1 L B3 d3 Q.t W ((BS.out.below HW.out).below hW) ((HT.out.below HW.out).below hW)
        rw [HAP.out] at hc
        exact hc⟩ _ _ _ _ _ _ _ _ _ _ _ _ _ _ _ _ _ _ _ _ _ _ _ _ _ _ _ _ _ _ _ _ _ _ _ _ _ _ _ _ _ _ _ _ _ _ _ _ _ _ _ _ _ _ _ _ _ _ _ _ _ _ _ _ _ _ _ _ _ _ _ _ _ _ _ _ _ _ _ _ _ _ _ _ _ _ _ _ _ _) ?_
      rintro _ w13 ⟨hb,u76,u77,u78,u79,u80,u81,u82,u83,u84,u85,u86,u87,u88,u89,u90,u91,u92,rfl⟩
      go_wp2_with fail
      go_ret
      exact ⟨rfl,below_step (below_step HB.out hHW) hb⟩
end Go.Proofs.YtoncmhfmkfeolaaGreatDoor
