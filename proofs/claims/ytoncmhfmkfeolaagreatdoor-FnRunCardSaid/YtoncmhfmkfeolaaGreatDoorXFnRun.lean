/- FnRun: a run tells as many cycles as the reference's, and goes on where a shorter one ended. For every input. -/
import Derived.Test.YtoncmhfmkfeolaaGreatDoorSpcX
import Derived.Test.YtoncmhfmkfeolaaGreatDoorGT
import Derived.Test.YtoncmhfmkfeolaaGreatDoorGM
import Derived.Test.YtoncmhfmkfeolaaGreatDoorGU
import Derived.Test.YtoncmhfmkfeolaaGreatDoorRunI
import Derived.Deep.CutBlock
import Derived.Deep.DeepCutAuto
set_option linter.unusedVariables false
set_option linter.unusedSimpArgs false
namespace Go.Proofs.YtoncmhfmkfeolaaGreatDoor
open Go.RowKit Go.Proofs.YtoncmhfmkfeolaaGreatDoorW.PrintWords
theorem far16 {w : World} {g k : Nat} {b0 b1 b2 b3 b4 b5 b6 b7 b8 b9 b10 b11 b12 b13 b14 b15 : Value} (hk : k ≠ g) : ((((((((((((((((w.setCell ⟨g,0,none⟩ b0).setCell ⟨g,1,none⟩ b1).setCell ⟨g,2,none⟩ b2).setCell ⟨g,3,none⟩ b3).setCell ⟨g,4,none⟩ b4).setCell ⟨g,5,none⟩ b5).setCell ⟨g,6,none⟩ b6).setCell ⟨g,7,none⟩ b7).setCell ⟨g,8,none⟩ b8).setCell ⟨g,9,none⟩ b9).setCell ⟨g,10,none⟩ b10).setCell ⟨g,11,none⟩ b11).setCell ⟨g,12,none⟩ b12).setCell ⟨g,13,none⟩ b13).setCell ⟨g,14,none⟩ b14).setCell ⟨g,15,none⟩ b15).heap[k]? = w.heap[k]?:=by
  have h : Same w ((((((((((((((((w.setCell ⟨g,0,none⟩ b0).setCell ⟨g,1,none⟩ b1).setCell ⟨g,2,none⟩ b2).setCell ⟨g,3,none⟩ b3).setCell ⟨g,4,none⟩ b4).setCell ⟨g,5,none⟩ b5).setCell ⟨g,6,none⟩ b6).setCell ⟨g,7,none⟩ b7).setCell ⟨g,8,none⟩ b8).setCell ⟨g,9,none⟩ b9).setCell ⟨g,10,none⟩ b10).setCell ⟨g,11,none⟩ b11).setCell ⟨g,12,none⟩ b12).setCell ⟨g,13,none⟩ b13).setCell ⟨g,14,none⟩ b14).setCell ⟨g,15,none⟩ b15) k:=by (repeat (with_reducible first | exact Same.refl _ _ | refine Same.set ?_ hk))
  exact h
theorem size16 {w : World} {g : Nat} {b0 b1 b2 b3 b4 b5 b6 b7 b8 b9 b10 b11 b12 b13 b14 b15 : Value} : ((((((((((((((((w.setCell ⟨g,0,none⟩ b0).setCell ⟨g,1,none⟩ b1).setCell ⟨g,2,none⟩ b2).setCell ⟨g,3,none⟩ b3).setCell ⟨g,4,none⟩ b4).setCell ⟨g,5,none⟩ b5).setCell ⟨g,6,none⟩ b6).setCell ⟨g,7,none⟩ b7).setCell ⟨g,8,none⟩ b8).setCell ⟨g,9,none⟩ b9).setCell ⟨g,10,none⟩ b10).setCell ⟨g,11,none⟩ b11).setCell ⟨g,12,none⟩ b12).setCell ⟨g,13,none⟩ b13).setCell ⟨g,14,none⟩ b14).setCell ⟨g,15,none⟩ b15).heap.size = w.heap.size:=by simp only [World.size_setCell]
theorem below16 {B : Nat} {a w : World} {g : Nat} {b0 b1 b2 b3 b4 b5 b6 b7 b8 b9 b10 b11 b12 b13 b14 b15 : Value} (h : Below B a w) (hg : B ≤ g) : Below B a ((((((((((((((((w.setCell ⟨g,0,none⟩ b0).setCell ⟨g,1,none⟩ b1).setCell ⟨g,2,none⟩ b2).setCell ⟨g,3,none⟩ b3).setCell ⟨g,4,none⟩ b4).setCell ⟨g,5,none⟩ b5).setCell ⟨g,6,none⟩ b6).setCell ⟨g,7,none⟩ b7).setCell ⟨g,8,none⟩ b8).setCell ⟨g,9,none⟩ b9).setCell ⟨g,10,none⟩ b10).setCell ⟨g,11,none⟩ b11).setCell ⟨g,12,none⟩ b12).setCell ⟨g,13,none⟩ b13).setCell ⟨g,14,none⟩ b14).setCell ⟨g,15,none⟩ b15):=by
  (repeat (with_reducible first | exact h | refine Below.setCell ?_ hg _))
theorem many16 {w : World} {g : Nat} {L : List (Nat × Array Value × TypeId)} {b0 b1 b2 b3 b4 b5 b6 b7 b8 b9 b10 b11 b12 b13 b14 b15 : Value} (h : Many w L) (hg : ∀ x ∈ L,x.1 ≠ g) : Many ((((((((((((((((w.setCell ⟨g,0,none⟩ b0).setCell ⟨g,1,none⟩ b1).setCell ⟨g,2,none⟩ b2).setCell ⟨g,3,none⟩ b3).setCell ⟨g,4,none⟩ b4).setCell ⟨g,5,none⟩ b5).setCell ⟨g,6,none⟩ b6).setCell ⟨g,7,none⟩ b7).setCell ⟨g,8,none⟩ b8).setCell ⟨g,9,none⟩ b9).setCell ⟨g,10,none⟩ b10).setCell ⟨g,11,none⟩ b11).setCell ⟨g,12,none⟩ b12).setCell ⟨g,13,none⟩ b13).setCell ⟨g,14,none⟩ b14).setCell ⟨g,15,none⟩ b15) L:=fun x hx => (far16 (hg x hx)).trans (h x hx)
theorem evnil (w : World) : evK.C w none 0 []:=by
  exact Kd.C_nil _ _
set_option maxRecDepth 20000 in
set_option maxHeartbeats 400000 in
theorem FnRun_walk (A : Option Addr) (l : List Int) (c : Nat) (w : World) (h : Bs w A l) (hl : l.length ≤ 9223372036854775807) (he : Env w) :
    Calls Tryz.prog 3 #[.slice A l.length c] w fun e w' => e = .returned (.bool true)∧Below w.heap.size w w':=by
  by_cases hbig : (1048576 : Int) < l.length
  · have HB:=hR w;go_enter Tryz.func3,Tryz.ntmps3
    go_wp2_with (first | (go_at_call 9;((with_reducible refine (laws_big _ _ _ _ (by omega)).mono ?_);rintro _ _ ⟨rfl,rfl⟩)))
    go_ret
    exact ⟨rfl,blw⟩
  have hl2 : l.length ≤ 1048576:=by omega
  have HB:=hR w;go_enter Tryz.func3,Tryz.ntmps3
  go_wp2_with fail
  refine (laws_big _ _ _ _ (by omega)).mono ?_
  rintro _ _ ⟨rfl,rfl⟩
  go_wp2_with fail
  refine Calls.mono (spec_DrawRun A c l _ h hl2) ?_
  rintro _ w1 ⟨x,L,A1,c1,E,B1,d1,n,rfl,hx,hL,hLb,ho,hoE,hE17,hb⟩
  replace HB:=Aside0.mk (below_step HB.out hb)
  have BS:=Aside0.mk (ho.bs hLb)
  have ES:=Aside0.mk (Kd.R_reads' hoE).2.2
  have hzw:=HB.out.size
  clear hb ho hoE
  have HB1:=hR w1
  go_upto_region 4 with (fail)
  have hb : Below w1.heap.size w1 ((w1.alloc (.cells #[.int .u8 x.A,.int .u8 x.X,.int .u8 x.Y,.int .u8 x.S,.int .u16 x.PC,.bool x.F.N,.bool x.F.V,.bool x.F.D,.bool x.F.I,.bool x.F.Z,.bool x.F.C] 28)).alloc (.cells #[.slice A1 L.length c1] 30)):=blw
  have K : Aside0 (Many ((w1.alloc (.cells #[.int .u8 x.A,.int .u8 x.X,.int .u8 x.Y,.int .u8 x.S,.int .u16 x.PC,.bool x.F.N,.bool x.F.V,.bool x.F.D,.bool x.F.I,.bool x.F.Z,.bool x.F.C] 28)).alloc (.cells #[.slice A1 L.length c1] 30)) [(w1.heap.size,#[.int .u8 x.A,.int .u8 x.X,.int .u8 x.Y,.int .u8 x.S,.int .u16 x.PC,.bool x.F.N,.bool x.F.V,.bool x.F.D,.bool x.F.I,.bool x.F.Z,.bool x.F.C],28),(w1.heap.size+1,#[.slice A1 L.length c1],30)]):=⟨Many.cons ((Blk.at rfl).alloc _) (Many.cons (Blk.at (by simp)) (Many.nil _))⟩
  replace HB:=Aside0.mk (below_step HB.out hb)
  replace BS:=Aside0.mk (BS.out.below hb)
  replace ES:=Aside0.mk (Kd.C_below ES.out hb)
  have hz2 : ((w1.alloc (.cells #[.int .u8 x.A,.int .u8 x.X,.int .u8 x.Y,.int .u8 x.S,.int .u16 x.PC,.bool x.F.N,.bool x.F.V,.bool x.F.D,.bool x.F.I,.bool x.F.Z,.bool x.F.C] 28)).alloc (.cells #[.slice A1 L.length c1] 30)).heap.size = w1.heap.size+1+1:=by simp
  clear hb
  generalize (w1.alloc (.cells #[.int .u8 x.A,.int .u8 x.X,.int .u8 x.Y,.int .u8 x.S,.int .u16 x.PC,.bool x.F.N,.bool x.F.V,.bool x.F.D,.bool x.F.I,.bool x.F.Z,.bool x.F.C] 28)).alloc (.cells #[.slice A1 L.length c1] 30) = w2 at *
  have HB2:=hR w2
  obtain ⟨e0,e1,e2,e3,e4,e5,e6,e7,e8,e9,e10⟩:=(K.out.at 0 rfl).cpu
  have r4:=(K.out.at 1 rfl).one
  go_wp2_with fail
  refine Calls.mono (impl_Run x A1 c1 L B1 d1 E n w2 hx BS.out ES.out (by omega) (he.below HB.out)) ?_
  rintro _ w3 ⟨A3,c3,B3,d3,C3,f3,D3,g3,rfl,hm,ht,hs,hp,hb⟩
  have HQB:=Aside0.mk (run_b E n x L hx hLb)
  have hSR:=Aside0.mk (fun (W : World) a b => spec_Run x A1 c1 L B1 d1 E n W hx a b (by omega))
  have HONN:=Aside0.mk (fun hs h1 h2 => run_on x L h1 h2 hx hLb hs)
  generalize hQ : run x L E n = Q at *
  have hb3:=below_step (w:=w2) (blw) hb
  replace K:=Aside0.mk (K.out.below hb3)
  replace HB:=Aside0.mk (below_step HB.out hb3)
  replace BS:=Aside0.mk (BS.out.below hb3)
  replace ES:=Aside0.mk (Kd.C_below ES.out hb3)
  have BS3:=BS
  have hz3:=hb3.size
  clear hb hb3 e0 e1 e2 e3 e4 e5 e6 e7 e8 e9 e10 r4
  go_upto_region 5 with (fail)
  have hb : Below w3.heap.size w3 (w3.alloc (.cells #[.int .u8 Q.c.A,.int .u8 Q.c.X,.int .u8 Q.c.Y,.int .u8 Q.c.S,.int .u16 Q.c.PC,.bool Q.c.F.N,.bool Q.c.F.V,.bool Q.c.F.D,.bool Q.c.F.I,.bool Q.c.F.Z,.bool Q.c.F.C,.slice A3 Q.m.length c3,.slice B3 Q.t.length d3,.slice C3 Q.st.length f3,.slice D3 Q.cs.length g3,.bool Q.jam] 38)):=blw
  have K4 : Aside0 (Many (w3.alloc (.cells #[.int .u8 Q.c.A,.int .u8 Q.c.X,.int .u8 Q.c.Y,.int .u8 Q.c.S,.int .u16 Q.c.PC,.bool Q.c.F.N,.bool Q.c.F.V,.bool Q.c.F.D,.bool Q.c.F.I,.bool Q.c.F.Z,.bool Q.c.F.C,.slice A3 Q.m.length c3,.slice B3 Q.t.length d3,.slice C3 Q.st.length f3,.slice D3 Q.cs.length g3,.bool Q.jam] 38)) [(w3.heap.size,#[.int .u8 Q.c.A,.int .u8 Q.c.X,.int .u8 Q.c.Y,.int .u8 Q.c.S,.int .u16 Q.c.PC,.bool Q.c.F.N,.bool Q.c.F.V,.bool Q.c.F.D,.bool Q.c.F.I,.bool Q.c.F.Z,.bool Q.c.F.C,.slice A3 Q.m.length c3,.slice B3 Q.t.length d3,.slice C3 Q.st.length f3,.slice D3 Q.cs.length g3,.bool Q.jam],38),(w1.heap.size,#[.int .u8 x.A,.int .u8 x.X,.int .u8 x.Y,.int .u8 x.S,.int .u16 x.PC,.bool x.F.N,.bool x.F.V,.bool x.F.D,.bool x.F.I,.bool x.F.Z,.bool x.F.C],28),(w1.heap.size+1,#[.slice A1 L.length c1],30)]):=⟨Many.cons (Blk.at rfl) (K.out.below hb)⟩
  have HW:=Aside0.mk hb
  replace HB:=Aside0.mk (below_step HB.out hb)
  replace BS:=Aside0.mk (BS.out.below hb)
  replace ES:=Aside0.mk (Kd.C_below ES.out hb)
  have hz4 : (w3.alloc (.cells #[.int .u8 Q.c.A,.int .u8 Q.c.X,.int .u8 Q.c.Y,.int .u8 Q.c.S,.int .u16 Q.c.PC,.bool Q.c.F.N,.bool Q.c.F.V,.bool Q.c.F.D,.bool Q.c.F.I,.bool Q.c.F.Z,.bool Q.c.F.C,.slice A3 Q.m.length c3,.slice B3 Q.t.length d3,.slice C3 Q.st.length f3,.slice D3 Q.cs.length g3,.bool Q.jam] 38)).heap.size = w3.heap.size+1:=by simp
  clear hb K hm ht hs hp
  generalize w3.alloc (.cells #[.int .u8 Q.c.A,.int .u8 Q.c.X,.int .u8 Q.c.Y,.int .u8 Q.c.S,.int .u16 Q.c.PC,.bool Q.c.F.N,.bool Q.c.F.V,.bool Q.c.F.D,.bool Q.c.F.I,.bool Q.c.F.Z,.bool Q.c.F.C,.slice A3 Q.m.length c3,.slice B3 Q.t.length d3,.slice C3 Q.st.length f3,.slice D3 Q.cs.length g3,.bool Q.jam] 38) = w4 at *
  have HB4:=hR w4
  obtain ⟨e0,e1,e2,e3,e4,e5,e6,e7,e8,e9,e10⟩:=(K4.out.at 1 rfl).cpu
  have r4:=(K4.out.at 2 rfl).one
  have t12 : w4.cell? ⟨w3.heap.size,12,none⟩ = some (.slice B3 Q.t.length d3):=(K4.out.at 0 rfl).cell 12
  refine wp_normal (fnrReg5 w4 _ _ _ x A1 c1 L B3 Q.t.length d3 (.slice B1 E.length d1) n Q rfl (K4.out.at 1 rfl) (K4.out.at 2 rfl) t12 ⟨fun W hW => hSR.out W (BS.out.below hW) (Kd.C_below ES.out hW)⟩ _ _ _ _ _ _ _ _ _ _ _ _ _ _ _ _ _ _ _ _ _ _ _ _ _ _ _ _ _ _ _ _ _ _ _ _ _ _ _ _ _ _ _ _ _ _ _ _ _ _ _ _ _ _ _ _ _ _ _ _ _ _ _ _ _ _ _ _ _ _ _ _ _ _ _ _ _ _ _ _ _ _ _ _ _ _ _ _ _ _ _ _ _ _ _ _ _) ?_
  rintro _ w5 ⟨hb,u25,u26,u27,u28,u29,u30,u31,u32,u33,u34,rfl⟩
  go_upto_region 7 with (fail)
  have hz5:=hb.size
  have K:=Aside0.mk (K4.out.below hb)
  replace HW:=Aside0.mk (below_step HW.out hb)
  replace HB:=Aside0.mk (below_step HB.out hb)
  replace BS:=Aside0.mk (BS.out.below hb)
  clear hb e0 e1 e2 e3 e4 e5 e6 e7 e8 e9 e10 r4 t12 ES HQB hSR HB4 K4
  have r4:=(K.out.at 2 rfl).one
  by_cases hn1 : n < 2
  · go_wp2_with fail
    go_ret
    exact ⟨rfl,blw⟩
  by_cases hn2 : 120 < n
  · go_wp2_with fail
    go_ret
    exact ⟨rfl,blw⟩
  obtain ⟨q,hq⟩ : ∃ q,ramSize L.length = q:=⟨_,rfl⟩
  cases q
  · go_wp2_with fail
    refine (spec_RamOk A1 c1 L _).mono ?_
    rintro _ w6 ⟨rfl,hb⟩
    rw [hq]
    go_wp2_with fail
    go_ret
    exact ⟨rfl,below_step HB.out hb⟩
  go_wp2_with fail
  refine (spec_RamOk A1 c1 L _).mono ?_
  rintro _ w6 ⟨rfl,hb⟩
  rw [hq]
  have hz6:=hb.size
  replace K:=Aside0.mk (K.out.below hb)
  replace HB:=Aside0.mk (below_step HB.out hb)
  replace HW:=Aside0.mk (below_step HW.out hb)
  replace BS:=Aside0.mk (BS.out.below hb)
  clear hb r4
  obtain ⟨e0,e1,e2,e3,e4,e5,e6,e7,e8,e9,e10⟩:=(K.out.at 1 rfl).cpu
  have r4:=(K.out.at 2 rfl).one
  obtain ⟨N,rfl⟩ : ∃ N : Nat,n = N:=⟨n.toNat,by omega⟩
  go_upto_region 9 with (fail)
  go_wp2_with fail
  refine Calls.mono (impl_Run x A1 c1 L none 0 [] N w6 hx BS.out (evnil _) (by simp) (he.below HB.out)) ?_
  rintro _ w7 ⟨A7,c7,B7,d7,C7,f7,D7,g7,rfl,hm7,ht7,_,_,hb⟩
  have RB:=Aside0.mk (run_b [] (N : Int) x L hx hLb)
  replace K:=Aside0.mk (K.out.below hb)
  replace HB:=Aside0.mk (below_step HB.out hb)
  replace HW:=Aside0.mk (below_step HW.out hb)
  replace BS:=Aside0.mk (BS.out.below hb)
  have hz7:=hb.size
  clear hb e0 e1 e2 e3 e4 e5 e6 e7 e8 e9 e10 r4
  generalize hSN : run x L [] (N : Int) = S at *
  obtain ⟨z0,z1,z2,z3,z4,z5,z6,z7,z8,z9,z10,z11,z12,z13,z14,z15⟩:=cells16 (K.out.at 0 rfl)
  have zl:=(K.out.at 0 rfl).lt
  have zf:=(K.out.at 0 rfl).free
  go_upto_region 10 with (fail)
  have hw8 : ((((((((((((((((w7.setCell ⟨w3.heap.size,0,none⟩ (.int .u8 S.c.A)).setCell ⟨w3.heap.size,1,none⟩ (.int .u8 S.c.X)).setCell ⟨w3.heap.size,2,none⟩ (.int .u8 S.c.Y)).setCell ⟨w3.heap.size,3,none⟩ (.int .u8 S.c.S)).setCell ⟨w3.heap.size,4,none⟩ (.int .u16 S.c.PC)).setCell ⟨w3.heap.size,5,none⟩ (.bool S.c.F.N)).setCell ⟨w3.heap.size,6,none⟩ (.bool S.c.F.V)).setCell ⟨w3.heap.size,7,none⟩ (.bool S.c.F.D)).setCell ⟨w3.heap.size,8,none⟩ (.bool S.c.F.I)).setCell ⟨w3.heap.size,9,none⟩ (.bool S.c.F.Z)).setCell ⟨w3.heap.size,10,none⟩ (.bool S.c.F.C)).setCell ⟨w3.heap.size,11,none⟩ (.slice A7 S.m.length c7)).setCell ⟨w3.heap.size,12,none⟩ (.slice B7 S.t.length d7)).setCell ⟨w3.heap.size,13,none⟩ (.slice C7 S.st.length f7)).setCell ⟨w3.heap.size,14,none⟩ (.slice D7 S.cs.length g7)).setCell ⟨w3.heap.size,15,none⟩ (.bool S.jam)).heap.size = w7.heap.size:=size16
  replace K : Aside0 (Many ((((((((((((((((w7.setCell ⟨w3.heap.size,0,none⟩ (.int .u8 S.c.A)).setCell ⟨w3.heap.size,1,none⟩ (.int .u8 S.c.X)).setCell ⟨w3.heap.size,2,none⟩ (.int .u8 S.c.Y)).setCell ⟨w3.heap.size,3,none⟩ (.int .u8 S.c.S)).setCell ⟨w3.heap.size,4,none⟩ (.int .u16 S.c.PC)).setCell ⟨w3.heap.size,5,none⟩ (.bool S.c.F.N)).setCell ⟨w3.heap.size,6,none⟩ (.bool S.c.F.V)).setCell ⟨w3.heap.size,7,none⟩ (.bool S.c.F.D)).setCell ⟨w3.heap.size,8,none⟩ (.bool S.c.F.I)).setCell ⟨w3.heap.size,9,none⟩ (.bool S.c.F.Z)).setCell ⟨w3.heap.size,10,none⟩ (.bool S.c.F.C)).setCell ⟨w3.heap.size,11,none⟩ (.slice A7 S.m.length c7)).setCell ⟨w3.heap.size,12,none⟩ (.slice B7 S.t.length d7)).setCell ⟨w3.heap.size,13,none⟩ (.slice C7 S.st.length f7)).setCell ⟨w3.heap.size,14,none⟩ (.slice D7 S.cs.length g7)).setCell ⟨w3.heap.size,15,none⟩ (.bool S.jam)) [(w3.heap.size,#[.int .u8 S.c.A,.int .u8 S.c.X,.int .u8 S.c.Y,.int .u8 S.c.S,.int .u16 S.c.PC,.bool S.c.F.N,.bool S.c.F.V,.bool S.c.F.D,.bool S.c.F.I,.bool S.c.F.Z,.bool S.c.F.C,.slice A7 S.m.length c7,.slice B7 S.t.length d7,.slice C7 S.st.length f7,.slice D7 S.cs.length g7,.bool S.jam],38),(w1.heap.size,#[.int .u8 x.A,.int .u8 x.X,.int .u8 x.Y,.int .u8 x.S,.int .u16 x.PC,.bool x.F.N,.bool x.F.V,.bool x.F.D,.bool x.F.I,.bool x.F.Z,.bool x.F.C],28),(w1.heap.size+1,#[.slice A1 L.length c1],30)]):=⟨Many.cons (set16 (K.out.at 0 rfl)) (many16 K.out.tail (by simp;omega))⟩
  replace HB : Aside0 (Below w.heap.size w ((((((((((((((((w7.setCell ⟨w3.heap.size,0,none⟩ (.int .u8 S.c.A)).setCell ⟨w3.heap.size,1,none⟩ (.int .u8 S.c.X)).setCell ⟨w3.heap.size,2,none⟩ (.int .u8 S.c.Y)).setCell ⟨w3.heap.size,3,none⟩ (.int .u8 S.c.S)).setCell ⟨w3.heap.size,4,none⟩ (.int .u16 S.c.PC)).setCell ⟨w3.heap.size,5,none⟩ (.bool S.c.F.N)).setCell ⟨w3.heap.size,6,none⟩ (.bool S.c.F.V)).setCell ⟨w3.heap.size,7,none⟩ (.bool S.c.F.D)).setCell ⟨w3.heap.size,8,none⟩ (.bool S.c.F.I)).setCell ⟨w3.heap.size,9,none⟩ (.bool S.c.F.Z)).setCell ⟨w3.heap.size,10,none⟩ (.bool S.c.F.C)).setCell ⟨w3.heap.size,11,none⟩ (.slice A7 S.m.length c7)).setCell ⟨w3.heap.size,12,none⟩ (.slice B7 S.t.length d7)).setCell ⟨w3.heap.size,13,none⟩ (.slice C7 S.st.length f7)).setCell ⟨w3.heap.size,14,none⟩ (.slice D7 S.cs.length g7)).setCell ⟨w3.heap.size,15,none⟩ (.bool S.jam))):=⟨below16 HB.out (by omega)⟩
  replace HW : Aside0 (Below w3.heap.size w3 ((((((((((((((((w7.setCell ⟨w3.heap.size,0,none⟩ (.int .u8 S.c.A)).setCell ⟨w3.heap.size,1,none⟩ (.int .u8 S.c.X)).setCell ⟨w3.heap.size,2,none⟩ (.int .u8 S.c.Y)).setCell ⟨w3.heap.size,3,none⟩ (.int .u8 S.c.S)).setCell ⟨w3.heap.size,4,none⟩ (.int .u16 S.c.PC)).setCell ⟨w3.heap.size,5,none⟩ (.bool S.c.F.N)).setCell ⟨w3.heap.size,6,none⟩ (.bool S.c.F.V)).setCell ⟨w3.heap.size,7,none⟩ (.bool S.c.F.D)).setCell ⟨w3.heap.size,8,none⟩ (.bool S.c.F.I)).setCell ⟨w3.heap.size,9,none⟩ (.bool S.c.F.Z)).setCell ⟨w3.heap.size,10,none⟩ (.bool S.c.F.C)).setCell ⟨w3.heap.size,11,none⟩ (.slice A7 S.m.length c7)).setCell ⟨w3.heap.size,12,none⟩ (.slice B7 S.t.length d7)).setCell ⟨w3.heap.size,13,none⟩ (.slice C7 S.st.length f7)).setCell ⟨w3.heap.size,14,none⟩ (.slice D7 S.cs.length g7)).setCell ⟨w3.heap.size,15,none⟩ (.bool S.jam))):=⟨below16 HW.out (Nat.le_refl _)⟩
  have HM : Aside0 (Bs ((((((((((((((((w7.setCell ⟨w3.heap.size,0,none⟩ (.int .u8 S.c.A)).setCell ⟨w3.heap.size,1,none⟩ (.int .u8 S.c.X)).setCell ⟨w3.heap.size,2,none⟩ (.int .u8 S.c.Y)).setCell ⟨w3.heap.size,3,none⟩ (.int .u8 S.c.S)).setCell ⟨w3.heap.size,4,none⟩ (.int .u16 S.c.PC)).setCell ⟨w3.heap.size,5,none⟩ (.bool S.c.F.N)).setCell ⟨w3.heap.size,6,none⟩ (.bool S.c.F.V)).setCell ⟨w3.heap.size,7,none⟩ (.bool S.c.F.D)).setCell ⟨w3.heap.size,8,none⟩ (.bool S.c.F.I)).setCell ⟨w3.heap.size,9,none⟩ (.bool S.c.F.Z)).setCell ⟨w3.heap.size,10,none⟩ (.bool S.c.F.C)).setCell ⟨w3.heap.size,11,none⟩ (.slice A7 S.m.length c7)).setCell ⟨w3.heap.size,12,none⟩ (.slice B7 S.t.length d7)).setCell ⟨w3.heap.size,13,none⟩ (.slice C7 S.st.length f7)).setCell ⟨w3.heap.size,14,none⟩ (.slice D7 S.cs.length g7)).setCell ⟨w3.heap.size,15,none⟩ (.bool S.jam)) A7 S.m):=⟨(OwnB.move hm7 (fun k e => far16 (by have:=Kd.R_base hm7 k e;omega))).bs RB.out.mb⟩
  have HT : Aside0 (cycK.C ((((((((((((((((w7.setCell ⟨w3.heap.size,0,none⟩ (.int .u8 S.c.A)).setCell ⟨w3.heap.size,1,none⟩ (.int .u8 S.c.X)).setCell ⟨w3.heap.size,2,none⟩ (.int .u8 S.c.Y)).setCell ⟨w3.heap.size,3,none⟩ (.int .u8 S.c.S)).setCell ⟨w3.heap.size,4,none⟩ (.int .u16 S.c.PC)).setCell ⟨w3.heap.size,5,none⟩ (.bool S.c.F.N)).setCell ⟨w3.heap.size,6,none⟩ (.bool S.c.F.V)).setCell ⟨w3.heap.size,7,none⟩ (.bool S.c.F.D)).setCell ⟨w3.heap.size,8,none⟩ (.bool S.c.F.I)).setCell ⟨w3.heap.size,9,none⟩ (.bool S.c.F.Z)).setCell ⟨w3.heap.size,10,none⟩ (.bool S.c.F.C)).setCell ⟨w3.heap.size,11,none⟩ (.slice A7 S.m.length c7)).setCell ⟨w3.heap.size,12,none⟩ (.slice B7 S.t.length d7)).setCell ⟨w3.heap.size,13,none⟩ (.slice C7 S.st.length f7)).setCell ⟨w3.heap.size,14,none⟩ (.slice D7 S.cs.length g7)).setCell ⟨w3.heap.size,15,none⟩ (.bool S.jam)) B7 S.t.length S.t):=⟨(Kd.R_reads' (OwnC.move ht7 (fun k e => far16 (by have:=Kd.R_base ht7 k e;omega)))).2.2⟩
  clear hm7 ht7 BS zl zf z0 z1 z2 z3 z4 z5 z6 z7 z8 z9 z10 z11 z12 z13 z14 z15
  generalize ((((((((((((((((w7.setCell ⟨w3.heap.size,0,none⟩ (.int .u8 S.c.A)).setCell ⟨w3.heap.size,1,none⟩ (.int .u8 S.c.X)).setCell ⟨w3.heap.size,2,none⟩ (.int .u8 S.c.Y)).setCell ⟨w3.heap.size,3,none⟩ (.int .u8 S.c.S)).setCell ⟨w3.heap.size,4,none⟩ (.int .u16 S.c.PC)).setCell ⟨w3.heap.size,5,none⟩ (.bool S.c.F.N)).setCell ⟨w3.heap.size,6,none⟩ (.bool S.c.F.V)).setCell ⟨w3.heap.size,7,none⟩ (.bool S.c.F.D)).setCell ⟨w3.heap.size,8,none⟩ (.bool S.c.F.I)).setCell ⟨w3.heap.size,9,none⟩ (.bool S.c.F.Z)).setCell ⟨w3.heap.size,10,none⟩ (.bool S.c.F.C)).setCell ⟨w3.heap.size,11,none⟩ (.slice A7 S.m.length c7)).setCell ⟨w3.heap.size,12,none⟩ (.slice B7 S.t.length d7)).setCell ⟨w3.heap.size,13,none⟩ (.slice C7 S.st.length f7)).setCell ⟨w3.heap.size,14,none⟩ (.slice D7 S.cs.length g7)).setCell ⟨w3.heap.size,15,none⟩ (.bool S.jam)) = w8 at *
  have BS:=Aside0.mk (BS3.out.below HW.out)
  obtain ⟨e0,e1,e2,e3,e4,e5,e6,e7,e8,e9,e10⟩:=(K.out.at 1 rfl).cpu
  have r4:=(K.out.at 2 rfl).one
  have hv:=atF_b h 4
  have hr0 : 0 ≤ atF l 4 % ((N : Int) - 1):=Int.emod_nonneg _ (by omega)
  have hr1 : atF l 4 % ((N : Int) - 1) < (N : Int) - 1:=Int.emod_lt_of_pos _ (by omega)
  go_wp2_with fail
  refine (laws_at A c l 4 _ (h.below HB.out) hl2 (by omega) (by omega)).mono ?_
  rintro _ _ ⟨rfl,rfl⟩
  generalize atF l 4 = v at *
  go_upto_region 11 with (fail)
  obtain ⟨k,hk⟩ : ∃ k : Nat,1+v % ((N : Int) - 1) = k:=⟨(1+v % ((N : Int) - 1)).toNat,by omega⟩
  rw [hk]
  have hk1 : 1 ≤ k:=by omega
  have hk2 : k < N:=by omega
  clear hr0 hr1 hv hk
  go_wp2_with fail
  refine Calls.mono (impl_Run x A1 c1 L none 0 [] k w8 hx BS.out (evnil _) (by simp) (he.below HB.out)) ?_
  rintro _ w9 ⟨A9,c9,B9,d9,C9,f9,D9,g9,rfl,hm9,ht9,_,_,hb⟩
  have RF:=Aside0.mk (run_b [] (k : Int) x L hx hLb)
  have HON:=Aside0.mk (HONN.out hq k (N - k) (by omega) (by omega))
  rw [show k+(N - k) = N by omega,hSN] at HON
  have hz9:=hb.size
  replace K:=Aside0.mk (K.out.below hb)
  replace HB:=Aside0.mk (below_step HB.out hb)
  replace HM:=Aside0.mk (HM.out.below hb)
  replace HT:=Aside0.mk (Kd.C_below HT.out hb)
  have FM:=Aside0.mk (hm9.bs RF.out.mb)
  have FT:=Aside0.mk (Kd.R_reads' ht9).2.2
  clear hb hm9 ht9 e0 e1 e2 e3 e4 e5 e6 e7 e8 e9 e10 r4 BS HW
  generalize hFN : run x L [] (k : Int) = F at *
  go_upto_region 12 with (fail)
  have hb : Below w9.heap.size w9 (w9.alloc (.cells #[.int .u8 F.c.A,.int .u8 F.c.X,.int .u8 F.c.Y,.int .u8 F.c.S,.int .u16 F.c.PC,.bool F.c.F.N,.bool F.c.F.V,.bool F.c.F.D,.bool F.c.F.I,.bool F.c.F.Z,.bool F.c.F.C,.slice A9 F.m.length c9,.slice B9 F.t.length d9,.slice C9 F.st.length f9,.slice D9 F.cs.length g9,.bool F.jam] 38)):=blw
  replace K : Aside0 (Many (w9.alloc (.cells #[.int .u8 F.c.A,.int .u8 F.c.X,.int .u8 F.c.Y,.int .u8 F.c.S,.int .u16 F.c.PC,.bool F.c.F.N,.bool F.c.F.V,.bool F.c.F.D,.bool F.c.F.I,.bool F.c.F.Z,.bool F.c.F.C,.slice A9 F.m.length c9,.slice B9 F.t.length d9,.slice C9 F.st.length f9,.slice D9 F.cs.length g9,.bool F.jam] 38)) [(w9.heap.size,#[.int .u8 F.c.A,.int .u8 F.c.X,.int .u8 F.c.Y,.int .u8 F.c.S,.int .u16 F.c.PC,.bool F.c.F.N,.bool F.c.F.V,.bool F.c.F.D,.bool F.c.F.I,.bool F.c.F.Z,.bool F.c.F.C,.slice A9 F.m.length c9,.slice B9 F.t.length d9,.slice C9 F.st.length f9,.slice D9 F.cs.length g9,.bool F.jam],38),(w3.heap.size,#[.int .u8 S.c.A,.int .u8 S.c.X,.int .u8 S.c.Y,.int .u8 S.c.S,.int .u16 S.c.PC,.bool S.c.F.N,.bool S.c.F.V,.bool S.c.F.D,.bool S.c.F.I,.bool S.c.F.Z,.bool S.c.F.C,.slice A7 S.m.length c7,.slice B7 S.t.length d7,.slice C7 S.st.length f7,.slice D7 S.cs.length g7,.bool S.jam],38),(w1.heap.size,#[.int .u8 x.A,.int .u8 x.X,.int .u8 x.Y,.int .u8 x.S,.int .u16 x.PC,.bool x.F.N,.bool x.F.V,.bool x.F.D,.bool x.F.I,.bool x.F.Z,.bool x.F.C],28),(w1.heap.size+1,#[.slice A1 L.length c1],30)]):=⟨Many.cons (Blk.at rfl) (K.out.below hb)⟩
  replace HB:=Aside0.mk (below_step HB.out hb)
  replace HM:=Aside0.mk (HM.out.below hb)
  replace HT:=Aside0.mk (Kd.C_below HT.out hb)
  replace FM:=Aside0.mk (FM.out.below hb)
  replace FT:=Aside0.mk (Kd.C_below FT.out hb)
  have hw10 : (w9.alloc (.cells #[.int .u8 F.c.A,.int .u8 F.c.X,.int .u8 F.c.Y,.int .u8 F.c.S,.int .u16 F.c.PC,.bool F.c.F.N,.bool F.c.F.V,.bool F.c.F.D,.bool F.c.F.I,.bool F.c.F.Z,.bool F.c.F.C,.slice A9 F.m.length c9,.slice B9 F.t.length d9,.slice C9 F.st.length f9,.slice D9 F.cs.length g9,.bool F.jam] 38)).heap.size = w9.heap.size+1:=by simp
  clear hb
  generalize (w9.alloc (.cells #[.int .u8 F.c.A,.int .u8 F.c.X,.int .u8 F.c.Y,.int .u8 F.c.S,.int .u16 F.c.PC,.bool F.c.F.N,.bool F.c.F.V,.bool F.c.F.D,.bool F.c.F.I,.bool F.c.F.Z,.bool F.c.F.C,.slice A9 F.m.length c9,.slice B9 F.t.length d9,.slice C9 F.st.length f9,.slice D9 F.cs.length g9,.bool F.jam] 38)) = w10 at *
  obtain ⟨z0,z1,z2,z3,z4,z5,z6,z7,z8,z9,z10,z11,z12,z13,z14,z15⟩:=cells16 (K.out.at 0 rfl)
  go_wp2_with fail
  refine Calls.mono (impl_Run F.c A9 c9 F.m none 0 [] ((N : Int) - k) w10 RF.out.cok FM.out (evnil _) (by simp) (he.below HB.out)) ?_
  rintro _ w11 ⟨A11,c11,B11,d11,C11,f11,D11,g11,rfl,hm11,ht11,_,_,hb⟩
  have RG:=Aside0.mk (run_b [] ((N : Int) - k) F.c F.m RF.out.cok RF.out.mb)
  rw [show ((N - k : Nat) : Int) = (N : Int) - k by omega] at HON
  have hz11:=hb.size
  replace K:=Aside0.mk (K.out.below hb)
  replace HB:=Aside0.mk (below_step HB.out hb)
  replace HM:=Aside0.mk (HM.out.below hb)
  replace HT:=Aside0.mk (Kd.C_below HT.out hb)
  replace FT:=Aside0.mk (Kd.C_below FT.out hb)
  have GM:=Aside0.mk (hm11.bs RG.out.mb)
  have GT:=Aside0.mk (Kd.R_reads' ht11).2.2
  clear hb hm11 ht11 FM z0 z1 z2 z3 z4 z5 z6 z7 z8 z9 z10 z11 z12 z13 z14 z15
  generalize hGN : run F.c F.m [] ((N : Int) - k) = G at *
  go_upto_region 13 with (fail)
  have hb : Below w11.heap.size w11 (w11.alloc (.cells #[.int .u8 G.c.A,.int .u8 G.c.X,.int .u8 G.c.Y,.int .u8 G.c.S,.int .u16 G.c.PC,.bool G.c.F.N,.bool G.c.F.V,.bool G.c.F.D,.bool G.c.F.I,.bool G.c.F.Z,.bool G.c.F.C,.slice A11 G.m.length c11,.slice B11 G.t.length d11,.slice C11 G.st.length f11,.slice D11 G.cs.length g11,.bool G.jam] 38)):=blw
  replace K : Aside0 (Many (w11.alloc (.cells #[.int .u8 G.c.A,.int .u8 G.c.X,.int .u8 G.c.Y,.int .u8 G.c.S,.int .u16 G.c.PC,.bool G.c.F.N,.bool G.c.F.V,.bool G.c.F.D,.bool G.c.F.I,.bool G.c.F.Z,.bool G.c.F.C,.slice A11 G.m.length c11,.slice B11 G.t.length d11,.slice C11 G.st.length f11,.slice D11 G.cs.length g11,.bool G.jam] 38)) [(w11.heap.size,#[.int .u8 G.c.A,.int .u8 G.c.X,.int .u8 G.c.Y,.int .u8 G.c.S,.int .u16 G.c.PC,.bool G.c.F.N,.bool G.c.F.V,.bool G.c.F.D,.bool G.c.F.I,.bool G.c.F.Z,.bool G.c.F.C,.slice A11 G.m.length c11,.slice B11 G.t.length d11,.slice C11 G.st.length f11,.slice D11 G.cs.length g11,.bool G.jam],38),(w9.heap.size,#[.int .u8 F.c.A,.int .u8 F.c.X,.int .u8 F.c.Y,.int .u8 F.c.S,.int .u16 F.c.PC,.bool F.c.F.N,.bool F.c.F.V,.bool F.c.F.D,.bool F.c.F.I,.bool F.c.F.Z,.bool F.c.F.C,.slice A9 F.m.length c9,.slice B9 F.t.length d9,.slice C9 F.st.length f9,.slice D9 F.cs.length g9,.bool F.jam],38),(w3.heap.size,#[.int .u8 S.c.A,.int .u8 S.c.X,.int .u8 S.c.Y,.int .u8 S.c.S,.int .u16 S.c.PC,.bool S.c.F.N,.bool S.c.F.V,.bool S.c.F.D,.bool S.c.F.I,.bool S.c.F.Z,.bool S.c.F.C,.slice A7 S.m.length c7,.slice B7 S.t.length d7,.slice C7 S.st.length f7,.slice D7 S.cs.length g7,.bool S.jam],38),(w1.heap.size,#[.int .u8 x.A,.int .u8 x.X,.int .u8 x.Y,.int .u8 x.S,.int .u16 x.PC,.bool x.F.N,.bool x.F.V,.bool x.F.D,.bool x.F.I,.bool x.F.Z,.bool x.F.C],28),(w1.heap.size+1,#[.slice A1 L.length c1],30)]):=⟨Many.cons (Blk.at rfl) (K.out.below hb)⟩
  replace HB:=Aside0.mk (below_step HB.out hb)
  replace HM:=Aside0.mk (HM.out.below hb)
  replace HT:=Aside0.mk (Kd.C_below HT.out hb)
  replace FT:=Aside0.mk (Kd.C_below FT.out hb)
  replace GM:=Aside0.mk (GM.out.below hb)
  replace GT:=Aside0.mk (Kd.C_below GT.out hb)
  clear hb
  generalize (w11.alloc (.cells #[.int .u8 G.c.A,.int .u8 G.c.X,.int .u8 G.c.Y,.int .u8 G.c.S,.int .u16 G.c.PC,.bool G.c.F.N,.bool G.c.F.V,.bool G.c.F.D,.bool G.c.F.I,.bool G.c.F.Z,.bool G.c.F.C,.slice A11 G.m.length c11,.slice B11 G.t.length d11,.slice C11 G.st.length f11,.slice D11 G.cs.length g11,.bool G.jam] 38)) = w12 at *
  have K7:=K.out.at 2 rfl
  rw [HON.out.c,HON.out.m,HON.out.jam] at K7
  rw [HON.out.m] at HM
  have b1:=RF.out.tn
  have b2:=RG.out.tn
  have b3:=RG.out.ml
  have b4:=RF.out.ml
  have b5:=RB.out.tn
  refine wp_normal (fnrReg13 w12 _ _ _ _ _ _ _ _ _ _ _ _ _ _ _ _ _ _ _ _ _ _ _ _ _ _ _ _ _ _ _ _ _ _ _ _ _ _ (K.out.at 0 rfl) K7 (K.out.at 1 rfl) GM.out HM.out FT.out GT.out HT.out ⟨HON.out.t.symm⟩ (by omega) (by omega) (by omega) (by omega) _ _ _ _ _ _ _ _ _ _ _ _ _ _ _ _ _ _ _ _ _ _ _ _ _ _ _ _ _ _ _ _ _ _ _ _ _ _ _ _ _ _ _ _ _ _ _ _ _ _ _ _ _ _ _ _ _ _ _ _ _ _ _ _ _ _ _ _ _ _ _ _ _ _ _ _ _ _ _ _ _ _ _ _ _ _ _ _ _ _ _ _ _ _ _ _ _ _ _) ?_
  rintro _ w13 ⟨hb,u69,u70,u71,u72,u73,u74,u75,u76,u77,u78,u79,u80,u81,u82,u83,u84,u85,u86,u87,u88,u89,u90,u91,u92,u93,u94,u95,u96,u97,u98,u99,u100,u101,rfl⟩
  go_wp2_with fail
  go_ret
  exact ⟨rfl,below_step HB.out hb⟩
end Go.Proofs.YtoncmhfmkfeolaaGreatDoor
