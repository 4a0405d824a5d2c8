/- The draws of FnStep and FnServe: a processor and a memory with an operation at PC. -/
import Derived.Test.YtoncmhfmkfeolaaGreatDoorGL
import Derived.Test.YtoncmhfmkfeolaaGreatDoorGM
import Derived.Deep.DeepCutAuto
import Derived.Deep.CutBlock
import Derived.Test.YtoncmhfmkfeolaaGreatDoorGO
import Derived.Test.YtoncmhfmkfeolaaGreatDoorGN
import Derived.Test.YtoncmhfmkfeolaaGreatDoorGE
set_option maxRecDepth 100000
set_option maxHeartbeats 8000000
set_option linter.unusedVariables false
set_option linter.unusedSimpArgs false
namespace Go.Proofs.YtoncmhfmkfeolaaGreatDoor
open Go.RowKit Go.Proofs.YtoncmhfmkfeolaaGreatDoorW.PrintWords
theorem blk_grows {w w':World} {g:Nat} (hb:w.grownBy w' (some g)):∀ k cs t,k ≠ g→Blk w k cs t→Blk w' k cs t:=fun _ _ _ hk h=>h.grown hb (fun e=>hk (by injection e))
theorem Cur.put {w:World} {g:Nat} {A:Option Addr} {c:Nat} {l:List Int} (h:Cur w g A c l) {k i:Nat} {v:Value} (hk:g<k):Cur (w.setCell ⟨k,i,none⟩ v) g A c l:=h.away (row:=some k) (grown_set (grown_refl _ _) i v) (fun q e=>by injection e with e;omega)
open Go.RowKit Go.Proofs.YtoncmhfmkfeolaaGreatDoorW.PrintWords
theorem OwnV.keep {w w':World} {base:Nat} {v:Value} {E:List Evt} (h:OwnV w base v E) (hm:∀ k,v.ownBlock=some k→w'.heap[k]?=w.heap[k]?):OwnV w' base v E:=R_only (d:=evK) (w:=w) (fun h=>h) h hm
structure LstE (w wr:World) (g:Nat) (A:Option Addr) (c:Nat) (l:List Int) (v:Value) (E:List Evt):Prop where
 own:OwnV wr w.heap.size v E
 cur:Cur wr g A c l
 only:w.grownBy wr (some g)
theorem LstE.move {w w1 w2:World} {g:Nat} {A:Option Addr} {c:Nat} {l:List Int} {v:Value} {E:List Evt} (h:LstE w w1 g A c l v E) (hg:g<w.heap.size) (hc:Cur w2 g A c l) (hb:w1.grownBy w2 (some g)):LstE w w2 g A c l v E :=
 ⟨h.own.keep (fun k e=>hb.block k (Kd.R_lt h.own k e) (fun q=>by have:=Kd.R_base h.own k e;injection q with q;omega)),hc,h.only.trans hb⟩
theorem LstE.app {w w1 w2:World} {g:Nat} {A:Option Addr} {c:Nat} {l:List Int} {v v2:Value} {E:List Evt} {x:Evt} (h:LstE w w1 g A c l v E) (hg:g<w.heap.size)
  (ho:OwnV w2 w.heap.size v2 (E++[x])) (hb:w1.grownBy w2 v.ownBlock):LstE w w2 g A c l v2 (E++[x]):=by
 have hr:∀ k,v.ownBlock=some k→w.heap.size≤k:=fun k e=>Kd.R_base h.own k e
 have h2:=h.only
 refine ⟨ho,h.cur.away hb (fun k e=>by have:=hr k e;omega),⟨hb.os.trans h2.os,hb.tape.trans h2.tape,hb.output.trans h2.output,Nat.le_trans h2.size hb.size,fun k hk hne=>?_⟩⟩
 rw[hb.block k (Nat.lt_of_lt_of_le hk h2.size) (fun e=>by have:=hr k e.symm;omega)]
 exact h2.block k hk hne
theorem empty_V (w:World):OwnV (w.alloc (.cells #[] 91)) w.heap.size (.slice (some ⟨w.heap.size,0,none⟩) 0 0) [] :=
 ⟨fun _ _=>trivial,[],by simpa using World.ownsRow_lit (base:=w.heap.size) (e:=91) (size:=evK.sz) w #[] 0 (Nat.le_refl _) (by decide) (by simp),Reps.none _ _⟩
theorem spec_l07Events (g:Nat) (A:Option Addr) (c:Nat) (l:List Int) (w:World) (h:Cur w g A c l) (hl:l.length≤1048576) :
  Calls Tryz.prog 46 #[.pointer (some ⟨g,0,none⟩)] w fun e w'=>∃ E A1 c1,e=.returned (.slice A1 (List.length E) c1)∧E.length≤4∧LstE w w' g A c l (.slice A1 E.length c1) E:=by
 have hg:g<w.heap.size:=World.block_lt_of_cell? w _ h.b
 have HB:=hR w;go_enter Tryz.func46,Tryz.ntmps46
 go_wp2_with fail
 refine (spec_l01Below _ _ _ _ _ _ (h.below (blw)) hl (by omega) (by omega)).mono ?_
 rintro _ w1 ⟨n,rfl,n0,n4,hc,hb⟩
 have n4:=n4 (by omega)
 have H1:=Aside0.mk ((⟨empty_V w,h.below (blw),by (repeat (first|(with_reducible exact grown_refl _ _)|(with_reducible assumption)|(with_reducible apply grown_alloc)|(with_reducible apply grown_drew)|(with_reducible apply grown_drewN)|(with_reducible apply grown_set)))⟩:LstE w _ g A c l _ []).move hg hc hb)
 clear hc hb
 go_wp2_with fail
 go_loopw [3,5] (fun v3 v5 wr=>∃ i:Nat,∃ E,∃ v:Value,(i:Int)≤n∧E.length=i∧v5=.int .i64 i∧v=v3∧Aside0 (LstE w wr g A c l v E)) (fun _ v5 _=>n.toNat - (intOf v5).toNat)
 case atStart=>exact ⟨0,[],_,by omega,rfl,rfl,rfl,H1⟩
 case round =>
  clear H1
  obtain ⟨i,E,v3,hi,q0,rfl,rfl,HL⟩:=hrel
  by_cases hlt:(i:Int)<n
  ·go_wp2_with fail
   refine (spec_l01Below _ _ _ _ _ _ HL.out.cur hl (by omega) (by omega)).mono ?_
   rintro _ w2 ⟨a,rfl,a0,a1,hc2,hb2⟩
   have H2:=Aside0.mk (HL.out.move hg hc2 hb2)
   clear hc2 hb2 HL a1
   go_wp2_with fail
   refine (spec_l01Once _ _ _ _ _ _ H2.out.cur hl (by omega) (by omega)).mono ?_
   rintro _ w3 ⟨b,rfl,hc2,hb2⟩
   have H3:=Aside0.mk (H2.out.move hg hc2 hb2)
   clear hc2 hb2 H2
   go_wp2_with (at_builtin;refine Kd.R_append evK (w0:=w3) w.heap.size rfl _ _ 31 91 (.agg #[.int .i64 0,.bool false]) 16 rfl Tryz.underlying31 infoEvt rfl (by decide) (by decide) v3 E ⟨a,b⟩ [.int .i64 a,.bool b] (fun _=>True) (fun k=>some k ≠ (v3:Value).ownBlock) rfl rfl ⟨[_],[_],rfl,rfl,rfl⟩ (fun _ hk=>⟨trivial,hk⟩) (fun _ _=>trivial) H3.out.own (Below.refl _ _) H3.out.only.size (by omega) ?_;intro v2 wa ho2 hb2 hg2 hat2;have HA:=Aside0.mk (H3.out.app hg ho2 hg2);clear ho2 hb2 hg2 hat2)
   exact ⟨⟨i+1,E++[⟨a,b⟩],_,by omega,by simp;omega,by go_num,rfl,HA⟩,by simp[intOf];omega⟩
  ·go_wp2_with fail
   obtain ⟨A1,c1,e1,_,_⟩:=Kd.R_reads HL.out.own
   subst e1
   go_ret
   exact ⟨E,A1,c1,rfl,by omega,HL.out⟩
open Go.RowKit Go.Proofs.YtoncmhfmkfeolaaGreatDoorW.PrintWords
theorem kind_seven (d:Int):d=0 ∨ d=6 ∨ d=10 ∨ d=9 ∨ d=8 ∨ d=7 ∨ (¬ d=0∧¬ d=6∧¬ d=10∧¬ d=9∧¬ d=8∧¬ d=7):=by omega
theorem spec_l07Loop (g:Nat) (A:Option Addr) (c:Nat) (l:List Int) (w:World) (h:Cur w g A c l) (hl:l.length≤1048576) :
  Calls Tryz.prog 99 #[.pointer (some ⟨g,0,none⟩)] w fun e w'=>∃ L A1 c1,e=.returned (.slice A1 (List.length L) c1)∧L.length≤51∧Lst w w' g A c l (.slice A1 L.length c1) L:=by
 have hg:g<w.heap.size:=World.block_lt_of_cell? w _ h.b
 have HB:=hR w;go_enter Tryz.func99,Tryz.ntmps99
 go_wp2_with fail
 refine (spec_l01Below _ _ _ _ _ _ (h.below (blw)) hl (by omega) (by omega)).mono ?_
 rintro _ w1 ⟨n,rfl,n0,n4,hc,hb⟩
 have n4:=n4 (by omega)
 have H1:=Aside0.mk ((⟨own_empty w,by simp,h.below (blw),by (repeat (first|(with_reducible exact grown_refl _ _)|(with_reducible assumption)|(with_reducible apply grown_alloc)|(with_reducible apply grown_drew)|(with_reducible apply grown_drewN)|(with_reducible apply grown_set)))⟩:Lst w _ g A c l _ []).move hg hc hb)
 clear hc hb
 have e3:IntKind.i64.wrap (3+n)=3+n:=w64 (by omega)
 go_wp2_with fail
 go_loopw [3,5] (fun v3 v5 wr=>∃ i:Nat,∃ L,∃ v:Value,(i:Int)≤3+n∧L.length≤3*i∧v5=.int .i64 i∧v=v3∧Aside0 (Lst w wr g A c l v L)) (fun _ v5 _=>(3+n).toNat - (intOf v5).toNat)
 case atStart=>exact ⟨0,[],_,by omega,by simp,rfl,rfl,H1⟩
 case round =>
  clear H1
  obtain ⟨i,L,v3,hi,q0,rfl,rfl,HL⟩:=hrel
  by_cases hlt:(i:Int)<3+n
  ·go_wp2_with fail
   refine (spec_l03Code _ _ _ _ _ HL.out.cur hl).mono ?_
   rintro _ w2 ⟨x,rfl,x0,x1,hc2,hb2⟩
   have H2:=Aside0.mk (HL.out.move hg hc2 hb2)
   clear hc2 hb2 HL
   go_wp2_with fail
   go_loopw [6,7] (fun v6 v7 wr=>∃ j:Nat,∃ x:Int,j≤4∧v7=.int .i64 j∧v6=.int .u8 x∧0≤x∧x<256∧Aside0 (Lst w wr g A c l v3 L)) (fun _ v7 _=>4 - (intOf v7).toNat)
   case atStart=>exact ⟨0,x,by omega,rfl,rfl,x0,x1,H2⟩
   case round =>
    clear H2
    obtain ⟨j,y,j4,rfl,rfl,y0,y1,HL⟩:=hrel
    have ho:=fun W=>spec_KindOf y W y0 y1
    have hs:=fun W=>spec_SizeOf y W y0 y1
    obtain ⟨z0,z1⟩:=sizeM_b (mdS y)
    generalize sizeM (mdS y)=z at hs z0 z1
    generalize kindS y=d at ho
    by_cases hj:(j:Int)<4
    ·rcases kind_seven d with rfl|rfl|rfl|rfl|rfl|rfl|⟨d0,d1,d2,d3,d4,d5⟩
     ·go_wp2_with fail
      refine Calls.mono (ho _) ?_;rintro _ w2 ⟨rfl,hb⟩;replace HL:=Aside0.mk (HL.out.below hb);clear hb;go_wp2_with fail
      refine (spec_l03Code _ _ _ _ _ HL.out.cur hl).mono ?_
      rintro _ w3 ⟨z,rfl,z0,z1,hc2,hb2⟩
      have H3:=Aside0.mk (HL.out.move hg hc2 hb2)
      clear hc2 hb2 HL
      go_wp2_with fail
      exact ⟨⟨j+1,z,by omega,by go_num,rfl,z0,z1,H3⟩,by simp[intOf];omega⟩
     ·go_wp2_with fail
      refine Calls.mono (ho _) ?_;rintro _ w2 ⟨rfl,hb⟩;replace HL:=Aside0.mk (HL.out.below hb);clear hb;go_wp2_with fail
      refine Calls.mono (ho _) ?_;rintro _ w2 ⟨rfl,hb⟩;replace HL:=Aside0.mk (HL.out.below hb);clear hb;go_wp2_with fail
      refine (spec_l03Code _ _ _ _ _ HL.out.cur hl).mono ?_
      rintro _ w3 ⟨z,rfl,z0,z1,hc2,hb2⟩
      have H3:=Aside0.mk (HL.out.move hg hc2 hb2)
      clear hc2 hb2 HL
      go_wp2_with fail
      exact ⟨⟨j+1,z,by omega,by go_num,rfl,z0,z1,H3⟩,by simp[intOf];omega⟩
     ·go_wp2_with fail
      refine Calls.mono (ho _) ?_;rintro _ w2 ⟨rfl,hb⟩;replace HL:=Aside0.mk (HL.out.below hb);clear hb;go_wp2_with fail
      refine Calls.mono (ho _) ?_;rintro _ w2 ⟨rfl,hb⟩;replace HL:=Aside0.mk (HL.out.below hb);clear hb;go_wp2_with fail
      refine Calls.mono (ho _) ?_;rintro _ w2 ⟨rfl,hb⟩;replace HL:=Aside0.mk (HL.out.below hb);clear hb;go_wp2_with fail
      refine (spec_l03Code _ _ _ _ _ HL.out.cur hl).mono ?_
      rintro _ w3 ⟨z,rfl,z0,z1,hc2,hb2⟩
      have H3:=Aside0.mk (HL.out.move hg hc2 hb2)
      clear hc2 hb2 HL
      go_wp2_with fail
      exact ⟨⟨j+1,z,by omega,by go_num,rfl,z0,z1,H3⟩,by simp[intOf];omega⟩
     ·go_wp2_with fail
      refine Calls.mono (ho _) ?_;rintro _ w2 ⟨rfl,hb⟩;replace HL:=Aside0.mk (HL.out.below hb);clear hb;go_wp2_with fail
      refine Calls.mono (ho _) ?_;rintro _ w2 ⟨rfl,hb⟩;replace HL:=Aside0.mk (HL.out.below hb);clear hb;go_wp2_with fail
      refine Calls.mono (ho _) ?_;rintro _ w2 ⟨rfl,hb⟩;replace HL:=Aside0.mk (HL.out.below hb);clear hb;go_wp2_with fail
      refine Calls.mono (ho _) ?_;rintro _ w2 ⟨rfl,hb⟩;replace HL:=Aside0.mk (HL.out.below hb);clear hb;go_wp2_with fail
      refine (spec_l03Code _ _ _ _ _ HL.out.cur hl).mono ?_
      rintro _ w3 ⟨z,rfl,z0,z1,hc2,hb2⟩
      have H3:=Aside0.mk (HL.out.move hg hc2 hb2)
      clear hc2 hb2 HL
      go_wp2_with fail
      exact ⟨⟨j+1,z,by omega,by go_num,rfl,z0,z1,H3⟩,by simp[intOf];omega⟩
     ·go_wp2_with fail
      refine Calls.mono (ho _) ?_;rintro _ w2 ⟨rfl,hb⟩;replace HL:=Aside0.mk (HL.out.below hb);clear hb;go_wp2_with fail
      refine Calls.mono (ho _) ?_;rintro _ w2 ⟨rfl,hb⟩;replace HL:=Aside0.mk (HL.out.below hb);clear hb;go_wp2_with fail
      refine Calls.mono (ho _) ?_;rintro _ w2 ⟨rfl,hb⟩;replace HL:=Aside0.mk (HL.out.below hb);clear hb;go_wp2_with fail
      refine Calls.mono (ho _) ?_;rintro _ w2 ⟨rfl,hb⟩;replace HL:=Aside0.mk (HL.out.below hb);clear hb;go_wp2_with fail
      refine Calls.mono (ho _) ?_;rintro _ w2 ⟨rfl,hb⟩;replace HL:=Aside0.mk (HL.out.below hb);clear hb;go_wp2_with fail
      refine (spec_l03Code _ _ _ _ _ HL.out.cur hl).mono ?_
      rintro _ w3 ⟨z,rfl,z0,z1,hc2,hb2⟩
      have H3:=Aside0.mk (HL.out.move hg hc2 hb2)
      clear hc2 hb2 HL
      go_wp2_with fail
      exact ⟨⟨j+1,z,by omega,by go_num,rfl,z0,z1,H3⟩,by simp[intOf];omega⟩
     ·go_wp2_with fail
      refine Calls.mono (ho _) ?_;rintro _ w2 ⟨rfl,hb⟩;replace HL:=Aside0.mk (HL.out.below hb);clear hb;go_wp2_with fail
      refine Calls.mono (ho _) ?_;rintro _ w2 ⟨rfl,hb⟩;replace HL:=Aside0.mk (HL.out.below hb);clear hb;go_wp2_with fail
      refine Calls.mono (ho _) ?_;rintro _ w2 ⟨rfl,hb⟩;replace HL:=Aside0.mk (HL.out.below hb);clear hb;go_wp2_with fail
      refine Calls.mono (ho _) ?_;rintro _ w2 ⟨rfl,hb⟩;replace HL:=Aside0.mk (HL.out.below hb);clear hb;go_wp2_with fail
      refine Calls.mono (ho _) ?_;rintro _ w2 ⟨rfl,hb⟩;replace HL:=Aside0.mk (HL.out.below hb);clear hb;go_wp2_with fail
      refine Calls.mono (ho _) ?_;rintro _ w2 ⟨rfl,hb⟩;replace HL:=Aside0.mk (HL.out.below hb);clear hb;go_wp2_with fail
      refine (spec_l03Code _ _ _ _ _ HL.out.cur hl).mono ?_
      rintro _ w3 ⟨z,rfl,z0,z1,hc2,hb2⟩
      have H3:=Aside0.mk (HL.out.move hg hc2 hb2)
      clear hc2 hb2 HL
      go_wp2_with fail
      exact ⟨⟨j+1,z,by omega,by go_num,rfl,z0,z1,H3⟩,by simp[intOf];omega⟩
     ·have f0:(d == 0)=false:=by simp[d0]
      have f1:(d == 6)=false:=by simp[d1]
      have f2:(d == 10)=false:=by simp[d2]
      have f3:(d == 9)=false:=by simp[d3]
      have f4:(d == 8)=false:=by simp[d4]
      have f5:(d == 7)=false:=by simp[d5]
      go_wp2_with fail
      refine Calls.mono (ho _) ?_;rintro _ w2 ⟨rfl,hb⟩;replace HL:=Aside0.mk (HL.out.below hb);clear hb;go_wp2_with fail
      refine Calls.mono (ho _) ?_;rintro _ w2 ⟨rfl,hb⟩;replace HL:=Aside0.mk (HL.out.below hb);clear hb;go_wp2_with fail
      refine Calls.mono (ho _) ?_;rintro _ w2 ⟨rfl,hb⟩;replace HL:=Aside0.mk (HL.out.below hb);clear hb;go_wp2_with fail
      refine Calls.mono (ho _) ?_;rintro _ w2 ⟨rfl,hb⟩;replace HL:=Aside0.mk (HL.out.below hb);clear hb;go_wp2_with fail
      refine Calls.mono (ho _) ?_;rintro _ w2 ⟨rfl,hb⟩;replace HL:=Aside0.mk (HL.out.below hb);clear hb;go_wp2_with fail
      refine Calls.mono (ho _) ?_;rintro _ w2 ⟨rfl,hb⟩;replace HL:=Aside0.mk (HL.out.below hb);clear hb
      go_wp2_with (at_builtin;refine Kd.R_append (Kd.int .u8) (w0:=w2) w.heap.size rfl _ _ 22 5 (.int .u8 0) 1 rfl Tryz.underlying22 infoU8 rfl (by decide) (by decide) v3 L y [.int .u8 y] (fun _=>True) (fun k=>some k ≠ (v3:Value).ownBlock) rfl rfl rfl (fun _ hk=>⟨trivial,hk⟩) (fun _ _=>trivial) HL.out.own (Below.refl _ _) HL.out.only.size (by omega) ?_;intro v2 wa ho2 hb2 hg2 hat2;have HA:=Aside0.mk (HL.out.app hg y0 y1 ho2 hg2);clear ho2 hb2 hg2 hat2)
      go_loopw [3,8] (fun v3 v8 wr=>∃ k:Nat,∃ M,∃ v:Value,1≤k∧k≤3∧M.length≤3*i+k∧v8=.int .i64 k∧v=v3∧Aside0 (Lst w wr g A c l v M)) (fun _ v8 _=>3 - (intOf v8).toNat)
      case atStart=>exact ⟨1,L++[y],_,by omega,by omega,by simp;omega,rfl,rfl,HA⟩
      case round =>
       clear HA
       obtain ⟨k,M,v3b,k0,k1,q1,rfl,rfl,HL⟩:=hrel
       by_cases hk:(k:Int)<z
       ·go_wp2_with fail
        refine (hs _).mono ?_
        rintro _ w4 ⟨rfl,hb⟩
        have H4:=Aside0.mk (HL.out.below hb)
        clear hb HL
        go_wp2_with fail
        refine (spec_l02Byte _ _ _ _ _ H4.out.cur hl).mono ?_
        rintro _ w5 ⟨t,rfl,t0,t1,hc5,hb5⟩
        have H5:=Aside0.mk (H4.out.move hg hc5 hb5)
        clear hc5 hb5 H4
        go_wp2_with fail
        refine Calls.mono (ho _) ?_
        rintro _ w6 ⟨rfl,hb⟩
        have H6:=Aside0.mk (H5.out.below hb)
        clear hb H5
        by_cases h5:d=5
        ·subst h5
         have hz6:=H6.out.only.size
         go_wp2_with fail
         refine (spec_l01PickInt g A c l (some ⟨w6.heap.size,0,none⟩) 7 [0,1,2,5,254,250,3] _ (H6.out.cur.below (blw)) hl (C_alloc _ _ _ (by simp)) (by simp) (by simp) (fun ad e=>by injection e with e;subst e;simp;omega)).mono ?_
         rintro _ w7 ⟨q,hq,rfl,hc7,hb7⟩
         have H7:=Aside0.mk (Lst.move (w1:=w6.alloc _) (H6.out.below (blw)) hg hc7 hb7)
         clear hc7 hb7 H6 hq
         generalize rd [0,1,2,5,254,250,3] (q:Int)=r7
         obtain ⟨u0,u1⟩:0≤r7 % 256∧r7 % 256<256:=by omega
         go_wp2_with (at_builtin;refine Kd.R_append (Kd.int .u8) (w0:=w7) w.heap.size rfl _ _ 22 5 (.int .u8 0) 1 rfl Tryz.underlying22 infoU8 rfl (by decide) (by decide) v3b M (r7 % 256) [.int .u8 (r7 % 256)] (fun _=>True) (fun k=>some k ≠ (v3b:Value).ownBlock) rfl rfl rfl (fun _ hk=>⟨trivial,hk⟩) (fun _ _=>trivial) H7.out.own (Below.refl _ _) H7.out.only.size (by omega) ?_;intro v2 wa ho2 hb2 hg2 hat2;have HA:=Aside0.mk (H7.out.app hg u0 u1 ho2 hg2);clear ho2 hb2 hg2 hat2)
         exact ⟨⟨k+1,M++[r7 % 256],_,by omega,by omega,by simp;omega,by go_num,rfl,HA⟩,by simp[intOf];omega⟩
        ·go_wp2_with (at_builtin;refine Kd.R_append (Kd.int .u8) (w0:=w6) w.heap.size rfl _ _ 22 5 (.int .u8 0) 1 rfl Tryz.underlying22 infoU8 rfl (by decide) (by decide) v3b M t [.int .u8 t] (fun _=>True) (fun k=>some k ≠ (v3b:Value).ownBlock) rfl rfl rfl (fun _ hk=>⟨trivial,hk⟩) (fun _ _=>trivial) H6.out.own (Below.refl _ _) H6.out.only.size (by omega) ?_;intro v2 wa ho2 hb2 hg2 hat2;have HA:=Aside0.mk (H6.out.app hg t0 t1 ho2 hg2);clear ho2 hb2 hg2 hat2)
         exact ⟨⟨k+1,M++[t],_,by omega,by omega,by simp;omega,by go_num,rfl,HA⟩,by simp[intOf];omega⟩
       ·go_wp2_with fail
        refine (hs _).mono ?_
        rintro _ w4 ⟨rfl,hb⟩
        have H4:=Aside0.mk (HL.out.below hb)
        clear hb HL
        go_wp2_with fail
        exact ⟨⟨i+1,M,_,by omega,by omega,by go_num,rfl,H4⟩,by simp[intOf];omega⟩
    ·go_wp2_with (at_builtin;refine Kd.R_append (Kd.int .u8) (w0:=wr) w.heap.size rfl _ _ 22 5 (.int .u8 0) 1 rfl Tryz.underlying22 infoU8 rfl (by decide) (by decide) v3 L y [.int .u8 y] (fun _=>True) (fun k=>some k ≠ (v3:Value).ownBlock) rfl rfl rfl (fun _ hk=>⟨trivial,hk⟩) (fun _ _=>trivial) HL.out.own (Below.refl _ _) HL.out.only.size (by omega) ?_;intro v2 wa ho2 hb2 hg2 hat2;have HA:=Aside0.mk (HL.out.app hg y0 y1 ho2 hg2);clear ho2 hb2 hg2 hat2)
     go_loopw [3,8] (fun v3 v8 wr=>∃ k:Nat,∃ M,∃ v:Value,1≤k∧k≤3∧M.length≤3*i+k∧v8=.int .i64 k∧v=v3∧Aside0 (Lst w wr g A c l v M)) (fun _ v8 _=>3 - (intOf v8).toNat)
     case atStart=>exact ⟨1,L++[y],_,by omega,by omega,by simp;omega,rfl,rfl,HA⟩
     case round =>
      clear HA
      obtain ⟨k,M,v3b,k0,k1,q1,rfl,rfl,HL⟩:=hrel
      by_cases hk:(k:Int)<z
      ·go_wp2_with fail
       refine (hs _).mono ?_
       rintro _ w4 ⟨rfl,hb⟩
       have H4:=Aside0.mk (HL.out.below hb)
       clear hb HL
       go_wp2_with fail
       refine (spec_l02Byte _ _ _ _ _ H4.out.cur hl).mono ?_
       rintro _ w5 ⟨t,rfl,t0,t1,hc5,hb5⟩
       have H5:=Aside0.mk (H4.out.move hg hc5 hb5)
       clear hc5 hb5 H4
       go_wp2_with fail
       refine Calls.mono (ho _) ?_
       rintro _ w6 ⟨rfl,hb⟩
       have H6:=Aside0.mk (H5.out.below hb)
       clear hb H5
       by_cases h5:d=5
       ·subst h5
        have hz6:=H6.out.only.size
        go_wp2_with fail
        refine (spec_l01PickInt g A c l (some ⟨w6.heap.size,0,none⟩) 7 [0,1,2,5,254,250,3] _ (H6.out.cur.below (blw)) hl (C_alloc _ _ _ (by simp)) (by simp) (by simp) (fun ad e=>by injection e with e;subst e;simp;omega)).mono ?_
        rintro _ w7 ⟨q,hq,rfl,hc7,hb7⟩
        have H7:=Aside0.mk (Lst.move (w1:=w6.alloc _) (H6.out.below (blw)) hg hc7 hb7)
        clear hc7 hb7 H6 hq
        generalize rd [0,1,2,5,254,250,3] (q:Int)=r7
        obtain ⟨u0,u1⟩:0≤r7 % 256∧r7 % 256<256:=by omega
        go_wp2_with (at_builtin;refine Kd.R_append (Kd.int .u8) (w0:=w7) w.heap.size rfl _ _ 22 5 (.int .u8 0) 1 rfl Tryz.underlying22 infoU8 rfl (by decide) (by decide) v3b M (r7 % 256) [.int .u8 (r7 % 256)] (fun _=>True) (fun k=>some k ≠ (v3b:Value).ownBlock) rfl rfl rfl (fun _ hk=>⟨trivial,hk⟩) (fun _ _=>trivial) H7.out.own (Below.refl _ _) H7.out.only.size (by omega) ?_;intro v2 wa ho2 hb2 hg2 hat2;have HA:=Aside0.mk (H7.out.app hg u0 u1 ho2 hg2);clear ho2 hb2 hg2 hat2)
        exact ⟨⟨k+1,M++[r7 % 256],_,by omega,by omega,by simp;omega,by go_num,rfl,HA⟩,by simp[intOf];omega⟩
       ·go_wp2_with (at_builtin;refine Kd.R_append (Kd.int .u8) (w0:=w6) w.heap.size rfl _ _ 22 5 (.int .u8 0) 1 rfl Tryz.underlying22 infoU8 rfl (by decide) (by decide) v3b M t [.int .u8 t] (fun _=>True) (fun k=>some k ≠ (v3b:Value).ownBlock) rfl rfl rfl (fun _ hk=>⟨trivial,hk⟩) (fun _ _=>trivial) H6.out.own (Below.refl _ _) H6.out.only.size (by omega) ?_;intro v2 wa ho2 hb2 hg2 hat2;have HA:=Aside0.mk (H6.out.app hg t0 t1 ho2 hg2);clear ho2 hb2 hg2 hat2)
        exact ⟨⟨k+1,M++[t],_,by omega,by omega,by simp;omega,by go_num,rfl,HA⟩,by simp[intOf];omega⟩
      ·go_wp2_with fail
       refine (hs _).mono ?_
       rintro _ w4 ⟨rfl,hb⟩
       have H4:=Aside0.mk (HL.out.below hb)
       clear hb HL
       go_wp2_with fail
       exact ⟨⟨i+1,M,_,by omega,by omega,by go_num,rfl,H4⟩,by simp[intOf];omega⟩
  ·go_wp2_with fail
   obtain ⟨A1,c1,e1,_,_⟩:=OwnB.reads HL.out.own
   subst e1
   go_ret
   exact ⟨L,A1,c1,rfl,by omega,HL.out⟩
open Go.RowKit Go.Proofs.YtoncmhfmkfeolaaGreatDoorW.PrintWords
structure Mac (w wr:World) (g:Nat) (A:Option Addr) (c:Nat) (l:List Int) (rr a hi:Nat) (p:Cpu) (vR:Value) (R:List Int):Prop where
 ka:Blk wr a #[.int .u8 p.A,.int .u8 p.X,.int .u8 p.Y,.int .u8 p.S,.int .u16 p.PC,.bool p.F.N,.bool p.F.V,.bool p.F.D,.bool p.F.I,.bool p.F.Z,.bool p.F.C] 28
 kr:Blk wr rr #[vR] 30
 zc:Blk wr w.heap.size #[.int .u8 0,.int .u8 0,.int .u8 0,.int .u8 0,.int .u16 0,.bool false,.bool false,.bool false,.bool false,.bool false,.bool false] 28
 zr:Blk wr (w.heap.size+1) #[.slice none 0 0] 30
 own:OwnX wr w.heap.size hi vR R
 cur:Cur wr g A c l
 only:w.grownBy wr (some g)
 ha:w.heap.size+2≤a
 hr:w.heap.size+2≤rr
 hw:w.heap.size≤hi
 hi_:hi≤wr.heap.size
 hg:g<w.heap.size
section
variable {w wr w2:World} {g:Nat} {A:Option Addr} {c:Nat} {l:List Int} {rr a hi:Nat} {p:Cpu} {vR:Value} {R:List Int}
theorem OwnX.keep {w w':World} {lo hi:Nat} {v:Value} {l:List Int} (h:OwnX w lo hi v l) (hm:∀ k,v.ownBlock=some k→w'.heap[k]?=w.heap[k]?):OwnX w' lo hi v l:=by
 obtain ⟨h0,inner,ho,hr⟩:=h
 exact ⟨h0,inner,own_move ho hm,hr.imp_ (fun _ _ hp=>hp)⟩
theorem some_ne {a b:Nat} (h:a ≠ b):some a ≠ some b:=fun e=>h (by injection e)
theorem Mac.call (h:Mac w wr g A c l rr a hi p vR R) (hc:Cur w2 g A c l) (hb:wr.grownBy w2 (some g)):Mac w w2 g A c l rr a hi p vR R:=by
 have:=h.hg;have:=h.ha;have:=h.hr;have:=h.hw
 exact ⟨h.ka.grown hb (some_ne (by omega)),h.kr.grown hb (some_ne (by omega)),h.zc.grown hb (some_ne (by omega)),h.zr.grown hb (some_ne (by omega)),h.own.grown hb (fun k e=>by injection e with e;omega),hc,h.only.trans hb,h.ha,h.hr,h.hw,Nat.le_trans h.hi_ hb.size,h.hg⟩
theorem Mac.below (h:Mac w wr g A c l rr a hi p vR R) (hb:Below wr.heap.size wr w2):Mac w w2 g A c l rr a hi p vR R :=
 ⟨h.ka.below hb,h.kr.below hb,h.zc.below hb,h.zr.below hb,h.own.below hb,h.cur.below hb,grown_below h.only hb,h.ha,h.hr,h.hw,Nat.le_trans h.hi_ hb.size,h.hg⟩
theorem Mac.grow (h:Mac w wr g A c l rr a hi p vR R) {v6:Value} {L:List Int} (ho:OwnB wr hi v6 L) (hb:wr.grownBy w2 v6.ownBlock):Mac w w2 g A c l rr a hi p vR R:=by
 have h1:=h.hg;have h2:=h.hw
 have hr:∀ k,v6.ownBlock=some k→hi≤k:=fun k e=>Kd.R_base ho k e
 refine ⟨h.ka.grown hb (row_ne ho h.ka (by decide)),h.kr.grown hb (row_ne ho h.kr (by decide)),h.zc.grown hb (row_ne ho h.zc (by decide)),h.zr.grown hb (row_ne ho h.zr (by decide)),h.own.grown hb (fun k e=>.inr (hr k e)),h.cur.away hb (fun k e=>by have:=hr k e;omega),⟨hb.os.trans h.only.os,hb.tape.trans h.only.tape,hb.output.trans h.only.output,Nat.le_trans h.only.size hb.size,fun k hk hne=>?_⟩,h.ha,h.hr,h.hw,Nat.le_trans h.hi_ hb.size,h.hg⟩
 rw[hb.block k (Nat.lt_of_lt_of_le hk h.only.size) (fun e=>by have:=hr k e.symm;omega)]
 exact h.only.block k hk hne
theorem Mac.setPC (h:Mac w wr g A c l rr a hi p vR R) (x:Int):Mac w (wr.setCell ⟨a,4,none⟩ (.int .u16 x)) g A c l rr a hi { p with PC:=x } vR R:=by
 have h1:=h.hg;have h2:=h.ha
 refine ⟨blk_set h.ka 4 _,h.kr.far (blk_ne h.kr h.ka (by decide)),h.zc.far (by omega),h.zr.far (by omega),OwnX.keep h.own (fun k e=>?_),h.cur.put (by omega),grown_new h.only (by omega) _ _,h.ha,h.hr,h.hw,?_,h.hg⟩
 ·obtain ⟨c1,h1⟩:=h.own.typed k e
  exact set_block _ _ _ _ _ (blk_ne h1 h.ka (by decide))
 ·rw[sC];exact h.hi_
theorem Mac.setR (h:Mac w wr g A c l rr a hi p vR R) {v':Value} {R':List Int} (ho:OwnB wr w.heap.size v' R'):Mac w (wr.setCell ⟨rr,0,none⟩ v') g A c l rr a wr.heap.size p v' R':=by
 have h1:=h.hg;have h2:=h.hr;have h3:=h.only.size
 refine ⟨h.ka.far (blk_ne h.ka h.kr (by decide)),blk_set h.kr 0 _,h.zc.far (by omega),h.zr.far (by omega),OwnX.keep (OwnX.of ho) (fun k e=>?_),h.cur.put (by omega),grown_new h.only (by omega) _ _,h.ha,h.hr,h3,?_,h.hg⟩
 ·obtain ⟨c1,h1⟩:=Kd.R_typed ho k e
  exact set_block _ _ _ _ _ (blk_ne h1 h.kr (by decide))
 ·rw[sC];exact Nat.le_refl _
end
end Go.Proofs.YtoncmhfmkfeolaaGreatDoor
namespace Go.Proofs.YtoncmhfmkfeolaaGreatDoor
open Go.RowKit Go.Proofs.YtoncmhfmkfeolaaGreatDoorW.PrintWords
theorem six_b {pc:Int}:∀ x ∈ [bits BinOp.and IntKind.u16 pc 255 % 256,IntKind.u16.wrap (pc.tdiv 256) % 256,bits BinOp.and IntKind.u16 pc 255 % 256,IntKind.u16.wrap (pc.tdiv 256) % 256,bits BinOp.and IntKind.u16 pc 255 % 256,IntKind.u16.wrap (pc.tdiv 256) % 256],0≤x∧x<256:=by
 intro x hx
 simp only[List.mem_cons,List.mem_nil_iff,or_false] at hx
 rcases hx with rfl|rfl|rfl|rfl|rfl|rfl <;> exact mb256 _
theorem three_b {pc:Int}:∀ x ∈ [76,bits BinOp.and IntKind.u16 pc 255 % 256,IntKind.u16.wrap (pc.tdiv 256) % 256],0≤x∧x<256:=by
 intro x hx
 simp only[List.mem_cons,List.mem_nil_iff,or_false] at hx
 rcases hx with rfl|rfl|rfl
 ·omega
 ·exact mb256 _
 ·exact mb256 _
theorem spec_l07Machine (g:Nat) (A:Option Addr) (c:Nat) (l:List Int) (w:World) (h:Cur w g A c l) (hl:l.length≤1048576) :
  Calls Tryz.prog 43 #[.pointer (some ⟨g,0,none⟩)] w fun e w'=>∃ (p:Cpu) (R:List Int) (A1:Option Addr) (c1:Nat),e=.returned (.tuple #[.agg #[.int .u8 p.A,.int .u8 p.X,.int .u8 p.Y,.int .u8 p.S,.int .u16 p.PC,.bool p.F.N,.bool p.F.V,.bool p.F.D,.bool p.F.I,.bool p.F.Z,.bool p.F.C],.agg #[.slice A1 R.length c1]])∧p.ok∧ramSize R.length=true∧(∀ i,0≤rd R i∧rd R i<256)∧OwnB w' w.heap.size (.slice A1 R.length c1) R∧Cur w' g A c l∧w.grownBy w' (some g):=by
 have hg0:g<w.heap.size:=World.block_lt_of_cell? w _ h.b
 have HB:=hR w;go_enter Tryz.func43,Tryz.ntmps43
 go_wp2_with fail
 refine Calls.mono (spec_l05Ram g A c l _ (h.below (blw)) hl) ?_
 rintro _ w1 ⟨R,A1,c1,rfl,hr,HL⟩
 have hp:=ramSize_le hr
 have K:Aside0 (Many w1 [(w.heap.size,#[.int .u8 0,.int .u8 0,.int .u8 0,.int .u8 0,.int .u16 0,.bool false,.bool false,.bool false,.bool false,.bool false,.bool false],28),(w.heap.size+1,#[.slice none 0 0],30)]):=⟨Many.grown (Many.cons ((Blk.at rfl).alloc _) (Many.cons (Blk.at (by simp)) (Many.nil _))) HL.only (by simp;omega)⟩
 have HG:=Aside0.mk (grown_al _ (grown_al _ HL.only))
 have hz1:=HL.only.size
 simp only[sA] at hz1
 have O1:=Aside0.mk (OwnX.of (OwnB.lower (base':=w.heap.size) HL.own (by (first|omega|(simp only[sA,sC,sD] <;> omega)|(simp <;> omega)))))
 have hRb:=rd_lit2 R HL.b
 have HC:=Aside0.mk HL.cur
 clear HL
 go_wp2_with fail
 refine Calls.mono (spec_l05Cpu g A c l _ (HC.out.below (blw)) hl) ?_
 rintro _ w2 ⟨p,hp0,rfl,hc,hb⟩
 have K:Aside0 (Many w2 [(w1.heap.size,#[.slice A1 R.length c1],30),(w.heap.size,#[.int .u8 0,.int .u8 0,.int .u8 0,.int .u8 0,.int .u16 0,.bool false,.bool false,.bool false,.bool false,.bool false,.bool false],28),(w.heap.size+1,#[.slice none 0 0],30)]):=⟨Many.grown (Many.cons (Blk.at rfl) (K.out.alloc _)) hb (by simp;omega)⟩
 replace HG:=Aside0.mk (HG.out.trans (grown_al _ hb))
 have hz2:=hb.size
 simp only[sA] at hz2
 replace O1:=Aside0.mk ((O1.out.below (blw)).grown hb (fun k e=>by injection e with e;subst e;left;omega))
 replace HC:=Aside0.mk hc
 clear hc hb
 go_wp2_with fail
 have HM:Aside0 (Mac w (w2.alloc (.cells #[.int .u8 p.A,.int .u8 p.X,.int .u8 p.Y,.int .u8 p.S,.int .u16 p.PC,.bool p.F.N,.bool p.F.V,.bool p.F.D,.bool p.F.I,.bool p.F.Z,.bool p.F.C] 28)) g A c l w1.heap.size w2.heap.size w1.heap.size p (.slice A1 R.length c1) R):=⟨⟨Blk.at rfl,(K.out.at 0 rfl).alloc _,(K.out.at 1 rfl).alloc _,(K.out.at 2 rfl).alloc _,O1.out.below (blw),HC.out.below (blw),grown_below HG.out (blw),by omega,by omega,by omega,by (first|omega|(simp only[sA,sC,sD] <;> omega)|(simp <;> omega)),hg0⟩⟩
 clear K HG O1 HC
 refine (spec_l01Below _ _ _ _ _ _ HM.out.cur hl (by omega) (by omega)).mono ?_
 rintro _ w4 ⟨n,rfl,n0,n4,hc4,hb4⟩
 have n4:=n4 (by omega)
 replace HM:=Aside0.mk (HM.out.call hc4 hb4)
 clear hc4 hb4
 have e3:IntKind.i64.wrap (61440+n)=61440+n:=w64 (by omega)
 have hz4:=HM.out.only.size
 go_wp2_with fail
 refine (spec_l01PickInt g A c l (some ⟨w4.heap.size,0,none⟩) 5 [4096,8448,33024,512,61440+n] _ (HM.out.cur.below (blw)) hl (C_alloc _ _ _ (by simp)) (by simp) (by simp) (fun ad e=>by injection e with e;subst e;simp;omega)).mono ?_
 rintro _ w5 ⟨q,hq,rfl,hc5,hb5⟩
 replace HM:=Aside0.mk (Mac.call (wr:=w4.alloc _) (HM.out.below (blw)) hc5 hb5)
 clear hc5 hb5 hq
 generalize rd [4096,8448,33024,512,61440+n] (q:Int)=x
 have c4:=HM.out.ka.cell 4
 have f4:=HM.out.ka.free 4
 have l4:=HM.out.ka.lt
 go_wp2_with fail
 obtain ⟨x0,x1⟩:=w16 x
 generalize IntKind.u16.wrap x=pc at x0 x1 ⊢
 replace HM:=Aside0.mk (HM.out.setPC pc)
 have hpp:({ p with PC:=pc }:Cpu).ok:=ok_pc hp0 ⟨x0,x1⟩
 generalize w5.setCell ⟨w2.heap.size,4,none⟩ (.int .u16 pc)=w6 at *
 obtain ⟨p2,hp2⟩:∃ p2:Cpu,{ p with PC:=pc }=p2:=⟨_,rfl⟩
 rw[hp2] at HM hpp
 have hpc:0≤p2.PC∧p2.PC<65536:=by obtain ⟨_,_,_,_,_,_,_,_,p0,p1⟩:=hpp;exact ⟨p0,p1⟩
 clear c4 f4 l4 hp2 x0 x1 hz4 e3
 have hz6:w1.heap.size≤w6.heap.size:=HM.out.hi_
 refine Calls.mono (spec_l07Loop g A c l _ HM.out.cur hl) ?_
 rintro _ w7 ⟨L,A7,c7,rfl,hL,HL7⟩
 have O7:=Aside0.mk (OwnB.lower (base':=w1.heap.size) HL7.own hz6)
 replace HM:=Aside0.mk (HM.out.call HL7.cur HL7.only)
 have hLb:=HL7.b
 clear HL7
 go_wp2_with fail
 refine Calls.mono (spec_l07Loop g A c l _ HM.out.cur hl) ?_
 rintro _ w8 ⟨L2,A8,c8,rfl,hL2,HL8⟩
 replace O7:=Aside0.mk (OwnB.grown O7.out HL8.only (fun k e=>by injection e with e;omega))
 replace HM:=Aside0.mk (HM.out.call HL8.cur HL8.only)
 have HC8:=Aside0.mk (Kd.R_reads' HL8.own).2.2
 have hLb2:=HL8.b
 have hsz8:w1.heap.size≤w8.heap.size:=HM.out.hi_
 clear HL8
 go_wp2_with (at_builtin;refine Kd.R_append_rows (Kd.int .u8) (Rr:=(Kd.int .u8).K w8) (w0:=w8) w1.heap.size rfl _ _ 22 5 (.int .u8 0) 1 rfl Tryz.underlying22 infoU8 rfl (by decide) (by decide) (.slice A7 L.length c7) L L2 A8 L2.length c8 (fun _=>True) (fun k=>some k ≠ (Value.slice A7 L.length c7).ownBlock) rfl rfl O7.out HC8.out (fun _ _ hq=>hq) (fun _ hk=>⟨trivial,hk⟩) (fun _ _=>trivial) (Below.refl _ _) hsz8 (by omega) ?_;intro v9 w9 ho9 hb9 hg9 hat9;obtain ⟨M,hM⟩:∃ M,L++L2=M:=⟨_,rfl⟩;have hMl:M.length≤102:=(by rw[←hM,List.length_append];omega);have hMb:∀ x ∈ M,0≤x∧x<256:=(fun x hx=>by rw[←hM] at hx;rcases List.mem_append.1 hx with hx|hx;exact hLb x hx;exact hLb2 x hx);rw[hM] at ho9;obtain ⟨A9,c9,e9,_,_⟩:=Kd.R_reads ho9;subst e9;have HM9:=Aside0.mk (HM.out.grow O7.out hg9);have O9:=Aside0.mk (show OwnB _ _ _ _ from ho9);clear ho9 hb9 hg9 hat9 hM HM O7 HC8)
 refine Calls.mono (spec_l01Once g A c l _ _ HM9.out.cur hl (by omega) (by omega)) ?_
 rintro _ w10 ⟨b,rfl,hc10,hb10⟩
 have HM:=Aside0.mk (HM9.out.call hc10 hb10)
 replace O9:=Aside0.mk (OwnB.grown O9.out hb10 (fun k e=>by injection e with e;omega))
 clear HM9 hc10 hb10
 have c4:w10.cell? ⟨w2.heap.size,4,none⟩=some (.int .u16 p2.PC):=HM.out.ka.cell 4
 cases b
 ·clear c4
  go_upto_region 8 with (fail)
  have r4:w10.cell? ⟨w1.heap.size,0,none⟩=some (.slice A1 R.length c1):=HM.out.kr.cell 0
  have c4:w10.cell? ⟨w2.heap.size,4,none⟩=some (.int .u16 p2.PC):=HM.out.ka.cell 4
  have hz10:=HM.out.only.size
  go_wp2_with fail
  refine Calls.mono (spec_Fill A1 c1 R p2.PC A9 c9 M _ (OwnB.bs HM.out.own.b hRb) (OwnB.bs O9.out (rd_lit2 M hMb)) hpc.1 hpc.2) ?_
  rintro _ w11 ⟨A11,c11,rfl,HO,hb⟩
  replace HM:=Aside0.mk (HM.out.below hb)
  have HO:=Aside0.mk (OwnB.lower (base':=w.heap.size) HO hz10)
  have hfl:ramSize (fill R p2.PC M).length=true:=by rw[fill_ok R M p2.PC hr (by omega)];exact hr
  have hfb:=fill_rd p2.PC M R hRb (rd_lit2 M hMb)
  generalize fill R p2.PC M=R2 at *
  clear hb O9 r4 c4
  have f0:=HM.out.kr.free 0
  have l0:=HM.out.kr.lt
  have c0:w11.cell? ⟨w1.heap.size,0,none⟩=some (.slice A1 R.length c1):=HM.out.kr.cell 0
  go_upto_region 9 with (fail)
  replace HM:=Aside0.mk (HM.out.setR HO.out)
  clear HO f0 l0 c0 hz10
  generalize w11.setCell ⟨w1.heap.size,0,none⟩ (.slice A11 R2.length c11)=w12 at *
  have c4:w12.cell? ⟨w2.heap.size,4,none⟩=some (.int .u16 p2.PC):=HM.out.ka.cell 4
  have r4:w12.cell? ⟨w1.heap.size,0,none⟩=some (.slice A11 R2.length c11):=HM.out.kr.cell 0
  have hz12:=HM.out.only.size
  go_wp2_with fail
  refine Calls.mono (spec_Fill A11 c11 R2 65530 (some ⟨w12.heap.size,0,none⟩) 6 [bits BinOp.and IntKind.u16 p2.PC 255 % 256,IntKind.u16.wrap (p2.PC.tdiv 256) % 256,bits BinOp.and IntKind.u16 p2.PC 255 % 256,IntKind.u16.wrap (p2.PC.tdiv 256) % 256,bits BinOp.and IntKind.u16 p2.PC 255 % 256,IntKind.u16.wrap (p2.PC.tdiv 256) % 256] _ ((OwnB.bs HM.out.own.b hfb).below (blw)) (bs_lit _ _ _ (by simp) six_b) (by omega) (by omega)) ?_
  rintro _ w13 ⟨A13,c13,rfl,HO,hb⟩
  replace HM:=Aside0.mk (Mac.below (wr:=w12.alloc _) (HM.out.below (blw)) hb)
  have HO:=Aside0.mk (OwnB.lower (base':=w.heap.size) HO (by (first|omega|(simp only[sA,sC,sD] <;> omega)|(simp <;> omega))))
  have hfl2:ramSize (fill R2 65530 [bits BinOp.and IntKind.u16 p2.PC 255 % 256,IntKind.u16.wrap (p2.PC.tdiv 256) % 256,bits BinOp.and IntKind.u16 p2.PC 255 % 256,IntKind.u16.wrap (p2.PC.tdiv 256) % 256,bits BinOp.and IntKind.u16 p2.PC 255 % 256,IntKind.u16.wrap (p2.PC.tdiv 256) % 256]).length=true:=by rw[fill_ok R2 _ 65530 hfl (by simp)];exact hfl
  have hfb2:=fill_rd 65530 _ R2 hfb (rd_lit2 _ (six_b (pc:=p2.PC)))
  generalize fill R2 65530 [bits BinOp.and IntKind.u16 p2.PC 255 % 256,IntKind.u16.wrap (p2.PC.tdiv 256) % 256,bits BinOp.and IntKind.u16 p2.PC 255 % 256,IntKind.u16.wrap (p2.PC.tdiv 256) % 256,bits BinOp.and IntKind.u16 p2.PC 255 % 256,IntKind.u16.wrap (p2.PC.tdiv 256) % 256]=R3 at *
  clear hb r4 c4 hfl hfb
  have f0:=HM.out.kr.free 0
  have l0:=HM.out.kr.lt
  have c0:w13.cell? ⟨w1.heap.size,0,none⟩=some (.slice A11 R2.length c11):=HM.out.kr.cell 0
  go_upto_region 10 with (fail)
  replace HM:=Aside0.mk (HM.out.setR HO.out)
  clear HO f0 l0 c0 hz12
  generalize w13.setCell ⟨w1.heap.size,0,none⟩ (.slice A13 R3.length c13)=w14 at *
  have HMd:=HM
  have KA:=HM.out.zc
  have KB:=HM.out.zr
  have ha:=HM.out.ha
  have hr2:=HM.out.hr
  have fA:=KA.free
  have fB:=KB.free
  have lA:=KA.lt
  have lB:=KB.lt
  obtain ⟨e0,e1,e2,e3,e4,e5,e6,e7,e8,e9,e10⟩:=HM.out.ka.cpu
  have r4:w14.cell? ⟨w1.heap.size,0,none⟩=some (.slice A13 R3.length c13):=HM.out.kr.cell 0
  obtain ⟨z0,z1,z2,z3,z4,z5,z6,z7,z8,z9,z10⟩:=Blk.cpu (c:=⟨0,0,0,0,0,⟨false,false,false,false,false,false⟩⟩) KA
  have y0:w14.cell? ⟨w.heap.size+1,0,none⟩=some (.slice none 0 0):=KB.cell 0
  have hn1:w2.heap.size ≠ w.heap.size:=by omega
  have hn2:w1.heap.size ≠ w.heap.size:=by omega
  have hn3:w2.heap.size ≠ w.heap.size+1:=by omega
  have hn4:w1.heap.size ≠ w.heap.size+1:=by omega
  have KAd:=Aside0.mk KA
  have KBd:=Aside0.mk KB
  clear KA KB HM
  go_region_held3 (fun w'=>w'.cell? ⟨w2.heap.size,0,none⟩=some (.int .u8 p2.A)∧w'.cell? ⟨w2.heap.size,1,none⟩=some (.int .u8 p2.X)∧w'.cell? ⟨w2.heap.size,2,none⟩=some (.int .u8 p2.Y)∧w'.cell? ⟨w2.heap.size,3,none⟩=some (.int .u8 p2.S)∧w'.cell? ⟨w2.heap.size,4,none⟩=some (.int .u16 p2.PC)∧w'.cell? ⟨w2.heap.size,5,none⟩=some (.bool p2.F.N)∧w'.cell? ⟨w2.heap.size,6,none⟩=some (.bool p2.F.V)∧w'.cell? ⟨w2.heap.size,7,none⟩=some (.bool p2.F.D)∧w'.cell? ⟨w2.heap.size,8,none⟩=some (.bool p2.F.I)∧w'.cell? ⟨w2.heap.size,9,none⟩=some (.bool p2.F.Z)∧w'.cell? ⟨w2.heap.size,10,none⟩=some (.bool p2.F.C)∧w'.cell? ⟨w1.heap.size,0,none⟩=some (.slice A13 R3.length c13)) (first|(go_keep;done)|(go_split_ands;(repeat' apply And.intro) <;> (first|(with_reducible assumption)|(go_simp;done)|(exact cell_keep blw (by assumption))|exact blw))) (first|fail)
  all_goals
   go_wp2_with fail
   (refine bodyPost_ret (v:=.tuple #[.agg #[.int .u8 p2.A,.int .u8 p2.X,.int .u8 p2.Y,.int .u8 p2.S,.int .u16 p2.PC,.bool p2.F.N,.bool p2.F.V,.bool p2.F.D,.bool p2.F.I,.bool p2.F.Z,.bool p2.F.C],.agg #[.slice A13 R3.length c13]]) (by (simp only[results,Tryz.results43];go_simp <;> (rfl))) rfl ?_)
   refine ⟨p2,R3,A13,c13,rfl,hpp,hfl2,hfb2,OwnB.move HMd.out.own.b (fun k e=>?_),?_,?_⟩
   ·obtain ⟨q1,h1⟩:=Kd.R_typed HMd.out.own.b k e
    have hkA:=blk_ne h1 KAd.out (by decide)
    have hkB:=blk_ne h1 KBd.out (by decide)
    show Same w14 _ k
    (repeat (with_reducible first|exact Same.refl _ _|refine Same.drew ?_|refine Same.set ?_ hkA|refine Same.set ?_ hkB))
   ·(repeat (with_reducible first|exact HMd.out.cur|(refine Cur.put ?_ ?_;rotate_left;(first|omega|(simp only[sA,sC,sD] <;> omega)|(simp <;> omega)))|refine Cur.below ?_ (below_drew1 (Below.refl _ _))))
   ·(repeat (with_reducible first|exact HMd.out.only|refine grown_drew ?_|(refine grown_new ?_ ?_ _ _;rotate_left;(first|omega|(simp only[sA,sC,sD] <;> omega)|(simp <;> omega)))))
 ·have hz1b:w1.heap.size≤w10.heap.size:=HM.out.hi_
  go_wp2_with (at_builtin;refine Kd.R_append_rows (Kd.int .u8) (Rr:=(Kd.int .u8).K (w10.alloc (.cells #[.int .u8 76,.int .u8 (bits BinOp.and IntKind.u16 p2.PC 255 % 256),.int .u8 (IntKind.u16.wrap (p2.PC.tdiv 256) % 256)] 5))) (w0:=w10) w1.heap.size rfl _ _ 22 5 (.int .u8 0) 1 rfl Tryz.underlying22 infoU8 rfl (by decide) (by decide) (.slice A9 M.length c9) M [76,bits BinOp.and IntKind.u16 p2.PC 255 % 256,IntKind.u16.wrap (p2.PC.tdiv 256) % 256] (some ⟨w10.heap.size,0,none⟩) 3 3 (fun _=>True) (fun k=>some k ≠ (Value.slice A9 M.length c9).ownBlock) rfl rfl (OwnB.below O9.out (blw)) (bs_lit _ _ _ (by simp) three_b).c (fun _ _ hq=>hq) (fun _ hk=>⟨trivial,hk⟩) (fun _ _=>trivial) (Below.mono (blw:Below w10.heap.size w10 _) hz1b) (by rw[sA];omega) (by omega) ?_;intro v11 w11b ho11 hb11 hg11 hat11;obtain ⟨M3,hM3⟩:∃ M3,M++[76,bits BinOp.and IntKind.u16 p2.PC 255 % 256,IntKind.u16.wrap (p2.PC.tdiv 256) % 256]=M3:=⟨_,rfl⟩;have hMl3:M3.length≤105:=(by rw[←hM3,List.length_append];simp;omega);have hMb3:∀ x ∈ M3,0≤x∧x<256:=(fun x hx=>by rw[←hM3] at hx;rcases List.mem_append.1 hx with hx|hx;exact hMb x hx;exact three_b x hx);rw[hM3] at ho11;obtain ⟨A10,c10,e10,_,_⟩:=Kd.R_reads ho11;subst e10;have HM11:=Aside0.mk (Mac.grow (wr:=w10.alloc _) (HM.out.below (blw)) (OwnB.below O9.out (blw)) hg11);have O10:=Aside0.mk (show OwnB _ _ _ _ from ho11);clear ho11 hb11 hg11 hat11 hM3 HM O9 c4;have HM:=HM11;clear HM11;have c4:w11b.cell? ⟨w2.heap.size,4,none⟩=some (.int .u16 p2.PC):=HM.out.ka.cell 4;have r4:w11b.cell? ⟨w1.heap.size,0,none⟩=some (.slice A1 R.length c1):=HM.out.kr.cell 0)
  have r4:w11b.cell? ⟨w1.heap.size,0,none⟩=some (.slice A1 R.length c1):=HM.out.kr.cell 0
  have c4:w11b.cell? ⟨w2.heap.size,4,none⟩=some (.int .u16 p2.PC):=HM.out.ka.cell 4
  have hz10:=HM.out.only.size
  refine Calls.mono (spec_Fill A1 c1 R p2.PC A10 c10 M3 _ (OwnB.bs HM.out.own.b hRb) (OwnB.bs O10.out (rd_lit2 M3 hMb3)) hpc.1 hpc.2) ?_
  rintro _ w11 ⟨A11,c11,rfl,HO,hb⟩
  replace HM:=Aside0.mk (HM.out.below hb)
  have HO:=Aside0.mk (OwnB.lower (base':=w.heap.size) HO hz10)
  have hfl:ramSize (fill R p2.PC M3).length=true:=by rw[fill_ok R M3 p2.PC hr (by omega)];exact hr
  have hfb:=fill_rd p2.PC M3 R hRb (rd_lit2 M3 hMb3)
  generalize fill R p2.PC M3=R2 at *
  clear hb O10 r4 c4
  have f0:=HM.out.kr.free 0
  have l0:=HM.out.kr.lt
  have c0:w11.cell? ⟨w1.heap.size,0,none⟩=some (.slice A1 R.length c1):=HM.out.kr.cell 0
  go_upto_region 9 with (fail)
  replace HM:=Aside0.mk (HM.out.setR HO.out)
  clear HO f0 l0 c0 hz10
  generalize w11.setCell ⟨w1.heap.size,0,none⟩ (.slice A11 R2.length c11)=w12 at *
  have c4:w12.cell? ⟨w2.heap.size,4,none⟩=some (.int .u16 p2.PC):=HM.out.ka.cell 4
  have r4:w12.cell? ⟨w1.heap.size,0,none⟩=some (.slice A11 R2.length c11):=HM.out.kr.cell 0
  have hz12:=HM.out.only.size
  go_wp2_with fail
  refine Calls.mono (spec_Fill A11 c11 R2 65530 (some ⟨w12.heap.size,0,none⟩) 6 [bits BinOp.and IntKind.u16 p2.PC 255 % 256,IntKind.u16.wrap (p2.PC.tdiv 256) % 256,bits BinOp.and IntKind.u16 p2.PC 255 % 256,IntKind.u16.wrap (p2.PC.tdiv 256) % 256,bits BinOp.and IntKind.u16 p2.PC 255 % 256,IntKind.u16.wrap (p2.PC.tdiv 256) % 256] _ ((OwnB.bs HM.out.own.b hfb).below (blw)) (bs_lit _ _ _ (by simp) six_b) (by omega) (by omega)) ?_
  rintro _ w13 ⟨A13,c13,rfl,HO,hb⟩
  replace HM:=Aside0.mk (Mac.below (wr:=w12.alloc _) (HM.out.below (blw)) hb)
  have HO:=Aside0.mk (OwnB.lower (base':=w.heap.size) HO (by (first|omega|(simp only[sA,sC,sD] <;> omega)|(simp <;> omega))))
  have hfl2:ramSize (fill R2 65530 [bits BinOp.and IntKind.u16 p2.PC 255 % 256,IntKind.u16.wrap (p2.PC.tdiv 256) % 256,bits BinOp.and IntKind.u16 p2.PC 255 % 256,IntKind.u16.wrap (p2.PC.tdiv 256) % 256,bits BinOp.and IntKind.u16 p2.PC 255 % 256,IntKind.u16.wrap (p2.PC.tdiv 256) % 256]).length=true:=by rw[fill_ok R2 _ 65530 hfl (by simp)];exact hfl
  have hfb2:=fill_rd 65530 _ R2 hfb (rd_lit2 _ (six_b (pc:=p2.PC)))
  generalize fill R2 65530 [bits BinOp.and IntKind.u16 p2.PC 255 % 256,IntKind.u16.wrap (p2.PC.tdiv 256) % 256,bits BinOp.and IntKind.u16 p2.PC 255 % 256,IntKind.u16.wrap (p2.PC.tdiv 256) % 256,bits BinOp.and IntKind.u16 p2.PC 255 % 256,IntKind.u16.wrap (p2.PC.tdiv 256) % 256]=R3 at *
  clear hb r4 c4 hfl hfb
  have f0:=HM.out.kr.free 0
  have l0:=HM.out.kr.lt
  have c0:w13.cell? ⟨w1.heap.size,0,none⟩=some (.slice A11 R2.length c11):=HM.out.kr.cell 0
  go_upto_region 10 with (fail)
  replace HM:=Aside0.mk (HM.out.setR HO.out)
  clear HO f0 l0 c0 hz12
  generalize w13.setCell ⟨w1.heap.size,0,none⟩ (.slice A13 R3.length c13)=w14 at *
  have HMd:=HM
  have KA:=HM.out.zc
  have KB:=HM.out.zr
  have ha:=HM.out.ha
  have hr2:=HM.out.hr
  have fA:=KA.free
  have fB:=KB.free
  have lA:=KA.lt
  have lB:=KB.lt
  obtain ⟨e0,e1,e2,e3,e4,e5,e6,e7,e8,e9,e10⟩:=HM.out.ka.cpu
  have r4:w14.cell? ⟨w1.heap.size,0,none⟩=some (.slice A13 R3.length c13):=HM.out.kr.cell 0
  obtain ⟨z0,z1,z2,z3,z4,z5,z6,z7,z8,z9,z10⟩:=Blk.cpu (c:=⟨0,0,0,0,0,⟨false,false,false,false,false,false⟩⟩) KA
  have y0:w14.cell? ⟨w.heap.size+1,0,none⟩=some (.slice none 0 0):=KB.cell 0
  have hn1:w2.heap.size ≠ w.heap.size:=by omega
  have hn2:w1.heap.size ≠ w.heap.size:=by omega
  have hn3:w2.heap.size ≠ w.heap.size+1:=by omega
  have hn4:w1.heap.size ≠ w.heap.size+1:=by omega
  have KAd:=Aside0.mk KA
  have KBd:=Aside0.mk KB
  clear KA KB HM
  go_region_held3 (fun w'=>w'.cell? ⟨w2.heap.size,0,none⟩=some (.int .u8 p2.A)∧w'.cell? ⟨w2.heap.size,1,none⟩=some (.int .u8 p2.X)∧w'.cell? ⟨w2.heap.size,2,none⟩=some (.int .u8 p2.Y)∧w'.cell? ⟨w2.heap.size,3,none⟩=some (.int .u8 p2.S)∧w'.cell? ⟨w2.heap.size,4,none⟩=some (.int .u16 p2.PC)∧w'.cell? ⟨w2.heap.size,5,none⟩=some (.bool p2.F.N)∧w'.cell? ⟨w2.heap.size,6,none⟩=some (.bool p2.F.V)∧w'.cell? ⟨w2.heap.size,7,none⟩=some (.bool p2.F.D)∧w'.cell? ⟨w2.heap.size,8,none⟩=some (.bool p2.F.I)∧w'.cell? ⟨w2.heap.size,9,none⟩=some (.bool p2.F.Z)∧w'.cell? ⟨w2.heap.size,10,none⟩=some (.bool p2.F.C)∧w'.cell? ⟨w1.heap.size,0,none⟩=some (.slice A13 R3.length c13)) (first|(go_keep;done)|(go_split_ands;(repeat' apply And.intro) <;> (first|(with_reducible assumption)|(go_simp;done)|(exact cell_keep blw (by assumption))|exact blw))) (first|fail)
  all_goals
   go_wp2_with fail
   (refine bodyPost_ret (v:=.tuple #[.agg #[.int .u8 p2.A,.int .u8 p2.X,.int .u8 p2.Y,.int .u8 p2.S,.int .u16 p2.PC,.bool p2.F.N,.bool p2.F.V,.bool p2.F.D,.bool p2.F.I,.bool p2.F.Z,.bool p2.F.C],.agg #[.slice A13 R3.length c13]]) (by (simp only[results,Tryz.results43];go_simp <;> (rfl))) rfl ?_)
   refine ⟨p2,R3,A13,c13,rfl,hpp,hfl2,hfb2,OwnB.move HMd.out.own.b (fun k e=>?_),?_,?_⟩
   ·obtain ⟨q1,h1⟩:=Kd.R_typed HMd.out.own.b k e
    have hkA:=blk_ne h1 KAd.out (by decide)
    have hkB:=blk_ne h1 KBd.out (by decide)
    show Same w14 _ k
    (repeat (with_reducible first|exact Same.refl _ _|refine Same.drew ?_|refine Same.set ?_ hkA|refine Same.set ?_ hkB))
   ·(repeat (with_reducible first|exact HMd.out.cur|(refine Cur.put ?_ ?_;rotate_left;(first|omega|(simp only[sA,sC,sD] <;> omega)|(simp <;> omega)))|refine Cur.below ?_ (below_drew1 (Below.refl _ _))))
   ·(repeat (with_reducible first|exact HMd.out.only|refine grown_drew ?_|(refine grown_new ?_ ?_ _ _;rotate_left;(first|omega|(simp only[sA,sC,sD] <;> omega)|(simp <;> omega)))))
end Go.Proofs.YtoncmhfmkfeolaaGreatDoor
