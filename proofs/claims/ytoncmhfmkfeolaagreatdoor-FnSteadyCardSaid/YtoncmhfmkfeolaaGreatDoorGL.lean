/- Drawn counters and memories. -/
import Derived.Test.YtoncmhfmkfeolaaGreatDoorGG
import Derived.Test.YtoncmhfmkfeolaaGreatDoorGD
import Derived.Deep.RegionHeld3
import Derived.Test.YtoncmhfmkfeolaaGreatDoorGF
set_option maxRecDepth 100000
set_option maxHeartbeats 8000000
namespace Go.Proofs.YtoncmhfmkfeolaaGreatDoor
open Go.RowKit Go.Proofs.YtoncmhfmkfeolaaGreatDoorW.PrintWords
theorem spec_l04Pc (g:Nat) (A:Option Addr) (c:Nat) (l:List Int) (w:World) (h:Cur w g A c l) (hl:l.length≤1048576) :
  Calls Tryz.prog 144 #[.pointer (some ⟨g,0,none⟩)] w fun e w'=>∃ x,e=.returned (.int .u16 x)∧0≤x∧x<65536∧Cur w' g A c l∧w.grownBy w' (some g):=by
 have HB:=hR w;go_enter Tryz.func144,Tryz.ntmps144
 go_wp2_with fail
 refine (spec_l01Below g A c l 65536 _ h hl (by omega) (by omega)).mono ?_
 rintro _ w1 ⟨x,rfl,x0,x1,hc,hb⟩
 have hg:g<w1.heap.size:=World.block_lt_of_cell? w1 _ hc.b
 go_wp2_with fail
 refine (spec_l01PickInt g A c l (some ⟨w1.heap.size,0,none⟩) 8 [0,255,512,4096,32768,65535,65530,x] _ (hc.below (blw)) hl (C_alloc _ _ _ (by simp)) (by simp) (by simp) (fun ad e=>by injection e with e;subst e;simp;omega)).mono ?_
 rintro _ w2 ⟨k,hk,rfl,hc2,hb2⟩
 go_wp2_with fail
 go_ret
 exact ⟨_,rfl,(w16 _).1,(w16 _).2,hc2,hb.trans (grown_al _ hb2)⟩
theorem rd_lit2 (L:List Int) (hb:∀ x ∈ L,0≤x∧x<256) (i:Int):0≤rd L i∧rd L i<256:=by
 unfold rd
 rw[List.getD_eq_getElem?_getD]
 rcases Nat.lt_or_ge i.toNat L.length with h|h
 ·rw[List.getElem?_eq_getElem h];exact hb _ (List.getElem_mem h)
 ·rw[List.getElem?_eq_none h];simp
theorem set_b {L:List Int} {x:Int} (h:∀ x ∈ L,0≤x∧x<256) (i:Nat) (hx:0≤x∧x<256):∀ y ∈ L.set i x,0≤y∧y<256:=by
 intro y hy
 rcases List.mem_or_eq_of_mem_set hy with hy|hy
 ·exact h y hy
 ·subst hy;exact hx
theorem grown_new {a w:World} {row:Option Nat} {r:Nat} (h:a.grownBy w row) (hr:a.heap.size≤r) (i:Nat) (v:Value):a.grownBy (w.setCell ⟨r,i,none⟩ v) row:=by
 refine ⟨h.os,h.tape,h.output,by simpa [World.setCell] using h.size,fun k hk hne=>?_⟩
 rw[Below.heap_setCell _ _ _ _ (by show ¬ k=r;omega)]
 exact h.block k hk hne
theorem fill_ok (l m:List Int) (a:Int) (h:ramSize l.length=true) (hm:m.length≤1024):(fill l a m).length=l.length:=by
 rw[fill,h,if_pos (by simp;omega),fillN_len]
theorem mem_rd {L:List Int} (h:∀ i,0≤rd L i∧rd L i<256):∀ x ∈ L,0≤x∧x<256:=by
 intro x hx
 obtain ⟨i,hi,rfl⟩:=List.getElem_of_mem hx
 have:=h i
 rwa [rd_nat L i hi] at this
theorem four_ok (k:Nat) (hk:k<4):ramSize (rd [256,512,1024,4096] k)=true:=by
 have:k=0 ∨ k=1 ∨ k=2 ∨ k=3:=by omega
 rcases this with rfl|rfl|rfl|rfl <;> decide
theorem spec_l05Ram (g:Nat) (A:Option Addr) (c:Nat) (l:List Int) (w:World) (h:Cur w g A c l) (hl:l.length≤1048576) :
  Calls Tryz.prog 97 #[.pointer (some ⟨g,0,none⟩)] w fun e w'=>∃ L A1 c1,e=.returned (.agg #[.slice A1 (List.length L) c1])∧ramSize L.length=true∧Lst w w' g A c l (.slice A1 L.length c1) L:=by
 have hg:g<w.heap.size:=World.block_lt_of_cell? w _ h.b
 have HB:=hR w;go_enter Tryz.func97,Tryz.ntmps97
 go_wp2_with fail
 refine (spec_l01PickInt g A c l (some ⟨w.heap.size+1,0,none⟩) 4 [256,512,1024,4096] _ (h.below (blw)) hl (by rw[←World.size_alloc w (.cells #[.slice none 0 0] 30)];exact C_alloc (w.alloc _) [256,512,1024,4096] _ (by decide)) (by decide) (by decide) (fun ad e=>by injection e with e;subst e;simp;omega)).mono ?_
 rintro _ w1 ⟨k,hk,rfl,hc,hb⟩
 have e0:w1.cell? ⟨w.heap.size,0,none⟩=some (.slice none 0 0):=hb.cell (by go_simp) (by intro e;injection e with e;simp at e;omega)
 have f0:w1.frozen? ⟨w.heap.size,0,none⟩=false:=(World.frozen?_of_block (hb.block w.heap.size (by simp;omega) (by intro e;injection e with e;omega))).trans (by go_simp)
 have hn:=four_ok k hk
 have HC1:=Aside0.mk hc
 have HG1:=Aside0.mk (grown_al _ (grown_al _ hb))
 have s1:w.heap.size<w1.heap.size:=by have:=hb.size;simp at this;omega
 clear hc hb
 generalize rd [256,512,1024,4096] k=n at hn
 have hp:=ramSize_le hn
 go_wp2_with fail
 refine (spec_NewRam n _).mono ?_
 rintro _ w2 ⟨A2,c2,rfl,ho,hb⟩
 have hN:(newRam n).length=n.toNat:=by simp[newRam,hn]
 have hb0:=newRam_b n
 have hB0:∀ x ∈ newRam n,0≤x∧x<256:=by
  intro x hx
  simp[newRam,hn] at hx
  omega
 have e02:w2.cell? ⟨w.heap.size,0,none⟩=some (.slice none 0 0):=(hb.cell s1).trans e0
 have f02:w2.frozen? ⟨w.heap.size,0,none⟩=false:=(hb.frozen s1).trans f0
 have HC2:=Aside0.mk (HC1.out.below hb)
 have HG2:=Aside0.mk (grown_below HG1.out hb)
 have s2:w1.heap.size≤w2.heap.size:=hb.size
 have s12:w.heap.size<w2.heap.size:=by omega
 have HO2:=Aside0.mk (show OwnB w2 w1.heap.size (.slice A2 (newRam n).length c2) (newRam n) from ho)
 have R2:∀ k:Nat,(Value.slice A2 (newRam n).length c2).ownBlock=some k→w1.heap.size≤k∧k<w2.heap.size:=fun k e=>⟨Kd.R_base ho k e,Kd.R_lt ho k e⟩
 clear HC1 HG1 ho hb e0 f0
 generalize newRam n=R0 at hN hB0 HO2 R2 ⊢
 rw[hN] at HO2 R2
 go_wp2_with fail
 refine (spec_l04Bytes g A c l 60 _ (HC2.out.below (blw)) hl (by omega) (by omega)).mono ?_
 rintro _ w3 ⟨M,B,d,rfl,m0,m1,HM⟩
 have s3:w2.heap.size+1≤w3.heap.size:=by have:=HM.only.size;simp at this;omega
 have e03:w3.cell? ⟨w.heap.size,0,none⟩=some (.slice none 0 0):=HM.only.cell (by go_simp) (by intro e;injection e with e;simp at e;omega)
 have f03:w3.frozen? ⟨w.heap.size,0,none⟩=false:=(World.frozen?_of_block (HM.only.block w.heap.size (by simp;omega) (by intro e;injection e with e;omega))).trans (by go_simp)
 have er3:w3.cell? ⟨w2.heap.size,0,none⟩=some (.slice A2 n.toNat c2):=HM.only.cell (by go_simp) (by intro e;injection e with e;simp at e;omega)
 have fr3:w3.frozen? ⟨w2.heap.size,0,none⟩=false:=(World.frozen?_of_block (HM.only.block w2.heap.size (by simp) (by intro e;injection e with e;omega))).trans (by go_simp)
 have HR3:=Aside0.mk (OwnB.grown (OwnB.alloc HO2.out _) HM.only (fun k e=>by injection e with e;omega))
 have HG3:=Aside0.mk ((grown_alloc HG2.out _).trans HM.only)
 have HC3:=Aside0.mk HM.cur
 have HM3:=Aside0.mk HM.own
 have hMb:=HM.b
 clear HC2 HG2 e02 f02 HM HO2
 go_wp2_with fail
 go_loopw [5] (fun v5 wr=>∃ i:Nat,∃ R:List Int,i≤n.toNat∧v5=.int .i64 i∧R.length=n.toNat∧(∀ x ∈ R,0≤x∧x<256)∧Aside0 (OwnB wr w1.heap.size (.slice A2 n.toNat c2) R)∧Aside0 (OwnB wr (w2.heap.size+1) (.slice B M.length d) M)∧Aside0 (Cur wr g A c l)∧Aside0 (w.grownBy wr (some g))∧w2.heap.size+1≤wr.heap.size∧wr.cell? ⟨w.heap.size,0,none⟩=some (.slice none 0 0)∧wr.frozen? ⟨w.heap.size,0,none⟩=false∧wr.cell? ⟨w2.heap.size,0,none⟩=some (.slice A2 n.toNat c2)) (fun v5 _=>n.toNat - (intOf v5).toNat)
 case atStart=>exact ⟨0,R0,Nat.zero_le _,rfl,hN,hB0,HR3,⟨by have:=HM3.out;rwa [World.size_alloc] at this⟩,HC3,HG3,s3,e03,f03,er3⟩
 case round =>
  clear HR3 HM3 HC3 HG3 s3 e03 f03 er3 fr3 hB0 hN
  obtain ⟨i,R,hi,rfl,hN,hB0,HR,HM,HC,HG,s3,e0,f0,er⟩:=hrel
  by_cases hlt:i<n.toNat
  ·have bM:=HM.out.bs (rd_lit2 M hMb)
   have j1:(i*7+i / 97) % M.length<M.length:=Nat.mod_lt _ (by omega)
   have j2:(0:Int)≤((i:Int)*7+(i:Int) / 97) % (M.length:Int):=Int.emod_nonneg _ (by omega)
   have j3:((i:Int)*7+(i:Int) / 97) % (M.length:Int)<(M.length:Int):=Int.emod_lt_of_pos _ (by omega)
   obtain ⟨ad,rfl,hx⟩:=bM.at (((i*7+i / 97) % M.length:Nat):Int) (by omega) (by omega)
   have hxb:=bM.b (((i*7+i / 97) % M.length:Nat):Int)
   rw[Int.toNat_natCast] at hx
   generalize rd M (((i*7+i / 97) % M.length:Nat):Int)=x at hx hxb
   have hne:¬ M=[]:=fun e=>by subst e;simp at m0
   obtain ⟨r,cap,eo,gb,gl,cl,HCr⟩:=Kd.R_form HR.out (by omega)
   rw[hN] at eo
   injection eo with ea en ec
   subst ea ec
   obtain ⟨rb0,rb1⟩:=R2 r rfl
   obtain ⟨hy,hf⟩:=Kd.R_celln 0 HR.out i (by omega) (by omega)
   have HP:=Aside0.mk (Kd.R_putg HR.out i x).1
   simp only[Int.toNat_natCast] at hy hf HP
   have GB:=Aside0.mk gb
   clear HCr en gb
   have rg:¬ r=w.heap.size:=by omega
   have rg2:¬ r=w2.heap.size:=by omega
   have rg3:¬ w.heap.size=r:=by omega
   have rg4:¬ w2.heap.size=r:=by omega
   go_wp2
   go_region
   go_wp2
   have gb:=GB.out
   exact ⟨⟨i+1,R.set i x,by omega,by go_num,by simpa using hN,set_b hB0 i hxb,⟨OwnB.drew HP.out⟩,⟨OwnB.drew (HM.out.set (by show r<_;omega) _)⟩,⟨Cur.below (HC.out.away (grown_set (g:=r) (grown_refl wr _) i (.int .u8 x)) (fun k e=>by injection e with e;omega)) (blw)⟩,⟨grown_drew (grown_new HG.out (by omega) _ _)⟩,by simp;omega,by go_simp,by go_simp,by go_simp⟩,by simp[intOf];omega⟩
  ·have bM:=Aside0.mk (HM.out.bs (rd_lit2 M hMb))
   have hF:=fun a W b1 b2 h0 h1=>spec_Fill A2 c2 R a B d M W b1 b2 h0 h1
   simp only[hN] at hF
   have HRb:Aside0 (OwnB wr w1.heap.size (.slice A2 R.length c2) R):=by rw[hN];exact HR
   have sg:g<w1.heap.size:=by omega
   go_wp2_with fail
   go_region_held3 (fun w'=>w'.cell? ⟨w2.heap.size,0,none⟩=some (.slice A2 n.toNat c2)) (first|(go_keep;done)|(go_split_ands;(repeat' apply And.intro) <;> (first|(with_reducible assumption)|(go_simp;done)|(exact cell_keep blw (by assumption))|exact blw))) (first|(go_at_call 47;((with_reducible refine Calls.mono (spec_l01Below g A c l 4096 _ (HC.out.below (blw)) hl (by omega) (by omega)) ?_);rintro _ w5 ⟨y,rfl,y0,y1,hc5,hb5⟩;have y2:=y1 (by omega);have HR5:=Aside0.mk (OwnB.grown (HRb.out.below (blw)) hb5 (fun k e=>by injection e with e;omega));have HM5:=Aside0.mk (OwnB.grown (HM.out.below (blw)) hb5 (fun k e=>by injection e with e;omega));have HC5:=Aside0.mk hc5;have HG5:=Aside0.mk ((grown_below HG.out (blw)).trans hb5);have er5:w5.cell? ⟨w2.heap.size,0,none⟩=some (.slice A2 n.toNat c2):=hb5.cell (by go_simp) (by intro e;injection e with e;simp at e;omega);have e05:w5.cell? ⟨w.heap.size,0,none⟩=some (.slice none 0 0):=hb5.cell (by go_simp) (by intro e;injection e with e;simp at e;omega);have f05:w5.frozen? ⟨w.heap.size,0,none⟩=false:=(World.frozen?_of_block (hb5.block w.heap.size (by simp;omega) (by intro e;injection e with e;omega))).trans (by go_simp);have s5:wr.heap.size≤w5.heap.size:=by { have hh:=hb5.size;simpa using hh };clear hc5 hb5 y1))|(go_at_call 100;((with_reducible refine Calls.mono (hF _ _ ((HR5.out.bs (rd_lit2 R hB0)).below (blw)) ((HM5.out.bs (rd_lit2 M hMb)).below (blw)) (w16 _).1 (w16 _).2) ?_);rintro _ w6 ⟨A6,c6,rfl,ho6,hb6⟩;have e06:w6.cell? ⟨w.heap.size,0,none⟩=some (.slice none 0 0):=(hb6.cell (by simp;omega)).trans (by go_simp);have er6:w6.cell? ⟨w2.heap.size,0,none⟩=some (.slice A2 n.toNat c2):=(hb6.cell (by simp;omega)).trans (by go_simp);have f06:w6.frozen? ⟨w.heap.size,0,none⟩=false:=(hb6.frozen (by simp;omega)).trans (by go_simp);have HO6:=Aside0.mk ho6;have HC6:=Aside0.mk (Cur.below (HC5.out.below (blw)) hb6);have HG6:=Aside0.mk (grown_below (grown_below HG5.out (blw)) hb6);have s6:w5.heap.size≤w6.heap.size:=by { have hh:=hb6.size;simpa using hh };clear ho6 hb6)))
   go_wp2_with fail
   (refine bodyPost_ret (v:=.agg #[.slice A6 (fill R (IntKind.u16.wrap y) M).length c6]) (by (simp only[results,Tryz.results97];go_simp <;> (rfl))) rfl ?_)
   have hfl:=fill_ok R M (IntKind.u16.wrap y) (by rw[hN];rwa [Int.toNat_of_nonneg (by omega)]) (by omega)
   exact ⟨_,_,_,rfl,by rw[hfl,hN];rwa [Int.toNat_of_nonneg (by omega)],⟨(HO6.out.set (by first|omega|(simp;omega)|(show w.heap.size<_;simp;omega)) _).lower (by first|omega|(simp;omega)),mem_rd (fill_rd _ _ _ (rd_lit2 R hB0) (rd_lit2 M hMb)),HC6.out.away (grown_set (g:=w.heap.size) (grown_refl w6 _) 0 _) (fun k e=>by injection e with e;omega),grown_new HG6.out (by omega) _ _⟩⟩
open Go.RowKit Go.Proofs.YtoncmhfmkfeolaaGreatDoorW.PrintWords
theorem five_b (k:Nat) (hk:k<5):0≤rd [0,255,257,768,8192] k∧rd [0,255,257,768,8192] k≤8192:=by
 have:k=0 ∨ k=1 ∨ k=2 ∨ k=3 ∨ k=4:=by omega
 rcases this with rfl|rfl|rfl|rfl|rfl <;> decide
theorem spec_l05Any (g:Nat) (A:Option Addr) (c:Nat) (l:List Int) (w:World) (h:Cur w g A c l) (hl:l.length≤1048576) :
  Calls Tryz.prog 45 #[.pointer (some ⟨g,0,none⟩)] w fun e w'=>∃ L A1 c1,e=.returned (.agg #[.slice A1 (List.length L) c1])∧L.length≤8192∧Lst w w' g A c l (.slice A1 L.length c1) L:=by
 have hg:g<w.heap.size:=World.block_lt_of_cell? w _ h.b
 have HB:=hR w;go_enter Tryz.func45,Tryz.ntmps45
 go_wp2_with fail
 refine (spec_l01Once g A c l 10 _ (h.below (blw)) hl (by omega) (by omega)).mono ?_
 rintro _ w1 ⟨b,rfl,hc,hb⟩
 have e0:w1.cell? ⟨w.heap.size,0,none⟩=some (.slice none 0 0):=hb.cell (by go_simp) (by intro e;injection e with e;simp at e;omega)
 have f0:w1.frozen? ⟨w.heap.size,0,none⟩=false:=(World.frozen?_of_block (hb.block w.heap.size (by simp) (by intro e;injection e with e;omega))).trans (by go_simp)
 have s1:w.heap.size<w1.heap.size:=by have:=hb.size;simp at this;omega
 have HC1:=Aside0.mk hc
 have HG1:=Aside0.mk (grown_al _ hb)
 clear hc hb
 cases b
 ·go_wp2_with fail
  refine (spec_l05Ram g A c l _ HC1.out hl).mono ?_
  rintro _ w2 ⟨L,A2,c2,rfl,hr,HL⟩
  have hp:=ramSize_le hr
  have e02:w2.cell? ⟨w.heap.size,0,none⟩=some (.slice none 0 0):=HL.only.cell e0 (by intro e;injection e with e;simp at e;omega)
  have f02:w2.frozen? ⟨w.heap.size,0,none⟩=false:=(World.frozen?_of_block (HL.only.block w.heap.size (by omega) (by intro e;injection e with e;omega))).trans f0
  have HL2:=Aside0.mk HL
  clear HL e0 f0
  go_wp2_with fail
  (refine bodyPost_ret (v:=.agg #[.slice A2 L.length c2]) (by (simp only[results,Tryz.results45];go_simp <;> (rfl))) rfl ?_)
  exact ⟨_,_,_,rfl,by omega,⟨(HL2.out.own.set (by first|omega|(simp;omega)|(show w.heap.size<_;simp;omega)) _).lower (by omega),HL2.out.b,HL2.out.cur.away (grown_set (g:=w.heap.size) (grown_refl w2 _) 0 _) (fun k e=>by injection e with e;omega),grown_new (HG1.out.trans HL2.out.only) (by omega) _ _⟩⟩
 ·go_wp2_with fail
  refine (spec_l01PickInt g A c l (some ⟨w1.heap.size,0,none⟩) 5 [0,255,257,768,8192] _ (HC1.out.below (blw)) hl (C_alloc _ _ _ (by decide)) (by decide) (by decide) (fun ad e=>by injection e with e;subst e;simp;omega)).mono ?_
  rintro _ w2 ⟨k,hk,rfl,hc,hb⟩
  obtain ⟨n0,n1⟩:=five_b k hk
  generalize rd [0,255,257,768,8192] k=n at n0 n1
  have e02:w2.cell? ⟨w.heap.size,0,none⟩=some (.slice none 0 0):=hb.cell (by go_simp) (by intro e;injection e with e;simp at e;omega)
  have f02:w2.frozen? ⟨w.heap.size,0,none⟩=false:=(World.frozen?_of_block (hb.block w.heap.size (by simp;omega) (by intro e;injection e with e;omega))).trans (by go_simp)
  have s2:w1.heap.size≤w2.heap.size:=by have:=hb.size;simp at this;omega
  have HC2:=Aside0.mk hc
  have HG2:=Aside0.mk (HG1.out.trans (grown_al _ hb))
  clear hc hb e0 f0 HC1 HG1
  go_wp2_with ((with_reducible refine gate_dst (N:=8) rfl ?_);refine Kd.R_make (Kd.int .u8) _ 5 rfl (N:=8) rfl 22 _ _ rfl n rfl rfl Tryz.underlying22 (.int .u8 0) 1 infoU8 rfl (by decide) (by omega) 0 (ok:=fun _=>True) (okp:=fun _=>True) rfl (fun _ hk=>hk) trivial (by omega) (by omega) (Below.refl _ _) (Nat.le_refl _) ?_;intro v1 w3 ho hb hg3 hn3;obtain ⟨A1,c1,e1,hc1,hr1⟩:=Kd.R_reads ho;simp only[List.length_replicate] at e1;subst e1;have HO:=Aside0.mk (show OwnB _ _ _ _ from ho);have HB3:=Aside0.mk hb;have s3:=hb.size;have e03:w3.cell? ⟨w.heap.size,0,none⟩=some (.slice none 0 0):=(hb.cell (by show w.heap.size<_;omega)).trans e02;have f03:w3.frozen? ⟨w.heap.size,0,none⟩=false:=(hb.frozen (by show w.heap.size<_;omega)).trans f02;clear ho hn3 hg3 hr1 hc1 hb)
  (refine bodyPost_ret (v:=.agg #[.slice A1 n.toNat c1]) (by (simp only[results,Tryz.results45];go_simp <;> (rfl))) rfl ?_)
  exact ⟨List.replicate n.toNat 0,A1,c1,by rw[List.length_replicate],by rw[List.length_replicate];omega,⟨by rw[List.length_replicate];exact (HO.out.set (by first|omega|(simp;omega)|(show w.heap.size<_;simp;omega)) _).lower (by omega),fun x hx=>by rw[(List.mem_replicate.1 hx).2];omega,(HC2.out.below HB3.out).away (grown_set (g:=w.heap.size) (grown_refl w3 _) 0 _) (fun k e=>by injection e with e;omega),grown_new (grown_below HG2.out HB3.out) (by omega) _ _⟩⟩
open Go.RowKit Go.Proofs.YtoncmhfmkfeolaaGreatDoorW.PrintWords
theorem spec_l02Flags (g:Nat) (A:Option Addr) (c:Nat) (l:List Int) (w:World) (h:Cur w g A c l) (hl:l.length≤1048576) :
  Calls Tryz.prog 145 #[.pointer (some ⟨g,0,none⟩)] w fun e w'=>∃ f:F6,e=.returned (.agg #[.bool f.N,.bool f.V,.bool f.D,.bool f.I,.bool f.Z,.bool f.C])∧Cur w' g A c l∧w.grownBy w' (some g):=by
 have hg0:g<w.heap.size:=World.block_lt_of_cell? w _ h.b
 have HB:=hR w;go_enter Tryz.func145,Tryz.ntmps145
 go_wp2_with fail
 refine Calls.mono (spec_l01Byte _ _ _ _ _ (h.below (blw)) hl) ?_
 rintro _ w2 ⟨x,rfl,x0,x1,hc2,hb2⟩
 have hg2:g<w2.heap.size:=World.block_lt_of_cell? w2 _ hc2.b
 have hB:w2.heap[w.heap.size]?=some (.cells #[.bool false,.bool false,.bool false,.bool false,.bool false,.bool false] 26 (0,0)):=(hb2.block w.heap.size (by simp) (by intro e;injection e with e;omega)).trans (by show (w.heap.push _)[w.heap.size]?=_;simp)
 have hk:=blk_lt hB
 go_wp2_with fail
 refine Calls.mono (spec_UnpackP x _ x0 x1) ?_
 rintro _ w3 ⟨rfl,hb⟩
 have hB3:=(hb.block _ hk).trans hB
 have c0:=blk_cell hB3 0
 have c1:=blk_cell hB3 1
 have c2:=blk_cell hB3 2
 have c3:=blk_cell hB3 3
 have c4:=blk_cell hB3 4
 have c5:=blk_cell hB3 5
 simp at c0 c1 c2 c3 c4 c5
 have fz:=fun i=>blk_frozen hB3 i
 have hk3:=blk_lt hB3
 generalize unpackP x=f
 have hc3:=hc2.below hb
 have hg3:=grown_below (grown_al _ hb2) hb
 clear hB hB3 hb hc2 hb2
 go_wp2_with fail
 (refine bodyPost_ret (v:=.agg #[.bool f.N,.bool f.V,.bool f.D,.bool f.I,.bool f.Z,.bool f.C]) (by (simp only[results,Tryz.results145];go_simp <;> (rfl))) rfl ?_)
 exact ⟨f,rfl,hc3.away (grown_set (grown_set (grown_set (grown_set (grown_set (grown_set (grown_refl w3 _) 0 _) 1 _) 2 _) 3 _) 4 _) 5 _) (fun k e=>by injection e with e;omega),grown_new (grown_new (grown_new (grown_new (grown_new (grown_new hg3 (Nat.le_refl _) 0 _) (Nat.le_refl _) 1 _) (Nat.le_refl _) 2 _) (Nat.le_refl _) 3 _) (Nat.le_refl _) 4 _) (Nat.le_refl _) 5 _⟩
theorem spec_l05Cpu (g:Nat) (A:Option Addr) (c:Nat) (l:List Int) (w:World) (h:Cur w g A c l) (hl:l.length≤1048576) :
  Calls Tryz.prog 98 #[.pointer (some ⟨g,0,none⟩)] w fun e w'=>∃ p:Cpu,p.ok∧e=.returned (.agg #[.int .u8 p.A,.int .u8 p.X,.int .u8 p.Y,.int .u8 p.S,.int .u16 p.PC,.bool p.F.N,.bool p.F.V,.bool p.F.D,.bool p.F.I,.bool p.F.Z,.bool p.F.C])∧Cur w' g A c l∧w.grownBy w' (some g):=by
 have hg0:g<w.heap.size:=World.block_lt_of_cell? w _ h.b
 have HB:=hR w;go_enter Tryz.func98,Tryz.ntmps98
 go_wp2_with fail
 refine Calls.mono (spec_l02Byte _ _ _ _ _ (h.below (blw)) hl) ?_
 rintro _ w2 ⟨a,rfl,a0,a1,hc2,hb2⟩
 have hB2:w2.heap[w.heap.size]?=some (.cells #[.int .u8 0,.int .u8 0,.int .u8 0,.int .u8 0,.int .u16 0,.bool false,.bool false,.bool false,.bool false,.bool false,.bool false] 28 (0,0)):=(hb2.block w.heap.size (by simp) (by intro e;injection e with e;omega)).trans (by show (w.heap.push _)[w.heap.size]?=_;simp)
 have gr2:=grown_al _ hb2
 go_wp2_with fail
 refine Calls.mono (spec_l02Byte _ _ _ _ _ hc2 hl) ?_
 rintro _ w3 ⟨x,rfl,x0,x1,hc3,hb3⟩
 have hB3:=(hb3.block w.heap.size (by first|exact blk_lt hB2|(simp;have:=blk_lt hB2;omega)) (by intro e;injection e with e;omega)).trans (hB2)
 have gr3:=gr2.trans hb3
 go_wp2_with fail
 refine Calls.mono (spec_l02Byte _ _ _ _ _ hc3 hl) ?_
 rintro _ w4 ⟨y,rfl,y0,y1,hc4,hb4⟩
 have hB4:=(hb4.block w.heap.size (by first|exact blk_lt hB3|(simp;have:=blk_lt hB3;omega)) (by intro e;injection e with e;omega)).trans (hB3)
 have gr4:=gr3.trans hb4
 have hg4:g<w4.heap.size:=World.block_lt_of_cell? w4 _ hc4.b
 go_wp2_with fail
 refine (spec_l01PickInt g A c l (some ⟨w4.heap.size,0,none⟩) 5 [255,253,0,1,200] _ (hc4.below (blw)) hl (C_alloc _ _ _ (by decide)) (by decide) (by decide) (fun ad e=>by injection e with e;subst e;simp;omega)).mono ?_
 rintro _ w5 ⟨k,hk,rfl,hc5,hb5⟩
 have gr5:=gr4.trans (grown_al _ hb5)
 have hB5:=((grown_al _ hb5).block w.heap.size (blk_lt hB4) (by intro e;injection e with e;omega)).trans hB4
 go_wp2_with fail
 refine Calls.mono (spec_l04Pc _ _ _ _ _ hc5 hl) ?_
 rintro _ w6 ⟨p,rfl,p0,p1,hc6,hb6⟩
 have hB6:=(hb6.block w.heap.size (by first|exact blk_lt hB5|(simp;have:=blk_lt hB5;omega)) (by intro e;injection e with e;omega)).trans (hB5)
 have gr6:=gr5.trans hb6
 go_wp2_with fail
 refine Calls.mono (spec_l02Flags _ _ _ _ _ hc6 hl) ?_
 rintro _ w7 ⟨f,rfl,hc7,hb7⟩
 have hB7:=(hb7.block w.heap.size (by first|exact blk_lt hB6|(simp;have:=blk_lt hB6;omega)) (by intro e;injection e with e;omega)).trans (hB6)
 have gr7:=gr6.trans hb7
 have c0:=blk_cell hB7 0
 have c1:=blk_cell hB7 1
 have c2:=blk_cell hB7 2
 have c3:=blk_cell hB7 3
 have c4:=blk_cell hB7 4
 have c5:=blk_cell hB7 5
 have c6:=blk_cell hB7 6
 have c7:=blk_cell hB7 7
 have c8:=blk_cell hB7 8
 have c9:=blk_cell hB7 9
 have c10:=blk_cell hB7 10
 simp at c0 c1 c2 c3 c4 c5 c6 c7 c8 c9 c10
 have fz:=fun i=>blk_frozen hB7 i
 have hk7:=blk_lt hB7
 have hS:0≤rd [255,253,0,1,200] k % 256∧rd [255,253,0,1,200] k % 256<256:=by omega
 obtain ⟨S,hSe⟩:∃ S,rd [255,253,0,1,200] k % 256=S:=⟨_,rfl⟩
 rw[hSe] at hS
 clear hB2 hB3 hB4 hB5 hB6 hB7 hb2 hb3 hb4 hb5 hb6 hb7 gr2 gr3 gr4 gr5 gr6
 go_wp2_with fail
 (refine bodyPost_ret (v:=.agg #[.int .u8 (⟨a,x,y,S,p,f⟩:Cpu).A,.int .u8 (⟨a,x,y,S,p,f⟩:Cpu).X,.int .u8 (⟨a,x,y,S,p,f⟩:Cpu).Y,.int .u8 (⟨a,x,y,S,p,f⟩:Cpu).S,.int .u16 (⟨a,x,y,S,p,f⟩:Cpu).PC,.bool (⟨a,x,y,S,p,f⟩:Cpu).F.N,.bool (⟨a,x,y,S,p,f⟩:Cpu).F.V,.bool (⟨a,x,y,S,p,f⟩:Cpu).F.D,.bool (⟨a,x,y,S,p,f⟩:Cpu).F.I,.bool (⟨a,x,y,S,p,f⟩:Cpu).F.Z,.bool (⟨a,x,y,S,p,f⟩:Cpu).F.C]) (by (simp only[results,Tryz.results98];go_simp <;> (rfl))) rfl ?_)
 exact ⟨⟨a,x,y,S,p,f⟩,⟨a0,a1,x0,x1,y0,y1,hS.1,hS.2,p0,p1⟩,rfl,hc7.away (grown_set (grown_set (grown_set (grown_set (grown_set (grown_set (grown_set (grown_set (grown_set (grown_set (grown_set (grown_refl w7 _) 0 _) 1 _) 2 _) 3 _) 4 _) 5 _) 6 _) 7 _) 8 _) 9 _) 10 _) (fun k e=>by injection e with e;omega),(grown_new (grown_new (grown_new (grown_new (grown_new (grown_new (grown_new (grown_new (grown_new (grown_new (grown_new gr7 (Nat.le_refl _) 0 _) (Nat.le_refl _) 1 _) (Nat.le_refl _) 2 _) (Nat.le_refl _) 3 _) (Nat.le_refl _) 4 _) (Nat.le_refl _) 5 _) (Nat.le_refl _) 6 _) (Nat.le_refl _) 7 _) (Nat.le_refl _) 8 _) (Nat.le_refl _) 9 _) (Nat.le_refl _) 10 _)⟩
end Go.Proofs.YtoncmhfmkfeolaaGreatDoor
