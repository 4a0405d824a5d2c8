/- Memories cloned and filled by the program and the reference. -/
import Derived.Test.YtoncmhfmkfeolaaGreatDoorGA
import Derived.Lib.LazyBuf
import Derived.Deep.DeepCutAuto
import Derived.Deep.CutBlock
import Derived.Test.YtoncmhfmkfeolaaGreatDoorGC
import Derived.Test.YtoncmhfmkfeolaaGreatDoorGB
set_option linter.unusedVariables false
set_option linter.unusedSimpArgs false
namespace Go.Proofs.YtoncmhfmkfeolaaGreatDoor
open Go.RowKit Go.Proofs.YtoncmhfmkfeolaaGreatDoorW.PrintWords
theorem bs_nil {w : World} {l : List Int} (h : Bs w none l) : l = []:=by
  have:=h.c.2.2
  cases l with
  | nil => rfl
  | cons x xs => obtain ⟨ad,e,_⟩:=this (by simp);cases e
set_option maxHeartbeats 400000 in
theorem impl_Clone (A : Option Addr) (c : Nat) (l : List Int) (w : World) (h : Bs w A l) (hl : l.length ≤ 1048576) :
    Calls Tryz.prog 103 #[.slice A l.length c] w fun e w' => ∃ A1 c1,e = .returned (.slice A1 l.length c1)∧OwnB w' w.heap.size (.slice A1 l.length c1) l∧Below w.heap.size w w':=by
  have he:=Lib.run_eql_slice_nil (P:=Tryz.prog) w 22 5 A l.length c 0 0 Tryz.underlying22
  cases A with
  | none =>
    obtain rfl:=bs_nil h
    simp only [List.length_nil] at he
    have HB:=hR w;go_enter Tryz.func103,Tryz.ntmps103
    go_wp2
    go_ret
    exact ⟨none,0,rfl,Kd.R_nil _ _ _ _ _,blw⟩
  | some ad =>
    have HB:=hR w;go_enter Tryz.func103,Tryz.ntmps103
    go_wp2_with (first | ((with_reducible refine gate_dst (N:=5) rfl ?_);refine Kd.R_lit (Kd.int .u8) w.heap.size 5 ?hg (N:=5) ?hd (xs:=([] : List Int)) (inner:=[]) (ok:=fun _ => True) (okp:=fun _ => True) ?hr ?hp (fun _ hk => hk) trivial (Below.refl _ _) (by simp) (by simp) ?_;(case hd => rfl);(case hg => rfl);(case hr => first | (go_simp;done) | (go_simp;rfl));(case hp => exact (Reps.none _ _));intro v1 w1 ho hb hg1 hn1) | (at_builtin;refine Kd.R_append_row (Value.int .u8) (0 : Int) (h1:=fun _ => rfl) w.heap.size rfl _ _ 22 5 (.int .u8 0) 1 rfl Tryz.underlying22 infoU8 rfl (by decide) _ [] l _ _ _ (fun _ => True) rfl rfl (fun _ _ => trivial) ?a1 ?a2 (Below.refl _ _) ?a3 ?a4 ?_;(case a1 => exact ho);(case a2 => exact (Kd.C_below h.c hb));(case a3 => exact hb.size);(case a4 => simp;omega);intro v2 w2 ho2 hb2 hg2 hat2))
    go_ret
    obtain ⟨A1,c1,e,_,_⟩:=Kd.R_reads ho2
    simp only [List.nil_append] at e ho2
    subst e
    exact ⟨A1,c1,rfl,ho2,hb.trans hb2⟩
theorem impl_cloned (A : Option Addr) (c : Nat) (l : List Int) (w : World) (h : Bs w A l) (hl : l.length ≤ 1048576) :
    Calls Tryz.prog 51 #[.agg #[.slice A l.length c]] w fun e w' => ∃ A1 c1,e = .returned (.agg #[.slice A1 l.length c1])∧OwnB w' w.heap.size (.slice A1 l.length c1) l∧Below w.heap.size w w':=by
  have HB:=hR w;go_enter Tryz.func51,Tryz.ntmps51
  go_wp2_with fail
  refine (impl_Clone _ _ _ _ (h.below (blw)) hl).mono ?_
  rintro _ w1 ⟨A1,c1,rfl,HO,hb⟩
  (have HB:=Aside0.mk (below_step (w:=w) blw hb);have hz1:=hb.size;obtain ⟨hcl1,hfr1,hlt1,_⟩:=bcell hb;(try simp only [sA,sC,sD] at hz1);(try simp only [sA,sC,sD] at hcl1 hfr1 hlt1);have hk1_0 : w.heap.size < w1.heap.size:=(by omega);have hk1_1 : w.heap.size+1 < w1.heap.size:=(by omega);have HB1:=hR w1;clear hb)
  have HO:=Aside0.mk HO
  go_wp2_with fail
  (refine bodyPost_ret (v:=.agg #[.slice A1 l.length c1]) (by (simp only [results,Tryz.results51];go_simp <;> (rfl))) rfl ?_)
  exact ⟨_,_,rfl,(by (apply OwnB.lower;(repeat (first | (with_reducible exact HO.out) | (with_reducible apply OwnB.alloc) | (with_reducible apply OwnB.drew) | (with_reducible apply OwnB.drewN) | (with_reducible apply OwnB.set)));all_goals (first | omega | (simp;done) | (simp;omega)))),blw⟩
set_option maxHeartbeats 400000 in
theorem spec_Fill (A : Option Addr) (c : Nat) (l : List Int) (a : Int) (B : Option Addr) (d : Nat) (m : List Int) (w : World) (h : Bs w A l) (h2 : Bs w B m) (h0 : 0 ≤ a) (h1 : a < 65536) :
    Calls Tryz.prog 100 #[.agg #[.slice A l.length c],.int .u16 a,.slice B m.length d] w fun e w' => ∃ A1 c1,e = .returned (.agg #[.slice A1 (fill l a m).length c1])∧OwnB w' w.heap.size (.slice A1 (fill l a m).length c1) (fill l a m)∧Below w.heap.size w w':=by
  have hm:=h2.max
  obtain ⟨b,hb⟩ : ∃ b,ramSize l.length = b:=⟨_,rfl⟩
  cases b
  · have e : fill l a m = []:=by simp [fill,hb]
    rw [e]
    have HB:=hR w;go_enter Tryz.func100,Tryz.ntmps100
    go_wp2_with fail
    refine (spec_RamOk _ _ _ _).mono ?_
    rintro _ w1 ⟨rfl,hb⟩
    (have HB:=Aside0.mk (below_step (w:=w) blw hb);have hz1:=hb.size;obtain ⟨hcl1,hfr1,hlt1,_⟩:=bcell hb;(try simp only [sA,sC,sD] at hz1);(try simp only [sA,sC,sD] at hcl1 hfr1 hlt1);have hk1_0 : w.heap.size < w1.heap.size:=(by omega);have hk1_1 : w.heap.size+1 < w1.heap.size:=(by omega);have HB1:=hR w1;clear hb)
    go_wp2_with fail
    (refine bodyPost_ret (v:=.agg #[.slice none 0 0]) (by (simp only [results,Tryz.results100];go_simp <;> (rfl))) rfl ?_)
    exact ⟨none,0,rfl,Kd.R_nil _ _ _ _ _,blw⟩
  by_cases hm2 : (1024 : Int) < m.length
  · have e : fill l a m = []:=by simp [fill];omega
    rw [e]
    have HB:=hR w;go_enter Tryz.func100,Tryz.ntmps100
    go_wp2_with fail
    refine (spec_RamOk _ _ _ _).mono ?_
    rintro _ w1 ⟨rfl,hb⟩
    (have HB:=Aside0.mk (below_step (w:=w) blw hb);have hz1:=hb.size;obtain ⟨hcl1,hfr1,hlt1,_⟩:=bcell hb;(try simp only [sA,sC,sD] at hz1);(try simp only [sA,sC,sD] at hcl1 hfr1 hlt1);have hk1_0 : w.heap.size < w1.heap.size:=(by omega);have hk1_1 : w.heap.size+1 < w1.heap.size:=(by omega);have HB1:=hR w1;clear hb)
    go_wp2_with fail
    (refine bodyPost_ret (v:=.agg #[.slice none 0 0]) (by (simp only [results,Tryz.results100];go_simp <;> (rfl))) rfl ?_)
    exact ⟨none,0,rfl,Kd.R_nil _ _ _ _ _,blw⟩
  · have hs:=ramSize_le hb
    have hn : ¬ l = []:=fun h => by subst h;simp at hs
    have e : fill l a m = fillN a m l m.length:=by simp [fill,hb];omega
    rw [e,fillN_len]
    have HB:=hR w;go_enter Tryz.func100,Tryz.ntmps100
    go_wp2_with fail
    refine (spec_RamOk _ _ _ _).mono ?_
    rintro _ w1 ⟨rfl,hb⟩
    (have HB:=Aside0.mk (below_step (w:=w) blw hb);have hz1:=hb.size;obtain ⟨hcl1,hfr1,hlt1,_⟩:=bcell hb;(try simp only [sA,sC,sD] at hz1);(try simp only [sA,sC,sD] at hcl1 hfr1 hlt1);have hk1_0 : w.heap.size < w1.heap.size:=(by omega);have hk1_1 : w.heap.size+1 < w1.heap.size:=(by omega);have HB1:=hR w1;clear hb)
    go_wp2_with (first | ((with_reducible refine gate_dst (N:=18) rfl ?_);refine Kd.R_lit (Kd.int .u8) w1.heap.size 5 ?hg (N:=18) ?hd (xs:=([] : List Int)) (inner:=[]) (ok:=fun _ => True) (okp:=fun _ => True) ?hr ?hp (fun _ hk => hk) trivial (Below.refl _ _) (Nat.le_refl _) (by simp) ?_;(case hd => rfl);(case hg => rfl);(case hr => first | (go_simp;done) | (go_simp;rfl));(case hp => exact (Reps.none _ _));intro v1 w2 ho hb hg1 hn1;have HA:=Aside0.mk ho;clear ho hg1 hn1;have HB:=Aside0.mk (below_step (w:=w) blw hb);have hz2:=hb.size;obtain ⟨hcl2,hfr2,hlt2,_⟩:=bcell hb;(try simp only [sA,sC,sD] at hz2);(try simp only [sA,sC,sD] at hcl2 hfr2 hlt2);have hk2_0 : w.heap.size < w2.heap.size:=(by omega);have hk2_1 : w.heap.size+1 < w2.heap.size:=(by omega);have HB2:=hR w2;clear hb) | (at_builtin;refine Kd.R_append_row (Value.int .u8) (0 : Int) (h1:=fun _ => rfl) w1.heap.size rfl _ _ 22 5 (.int .u8 0) 1 rfl Tryz.underlying22 infoU8 rfl (by decide) _ [] l _ _ _ (fun _ => True) rfl rfl (fun _ _ => trivial) ?a1 ?a2 (Below.refl _ _) ?a3 ?a4 ?_;(case a1 => exact HA.out);(case a2 => exact (Kd.C_below h.c HB.out));(case a3 => omega);(case a4 => simp;omega);intro v2 w3 ho2 hb2 hg2 hat2;have HB:=Aside0.mk (HB.out.trans (hb2.mono (B':=w.heap.size) (by omega)));have hcl3:=fun (p : Addr) (h : p.block < w1.heap.size) => hb2.cell h;have hfr3:=fun (p : Addr) (h : p.block < w1.heap.size) => hb2.frozen h;have hz3:=hb2.size;have hk3 : w.heap.size < w3.heap.size:=(by omega);have hk4 : w.heap.size+1 < w3.heap.size:=(by omega);have HO:=Aside0.mk ho2;clear ho2 hb2 hg2 hat2))
    have HO:=HO.out
    simp only [List.nil_append] at HO
    obtain ⟨A1,c1,e1,_,_⟩:=Kd.R_reads HO
    subst e1
    have HO3:=Aside0.mk HO
    clear HO
    go_wp2
    go_loopw [8] (fun v wr => ∃ k : Nat,k ≤ m.length∧v = .int .i64 k∧Aside0 (OwnB wr w1.heap.size (.slice A1 l.length c1) (fillN a m l k))∧Aside0 (Below w.heap.size w wr)∧wr.cell? ⟨w.heap.size+1,0,none⟩ = some (.slice none 0 0)∧wr.frozen? ⟨w.heap.size+1,0,none⟩ = false) (fun v _ => m.length - (intOf v).toNat)
    case atStart => exact ⟨0,Nat.zero_le _,rfl,⟨HO3.out⟩,⟨blw⟩,by go_simp,by go_simp⟩
    case round =>
      obtain ⟨k,hk,rfl,HO,HB,r2,r3⟩:=hrel
      by_cases hlt : k < m.length
      · obtain ⟨ad,rfl,hx⟩:=h2.at k (by omega) (by omega)
        have hx1:=(HB.out.cell (World.block_lt_of_cell? w _ hx)).trans hx
        rw [Int.toNat_natCast] at hx1
        have hl3 : (fillN a m l k).length = l.length:=fillN_len _ _ _ _
        obtain ⟨g,cap,eo,gb,gl,cl,HC⟩:=Kd.R_form HO.out (by omega)
        rw [hl3] at eo
        injection eo with ea en ec
        subst ea ec
        have q0 : 0 ≤ (a+k) % 65536 % l.length:=Int.emod_nonneg _ (by omega)
        have q1 : (a+k) % 65536 % l.length < l.length:=Int.emod_lt_of_pos _ (by omega)
        obtain ⟨hy,hf⟩:=Kd.R_celln 0 HO.out ((a+k) % 65536 % l.length) q0 q1
        have HP:=Aside0.mk (Kd.R_putg HO.out ((a+k) % 65536 % l.length) (rd m k)).1
        have hzb:=HB.out.size
        have hg5 : ¬ w.heap.size+1 = g:=by omega
        have hg6 : ¬ g = w.heap.size+1:=by omega
        have GB:=Aside0.mk gb
        clear HC en gb
        have k0 : (0 : Int) ≤ (k : Int):=by omega
        have k1 : (k : Int) < (m.length : Int):=by omega
        go_wp2
        go_region
        go_wp2
        have gb:=GB.out
        exact ⟨⟨k+1,by omega,by go_num,⟨OwnB.drew HP.out⟩,⟨blw⟩,by go_simp,by go_simp⟩,by simp [intOf];omega⟩
      · have ek : k = m.length:=by omega
        subst ek
        have hzb:=HB.out.size
        go_wp2
        (refine bodyPost_ret (v:=.agg #[.slice A1 l.length c1]) (by (simp only [results,Tryz.results100];go_simp <;> (rfl))) rfl ?_)
        exact ⟨_,_,rfl,(by (apply OwnB.lower;(repeat (first | (with_reducible exact HO.out) | (with_reducible apply OwnB.alloc) | (with_reducible apply OwnB.drew) | (with_reducible apply OwnB.drewN) | (with_reducible apply OwnB.set)));all_goals (first | omega | (simp;done) | (simp;omega)))),blw⟩
theorem bs_one {w : World} {g : Nat} {b : Int} (h : w.cell? ⟨g,0,none⟩ = some (.int .u8 b)) (h0 : 0 ≤ b) (h1 : b < 256) : Bs w (some ⟨g,0,none⟩) [b]:=by
  refine ⟨Kd.C_of_reads (d:=(0 : Int)) (h1:=fun _ => rfl) ⟨rfl,by simp,fun _ => ⟨_,rfl,fun j hj => ?_⟩⟩,fun i => ?_⟩
  · have : j = 0:=by simp at hj;omega
    subst this
    show w.cell? ((⟨g,0,none⟩ : Addr).add 0) = some (.int .u8 b)
    rw [Addr.add_zero']
    exact h
  · rcases Nat.eq_zero_or_pos i.toNat with e | e
    · simp [rd,e];omega
    · have : ∃ n,i.toNat = n+1:=⟨i.toNat - 1,by omega⟩
      obtain ⟨n,hn⟩:=this
      simp [rd,hn]
open Go.RowKit Go.Proofs.YtoncmhfmkfeolaaGreatDoorW.PrintWords
structure Cyc where
  a : Int
  d : Int
  w : Bool
def Cyc.ok (c : Cyc) : Prop:=0 ≤ c.a∧c.a < 65536∧0 ≤ c.d∧c.d < 256
def cycK : Kd Cyc:=Kd.iso (Kd.pair (Kd.int .u16) (Kd.pair (Kd.int .u8) Kd.bool)) (fun c => (c.a,c.d,c.w))
def OwnC (w : World) (base : Nat) (v : Value) (l : List Cyc) : Prop:=Kd.R cycK 70 w base (fun _ => True) v l
theorem add_next (a : Addr) (n m : Nat) : a.add (n+(m+1)) = ⟨(a.add n).block,(a.add n).off+(m+1),none⟩:=by
  unfold Addr.add
  by_cases h : n = 0
  · subst h;simp
  · simp [h];omega
theorem cyc_at {w : World} {A : Option Addr} {n : Nat} {l : List Cyc} (h : cycK.C w A n l) (i : Int) (h0 : 0 ≤ i) (h1 : i < n) (z : Cyc) :
    ∃ ad,A = some ad∧w.cell? (ad.add (i.toNat * 3)) = some (.int .u16 (l.getD i.toNat z).a)∧w.cell? (ad.add (i.toNat * 3+1)) = some (.int .u8 (l.getD i.toNat z).d)∧w.cell? (ad.add (i.toNat * 3+2)) = some (.bool (l.getD i.toNat z).w):=by
  obtain ⟨ad,c,rfl,_,hk,hx⟩:=ReadsRow.get_ h z i h0 h1
  obtain ⟨c0,c1,rfl,k0,c2,c3,rfl,k2,k3⟩:=hk
  obtain rfl : c0 = [_]:=k0
  obtain rfl : c2 = [_]:=k2
  obtain rfl : c3 = [_]:=k3
  exact ⟨ad,rfl,hx 0 _ rfl,hx 1 _ rfl,hx 2 _ rfl⟩
theorem OwnC.put {W : World} {base g n cap : Nat} {l : List Cyc} (h : OwnC W base (.slice (some ⟨g,0,none⟩) n cap) l) (k : Nat) (hk : k < n) (x : Cyc) :
    (∃ c0 c1 c2,W.cell? ⟨g,k * 3,none⟩ = some c0∧W.cell? ⟨g,k * 3+1,none⟩ = some c1∧W.cell? ⟨g,k * 3+2,none⟩ = some c2)∧(∀ j,W.frozen? ⟨g,k * 3+j,none⟩ = false) ∧
    OwnC (((W.setCell ⟨g,k * 3,none⟩ (.int .u16 x.a)).setCell ⟨g,k * 3+1,none⟩ (.int .u8 x.d)).setCell ⟨g,k * 3+2,none⟩ (.bool x.w)) base (.slice (some ⟨g,0,none⟩) n cap) (l.set k x) ∧
    W.grownBy (((W.setCell ⟨g,k * 3,none⟩ (.int .u16 x.a)).setCell ⟨g,k * 3+1,none⟩ (.int .u8 x.d)).setCell ⟨g,k * 3+2,none⟩ (.bool x.w)) (some g):=by
  obtain ⟨c,hc,hM,hx,hf⟩:=Kd.R_elem h ⟨0,0,false⟩ (k : Int) (by omega) (by omega)
  rw [Int.toNat_natCast] at hx hf
  have hs : cycK.sz = 3:=rfl
  rw [hs] at hc hx hf
  obtain ⟨h1,h2⟩:=Kd.R_seg (okp:=fun k => True∧k ≠ g) h (k : Int) (by omega) (by omega) (c:=c) (seg:=[.int .u16 x.a,.int .u8 x.d,.bool x.w]) (j:=0) (x':=x) hc (by rw [Int.toNat_natCast];exact hx) (Nat.le_refl 3) (by
    match c,hc with
    | [_,_,_],_ => exact ⟨[_],_,rfl,rfl,[_],[_],rfl,rfl,rfl⟩) (fun _ hk => hk)
  rw [Int.toNat_natCast] at h1 h2
  match c,hc,hx with
  | [c0,c1,c2],_,hx => exact ⟨⟨c0,c1,c2,hx 0 _ rfl,hx 1 _ rfl,hx 2 _ rfl⟩,hf,h1,h2⟩
theorem take_setG {α : Type} (l : List α) (z : α) (k : Nat) (h : k < l.length) : (l.take k ++ List.replicate (l.length - k) z).set k (l.getD k z) = l.take (k+1) ++ List.replicate (l.length - (k+1)) z:=by
  rw [show l.length - k = (l.length - (k+1))+1 by omega,List.replicate_succ,List.set_append_right _ _ (by simp;omega),List.getD_eq_getElem?_getD,List.getElem?_eq_getElem h]
  simp only [List.length_take,show min k l.length = k by omega,Nat.sub_self,List.set_cons_zero,Option.getD_some]
  rw [List.take_succ_eq_append_getElem h,List.append_assoc]
  rfl
theorem laws_eqCyc (c : Cyc) (w : World) : Calls Tryz.prog 130 #[.agg #[.int .u16 c.a,.int .u8 c.d,.bool c.w],.agg #[.int .u16 c.a,.int .u8 c.d,.bool c.w]] w fun e w' => e = .returned (.bool true)∧Below w.heap.size w w':=by
  have HB:=hR w;go_enter Tryz.func130,Tryz.ntmps130
  go_wp2
  go_ret
  exact ⟨rfl,blw⟩
theorem infoCyc : (Tryz.prog.info? 70).map (fun i => (i.zero,i.size,i.bytes)) = some (some (.agg #[.int .u16 0,.int .u8 0,.bool false]),3,4):=by kernel_rfl
set_option maxRecDepth 20000 in
set_option maxHeartbeats 400000 in
theorem laws_eqCycS (A B : Option Addr) (c d : Nat) (l : List Cyc) (w : World) (h : cycK.C w A l.length l) (h2 : cycK.C w B l.length l) (hl : l.length ≤ 1048576) :
    Calls Tryz.prog 66 #[.slice A l.length c,.slice B l.length d] w fun e w' => e = .returned (.bool true)∧Below w.heap.size w w':=by
  have HB:=hR w;go_enter Tryz.func66,Tryz.ntmps66
  go_wp2
  go_loopw [5] (fun v4 wr => ∃ k : Nat,k ≤ l.length∧v4 = .int .i64 k∧Aside0 (Below w.heap.size w wr)) (fun v4 _ => l.length - (intOf v4).toNat)
  case atStart => exact ⟨0,Nat.zero_le _,rfl,HB⟩
  case round =>
    obtain ⟨k,hk,rfl,HB⟩:=hrel
    by_cases hlt : k < l.length
    · obtain ⟨x,ex⟩ : ∃ x,l.getD k ⟨0,0,false⟩ = x:=⟨_,rfl⟩
      obtain ⟨ad,rfl,hx,hy,hz⟩:=cyc_at h k (by omega) (by omega) ⟨0,0,false⟩
      obtain ⟨ae,rfl,gx,gy,gz⟩:=cyc_at h2 k (by omega) (by omega) ⟨0,0,false⟩
      rw [Int.toNat_natCast,ex] at hx hy hz gx gy gz
      have P1:=(HB.out.cell (World.block_lt_of_cell? w _ hx)).trans hx
      have P2:=(HB.out.cell (World.block_lt_of_cell? w _ hy)).trans hy
      have P3:=(HB.out.cell (World.block_lt_of_cell? w _ hz)).trans hz
      have R1:=(HB.out.cell (World.block_lt_of_cell? w _ gx)).trans gx
      have R2:=(HB.out.cell (World.block_lt_of_cell? w _ gy)).trans gy
      have R3:=(HB.out.cell (World.block_lt_of_cell? w _ gz)).trans gz
      rw [add_next] at P2 P3 R2 R3
      have HBr:=Aside0.mk (Below.refl wr.heap.size wr)
      have q0 : (0 : Int) ≤ (k : Int):=by omega
      have q1 : (k : Int) < (l.length : Int):=by omega
      clear hx hy hz gx gy gz ex h h2
      go_wp2_with fail
      go_region_held3 (fun w' => Below w.heap.size w w'∧Below wr.heap.size wr w'∧w'.cell? (ad.add (k * 3)) = some (.int .u16 x.a)∧w'.cell? ⟨(ad.add (k * 3)).block,(ad.add (k * 3)).off+1,none⟩ = some (.int .u8 x.d)∧w'.cell? ⟨(ad.add (k * 3)).block,(ad.add (k * 3)).off+2,none⟩ = some (.bool x.w)∧w'.cell? (ae.add (k * 3)) = some (.int .u16 x.a)∧w'.cell? ⟨(ae.add (k * 3)).block,(ae.add (k * 3)).off+1,none⟩ = some (.int .u8 x.d)∧w'.cell? ⟨(ae.add (k * 3)).block,(ae.add (k * 3)).off+2,none⟩ = some (.bool x.w)) (first | (go_keep;done) | (go_split_ands;(repeat' apply And.intro) <;> (first | (with_reducible assumption) | (go_simp;done) | (exact cell_keep blw (by assumption)) | exact blw))) (first | (go_at_call 130;((with_reducible refine (laws_eqCyc x _).mono ?_);rintro _ w1 ⟨rfl,hb⟩;have HB:=Aside0.mk (below_step (w:=w) blw hb);have HBr:=Aside0.mk (below_step (w:=wr) blw hb);have hz1:=hb.size;obtain ⟨hcl1,hfr1,hlt1,_⟩:=bcell hb;(try simp only [sA,sC,sD] at hz1);(try simp only [sA,sC,sD] at hcl1 hfr1 hlt1);have HB1:=hR w1;clear hb;have e1:=cell_keep HBr.out P1;have e2:=cell_keep HBr.out P2;have e3:=cell_keep HBr.out P3;have e4:=cell_keep HBr.out R1;have e5:=cell_keep HBr.out R2;have e6:=cell_keep HBr.out R3)))
      go_wp2
      exact ⟨⟨k+1,by omega,by go_num,⟨blw⟩⟩,by simp [intOf];omega⟩
    · go_wp2
      go_ret
      exact ⟨rfl,HB.out⟩
def mkc (k : Int) : Cyc:=⟨k % 65536,(k+1) % 256,(k+1+1) % 3 == 0⟩
def mkC (k : Int) : Nat → List Cyc
  | 0 => []
  | n+1 => mkc k::mkC (k+3) n
theorem mkC_len (n : Nat) : ∀ k,(mkC k n).length = n:=by
  induction n with
  | zero => intro k;rfl
  | succ n ih => intro k;simp [mkC,ih]
theorem mkC_get (n : Nat) (z : Cyc) : ∀ (k : Int) (j : Nat),j < n → (mkC k n).getD j z = mkc (k+3 * j):=by
  induction n with
  | zero => intro k j h;omega
  | succ n ih =>
    intro k j h
    cases j with
    | zero => simp [mkC]
    | succ j =>
      rw [mkC,List.getD_cons_succ,ih _ _ (by omega)]
      congr 1
      omega
theorem mkC_snoc (n : Nat) : ∀ k : Int,mkC k (n+1) = mkC k n ++ [mkc (k+3 * n)]:=by
  induction n with
  | zero => intro k;simp [mkC]
  | succ n ih =>
    intro k
    rw [mkC,ih (k+3),mkC]
    simp only [List.cons_append]
    congr 4
    omega
theorem mkC_set (l : List Cyc) (k : Int) (j : Nat) (h : j < l.length) : (mkC k j ++ l.drop j).set j (mkc (k+3 * j)) = mkC k (j+1) ++ l.drop (j+1):=by
  rw [mkC_snoc,List.set_append_right _ _ (by rw [mkC_len];omega),mkC_len,Nat.sub_self,List.drop_eq_getElem_cons h,List.set_cons_zero,List.append_assoc]
  rfl
set_option maxRecDepth 20000 in
set_option maxHeartbeats 400000 in
theorem laws_markCycS (base : Nat) (A : Option Addr) (c : Nat) (l : List Cyc) (n : Int) (w : World) (h : OwnC w base (.slice A l.length c) l) (hl : l.length ≤ 1048576) (h0 : 0 ≤ n) (h1 : n ≤ 90000000) :
    Calls Tryz.prog 72 #[.slice A l.length c,.int .i64 n] w fun e w' => e = .returned (.int .i64 (n+3 * l.length))∧OwnC w' base (.slice A l.length c) (mkC n l.length)∧w.grownBy w' (Value.slice A l.length c).ownBlock:=by
  have HB:=hR w;go_enter Tryz.func72,Tryz.ntmps72
  go_wp2
  go_loopw [1,5] (fun v1 v5 wr => ∃ k : Nat,k ≤ l.length∧v1 = .int .i64 (n+3 * k)∧v5 = .int .i64 k∧Aside0 (OwnC wr base (.slice A l.length c) (mkC n k ++ l.drop k))∧Aside0 (w.grownBy wr (Value.slice A l.length c).ownBlock)) (fun _ v5 _ => l.length - (intOf v5).toNat)
  case atStart => exact ⟨0,Nat.zero_le _,by simp,rfl,⟨h⟩,⟨grown_refl _ _⟩⟩
  case round =>
    obtain ⟨k,hk,rfl,rfl,HO,HG⟩:=hrel
    by_cases hlt : k < l.length
    · obtain ⟨g,cap,eo,gb,gl,cl,HC⟩:=Kd.R_form HO.out (by simp [mkC_len];omega)
      injection eo with ea en ec
      subst ea ec
      obtain ⟨⟨c0,c1,c2,q0,q1,q2⟩,hf,HP,HQ⟩:=HO.out.put k hlt (mkc (n+3 * k))
      have f0 : wr.frozen? ⟨g,k * 3,none⟩ = false:=hf 0
      have f1:=hf 1
      have f2:=hf 2
      have HP:=Aside0.mk HP
      have HQ:=Aside0.mk HQ
      have hu1:=IntKind.wrap_u16 (n+3 * k)
      have hu2:=IntKind.wrap_u8 (n+3 * k+1)
      clear hf en HC
      go_wp2_with fail
      exact ⟨⟨k+1,by omega,by go_num,by go_num,⟨by have:=HP.out;rw [mkC_set l n k hlt] at this;exact this⟩,⟨HG.out.trans HQ.out⟩⟩,by simp [intOf];omega⟩
    · go_wp2
      go_ret
      have e : k = l.length:=by omega
      subst e
      exact ⟨rfl,by have:=HO.out;simpa using this,HG.out⟩
set_option maxRecDepth 20000 in
set_option maxHeartbeats 400000 in
theorem laws_heldCycS (A : Option Addr) (c m : Nat) (n : Int) (w : World) (h : cycK.C w A m (mkC n m)) (hl : m ≤ 1048576) (h0 : 0 ≤ n) (h1 : n ≤ 90000000) :
    Calls Tryz.prog 76 #[.slice A m c,.int .i64 n] w fun e w' => e = .returned (.int .i64 (n+3 * m))∧w = w':=by
  have HB:=hR w;go_enter Tryz.func76,Tryz.ntmps76
  go_wp2
  go_loop [1,5] (fun v1 v5 => ∃ k : Nat,k ≤ m∧v1 = .int .i64 (n+3 * k)∧v5 = .int .i64 k) (fun _ v5 => m - (intOf v5).toNat)
  case atStart => exact ⟨0,Nat.zero_le _,by simp,rfl⟩
  case round =>
    obtain ⟨k,hk,rfl,rfl⟩:=hrel
    by_cases hlt : k < m
    · obtain ⟨ad,rfl,hx,hy,hv⟩:=cyc_at h k (by omega) (by omega) ⟨0,0,false⟩
      rw [Int.toNat_natCast,mkC_get m _ n k hlt] at hx hy hv
      have hu1:=IntKind.wrap_u16 (n+3 * k)
      have hu2:=IntKind.wrap_u8 (n+3 * k+1)
      rw [add_next] at hy hv
      simp only [mkc] at hx hy hv
      go_wp2_with fail
      exact ⟨⟨k+1,by omega,by go_num,by go_num⟩,by simp [intOf];omega⟩
    · go_wp2
      go_ret
      have e : k = m:=by omega
      subst e
      exact ⟨rfl,rfl⟩
open Go.RowKit Go.Proofs.YtoncmhfmkfeolaaGreatDoorW.PrintWords
def cd (l : List Cyc) (k : Nat) : Cyc:=l.getD k ⟨0,0,false⟩
structure Cs (w : World) (A : Option Addr) (l : List Cyc) : Prop where
  c : cycK.C w A l.length l
  b : ∀ k,(cd l k).ok
theorem Cs.below {w w1 : World} {A : Option Addr} {l : List Cyc} (h : Cs w A l) (hb : Below w.heap.size w w1) : Cs w1 A l:=⟨Kd.C_below h.c hb,h.b⟩
theorem OwnC.cs {w : World} {base : Nat} {A : Option Addr} {c : Nat} {l : List Cyc} (h : OwnC w base (.slice A l.length c) l) (hb : ∀ k,(cd l k).ok) : Cs w A l:=⟨(Kd.R_reads' h).2.2,hb⟩
theorem Cs.max {w : World} {A : Option Addr} {l : List Cyc} (h : Cs w A l) : l.length ≤ 9223372036854775807:=Kd.C_max h.c
theorem OwnC.row {w : World} {base : Nat} {v : Value} {l : List Cyc} (h : OwnC w base v l) : ∀ k,v.ownBlock = some k → base ≤ k∧k < w.heap.size:=fun k e => ⟨Kd.R_base h k e,Kd.R_lt h k e⟩
theorem OwnC.away {w0 w w1 : World} {base lo hi : Nat} {v : Value} {l : List Cyc} {row : Option Nat} (h0 : OwnC w0 base v l) (hb : Below w0.heap.size w0 w) (hg : w.grownBy w1 row)
    (hr : ∀ k,row = some k → lo ≤ k∧k < hi) (hd : w0.heap.size ≤ lo ∨ hi ≤ base) : OwnC w1 base v l :=
  Kd.R_mono (Kd.R_grown (Kd.R_below (Kd.R_bound h0) hb) hg (fun k hk e => by have h1:=hk.2.1;have h2:=hk.2.2.1;have h3:=hr k e.symm;omega)) (fun _ _ => trivial)
theorem OwnC.below {w w1 : World} {base : Nat} {v : Value} {l : List Cyc} (h : OwnC w base v l) (hb : Below w.heap.size w w1) : OwnC w1 base v l:=Kd.R_below h hb
def applyN (cs : List Cyc) (l : List Int) : Nat → List Int
  | 0 => l
  | k+1 => if (cd cs k).w then (applyN cs l k).set ((cd cs k).a % l.length).toNat (cd cs k).d else applyN cs l k
def apply (l : List Int) (cs : List Cyc) : List Int:=if ramSize l.length then applyN cs l cs.length else []
theorem applyN_len (cs : List Cyc) (l : List Int) (k : Nat) : (applyN cs l k).length = l.length:=by
  induction k with
  | zero => rfl
  | succ k ih =>
    unfold applyN
    split
    · rw [List.length_set,ih]
    · exact ih
theorem applyN_on (cs : List Cyc) (l : List Int) (k : Nat) (h : (cd cs k).w = true) : applyN cs l (k+1) = (applyN cs l k).set ((cd cs k).a % l.length).toNat (cd cs k).d:=by rw [applyN,if_pos h]
theorem applyN_off (cs : List Cyc) (l : List Int) (k : Nat) (h : (cd cs k).w = false) : applyN cs l (k+1) = applyN cs l k:=by rw [applyN,if_neg (by simp [h])]
theorem set_rd {l : List Int} {n : Nat} {x : Int} (hl : ∀ i,0 ≤ rd l i∧rd l i < 256) (h0 : 0 ≤ x) (h1 : x < 256) (i : Int) : 0 ≤ rd (l.set n x) i∧rd (l.set n x) i < 256:=by
  have ih:=hl i
  unfold rd at *
  rw [List.getD_eq_getElem?_getD,List.getElem?_set]
  split
  · split
    · simpa using ⟨h0,h1⟩
    · simp
  · rw [← List.getD_eq_getElem?_getD];exact ih
theorem applyN_rd (cs : List Cyc) (l : List Int) (hl : ∀ i,0 ≤ rd l i∧rd l i < 256) (hb : ∀ k,(cd cs k).ok) (k : Nat) : ∀ i,0 ≤ rd (applyN cs l k) i∧rd (applyN cs l k) i < 256:=by
  induction k with
  | zero => exact hl
  | succ k ih =>
    intro i
    unfold applyN
    split
    · exact set_rd ih (hb k).2.2.1 (hb k).2.2.2 i
    · exact ih i
theorem apply_rd (l : List Int) (cs : List Cyc) (hl : ∀ i,0 ≤ rd l i∧rd l i < 256) (hb : ∀ k,(cd cs k).ok) (i : Int) : 0 ≤ rd (apply l cs) i∧rd (apply l cs) i < 256:=by
  unfold apply
  split
  · exact applyN_rd cs l hl hb _ i
  · simp [rd]
theorem apply_le (l : List Int) (cs : List Cyc) : (apply l cs).length ≤ l.length:=by
  unfold apply
  split
  · rw [applyN_len];exact Nat.le_refl _
  · simp
set_option maxRecDepth 20000 in
set_option maxHeartbeats 400000 in
theorem impl_Apply (A : Option Addr) (c : Nat) (l : List Int) (B : Option Addr) (d : Nat) (m : List Cyc) (w : World) (h : Bs w A l) (h2 : Cs w B m) :
    Calls Tryz.prog 31 #[.agg #[.slice A l.length c],.slice B m.length d] w fun e w' => ∃ A1 c1,e = .returned (.agg #[.slice A1 (apply l m).length c1])∧OwnB w' w.heap.size (.slice A1 (apply l m).length c1) (apply l m)∧Below w.heap.size w w':=by
  have hm:=h2.max
  obtain ⟨b,hb⟩ : ∃ b,ramSize l.length = b:=⟨_,rfl⟩
  cases b
  · have e : apply l m = []:=by simp [apply,hb]
    rw [e]
    have HB:=hR w;go_enter Tryz.func31,Tryz.ntmps31
    go_wp2_with fail
    refine (impl_RamOk _ _ _ _).mono ?_
    rintro _ w1 ⟨rfl,hb⟩
    (have HB:=Aside0.mk (below_step (w:=w) blw hb);have hz1:=hb.size;obtain ⟨hcl1,hfr1,hlt1,_⟩:=bcell hb;(try simp only [sA,sC,sD] at hz1);(try simp only [sA,sC,sD] at hcl1 hfr1 hlt1);have hk1_0 : w.heap.size < w1.heap.size:=(by omega);have hk1_1 : w.heap.size+1 < w1.heap.size:=(by omega);have HB1:=hR w1;clear hb)
    go_wp2_with fail
    (refine bodyPost_ret (v:=.agg #[.slice none 0 0]) (by (simp only [results,Tryz.results31];go_simp <;> (rfl))) rfl ?_)
    exact ⟨none,0,rfl,Kd.R_nil _ _ _ _ _,blw⟩
  · have hs:=ramSize_le hb
    have e : apply l m = applyN m l m.length:=by simp [apply,hb]
    rw [e,applyN_len]
    have HB:=hR w;go_enter Tryz.func31,Tryz.ntmps31
    go_wp2_with fail
    refine (impl_RamOk _ _ _ _).mono ?_
    rintro _ w1 ⟨rfl,hb⟩
    (have HB:=Aside0.mk (below_step (w:=w) blw hb);have hz1:=hb.size;obtain ⟨hcl1,hfr1,hlt1,_⟩:=bcell hb;(try simp only [sA,sC,sD] at hz1);(try simp only [sA,sC,sD] at hcl1 hfr1 hlt1);have hk1_0 : w.heap.size < w1.heap.size:=(by omega);have hk1_1 : w.heap.size+1 < w1.heap.size:=(by omega);have HB1:=hR w1;clear hb)
    go_wp2_with fail
    refine (impl_cloned _ _ _ _ (h.below (blw)) (by omega)).mono ?_
    rintro _ w2 ⟨A1,c1,rfl,HO,hb⟩
    (have HB:=Aside0.mk (below_step (w:=w) blw hb);have HB1:=Aside0.mk (below_step (w:=w1) blw hb);have hz2:=hb.size;obtain ⟨hcl2,hfr2,hlt2,_⟩:=bcell hb;(try simp only [sA,sC,sD] at hz2);(try simp only [sA,sC,sD] at hcl2 hfr2 hlt2);have hk2_0 : w.heap.size < w2.heap.size:=(by omega);have hk2_1 : w.heap.size+1 < w2.heap.size:=(by omega);have HB2:=hR w2;clear hb)
    have HO2:=Aside0.mk HO;clear HO
    have HO:=HO2
    go_wp2_with fail
    go_loopw [16] (fun v wr => ∃ k : Nat,k ≤ m.length∧v = .int .i64 k∧Aside0 (OwnB wr w1.heap.size (.slice A1 l.length c1) (applyN m l k))∧Aside0 (Below w.heap.size w wr)∧Aside0 (w2.heap.size < wr.heap.size)∧wr.cell? ⟨w2.heap.size,0,none⟩ = some (.slice A1 l.length c1)∧wr.cell? ⟨w.heap.size+1,0,none⟩ = some (.slice none 0 0)∧wr.frozen? ⟨w.heap.size+1,0,none⟩ = false) (fun v _ => m.length - (intOf v).toNat)
    case atStart => exact ⟨0,Nat.zero_le _,rfl,⟨HO.out.alloc _⟩,⟨blw⟩,⟨by simp⟩,by go_simp,by go_simp,by go_simp⟩
    case round =>
      obtain ⟨k,hk,rfl,HO,HB,HZ,r1,r2,r3⟩:=hrel
      by_cases hlt : k < m.length
      · obtain ⟨x,ex⟩ : ∃ x,cd m k = x:=⟨_,rfl⟩
        have hok:=h2.b k
        rw [ex] at hok
        obtain ⟨ok0,ok1,ok2,ok3⟩:=hok
        obtain ⟨ad,rfl,hx,hy,hv⟩:=cyc_at h2.c k (by omega) (by omega) ⟨0,0,false⟩
        rw [Int.toNat_natCast,show m.getD k ⟨0,0,false⟩ = x from ex] at hx hy hv
        have P1:=(HB.out.cell (World.block_lt_of_cell? w _ hx)).trans hx
        have P2:=(HB.out.cell (World.block_lt_of_cell? w _ hy)).trans hy
        have P3:=(HB.out.cell (World.block_lt_of_cell? w _ hv)).trans hv
        rw [add_next] at P2 P3
        have hzb:=HB.out.size
        have hz:=HZ.out
        have hw1 : w.heap.size+1 < wr.heap.size:=by omega
        clear hx hy hv
        by_cases hon : x.w = true
        · rw [hon] at P3
          have hl3 : (applyN m l k).length = l.length:=applyN_len _ _ _
          obtain ⟨g,cap,eo,gb,gl,cl,HC⟩:=Kd.R_form HO.out (by omega)
          rw [hl3] at eo
          injection eo with ea en ec
          subst ea ec
          have q0 : 0 ≤ x.a % l.length:=Int.emod_nonneg _ (by omega)
          have q1 : x.a % l.length < l.length:=Int.emod_lt_of_pos _ (by omega)
          obtain ⟨hy,hf⟩:=Kd.R_celln 0 HO.out (x.a % l.length) q0 q1
          clear HC en
          have hg2 : g < w2.heap.size:=Kd.R_lt HO2.out g (by simp [Value.ownBlock])
          have hg3 : ¬ g = w2.heap.size:=by omega
          have hg4 : ¬ w2.heap.size = g:=by omega
          have hg5 : ¬ w.heap.size+1 = g:=by omega
          have hg6 : ¬ g = w.heap.size+1:=by omega
          have hg7 : ¬ wr.heap.size = g:=by omega
          have hg8 : ¬ g = wr.heap.size:=by omega
          have hb1 : w2.heap.size < wr.heap.size+1:=by omega
          have hb2 : w.heap.size+1 < wr.heap.size+1:=by omega
          have hb3 : w.heap.size < wr.heap.size:=by omega
          have hb4 : w2.heap.size ≤ wr.heap.size:=by omega
          go_upto_region 8 with (fail)
          go_region_held3 (fun w' => Below w.heap.size w w'∧w'.cell? ⟨w2.heap.size,0,none⟩ = some (.slice (some ⟨g,0,none⟩) l.length c1)∧w'.cell? ⟨wr.heap.size,0,none⟩ = some (.int .u16 x.a)∧w'.cell? ⟨wr.heap.size,1,none⟩ = some (.int .u8 x.d)) (first | (go_keep;done) | (go_split_ands;(repeat' apply And.intro) <;> (first | (with_reducible assumption) | (go_simp;done) | (exact cell_keep blw (by assumption)) | exact blw))) (first | (go_at_call 82;((with_reducible refine (impl_at _ _ _ _ _ (by omega) (by omega) (by omega) (by omega)).mono ?_);rintro _ w3 ⟨rfl,hb⟩;have HO3:=Aside0.mk ((HO.out.alloc _).drew.below hb);have HX:=Aside0.mk (bcell hb);have HB:=Aside0.mk (below_step (w:=w) blw hb);have hz3:=hb.size;obtain ⟨hcl3,hfr3,hlt3,_⟩:=bcell hb;(try simp only [sA,sC,sD] at hz3);(try simp only [sA,sC,sD] at hcl3 hfr3 hlt3);have hk3_0 : w2.heap.size < w3.heap.size:=(by omega);have hk3_1 : w.heap.size+1 < w3.heap.size:=(by omega);have HB3:=hR w3;clear hb)))
          go_wp2
          exact ⟨⟨k+1,by omega,by go_num,⟨by rw [applyN_on m l k (by rw [ex];exact hon),ex];exact (Kd.R_putg HO3.out (x.a % l.length) x.d).1⟩,⟨blw⟩,⟨by simp;omega⟩,by go_simp,by go_simp,by go_simp⟩,by simp [intOf];omega⟩
        · have hon : x.w = false:=by cases e : x.w <;> simp_all
          rw [hon] at P3
          have hw2 : ¬ wr.heap.size = w2.heap.size:=by omega
          go_wp2
          exact ⟨⟨k+1,by omega,by go_num,⟨by rw [applyN_off m l k (by rw [ex];exact hon)];exact HO.out.alloc _⟩,⟨blw⟩,⟨by simp;omega⟩,by go_simp,by go_simp,by go_simp⟩,by simp [intOf];omega⟩
      · have ek : k = m.length:=by omega
        subst ek
        have hz:=HZ.out
        have hzb:=HB.out.size
        have hw1 : w.heap.size+1 < wr.heap.size:=by omega
        go_wp2
        (refine bodyPost_ret (v:=.agg #[.slice A1 l.length c1]) (by (simp only [results,Tryz.results31];go_simp <;> (rfl))) rfl ?_)
        exact ⟨_,_,rfl,(by (apply OwnB.lower;(repeat (first | (with_reducible exact HO.out) | (with_reducible apply OwnB.alloc) | (with_reducible apply OwnB.drew) | (with_reducible apply OwnB.drewN) | (with_reducible apply OwnB.set)));all_goals (first | omega | (simp;done) | (simp;omega)))),blw⟩
open Go.RowKit Go.Proofs.YtoncmhfmkfeolaaGreatDoorW.PrintWords
theorem grown_alloc {a w : World} {row : Option Nat} (h : a.grownBy w row) (o : Obj) : a.grownBy (w.alloc o) row:=h.trans (World.grownBy_alloc w o row)
theorem grown_drew {a w : World} {row : Option Nat} (h : a.grownBy w row) : a.grownBy w.drew row:=⟨h.os,h.tape,h.output,h.size,h.block⟩
theorem grown_drewN {a w : World} {row : Option Nat} (h : a.grownBy w row) (n : Nat) : a.grownBy (w.drewN n) row:=by
  induction n with
  | zero => exact h
  | succ n ih => exact grown_drew ih
theorem grown_below {a w w' : World} {row : Option Nat} (h : a.grownBy w row) (hb : Below w.heap.size w w') : a.grownBy w' row :=
  h.trans ⟨hb.os,hb.tape,hb.output,hb.size,fun k hk _ => hb.block k hk⟩
theorem grown_set {a w : World} {g : Nat} (h : a.grownBy w (some g)) (i : Nat) (v : Value) : a.grownBy (w.setCell ⟨g,i,none⟩ v) (some g):=by
  exact h.trans ⟨rfl,rfl,rfl,by simp [World.setCell],fun k _ hk => Below.heap_setCell _ _ _ _ (fun e => hk (by simp [e]))⟩
theorem i64_and30 (n : Int) : bits .and .i64 n 1073741823 = n % 1073741824:=i64_mask 30 (by decide) n 1073741823 rfl (by decide)
structure Cur (w : World) (g : Nat) (A : Option Addr) (c : Nat) (l : List Int) : Prop where
  b : w.cell? ⟨g,0,none⟩ = some (.slice A l.length c)
  i : ∃ i : Nat,i ≤ l.length∧w.cell? ⟨g,1,none⟩ = some (.int .i64 i)
  h : ∃ h : Int,w.cell? ⟨g,2,none⟩ = some (.int .i64 h)
  f1 : w.frozen? ⟨g,1,none⟩ = false
  f2 : w.frozen? ⟨g,2,none⟩ = false
  s : ∃ w0 : World,Bs w0 A l∧Below w0.heap.size w0 w∧w0.heap.size ≤ g
theorem Cur.below {w w' : World} {g : Nat} {A : Option Addr} {c : Nat} {l : List Int} (h : Cur w g A c l) (hb : Below w.heap.size w w') : Cur w' g A c l:=by
  have hg : g < w.heap.size:=World.block_lt_of_cell? w _ h.b
  obtain ⟨i,hi,ei⟩:=h.i
  obtain ⟨x,ex⟩:=h.h
  obtain ⟨w0,b0,k0,s0⟩:=h.s
  exact ⟨(hb.cell hg).trans h.b,⟨i,hi,(hb.cell hg).trans ei⟩,⟨x,(hb.cell hg).trans ex⟩,(hb.frozen hg).trans h.f1,(hb.frozen hg).trans h.f2,w0,b0,below_step k0 hb,s0⟩
set_option maxHeartbeats 400000 in
set_option maxRecDepth 20000 in
theorem spec_l01New (A : Option Addr) (c : Nat) (l : List Int) (w : World) (h : Bs w A l) (hl : l.length ≤ 1048576) :
    Calls Tryz.prog 42 #[.slice A l.length c] w fun e w' => ∃ g,e = .returned (.pointer (some ⟨g,0,none⟩))∧w.heap.size ≤ g∧Cur w' g A c l∧Below w.heap.size w w':=by
  have HB:=hR w;go_enter Tryz.func42,Tryz.ntmps42
  go_wp2
  go_loop [3,4] (fun v3 v4 => ∃ k : Nat,∃ x : Int,k ≤ l.length∧0 ≤ x∧x < 1073741824∧v3 = .int .i64 x∧v4 = .int .i64 k) (fun _ v4 => l.length - (intOf v4).toNat)
  case atStart => exact ⟨0,_,Nat.zero_le _,by omega,by omega,rfl,rfl⟩
  case round =>
    obtain ⟨k,x,hk,hx0,hx1,rfl,rfl⟩:=hrel
    by_cases hlt : k < l.length∧k < 4000
    · obtain ⟨ad,rfl,hx⟩:=h.at k (by omega) (by omega)
      rw [Int.toNat_natCast] at hx
      obtain ⟨q1,q2⟩:=hlt
      have hr:=h.b k
      have ha:=i64_and30
      go_wp2
      exact ⟨⟨k+1,_,by omega,Int.emod_nonneg _ (by omega),Int.emod_lt_of_pos _ (by omega),rfl,by go_num⟩,by simp [intOf];omega⟩
    · by_cases hlt2 : k < l.length
      · have q2 : ¬ k < 4000:=fun e => hlt ⟨hlt2,e⟩
        go_wp2
        go_ret
        exact ⟨_,rfl,Nat.le_refl _,⟨by go_simp,⟨0,Nat.zero_le _,by go_simp⟩,⟨x,by go_simp⟩,by go_simp,by go_simp,w,h,blw,Nat.le_refl _⟩,blw⟩
      · go_wp2
        go_ret
        exact ⟨_,rfl,Nat.le_refl _,⟨by go_simp,⟨0,Nat.zero_le _,by go_simp⟩,⟨x,by go_simp⟩,by go_simp,by go_simp,w,h,blw,Nat.le_refl _⟩,blw⟩
set_option maxHeartbeats 400000 in
theorem spec_l01Byte (g : Nat) (A : Option Addr) (c : Nat) (l : List Int) (w : World) (h : Cur w g A c l) (hl : l.length ≤ 1048576) :
    Calls Tryz.prog 101 #[.pointer (some ⟨g,0,none⟩)] w fun e w' => ∃ x,e = .returned (.int .i64 x)∧0 ≤ x∧x < 256∧Cur w' g A c l∧w.grownBy w' (some g):=by
  have hg : g < w.heap.size:=World.block_lt_of_cell? w _ h.b
  have eb:=h.b
  obtain ⟨i,hi,ei⟩:=h.i
  obtain ⟨x,ex⟩:=h.h
  have f1:=h.f1
  have f2:=h.f2
  obtain ⟨w0,b0,k0,s0⟩:=h.s
  have ha:=i64_and255
  by_cases hlt : i < l.length
  · obtain ⟨ad,rfl,hx⟩:=b0.at i (by omega) (by omega)
    have hx1:=(k0.cell (World.block_lt_of_cell? w0 _ hx)).trans hx
    have hx2 : ∀ v,(w.setCell ⟨g,2,none⟩ v).cell? (ad.add (i : Int).toNat) = some (.int .u8 (rd l i)):=fun v => ((below_set k0 s0).cell (World.block_lt_of_cell? w0 _ hx)).trans hx
    rw [Int.toNat_natCast] at hx2
    rw [Int.toNat_natCast] at hx1
    have hr:=b0.b i
    have hi0 : (0 : Int) ≤ (i : Int):=by omega
    have hi1 : (i : Int) < (l.length : Int):=by omega
    have HB:=hR w;go_enter Tryz.func101,Tryz.ntmps101
    go_wp2_with fail
    go_quiet (fail)
    go_wp2_with fail
    generalize hH : wrap64 (wrap64 (x * 6364136223846793005)+1442695040888963407) = H
    generalize hX : bits BinOp.xor IntKind.i64 (H / 8589934592) (H / 35184372088832) % 256 = X
    have X0 : 0 ≤ X:=by rw [← hX];exact Int.emod_nonneg _ (by omega)
    have X1 : X < 256:=by rw [← hX];exact Int.emod_lt_of_pos _ (by omega)
    clear hX hH
    go_quiet (fail)
    go_wp2_with fail
    go_quiet (fail)
    go_wp2_with fail
    go_ret
    exact ⟨_,rfl,Int.emod_nonneg _ (by omega),Int.emod_lt_of_pos _ (by omega),⟨by go_simp,⟨i+1,by omega,by go_simp⟩,⟨_,by go_simp;rfl⟩,by go_simp,by go_simp,w0,b0,blw,s0⟩,by (repeat (first | (with_reducible exact grown_refl _ _) | (with_reducible assumption) | (with_reducible apply grown_alloc) | (with_reducible apply grown_drew) | (with_reducible apply grown_drewN) | (with_reducible apply grown_set)))⟩
  · have hi1 : ¬ (i : Int) < (l.length : Int):=by omega
    have HB:=hR w;go_enter Tryz.func101,Tryz.ntmps101
    go_wp2_with fail
    go_quiet (fail)
    go_wp2_with fail
    generalize hH : wrap64 (wrap64 (x * 6364136223846793005)+1442695040888963407) = H
    generalize hX : bits BinOp.xor IntKind.i64 (H / 8589934592) (H / 35184372088832) % 256 = X
    have X0 : 0 ≤ X:=by rw [← hX];exact Int.emod_nonneg _ (by omega)
    have X1 : X < 256:=by rw [← hX];exact Int.emod_lt_of_pos _ (by omega)
    clear hX hH
    go_quiet (fail)
    go_wp2_with fail
    go_ret
    exact ⟨_,rfl,X0,X1,⟨by go_simp,⟨i,hi,by go_simp⟩,⟨_,by go_simp;rfl⟩,by go_simp,by go_simp,w0,b0,blw,s0⟩,by (repeat (first | (with_reducible exact grown_refl _ _) | (with_reducible assumption) | (with_reducible apply grown_alloc) | (with_reducible apply grown_drew) | (with_reducible apply grown_drewN) | (with_reducible apply grown_set)))⟩
structure Drew (w w' : World) (g : Nat) (A : Option Addr) (c : Nat) (l : List Int) : Prop where
  cur : Cur w' g A c l
  only : w.grownBy w' (some g)
theorem Drew.trans {w w1 w2 : World} {g : Nat} {A : Option Addr} {c : Nat} {l : List Int} (h : w.grownBy w1 (some g)) (k : Drew w1 w2 g A c l) : Drew w w2 g A c l:=⟨k.cur,h.trans k.only⟩
set_option maxHeartbeats 400000 in
theorem spec_l01Below (g : Nat) (A : Option Addr) (c : Nat) (l : List Int) (n : Int) (w : World) (h : Cur w g A c l) (hl : l.length ≤ 1048576) (h0 : 0 ≤ n) (h1 : n ≤ 2147483648) :
    Calls Tryz.prog 47 #[.pointer (some ⟨g,0,none⟩),.int .i64 n] w fun e w' => ∃ x,e = .returned (.int .i64 x)∧0 ≤ x∧(0 < n → x < n)∧Cur w' g A c l∧w.grownBy w' (some g):=by
  by_cases hn : n ≤ 0
  · have HB:=hR w;go_enter Tryz.func47,Tryz.ntmps47
    go_wp2
    go_ret
    exact ⟨0,rfl,by omega,by omega,h,grown_refl _ _⟩
  by_cases hm : n ≤ 256
  · have HB:=hR w;go_enter Tryz.func47,Tryz.ntmps47
    go_wp2_with (first | (go_at_call 101;((with_reducible refine (spec_l01Byte _ _ _ _ _ h hl).mono ?_);rintro _ w1 ⟨x,rfl,x0,x1,hc,hb⟩;skip)))
    go_ret
    exact ⟨_,rfl,Int.emod_nonneg _ (by omega),fun _ => Int.emod_lt_of_pos _ (by omega),hc,hb⟩
  · have HB:=hR w;go_enter Tryz.func47,Tryz.ntmps47
    go_wp2_with fail
    refine (spec_l01Byte _ _ _ _ _ h hl).mono ?_
    rintro _ w1 ⟨x,rfl,x0,x1,hc1,hb1⟩
    go_wp2_with fail
    refine (spec_l01Byte _ _ _ _ _ hc1 hl).mono ?_
    rintro _ w2 ⟨y,rfl,y0,y1,hc2,hb2⟩
    go_wp2_with fail
    refine (spec_l01Byte _ _ _ _ _ hc2 hl).mono ?_
    rintro _ w3 ⟨z,rfl,z0,z1,hc3,hb3⟩
    go_wp2_with fail
    refine (spec_l01Byte _ _ _ _ _ hc3 hl).mono ?_
    rintro _ w4 ⟨u,rfl,u0,u1,hc4,hb4⟩
    go_wp2_with fail
    go_ret
    exact ⟨_,rfl,Int.emod_nonneg _ (by omega),fun _ => Int.emod_lt_of_pos _ (by omega),hc4,((hb1.trans hb2).trans hb3).trans hb4⟩
theorem ad_block (a : Addr) (n : Nat) : (a.add n).block = a.block:=by unfold Addr.add;split <;> rfl
set_option maxHeartbeats 400000 in
theorem spec_l01PickInt (g : Nat) (A : Option Addr) (c : Nat) (l : List Int) (B : Option Addr) (d : Nat) (L : List Int) (w : World) (h : Cur w g A c l) (hl : l.length ≤ 1048576)
    (hL : Kd.C (Kd.int .i64) w B L.length L) (h0 : 0 < L.length) (h1 : L.length ≤ 1048576) (hne : ∀ ad,B = some ad → ad.block ≠ g) :
    Calls Tryz.prog 48 #[.pointer (some ⟨g,0,none⟩),.slice B L.length d] w fun e w' => ∃ k : Nat,k < L.length∧e = .returned (.int .i64 (rd L k))∧Cur w' g A c l∧w.grownBy w' (some g):=by
  have HB:=hR w;go_enter Tryz.func48,Tryz.ntmps48
  go_wp2_with fail
  refine (spec_l01Below _ _ _ _ _ _ h hl (by omega) (by omega)).mono ?_
  rintro _ w1 ⟨x,rfl,x0,x1,hc,hb⟩
  have x2:=x1 (by omega)
  obtain ⟨ad,rfl,hx⟩:=Kd.at_int hL x x0 x2
  have hx1:=hb.cell hx (by have:=hne ad rfl;rw [ad_block];intro e;injection e with e;exact this e)
  go_wp2
  go_ret
  exact ⟨x.toNat,by omega,by rw [Int.toNat_of_nonneg x0];rfl,hc,hb⟩
theorem C_alloc (W : World) (L : List Int) (e : TypeId) (hm : L.length ≤ 1048576) : Kd.C (Kd.int .i64) (W.alloc (Obj.cells (L.map (Value.int .i64)).toArray e)) (some ⟨W.heap.size,0,none⟩) L.length L:=by
  refine Kd.C_of_reads (d:=(0 : Int)) (h1:=fun _ => rfl) ⟨rfl,by omega,fun _ => ⟨_,rfl,fun j hj => ?_⟩⟩
  have ea : (⟨W.heap.size,0,none⟩ : Addr).add j = ⟨W.heap.size,j,none⟩:=by unfold Addr.add;split <;> simp_all
  rw [ea,World.cell?_alloc_new]
  simp [hj]
open Go.RowKit Go.Proofs.YtoncmhfmkfeolaaGreatDoorW.PrintWords
def newRam (n : Int) : List Int:=if ramSize n then List.replicate n.toNat 0 else []
set_option maxHeartbeats 400000 in
theorem impl_NewRam (n : Int) (w : World) :
    Calls Tryz.prog 80 #[.int .i64 n] w fun e w' => ∃ A1 c1,e = .returned (.agg #[.slice A1 (newRam n).length c1])∧OwnB w' w.heap.size (.slice A1 (newRam n).length c1) (newRam n)∧Below w.heap.size w w':=by
  obtain ⟨b,hb⟩ : ∃ b,ramSize n = b:=⟨_,rfl⟩
  cases b
  · have e : newRam n = []:=by simp [newRam,hb]
    rw [e]
    have HB:=hR w;go_enter Tryz.func80,Tryz.ntmps80
    go_wp2_with (first | (go_at_call 102;((with_reducible refine (impl_isRamSize _ _).mono ?_);rintro _ _ ⟨rfl,rfl⟩)))
    (refine bodyPost_ret (v:=.agg #[.slice none 0 0]) (by (simp only [results,Tryz.results80];go_simp <;> (rfl))) rfl ?_)
    exact ⟨none,0,rfl,Kd.R_nil _ _ _ _ _,blw⟩
  · have e : newRam n = List.replicate n.toNat 0:=by simp [newRam,hb]
    have hp:=ramSize_le hb
    rw [e]
    have HB:=hR w;go_enter Tryz.func80,Tryz.ntmps80
    go_wp2_with (first | (go_at_call 102;((with_reducible refine (impl_isRamSize _ _).mono ?_);rintro _ _ ⟨rfl,rfl⟩)) | ((with_reducible refine gate_dst (N:=8) rfl ?_);refine Kd.R_make (Kd.int .u8) _ 5 rfl (N:=8) rfl 22 _ _ rfl n rfl rfl Tryz.underlying22 (.int .u8 0) 1 infoU8 rfl (by decide) (by omega) 0 (ok:=fun _ => True) (okp:=fun _ => True) rfl (fun _ hk => hk) trivial (by omega) (by omega) (Below.refl _ _) (Nat.le_refl _) ?_;intro v1 w3 ho hb hg hn;obtain ⟨A1,c1,e1,hc1,hr1⟩:=Kd.R_reads ho;simp only [List.length_replicate] at e1;subst e1;have HO:=Aside0.mk (show OwnB _ _ _ _ from ho);clear ho hn hg hr1 hc1;have HB:=Aside0.mk (below_step (w:=w) blw hb);have hz3:=hb.size;obtain ⟨hcl3,hfr3,hlt3,_⟩:=bcell hb;(try simp only [sA,sC,sD] at hz3);(try simp only [sA,sC,sD] at hcl3 hfr3 hlt3);have hk3_0 : w.heap.size < w3.heap.size:=(by omega);have HB3:=hR w3;clear hb))
    simp only [List.length_replicate]
    (refine bodyPost_ret (v:=.agg #[.slice A1 n.toNat c1]) (by (simp only [results,Tryz.results80];go_simp <;> (rfl))) rfl ?_)
    exact ⟨_,_,rfl,(by (apply OwnB.lower;(repeat (first | (with_reducible exact HO.out) | (with_reducible apply OwnB.alloc) | (with_reducible apply OwnB.drew) | (with_reducible apply OwnB.drewN) | (with_reducible apply OwnB.set)));all_goals (first | omega | (simp;done) | (simp;omega)))),blw⟩
set_option maxHeartbeats 400000 in
theorem spec_NewRam (n : Int) (w : World) :
    Calls Tryz.prog 141 #[.int .i64 n] w fun e w' => ∃ A1 c1,e = .returned (.agg #[.slice A1 (newRam n).length c1])∧OwnB w' w.heap.size (.slice A1 (newRam n).length c1) (newRam n)∧Below w.heap.size w w':=by
  by_cases hb : ramSize n = true
  · have e : newRam n = List.replicate n.toNat 0:=by simp [newRam,hb]
    have hp:=ramSize_le hb
    rw [e,List.length_replicate]
    simp [ramSize] at hb
    rcases hb with (((hb | hb) | hb) | hb) | hb
    · have HB:=hR w;go_enter Tryz.func141,Tryz.ntmps141
      go_wp2_with ((with_reducible refine gate_dst (N:=11) rfl ?_);refine Kd.R_make (Kd.int .u8) _ 5 rfl (N:=11) rfl 22 _ _ rfl n rfl rfl Tryz.underlying22 (.int .u8 0) 1 infoU8 rfl (by decide) (by omega) 0 (ok:=fun _ => True) (okp:=fun _ => True) rfl (fun _ hk => hk) trivial (by omega) (by omega) (Below.refl _ _) (Nat.le_refl _) ?_;intro v1 w3 ho hb hg hn;obtain ⟨A1,c1,e1,hc1,hr1⟩:=Kd.R_reads ho;simp only [List.length_replicate] at e1;subst e1;have HO:=Aside0.mk (show OwnB _ _ _ _ from ho);clear ho hn hg hr1 hc1;have HB:=Aside0.mk (below_step (w:=w) blw hb);have hz3:=hb.size;obtain ⟨hcl3,hfr3,hlt3,_⟩:=bcell hb;(try simp only [sA,sC,sD] at hz3);(try simp only [sA,sC,sD] at hcl3 hfr3 hlt3);have hk3_0 : w.heap.size < w3.heap.size:=(by omega);have HB3:=hR w3;clear hb)
      (refine bodyPost_ret (v:=.agg #[.slice A1 n.toNat c1]) (by (simp only [results,Tryz.results141];go_simp <;> (rfl))) rfl ?_)
      exact ⟨_,_,rfl,(by (apply OwnB.lower;(repeat (first | (with_reducible exact HO.out) | (with_reducible apply OwnB.alloc) | (with_reducible apply OwnB.drew) | (with_reducible apply OwnB.drewN) | (with_reducible apply OwnB.set)));all_goals (first | omega | (simp;done) | (simp;omega)))),blw⟩
    · have HB:=hR w;go_enter Tryz.func141,Tryz.ntmps141
      go_wp2_with ((with_reducible refine gate_dst (N:=11) rfl ?_);refine Kd.R_make (Kd.int .u8) _ 5 rfl (N:=11) rfl 22 _ _ rfl n rfl rfl Tryz.underlying22 (.int .u8 0) 1 infoU8 rfl (by decide) (by omega) 0 (ok:=fun _ => True) (okp:=fun _ => True) rfl (fun _ hk => hk) trivial (by omega) (by omega) (Below.refl _ _) (Nat.le_refl _) ?_;intro v1 w3 ho hb hg hn;obtain ⟨A1,c1,e1,hc1,hr1⟩:=Kd.R_reads ho;simp only [List.length_replicate] at e1;subst e1;have HO:=Aside0.mk (show OwnB _ _ _ _ from ho);clear ho hn hg hr1 hc1;have HB:=Aside0.mk (below_step (w:=w) blw hb);have hz3:=hb.size;obtain ⟨hcl3,hfr3,hlt3,_⟩:=bcell hb;(try simp only [sA,sC,sD] at hz3);(try simp only [sA,sC,sD] at hcl3 hfr3 hlt3);have hk3_0 : w.heap.size < w3.heap.size:=(by omega);have HB3:=hR w3;clear hb)
      (refine bodyPost_ret (v:=.agg #[.slice A1 n.toNat c1]) (by (simp only [results,Tryz.results141];go_simp <;> (rfl))) rfl ?_)
      exact ⟨_,_,rfl,(by (apply OwnB.lower;(repeat (first | (with_reducible exact HO.out) | (with_reducible apply OwnB.alloc) | (with_reducible apply OwnB.drew) | (with_reducible apply OwnB.drewN) | (with_reducible apply OwnB.set)));all_goals (first | omega | (simp;done) | (simp;omega)))),blw⟩
    · have HB:=hR w;go_enter Tryz.func141,Tryz.ntmps141
      go_wp2_with ((with_reducible refine gate_dst (N:=11) rfl ?_);refine Kd.R_make (Kd.int .u8) _ 5 rfl (N:=11) rfl 22 _ _ rfl n rfl rfl Tryz.underlying22 (.int .u8 0) 1 infoU8 rfl (by decide) (by omega) 0 (ok:=fun _ => True) (okp:=fun _ => True) rfl (fun _ hk => hk) trivial (by omega) (by omega) (Below.refl _ _) (Nat.le_refl _) ?_;intro v1 w3 ho hb hg hn;obtain ⟨A1,c1,e1,hc1,hr1⟩:=Kd.R_reads ho;simp only [List.length_replicate] at e1;subst e1;have HO:=Aside0.mk (show OwnB _ _ _ _ from ho);clear ho hn hg hr1 hc1;have HB:=Aside0.mk (below_step (w:=w) blw hb);have hz3:=hb.size;obtain ⟨hcl3,hfr3,hlt3,_⟩:=bcell hb;(try simp only [sA,sC,sD] at hz3);(try simp only [sA,sC,sD] at hcl3 hfr3 hlt3);have hk3_0 : w.heap.size < w3.heap.size:=(by omega);have HB3:=hR w3;clear hb)
      (refine bodyPost_ret (v:=.agg #[.slice A1 n.toNat c1]) (by (simp only [results,Tryz.results141];go_simp <;> (rfl))) rfl ?_)
      exact ⟨_,_,rfl,(by (apply OwnB.lower;(repeat (first | (with_reducible exact HO.out) | (with_reducible apply OwnB.alloc) | (with_reducible apply OwnB.drew) | (with_reducible apply OwnB.drewN) | (with_reducible apply OwnB.set)));all_goals (first | omega | (simp;done) | (simp;omega)))),blw⟩
    · have HB:=hR w;go_enter Tryz.func141,Tryz.ntmps141
      go_wp2_with ((with_reducible refine gate_dst (N:=11) rfl ?_);refine Kd.R_make (Kd.int .u8) _ 5 rfl (N:=11) rfl 22 _ _ rfl n rfl rfl Tryz.underlying22 (.int .u8 0) 1 infoU8 rfl (by decide) (by omega) 0 (ok:=fun _ => True) (okp:=fun _ => True) rfl (fun _ hk => hk) trivial (by omega) (by omega) (Below.refl _ _) (Nat.le_refl _) ?_;intro v1 w3 ho hb hg hn;obtain ⟨A1,c1,e1,hc1,hr1⟩:=Kd.R_reads ho;simp only [List.length_replicate] at e1;subst e1;have HO:=Aside0.mk (show OwnB _ _ _ _ from ho);clear ho hn hg hr1 hc1;have HB:=Aside0.mk (below_step (w:=w) blw hb);have hz3:=hb.size;obtain ⟨hcl3,hfr3,hlt3,_⟩:=bcell hb;(try simp only [sA,sC,sD] at hz3);(try simp only [sA,sC,sD] at hcl3 hfr3 hlt3);have hk3_0 : w.heap.size < w3.heap.size:=(by omega);have HB3:=hR w3;clear hb)
      (refine bodyPost_ret (v:=.agg #[.slice A1 n.toNat c1]) (by (simp only [results,Tryz.results141];go_simp <;> (rfl))) rfl ?_)
      exact ⟨_,_,rfl,(by (apply OwnB.lower;(repeat (first | (with_reducible exact HO.out) | (with_reducible apply OwnB.alloc) | (with_reducible apply OwnB.drew) | (with_reducible apply OwnB.drewN) | (with_reducible apply OwnB.set)));all_goals (first | omega | (simp;done) | (simp;omega)))),blw⟩
    · have HB:=hR w;go_enter Tryz.func141,Tryz.ntmps141
      go_wp2_with ((with_reducible refine gate_dst (N:=11) rfl ?_);refine Kd.R_make (Kd.int .u8) _ 5 rfl (N:=11) rfl 22 _ _ rfl n rfl rfl Tryz.underlying22 (.int .u8 0) 1 infoU8 rfl (by decide) (by omega) 0 (ok:=fun _ => True) (okp:=fun _ => True) rfl (fun _ hk => hk) trivial (by omega) (by omega) (Below.refl _ _) (Nat.le_refl _) ?_;intro v1 w3 ho hb hg hn;obtain ⟨A1,c1,e1,hc1,hr1⟩:=Kd.R_reads ho;simp only [List.length_replicate] at e1;subst e1;have HO:=Aside0.mk (show OwnB _ _ _ _ from ho);clear ho hn hg hr1 hc1;have HB:=Aside0.mk (below_step (w:=w) blw hb);have hz3:=hb.size;obtain ⟨hcl3,hfr3,hlt3,_⟩:=bcell hb;(try simp only [sA,sC,sD] at hz3);(try simp only [sA,sC,sD] at hcl3 hfr3 hlt3);have hk3_0 : w.heap.size < w3.heap.size:=(by omega);have HB3:=hR w3;clear hb)
      (refine bodyPost_ret (v:=.agg #[.slice A1 n.toNat c1]) (by (simp only [results,Tryz.results141];go_simp <;> (rfl))) rfl ?_)
      exact ⟨_,_,rfl,(by (apply OwnB.lower;(repeat (first | (with_reducible exact HO.out) | (with_reducible apply OwnB.alloc) | (with_reducible apply OwnB.drew) | (with_reducible apply OwnB.drewN) | (with_reducible apply OwnB.set)));all_goals (first | omega | (simp;done) | (simp;omega)))),blw⟩
  · have e : newRam n = []:=by simp [newRam,hb]
    rw [e]
    simp [ramSize] at hb
    obtain ⟨⟨⟨⟨n1,n2⟩,n3⟩,n4⟩,n5⟩:=hb
    have HB:=hR w;go_enter Tryz.func141,Tryz.ntmps141
    go_wp2
    (refine bodyPost_ret (v:=.agg #[.slice none 0 0]) (by (simp only [results,Tryz.results141];go_simp <;> (rfl))) rfl ?_)
    exact ⟨none,0,rfl,Kd.R_nil _ _ _ _ _,blw⟩
theorem rd_zeros (m : Nat) (i : Int) : rd (List.replicate m 0) i = 0:=by
  unfold rd
  rw [List.getD_eq_getElem?_getD,List.getElem?_replicate]
  split <;> rfl
theorem newRam_rd (n i : Int) : rd (newRam n) i = 0:=by
  unfold newRam
  split
  · exact rd_zeros _ _
  · rfl
theorem newRam_b (n : Int) : ∀ i,0 ≤ rd (newRam n) i∧rd (newRam n) i < 256:=fun i => by rw [newRam_rd];omega
theorem newRam_peek (n a : Int) : peek (newRam n) a = 0:=by
  unfold peek
  split
  · exact newRam_rd _ _
  · rfl
theorem newRam_ok (n : Int) : ramSize (newRam n).length = decide ((0 : Int) < (newRam n).length):=by
  unfold newRam
  split
  · next h =>
    have:=ramSize_le h
    rw [List.length_replicate,Int.toNat_of_nonneg (by omega),h]
    simp
    omega
  · rfl
theorem newRam_le (n : Int) : (newRam n).length ≤ 4096:=by
  unfold newRam
  split
  · next h =>
    have:=ramSize_le h
    rw [List.length_replicate]
    omega
  · simp
theorem drawn_n (k : Nat) (h : k < 11) : -1 ≤ rd [0,1,-1,128,256,512,1024,2048,4096,8192,300] k∧rd [0,1,-1,128,256,512,1024,2048,4096,8192,300] k ≤ 8192 :=
  (by decide : ∀ k : Nat,k < 11 → -1 ≤ rd [0,1,-1,128,256,512,1024,2048,4096,8192,300] k∧rd [0,1,-1,128,256,512,1024,2048,4096,8192,300] k ≤ 8192) k h
@[go_sem] theorem run_field_ram (A : Option Addr) (n c : Nat) (w : World) : Sem.run Tryz.prog (Instr.field 30 (.agg #[.slice A n c]) 0) w = .ok (.slice A n c) w:=by kernel_rfl
theorem w16 (x : Int) : 0 ≤ IntKind.u16.wrap x∧IntKind.u16.wrap x < 65536:=by rw [IntKind.wrap_u16];omega
theorem impl_RamOk_new (A : Option Addr) (c : Nat) (n : Int) (w : World) : Calls Tryz.prog 49 #[.agg #[.slice A (newRam n).length c]] w fun e w' => e = .returned (.bool (decide ((0 : Int) < (newRam n).length)))∧Below w.heap.size w w':=by
  have:=impl_RamOk A c (newRam n) w
  rw [newRam_ok] at this
  exact this
theorem impl_Peek_new (A : Option Addr) (c : Nat) (n a : Int) (w : World) (h : Bs w A (newRam n)) (h0 : 0 ≤ a) (h1 : a < 65536) : Calls Tryz.prog 110 #[.agg #[.slice A (newRam n).length c],.int .u16 a] w fun e w' => e = .returned (.int .u8 0)∧Below w.heap.size w w':=by
  have:=impl_Peek A c (newRam n) a w h h0 h1
  rw [newRam_peek] at this
  exact this
open Go.RowKit Go.Proofs.YtoncmhfmkfeolaaGreatDoorW.PrintWords
theorem ne_row {row : Option Nat} {lo hi n : Nat} (h : ∀ k,row = some k → lo ≤ k∧k < hi) (hn : n < lo ∨ hi ≤ n) : some n ≠ row:=fun e => by have:=h n e.symm;omega
theorem OwnB.row {w : World} {base : Nat} {v : Value} {l : List Int} (h : OwnB w base v l) : ∀ k,v.ownBlock = some k → base ≤ k∧k < w.heap.size:=fun k e => ⟨Kd.R_base h k e,Kd.R_lt h k e⟩
theorem OwnB.away {w0 w w1 : World} {base lo hi : Nat} {v : Value} {l : List Int} {row : Option Nat} (h0 : OwnB w0 base v l) (hb : Below w0.heap.size w0 w) (hg : w.grownBy w1 row)
    (hr : ∀ k,row = some k → lo ≤ k∧k < hi) (hd : w0.heap.size ≤ lo ∨ hi ≤ base) : OwnB w1 base v l :=
  Kd.R_mono (Kd.R_grown (Kd.R_below (Kd.R_bound h0) hb) hg (fun k hk e => by have h1:=hk.2.1;have h2:=hk.2.2.1;have h3:=hr k e.symm;omega)) (fun _ _ => trivial)
theorem Below.mark {B lo hi : Nat} {a w w1 : World} {row : Option Nat} (h : Below B a w) (hg : w.grownBy w1 row) (hr : ∀ k,row = some k → lo ≤ k∧k < hi) (hl : B ≤ lo) (hw : B ≤ w.heap.size) : Below B a w1 :=
  Below.grown h hg hw (fun k e => by have:=hr k e;omega)
theorem OwnB.le {w : World} {base : Nat} {A : Option Addr} {n c : Nat} {l : List Int} (h : OwnB w base (.slice A n c) l) : n = l.length:=by
  obtain ⟨A1,c1,e,_⟩:=h.reads
  injection e
set_option maxHeartbeats 400000 in
theorem laws_markRam (base : Nat) (A : Option Addr) (c : Nat) (l : List Int) (n : Int) (w : World) (h : OwnB w base (.slice A l.length c) l) (hl : l.length ≤ 1048576) (h0 : 0 ≤ n) (h1 : n ≤ 90000000) :
    Calls Tryz.prog 25 #[.agg #[.slice A l.length c],.int .i64 n] w fun e w' => e = .returned (.int .i64 (n+l.length))∧OwnB w' base (.slice A l.length c) (mkB n l.length)∧w.grownBy w' (Value.slice A l.length c).ownBlock:=by
  have HB:=hR w;go_enter Tryz.func25,Tryz.ntmps25
  go_wp2_with (first | (go_at_call 71;((with_reducible refine (laws_markByteS base _ _ _ _ _ (h.alloc _) hl (by omega) (by omega)).mono ?_);rintro _ w1 ⟨rfl,HO,HG⟩;skip)))
  go_ret
  exact ⟨rfl,HO,(World.grownBy_alloc _ _ _).trans HG⟩
theorem laws_heldRam (A : Option Addr) (c m : Nat) (n : Int) (w : World) (h : Bs w A (mkB n m)) (hl : m ≤ 1048576) (h0 : 0 ≤ n) (h1 : n ≤ 90000000) :
    Calls Tryz.prog 75 #[.agg #[.slice A m c],.int .i64 n] w fun e w' => e = .returned (.int .i64 (n+m))∧Below w.heap.size w w':=by
  have HB:=hR w;go_enter Tryz.func75,Tryz.ntmps75
  go_wp2_with (first | (go_at_call 131;((with_reducible refine (laws_heldByteS _ _ _ _ _ (h.below (blw)) hl (by omega) (by omega)).mono ?_);rintro _ _ ⟨rfl,rfl⟩)))
  go_ret
  exact ⟨rfl,blw⟩
theorem fillN_rd (a : Int) (m l : List Int) (hl : ∀ i,0 ≤ rd l i∧rd l i < 256) (hm : ∀ i,0 ≤ rd m i∧rd m i < 256) (n : Nat) (i : Int) : 0 ≤ rd (fillN a m l n) i∧rd (fillN a m l n) i < 256:=by
  induction n with
  | zero => exact hl i
  | succ n ih =>
    have h1:=hm n
    simp only [fillN]
    unfold rd at *
    rw [List.getD_eq_getElem?_getD,List.getElem?_set]
    split
    · split
      · simpa using h1
      · simp
    · rw [← List.getD_eq_getElem?_getD];exact ih
theorem fill_rd (a : Int) (m l : List Int) (hl : ∀ i,0 ≤ rd l i∧rd l i < 256) (hm : ∀ i,0 ≤ rd m i∧rd m i < 256) (i : Int) : 0 ≤ rd (fill l a m) i∧rd (fill l a m) i < 256:=by
  unfold fill
  split
  · exact fillN_rd _ _ _ hl hm _ _
  · simp [rd]
theorem fill_le (l : List Int) (a : Int) (m : List Int) : (fill l a m).length ≤ l.length:=by
  unfold fill
  split
  · rw [fillN_len];exact Nat.le_refl _
  · simp
theorem rd_one {b : Int} (h0 : 0 ≤ b) (h1 : b < 256) (i : Int) : 0 ≤ rd [b] i∧rd [b] i < 256:=by
  rcases Nat.eq_zero_or_pos i.toNat with e | e
  · simp [rd,e];omega
  · obtain ⟨n,hn⟩ : ∃ n,i.toNat = n+1:=⟨i.toNat - 1,by omega⟩
    simp [rd,hn]
open Go.RowKit Go.Proofs.YtoncmhfmkfeolaaGreatDoorW.PrintWords
def Cpu.ok (x : Cpu) : Prop:=0 ≤ x.A∧x.A < 256∧0 ≤ x.X∧x.X < 256∧0 ≤ x.Y∧x.Y < 256∧0 ≤ x.S∧x.S < 256∧0 ≤ x.PC∧x.PC < 65536
theorem laws_toFlags (f : F6) (w : World) : Calls Tryz.prog 62 #[.agg #[.bool f.N,.bool f.V,.bool f.D,.bool f.I,.bool f.Z,.bool f.C]] w fun e w' => e = .returned (.agg #[.bool f.N,.bool f.V,.bool f.D,.bool f.I,.bool f.Z,.bool f.C])∧Below w.heap.size w w':=by
  have HB:=hR w;go_enter Tryz.func62,Tryz.ntmps62
  go_wp2
  (refine bodyPost_ret (v:=.agg #[.bool f.N,.bool f.V,.bool f.D,.bool f.I,.bool f.Z,.bool f.C]) (by (simp only [results,Tryz.results62];go_simp <;> (rfl))) rfl ?_)
  exact ⟨rfl,blw⟩
set_option maxHeartbeats 400000 in
theorem laws_toCpu (x : Cpu) (w : World) : Calls Tryz.prog 19 #[.agg #[.int .u8 x.A,.int .u8 x.X,.int .u8 x.Y,.int .u8 x.S,.int .u16 x.PC,.bool x.F.N,.bool x.F.V,.bool x.F.D,.bool x.F.I,.bool x.F.Z,.bool x.F.C]] w fun e w' => e = .returned (.agg #[.int .u8 x.A,.int .u8 x.X,.int .u8 x.Y,.int .u8 x.S,.int .u16 x.PC,.bool x.F.N,.bool x.F.V,.bool x.F.D,.bool x.F.I,.bool x.F.Z,.bool x.F.C])∧Below w.heap.size w w':=by
  have HB:=hR w;go_enter Tryz.func19,Tryz.ntmps19
  go_wp2_with fail
  refine (laws_toFlags x.F _).mono ?_
  rintro _ w1 ⟨rfl,hb⟩
  (have HB:=Aside0.mk (below_step (w:=w) blw hb);have hz1:=hb.size;obtain ⟨hcl1,hfr1,hlt1,_⟩:=bcell hb;(try simp only [sA,sC,sD] at hz1);(try simp only [sA,sC,sD] at hcl1 hfr1 hlt1);have hk1_0 : w.heap.size < w1.heap.size:=(by omega);have hk1_1 : w.heap.size+1 < w1.heap.size:=(by omega);have hk1_2 : w.heap.size+1+1 < w1.heap.size:=(by omega);have HB1:=hR w1;clear hb)
  go_wp2_with fail
  (refine bodyPost_ret (v:=.agg #[.int .u8 x.A,.int .u8 x.X,.int .u8 x.Y,.int .u8 x.S,.int .u16 x.PC,.bool x.F.N,.bool x.F.V,.bool x.F.D,.bool x.F.I,.bool x.F.Z,.bool x.F.C]) (by (simp only [results,Tryz.results19];go_simp <;> (rfl))) rfl ?_)
  exact ⟨rfl,blw⟩
open Go.RowKit Go.Proofs.YtoncmhfmkfeolaaGreatDoorW.PrintWords
theorem OwnC.lower {w : World} {base base' : Nat} {v : Value} {l : List Cyc} (h : OwnC w base v l) (hb : base' ≤ base) : OwnC w base' v l:=Kd.R_lower h hb
theorem OwnC.alloc {w : World} {base : Nat} {v : Value} {l : List Cyc} (h : OwnC w base v l) (o : Obj) : OwnC (w.alloc o) base v l:=h.below (below_alloc (Below.refl _ _) o)
theorem OwnC.drew {w : World} {base : Nat} {v : Value} {l : List Cyc} (h : OwnC w base v l) : OwnC w.drew base v l:=h.below (below_drew1 (Below.refl _ _))
theorem OwnC.drewN {w : World} {base : Nat} {v : Value} {l : List Cyc} (h : OwnC w base v l) (n : Nat) : OwnC (w.drewN n) base v l:=h.below (pw_below_drewN (Below.refl _ _) n)
theorem OwnC.set {w : World} {base : Nat} {v : Value} {l : List Cyc} (h : OwnC w base v l) {p : Addr} (hp : p.block < base) (u : Value) : OwnC (w.setCell p u) base v l :=
  Kd.R_mono (Kd.R_far (Kd.R_bound h) (fun k hk => by have:=hk.2.1;omega) u) (fun _ _ => trivial)
open Go.RowKit Go.Proofs.YtoncmhfmkfeolaaGreatDoorW.PrintWords
theorem kindI_b : ∀ c : Nat,c < 256 → 0 ≤ kindI c∧kindI c ≤ 12:=by decide +kernel
theorem mdI_b : ∀ c : Nat,c < 256 → -1 ≤ mdI c∧mdI c ≤ 12:=by decide +kernel
theorem kindSI : ∀ c : Nat,c < 256 → kindS c = kindI c:=by decide +kernel
theorem mdSI : ∀ c : Nat,c < 256 → mdS c = mdI c:=by decide +kernel
theorem nmSI : ∀ c : Nat,c < 256 → nmS c = nmL c:=by decide +kernel
theorem of_byte {p : Int → Prop} (h : ∀ c : Nat,c < 256 → p c) (code : Int) (h0 : 0 ≤ code) (h1 : code < 256) : p code:=by
  have:=h code.toNat (by omega)
  rwa [Int.toNat_of_nonneg h0] at this
def baseT (m : Int) : Int:=if m == 2 then 2 else if m == 3 then 3 else if m == 4 || m == 5 || m == 6 then 4 else if m == 7 || m == 8 then 5 else 6
def wideT (m : Int) : Bool:=m == 7 || m == 8 || m == 11
def placeT (k m : Int) (c : Bool) : Int:=baseT m+(if k == 2 && wideT m then b2i c - 1 else 0)+(if k == 4 then 2 else 0)
theorem mode_cases (m : Int) (h0 : -1 ≤ m) (h1 : m ≤ 12) : m = -1 ∨ m = 0 ∨ m = 1 ∨ m = 2 ∨ m = 3 ∨ m = 4 ∨ m = 5 ∨ m = 6 ∨ m = 7 ∨ m = 8 ∨ m = 9 ∨ m = 10 ∨ m = 11 ∨ m = 12:=by omega
def timeT (k m : Int) (c t : Bool) : Int :=
  if k == 1 then 2 else if k == 2 || k == 3 || k == 4 then placeT k m c else if k == 5 then (if t then 3+b2i c else 2) else if k == 6 then (if m == 9 then 5 else 3) else if k == 7 || k == 8 || k == 9 then 6 else if k == 10 then 7 else if k == 11 then 3 else if k == 12 then 4 else 0
def timeI (code : Int) (c t : Bool) : Int:=timeT (kindI code) (mdI code) c t
theorem kind_cases (k : Int) (h0 : 0 ≤ k) (h1 : k ≤ 12) : k = 0 ∨ k = 1 ∨ k = 2 ∨ k = 3 ∨ k = 4 ∨ k = 5 ∨ k = 6 ∨ k = 7 ∨ k = 8 ∨ k = 9 ∨ k = 10 ∨ k = 11 ∨ k = 12:=by omega
open Go.RowKit Go.Proofs.YtoncmhfmkfeolaaGreatDoorW.PrintWords
def holds (f : F6) (x : List UInt8) : Bool:=if x == [66,80,76] then !f.N else if x == [66,77,73] then f.N else if x == [66,86,67] then !f.V else if x == [66,86,83] then f.V else if x == [66,67,67] then !f.C else if x == [66,67,83] then f.C else if x == [66,78,69] then !f.Z else f.Z
theorem holds_cases (f : F6) (x : List UInt8) (P : List UInt8 → Bool → Prop) (h0 : P [66,80,76] (!f.N)) (h1 : P [66,77,73] f.N) (h2 : P [66,86,67] (!f.V)) (h3 : P [66,86,83] f.V) (h4 : P [66,67,67] (!f.C)) (h5 : P [66,67,83] f.C) (h6 : P [66,78,69] (!f.Z))
    (h7 : (x == [66,80,76]) = false → (x == [66,77,73]) = false → (x == [66,86,67]) = false → (x == [66,86,83]) = false → (x == [66,67,67]) = false → (x == [66,67,83]) = false → (x == [66,78,69]) = false → P x f.Z) : P x (holds f x):=by
  by_cases q0 : x = [66,80,76]
  · subst q0;exact h0
  by_cases q1 : x = [66,77,73]
  · subst q1;exact h1
  by_cases q2 : x = [66,86,67]
  · subst q2;exact h2
  by_cases q3 : x = [66,86,83]
  · subst q3;exact h3
  by_cases q4 : x = [66,67,67]
  · subst q4;exact h4
  by_cases q5 : x = [66,67,83]
  · subst q5;exact h5
  by_cases q6 : x = [66,78,69]
  · subst q6;exact h6
  have e : holds f x = f.Z:=by simp [holds,q0,q1,q2,q3,q4,q5,q6]
  rw [e]
  exact h7 (beq_eq_false_iff_ne.2 q0) (beq_eq_false_iff_ne.2 q1) (beq_eq_false_iff_ne.2 q2) (beq_eq_false_iff_ne.2 q3) (beq_eq_false_iff_ne.2 q4) (beq_eq_false_iff_ne.2 q5) (beq_eq_false_iff_ne.2 q6)
set_option maxHeartbeats 1000000 in
theorem spec_l06Holds (f : F6) (x : List UInt8) (w : World) : Calls Tryz.prog 170 #[.agg #[.bool f.N,.bool f.V,.bool f.D,.bool f.I,.bool f.Z,.bool f.C],.string ⟨x.toArray⟩] w fun e w' => e = .returned (.bool (holds f x))∧Below w.heap.size w w':=by
  refine holds_cases f x (fun x b => Calls Tryz.prog 170 #[.agg #[.bool f.N,.bool f.V,.bool f.D,.bool f.I,.bool f.Z,.bool f.C],.string ⟨x.toArray⟩] w fun e w' => e = .returned (.bool b)∧Below w.heap.size w w') ?_ ?_ ?_ ?_ ?_ ?_ ?_ ?_
  · have HB:=hR w;go_enter Tryz.func170,Tryz.ntmps170;go_wp2;go_ret;exact ⟨rfl,blw⟩
  · have HB:=hR w;go_enter Tryz.func170,Tryz.ntmps170;go_wp2;go_ret;exact ⟨rfl,blw⟩
  · have HB:=hR w;go_enter Tryz.func170,Tryz.ntmps170;go_wp2;go_ret;exact ⟨rfl,blw⟩
  · have HB:=hR w;go_enter Tryz.func170,Tryz.ntmps170;go_wp2;go_ret;exact ⟨rfl,blw⟩
  · have HB:=hR w;go_enter Tryz.func170,Tryz.ntmps170;go_wp2;go_ret;exact ⟨rfl,blw⟩
  · have HB:=hR w;go_enter Tryz.func170,Tryz.ntmps170;go_wp2;go_ret;exact ⟨rfl,blw⟩
  · have HB:=hR w;go_enter Tryz.func170,Tryz.ntmps170;go_wp2;go_ret;exact ⟨rfl,blw⟩
  · intro q0 q1 q2 q3 q4 q5 q6
    have HB:=hR w;go_enter Tryz.func170,Tryz.ntmps170;go_wp2;go_ret;exact ⟨rfl,blw⟩
set_option maxHeartbeats 1000000 in
theorem impl_isTaken (f : F6) (x : List UInt8) (w : World) : Calls Tryz.prog 190 #[.string ⟨x.toArray⟩,.agg #[.bool f.N,.bool f.V,.bool f.D,.bool f.I,.bool f.Z,.bool f.C]] w fun e w' => e = .returned (.bool (holds f x))∧Below w.heap.size w w':=by
  refine holds_cases f x (fun x b => Calls Tryz.prog 190 #[.string ⟨x.toArray⟩,.agg #[.bool f.N,.bool f.V,.bool f.D,.bool f.I,.bool f.Z,.bool f.C]] w fun e w' => e = .returned (.bool b)∧Below w.heap.size w w') ?_ ?_ ?_ ?_ ?_ ?_ ?_ ?_
  · have HB:=hR w;go_enter Tryz.func190,Tryz.ntmps190;go_wp2;go_ret;exact ⟨rfl,blw⟩
  · have HB:=hR w;go_enter Tryz.func190,Tryz.ntmps190;go_wp2;go_ret;exact ⟨rfl,blw⟩
  · have HB:=hR w;go_enter Tryz.func190,Tryz.ntmps190;go_wp2;go_ret;exact ⟨rfl,blw⟩
  · have HB:=hR w;go_enter Tryz.func190,Tryz.ntmps190;go_wp2;go_ret;exact ⟨rfl,blw⟩
  · have HB:=hR w;go_enter Tryz.func190,Tryz.ntmps190;go_wp2;go_ret;exact ⟨rfl,blw⟩
  · have HB:=hR w;go_enter Tryz.func190,Tryz.ntmps190;go_wp2;go_ret;exact ⟨rfl,blw⟩
  · have HB:=hR w;go_enter Tryz.func190,Tryz.ntmps190;go_wp2;go_ret;exact ⟨rfl,blw⟩
  · intro q0 q1 q2 q3 q4 q5 q6
    have HB:=hR w;go_enter Tryz.func190,Tryz.ntmps190;go_wp2;go_ret;exact ⟨rfl,blw⟩
def offs (b : Int) : Int:=if 128 ≤ b then b - 256 else b
theorem spec_l04Offset (b : Int) (w : World) (h0 : 0 ≤ b) (h1 : b < 256) : Calls Tryz.prog 171 #[.int .u8 b] w fun e w' => e = .returned (.int .i64 (offs b))∧w = w':=by
  have s1 : IntKind.i64.wrap (b - 256) = b - 256:=w64 (by omega)
  by_cases hb : 128 ≤ b
  · rw [show offs b = b - 256 from if_pos hb]
    have HB:=hR w;go_enter Tryz.func171,Tryz.ntmps171
    go_wp2
    go_ret
    exact ⟨rfl,rfl⟩
  · rw [show offs b = b from if_neg hb]
    have HB:=hR w;go_enter Tryz.func171,Tryz.ntmps171
    go_wp2
    go_ret
    exact ⟨rfl,rfl⟩
theorem spec_l06Index7 (c : Cpu) (w : World) (ho : c.ok) : Calls Tryz.prog 203 #[.agg #[.int .u8 c.A,.int .u8 c.X,.int .u8 c.Y,.int .u8 c.S,.int .u16 c.PC,.bool c.F.N,.bool c.F.V,.bool c.F.D,.bool c.F.I,.bool c.F.Z,.bool c.F.C],.int .i64 7] w fun e w' => e = .returned (.int .i64 c.X)∧Below w.heap.size w w':=by
  have e1 : IntKind.i64.wrap c.X = c.X:=w64 (by unfold Cpu.ok at ho;omega)
  have HB:=hR w;go_enter Tryz.func203,Tryz.ntmps203
  go_wp2
  go_ret
  exact ⟨rfl,blw⟩
theorem spec_l06Index8 (c : Cpu) (w : World) (ho : c.ok) : Calls Tryz.prog 203 #[.agg #[.int .u8 c.A,.int .u8 c.X,.int .u8 c.Y,.int .u8 c.S,.int .u16 c.PC,.bool c.F.N,.bool c.F.V,.bool c.F.D,.bool c.F.I,.bool c.F.Z,.bool c.F.C],.int .i64 8] w fun e w' => e = .returned (.int .i64 c.Y)∧Below w.heap.size w w':=by
  have e1 : IntKind.i64.wrap c.Y = c.Y:=w64 (by unfold Cpu.ok at ho;omega)
  have HB:=hR w;go_enter Tryz.func203,Tryz.ntmps203
  go_wp2
  go_ret
  exact ⟨rfl,blw⟩
theorem tgt (pc b : Int) (h0 : 0 ≤ b) (h1 : b < 256) (h2 : 0 ≤ pc) (h3 : pc < 65536) : IntKind.u16.wrap (IntKind.u16.wrap (pc+2)+IntKind.u16.wrap (IntKind.i16.wrap (IntKind.i8.wrap b))) = (pc+2+offs b) % 65536:=by
  unfold offs
  simp [IntKind.wrap,IntKind.bits,IntKind.signed]
  split <;> omega
theorem impl_target (pc b : Int) (w : World) (h0 : 0 ≤ b) (h1 : b < 256) (h2 : 0 ≤ pc) (h3 : pc < 65536) : Calls Tryz.prog 191 #[.int .u16 pc,.int .u8 b] w fun e w' => e = .returned (.int .u16 ((pc+2+offs b) % 65536))∧w = w':=by
  have HB:=hR w;go_enter Tryz.func191,Tryz.ntmps191
  go_wp2
  go_ret
  exact ⟨ret_of (congrArg (Value.int .u16) (tgt pc b h0 h1 h2 h3)),rfl⟩
open Go.RowKit Go.Proofs.YtoncmhfmkfeolaaGreatDoorW.PrintWords
def jams (l : List Int) (a : Int) : Bool:=ramSize l.length && (nmL (peek l a) == [])
set_option maxHeartbeats 1000000 in
theorem impl_Jams (A : Option Addr) (c : Nat) (l : List Int) (a : Int) (w : World) (h : Bs w A l) (h0 : 0 ≤ a) (h1 : a < 65536) (he : Env w) :
    Calls Tryz.prog 54 #[.agg #[.slice A l.length c],.int .u16 a] w fun e w' => e = .returned (.bool (jams l a))∧Below w.heap.size w w':=by
  obtain ⟨b,hb⟩ : ∃ b,ramSize l.length = b:=⟨_,rfl⟩
  cases b
  · rw [show jams l a = false from by simp [jams,hb]]
    have HB:=hR w;go_enter Tryz.func54,Tryz.ntmps54
    go_wp2_with fail
    refine (impl_RamOk _ _ _ _).mono ?_
    rintro _ w1 ⟨rfl,hb⟩
    (have HB:=Aside0.mk (below_step (w:=w) blw hb);have hz1:=hb.size;obtain ⟨hcl1,hfr1,hlt1,_⟩:=bcell hb;(try simp only [sA,sC,sD] at hz1);(try simp only [sA,sC,sD] at hcl1 hfr1 hlt1);have hk1_0 : w.heap.size < w1.heap.size:=(by omega);have HB1:=hR w1;clear hb)
    go_wp2_with fail
    go_ret
    exact ⟨rfl,blw⟩
  · have hp:=peek_b h a
    have hn:=fun W e => impl_NameOf (peek l a) W hp.1 hp.2 e
    unfold jams
    rw [hb,Bool.true_and]
    generalize nmL (peek l a) = x at hn ⊢
    by_cases hx : x = []
    · subst hx
      have HB:=hR w;go_enter Tryz.func54,Tryz.ntmps54
      go_wp2_with fail
      refine (impl_RamOk _ _ _ _).mono ?_
      rintro _ w1 ⟨rfl,hb⟩
      (have HB:=Aside0.mk (below_step (w:=w) blw hb);have hz1:=hb.size;obtain ⟨hcl1,hfr1,hlt1,_⟩:=bcell hb;(try simp only [sA,sC,sD] at hz1);(try simp only [sA,sC,sD] at hcl1 hfr1 hlt1);have hk1_0 : w.heap.size < w1.heap.size:=(by omega);have HB1:=hR w1;clear hb)
      go_wp2_with fail
      refine (impl_Peek _ _ _ a _ (h.below (blw)) h0 h1).mono ?_
      rintro _ w2 ⟨rfl,hb⟩
      (have HB:=Aside0.mk (below_step (w:=w) blw hb);have HB1:=Aside0.mk (below_step (w:=w1) blw hb);have hz2:=hb.size;obtain ⟨hcl2,hfr2,hlt2,_⟩:=bcell hb;(try simp only [sA,sC,sD] at hz2);(try simp only [sA,sC,sD] at hcl2 hfr2 hlt2);have hk2_0 : w.heap.size < w2.heap.size:=(by omega);have HB2:=hR w2;clear hb)
      go_wp2_with fail
      refine (hn _ (he.below HB.out)).mono ?_
      rintro _ w3 ⟨rfl,hb⟩
      (have HB:=Aside0.mk (below_step (w:=w) blw hb);have HB1:=Aside0.mk (below_step (w:=w1) blw hb);have HB2:=Aside0.mk (below_step (w:=w2) blw hb);have hz3:=hb.size;obtain ⟨hcl3,hfr3,hlt3,_⟩:=bcell hb;(try simp only [sA,sC,sD] at hz3);(try simp only [sA,sC,sD] at hcl3 hfr3 hlt3);have hk3_0 : w.heap.size < w3.heap.size:=(by omega);have HB3:=hR w3;clear hb)
      go_wp2_with fail
      go_ret
      exact ⟨rfl,blw⟩
    · have hx1 : (x == []) = false:=beq_eq_false_iff_ne.2 hx;have hx2 : x.isEmpty = false:=(by cases x with | nil => exact absurd rfl hx | cons a t => rfl)
      rw [hx1]
      have HB:=hR w;go_enter Tryz.func54,Tryz.ntmps54
      go_wp2_with fail
      refine (impl_RamOk _ _ _ _).mono ?_
      rintro _ w1 ⟨rfl,hb⟩
      (have HB:=Aside0.mk (below_step (w:=w) blw hb);have hz1:=hb.size;obtain ⟨hcl1,hfr1,hlt1,_⟩:=bcell hb;(try simp only [sA,sC,sD] at hz1);(try simp only [sA,sC,sD] at hcl1 hfr1 hlt1);have hk1_0 : w.heap.size < w1.heap.size:=(by omega);have HB1:=hR w1;clear hb)
      go_wp2_with fail
      refine (impl_Peek _ _ _ a _ (h.below (blw)) h0 h1).mono ?_
      rintro _ w2 ⟨rfl,hb⟩
      (have HB:=Aside0.mk (below_step (w:=w) blw hb);have HB1:=Aside0.mk (below_step (w:=w1) blw hb);have hz2:=hb.size;obtain ⟨hcl2,hfr2,hlt2,_⟩:=bcell hb;(try simp only [sA,sC,sD] at hz2);(try simp only [sA,sC,sD] at hcl2 hfr2 hlt2);have hk2_0 : w.heap.size < w2.heap.size:=(by omega);have HB2:=hR w2;clear hb)
      go_wp2_with fail
      refine (hn _ (he.below HB.out)).mono ?_
      rintro _ w3 ⟨rfl,hb⟩
      (have HB:=Aside0.mk (below_step (w:=w) blw hb);have HB1:=Aside0.mk (below_step (w:=w1) blw hb);have HB2:=Aside0.mk (below_step (w:=w2) blw hb);have hz3:=hb.size;obtain ⟨hcl3,hfr3,hlt3,_⟩:=bcell hb;(try simp only [sA,sC,sD] at hz3);(try simp only [sA,sC,sD] at hcl3 hfr3 hlt3);have hk3_0 : w.heap.size < w3.heap.size:=(by omega);have HB3:=hR w3;clear hb)
      go_wp2_with fail
      go_ret
      exact ⟨rfl,blw⟩
set_option maxHeartbeats 1000000 in
theorem spec_Jams (A : Option Addr) (c : Nat) (l : List Int) (a : Int) (w : World) (h : Bs w A l) (h0 : 0 ≤ a) (h1 : a < 65536) :
    Calls Tryz.prog 59 #[.agg #[.slice A l.length c],.int .u16 a] w fun e w' => e = .returned (.bool (jams l a))∧Below w.heap.size w w':=by
  obtain ⟨b,hb⟩ : ∃ b,ramSize l.length = b:=⟨_,rfl⟩
  cases b
  · rw [show jams l a = false from by simp [jams,hb]]
    have HB:=hR w;go_enter Tryz.func59,Tryz.ntmps59
    go_wp2_with fail
    refine (spec_RamOk _ _ _ _).mono ?_
    rintro _ w1 ⟨rfl,hb⟩
    (have HB:=Aside0.mk (below_step (w:=w) blw hb);have hz1:=hb.size;obtain ⟨hcl1,hfr1,hlt1,_⟩:=bcell hb;(try simp only [sA,sC,sD] at hz1);(try simp only [sA,sC,sD] at hcl1 hfr1 hlt1);have hk1_0 : w.heap.size < w1.heap.size:=(by omega);have HB1:=hR w1;clear hb)
    go_wp2_with fail
    go_ret
    exact ⟨rfl,blw⟩
  · have hp:=peek_b h a
    have hn:=fun W => spec_NameOf (peek l a) W hp.1 hp.2
    rw [of_byte (p:=fun c => nmS c = nmL c) nmSI (peek l a) hp.1 hp.2] at hn
    unfold jams
    rw [hb,Bool.true_and]
    generalize nmL (peek l a) = x at hn ⊢
    by_cases hx : x = []
    · subst hx
      have HB:=hR w;go_enter Tryz.func59,Tryz.ntmps59
      go_wp2_with fail
      refine (spec_RamOk _ _ _ _).mono ?_
      rintro _ w1 ⟨rfl,hb⟩
      (have HB:=Aside0.mk (below_step (w:=w) blw hb);have hz1:=hb.size;obtain ⟨hcl1,hfr1,hlt1,_⟩:=bcell hb;(try simp only [sA,sC,sD] at hz1);(try simp only [sA,sC,sD] at hcl1 hfr1 hlt1);have hk1_0 : w.heap.size < w1.heap.size:=(by omega);have HB1:=hR w1;clear hb)
      go_wp2_with fail
      refine (spec_Peek _ _ _ a _ (h.below (blw)) h0 h1).mono ?_
      rintro _ w2 ⟨rfl,hb⟩
      (have HB:=Aside0.mk (below_step (w:=w) blw hb);have HB1:=Aside0.mk (below_step (w:=w1) blw hb);have hz2:=hb.size;obtain ⟨hcl2,hfr2,hlt2,_⟩:=bcell hb;(try simp only [sA,sC,sD] at hz2);(try simp only [sA,sC,sD] at hcl2 hfr2 hlt2);have hk2_0 : w.heap.size < w2.heap.size:=(by omega);have HB2:=hR w2;clear hb)
      go_wp2_with fail
      refine (hn _).mono ?_
      rintro _ w3 ⟨rfl,hb⟩
      (have HB:=Aside0.mk (below_step (w:=w) blw hb);have HB1:=Aside0.mk (below_step (w:=w1) blw hb);have HB2:=Aside0.mk (below_step (w:=w2) blw hb);have hz3:=hb.size;obtain ⟨hcl3,hfr3,hlt3,_⟩:=bcell hb;(try simp only [sA,sC,sD] at hz3);(try simp only [sA,sC,sD] at hcl3 hfr3 hlt3);have hk3_0 : w.heap.size < w3.heap.size:=(by omega);have HB3:=hR w3;clear hb)
      go_wp2_with fail
      go_ret
      exact ⟨rfl,blw⟩
    · have hx1 : (x == []) = false:=beq_eq_false_iff_ne.2 hx;have hx2 : x.isEmpty = false:=(by cases x with | nil => exact absurd rfl hx | cons a t => rfl)
      rw [hx1]
      have HB:=hR w;go_enter Tryz.func59,Tryz.ntmps59
      go_wp2_with fail
      refine (spec_RamOk _ _ _ _).mono ?_
      rintro _ w1 ⟨rfl,hb⟩
      (have HB:=Aside0.mk (below_step (w:=w) blw hb);have hz1:=hb.size;obtain ⟨hcl1,hfr1,hlt1,_⟩:=bcell hb;(try simp only [sA,sC,sD] at hz1);(try simp only [sA,sC,sD] at hcl1 hfr1 hlt1);have hk1_0 : w.heap.size < w1.heap.size:=(by omega);have HB1:=hR w1;clear hb)
      go_wp2_with fail
      refine (spec_Peek _ _ _ a _ (h.below (blw)) h0 h1).mono ?_
      rintro _ w2 ⟨rfl,hb⟩
      (have HB:=Aside0.mk (below_step (w:=w) blw hb);have HB1:=Aside0.mk (below_step (w:=w1) blw hb);have hz2:=hb.size;obtain ⟨hcl2,hfr2,hlt2,_⟩:=bcell hb;(try simp only [sA,sC,sD] at hz2);(try simp only [sA,sC,sD] at hcl2 hfr2 hlt2);have hk2_0 : w.heap.size < w2.heap.size:=(by omega);have HB2:=hR w2;clear hb)
      go_wp2_with fail
      refine (hn _).mono ?_
      rintro _ w3 ⟨rfl,hb⟩
      (have HB:=Aside0.mk (below_step (w:=w) blw hb);have HB1:=Aside0.mk (below_step (w:=w1) blw hb);have HB2:=Aside0.mk (below_step (w:=w2) blw hb);have hz3:=hb.size;obtain ⟨hcl3,hfr3,hlt3,_⟩:=bcell hb;(try simp only [sA,sC,sD] at hz3);(try simp only [sA,sC,sD] at hcl3 hfr3 hlt3);have hk3_0 : w.heap.size < w3.heap.size:=(by omega);have HB3:=hR w3;clear hb)
      go_wp2_with fail
      go_ret
      exact ⟨rfl,blw⟩
end Go.Proofs.YtoncmhfmkfeolaaGreatDoor
