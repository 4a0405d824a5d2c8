/- The reference's Step. -/
import Derived.Test.YtoncmhfmkfeolaaGreatDoorSpecD
import Derived.Test.YtoncmhfmkfeolaaGreatDoorGI
import Derived.Test.YtoncmhfmkfeolaaGreatDoorGE
set_option linter.unusedVariables false
set_option linter.unusedSimpArgs false
namespace Go.Proofs.YtoncmhfmkfeolaaGreatDoor
open Go.RowKit Go.Proofs.YtoncmhfmkfeolaaGreatDoorW.PrintWords
def codeOkS (x : List UInt8) (k m : Int) : Bool:=x == [] ||
  ((!(k == 1) || ((m == 1) == accX x && sizeM m == 1)) && (!(k == 2) || chgX x == false) && (!(k == 4) || chgX x) && (!(k == 6) || x == [74,77,80]) && (!(k == 7) || x == [74,83,82]) && (!(k == 8) || x == [82,84,83]) && (!(k == 9) || x == [82,84,73]) && (!(k == 10) || x == [66,82,75]) && (!(k == 11) || ((x == [80,72,65] || x == [80,72,80]) && sizeM m == 1)) && (!(k == 12) || ((x == [80,76,65] || x == [80,76,80]) && sizeM m == 1)))
theorem codes_okS : ∀ c : Nat,c < 256 → codeOkS (nmL c) (kindI c) (mdI c) = true:=by decide +kernel
structure CodeS (x : List UInt8) (k m : Int) : Prop where
  k1 : k = 1 → (m == 1) = accX x∧sizeM m = 1
  k2 : k = 2 → chgX x = false
  k4 : k = 4 → chgX x = true
  k6 : k = 6 → x = [74,77,80]
  k7 : k = 7 → x = [74,83,82]
  k8 : k = 8 → x = [82,84,83]
  k9 : k = 9 → x = [82,84,73]
  k10 : k = 10 → x = [66,82,75]
  k11 : k = 11 → (x = [80,72,65] ∨ x = [80,72,80])∧sizeM m = 1
  k12 : k = 12 → (x = [80,76,65] ∨ x = [80,76,80])∧sizeM m = 1
theorem imp_of {p q : Bool} (h : (!p || q) = true) (hp : p = true) : q = true:=by cases p <;> simp_all
theorem codeOkS_said {x : List UInt8} {k m : Int} (h : codeOkS x k m = true) (hx : ¬ x = []) : CodeS x k m:=by
  have hx1 : (x == []) = false:=beq_eq_false_iff_ne.2 hx
  unfold codeOkS at h
  rw [hx1,Bool.false_or] at h
  simp only [Bool.and_eq_true] at h
  obtain ⟨⟨⟨⟨⟨⟨⟨⟨⟨h1,h2⟩,h4⟩,h6⟩,h7⟩,h8⟩,h9⟩,h10⟩,h11⟩,h12⟩:=h
  refine ⟨fun e => ?_,fun e => ?_,fun e => imp_of h4 (beq_iff_eq.2 e),fun e => beq_iff_eq.1 (imp_of h6 (beq_iff_eq.2 e)),fun e => beq_iff_eq.1 (imp_of h7 (beq_iff_eq.2 e)),fun e => beq_iff_eq.1 (imp_of h8 (beq_iff_eq.2 e)),fun e => beq_iff_eq.1 (imp_of h9 (beq_iff_eq.2 e)),fun e => beq_iff_eq.1 (imp_of h10 (beq_iff_eq.2 e)),fun e => ?_,fun e => ?_⟩
  · have:=imp_of h1 (beq_iff_eq.2 e);rw [Bool.and_eq_true,beq_iff_eq,beq_iff_eq] at this;exact this
  · exact beq_iff_eq.1 (imp_of h2 (beq_iff_eq.2 e))
  · have:=imp_of h11 (beq_iff_eq.2 e);rw [Bool.and_eq_true,Bool.or_eq_true,beq_iff_eq,beq_iff_eq,beq_iff_eq] at this;exact this
  · have:=imp_of h12 (beq_iff_eq.2 e);rw [Bool.and_eq_true,Bool.or_eq_true,beq_iff_eq,beq_iff_eq,beq_iff_eq] at this;exact this
structure SQ (w : World) (L : Lay) (v : Value) (Q : Nat) : Prop where
  b : w.heap[Q]? = some (.cells #[.slice none 0 0] 30 (0,0))
  a : Q ≠ L.g∧Q ≠ L.r∧some Q ≠ v.ownBlock
section
variable {w w' : World} {L : Lay} {v v' : Value} {Q : Nat}
theorem SQ.lt (s : SQ w L v Q) : Q < w.heap.size:=blk_lt s.b
theorem SQ.call (s : SQ w L v Q) (M : Mv w w' L v v') : SQ w' L v' Q:=⟨(M.blk Q s.lt s.a).trans s.b,(M.loc Q s.lt s.a).2.2.2⟩
theorem SQ.below (s : SQ w L v Q) (hb : Below w.heap.size w w') : SQ w' L v Q:=⟨(hb.block _ s.lt).trans s.b,s.a⟩
theorem SQ.drew (s : SQ w L v Q) : SQ w.drew L v Q:=s.below (below_drew1 (Below.refl _ _))
theorem SQ.cell (s : SQ w L v Q) : w.cell? ⟨Q,0,none⟩ = some (.slice none 0 0):=blk_cell s.b 0
theorem SQ.free (s : SQ w L v Q) (i : Nat) : w.frozen? ⟨Q,i,none⟩ = false:=blk_frozen s.b i
theorem SQ.far (s : SQ w L v Q) {p : Addr} (hp : Q ≠ p.block) (u : Value) : SQ (w.setCell p u) L v Q:=⟨(Below.heap_setCell w p u Q hp).trans s.b,s.a⟩
theorem SQ.setBox (s : SQ w L v Q) {g : Nat} (hg : Q ≠ g) (c : Cpu) : SQ (setBox w g c) L v Q:=((((((((((s.far hg _).far hg _).far hg _).far hg _).far hg _).far hg _).far hg _).far hg _).far hg _).far hg _).far hg _
end
theorem SW.other {w0 w : World} {L : Lay} {v0 v : Value} {B : Bus} {n P R : Nat} {c r : Cpu} (s : SW w0 w L v0 v B n P R c r) {Q : Nat} (hq : Q ≠ L.g∧Q ≠ L.r∧some Q ≠ v.ownBlock) (h0 : w0.heap.size ≤ Q) (hP : P ≠ Q) (hR : R ≠ Q) (i : Nat) (u : Value) : SW w0 (w.setCell ⟨Q,i,none⟩ u) L v0 v B n P R c r :=
  ⟨s.H.far Q i u hq,s.M.far h0 u,s.BP.other hP u,s.BR.other hR u,s.ap,s.ar,s.ne,s.sp,s.sr⟩
theorem start4 (w : World) {w1 : World} (c : Cpu) (u : Value) (hb : Below ((((w.alloc (.cells #[.int .u8 c.A,.int .u8 c.X,.int .u8 c.Y,.int .u8 c.S,.int .u16 c.PC,.bool c.F.N,.bool c.F.V,.bool c.F.D,.bool c.F.I,.bool c.F.Z,.bool c.F.C] 28)).alloc (.cells #[u] 30)).alloc (.cells #[.int .u8 cpu0.A,.int .u8 cpu0.X,.int .u8 cpu0.Y,.int .u8 cpu0.S,.int .u16 cpu0.PC,.bool cpu0.F.N,.bool cpu0.F.V,.bool cpu0.F.D,.bool cpu0.F.I,.bool cpu0.F.Z,.bool cpu0.F.C] 28)).alloc (.cells #[.slice none 0 0] 30)).heap.size ((((w.alloc (.cells #[.int .u8 c.A,.int .u8 c.X,.int .u8 c.Y,.int .u8 c.S,.int .u16 c.PC,.bool c.F.N,.bool c.F.V,.bool c.F.D,.bool c.F.I,.bool c.F.Z,.bool c.F.C] 28)).alloc (.cells #[u] 30)).alloc (.cells #[.int .u8 cpu0.A,.int .u8 cpu0.X,.int .u8 cpu0.Y,.int .u8 cpu0.S,.int .u16 cpu0.PC,.bool cpu0.F.N,.bool cpu0.F.V,.bool cpu0.F.D,.bool cpu0.F.I,.bool cpu0.F.Z,.bool cpu0.F.C] 28)).alloc (.cells #[.slice none 0 0] 30)) w1) :
    Box w1 w.heap.size c∧Box w1 (w.heap.size+1+1) cpu0∧w1.heap[w.heap.size+1+1+1]? = some (.cells #[.slice none 0 0] 30 (0,0)):=by
  refine ⟨((((Box.new w c).below (below_alloc (Below.refl _ _) _)).below (below_alloc (Below.refl _ _) _)).below (below_alloc (Below.refl _ _) _)).below hb,?_,?_⟩
  · have:=(Box.new ((w.alloc (.cells #[.int .u8 c.A,.int .u8 c.X,.int .u8 c.Y,.int .u8 c.S,.int .u16 c.PC,.bool c.F.N,.bool c.F.V,.bool c.F.D,.bool c.F.I,.bool c.F.Z,.bool c.F.C] 28)).alloc (.cells #[u] 30)) cpu0).below (below_alloc (Below.refl _ _) (.cells #[.slice none 0 0] 30))
    rw [World.size_alloc,World.size_alloc] at this
    exact this.below hb
  · have:=alloc_blk (((w.alloc (.cells #[.int .u8 c.A,.int .u8 c.X,.int .u8 c.Y,.int .u8 c.S,.int .u16 c.PC,.bool c.F.N,.bool c.F.V,.bool c.F.D,.bool c.F.I,.bool c.F.Z,.bool c.F.C] 28)).alloc (.cells #[u] 30)).alloc (.cells #[.int .u8 cpu0.A,.int .u8 cpu0.X,.int .u8 cpu0.Y,.int .u8 cpu0.S,.int .u16 cpu0.PC,.bool cpu0.F.N,.bool cpu0.F.V,.bool cpu0.F.D,.bool cpu0.F.I,.bool cpu0.F.Z,.bool cpu0.F.C] 28)) (.cells #[.slice none 0 0] 30)
    rw [World.size_alloc,World.size_alloc,World.size_alloc] at this
    exact (hb.block _ (blk_lt this)).trans this
set_option maxRecDepth 20000 in
set_option maxHeartbeats 4000000 in
theorem spec_StepA (c : Cpu) (A : Option Addr) (d : Nat) (l : List Int) (w : World) (hc : c.ok) (h : Bs w A l) (hq : ramSize l.length = true) (hj : jams l c.PC = false) (hcase : kindI (peek l c.PC) < 6) :
    Calls Tryz.prog 60 #[.agg #[.int .u8 c.A,.int .u8 c.X,.int .u8 c.Y,.int .u8 c.S,.int .u16 c.PC,.bool c.F.N,.bool c.F.V,.bool c.F.D,.bool c.F.I,.bool c.F.Z,.bool c.F.C],.agg #[.slice A l.length d]] w fun e w' => ∃ A1 c1 B1 d1,e = .returned (.tuple #[.agg #[.int .u8 (step c l).c.A,.int .u8 (step c l).c.X,.int .u8 (step c l).c.Y,.int .u8 (step c l).c.S,.int .u16 (step c l).c.PC,.bool (step c l).c.F.N,.bool (step c l).c.F.V,.bool (step c l).c.F.D,.bool (step c l).c.F.I,.bool (step c l).c.F.Z,.bool (step c l).c.F.C],.agg #[.slice A1 (step c l).m.length c1],.slice B1 (step c l).t.length d1]) ∧
      OwnB w' w.heap.size (.slice A1 (step c l).m.length c1) (step c l).m∧OwnC w' w.heap.size (.slice B1 (step c l).t.length d1) (step c l).t∧Below w.heap.size w w':=by
  have hs:=ramSize_le hq
  have hc0:=hc
  obtain ⟨a0,a1,x0,x1,y0,y1,s0',s1',p0,p1⟩:=hc0
  have hn : ¬ nmL (peek l c.PC) = []:=by
    intro hx
    simp [jams,hq,hx] at hj
  have e : step c l = ⟨stepC c ⟨l,[]⟩,(stepB c ⟨l,[]⟩).m,(stepB c ⟨l,[]⟩).t⟩:=by simp [step,hq,hj]
  obtain ⟨C,hC⟩ : ∃ x,stepC c ⟨l,[]⟩ = x:=⟨_,rfl⟩
  obtain ⟨D,hD⟩ : ∃ x,stepB c ⟨l,[]⟩ = x:=⟨_,rfl⟩
  rw [e,hC,hD]
  clear e
  have hjm:=fun A d W hw => spec_Jams A d l c.PC W hw p0 p1
  rw [hj] at hjm
  clear hj
  have pk:=peek_of h.b
  obtain ⟨k0,k1⟩:=pk c.PC
  unfold stepC at hC
  unfold stepB at hD
  have HB:=hR w;go_enter Tryz.func60,Tryz.ntmps60
  go_wp2_with fail
  refine (spec_RamOk _ _ _ _).mono ?_
  rintro _ w1 ⟨rfl,hb⟩
  obtain ⟨BP1,BR1,BQ1⟩:=start4 w c _ hb
  (have HB:=Aside0.mk (below_step (w:=w) blw hb);have hz1:=hb.size;obtain ⟨hcl1,hfr1,hlt1,_⟩:=bcell hb;(try simp only [sA,sC,sD] at hz1);(try simp only [sA,sC,sD] at hcl1 hfr1 hlt1);have hk1_0 : w.heap.size < w1.heap.size:=(by omega);have hk1_1 : w.heap.size+1 < w1.heap.size:=(by omega);have hk1_2 : w.heap.size+1+1 < w1.heap.size:=(by omega);have hk1_3 : w.heap.size+1+1+1 < w1.heap.size:=(by omega);have HB1:=hR w1;clear hb)
  go_wp2_with (first | ((with_reducible refine gate_dst (N:=15) rfl ?_);refine Kd.R_lit (Kd.int .u8) w1.heap.size 5 ?hg (N:=15) ?hd (xs:=([] : List Int)) (inner:=[]) (ok:=fun _ => True) (okp:=fun _ => True) ?hr ?hp (fun _ hk => hk) trivial (Below.refl _ _) (Nat.le_refl _) (by simp) ?_;(case hd => rfl);(case hg => rfl);(case hr => first | (go_simp;done) | (go_simp;rfl));(case hp => exact (Reps.none _ _));intro v1 w2 ho hb hg1 hn1;have HA:=Aside0.mk ho;clear ho hg1 hn1;have HB:=Aside0.mk (below_step (w:=w) blw hb);have HB1:=Aside0.mk (below_step (w:=w1) blw hb);have hz2:=hb.size;obtain ⟨hcl2,hfr2,hlt2,_⟩:=bcell hb;(try simp only [sA,sC,sD] at hz2);(try simp only [sA,sC,sD] at hcl2 hfr2 hlt2);have hk2_0 : w.heap.size < w2.heap.size:=(by omega);have hk2_1 : w.heap.size+1 < w2.heap.size:=(by omega);have hk2_2 : w.heap.size+1+1 < w2.heap.size:=(by omega);have hk2_3 : w.heap.size+1+1+1 < w2.heap.size:=(by omega);have HB2:=hR w2;clear hb) | (at_builtin;refine Kd.R_append_row (Value.int .u8) (0 : Int) (h1:=fun _ => rfl) w1.heap.size rfl _ _ 22 5 (.int .u8 0) 1 rfl Tryz.underlying22 infoU8 rfl (by decide) _ [] l _ _ _ (fun _ => True) rfl rfl (fun _ _ => trivial) ?a1 ?a2 (Below.refl _ _) ?a3 ?a4 ?_;(case a1 => exact HA.out);(case a2 => exact (Kd.C_below h.c HB.out));(case a3 => omega);(case a4 => simp;omega);intro v2 w3 ho2 hb2 hg2 hat2;rw [List.nil_append] at ho2;have hb : Below w1.heap.size w1 w3:=Below.trans (blw) hb2;clear hb2 hg2 hat2;(have HB:=Aside0.mk (below_step (w:=w) blw hb);have HB1:=Aside0.mk (below_step (w:=w1) blw hb);have hz3:=hb.size;obtain ⟨hcl3,hfr3,hlt3,_⟩:=bcell hb;(try simp only [sA,sC,sD] at hz3);(try simp only [sA,sC,sD] at hcl3 hfr3 hlt3);have hk3_0 : w.heap.size < w3.heap.size:=(by omega);have hk3_1 : w.heap.size+1 < w3.heap.size:=(by omega);have hk3_2 : w.heap.size+1+1 < w3.heap.size:=(by omega);have hk3_3 : w.heap.size+1+1+1 < w3.heap.size:=(by omega);have HB3:=hR w3;clear hb);have HO:=Aside0.mk (show OwnB _ _ _ _ from ho2);clear ho2;obtain ⟨A1,c1,e1,_,_⟩:=Kd.R_reads HO.out;subst e1;obtain ⟨r,cap,eo,gb,gl,cl,HCl⟩:=Kd.R_form HO.out (by omega);injection eo with ea en ec;subst ea ec;clear HCl en;have rb:=Kd.R_base HO.out r rfl;have H0:=HoldB.begin w3 w.heap.size r c1 l (OwnB.lower HO.out (by omega)) (by omega) hq h.b))
  refine Calls.mono (hjm _ _ _ (h.below (blw))) ?_
  rintro _ w4 ⟨rfl,hb⟩
  have H4:=H0.below hb
  (have HB:=Aside0.mk (below_step (w:=w) blw hb);have HB1:=Aside0.mk (below_step (w:=w1) blw hb);have hz4:=hb.size;obtain ⟨hcl4,hfr4,hlt4,_⟩:=bcell hb;(try simp only [sA,sC,sD] at hz4);(try simp only [sA,sC,sD] at hcl4 hfr4 hlt4);have hk4_0 : w.heap.size < w4.heap.size:=(by omega);have hk4_1 : w.heap.size+1 < w4.heap.size:=(by omega);have hk4_2 : w.heap.size+1+1 < w4.heap.size:=(by omega);have hk4_3 : w.heap.size+1+1+1 < w4.heap.size:=(by omega);have HB4:=hR w4;clear hb)
  have s4 : SW w w4 ⟨w.heap.size,w3.heap.size,r,c1⟩ (.slice none 0 0) (.slice none 0 0) ⟨l,[]⟩ 0 w.heap.size (w.heap.size+1+1) c cpu0 :=
    ⟨H4,Mv.of_below HB.out (Nat.le_refl _) _,BP1.keep (HB1.out.block _ BP1.lt),BR1.keep (HB1.out.block _ BR1.lt),⟨by simp only [];omega,by simp only [];omega,by simp [Value.ownBlock]⟩,⟨by simp only [];omega,by simp only [];omega,by simp [Value.ownBlock]⟩,by omega,Nat.le_refl _,by omega⟩
  have q4 : SQ w4 ⟨w.heap.size,w3.heap.size,r,c1⟩ (.slice none 0 0) (w.heap.size+1+1+1):=⟨(HB1.out.block _ (blk_lt BQ1)).trans BQ1,⟨by simp only [];omega,by simp only [];omega,by simp [Value.ownBlock]⟩⟩
  clear BP1 BR1 BQ1 H0 H4 HO HB HB1
  obtain ⟨code,hcode⟩ : ∃ code,peek l c.PC = code:=⟨_,rfl⟩
  rw [hcode] at hn k0 k1 hC hD hcase
  obtain ⟨e0,e1,e2,e3,e4,e5,e6,e7,e8,e9,e10,u0,u1,u2,u3,u4,u5,u6,u7,u8,u9,u10,fp,fr,lp,lr⟩:=s4.facts
  have hqc:=q4.cell;have hqf:=q4.free;have hql:=q4.lt
  go_wp2_with fail
  refine Calls.mono (spec_rd _ c.PC l ⟨l,[]⟩ rfl (by omega) (L:=⟨w.heap.size,w3.heap.size,r,c1⟩) s4.H (by omega)) ?_;rintro _ w5 ⟨rfl,v5,H5,M5⟩;have s5:=s4.call H5 M5;have q5:=q4.call M5;clear H5 M5;clear e0 e1 e2 e3 e4 e5 e6 e7 e8 e9 e10 u0 u1 u2 u3 u4 u5 u6 u7 u8 u9 u10 fp fr lp lr;obtain ⟨e0,e1,e2,e3,e4,e5,e6,e7,e8,e9,e10,u0,u1,u2,u3,u4,u5,u6,u7,u8,u9,u10,fp,fr,lp,lr⟩:=s5.facts;clear hqc hqf hql;have hqc:=q5.cell;have hqf:=q5.free;have hql:=q5.lt
  have hkd:=fun W => spec_KindOf code W k0 k1
  have hnd:=fun W => spec_NameOf code W k0 k1
  have hmd:=fun W => spec_ModeOf code W k0 k1
  have hsd:=fun W => spec_SizeOf code W k0 k1
  rw [of_byte (p:=fun c => kindS c = kindI c) kindSI code k0 k1] at hkd
  rw [of_byte (p:=fun c => nmS c = nmL c) nmSI code k0 k1] at hnd
  rw [of_byte (p:=fun c => mdS c = mdI c) mdSI code k0 k1] at hmd hsd
  have hok1:=codeOk_said (of_byte (p:=fun c => codeOk (nmL c) (kindI c) (mdI c) = true) codes_ok code k0 k1) hn
  have hok2:=codeOkS_said (of_byte (p:=fun c => codeOkS (nmL c) (kindI c) (mdI c) = true) codes_okS code k0 k1) hn
  unfold stpOf at hC
  unfold stpBus at hD
  generalize kindI code = k at *
  generalize mdI code = m at *
  generalize nmL code = x at *
  obtain ⟨⟨kk0,kk1⟩,hq2,hq3⟩:=hok1
  obtain ⟨B,hB⟩ : ∃ B,(⟨l,[]⟩ : Bus).rd c.PC = B:=⟨_,rfl⟩
  have hBm : B.m = l:=by rw [← hB];rfl
  rw [hB] at s5 hC hD
  clear hB
  have pk:=peek_of s5.H.peeks
  obtain ⟨z0,z1⟩:=pk ((c.PC+1) % 65536)
  have HC:=Aside0.mk hC
  have HD:=Aside0.mk hD
  have HBm:=Aside0.mk hBm
  clear hC hD hBm
  go_wp2_with fail
  refine Calls.mono (hkd _) ?_;rintro _ w6 ⟨rfl,hb⟩;have s6:=s5.below hb;have q6:=q5.below hb;clear hb;clear e0 e1 e2 e3 e4 e5 e6 e7 e8 e9 e10 u0 u1 u2 u3 u4 u5 u6 u7 u8 u9 u10 fp fr lp lr;obtain ⟨e0,e1,e2,e3,e4,e5,e6,e7,e8,e9,e10,u0,u1,u2,u3,u4,u5,u6,u7,u8,u9,u10,fp,fr,lp,lr⟩:=s6.facts;clear hqc hqf hql;have hqc:=q6.cell;have hqf:=q6.free;have hql:=q6.lt
  have hkd0:=hkd
  clear hkd
  have DS : DataSaid code k m x:=⟨hnd,hmd,hkd0,hsd⟩
  have hk : k = 1 ∨ k = 5 ∨ (k = 2 ∨ k = 3 ∨ k = 4):=by omega
  clear hcase
  rcases hk with rfl | rfl | hk
  · obtain ⟨hm1,hsz⟩:=hok2.k1 rfl
    have hC : (impT x c).fw 1 = C:=by rw [← HC.out,stpC_1,hsz]
    have hD : lo1 c B = D:=HD.out
    obtain ⟨I,hI⟩ : ∃ I,impT x c = I:=⟨_,rfl⟩
    have him:=fun W => spec_l06Imp x c m W hm1 hc
    rw [hI] at him hC
    have hw : IntKind.u16.wrap (I.PC+1) = (I.PC+1) % 65536:=IntKind.wrap_u16 _
    clear hm1 hI
    go_wp2_with fail
    refine Calls.mono (spec_rd _ ((c.PC+1) % 65536) B.m B rfl (by omega) (L:=⟨w.heap.size,w3.heap.size,r,c1⟩) s6.H (by omega)) ?_;rintro _ w7 ⟨rfl,v7,H7,M7⟩;have s7:=s6.call H7 M7;have q7:=q6.call M7;clear H7 M7;clear e0 e1 e2 e3 e4 e5 e6 e7 e8 e9 e10 u0 u1 u2 u3 u4 u5 u6 u7 u8 u9 u10 fp fr lp lr;obtain ⟨e0,e1,e2,e3,e4,e5,e6,e7,e8,e9,e10,u0,u1,u2,u3,u4,u5,u6,u7,u8,u9,u10,fp,fr,lp,lr⟩:=s7.facts;clear hqc hqf hql;have hqc:=q7.cell;have hqf:=q7.free;have hql:=q7.lt
    rw [show B.rd ((c.PC+1) % 65536) = D from hD] at s7
    go_wp2_with fail
    go_region_with (first | (go_at_call 121;((with_reducible refine (hnd _).mono ?_);rintro _ w8 ⟨rfl,hb⟩;have s8:=(SW.drew s7).below hb;have q8:=(SQ.drew q7).below hb;clear hb;clear e0 e1 e2 e3 e4 e5 e6 e7 e8 e9 e10 u0 u1 u2 u3 u4 u5 u6 u7 u8 u9 u10 fp fr lp lr;obtain ⟨e0,e1,e2,e3,e4,e5,e6,e7,e8,e9,e10,u0,u1,u2,u3,u4,u5,u6,u7,u8,u9,u10,fp,fr,lp,lr⟩:=s8.facts;clear hqc hqf hql;have hqc:=q8.cell;have hqf:=q8.free;have hql:=q8.lt)) | (go_at_call 125;((with_reducible refine (hmd _).mono ?_);rintro _ w9 ⟨rfl,hb⟩;have s9:=s8.below hb;have q9:=q8.below hb;clear hb;clear e0 e1 e2 e3 e4 e5 e6 e7 e8 e9 e10 u0 u1 u2 u3 u4 u5 u6 u7 u8 u9 u10 fp fr lp lr;obtain ⟨e0,e1,e2,e3,e4,e5,e6,e7,e8,e9,e10,u0,u1,u2,u3,u4,u5,u6,u7,u8,u9,u10,fp,fr,lp,lr⟩:=s9.facts;clear hqc hqf hql;have hqc:=q9.cell;have hqf:=q9.free;have hql:=q9.lt)) | (go_at_call 124;((with_reducible refine (him _).mono ?_);rintro _ w10 ⟨rfl,hb⟩;have s10:=s9.below hb;have q10:=q9.below hb;clear hb;clear e0 e1 e2 e3 e4 e5 e6 e7 e8 e9 e10 u0 u1 u2 u3 u4 u5 u6 u7 u8 u9 u10 fp fr lp lr;obtain ⟨e0,e1,e2,e3,e4,e5,e6,e7,e8,e9,e10,u0,u1,u2,u3,u4,u5,u6,u7,u8,u9,u10,fp,fr,lp,lr⟩:=s10.facts;clear hqc hqf hql;have hqc:=q10.cell;have hqf:=q10.free;have hql:=q10.lt)))
    all_goals
      rw [show (((((((((((w10.setCell ⟨w.heap.size,0,none⟩ (.int .u8 I.A)).setCell ⟨w.heap.size,1,none⟩ (.int .u8 I.X)).setCell ⟨w.heap.size,2,none⟩ (.int .u8 I.Y)).setCell ⟨w.heap.size,3,none⟩ (.int .u8 I.S)).setCell ⟨w.heap.size,4,none⟩ (.int .u16 I.PC)).setCell ⟨w.heap.size,5,none⟩ (.bool I.F.N)).setCell ⟨w.heap.size,6,none⟩ (.bool I.F.V)).setCell ⟨w.heap.size,7,none⟩ (.bool I.F.D)).setCell ⟨w.heap.size,8,none⟩ (.bool I.F.I)).setCell ⟨w.heap.size,9,none⟩ (.bool I.F.Z)).setCell ⟨w.heap.size,10,none⟩ (.bool I.F.C)) = setBox w10 w.heap.size I from rfl]
      have s11:=SW.allP s10 I
      have q11:=SQ.setBox q10 (g:=w.heap.size) (by omega) I
      generalize setBox w10 w.heap.size I = w11 at s11 q11 ⊢
      clear e0 e1 e2 e3 e4 e5 e6 e7 e8 e9 e10 u0 u1 u2 u3 u4 u5 u6 u7 u8 u9 u10 fp fr lp lr;obtain ⟨e0,e1,e2,e3,e4,e5,e6,e7,e8,e9,e10,u0,u1,u2,u3,u4,u5,u6,u7,u8,u9,u10,fp,fr,lp,lr⟩:=s11.facts
      clear hqc hqf hql;have hqc:=q11.cell;have hqf:=q11.free;have hql:=q11.lt
      go_wp2_with fail
      have s12:=s11.setPC ((I.PC+1) % 65536)
      have q12:=SQ.far q11 (p:=⟨w.heap.size,4,none⟩) (by simp only [];omega) (.int .u16 ((I.PC+1) % 65536))
      generalize w11.setCell ⟨w.heap.size,4,none⟩ (.int .u16 ((I.PC+1) % 65536)) = w12 at s12 q12 ⊢
      subst hC
      have m0 : w12.cell? ⟨w3.heap.size,0,none⟩ = some (.slice (some ⟨r,0,none⟩) D.m.length c1):=HoldB.mem s12.H;have hlv:=Hold.log s12.H;obtain ⟨A9,d9,ev9,_,_⟩:=Kd.R_reads hlv;have m1:=HoldB.log s12.H;rw [ev9] at m1;have m1 : w12.cell? ⟨w3.heap.size,1,none⟩ = some (.slice A9 D.t.length d9):=m1;have mlt : w3.heap.size < w12.heap.size:=HoldB.lt s12.H;clear e0 e1 e2 e3 e4 e5 e6 e7 e8 e9 e10 u0 u1 u2 u3 u4 u5 u6 u7 u8 u9 u10 fp fr lp lr;obtain ⟨e0,e1,e2,e3,e4,e5,e6,e7,e8,e9,e10,u0,u1,u2,u3,u4,u5,u6,u7,u8,u9,u10,fp,fr,lp,lr⟩:=s12.facts;clear hqc hqf hql;have hqc:=q12.cell;have hqf:=q12.free;have hql:=q12.lt;have sf:=SW.drew (SW.other (SW.fin s12 (I.fw 1)) q12.a (by omega) (by omega) (by omega) 0 (.slice (some ⟨r,0,none⟩) D.m.length c1));go_region;go_wp2_with fail;(refine bodyPost_ret (v:=.tuple #[.agg #[.int .u8 ((I.fw 1)).A,.int .u8 ((I.fw 1)).X,.int .u8 ((I.fw 1)).Y,.int .u8 ((I.fw 1)).S,.int .u16 ((I.fw 1)).PC,.bool ((I.fw 1)).F.N,.bool ((I.fw 1)).F.V,.bool ((I.fw 1)).F.D,.bool ((I.fw 1)).F.I,.bool ((I.fw 1)).F.Z,.bool ((I.fw 1)).F.C],.agg #[.slice (some ⟨r,0,none⟩) D.m.length c1],.slice A9 D.t.length d9]) (by (simp only [results,Tryz.results60];go_simp <;> ((first | rfl | (simp [Cpu.fw];done))))) rfl ?_);exact ⟨_,_,_,_,rfl,Hold.mem sf.H,by rw [← ev9];exact Hold.log sf.H,sf.M.below⟩
  · have hC : braC c B x = C:=HC.out
    have hD : braB c B x = D:=HD.out
    have hgo:=fun {w : World} {L : Lay} {v : Value} {n : Nat} (h : HoldB w L v B n) (hn : n ≤ 800000) => spec_l06Branch x h hn hc
    rw [hC,hD] at hgo
    clear hC hD hmd hsd
    go_wp2_with fail
    go_region_with (first | (go_at_call 121;((with_reducible refine (hnd _).mono ?_);rintro _ w8 ⟨rfl,hb⟩;have s8:=(SW.drew s6).below hb;have q8:=(SQ.drew q6).below hb;clear hb;clear e0 e1 e2 e3 e4 e5 e6 e7 e8 e9 e10 u0 u1 u2 u3 u4 u5 u6 u7 u8 u9 u10 fp fr lp lr;obtain ⟨e0,e1,e2,e3,e4,e5,e6,e7,e8,e9,e10,u0,u1,u2,u3,u4,u5,u6,u7,u8,u9,u10,fp,fr,lp,lr⟩:=s8.facts;clear hqc hqf hql;have hqc:=q8.cell;have hqf:=q8.free;have hql:=q8.lt)) | (go_at_call 126;((with_reducible refine Calls.mono (hgo (L:=⟨w.heap.size,w3.heap.size,r,c1⟩) (SW.H s8) (by omega)) ?_);rintro _ w10 ⟨rfl,v10,H10,M10⟩;have s10:=s8.call H10 M10;have q10:=q8.call M10;clear H10 M10;clear e0 e1 e2 e3 e4 e5 e6 e7 e8 e9 e10 u0 u1 u2 u3 u4 u5 u6 u7 u8 u9 u10 fp fr lp lr;obtain ⟨e0,e1,e2,e3,e4,e5,e6,e7,e8,e9,e10,u0,u1,u2,u3,u4,u5,u6,u7,u8,u9,u10,fp,fr,lp,lr⟩:=s10.facts;clear hqc hqf hql;have hqc:=q10.cell;have hqf:=q10.free;have hql:=q10.lt)))
    all_goals
      rw [show (((((((((((w10.setCell ⟨w.heap.size,0,none⟩ (.int .u8 C.A)).setCell ⟨w.heap.size,1,none⟩ (.int .u8 C.X)).setCell ⟨w.heap.size,2,none⟩ (.int .u8 C.Y)).setCell ⟨w.heap.size,3,none⟩ (.int .u8 C.S)).setCell ⟨w.heap.size,4,none⟩ (.int .u16 C.PC)).setCell ⟨w.heap.size,5,none⟩ (.bool C.F.N)).setCell ⟨w.heap.size,6,none⟩ (.bool C.F.V)).setCell ⟨w.heap.size,7,none⟩ (.bool C.F.D)).setCell ⟨w.heap.size,8,none⟩ (.bool C.F.I)).setCell ⟨w.heap.size,9,none⟩ (.bool C.F.Z)).setCell ⟨w.heap.size,10,none⟩ (.bool C.F.C)) = setBox w10 w.heap.size C from rfl]
      have s11:=SW.allP s10 C
      have q11:=SQ.setBox q10 (g:=w.heap.size) (by omega) C
      generalize setBox w10 w.heap.size C = w11 at s11 q11 ⊢
      clear e0 e1 e2 e3 e4 e5 e6 e7 e8 e9 e10 u0 u1 u2 u3 u4 u5 u6 u7 u8 u9 u10 fp fr lp lr;obtain ⟨e0,e1,e2,e3,e4,e5,e6,e7,e8,e9,e10,u0,u1,u2,u3,u4,u5,u6,u7,u8,u9,u10,fp,fr,lp,lr⟩:=s11.facts
      clear hqc hqf hql;have hqc:=q11.cell;have hqf:=q11.free;have hql:=q11.lt
      go_wp2_with fail
      have m0 : w11.cell? ⟨w3.heap.size,0,none⟩ = some (.slice (some ⟨r,0,none⟩) D.m.length c1):=HoldB.mem s11.H;have hlv:=Hold.log s11.H;obtain ⟨A9,d9,ev9,_,_⟩:=Kd.R_reads hlv;have m1:=HoldB.log s11.H;rw [ev9] at m1;have m1 : w11.cell? ⟨w3.heap.size,1,none⟩ = some (.slice A9 D.t.length d9):=m1;have mlt : w3.heap.size < w11.heap.size:=HoldB.lt s11.H;clear e0 e1 e2 e3 e4 e5 e6 e7 e8 e9 e10 u0 u1 u2 u3 u4 u5 u6 u7 u8 u9 u10 fp fr lp lr;obtain ⟨e0,e1,e2,e3,e4,e5,e6,e7,e8,e9,e10,u0,u1,u2,u3,u4,u5,u6,u7,u8,u9,u10,fp,fr,lp,lr⟩:=s11.facts;clear hqc hqf hql;have hqc:=q11.cell;have hqf:=q11.free;have hql:=q11.lt;have sf:=SW.drew (SW.other (SW.fin s11 C) q11.a (by omega) (by omega) (by omega) 0 (.slice (some ⟨r,0,none⟩) D.m.length c1));go_region;go_wp2_with fail;(refine bodyPost_ret (v:=.tuple #[.agg #[.int .u8 (C).A,.int .u8 (C).X,.int .u8 (C).Y,.int .u8 (C).S,.int .u16 (C).PC,.bool (C).F.N,.bool (C).F.V,.bool (C).F.D,.bool (C).F.I,.bool (C).F.Z,.bool (C).F.C],.agg #[.slice (some ⟨r,0,none⟩) D.m.length c1],.slice A9 D.t.length d9]) (by (simp only [results,Tryz.results60];go_simp <;> ((first | rfl | (simp [Cpu.fw];done))))) rfl ?_);exact ⟨_,_,_,_,rfl,Hold.mem sf.H,by rw [← ev9];exact Hold.log sf.H,sf.M.below⟩
  · have hC : (opdC k m x c B).fw (sizeM m) = C:=by rw [← HC.out,stpC_opd _ _ _ _ _ _ hk]
    have hD : opdB k m x c B = D:=by rw [← HD.out,stpB_opd _ _ _ _ _ hk]
    have hgo:=fun {w : World} {L : Lay} {v : Value} {n : Nat} (h : HoldB w L v B n) (hn : n ≤ 600000) => spec_l06Data code k m x DS (hq2 hk) hok2.k2 hok2.k4 hk h hn hc
    rw [hC,hD] at hgo
    clear hC hD hnd hmd hsd
    rcases hk with rfl | rfl | rfl
    all_goals
      go_wp2_with fail
      refine Calls.mono (hgo (L:=⟨w.heap.size,w3.heap.size,r,c1⟩) s6.H (by omega)) ?_;rintro _ w10 ⟨rfl,v10,H10,M10⟩;have s10:=s6.call H10 M10;have q10:=q6.call M10;clear H10 M10;clear e0 e1 e2 e3 e4 e5 e6 e7 e8 e9 e10 u0 u1 u2 u3 u4 u5 u6 u7 u8 u9 u10 fp fr lp lr;obtain ⟨e0,e1,e2,e3,e4,e5,e6,e7,e8,e9,e10,u0,u1,u2,u3,u4,u5,u6,u7,u8,u9,u10,fp,fr,lp,lr⟩:=s10.facts;clear hqc hqf hql;have hqc:=q10.cell;have hqf:=q10.free;have hql:=q10.lt
      go_wp2_with fail
      rw [show (((((((((((w10.setCell ⟨w.heap.size,0,none⟩ (.int .u8 C.A)).setCell ⟨w.heap.size,1,none⟩ (.int .u8 C.X)).setCell ⟨w.heap.size,2,none⟩ (.int .u8 C.Y)).setCell ⟨w.heap.size,3,none⟩ (.int .u8 C.S)).setCell ⟨w.heap.size,4,none⟩ (.int .u16 C.PC)).setCell ⟨w.heap.size,5,none⟩ (.bool C.F.N)).setCell ⟨w.heap.size,6,none⟩ (.bool C.F.V)).setCell ⟨w.heap.size,7,none⟩ (.bool C.F.D)).setCell ⟨w.heap.size,8,none⟩ (.bool C.F.I)).setCell ⟨w.heap.size,9,none⟩ (.bool C.F.Z)).setCell ⟨w.heap.size,10,none⟩ (.bool C.F.C)) = setBox w10 w.heap.size C from rfl]
      have s11:=SW.allP s10 C
      have q11:=SQ.setBox q10 (g:=w.heap.size) (by omega) C
      generalize setBox w10 w.heap.size C = w11 at s11 q11 ⊢
      clear e0 e1 e2 e3 e4 e5 e6 e7 e8 e9 e10 u0 u1 u2 u3 u4 u5 u6 u7 u8 u9 u10 fp fr lp lr;obtain ⟨e0,e1,e2,e3,e4,e5,e6,e7,e8,e9,e10,u0,u1,u2,u3,u4,u5,u6,u7,u8,u9,u10,fp,fr,lp,lr⟩:=s11.facts
      clear hqc hqf hql;have hqc:=q11.cell;have hqf:=q11.free;have hql:=q11.lt
      go_wp2_with fail
      have m0 : w11.cell? ⟨w3.heap.size,0,none⟩ = some (.slice (some ⟨r,0,none⟩) D.m.length c1):=HoldB.mem s11.H;have hlv:=Hold.log s11.H;obtain ⟨A9,d9,ev9,_,_⟩:=Kd.R_reads hlv;have m1:=HoldB.log s11.H;rw [ev9] at m1;have m1 : w11.cell? ⟨w3.heap.size,1,none⟩ = some (.slice A9 D.t.length d9):=m1;have mlt : w3.heap.size < w11.heap.size:=HoldB.lt s11.H;clear e0 e1 e2 e3 e4 e5 e6 e7 e8 e9 e10 u0 u1 u2 u3 u4 u5 u6 u7 u8 u9 u10 fp fr lp lr;obtain ⟨e0,e1,e2,e3,e4,e5,e6,e7,e8,e9,e10,u0,u1,u2,u3,u4,u5,u6,u7,u8,u9,u10,fp,fr,lp,lr⟩:=s11.facts;clear hqc hqf hql;have hqc:=q11.cell;have hqf:=q11.free;have hql:=q11.lt;have sf:=SW.drew (SW.other (SW.fin s11 C) q11.a (by omega) (by omega) (by omega) 0 (.slice (some ⟨r,0,none⟩) D.m.length c1));go_region;go_wp2_with fail;(refine bodyPost_ret (v:=.tuple #[.agg #[.int .u8 (C).A,.int .u8 (C).X,.int .u8 (C).Y,.int .u8 (C).S,.int .u16 (C).PC,.bool (C).F.N,.bool (C).F.V,.bool (C).F.D,.bool (C).F.I,.bool (C).F.Z,.bool (C).F.C],.agg #[.slice (some ⟨r,0,none⟩) D.m.length c1],.slice A9 D.t.length d9]) (by (simp only [results,Tryz.results60];go_simp <;> ((first | rfl | (simp [Cpu.fw];done))))) rfl ?_);exact ⟨_,_,_,_,rfl,Hold.mem sf.H,by rw [← ev9];exact Hold.log sf.H,sf.M.below⟩
end Go.Proofs.YtoncmhfmkfeolaaGreatDoor
