/- The program's step: the operation at PC. -/
import Derived.Test.YtoncmhfmkfeolaaGreatDoorGH
import Derived.Test.YtoncmhfmkfeolaaGreatDoorGD
import Derived.Test.YtoncmhfmkfeolaaGreatDoorGG
import Derived.Test.YtoncmhfmkfeolaaGreatDoorGE
set_option linter.unusedVariables false
set_option linter.unusedSimpArgs false
namespace Go.Proofs.YtoncmhfmkfeolaaGreatDoor
open Go.RowKit Go.Proofs.YtoncmhfmkfeolaaGreatDoorW.PrintWords
def EnvL (w : World) (n : Nat) : Prop:=Env w∧0 < n∧1 < n
theorem EnvL.below {w w' : World} {n : Nat} (h : EnvL w n) (hb : Below n w w') : EnvL w' n:=by
  obtain ⟨⟨h1,m,h2⟩,g1,g2⟩:=h
  refine ⟨⟨?_,m,(hb.cell (p:=⟨1,0,none⟩) g2).trans h2⟩,g1,g2⟩
  unfold Lib.TabIs World.var? at *
  rw [gSpace] at *
  simp only [Option.bind_some] at *
  rw [hb.block _ g1]
  exact h1
theorem Env.toL {w : World} (h : Env w) {n : Nat} (hn : w.heap.size ≤ n) : EnvL w n:=by
  obtain ⟨h1,m,h2⟩:=h
  have g1:=World.block_lt_of_cell? w _ (h1.cell gSpace 0 (by decide +kernel))
  have g2:=World.block_lt_of_cell? w _ h2
  exact ⟨⟨h1,m,h2⟩,Nat.lt_of_lt_of_le g1 hn,Nat.lt_of_lt_of_le g2 hn⟩
theorem EnvL.env {w : World} {n : Nat} (h : EnvL w n) : Env w:=h.1
theorem EnvL.drew {w : World} {n : Nat} (h : EnvL w n) : EnvL w.drew n:=h.below (below_drew1 (Below.refl _ _))
theorem EnvL.up {w : World} {n k : Nat} (h : EnvL w n) (hk : n ≤ k) : EnvL w k:=⟨h.1,Nat.lt_of_lt_of_le h.2.1 hk,Nat.lt_of_lt_of_le h.2.2 hk⟩
theorem EnvL.mv {w w' : World} {L : Lay} {v v' : Value} (h : EnvL w L.base) (m : Mv w w' L v v') : EnvL w' L.base:=h.below m.below
theorem impl_ModeOf (code : Int) (w : World) (h0 : 0 ≤ code) (h1 : code < 256) (he : Env w) :
    Calls Tryz.prog 161 #[.int .u8 code] w fun e w' => e = .returned (.int .i64 (mdI code))∧Below w.heap.size w w':=by
  have ho:=impl_operation code w h0 h1 he
  have HB:=hR w;go_enter Tryz.func161,Tryz.ntmps161
  go_wp2_with fail
  refine ho.mono ?_
  rintro _ w1 ⟨rfl,hb⟩
  (have HB:=Aside0.mk (below_step (w:=w) blw hb);have hz1:=hb.size;obtain ⟨hcl1,hfr1,hlt1,_⟩:=bcell hb;(try simp only [sA,sC,sD] at hz1);(try simp only [sA,sC,sD] at hcl1 hfr1 hlt1);have HB1:=hR w1;clear hb)
  go_wp2_with fail
  go_ret
  exact ⟨rfl,blw⟩
set_option maxHeartbeats 1000000 in
theorem impl_SizeOf (code : Int) (w : World) (h0 : 0 ≤ code) (h1 : code < 256) (he : Env w) :
    Calls Tryz.prog 118 #[.int .u8 code] w fun e w' => e = .returned (.int .i64 (sizeM (mdI code)))∧Below w.heap.size w w':=by
  have ho:=impl_ModeOf code w h0 h1 he
  obtain ⟨m0,m1⟩:=of_byte (p:=fun c => -1 ≤ mdI c∧mdI c ≤ 12) mdI_b code h0 h1
  generalize mdI code = m at ho m0 m1 ⊢
  rcases mode_cases m m0 m1 with rfl | rfl | rfl | rfl | rfl | rfl | rfl | rfl | rfl | rfl | rfl | rfl | rfl | rfl
  all_goals
    have HB:=hR w;go_enter Tryz.func118,Tryz.ntmps118
    go_wp2_with fail
    refine ho.mono ?_
    rintro _ w1 ⟨rfl,hb⟩
    (have HB:=Aside0.mk (below_step (w:=w) blw hb);have hz1:=hb.size;obtain ⟨hcl1,hfr1,hlt1,_⟩:=bcell hb;(try simp only [sA,sC,sD] at hz1);(try simp only [sA,sC,sD] at hcl1 hfr1 hlt1);have HB1:=hR w1;clear hb)
    go_wp2_with fail
    go_ret
    exact ⟨rfl,blw⟩
def codeOk (x : List UInt8) (k m : Int) : Bool:=x == [] || ((decide (1 ≤ k) && decide (k ≤ 12)) && (!(k == 2 || k == 3 || k == 4) || (m == 2 && k == 2) || m == 3 || m == 4 || m == 5 || m == 6 || m == 7 || m == 8 || m == 10 || m == 11) && (!(k == 3) || x == [83,84,65] || x == [83,84,88] || x == [83,84,89]))
theorem codes_ok : ∀ c : Nat,c < 256 → codeOk (nmL c) (kindI c) (mdI c) = true:=by decide +kernel
theorem codeOk_said {x : List UInt8} {k m : Int} (h : codeOk x k m = true) (hx : ¬ x = []) : (1 ≤ k∧k ≤ 12)∧((k = 2 ∨ k = 3 ∨ k = 4) → (m = 2∧k = 2) ∨ PM m)∧(k = 3 → x = [83,84,65] ∨ x = [83,84,88] ∨ x = [83,84,89]):=by
  have hx1 : (x == []) = false:=beq_eq_false_iff_ne.2 hx
  unfold codeOk at h
  rw [hx1,Bool.false_or,Bool.and_eq_true,Bool.and_eq_true,Bool.and_eq_true,decide_eq_true_eq,decide_eq_true_eq] at h
  obtain ⟨⟨⟨h1,h2⟩,h3⟩,h4⟩:=h
  simp only [Bool.or_eq_true,Bool.not_eq_true',Bool.or_eq_false_iff,Bool.and_eq_true,beq_iff_eq,beq_eq_false_iff_ne] at h3
  simp only [Bool.or_eq_true,Bool.not_eq_true',beq_iff_eq,beq_eq_false_iff_ne] at h4
  refine ⟨⟨h1,h2⟩,fun hk => ?_,fun hk => ?_⟩
  · unfold PM;omega
  · rcases h4 with ((h4 | h4) | h4) | h4
    · exact absurd hk h4
    · exact .inl h4
    · exact .inr (.inl h4)
    · exact .inr (.inr h4)
def stpOf (code : Int) (c : Cpu) (b : Bus) : Cpu:=stpC (kindI code) (mdI code) (sizeM (mdI code)) (nmL code) c b
def stpBus (code : Int) (c : Cpu) (b : Bus) : Bus:=stpB (kindI code) (mdI code) (nmL code) c b
def stepC (c : Cpu) (b : Bus) : Cpu:=stpOf (peek b.m c.PC) c (b.rd c.PC)
def stepB (c : Cpu) (b : Bus) : Bus:=stpBus (peek b.m c.PC) c (b.rd c.PC)
theorem stpC_1 (m sz : Int) (x : List UInt8) (c : Cpu) (b : Bus) : stpC 1 m sz x c b = (impT x c).fw sz:=rfl
theorem stpC_opd (k m sz : Int) (x : List UInt8) (c : Cpu) (b : Bus) (hk : k = 2 ∨ k = 3 ∨ k = 4) : stpC k m sz x c b = (opdC k m x c b).fw sz:=by rcases hk with rfl | rfl | rfl <;> rfl
theorem stpB_opd (k m : Int) (x : List UInt8) (c : Cpu) (b : Bus) (hk : k = 2 ∨ k = 3 ∨ k = 4) : stpB k m x c b = opdB k m x c b:=by rcases hk with rfl | rfl | rfl <;> rfl
set_option maxRecDepth 20000 in
set_option maxHeartbeats 2000000 in
theorem impl_step {w : World} {L : Lay} {v : Value} {c : Cpu} {b : Bus} {n : Nat} (h : HoldM w L v c b n) (hn : n ≤ 600000) (hc : c.ok) (he : EnvL w L.base) (hj : ¬ nmL (peek b.m c.PC) = []) :
    Calls Tryz.prog 55 #[.pointer (some ⟨L.g,0,none⟩)] w fun e w' => e = .returned (.tuple #[])∧∃ v',HoldM w' L v' (stepC c b) (stepB c b) (n+10)∧Mv w w' L v v':=by
  have hc0:=hc
  obtain ⟨a0,a1,x0,x1,y0,y1,s0,s1,p0,p1⟩:=hc
  have M0:=Mv.refl w L v h.size
  have pk:=peek_of h.peeks
  obtain ⟨k0,k1⟩:=pk c.PC
  have hq:=of_byte (p:=fun c => codeOk (nmL c) (kindI c) (mdI c) = true) codes_ok (peek b.m c.PC) k0 k1
  unfold stepC stepB
  obtain ⟨code,hcode⟩ : ∃ code,peek b.m c.PC = code:=⟨_,rfl⟩
  rw [hcode] at hj k0 k1 hq ⊢
  unfold stpOf stpBus
  have ho:=fun W e => impl_operation code W k0 k1 e
  have hkk:=fun W e => impl_KindOf code W k0 k1 e
  have hss:=fun W e => impl_SizeOf code W k0 k1 e
  have hsz:=sizeM_b (mdI code)
  have hwz : IntKind.u16.wrap (sizeM (mdI code)) = sizeM (mdI code):=u16_wrap_in _ (by omega)
  generalize kindI code = k at *
  generalize mdI code = m at *
  generalize nmL code = x at *
  obtain ⟨⟨q0,q1⟩,hq2,hq3⟩:=codeOk_said hq hj
  clear hq hj
  obtain ⟨e0,e1,e2,e3,e4,e5,e6,e7,e8,e9,e10,_,_,hfz,hlt⟩:=h.facts
  have HB:=hR w;go_enter Tryz.func55,Tryz.ntmps55
  go_wp2_with fail;refine Calls.mono (impl_rd c.PC _ h rfl (by omega) (by omega) (by omega)) ?_;rintro _ w1 ⟨rfl,v1,H1,M1⟩;have M1:=M0.tr M1;clear e0 e1 e2 e3 e4 e5 e6 e7 e8 e9 e10 hfz hlt;obtain ⟨e0,e1,e2,e3,e4,e5,e6,e7,e8,e9,e10,_,_,hfz,hlt⟩:=H1.facts
  go_wp2_with fail
  refine Calls.mono (ho _ (he.mv M1).1) ?_
  rintro _ w2 ⟨rfl,hb⟩
  have H2:=HoldM.below H1 hb
  have M2:=M1.bl hb
  clear e0 e1 e2 e3 e4 e5 e6 e7 e8 e9 e10 hfz hlt;obtain ⟨e0,e1,e2,e3,e4,e5,e6,e7,e8,e9,e10,_,_,hfz,hlt⟩:=H2.facts
  go_wp2_with fail
  refine Calls.mono (hkk _ (he.mv M2).1) ?_
  rintro _ w3 ⟨rfl,hb⟩
  have H3:=HoldM.below H2 hb
  have M3:=M2.bl hb
  have EL3:=he.mv M3
  clear e0 e1 e2 e3 e4 e5 e6 e7 e8 e9 e10 hfz hlt;obtain ⟨e0,e1,e2,e3,e4,e5,e6,e7,e8,e9,e10,_,_,hfz,hlt⟩:=H3.facts
  clear ho hkk
  have hk : k = 1 ∨ k = 2 ∨ k = 3 ∨ k = 4 ∨ k = 5 ∨ k = 6 ∨ k = 7 ∨ k = 8 ∨ k = 9 ∨ k = 10 ∨ k = 11 ∨ k = 12:=by omega
  clear q0 q1
  rcases hk with rfl | rfl | rfl | rfl | rfl | rfl | rfl | rfl | rfl | rfl | rfl | rfl
  · go_wp2_with fail;refine Calls.mono (impl_rd ((c.PC+1) % 65536) _ H3 rfl (by omega) (by omega) (by omega)) ?_;rintro _ w4 ⟨rfl,v4,H4,M4⟩;have M4:=M3.tr M4;clear e0 e1 e2 e3 e4 e5 e6 e7 e8 e9 e10 hfz hlt;obtain ⟨e0,e1,e2,e3,e4,e5,e6,e7,e8,e9,e10,_,_,hfz,hlt⟩:=H4.facts
    go_wp2_with fail
    refine Calls.mono (impl_implied x H4 hc0) ?_
    rintro _ w5 ⟨rfl,H5,M5⟩
    have M5:=M4.tr M5
    have EL5:=he.mv M5
    clear e0 e1 e2 e3 e4 e5 e6 e7 e8 e9 e10 hfz hlt;obtain ⟨e0,e1,e2,e3,e4,e5,e6,e7,e8,e9,e10,_,_,hfz,hlt⟩:=H5.facts
    go_wp2_with fail
    go_region_with (go_at_call 118;((with_reducible refine (hss _ (EnvL.env (EnvL.drew EL5))).mono ?_);rintro _ w8 ⟨rfl,hb⟩;have H8:=HoldM.below (HoldM.drew H5) hb;have M8:=(M5.dr).bl hb;clear e0 e1 e2 e3 e4 e5 e6 e7 e8 e9 e10 hfz hlt;obtain ⟨e0,e1,e2,e3,e4,e5,e6,e7,e8,e9,e10,_,_,hfz,hlt⟩:=H8.facts));all_goals go_wp2_with fail;all_goals go_end0;all_goals exact ⟨rfl,_,HoldM.mono (HoldM.setPC H8 _) (by omega),M8.set (Hold.bg h) 4 _⟩
  · rcases hq2 (by omega) with ⟨rfl,_⟩ | hpm
    · go_wp2_with fail;refine Calls.mono (opd_imm 2 x H3 (by omega) hc0) ?_;rintro _ w5 ⟨rfl,v5,H5,M5⟩;have M5:=M3.tr M5;have EL5:=he.mv M5;clear e0 e1 e2 e3 e4 e5 e6 e7 e8 e9 e10 hfz hlt;obtain ⟨e0,e1,e2,e3,e4,e5,e6,e7,e8,e9,e10,_,_,hfz,hlt⟩:=H5.facts;go_wp2_with fail;go_region_with (go_at_call 118;((with_reducible refine (hss _ (EnvL.env (EnvL.drew EL5))).mono ?_);rintro _ w8 ⟨rfl,hb⟩;have H8:=HoldM.below (HoldM.drew H5) hb;have M8:=(M5.dr).bl hb;clear e0 e1 e2 e3 e4 e5 e6 e7 e8 e9 e10 hfz hlt;obtain ⟨e0,e1,e2,e3,e4,e5,e6,e7,e8,e9,e10,_,_,hfz,hlt⟩:=H8.facts));all_goals go_wp2_with fail;all_goals go_end0;all_goals exact ⟨rfl,_,HoldM.mono (HoldM.setPC H8 _) (by omega),M8.set (Hold.bg h) 4 _⟩
    · go_wp2_with fail;refine Calls.mono (opd_2 m x hpm H3 (by omega) hc0) ?_;rintro _ w5 ⟨rfl,v5,H5,M5⟩;have M5:=M3.tr M5;have EL5:=he.mv M5;clear e0 e1 e2 e3 e4 e5 e6 e7 e8 e9 e10 hfz hlt;obtain ⟨e0,e1,e2,e3,e4,e5,e6,e7,e8,e9,e10,_,_,hfz,hlt⟩:=H5.facts;go_wp2_with fail;go_region_with (go_at_call 118;((with_reducible refine (hss _ (EnvL.env (EnvL.drew EL5))).mono ?_);rintro _ w8 ⟨rfl,hb⟩;have H8:=HoldM.below (HoldM.drew H5) hb;have M8:=(M5.dr).bl hb;clear e0 e1 e2 e3 e4 e5 e6 e7 e8 e9 e10 hfz hlt;obtain ⟨e0,e1,e2,e3,e4,e5,e6,e7,e8,e9,e10,_,_,hfz,hlt⟩:=H8.facts));all_goals go_wp2_with fail;all_goals go_end0;all_goals exact ⟨rfl,_,HoldM.mono (HoldM.setPC H8 _) (by omega),M8.set (Hold.bg h) 4 _⟩
  · rcases hq2 (by omega) with ⟨_,hz⟩ | hpm
    · exact absurd hz (by decide)
    · go_wp2_with fail;refine Calls.mono (opd_3 m x hpm (hq3 (by first | exact rfl | exact True.intro)) H3 (by omega) hc0) ?_;rintro _ w5 ⟨rfl,v5,H5,M5⟩;have M5:=M3.tr M5;have EL5:=he.mv M5;clear e0 e1 e2 e3 e4 e5 e6 e7 e8 e9 e10 hfz hlt;obtain ⟨e0,e1,e2,e3,e4,e5,e6,e7,e8,e9,e10,_,_,hfz,hlt⟩:=H5.facts;go_wp2_with fail;go_region_with (go_at_call 118;((with_reducible refine (hss _ (EnvL.env (EnvL.drew EL5))).mono ?_);rintro _ w8 ⟨rfl,hb⟩;have H8:=HoldM.below (HoldM.drew H5) hb;have M8:=(M5.dr).bl hb;clear e0 e1 e2 e3 e4 e5 e6 e7 e8 e9 e10 hfz hlt;obtain ⟨e0,e1,e2,e3,e4,e5,e6,e7,e8,e9,e10,_,_,hfz,hlt⟩:=H8.facts));all_goals go_wp2_with fail;all_goals go_end0;all_goals exact ⟨rfl,_,HoldM.mono (HoldM.setPC H8 _) (by omega),M8.set (Hold.bg h) 4 _⟩
  · rcases hq2 (by omega) with ⟨_,hz⟩ | hpm
    · exact absurd hz (by decide)
    · go_wp2_with fail;refine Calls.mono (opd_4 m x hpm H3 (by omega) hc0) ?_;rintro _ w5 ⟨rfl,v5,H5,M5⟩;have M5:=M3.tr M5;have EL5:=he.mv M5;clear e0 e1 e2 e3 e4 e5 e6 e7 e8 e9 e10 hfz hlt;obtain ⟨e0,e1,e2,e3,e4,e5,e6,e7,e8,e9,e10,_,_,hfz,hlt⟩:=H5.facts;go_wp2_with fail;go_region_with (go_at_call 118;((with_reducible refine (hss _ (EnvL.env (EnvL.drew EL5))).mono ?_);rintro _ w8 ⟨rfl,hb⟩;have H8:=HoldM.below (HoldM.drew H5) hb;have M8:=(M5.dr).bl hb;clear e0 e1 e2 e3 e4 e5 e6 e7 e8 e9 e10 hfz hlt;obtain ⟨e0,e1,e2,e3,e4,e5,e6,e7,e8,e9,e10,_,_,hfz,hlt⟩:=H8.facts));all_goals go_wp2_with fail;all_goals go_end0;all_goals exact ⟨rfl,_,HoldM.mono (HoldM.setPC H8 _) (by omega),M8.set (Hold.bg h) 4 _⟩
  · go_wp2_with fail;refine Calls.mono (impl_flow 5 m x (by omega) H3 (by omega) hc0) ?_;rintro _ w5 ⟨rfl,v5,H5,M5⟩;have M5:=M3.tr M5;go_wp2_with fail;(refine bodyPost_ret (v:=.tuple #[]) (by (simp only [results,Tryz.results55];go_simp <;> (rfl))) rfl ?_);exact ⟨rfl,_,HoldM.mono H5 (by omega),M5⟩
  · go_wp2_with fail;refine Calls.mono (impl_flow 6 m x (by omega) H3 (by omega) hc0) ?_;rintro _ w5 ⟨rfl,v5,H5,M5⟩;have M5:=M3.tr M5;go_wp2_with fail;(refine bodyPost_ret (v:=.tuple #[]) (by (simp only [results,Tryz.results55];go_simp <;> (rfl))) rfl ?_);exact ⟨rfl,_,HoldM.mono H5 (by omega),M5⟩
  · go_wp2_with fail;refine Calls.mono (impl_flow 7 m x (by omega) H3 (by omega) hc0) ?_;rintro _ w5 ⟨rfl,v5,H5,M5⟩;have M5:=M3.tr M5;go_wp2_with fail;(refine bodyPost_ret (v:=.tuple #[]) (by (simp only [results,Tryz.results55];go_simp <;> (rfl))) rfl ?_);exact ⟨rfl,_,HoldM.mono H5 (by omega),M5⟩
  · go_wp2_with fail;refine Calls.mono (impl_flow 8 m x (by omega) H3 (by omega) hc0) ?_;rintro _ w5 ⟨rfl,v5,H5,M5⟩;have M5:=M3.tr M5;go_wp2_with fail;(refine bodyPost_ret (v:=.tuple #[]) (by (simp only [results,Tryz.results55];go_simp <;> (rfl))) rfl ?_);exact ⟨rfl,_,HoldM.mono H5 (by omega),M5⟩
  · go_wp2_with fail;refine Calls.mono (impl_flow 9 m x (by omega) H3 (by omega) hc0) ?_;rintro _ w5 ⟨rfl,v5,H5,M5⟩;have M5:=M3.tr M5;go_wp2_with fail;(refine bodyPost_ret (v:=.tuple #[]) (by (simp only [results,Tryz.results55];go_simp <;> (rfl))) rfl ?_);exact ⟨rfl,_,HoldM.mono H5 (by omega),M5⟩
  · go_wp2_with fail;refine Calls.mono (impl_flow 10 m x (by omega) H3 (by omega) hc0) ?_;rintro _ w5 ⟨rfl,v5,H5,M5⟩;have M5:=M3.tr M5;go_wp2_with fail;(refine bodyPost_ret (v:=.tuple #[]) (by (simp only [results,Tryz.results55];go_simp <;> (rfl))) rfl ?_);exact ⟨rfl,_,HoldM.mono H5 (by omega),M5⟩
  · go_wp2_with fail
    refine Calls.mono (impl_pushOne x H3 (by omega) hc0) ?_
    rintro _ w5 ⟨rfl,v5,H5,M5⟩
    have M5:=M3.tr M5
    have EL5:=he.mv M5
    clear e0 e1 e2 e3 e4 e5 e6 e7 e8 e9 e10 hfz hlt;obtain ⟨e0,e1,e2,e3,e4,e5,e6,e7,e8,e9,e10,_,_,hfz,hlt⟩:=H5.facts
    go_wp2_with fail
    go_region_with (go_at_call 118;((with_reducible refine (hss _ (EnvL.env (EnvL.drew EL5))).mono ?_);rintro _ w8 ⟨rfl,hb⟩;have H8:=HoldM.below (HoldM.drew H5) hb;have M8:=(M5.dr).bl hb;clear e0 e1 e2 e3 e4 e5 e6 e7 e8 e9 e10 hfz hlt;obtain ⟨e0,e1,e2,e3,e4,e5,e6,e7,e8,e9,e10,_,_,hfz,hlt⟩:=H8.facts));all_goals go_wp2_with fail;all_goals go_end0;all_goals exact ⟨rfl,_,HoldM.mono (HoldM.setPC H8 _) (by omega),M8.set (Hold.bg h) 4 _⟩
  · go_wp2_with fail
    refine Calls.mono (impl_pull x H3 (by omega) hc0) ?_
    rintro _ w5 ⟨rfl,v5,H5,M5⟩
    have M5:=M3.tr M5
    have EL5:=he.mv M5
    clear e0 e1 e2 e3 e4 e5 e6 e7 e8 e9 e10 hfz hlt;obtain ⟨e0,e1,e2,e3,e4,e5,e6,e7,e8,e9,e10,_,_,hfz,hlt⟩:=H5.facts
    go_wp2_with fail
    go_region_with (go_at_call 118;((with_reducible refine (hss _ (EnvL.env (EnvL.drew EL5))).mono ?_);rintro _ w8 ⟨rfl,hb⟩;have H8:=HoldM.below (HoldM.drew H5) hb;have M8:=(M5.dr).bl hb;clear e0 e1 e2 e3 e4 e5 e6 e7 e8 e9 e10 hfz hlt;obtain ⟨e0,e1,e2,e3,e4,e5,e6,e7,e8,e9,e10,_,_,hfz,hlt⟩:=H8.facts));all_goals go_wp2_with fail;all_goals go_end0;all_goals exact ⟨rfl,_,HoldM.mono (HoldM.setPC H8 _) (by omega),M8.set (Hold.bg h) 4 _⟩
open Go.RowKit Go.Proofs.YtoncmhfmkfeolaaGreatDoorW.PrintWords
def step (c : Cpu) (m : List Int) : After:=if ramSize m.length then (if jams m c.PC then ⟨c,m,[]⟩ else ⟨stepC c ⟨m,[]⟩,(stepB c ⟨m,[]⟩).m,(stepB c ⟨m,[]⟩).t⟩) else ⟨cpu0,[],[]⟩
open Go.RowKit Go.Proofs.YtoncmhfmkfeolaaGreatDoorW.PrintWords
structure BLe (b b' : Bus) (n : Nat) : Prop where
  ok : BOk b → BOk b'
  m : b'.m.length = b.m.length
  t : b'.t.length ≤ b.t.length+n
theorem BLe.refl (b : Bus) : BLe b b 0:=⟨id,rfl,Nat.le_refl _⟩
theorem BLe.trans {a b c : Bus} {n k : Nat} (h : BLe a b n) (g : BLe b c k) : BLe a c (n+k):=⟨fun x => g.ok (h.ok x),g.m.trans h.m,by have:=h.t;have:=g.t;omega⟩
theorem BLe.up {a b : Bus} {n k : Nat} (h : BLe a b n) (hk : n ≤ k) : BLe a b k:=⟨h.ok,h.m,Nat.le_trans h.t (by omega)⟩
theorem BLe.rd {a b : Bus} {n : Nat} (h : BLe a b n) (x : Int) (h0 : 0 ≤ x) (h1 : x < 65536) : BLe a (b.rd x) (n+1):=⟨fun g => (h.ok g).rd h0 h1,h.m,by have:=h.t;simp [Bus.rd];omega⟩
theorem BLe.wr {a b : Bus} {n : Nat} (h : BLe a b n) (x d : Int) (h0 : 0 ≤ x) (h1 : x < 65536) (hd : BOk a → 0 ≤ d∧d < 256) : BLe a (b.wr x d) (n+1):=⟨fun g => (h.ok g).wr h0 h1 (hd g),by simp [Bus.wr,h.m],by have:=h.t;simp [Bus.wr];omega⟩
theorem peeks_of {b : Bus} (h : BOk b) (a : Int) : 0 ≤ peek b.m a∧peek b.m a < 256:=peek_bb h.m a
theorem BLe.rdx {a b : Bus} {n : Nat} (h : BLe a b n) (x : Int) (hx : BOk a → 0 ≤ x∧x < 65536) : BLe a (b.rd x) (n+1):=⟨fun g => (h.ok g).rd (hx g).1 (hx g).2,h.m,by have:=h.t;simp [Bus.rd];omega⟩
theorem BLe.wrx {a b : Bus} {n : Nat} (h : BLe a b n) (x d : Int) (hx : BOk a → 0 ≤ x∧x < 65536) (hd : BOk a → 0 ≤ d∧d < 256) : BLe a (b.wr x d) (n+1):=⟨fun g => (h.ok g).wr (hx g).1 (hx g).2 (hd g),by simp [Bus.wr,h.m],by have:=h.t;simp [Bus.wr];omega⟩
theorem m16 (x : Int) : 0 ≤ x % 65536∧x % 65536 < 65536:=by omega
theorem m8 (x : Int) : 0 ≤ x % 256∧x % 256 < 65536:=by omega
theorem wd {b : Bus} (h : BOk b) (x y : Int) : 0 ≤ word2 (peek b.m x) (peek b.m y)∧word2 (peek b.m x) (peek b.m y) < 65536:=word2_in (peeks_of h x) (peeks_of h y)
theorem pk16 {b : Bus} (h : BOk b) (x : Int) : 0 ≤ peek b.m x∧peek b.m x < 65536:=by have:=peeks_of h x;omega
theorem lo1_le (c : Cpu) (b : Bus) : BLe b (lo1 c b) 1:=(BLe.refl b).rdx _ (fun _ => m16 _)
theorem fixB_le {a b : Bus} {n : Nat} (h : BLe a b n) (k base e : Int) (hb : BOk a → 0 ≤ base∧base < 65536) : BLe a (fixB b k base e) (n+1):=by
  unfold fixB
  split
  · exact h.up (by omega)
  · exact h.rdx _ (fun g => pg_b (hb g).1 (hb g).2)
theorem plc_le (c : Cpu) (b : Bus) (m k : Int) : BLe b (plc c b m k).2 4:=by
  have h1 : BLe b (b.rd ((c.PC+1) % 65536)) 1:=lo1_le c b
  unfold plc plcZ plcE
  repeat' split
  · exact h1.up (by omega)
  · exact (h1.rdx _ (fun g => pk16 g _)).up (by omega)
  · exact (h1.rdx _ (fun g => pk16 g _)).up (by omega)
  · exact (((h1.rdx _ (fun g => pk16 g _)).rdx _ (fun _ => m8 _)).rdx _ (fun _ => m8 _)).up (by omega)
  · exact (fixB_le ((h1.rdx _ (fun g => pk16 g _)).rdx _ (fun _ => m8 _)) _ _ _ (fun g => wd g _ _)).up (by omega)
  · exact (h1.rdx _ (fun _ => m16 _)).up (by omega)
  · exact (fixB_le (h1.rdx _ (fun _ => m16 _)) _ _ _ (fun g => wd g _ _)).up (by omega)
  · exact (fixB_le (h1.rdx _ (fun _ => m16 _)) _ _ _ (fun g => wd g _ _)).up (by omega)
theorem bra_le (c : Cpu) (b : Bus) (x : List UInt8) : BLe b (braB c b x) 3:=by
  have h1 : BLe b (b.rd ((c.PC+1) % 65536)) 1:=lo1_le c b
  unfold braB
  repeat' split
  · exact (h1.rdx _ (fun _ => m16 _)).up (by omega)
  · exact ((h1.rdx _ (fun _ => m16 _)).rdx _ (fun _ => pg_b (m16 _).1 (m16 _).2)).up (by omega)
  · exact h1.up (by omega)
theorem jmp_le (c : Cpu) (b : Bus) (m : Int) : BLe b (jmpB c b m) 4:=by
  unfold jmpB
  split
  · exact ((((lo1_le c b).rdx _ (fun _ => m16 _)).rdx _ (fun g => wd g _ _)).rdx _ (fun g => pg_b (wd g _ _).1 (wd g _ _).2)).up (by omega)
  · exact ((lo1_le c b).rdx _ (fun _ => m16 _)).up (by omega)
theorem stk_bb (s : Int) : 0 ≤ stk s∧stk s < 65536:=stk_b s
theorem jsr_le (c : Cpu) (b : Bus) : BLe b (jsrB c b) 5 :=
  (((((lo1_le c b).rdx _ (fun _ => stk_b _)).wrx _ _ (fun _ => stk_b _) (fun _ => by omega)).wrx _ _ (fun _ => stk_b _) (fun _ => by omega)).rdx _ (fun _ => m16 _))
theorem rts_le (c : Cpu) (b : Bus) : BLe b (rtsB c b) 5 :=
  (((((lo1_le c b).rdx _ (fun _ => stk_b _)).rdx _ (fun _ => stk_b _)).rdx _ (fun _ => stk_b _)).rdx _ (fun g => wd g _ _))
theorem rti_le (c : Cpu) (b : Bus) : BLe b (rtiB c b) 5 :=
  (((((lo1_le c b).rdx _ (fun _ => stk_b _)).rdx _ (fun _ => stk_b _)).rdx _ (fun _ => stk_b _)).rdx _ (fun _ => stk_b _))
theorem brk_le (c : Cpu) (b : Bus) : BLe b (brkB c b) 6 :=
  ((((((lo1_le c b).wrx _ _ (fun _ => stk_b _) (fun _ => by omega)).wrx _ _ (fun _ => stk_b _) (fun _ => by omega)).wrx _ _ (fun _ => stk_b _) (fun _ => packP_b _ _)).rdx _ (fun _ => by omega)).rdx _ (fun _ => by omega))
theorem flo_le (k m : Int) (x : List UInt8) (c : Cpu) (b : Bus) : BLe b (floB k m x c b) 6:=by
  unfold floB
  repeat' split
  · exact (bra_le c b x).up (by omega)
  · exact (jmp_le c b m).up (by omega)
  · exact (jsr_le c b).up (by omega)
  · exact (rts_le c b).up (by omega)
  · exact (rti_le c b).up (by omega)
  · exact brk_le c b
  · exact (BLe.refl b).up (by omega)
theorem pul_le (c : Cpu) (b : Bus) : BLe b (pulB c b) 3:=(((lo1_le c b).rdx _ (fun _ => stk_b _)).rdx _ (fun _ => stk_b _))
theorem ph_le (x : List UInt8) (c : Cpu) (b : Bus) (hc : c.ok) : BLe b (phB x c b) 2:=by
  refine (lo1_le c b).wrx _ _ (fun _ => stk_b _) (fun _ => ?_)
  obtain ⟨a0,a1,_⟩:=hc
  split
  · exact ⟨a0,a1⟩
  · exact packP_b _ _
theorem regT_b (x : List UInt8) (c : Cpu) (hc : c.ok) : 0 ≤ regT x c∧regT x c < 256:=by
  obtain ⟨a0,a1,x0,x1,y0,y1,_⟩:=hc
  unfold regT
  split
  · exact ⟨x0,x1⟩
  · split
    · exact ⟨y0,y1⟩
    · exact ⟨a0,a1⟩
theorem plc_bb (c : Cpu) (b : Bus) (m k : Int) (g : BOk b) : 0 ≤ (plc c b m k).1∧(plc c b m k).1 < 65536:=plc_b c b m k g.m
theorem opd_le (k m : Int) (x : List UInt8) (c : Cpu) (b : Bus) (hc : c.ok) : BLe b (opdB k m x c b) 7:=by
  unfold opdB
  repeat' split
  · exact (lo1_le c b).up (by omega)
  · exact ((plc_le c b m k).rdx _ (plc_bb c b m k)).up (by omega)
  · exact ((plc_le c b m k).wrx _ _ (plc_bb c b m k) (fun _ => regT_b x c hc)).up (by omega)
  · exact ((((plc_le c b m k).rdx _ (plc_bb c b m k)).wrx _ _ (plc_bb c b m k) (fun g => peeks_of g _)).wrx _ _ (plc_bb c b m k) (fun g => doT_b x c _ hc (peeks_of g _).1 (peeks_of g _).2)).up (by omega)
theorem stp_le (k m : Int) (x : List UInt8) (c : Cpu) (b : Bus) (hc : c.ok) : BLe b (stpB k m x c b) 7:=by
  unfold stpB
  repeat' split
  · exact (lo1_le c b).up (by omega)
  · exact opd_le k m x c b hc
  · exact (ph_le x c b hc).up (by omega)
  · exact (pul_le c b).up (by omega)
  · exact (flo_le k m x c b).up (by omega)
theorem stepB_le (c : Cpu) (b : Bus) (hc : c.ok) : BLe b (stepB c b) 8:=by
  have h1 : BLe b (b.rd c.PC) 1:=(BLe.refl b).rdx _ (fun _ => by obtain ⟨_,_,_,_,_,_,_,_,p0,p1⟩:=hc;exact ⟨p0,p1⟩)
  exact h1.trans (stp_le _ _ _ c _ hc)
theorem step_ml (c : Cpu) (l : List Int) (hc : c.ok) : (step c l).m.length ≤ l.length:=by
  unfold step
  split
  · split
    · exact Nat.le_refl _
    · exact Nat.le_of_eq (stepB_le c ⟨l,[]⟩ hc).m
  · simp
theorem step_tl (c : Cpu) (l : List Int) (hc : c.ok) : (step c l).t.length ≤ 8:=by
  unfold step
  split
  · split
    · simp
    · have:=(stepB_le c ⟨l,[]⟩ hc).t
      simpa using this
  · simp
theorem step_mb (c : Cpu) (l : List Int) (hc : c.ok) (h : ∀ i,0 ≤ rd l i∧rd l i < 256) : ∀ i,0 ≤ rd (step c l).m i∧rd (step c l).m i < 256:=by
  unfold step
  split
  · split
    · exact h
    · exact ((stepB_le c ⟨l,[]⟩ hc).ok ⟨h,by simp⟩).m
  · intro i;simp [rd]
theorem step_tb (c : Cpu) (l : List Int) (hc : c.ok) (h : ∀ i,0 ≤ rd l i∧rd l i < 256) : ∀ k,(cd (step c l).t k).ok:=by
  unfold step
  split
  · split
    · exact cd_ok (by simp)
    · exact cd_ok ((stepB_le c ⟨l,[]⟩ hc).ok ⟨h,by simp⟩).t
  · exact cd_ok (by simp)
end Go.Proofs.YtoncmhfmkfeolaaGreatDoor
