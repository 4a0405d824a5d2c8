/- The program's 'do' (printed by wip/mkdo.py). -/
import Derived.Test.YtoncmhfmkfeolaaGreatDoorGF
set_option linter.unusedVariables false
set_option linter.unusedSimpArgs false
namespace Go.Proofs.YtoncmhfmkfeolaaGreatDoor
open Go.RowKit Go.Proofs.YtoncmhfmkfeolaaGreatDoorW.PrintWords
theorem HoldM.drew {w : World} {L : Lay} {v : Value} {c : Cpu} {b : Bus} {n : Nat} (h : HoldM w L v c b n) : HoldM w.drew L v c b n:=Hold.drew h
theorem HoldM.drewN {w : World} {L : Lay} {v : Value} {c : Cpu} {b : Bus} {n : Nat} (h : HoldM w L v c b n) (k : Nat) : HoldM (w.drewN k) L v c b n:=Hold.drewN h k
theorem HoldM.alloc {w : World} {L : Lay} {v : Value} {c : Cpu} {b : Bus} {n : Nat} (h : HoldM w L v c b n) (o : Obj) : HoldM (w.alloc o) L v c b n:=Hold.alloc h o
theorem w8b (o : BinOp) (x y : Int) : 0 ≤ bits o .u8 x y∧bits o .u8 x y < 256:=w8 _
theorem HoldM.setA {w : World} {L : Lay} {v : Value} {c : Cpu} {b : Bus} {n : Nat} (h : HoldM w L v c b n) (x : Int) : HoldM (w.setCell ⟨L.g,0,none⟩ (.int .u8 x)) L v { c with A:=x } b n:=Hold.set h 0 _
theorem HoldM.setX {w : World} {L : Lay} {v : Value} {c : Cpu} {b : Bus} {n : Nat} (h : HoldM w L v c b n) (x : Int) : HoldM (w.setCell ⟨L.g,1,none⟩ (.int .u8 x)) L v { c with X:=x } b n:=Hold.set h 1 _
theorem HoldM.setY {w : World} {L : Lay} {v : Value} {c : Cpu} {b : Bus} {n : Nat} (h : HoldM w L v c b n) (x : Int) : HoldM (w.setCell ⟨L.g,2,none⟩ (.int .u8 x)) L v { c with Y:=x } b n:=Hold.set h 2 _
theorem HoldM.setN {w : World} {L : Lay} {v : Value} {c : Cpu} {b : Bus} {n : Nat} (h : HoldM w L v c b n) (x : Bool) : HoldM (w.setCell ⟨L.g,5,none⟩ (.bool x)) L v { c with F:={ c.F with N:=x } } b n:=Hold.set h 5 _
theorem HoldM.setV {w : World} {L : Lay} {v : Value} {c : Cpu} {b : Bus} {n : Nat} (h : HoldM w L v c b n) (x : Bool) : HoldM (w.setCell ⟨L.g,6,none⟩ (.bool x)) L v { c with F:={ c.F with V:=x } } b n:=Hold.set h 6 _
theorem HoldM.setD {w : World} {L : Lay} {v : Value} {c : Cpu} {b : Bus} {n : Nat} (h : HoldM w L v c b n) (x : Bool) : HoldM (w.setCell ⟨L.g,7,none⟩ (.bool x)) L v { c with F:={ c.F with D:=x } } b n:=Hold.set h 7 _
theorem HoldM.setZ {w : World} {L : Lay} {v : Value} {c : Cpu} {b : Bus} {n : Nat} (h : HoldM w L v c b n) (x : Bool) : HoldM (w.setCell ⟨L.g,9,none⟩ (.bool x)) L v { c with F:={ c.F with Z:=x } } b n:=Hold.set h 9 _
theorem HoldM.setC {w : World} {L : Lay} {v : Value} {c : Cpu} {b : Bus} {n : Nat} (h : HoldM w L v c b n) (x : Bool) : HoldM (w.setCell ⟨L.g,10,none⟩ (.bool x)) L v { c with F:={ c.F with C:=x } } b n:=Hold.set h 10 _
theorem HoldM.setF {w : World} {L : Lay} {v : Value} {c : Cpu} {b : Bus} {n : Nat} (h : HoldM w L v c b n) (f : F6) : HoldM ((((((w.setCell ⟨L.g,5,none⟩ (.bool f.N)).setCell ⟨L.g,6,none⟩ (.bool f.V)).setCell ⟨L.g,7,none⟩ (.bool f.D)).setCell ⟨L.g,8,none⟩ (.bool f.I)).setCell ⟨L.g,9,none⟩ (.bool f.Z)).setCell ⟨L.g,10,none⟩ (.bool f.C)) L v (stF c f) b n:=(((((h.setN f.N).setV f.V).setD f.D).setI f.I).setZ f.Z).setC f.C
theorem Mv.setF {w0 w : World} {L : Lay} {v v' : Value} (h : Mv w0 w L v v') (hg : L.base ≤ L.g) (f : F6) : Mv w0 ((((((w.setCell ⟨L.g,5,none⟩ (.bool f.N)).setCell ⟨L.g,6,none⟩ (.bool f.V)).setCell ⟨L.g,7,none⟩ (.bool f.D)).setCell ⟨L.g,8,none⟩ (.bool f.I)).setCell ⟨L.g,9,none⟩ (.bool f.Z)).setCell ⟨L.g,10,none⟩ (.bool f.C)) L v v':=(((((h.set hg 5 _).set hg 6 _).set hg 7 _).set hg 8 _).set hg 9 _).set hg 10 _
set_option maxRecDepth 20000 in
set_option maxHeartbeats 400000 in
theorem do_LDA (v8 : Int) {w : World} {L : Lay} {v : Value} {c : Cpu} {b : Bus} {n : Nat} (h : HoldM w L v c b n) (hc : c.ok) (h0 : 0 ≤ v8) (h1 : v8 < 256) : Calls Tryz.prog 155 #[.pointer (some ⟨L.g,0,none⟩),.string ⟨#[76,68,65]⟩,.int .u8 v8] w fun e w' => e = .returned (.int .u8 (v8))∧HoldM w' L v (ldA c v8) b n∧Mv w w' L v v:=by
  obtain ⟨e0,e1,e2,e3,e4,e5,e6,e7,e8,e9,e10,_,_,hfz,hlt⟩:=h.facts
  obtain ⟨a0,a1,x0,x1,y0,y1,s0,s1,p0,p1⟩:=hc
  have HB:=hR w;go_enter Tryz.func155,Tryz.ntmps155
  go_wp2_with fail
  refine (impl_NZ _ c.F _ h0 h1).mono ?_
  rintro _ w1 ⟨rfl,hb⟩;have H1:=h.below hb;have M1:=Mv.of_below hb h.size v;clear e0 e1 e2 e3 e4 e5 e6 e7 e8 e9 e10 hfz hlt;obtain ⟨e0,e1,e2,e3,e4,e5,e6,e7,e8,e9,e10,_,_,hfz,hlt⟩:=H1.facts
  go_wp2_with fail
  go_ret
  exact ⟨rfl,HoldM.setF (HoldM.setA H1 _) _,(M1.set (Hold.bg h) 0 _).setF (Hold.bg h) _⟩
set_option maxRecDepth 20000 in
set_option maxHeartbeats 400000 in
theorem do_LDX (v8 : Int) {w : World} {L : Lay} {v : Value} {c : Cpu} {b : Bus} {n : Nat} (h : HoldM w L v c b n) (hc : c.ok) (h0 : 0 ≤ v8) (h1 : v8 < 256) : Calls Tryz.prog 155 #[.pointer (some ⟨L.g,0,none⟩),.string ⟨#[76,68,88]⟩,.int .u8 v8] w fun e w' => e = .returned (.int .u8 (v8))∧HoldM w' L v (ldX c v8) b n∧Mv w w' L v v:=by
  obtain ⟨e0,e1,e2,e3,e4,e5,e6,e7,e8,e9,e10,_,_,hfz,hlt⟩:=h.facts
  obtain ⟨a0,a1,x0,x1,y0,y1,s0,s1,p0,p1⟩:=hc
  have HB:=hR w;go_enter Tryz.func155,Tryz.ntmps155
  go_wp2_with fail
  refine (impl_NZ _ c.F _ h0 h1).mono ?_
  rintro _ w1 ⟨rfl,hb⟩;have H1:=h.below hb;have M1:=Mv.of_below hb h.size v;clear e0 e1 e2 e3 e4 e5 e6 e7 e8 e9 e10 hfz hlt;obtain ⟨e0,e1,e2,e3,e4,e5,e6,e7,e8,e9,e10,_,_,hfz,hlt⟩:=H1.facts
  go_wp2_with fail
  go_ret
  exact ⟨rfl,HoldM.setF (HoldM.setX H1 _) _,(M1.set (Hold.bg h) 1 _).setF (Hold.bg h) _⟩
set_option maxRecDepth 20000 in
set_option maxHeartbeats 400000 in
theorem do_LDY (v8 : Int) {w : World} {L : Lay} {v : Value} {c : Cpu} {b : Bus} {n : Nat} (h : HoldM w L v c b n) (hc : c.ok) (h0 : 0 ≤ v8) (h1 : v8 < 256) : Calls Tryz.prog 155 #[.pointer (some ⟨L.g,0,none⟩),.string ⟨#[76,68,89]⟩,.int .u8 v8] w fun e w' => e = .returned (.int .u8 (v8))∧HoldM w' L v (ldY c v8) b n∧Mv w w' L v v:=by
  obtain ⟨e0,e1,e2,e3,e4,e5,e6,e7,e8,e9,e10,_,_,hfz,hlt⟩:=h.facts
  obtain ⟨a0,a1,x0,x1,y0,y1,s0,s1,p0,p1⟩:=hc
  have HB:=hR w;go_enter Tryz.func155,Tryz.ntmps155
  go_wp2_with fail
  refine (impl_NZ _ c.F _ h0 h1).mono ?_
  rintro _ w1 ⟨rfl,hb⟩;have H1:=h.below hb;have M1:=Mv.of_below hb h.size v;clear e0 e1 e2 e3 e4 e5 e6 e7 e8 e9 e10 hfz hlt;obtain ⟨e0,e1,e2,e3,e4,e5,e6,e7,e8,e9,e10,_,_,hfz,hlt⟩:=H1.facts
  go_wp2_with fail
  go_ret
  exact ⟨rfl,HoldM.setF (HoldM.setY H1 _) _,(M1.set (Hold.bg h) 2 _).setF (Hold.bg h) _⟩
set_option maxRecDepth 20000 in
set_option maxHeartbeats 400000 in
theorem do_ORA (v8 : Int) {w : World} {L : Lay} {v : Value} {c : Cpu} {b : Bus} {n : Nat} (h : HoldM w L v c b n) (hc : c.ok) (h0 : 0 ≤ v8) (h1 : v8 < 256) : Calls Tryz.prog 155 #[.pointer (some ⟨L.g,0,none⟩),.string ⟨#[79,82,65]⟩,.int .u8 v8] w fun e w' => e = .returned (.int .u8 (bits .or .u8 c.A v8))∧HoldM w' L v (ldA c (bits .or .u8 c.A v8)) b n∧Mv w w' L v v:=by
  obtain ⟨e0,e1,e2,e3,e4,e5,e6,e7,e8,e9,e10,_,_,hfz,hlt⟩:=h.facts
  obtain ⟨a0,a1,x0,x1,y0,y1,s0,s1,p0,p1⟩:=hc
  have HB:=hR w;go_enter Tryz.func155,Tryz.ntmps155
  go_wp2_with fail
  have hw:=w8b .or c.A v8
  refine (do_LDA (bits .or .u8 c.A v8) h ⟨a0,a1,x0,x1,y0,y1,s0,s1,p0,p1⟩ hw.1 hw.2).mono ?_
  rintro _ w1 ⟨rfl,H1,M1⟩
  go_wp2_with fail
  go_ret
  exact ⟨rfl,H1,M1⟩
set_option maxRecDepth 20000 in
set_option maxHeartbeats 400000 in
theorem do_AND (v8 : Int) {w : World} {L : Lay} {v : Value} {c : Cpu} {b : Bus} {n : Nat} (h : HoldM w L v c b n) (hc : c.ok) (h0 : 0 ≤ v8) (h1 : v8 < 256) : Calls Tryz.prog 155 #[.pointer (some ⟨L.g,0,none⟩),.string ⟨#[65,78,68]⟩,.int .u8 v8] w fun e w' => e = .returned (.int .u8 (bits .and .u8 c.A v8))∧HoldM w' L v (ldA c (bits .and .u8 c.A v8)) b n∧Mv w w' L v v:=by
  obtain ⟨e0,e1,e2,e3,e4,e5,e6,e7,e8,e9,e10,_,_,hfz,hlt⟩:=h.facts
  obtain ⟨a0,a1,x0,x1,y0,y1,s0,s1,p0,p1⟩:=hc
  have HB:=hR w;go_enter Tryz.func155,Tryz.ntmps155
  go_wp2_with fail
  have hw:=w8b .and c.A v8
  refine (do_LDA (bits .and .u8 c.A v8) h ⟨a0,a1,x0,x1,y0,y1,s0,s1,p0,p1⟩ hw.1 hw.2).mono ?_
  rintro _ w1 ⟨rfl,H1,M1⟩
  go_wp2_with fail
  go_ret
  exact ⟨rfl,H1,M1⟩
set_option maxRecDepth 20000 in
set_option maxHeartbeats 400000 in
theorem do_EOR (v8 : Int) {w : World} {L : Lay} {v : Value} {c : Cpu} {b : Bus} {n : Nat} (h : HoldM w L v c b n) (hc : c.ok) (h0 : 0 ≤ v8) (h1 : v8 < 256) : Calls Tryz.prog 155 #[.pointer (some ⟨L.g,0,none⟩),.string ⟨#[69,79,82]⟩,.int .u8 v8] w fun e w' => e = .returned (.int .u8 (bits .xor .u8 c.A v8))∧HoldM w' L v (ldA c (bits .xor .u8 c.A v8)) b n∧Mv w w' L v v:=by
  obtain ⟨e0,e1,e2,e3,e4,e5,e6,e7,e8,e9,e10,_,_,hfz,hlt⟩:=h.facts
  obtain ⟨a0,a1,x0,x1,y0,y1,s0,s1,p0,p1⟩:=hc
  have HB:=hR w;go_enter Tryz.func155,Tryz.ntmps155
  go_wp2_with fail
  have hw:=w8b .xor c.A v8
  refine (do_LDA (bits .xor .u8 c.A v8) h ⟨a0,a1,x0,x1,y0,y1,s0,s1,p0,p1⟩ hw.1 hw.2).mono ?_
  rintro _ w1 ⟨rfl,H1,M1⟩
  go_wp2_with fail
  go_ret
  exact ⟨rfl,H1,M1⟩
set_option maxRecDepth 20000 in
set_option maxHeartbeats 400000 in
theorem do_ADC (v8 : Int) {w : World} {L : Lay} {v : Value} {c : Cpu} {b : Bus} {n : Nat} (h : HoldM w L v c b n) (hc : c.ok) (h0 : 0 ≤ v8) (h1 : v8 < 256) : Calls Tryz.prog 155 #[.pointer (some ⟨L.g,0,none⟩),.string ⟨#[65,68,67]⟩,.int .u8 v8] w fun e w' => e = .returned (.int .u8 (v8))∧HoldM w' L v (stA c (adc c.A v8 c.F)) b n∧Mv w w' L v v:=by
  obtain ⟨e0,e1,e2,e3,e4,e5,e6,e7,e8,e9,e10,_,_,hfz,hlt⟩:=h.facts
  obtain ⟨a0,a1,x0,x1,y0,y1,s0,s1,p0,p1⟩:=hc
  have HB:=hR w;go_enter Tryz.func155,Tryz.ntmps155
  go_wp2_with fail
  go_region_with (go_at_call 181;((with_reducible refine (impl_Adc _ _ c.F _ a0 a1 h0 h1).mono ?_);rintro _ w1 ⟨rfl,hb⟩;have H1:=HoldM.below (Hold.drew h) hb;have M1:=Mv.then (Mv.drew (Mv.refl w L v h.size) h.size) hb h.size;clear e0 e1 e2 e3 e4 e5 e6 e7 e8 e9 e10 hfz hlt;obtain ⟨e0,e1,e2,e3,e4,e5,e6,e7,e8,e9,e10,_,_,hfz,hlt⟩:=H1.facts))
  all_goals go_wp2_with fail
  all_goals go_ret
  all_goals exact ⟨rfl,HoldM.setF (HoldM.setA H1 _) _,(M1.set (Hold.bg h) 0 _).setF (Hold.bg h) _⟩
set_option maxRecDepth 20000 in
set_option maxHeartbeats 400000 in
theorem do_SBC (v8 : Int) {w : World} {L : Lay} {v : Value} {c : Cpu} {b : Bus} {n : Nat} (h : HoldM w L v c b n) (hc : c.ok) (h0 : 0 ≤ v8) (h1 : v8 < 256) : Calls Tryz.prog 155 #[.pointer (some ⟨L.g,0,none⟩),.string ⟨#[83,66,67]⟩,.int .u8 v8] w fun e w' => e = .returned (.int .u8 (v8))∧HoldM w' L v (stA c (sbc c.A v8 c.F)) b n∧Mv w w' L v v:=by
  obtain ⟨e0,e1,e2,e3,e4,e5,e6,e7,e8,e9,e10,_,_,hfz,hlt⟩:=h.facts
  obtain ⟨a0,a1,x0,x1,y0,y1,s0,s1,p0,p1⟩:=hc
  have HB:=hR w;go_enter Tryz.func155,Tryz.ntmps155
  go_wp2_with fail
  go_region_with (go_at_call 182;((with_reducible refine (impl_Sbc _ _ c.F _ a0 a1 h0 h1).mono ?_);rintro _ w1 ⟨rfl,hb⟩;have H1:=HoldM.below (Hold.drew h) hb;have M1:=Mv.then (Mv.drew (Mv.refl w L v h.size) h.size) hb h.size;clear e0 e1 e2 e3 e4 e5 e6 e7 e8 e9 e10 hfz hlt;obtain ⟨e0,e1,e2,e3,e4,e5,e6,e7,e8,e9,e10,_,_,hfz,hlt⟩:=H1.facts))
  all_goals go_wp2_with fail
  all_goals go_ret
  all_goals exact ⟨rfl,HoldM.setF (HoldM.setA H1 _) _,(M1.set (Hold.bg h) 0 _).setF (Hold.bg h) _⟩
set_option maxRecDepth 20000 in
set_option maxHeartbeats 400000 in
theorem do_CMP (v8 : Int) {w : World} {L : Lay} {v : Value} {c : Cpu} {b : Bus} {n : Nat} (h : HoldM w L v c b n) (hc : c.ok) (h0 : 0 ≤ v8) (h1 : v8 < 256) : Calls Tryz.prog 155 #[.pointer (some ⟨L.g,0,none⟩),.string ⟨#[67,77,80]⟩,.int .u8 v8] w fun e w' => e = .returned (.int .u8 (v8))∧HoldM w' L v (stF c (cmpF c.A v8 c.F)) b n∧Mv w w' L v v:=by
  obtain ⟨e0,e1,e2,e3,e4,e5,e6,e7,e8,e9,e10,_,_,hfz,hlt⟩:=h.facts
  obtain ⟨a0,a1,x0,x1,y0,y1,s0,s1,p0,p1⟩:=hc
  have HB:=hR w;go_enter Tryz.func155,Tryz.ntmps155
  go_wp2_with fail
  go_region_with (go_at_call 183;((with_reducible refine (impl_Cmp _ _ c.F _ a0 a1 h0 h1).mono ?_);rintro _ w1 ⟨rfl,hb⟩;have H1:=HoldM.below (Hold.drew h) hb;have M1:=Mv.then (Mv.drew (Mv.refl w L v h.size) h.size) hb h.size;clear e0 e1 e2 e3 e4 e5 e6 e7 e8 e9 e10 hfz hlt;obtain ⟨e0,e1,e2,e3,e4,e5,e6,e7,e8,e9,e10,_,_,hfz,hlt⟩:=H1.facts))
  all_goals go_wp2_with fail
  all_goals go_ret
  all_goals exact ⟨rfl,HoldM.setF H1 _,M1.setF (Hold.bg h) _⟩
set_option maxRecDepth 20000 in
set_option maxHeartbeats 400000 in
theorem do_CPX (v8 : Int) {w : World} {L : Lay} {v : Value} {c : Cpu} {b : Bus} {n : Nat} (h : HoldM w L v c b n) (hc : c.ok) (h0 : 0 ≤ v8) (h1 : v8 < 256) : Calls Tryz.prog 155 #[.pointer (some ⟨L.g,0,none⟩),.string ⟨#[67,80,88]⟩,.int .u8 v8] w fun e w' => e = .returned (.int .u8 (v8))∧HoldM w' L v (stF c (cmpF c.X v8 c.F)) b n∧Mv w w' L v v:=by
  obtain ⟨e0,e1,e2,e3,e4,e5,e6,e7,e8,e9,e10,_,_,hfz,hlt⟩:=h.facts
  obtain ⟨a0,a1,x0,x1,y0,y1,s0,s1,p0,p1⟩:=hc
  have HB:=hR w;go_enter Tryz.func155,Tryz.ntmps155
  go_wp2_with fail
  go_region_with (go_at_call 183;((with_reducible refine (impl_Cmp _ _ c.F _ x0 x1 h0 h1).mono ?_);rintro _ w1 ⟨rfl,hb⟩;have H1:=HoldM.below (Hold.drew h) hb;have M1:=Mv.then (Mv.drew (Mv.refl w L v h.size) h.size) hb h.size;clear e0 e1 e2 e3 e4 e5 e6 e7 e8 e9 e10 hfz hlt;obtain ⟨e0,e1,e2,e3,e4,e5,e6,e7,e8,e9,e10,_,_,hfz,hlt⟩:=H1.facts))
  all_goals go_wp2_with fail
  all_goals go_ret
  all_goals exact ⟨rfl,HoldM.setF H1 _,M1.setF (Hold.bg h) _⟩
set_option maxRecDepth 20000 in
set_option maxHeartbeats 400000 in
theorem do_CPY (v8 : Int) {w : World} {L : Lay} {v : Value} {c : Cpu} {b : Bus} {n : Nat} (h : HoldM w L v c b n) (hc : c.ok) (h0 : 0 ≤ v8) (h1 : v8 < 256) : Calls Tryz.prog 155 #[.pointer (some ⟨L.g,0,none⟩),.string ⟨#[67,80,89]⟩,.int .u8 v8] w fun e w' => e = .returned (.int .u8 (v8))∧HoldM w' L v (stF c (cmpF c.Y v8 c.F)) b n∧Mv w w' L v v:=by
  obtain ⟨e0,e1,e2,e3,e4,e5,e6,e7,e8,e9,e10,_,_,hfz,hlt⟩:=h.facts
  obtain ⟨a0,a1,x0,x1,y0,y1,s0,s1,p0,p1⟩:=hc
  have HB:=hR w;go_enter Tryz.func155,Tryz.ntmps155
  go_wp2_with fail
  go_region_with (go_at_call 183;((with_reducible refine (impl_Cmp _ _ c.F _ y0 y1 h0 h1).mono ?_);rintro _ w1 ⟨rfl,hb⟩;have H1:=HoldM.below (Hold.drew h) hb;have M1:=Mv.then (Mv.drew (Mv.refl w L v h.size) h.size) hb h.size;clear e0 e1 e2 e3 e4 e5 e6 e7 e8 e9 e10 hfz hlt;obtain ⟨e0,e1,e2,e3,e4,e5,e6,e7,e8,e9,e10,_,_,hfz,hlt⟩:=H1.facts))
  all_goals go_wp2_with fail
  all_goals go_ret
  all_goals exact ⟨rfl,HoldM.setF H1 _,M1.setF (Hold.bg h) _⟩
set_option maxRecDepth 20000 in
set_option maxHeartbeats 400000 in
theorem do_BIT (v8 : Int) {w : World} {L : Lay} {v : Value} {c : Cpu} {b : Bus} {n : Nat} (h : HoldM w L v c b n) (hc : c.ok) (h0 : 0 ≤ v8) (h1 : v8 < 256) : Calls Tryz.prog 155 #[.pointer (some ⟨L.g,0,none⟩),.string ⟨#[66,73,84]⟩,.int .u8 v8] w fun e w' => e = .returned (.int .u8 (v8))∧HoldM w' L v (stF c (bitF c.A v8 c.F)) b n∧Mv w w' L v v:=by
  obtain ⟨e0,e1,e2,e3,e4,e5,e6,e7,e8,e9,e10,_,_,hfz,hlt⟩:=h.facts
  obtain ⟨a0,a1,x0,x1,y0,y1,s0,s1,p0,p1⟩:=hc
  have HB:=hR w;go_enter Tryz.func155,Tryz.ntmps155
  go_wp2_with fail
  go_region_with (go_at_call 184;((with_reducible refine (impl_BitTest _ _ c.F _ a0 a1 h0 h1).mono ?_);rintro _ w1 ⟨rfl,hb⟩;have H1:=HoldM.below (Hold.drew h) hb;have M1:=Mv.then (Mv.drew (Mv.refl w L v h.size) h.size) hb h.size;clear e0 e1 e2 e3 e4 e5 e6 e7 e8 e9 e10 hfz hlt;obtain ⟨e0,e1,e2,e3,e4,e5,e6,e7,e8,e9,e10,_,_,hfz,hlt⟩:=H1.facts))
  all_goals go_wp2_with fail
  all_goals go_ret
  all_goals exact ⟨rfl,HoldM.setF H1 _,M1.setF (Hold.bg h) _⟩
set_option maxRecDepth 20000 in
set_option maxHeartbeats 400000 in
theorem do_ASL (v8 : Int) {w : World} {L : Lay} {v : Value} {c : Cpu} {b : Bus} {n : Nat} (h : HoldM w L v c b n) (hc : c.ok) (h0 : 0 ≤ v8) (h1 : v8 < 256) : Calls Tryz.prog 155 #[.pointer (some ⟨L.g,0,none⟩),.string ⟨#[65,83,76]⟩,.int .u8 v8] w fun e w' => e = .returned (.int .u8 ((aslT v8 c.F).1))∧HoldM w' L v (stF c (aslT v8 c.F).2) b n∧Mv w w' L v v:=by
  obtain ⟨e0,e1,e2,e3,e4,e5,e6,e7,e8,e9,e10,_,_,hfz,hlt⟩:=h.facts
  obtain ⟨a0,a1,x0,x1,y0,y1,s0,s1,p0,p1⟩:=hc
  have HB:=hR w;go_enter Tryz.func155,Tryz.ntmps155
  go_wp2_with fail
  refine (impl_Asl _ c.F _ h0 h1).mono ?_
  rintro _ w1 ⟨rfl,hb⟩;have H1:=h.below hb;have M1:=Mv.of_below hb h.size v;clear e0 e1 e2 e3 e4 e5 e6 e7 e8 e9 e10 hfz hlt;obtain ⟨e0,e1,e2,e3,e4,e5,e6,e7,e8,e9,e10,_,_,hfz,hlt⟩:=H1.facts
  go_wp2_with fail
  go_ret
  exact ⟨rfl,HoldM.setF H1 _,M1.setF (Hold.bg h) _⟩
set_option maxRecDepth 20000 in
set_option maxHeartbeats 400000 in
theorem do_LSR (v8 : Int) {w : World} {L : Lay} {v : Value} {c : Cpu} {b : Bus} {n : Nat} (h : HoldM w L v c b n) (hc : c.ok) (h0 : 0 ≤ v8) (h1 : v8 < 256) : Calls Tryz.prog 155 #[.pointer (some ⟨L.g,0,none⟩),.string ⟨#[76,83,82]⟩,.int .u8 v8] w fun e w' => e = .returned (.int .u8 ((lsrT v8 c.F).1))∧HoldM w' L v (stF c (lsrT v8 c.F).2) b n∧Mv w w' L v v:=by
  obtain ⟨e0,e1,e2,e3,e4,e5,e6,e7,e8,e9,e10,_,_,hfz,hlt⟩:=h.facts
  obtain ⟨a0,a1,x0,x1,y0,y1,s0,s1,p0,p1⟩:=hc
  have HB:=hR w;go_enter Tryz.func155,Tryz.ntmps155
  go_wp2_with fail
  refine (impl_Lsr _ c.F _ h0 h1).mono ?_
  rintro _ w1 ⟨rfl,hb⟩;have H1:=h.below hb;have M1:=Mv.of_below hb h.size v;clear e0 e1 e2 e3 e4 e5 e6 e7 e8 e9 e10 hfz hlt;obtain ⟨e0,e1,e2,e3,e4,e5,e6,e7,e8,e9,e10,_,_,hfz,hlt⟩:=H1.facts
  go_wp2_with fail
  go_ret
  exact ⟨rfl,HoldM.setF H1 _,M1.setF (Hold.bg h) _⟩
set_option maxRecDepth 20000 in
set_option maxHeartbeats 400000 in
theorem do_ROL (v8 : Int) {w : World} {L : Lay} {v : Value} {c : Cpu} {b : Bus} {n : Nat} (h : HoldM w L v c b n) (hc : c.ok) (h0 : 0 ≤ v8) (h1 : v8 < 256) : Calls Tryz.prog 155 #[.pointer (some ⟨L.g,0,none⟩),.string ⟨#[82,79,76]⟩,.int .u8 v8] w fun e w' => e = .returned (.int .u8 ((rolT v8 c.F).1))∧HoldM w' L v (stF c (rolT v8 c.F).2) b n∧Mv w w' L v v:=by
  obtain ⟨e0,e1,e2,e3,e4,e5,e6,e7,e8,e9,e10,_,_,hfz,hlt⟩:=h.facts
  obtain ⟨a0,a1,x0,x1,y0,y1,s0,s1,p0,p1⟩:=hc
  have HB:=hR w;go_enter Tryz.func155,Tryz.ntmps155
  go_wp2_with fail
  refine (impl_Rol _ c.F _ h0 h1).mono ?_
  rintro _ w1 ⟨rfl,hb⟩;have H1:=h.below hb;have M1:=Mv.of_below hb h.size v;clear e0 e1 e2 e3 e4 e5 e6 e7 e8 e9 e10 hfz hlt;obtain ⟨e0,e1,e2,e3,e4,e5,e6,e7,e8,e9,e10,_,_,hfz,hlt⟩:=H1.facts
  go_wp2_with fail
  go_ret
  exact ⟨rfl,HoldM.setF H1 _,M1.setF (Hold.bg h) _⟩
set_option maxRecDepth 20000 in
set_option maxHeartbeats 400000 in
theorem do_ROR (v8 : Int) {w : World} {L : Lay} {v : Value} {c : Cpu} {b : Bus} {n : Nat} (h : HoldM w L v c b n) (hc : c.ok) (h0 : 0 ≤ v8) (h1 : v8 < 256) : Calls Tryz.prog 155 #[.pointer (some ⟨L.g,0,none⟩),.string ⟨#[82,79,82]⟩,.int .u8 v8] w fun e w' => e = .returned (.int .u8 ((rorT v8 c.F).1))∧HoldM w' L v (stF c (rorT v8 c.F).2) b n∧Mv w w' L v v:=by
  obtain ⟨e0,e1,e2,e3,e4,e5,e6,e7,e8,e9,e10,_,_,hfz,hlt⟩:=h.facts
  obtain ⟨a0,a1,x0,x1,y0,y1,s0,s1,p0,p1⟩:=hc
  have HB:=hR w;go_enter Tryz.func155,Tryz.ntmps155
  go_wp2_with fail
  refine (impl_Ror _ c.F _ h0 h1).mono ?_
  rintro _ w1 ⟨rfl,hb⟩;have H1:=h.below hb;have M1:=Mv.of_below hb h.size v;clear e0 e1 e2 e3 e4 e5 e6 e7 e8 e9 e10 hfz hlt;obtain ⟨e0,e1,e2,e3,e4,e5,e6,e7,e8,e9,e10,_,_,hfz,hlt⟩:=H1.facts
  go_wp2_with fail
  go_ret
  exact ⟨rfl,HoldM.setF H1 _,M1.setF (Hold.bg h) _⟩
set_option maxRecDepth 20000 in
set_option maxHeartbeats 400000 in
theorem do_INC (v8 : Int) {w : World} {L : Lay} {v : Value} {c : Cpu} {b : Bus} {n : Nat} (h : HoldM w L v c b n) (hc : c.ok) (h0 : 0 ≤ v8) (h1 : v8 < 256) : Calls Tryz.prog 155 #[.pointer (some ⟨L.g,0,none⟩),.string ⟨#[73,78,67]⟩,.int .u8 v8] w fun e w' => e = .returned (.int .u8 ((v8+1) % 256))∧HoldM w' L v (stF c (nz ((v8+1) % 256) c.F)) b n∧Mv w w' L v v:=by
  obtain ⟨e0,e1,e2,e3,e4,e5,e6,e7,e8,e9,e10,_,_,hfz,hlt⟩:=h.facts
  obtain ⟨a0,a1,x0,x1,y0,y1,s0,s1,p0,p1⟩:=hc
  have HB:=hR w;go_enter Tryz.func155,Tryz.ntmps155
  go_wp2_with fail
  refine (impl_NZ _ c.F _ (by omega) (by omega)).mono ?_
  rintro _ w1 ⟨rfl,hb⟩;have H1:=h.below hb;have M1:=Mv.of_below hb h.size v;clear e0 e1 e2 e3 e4 e5 e6 e7 e8 e9 e10 hfz hlt;obtain ⟨e0,e1,e2,e3,e4,e5,e6,e7,e8,e9,e10,_,_,hfz,hlt⟩:=H1.facts
  go_wp2_with fail
  go_ret
  exact ⟨rfl,HoldM.setF H1 _,M1.setF (Hold.bg h) _⟩
set_option maxRecDepth 20000 in
set_option maxHeartbeats 400000 in
theorem do_DEC (v8 : Int) {w : World} {L : Lay} {v : Value} {c : Cpu} {b : Bus} {n : Nat} (h : HoldM w L v c b n) (hc : c.ok) (h0 : 0 ≤ v8) (h1 : v8 < 256) : Calls Tryz.prog 155 #[.pointer (some ⟨L.g,0,none⟩),.string ⟨#[68,69,67]⟩,.int .u8 v8] w fun e w' => e = .returned (.int .u8 ((v8 - 1) % 256))∧HoldM w' L v (stF c (nz ((v8 - 1) % 256) c.F)) b n∧Mv w w' L v v:=by
  obtain ⟨e0,e1,e2,e3,e4,e5,e6,e7,e8,e9,e10,_,_,hfz,hlt⟩:=h.facts
  obtain ⟨a0,a1,x0,x1,y0,y1,s0,s1,p0,p1⟩:=hc
  have HB:=hR w;go_enter Tryz.func155,Tryz.ntmps155
  go_wp2_with fail
  refine (impl_NZ _ c.F _ (by omega) (by omega)).mono ?_
  rintro _ w1 ⟨rfl,hb⟩;have H1:=h.below hb;have M1:=Mv.of_below hb h.size v;clear e0 e1 e2 e3 e4 e5 e6 e7 e8 e9 e10 hfz hlt;obtain ⟨e0,e1,e2,e3,e4,e5,e6,e7,e8,e9,e10,_,_,hfz,hlt⟩:=H1.facts
  go_wp2_with fail
  go_ret
  exact ⟨rfl,HoldM.setF H1 _,M1.setF (Hold.bg h) _⟩
set_option maxRecDepth 20000 in
set_option maxHeartbeats 1000000 in
theorem impl_do (x : List UInt8) (v8 : Int) {w : World} {L : Lay} {v : Value} {c : Cpu} {b : Bus} {n : Nat} (h : HoldM w L v c b n) (hc : c.ok) (h0 : 0 ≤ v8) (h1 : v8 < 256) : Calls Tryz.prog 155 #[.pointer (some ⟨L.g,0,none⟩),.string ⟨x.toArray⟩,.int .u8 v8] w fun e w' => e = .returned (.int .u8 (doT x c v8).2)∧HoldM w' L v (doT x c v8).1 b n∧Mv w w' L v v:=by
  refine do_cases c v8 x (fun x c1 r => Calls Tryz.prog 155 #[.pointer (some ⟨L.g,0,none⟩),.string ⟨x.toArray⟩,.int .u8 v8] w fun e w' => e = .returned (.int .u8 r)∧HoldM w' L v c1 b n∧Mv w w' L v v) (do_LDA v8 h hc h0 h1) (do_LDX v8 h hc h0 h1) (do_LDY v8 h hc h0 h1) (do_ORA v8 h hc h0 h1) (do_AND v8 h hc h0 h1) (do_EOR v8 h hc h0 h1) (do_ADC v8 h hc h0 h1) (do_SBC v8 h hc h0 h1) (do_CMP v8 h hc h0 h1) (do_CPX v8 h hc h0 h1) (do_CPY v8 h hc h0 h1) (do_BIT v8 h hc h0 h1) (do_ASL v8 h hc h0 h1) (do_LSR v8 h hc h0 h1) (do_ROL v8 h hc h0 h1) (do_ROR v8 h hc h0 h1) (do_INC v8 h hc h0 h1) (do_DEC v8 h hc h0 h1) ?_
  intro q0 q1 q2 q3 q4 q5 q6 q7 q8 q9 q10 q11 q12 q13 q14 q15 q16 q17
  obtain ⟨e0,e1,e2,e3,e4,e5,e6,e7,e8,e9,e10,_,_,hfz,hlt⟩:=h.facts
  have HB:=hR w;go_enter Tryz.func155,Tryz.ntmps155
  go_wp2_with fail
  go_ret
  exact ⟨rfl,h,Mv.refl w L v h.size⟩
end Go.Proofs.YtoncmhfmkfeolaaGreatDoor
