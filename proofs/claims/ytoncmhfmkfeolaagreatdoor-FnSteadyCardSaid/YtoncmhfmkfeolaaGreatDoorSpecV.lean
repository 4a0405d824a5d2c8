/- What the reference's operations do without an operand (printed by wip/mkspu.py). -/
import Derived.Test.YtoncmhfmkfeolaaGreatDoorGJ
set_option linter.unusedVariables false
set_option linter.unusedSimpArgs false
namespace Go.Proofs.YtoncmhfmkfeolaaGreatDoor
open Go.RowKit Go.Proofs.YtoncmhfmkfeolaaGreatDoorW.PrintWords
theorem NZ_w (a : Int) (f : F6) (w : World) (h0 : 0 ≤ a) (h1 : a < 256) : Calls Tryz.prog 168 #[.int .u8 a,.agg #[.bool f.N,.bool f.V,.bool f.D,.bool f.I,.bool f.Z,.bool f.C]] w fun e w' => e = .returned (.agg #[.bool (nz a f).N,.bool (nz a f).V,.bool (nz a f).D,.bool (nz a f).I,.bool (nz a f).Z,.bool (nz a f).C])∧w' = (w.alloc (.cells #[.bool (nz a f).N,.bool (nz a f).V,.bool (nz a f).D,.bool (nz a f).I,.bool (nz a f).Z,.bool (nz a f).C] 26)).alloc (.cells #[.bool (nz a f).N,.bool (nz a f).V,.bool (nz a f).D,.bool (nz a f).I,.bool (nz a f).Z,.bool (nz a f).C] 26):=by
  have HB:=hR w;go_enter Tryz.func168,Tryz.ntmps168
  go_wp2
  (refine bodyPost_ret (v:=.agg #[.bool (nz a f).N,.bool (nz a f).V,.bool (nz a f).D,.bool (nz a f).I,.bool (nz a f).Z,.bool (nz a f).C]) (by (simp only [results,Tryz.results168];go_simp <;> ((simp [nz];done)))) rfl ?_)
  exact ⟨rfl,rfl⟩
theorem flag_w (x : List UInt8) (f : F6) (w : World) (q0 : (x == [67,76,67]) = false) (q1 : (x == [83,69,67]) = false) (q2 : (x == [67,76,73]) = false) (q3 : (x == [83,69,73]) = false) (q4 : (x == [67,76,86]) = false) (q5 : (x == [67,76,68]) = false) (q6 : (x == [83,69,68]) = false) : Calls Tryz.prog 169 #[.agg #[.bool f.N,.bool f.V,.bool f.D,.bool f.I,.bool f.Z,.bool f.C],.string ⟨x.toArray⟩] w fun e w' => e = .returned (.agg #[.bool f.N,.bool f.V,.bool f.D,.bool f.I,.bool f.Z,.bool f.C])∧w' = (w.alloc (.cells #[.bool f.N,.bool f.V,.bool f.D,.bool f.I,.bool f.Z,.bool f.C] 26)).alloc (.cells #[.bool f.N,.bool f.V,.bool f.D,.bool f.I,.bool f.Z,.bool f.C] 26):=by
  have HB:=hR w;go_enter Tryz.func169,Tryz.ntmps169
  go_wp2
  (refine bodyPost_ret (v:=.agg #[.bool f.N,.bool f.V,.bool f.D,.bool f.I,.bool f.Z,.bool f.C]) (by (simp only [results,Tryz.results169];go_simp <;> (rfl))) rfl ?_)
  exact ⟨rfl,rfl⟩
set_option maxRecDepth 20000 in
set_option maxHeartbeats 1000000 in
theorem impS_ASL (c : Cpu) (m : Int) (w : World) (hm : (m == 1) = true) (hc : c.ok) : Calls Tryz.prog 124 #[.agg #[.int .u8 c.A,.int .u8 c.X,.int .u8 c.Y,.int .u8 c.S,.int .u16 c.PC,.bool c.F.N,.bool c.F.V,.bool c.F.D,.bool c.F.I,.bool c.F.Z,.bool c.F.C],.string ⟨#[65,83,76]⟩,.int .i64 m] w fun e w' => e = .returned (.agg #[.int .u8 (stA c (aslT c.A c.F)).A,.int .u8 (stA c (aslT c.A c.F)).X,.int .u8 (stA c (aslT c.A c.F)).Y,.int .u8 (stA c (aslT c.A c.F)).S,.int .u16 (stA c (aslT c.A c.F)).PC,.bool (stA c (aslT c.A c.F)).F.N,.bool (stA c (aslT c.A c.F)).F.V,.bool (stA c (aslT c.A c.F)).F.D,.bool (stA c (aslT c.A c.F)).F.I,.bool (stA c (aslT c.A c.F)).F.Z,.bool (stA c (aslT c.A c.F)).F.C])∧Below w.heap.size w w':=by
  obtain ⟨a0,a1,x0,x1,y0,y1,s0,s1,p0,p1⟩:=hc
  obtain rfl : m = 1:=by simpa using hm
  have HB:=hR w;go_enter Tryz.func124,Tryz.ntmps124
  go_wp2_with fail
  refine (chg_ASL c c.A _ a0 a1).mono ?_
  rintro _ w1 ⟨rfl,hb⟩
  (have HB:=Aside0.mk (below_step (w:=w) blw hb);have hz1:=hb.size;obtain ⟨hcl1,hfr1,hlt1,_⟩:=bcell hb;(try simp only [sA,sC,sD] at hz1);(try simp only [sA,sC,sD] at hcl1 hfr1 hlt1);have hk1_0 : w.heap.size < w1.heap.size:=(by omega);have hk1_1 : w.heap.size+1 < w1.heap.size:=(by omega);have HB1:=hR w1;clear hb)
  go_wp2_with fail
  (refine bodyPost_ret (v:=.agg #[.int .u8 (stA c (aslT c.A c.F)).A,.int .u8 (stA c (aslT c.A c.F)).X,.int .u8 (stA c (aslT c.A c.F)).Y,.int .u8 (stA c (aslT c.A c.F)).S,.int .u16 (stA c (aslT c.A c.F)).PC,.bool (stA c (aslT c.A c.F)).F.N,.bool (stA c (aslT c.A c.F)).F.V,.bool (stA c (aslT c.A c.F)).F.D,.bool (stA c (aslT c.A c.F)).F.I,.bool (stA c (aslT c.A c.F)).F.Z,.bool (stA c (aslT c.A c.F)).F.C]) (by (simp only [results,Tryz.results124];go_simp <;> ((first | rfl | (simp [flgT,ldA,ldX,ldY,stA,stF];done) | (refine ⟨?_,?_,?_,?_,?_,?_⟩ <;> rfl))))) rfl ?_)
  exact ⟨rfl,blw⟩
set_option maxRecDepth 20000 in
set_option maxHeartbeats 1000000 in
theorem impS_LSR (c : Cpu) (m : Int) (w : World) (hm : (m == 1) = true) (hc : c.ok) : Calls Tryz.prog 124 #[.agg #[.int .u8 c.A,.int .u8 c.X,.int .u8 c.Y,.int .u8 c.S,.int .u16 c.PC,.bool c.F.N,.bool c.F.V,.bool c.F.D,.bool c.F.I,.bool c.F.Z,.bool c.F.C],.string ⟨#[76,83,82]⟩,.int .i64 m] w fun e w' => e = .returned (.agg #[.int .u8 (stA c (lsrT c.A c.F)).A,.int .u8 (stA c (lsrT c.A c.F)).X,.int .u8 (stA c (lsrT c.A c.F)).Y,.int .u8 (stA c (lsrT c.A c.F)).S,.int .u16 (stA c (lsrT c.A c.F)).PC,.bool (stA c (lsrT c.A c.F)).F.N,.bool (stA c (lsrT c.A c.F)).F.V,.bool (stA c (lsrT c.A c.F)).F.D,.bool (stA c (lsrT c.A c.F)).F.I,.bool (stA c (lsrT c.A c.F)).F.Z,.bool (stA c (lsrT c.A c.F)).F.C])∧Below w.heap.size w w':=by
  obtain ⟨a0,a1,x0,x1,y0,y1,s0,s1,p0,p1⟩:=hc
  obtain rfl : m = 1:=by simpa using hm
  have HB:=hR w;go_enter Tryz.func124,Tryz.ntmps124
  go_wp2_with fail
  refine (chg_LSR c c.A _ a0 a1).mono ?_
  rintro _ w1 ⟨rfl,hb⟩
  (have HB:=Aside0.mk (below_step (w:=w) blw hb);have hz1:=hb.size;obtain ⟨hcl1,hfr1,hlt1,_⟩:=bcell hb;(try simp only [sA,sC,sD] at hz1);(try simp only [sA,sC,sD] at hcl1 hfr1 hlt1);have hk1_0 : w.heap.size < w1.heap.size:=(by omega);have hk1_1 : w.heap.size+1 < w1.heap.size:=(by omega);have HB1:=hR w1;clear hb)
  go_wp2_with fail
  (refine bodyPost_ret (v:=.agg #[.int .u8 (stA c (lsrT c.A c.F)).A,.int .u8 (stA c (lsrT c.A c.F)).X,.int .u8 (stA c (lsrT c.A c.F)).Y,.int .u8 (stA c (lsrT c.A c.F)).S,.int .u16 (stA c (lsrT c.A c.F)).PC,.bool (stA c (lsrT c.A c.F)).F.N,.bool (stA c (lsrT c.A c.F)).F.V,.bool (stA c (lsrT c.A c.F)).F.D,.bool (stA c (lsrT c.A c.F)).F.I,.bool (stA c (lsrT c.A c.F)).F.Z,.bool (stA c (lsrT c.A c.F)).F.C]) (by (simp only [results,Tryz.results124];go_simp <;> ((first | rfl | (simp [flgT,ldA,ldX,ldY,stA,stF];done) | (refine ⟨?_,?_,?_,?_,?_,?_⟩ <;> rfl))))) rfl ?_)
  exact ⟨rfl,blw⟩
set_option maxRecDepth 20000 in
set_option maxHeartbeats 1000000 in
theorem impS_ROL (c : Cpu) (m : Int) (w : World) (hm : (m == 1) = true) (hc : c.ok) : Calls Tryz.prog 124 #[.agg #[.int .u8 c.A,.int .u8 c.X,.int .u8 c.Y,.int .u8 c.S,.int .u16 c.PC,.bool c.F.N,.bool c.F.V,.bool c.F.D,.bool c.F.I,.bool c.F.Z,.bool c.F.C],.string ⟨#[82,79,76]⟩,.int .i64 m] w fun e w' => e = .returned (.agg #[.int .u8 (stA c (rolT c.A c.F)).A,.int .u8 (stA c (rolT c.A c.F)).X,.int .u8 (stA c (rolT c.A c.F)).Y,.int .u8 (stA c (rolT c.A c.F)).S,.int .u16 (stA c (rolT c.A c.F)).PC,.bool (stA c (rolT c.A c.F)).F.N,.bool (stA c (rolT c.A c.F)).F.V,.bool (stA c (rolT c.A c.F)).F.D,.bool (stA c (rolT c.A c.F)).F.I,.bool (stA c (rolT c.A c.F)).F.Z,.bool (stA c (rolT c.A c.F)).F.C])∧Below w.heap.size w w':=by
  obtain ⟨a0,a1,x0,x1,y0,y1,s0,s1,p0,p1⟩:=hc
  obtain rfl : m = 1:=by simpa using hm
  have HB:=hR w;go_enter Tryz.func124,Tryz.ntmps124
  go_wp2_with fail
  refine (chg_ROL c c.A _ a0 a1).mono ?_
  rintro _ w1 ⟨rfl,hb⟩
  (have HB:=Aside0.mk (below_step (w:=w) blw hb);have hz1:=hb.size;obtain ⟨hcl1,hfr1,hlt1,_⟩:=bcell hb;(try simp only [sA,sC,sD] at hz1);(try simp only [sA,sC,sD] at hcl1 hfr1 hlt1);have hk1_0 : w.heap.size < w1.heap.size:=(by omega);have hk1_1 : w.heap.size+1 < w1.heap.size:=(by omega);have HB1:=hR w1;clear hb)
  go_wp2_with fail
  (refine bodyPost_ret (v:=.agg #[.int .u8 (stA c (rolT c.A c.F)).A,.int .u8 (stA c (rolT c.A c.F)).X,.int .u8 (stA c (rolT c.A c.F)).Y,.int .u8 (stA c (rolT c.A c.F)).S,.int .u16 (stA c (rolT c.A c.F)).PC,.bool (stA c (rolT c.A c.F)).F.N,.bool (stA c (rolT c.A c.F)).F.V,.bool (stA c (rolT c.A c.F)).F.D,.bool (stA c (rolT c.A c.F)).F.I,.bool (stA c (rolT c.A c.F)).F.Z,.bool (stA c (rolT c.A c.F)).F.C]) (by (simp only [results,Tryz.results124];go_simp <;> ((first | rfl | (simp [flgT,ldA,ldX,ldY,stA,stF];done) | (refine ⟨?_,?_,?_,?_,?_,?_⟩ <;> rfl))))) rfl ?_)
  exact ⟨rfl,blw⟩
set_option maxRecDepth 20000 in
set_option maxHeartbeats 1000000 in
theorem impS_ROR (c : Cpu) (m : Int) (w : World) (hm : (m == 1) = true) (hc : c.ok) : Calls Tryz.prog 124 #[.agg #[.int .u8 c.A,.int .u8 c.X,.int .u8 c.Y,.int .u8 c.S,.int .u16 c.PC,.bool c.F.N,.bool c.F.V,.bool c.F.D,.bool c.F.I,.bool c.F.Z,.bool c.F.C],.string ⟨#[82,79,82]⟩,.int .i64 m] w fun e w' => e = .returned (.agg #[.int .u8 (stA c (rorT c.A c.F)).A,.int .u8 (stA c (rorT c.A c.F)).X,.int .u8 (stA c (rorT c.A c.F)).Y,.int .u8 (stA c (rorT c.A c.F)).S,.int .u16 (stA c (rorT c.A c.F)).PC,.bool (stA c (rorT c.A c.F)).F.N,.bool (stA c (rorT c.A c.F)).F.V,.bool (stA c (rorT c.A c.F)).F.D,.bool (stA c (rorT c.A c.F)).F.I,.bool (stA c (rorT c.A c.F)).F.Z,.bool (stA c (rorT c.A c.F)).F.C])∧Below w.heap.size w w':=by
  obtain ⟨a0,a1,x0,x1,y0,y1,s0,s1,p0,p1⟩:=hc
  obtain rfl : m = 1:=by simpa using hm
  have HB:=hR w;go_enter Tryz.func124,Tryz.ntmps124
  go_wp2_with fail
  refine (chg_ROR c c.A _ a0 a1).mono ?_
  rintro _ w1 ⟨rfl,hb⟩
  (have HB:=Aside0.mk (below_step (w:=w) blw hb);have hz1:=hb.size;obtain ⟨hcl1,hfr1,hlt1,_⟩:=bcell hb;(try simp only [sA,sC,sD] at hz1);(try simp only [sA,sC,sD] at hcl1 hfr1 hlt1);have hk1_0 : w.heap.size < w1.heap.size:=(by omega);have hk1_1 : w.heap.size+1 < w1.heap.size:=(by omega);have HB1:=hR w1;clear hb)
  go_wp2_with fail
  (refine bodyPost_ret (v:=.agg #[.int .u8 (stA c (rorT c.A c.F)).A,.int .u8 (stA c (rorT c.A c.F)).X,.int .u8 (stA c (rorT c.A c.F)).Y,.int .u8 (stA c (rorT c.A c.F)).S,.int .u16 (stA c (rorT c.A c.F)).PC,.bool (stA c (rorT c.A c.F)).F.N,.bool (stA c (rorT c.A c.F)).F.V,.bool (stA c (rorT c.A c.F)).F.D,.bool (stA c (rorT c.A c.F)).F.I,.bool (stA c (rorT c.A c.F)).F.Z,.bool (stA c (rorT c.A c.F)).F.C]) (by (simp only [results,Tryz.results124];go_simp <;> ((first | rfl | (simp [flgT,ldA,ldX,ldY,stA,stF];done) | (refine ⟨?_,?_,?_,?_,?_,?_⟩ <;> rfl))))) rfl ?_)
  exact ⟨rfl,blw⟩
set_option maxRecDepth 20000 in
set_option maxHeartbeats 1000000 in
theorem impS_INX (c : Cpu) (m : Int) (w : World) (hm : (m == 1) = false) (hc : c.ok) : Calls Tryz.prog 124 #[.agg #[.int .u8 c.A,.int .u8 c.X,.int .u8 c.Y,.int .u8 c.S,.int .u16 c.PC,.bool c.F.N,.bool c.F.V,.bool c.F.D,.bool c.F.I,.bool c.F.Z,.bool c.F.C],.string ⟨#[73,78,88]⟩,.int .i64 m] w fun e w' => e = .returned (.agg #[.int .u8 (ldX c ((c.X+1) % 256)).A,.int .u8 (ldX c ((c.X+1) % 256)).X,.int .u8 (ldX c ((c.X+1) % 256)).Y,.int .u8 (ldX c ((c.X+1) % 256)).S,.int .u16 (ldX c ((c.X+1) % 256)).PC,.bool (ldX c ((c.X+1) % 256)).F.N,.bool (ldX c ((c.X+1) % 256)).F.V,.bool (ldX c ((c.X+1) % 256)).F.D,.bool (ldX c ((c.X+1) % 256)).F.I,.bool (ldX c ((c.X+1) % 256)).F.Z,.bool (ldX c ((c.X+1) % 256)).F.C])∧Below w.heap.size w w':=by
  obtain ⟨a0,a1,x0,x1,y0,y1,s0,s1,p0,p1⟩:=hc
  have hf:=fun W => flag_w [73,78,88] (nz ((c.X+1) % 256) c.F) W rfl rfl rfl rfl rfl rfl rfl
  obtain ⟨f,hfe⟩ : ∃ f,nz ((c.X+1) % 256) c.F = f:=⟨_,rfl⟩
  have hz:=fun W => NZ_w ((c.X+1) % 256) c.F W (by omega) (by omega)
  rw [hfe] at hf hz
  rw [show ldX c ((c.X+1) % 256) = { { c with X:=((c.X+1) % 256) } with F:=f } from by rw [← hfe];rfl]
  clear hfe
  have HB:=hR w;go_enter Tryz.func124,Tryz.ntmps124
  go_wp2_with fail
  refine Calls.mono (hz _) ?_
  rintro _ _ ⟨rfl,rfl⟩
  go_wp2_with fail
  refine Calls.mono (hf _) ?_
  rintro _ _ ⟨rfl,rfl⟩
  go_wp2_with fail
  (refine bodyPost_ret (v:=.agg #[.int .u8 ({ { c with X:=((c.X+1) % 256) } with F:=f }).A,.int .u8 ({ { c with X:=((c.X+1) % 256) } with F:=f }).X,.int .u8 ({ { c with X:=((c.X+1) % 256) } with F:=f }).Y,.int .u8 ({ { c with X:=((c.X+1) % 256) } with F:=f }).S,.int .u16 ({ { c with X:=((c.X+1) % 256) } with F:=f }).PC,.bool ({ { c with X:=((c.X+1) % 256) } with F:=f }).F.N,.bool ({ { c with X:=((c.X+1) % 256) } with F:=f }).F.V,.bool ({ { c with X:=((c.X+1) % 256) } with F:=f }).F.D,.bool ({ { c with X:=((c.X+1) % 256) } with F:=f }).F.I,.bool ({ { c with X:=((c.X+1) % 256) } with F:=f }).F.Z,.bool ({ { c with X:=((c.X+1) % 256) } with F:=f }).F.C]) (by (simp only [results,Tryz.results124];go_simp <;> ((first | rfl | (simp [flgT,ldA,ldX,ldY,stA,stF];done) | (refine ⟨?_,?_,?_,?_,?_,?_⟩ <;> rfl))))) rfl ?_)
  exact ⟨rfl,blw⟩
set_option maxRecDepth 20000 in
set_option maxHeartbeats 1000000 in
theorem impS_INY (c : Cpu) (m : Int) (w : World) (hm : (m == 1) = false) (hc : c.ok) : Calls Tryz.prog 124 #[.agg #[.int .u8 c.A,.int .u8 c.X,.int .u8 c.Y,.int .u8 c.S,.int .u16 c.PC,.bool c.F.N,.bool c.F.V,.bool c.F.D,.bool c.F.I,.bool c.F.Z,.bool c.F.C],.string ⟨#[73,78,89]⟩,.int .i64 m] w fun e w' => e = .returned (.agg #[.int .u8 (ldY c ((c.Y+1) % 256)).A,.int .u8 (ldY c ((c.Y+1) % 256)).X,.int .u8 (ldY c ((c.Y+1) % 256)).Y,.int .u8 (ldY c ((c.Y+1) % 256)).S,.int .u16 (ldY c ((c.Y+1) % 256)).PC,.bool (ldY c ((c.Y+1) % 256)).F.N,.bool (ldY c ((c.Y+1) % 256)).F.V,.bool (ldY c ((c.Y+1) % 256)).F.D,.bool (ldY c ((c.Y+1) % 256)).F.I,.bool (ldY c ((c.Y+1) % 256)).F.Z,.bool (ldY c ((c.Y+1) % 256)).F.C])∧Below w.heap.size w w':=by
  obtain ⟨a0,a1,x0,x1,y0,y1,s0,s1,p0,p1⟩:=hc
  have hf:=fun W => flag_w [73,78,89] (nz ((c.Y+1) % 256) c.F) W rfl rfl rfl rfl rfl rfl rfl
  obtain ⟨f,hfe⟩ : ∃ f,nz ((c.Y+1) % 256) c.F = f:=⟨_,rfl⟩
  have hz:=fun W => NZ_w ((c.Y+1) % 256) c.F W (by omega) (by omega)
  rw [hfe] at hf hz
  rw [show ldY c ((c.Y+1) % 256) = { { c with Y:=((c.Y+1) % 256) } with F:=f } from by rw [← hfe];rfl]
  clear hfe
  have HB:=hR w;go_enter Tryz.func124,Tryz.ntmps124
  go_wp2_with fail
  refine Calls.mono (hz _) ?_
  rintro _ _ ⟨rfl,rfl⟩
  go_wp2_with fail
  refine Calls.mono (hf _) ?_
  rintro _ _ ⟨rfl,rfl⟩
  go_wp2_with fail
  (refine bodyPost_ret (v:=.agg #[.int .u8 ({ { c with Y:=((c.Y+1) % 256) } with F:=f }).A,.int .u8 ({ { c with Y:=((c.Y+1) % 256) } with F:=f }).X,.int .u8 ({ { c with Y:=((c.Y+1) % 256) } with F:=f }).Y,.int .u8 ({ { c with Y:=((c.Y+1) % 256) } with F:=f }).S,.int .u16 ({ { c with Y:=((c.Y+1) % 256) } with F:=f }).PC,.bool ({ { c with Y:=((c.Y+1) % 256) } with F:=f }).F.N,.bool ({ { c with Y:=((c.Y+1) % 256) } with F:=f }).F.V,.bool ({ { c with Y:=((c.Y+1) % 256) } with F:=f }).F.D,.bool ({ { c with Y:=((c.Y+1) % 256) } with F:=f }).F.I,.bool ({ { c with Y:=((c.Y+1) % 256) } with F:=f }).F.Z,.bool ({ { c with Y:=((c.Y+1) % 256) } with F:=f }).F.C]) (by (simp only [results,Tryz.results124];go_simp <;> ((first | rfl | (simp [flgT,ldA,ldX,ldY,stA,stF];done) | (refine ⟨?_,?_,?_,?_,?_,?_⟩ <;> rfl))))) rfl ?_)
  exact ⟨rfl,blw⟩
set_option maxRecDepth 20000 in
set_option maxHeartbeats 1000000 in
theorem impS_DEX (c : Cpu) (m : Int) (w : World) (hm : (m == 1) = false) (hc : c.ok) : Calls Tryz.prog 124 #[.agg #[.int .u8 c.A,.int .u8 c.X,.int .u8 c.Y,.int .u8 c.S,.int .u16 c.PC,.bool c.F.N,.bool c.F.V,.bool c.F.D,.bool c.F.I,.bool c.F.Z,.bool c.F.C],.string ⟨#[68,69,88]⟩,.int .i64 m] w fun e w' => e = .returned (.agg #[.int .u8 (ldX c ((c.X - 1) % 256)).A,.int .u8 (ldX c ((c.X - 1) % 256)).X,.int .u8 (ldX c ((c.X - 1) % 256)).Y,.int .u8 (ldX c ((c.X - 1) % 256)).S,.int .u16 (ldX c ((c.X - 1) % 256)).PC,.bool (ldX c ((c.X - 1) % 256)).F.N,.bool (ldX c ((c.X - 1) % 256)).F.V,.bool (ldX c ((c.X - 1) % 256)).F.D,.bool (ldX c ((c.X - 1) % 256)).F.I,.bool (ldX c ((c.X - 1) % 256)).F.Z,.bool (ldX c ((c.X - 1) % 256)).F.C])∧Below w.heap.size w w':=by
  obtain ⟨a0,a1,x0,x1,y0,y1,s0,s1,p0,p1⟩:=hc
  have hf:=fun W => flag_w [68,69,88] (nz ((c.X - 1) % 256) c.F) W rfl rfl rfl rfl rfl rfl rfl
  obtain ⟨f,hfe⟩ : ∃ f,nz ((c.X - 1) % 256) c.F = f:=⟨_,rfl⟩
  have hz:=fun W => NZ_w ((c.X - 1) % 256) c.F W (by omega) (by omega)
  rw [hfe] at hf hz
  rw [show ldX c ((c.X - 1) % 256) = { { c with X:=((c.X - 1) % 256) } with F:=f } from by rw [← hfe];rfl]
  clear hfe
  have HB:=hR w;go_enter Tryz.func124,Tryz.ntmps124
  go_wp2_with fail
  refine Calls.mono (hz _) ?_
  rintro _ _ ⟨rfl,rfl⟩
  go_wp2_with fail
  refine Calls.mono (hf _) ?_
  rintro _ _ ⟨rfl,rfl⟩
  go_wp2_with fail
  (refine bodyPost_ret (v:=.agg #[.int .u8 ({ { c with X:=((c.X - 1) % 256) } with F:=f }).A,.int .u8 ({ { c with X:=((c.X - 1) % 256) } with F:=f }).X,.int .u8 ({ { c with X:=((c.X - 1) % 256) } with F:=f }).Y,.int .u8 ({ { c with X:=((c.X - 1) % 256) } with F:=f }).S,.int .u16 ({ { c with X:=((c.X - 1) % 256) } with F:=f }).PC,.bool ({ { c with X:=((c.X - 1) % 256) } with F:=f }).F.N,.bool ({ { c with X:=((c.X - 1) % 256) } with F:=f }).F.V,.bool ({ { c with X:=((c.X - 1) % 256) } with F:=f }).F.D,.bool ({ { c with X:=((c.X - 1) % 256) } with F:=f }).F.I,.bool ({ { c with X:=((c.X - 1) % 256) } with F:=f }).F.Z,.bool ({ { c with X:=((c.X - 1) % 256) } with F:=f }).F.C]) (by (simp only [results,Tryz.results124];go_simp <;> ((first | rfl | (simp [flgT,ldA,ldX,ldY,stA,stF];done) | (refine ⟨?_,?_,?_,?_,?_,?_⟩ <;> rfl))))) rfl ?_)
  exact ⟨rfl,blw⟩
set_option maxRecDepth 20000 in
set_option maxHeartbeats 1000000 in
theorem impS_DEY (c : Cpu) (m : Int) (w : World) (hm : (m == 1) = false) (hc : c.ok) : Calls Tryz.prog 124 #[.agg #[.int .u8 c.A,.int .u8 c.X,.int .u8 c.Y,.int .u8 c.S,.int .u16 c.PC,.bool c.F.N,.bool c.F.V,.bool c.F.D,.bool c.F.I,.bool c.F.Z,.bool c.F.C],.string ⟨#[68,69,89]⟩,.int .i64 m] w fun e w' => e = .returned (.agg #[.int .u8 (ldY c ((c.Y - 1) % 256)).A,.int .u8 (ldY c ((c.Y - 1) % 256)).X,.int .u8 (ldY c ((c.Y - 1) % 256)).Y,.int .u8 (ldY c ((c.Y - 1) % 256)).S,.int .u16 (ldY c ((c.Y - 1) % 256)).PC,.bool (ldY c ((c.Y - 1) % 256)).F.N,.bool (ldY c ((c.Y - 1) % 256)).F.V,.bool (ldY c ((c.Y - 1) % 256)).F.D,.bool (ldY c ((c.Y - 1) % 256)).F.I,.bool (ldY c ((c.Y - 1) % 256)).F.Z,.bool (ldY c ((c.Y - 1) % 256)).F.C])∧Below w.heap.size w w':=by
  obtain ⟨a0,a1,x0,x1,y0,y1,s0,s1,p0,p1⟩:=hc
  have hf:=fun W => flag_w [68,69,89] (nz ((c.Y - 1) % 256) c.F) W rfl rfl rfl rfl rfl rfl rfl
  obtain ⟨f,hfe⟩ : ∃ f,nz ((c.Y - 1) % 256) c.F = f:=⟨_,rfl⟩
  have hz:=fun W => NZ_w ((c.Y - 1) % 256) c.F W (by omega) (by omega)
  rw [hfe] at hf hz
  rw [show ldY c ((c.Y - 1) % 256) = { { c with Y:=((c.Y - 1) % 256) } with F:=f } from by rw [← hfe];rfl]
  clear hfe
  have HB:=hR w;go_enter Tryz.func124,Tryz.ntmps124
  go_wp2_with fail
  refine Calls.mono (hz _) ?_
  rintro _ _ ⟨rfl,rfl⟩
  go_wp2_with fail
  refine Calls.mono (hf _) ?_
  rintro _ _ ⟨rfl,rfl⟩
  go_wp2_with fail
  (refine bodyPost_ret (v:=.agg #[.int .u8 ({ { c with Y:=((c.Y - 1) % 256) } with F:=f }).A,.int .u8 ({ { c with Y:=((c.Y - 1) % 256) } with F:=f }).X,.int .u8 ({ { c with Y:=((c.Y - 1) % 256) } with F:=f }).Y,.int .u8 ({ { c with Y:=((c.Y - 1) % 256) } with F:=f }).S,.int .u16 ({ { c with Y:=((c.Y - 1) % 256) } with F:=f }).PC,.bool ({ { c with Y:=((c.Y - 1) % 256) } with F:=f }).F.N,.bool ({ { c with Y:=((c.Y - 1) % 256) } with F:=f }).F.V,.bool ({ { c with Y:=((c.Y - 1) % 256) } with F:=f }).F.D,.bool ({ { c with Y:=((c.Y - 1) % 256) } with F:=f }).F.I,.bool ({ { c with Y:=((c.Y - 1) % 256) } with F:=f }).F.Z,.bool ({ { c with Y:=((c.Y - 1) % 256) } with F:=f }).F.C]) (by (simp only [results,Tryz.results124];go_simp <;> ((first | rfl | (simp [flgT,ldA,ldX,ldY,stA,stF];done) | (refine ⟨?_,?_,?_,?_,?_,?_⟩ <;> rfl))))) rfl ?_)
  exact ⟨rfl,blw⟩
set_option maxRecDepth 20000 in
set_option maxHeartbeats 1000000 in
theorem impS_TAX (c : Cpu) (m : Int) (w : World) (hm : (m == 1) = false) (hc : c.ok) : Calls Tryz.prog 124 #[.agg #[.int .u8 c.A,.int .u8 c.X,.int .u8 c.Y,.int .u8 c.S,.int .u16 c.PC,.bool c.F.N,.bool c.F.V,.bool c.F.D,.bool c.F.I,.bool c.F.Z,.bool c.F.C],.string ⟨#[84,65,88]⟩,.int .i64 m] w fun e w' => e = .returned (.agg #[.int .u8 (ldX c c.A).A,.int .u8 (ldX c c.A).X,.int .u8 (ldX c c.A).Y,.int .u8 (ldX c c.A).S,.int .u16 (ldX c c.A).PC,.bool (ldX c c.A).F.N,.bool (ldX c c.A).F.V,.bool (ldX c c.A).F.D,.bool (ldX c c.A).F.I,.bool (ldX c c.A).F.Z,.bool (ldX c c.A).F.C])∧Below w.heap.size w w':=by
  obtain ⟨a0,a1,x0,x1,y0,y1,s0,s1,p0,p1⟩:=hc
  have hf:=fun W => flag_w [84,65,88] (nz c.A c.F) W rfl rfl rfl rfl rfl rfl rfl
  obtain ⟨f,hfe⟩ : ∃ f,nz c.A c.F = f:=⟨_,rfl⟩
  have hz:=fun W => NZ_w c.A c.F W a0 a1
  rw [hfe] at hf hz
  rw [show ldX c c.A = { { c with X:=c.A } with F:=f } from by rw [← hfe];rfl]
  clear hfe
  have HB:=hR w;go_enter Tryz.func124,Tryz.ntmps124
  go_wp2_with fail
  refine Calls.mono (hz _) ?_
  rintro _ _ ⟨rfl,rfl⟩
  go_wp2_with fail
  refine Calls.mono (hf _) ?_
  rintro _ _ ⟨rfl,rfl⟩
  go_wp2_with fail
  (refine bodyPost_ret (v:=.agg #[.int .u8 ({ { c with X:=c.A } with F:=f }).A,.int .u8 ({ { c with X:=c.A } with F:=f }).X,.int .u8 ({ { c with X:=c.A } with F:=f }).Y,.int .u8 ({ { c with X:=c.A } with F:=f }).S,.int .u16 ({ { c with X:=c.A } with F:=f }).PC,.bool ({ { c with X:=c.A } with F:=f }).F.N,.bool ({ { c with X:=c.A } with F:=f }).F.V,.bool ({ { c with X:=c.A } with F:=f }).F.D,.bool ({ { c with X:=c.A } with F:=f }).F.I,.bool ({ { c with X:=c.A } with F:=f }).F.Z,.bool ({ { c with X:=c.A } with F:=f }).F.C]) (by (simp only [results,Tryz.results124];go_simp <;> ((first | rfl | (simp [flgT,ldA,ldX,ldY,stA,stF];done) | (refine ⟨?_,?_,?_,?_,?_,?_⟩ <;> rfl))))) rfl ?_)
  exact ⟨rfl,blw⟩
set_option maxRecDepth 20000 in
set_option maxHeartbeats 1000000 in
theorem impS_TXA (c : Cpu) (m : Int) (w : World) (hm : (m == 1) = false) (hc : c.ok) : Calls Tryz.prog 124 #[.agg #[.int .u8 c.A,.int .u8 c.X,.int .u8 c.Y,.int .u8 c.S,.int .u16 c.PC,.bool c.F.N,.bool c.F.V,.bool c.F.D,.bool c.F.I,.bool c.F.Z,.bool c.F.C],.string ⟨#[84,88,65]⟩,.int .i64 m] w fun e w' => e = .returned (.agg #[.int .u8 (ldA c c.X).A,.int .u8 (ldA c c.X).X,.int .u8 (ldA c c.X).Y,.int .u8 (ldA c c.X).S,.int .u16 (ldA c c.X).PC,.bool (ldA c c.X).F.N,.bool (ldA c c.X).F.V,.bool (ldA c c.X).F.D,.bool (ldA c c.X).F.I,.bool (ldA c c.X).F.Z,.bool (ldA c c.X).F.C])∧Below w.heap.size w w':=by
  obtain ⟨a0,a1,x0,x1,y0,y1,s0,s1,p0,p1⟩:=hc
  have hf:=fun W => flag_w [84,88,65] (nz c.X c.F) W rfl rfl rfl rfl rfl rfl rfl
  obtain ⟨f,hfe⟩ : ∃ f,nz c.X c.F = f:=⟨_,rfl⟩
  have hz:=fun W => NZ_w c.X c.F W x0 x1
  rw [hfe] at hf hz
  rw [show ldA c c.X = { { c with A:=c.X } with F:=f } from by rw [← hfe];rfl]
  clear hfe
  have HB:=hR w;go_enter Tryz.func124,Tryz.ntmps124
  go_wp2_with fail
  refine Calls.mono (hz _) ?_
  rintro _ _ ⟨rfl,rfl⟩
  go_wp2_with fail
  refine Calls.mono (hf _) ?_
  rintro _ _ ⟨rfl,rfl⟩
  go_wp2_with fail
  (refine bodyPost_ret (v:=.agg #[.int .u8 ({ { c with A:=c.X } with F:=f }).A,.int .u8 ({ { c with A:=c.X } with F:=f }).X,.int .u8 ({ { c with A:=c.X } with F:=f }).Y,.int .u8 ({ { c with A:=c.X } with F:=f }).S,.int .u16 ({ { c with A:=c.X } with F:=f }).PC,.bool ({ { c with A:=c.X } with F:=f }).F.N,.bool ({ { c with A:=c.X } with F:=f }).F.V,.bool ({ { c with A:=c.X } with F:=f }).F.D,.bool ({ { c with A:=c.X } with F:=f }).F.I,.bool ({ { c with A:=c.X } with F:=f }).F.Z,.bool ({ { c with A:=c.X } with F:=f }).F.C]) (by (simp only [results,Tryz.results124];go_simp <;> ((first | rfl | (simp [flgT,ldA,ldX,ldY,stA,stF];done) | (refine ⟨?_,?_,?_,?_,?_,?_⟩ <;> rfl))))) rfl ?_)
  exact ⟨rfl,blw⟩
set_option maxRecDepth 20000 in
set_option maxHeartbeats 1000000 in
theorem impS_TAY (c : Cpu) (m : Int) (w : World) (hm : (m == 1) = false) (hc : c.ok) : Calls Tryz.prog 124 #[.agg #[.int .u8 c.A,.int .u8 c.X,.int .u8 c.Y,.int .u8 c.S,.int .u16 c.PC,.bool c.F.N,.bool c.F.V,.bool c.F.D,.bool c.F.I,.bool c.F.Z,.bool c.F.C],.string ⟨#[84,65,89]⟩,.int .i64 m] w fun e w' => e = .returned (.agg #[.int .u8 (ldY c c.A).A,.int .u8 (ldY c c.A).X,.int .u8 (ldY c c.A).Y,.int .u8 (ldY c c.A).S,.int .u16 (ldY c c.A).PC,.bool (ldY c c.A).F.N,.bool (ldY c c.A).F.V,.bool (ldY c c.A).F.D,.bool (ldY c c.A).F.I,.bool (ldY c c.A).F.Z,.bool (ldY c c.A).F.C])∧Below w.heap.size w w':=by
  obtain ⟨a0,a1,x0,x1,y0,y1,s0,s1,p0,p1⟩:=hc
  have hf:=fun W => flag_w [84,65,89] (nz c.A c.F) W rfl rfl rfl rfl rfl rfl rfl
  obtain ⟨f,hfe⟩ : ∃ f,nz c.A c.F = f:=⟨_,rfl⟩
  have hz:=fun W => NZ_w c.A c.F W a0 a1
  rw [hfe] at hf hz
  rw [show ldY c c.A = { { c with Y:=c.A } with F:=f } from by rw [← hfe];rfl]
  clear hfe
  have HB:=hR w;go_enter Tryz.func124,Tryz.ntmps124
  go_wp2_with fail
  refine Calls.mono (hz _) ?_
  rintro _ _ ⟨rfl,rfl⟩
  go_wp2_with fail
  refine Calls.mono (hf _) ?_
  rintro _ _ ⟨rfl,rfl⟩
  go_wp2_with fail
  (refine bodyPost_ret (v:=.agg #[.int .u8 ({ { c with Y:=c.A } with F:=f }).A,.int .u8 ({ { c with Y:=c.A } with F:=f }).X,.int .u8 ({ { c with Y:=c.A } with F:=f }).Y,.int .u8 ({ { c with Y:=c.A } with F:=f }).S,.int .u16 ({ { c with Y:=c.A } with F:=f }).PC,.bool ({ { c with Y:=c.A } with F:=f }).F.N,.bool ({ { c with Y:=c.A } with F:=f }).F.V,.bool ({ { c with Y:=c.A } with F:=f }).F.D,.bool ({ { c with Y:=c.A } with F:=f }).F.I,.bool ({ { c with Y:=c.A } with F:=f }).F.Z,.bool ({ { c with Y:=c.A } with F:=f }).F.C]) (by (simp only [results,Tryz.results124];go_simp <;> ((first | rfl | (simp [flgT,ldA,ldX,ldY,stA,stF];done) | (refine ⟨?_,?_,?_,?_,?_,?_⟩ <;> rfl))))) rfl ?_)
  exact ⟨rfl,blw⟩
set_option maxRecDepth 20000 in
set_option maxHeartbeats 1000000 in
theorem impS_TYA (c : Cpu) (m : Int) (w : World) (hm : (m == 1) = false) (hc : c.ok) : Calls Tryz.prog 124 #[.agg #[.int .u8 c.A,.int .u8 c.X,.int .u8 c.Y,.int .u8 c.S,.int .u16 c.PC,.bool c.F.N,.bool c.F.V,.bool c.F.D,.bool c.F.I,.bool c.F.Z,.bool c.F.C],.string ⟨#[84,89,65]⟩,.int .i64 m] w fun e w' => e = .returned (.agg #[.int .u8 (ldA c c.Y).A,.int .u8 (ldA c c.Y).X,.int .u8 (ldA c c.Y).Y,.int .u8 (ldA c c.Y).S,.int .u16 (ldA c c.Y).PC,.bool (ldA c c.Y).F.N,.bool (ldA c c.Y).F.V,.bool (ldA c c.Y).F.D,.bool (ldA c c.Y).F.I,.bool (ldA c c.Y).F.Z,.bool (ldA c c.Y).F.C])∧Below w.heap.size w w':=by
  obtain ⟨a0,a1,x0,x1,y0,y1,s0,s1,p0,p1⟩:=hc
  have hf:=fun W => flag_w [84,89,65] (nz c.Y c.F) W rfl rfl rfl rfl rfl rfl rfl
  obtain ⟨f,hfe⟩ : ∃ f,nz c.Y c.F = f:=⟨_,rfl⟩
  have hz:=fun W => NZ_w c.Y c.F W y0 y1
  rw [hfe] at hf hz
  rw [show ldA c c.Y = { { c with A:=c.Y } with F:=f } from by rw [← hfe];rfl]
  clear hfe
  have HB:=hR w;go_enter Tryz.func124,Tryz.ntmps124
  go_wp2_with fail
  refine Calls.mono (hz _) ?_
  rintro _ _ ⟨rfl,rfl⟩
  go_wp2_with fail
  refine Calls.mono (hf _) ?_
  rintro _ _ ⟨rfl,rfl⟩
  go_wp2_with fail
  (refine bodyPost_ret (v:=.agg #[.int .u8 ({ { c with A:=c.Y } with F:=f }).A,.int .u8 ({ { c with A:=c.Y } with F:=f }).X,.int .u8 ({ { c with A:=c.Y } with F:=f }).Y,.int .u8 ({ { c with A:=c.Y } with F:=f }).S,.int .u16 ({ { c with A:=c.Y } with F:=f }).PC,.bool ({ { c with A:=c.Y } with F:=f }).F.N,.bool ({ { c with A:=c.Y } with F:=f }).F.V,.bool ({ { c with A:=c.Y } with F:=f }).F.D,.bool ({ { c with A:=c.Y } with F:=f }).F.I,.bool ({ { c with A:=c.Y } with F:=f }).F.Z,.bool ({ { c with A:=c.Y } with F:=f }).F.C]) (by (simp only [results,Tryz.results124];go_simp <;> ((first | rfl | (simp [flgT,ldA,ldX,ldY,stA,stF];done) | (refine ⟨?_,?_,?_,?_,?_,?_⟩ <;> rfl))))) rfl ?_)
  exact ⟨rfl,blw⟩
set_option maxRecDepth 20000 in
set_option maxHeartbeats 1000000 in
theorem impS_TSX (c : Cpu) (m : Int) (w : World) (hm : (m == 1) = false) (hc : c.ok) : Calls Tryz.prog 124 #[.agg #[.int .u8 c.A,.int .u8 c.X,.int .u8 c.Y,.int .u8 c.S,.int .u16 c.PC,.bool c.F.N,.bool c.F.V,.bool c.F.D,.bool c.F.I,.bool c.F.Z,.bool c.F.C],.string ⟨#[84,83,88]⟩,.int .i64 m] w fun e w' => e = .returned (.agg #[.int .u8 (ldX c c.S).A,.int .u8 (ldX c c.S).X,.int .u8 (ldX c c.S).Y,.int .u8 (ldX c c.S).S,.int .u16 (ldX c c.S).PC,.bool (ldX c c.S).F.N,.bool (ldX c c.S).F.V,.bool (ldX c c.S).F.D,.bool (ldX c c.S).F.I,.bool (ldX c c.S).F.Z,.bool (ldX c c.S).F.C])∧Below w.heap.size w w':=by
  obtain ⟨a0,a1,x0,x1,y0,y1,s0,s1,p0,p1⟩:=hc
  have hf:=fun W => flag_w [84,83,88] (nz c.S c.F) W rfl rfl rfl rfl rfl rfl rfl
  obtain ⟨f,hfe⟩ : ∃ f,nz c.S c.F = f:=⟨_,rfl⟩
  have hz:=fun W => NZ_w c.S c.F W s0 s1
  rw [hfe] at hf hz
  rw [show ldX c c.S = { { c with X:=c.S } with F:=f } from by rw [← hfe];rfl]
  clear hfe
  have HB:=hR w;go_enter Tryz.func124,Tryz.ntmps124
  go_wp2_with fail
  refine Calls.mono (hz _) ?_
  rintro _ _ ⟨rfl,rfl⟩
  go_wp2_with fail
  refine Calls.mono (hf _) ?_
  rintro _ _ ⟨rfl,rfl⟩
  go_wp2_with fail
  (refine bodyPost_ret (v:=.agg #[.int .u8 ({ { c with X:=c.S } with F:=f }).A,.int .u8 ({ { c with X:=c.S } with F:=f }).X,.int .u8 ({ { c with X:=c.S } with F:=f }).Y,.int .u8 ({ { c with X:=c.S } with F:=f }).S,.int .u16 ({ { c with X:=c.S } with F:=f }).PC,.bool ({ { c with X:=c.S } with F:=f }).F.N,.bool ({ { c with X:=c.S } with F:=f }).F.V,.bool ({ { c with X:=c.S } with F:=f }).F.D,.bool ({ { c with X:=c.S } with F:=f }).F.I,.bool ({ { c with X:=c.S } with F:=f }).F.Z,.bool ({ { c with X:=c.S } with F:=f }).F.C]) (by (simp only [results,Tryz.results124];go_simp <;> ((first | rfl | (simp [flgT,ldA,ldX,ldY,stA,stF];done) | (refine ⟨?_,?_,?_,?_,?_,?_⟩ <;> rfl))))) rfl ?_)
  exact ⟨rfl,blw⟩
set_option maxRecDepth 20000 in
set_option maxHeartbeats 1000000 in
theorem impS_TXS (c : Cpu) (m : Int) (w : World) (hm : (m == 1) = false) (hc : c.ok) : Calls Tryz.prog 124 #[.agg #[.int .u8 c.A,.int .u8 c.X,.int .u8 c.Y,.int .u8 c.S,.int .u16 c.PC,.bool c.F.N,.bool c.F.V,.bool c.F.D,.bool c.F.I,.bool c.F.Z,.bool c.F.C],.string ⟨#[84,88,83]⟩,.int .i64 m] w fun e w' => e = .returned (.agg #[.int .u8 ({ c with S:=c.X }).A,.int .u8 ({ c with S:=c.X }).X,.int .u8 ({ c with S:=c.X }).Y,.int .u8 ({ c with S:=c.X }).S,.int .u16 ({ c with S:=c.X }).PC,.bool ({ c with S:=c.X }).F.N,.bool ({ c with S:=c.X }).F.V,.bool ({ c with S:=c.X }).F.D,.bool ({ c with S:=c.X }).F.I,.bool ({ c with S:=c.X }).F.Z,.bool ({ c with S:=c.X }).F.C])∧Below w.heap.size w w':=by
  obtain ⟨a0,a1,x0,x1,y0,y1,s0,s1,p0,p1⟩:=hc
  have hf : flgT [84,88,83] c.F = c.F:=rfl
  have HB:=hR w;go_enter Tryz.func124,Tryz.ntmps124
  go_wp2_with fail
  refine (spec_l06Flag [84,88,83] c.F _).mono ?_
  rintro _ w1 ⟨rfl,hb⟩
  (have HB:=Aside0.mk (below_step (w:=w) blw hb);have hz1:=hb.size;obtain ⟨hcl1,hfr1,hlt1,_⟩:=bcell hb;(try simp only [sA,sC,sD] at hz1);(try simp only [sA,sC,sD] at hcl1 hfr1 hlt1);have hk1_0 : w.heap.size < w1.heap.size:=(by omega);have hk1_1 : w.heap.size+1 < w1.heap.size:=(by omega);have HB1:=hR w1;clear hb)
  go_wp2_with fail
  (refine bodyPost_ret (v:=.agg #[.int .u8 ({ c with S:=c.X }).A,.int .u8 ({ c with S:=c.X }).X,.int .u8 ({ c with S:=c.X }).Y,.int .u8 ({ c with S:=c.X }).S,.int .u16 ({ c with S:=c.X }).PC,.bool ({ c with S:=c.X }).F.N,.bool ({ c with S:=c.X }).F.V,.bool ({ c with S:=c.X }).F.D,.bool ({ c with S:=c.X }).F.I,.bool ({ c with S:=c.X }).F.Z,.bool ({ c with S:=c.X }).F.C]) (by (simp only [results,Tryz.results124];go_simp <;> ((first | rfl | (simp [flgT,ldA,ldX,ldY,stA,stF];done) | (refine ⟨?_,?_,?_,?_,?_,?_⟩ <;> rfl))))) rfl ?_)
  exact ⟨rfl,blw⟩
set_option maxRecDepth 20000 in
set_option maxHeartbeats 1000000 in
theorem impS_CLC (c : Cpu) (m : Int) (w : World) (hm : (m == 1) = false) (hc : c.ok) : Calls Tryz.prog 124 #[.agg #[.int .u8 c.A,.int .u8 c.X,.int .u8 c.Y,.int .u8 c.S,.int .u16 c.PC,.bool c.F.N,.bool c.F.V,.bool c.F.D,.bool c.F.I,.bool c.F.Z,.bool c.F.C],.string ⟨#[67,76,67]⟩,.int .i64 m] w fun e w' => e = .returned (.agg #[.int .u8 ({ c with F:={ c.F with C:=false } }).A,.int .u8 ({ c with F:={ c.F with C:=false } }).X,.int .u8 ({ c with F:={ c.F with C:=false } }).Y,.int .u8 ({ c with F:={ c.F with C:=false } }).S,.int .u16 ({ c with F:={ c.F with C:=false } }).PC,.bool ({ c with F:={ c.F with C:=false } }).F.N,.bool ({ c with F:={ c.F with C:=false } }).F.V,.bool ({ c with F:={ c.F with C:=false } }).F.D,.bool ({ c with F:={ c.F with C:=false } }).F.I,.bool ({ c with F:={ c.F with C:=false } }).F.Z,.bool ({ c with F:={ c.F with C:=false } }).F.C])∧Below w.heap.size w w':=by
  obtain ⟨a0,a1,x0,x1,y0,y1,s0,s1,p0,p1⟩:=hc
  have HB:=hR w;go_enter Tryz.func124,Tryz.ntmps124
  go_wp2_with fail
  refine (spec_l06Flag [67,76,67] c.F _).mono ?_
  rintro _ w1 ⟨rfl,hb⟩
  (have HB:=Aside0.mk (below_step (w:=w) blw hb);have hz1:=hb.size;obtain ⟨hcl1,hfr1,hlt1,_⟩:=bcell hb;(try simp only [sA,sC,sD] at hz1);(try simp only [sA,sC,sD] at hcl1 hfr1 hlt1);have hk1_0 : w.heap.size < w1.heap.size:=(by omega);have hk1_1 : w.heap.size+1 < w1.heap.size:=(by omega);have HB1:=hR w1;clear hb)
  go_wp2_with fail
  (refine bodyPost_ret (v:=.agg #[.int .u8 ({ c with F:={ c.F with C:=false } }).A,.int .u8 ({ c with F:={ c.F with C:=false } }).X,.int .u8 ({ c with F:={ c.F with C:=false } }).Y,.int .u8 ({ c with F:={ c.F with C:=false } }).S,.int .u16 ({ c with F:={ c.F with C:=false } }).PC,.bool ({ c with F:={ c.F with C:=false } }).F.N,.bool ({ c with F:={ c.F with C:=false } }).F.V,.bool ({ c with F:={ c.F with C:=false } }).F.D,.bool ({ c with F:={ c.F with C:=false } }).F.I,.bool ({ c with F:={ c.F with C:=false } }).F.Z,.bool ({ c with F:={ c.F with C:=false } }).F.C]) (by (simp only [results,Tryz.results124];go_simp <;> ((first | rfl | (simp [flgT,ldA,ldX,ldY,stA,stF];done) | (refine ⟨?_,?_,?_,?_,?_,?_⟩ <;> rfl))))) rfl ?_)
  exact ⟨rfl,blw⟩
set_option maxRecDepth 20000 in
set_option maxHeartbeats 1000000 in
theorem impS_SEC (c : Cpu) (m : Int) (w : World) (hm : (m == 1) = false) (hc : c.ok) : Calls Tryz.prog 124 #[.agg #[.int .u8 c.A,.int .u8 c.X,.int .u8 c.Y,.int .u8 c.S,.int .u16 c.PC,.bool c.F.N,.bool c.F.V,.bool c.F.D,.bool c.F.I,.bool c.F.Z,.bool c.F.C],.string ⟨#[83,69,67]⟩,.int .i64 m] w fun e w' => e = .returned (.agg #[.int .u8 ({ c with F:={ c.F with C:=true } }).A,.int .u8 ({ c with F:={ c.F with C:=true } }).X,.int .u8 ({ c with F:={ c.F with C:=true } }).Y,.int .u8 ({ c with F:={ c.F with C:=true } }).S,.int .u16 ({ c with F:={ c.F with C:=true } }).PC,.bool ({ c with F:={ c.F with C:=true } }).F.N,.bool ({ c with F:={ c.F with C:=true } }).F.V,.bool ({ c with F:={ c.F with C:=true } }).F.D,.bool ({ c with F:={ c.F with C:=true } }).F.I,.bool ({ c with F:={ c.F with C:=true } }).F.Z,.bool ({ c with F:={ c.F with C:=true } }).F.C])∧Below w.heap.size w w':=by
  obtain ⟨a0,a1,x0,x1,y0,y1,s0,s1,p0,p1⟩:=hc
  have HB:=hR w;go_enter Tryz.func124,Tryz.ntmps124
  go_wp2_with fail
  refine (spec_l06Flag [83,69,67] c.F _).mono ?_
  rintro _ w1 ⟨rfl,hb⟩
  (have HB:=Aside0.mk (below_step (w:=w) blw hb);have hz1:=hb.size;obtain ⟨hcl1,hfr1,hlt1,_⟩:=bcell hb;(try simp only [sA,sC,sD] at hz1);(try simp only [sA,sC,sD] at hcl1 hfr1 hlt1);have hk1_0 : w.heap.size < w1.heap.size:=(by omega);have hk1_1 : w.heap.size+1 < w1.heap.size:=(by omega);have HB1:=hR w1;clear hb)
  go_wp2_with fail
  (refine bodyPost_ret (v:=.agg #[.int .u8 ({ c with F:={ c.F with C:=true } }).A,.int .u8 ({ c with F:={ c.F with C:=true } }).X,.int .u8 ({ c with F:={ c.F with C:=true } }).Y,.int .u8 ({ c with F:={ c.F with C:=true } }).S,.int .u16 ({ c with F:={ c.F with C:=true } }).PC,.bool ({ c with F:={ c.F with C:=true } }).F.N,.bool ({ c with F:={ c.F with C:=true } }).F.V,.bool ({ c with F:={ c.F with C:=true } }).F.D,.bool ({ c with F:={ c.F with C:=true } }).F.I,.bool ({ c with F:={ c.F with C:=true } }).F.Z,.bool ({ c with F:={ c.F with C:=true } }).F.C]) (by (simp only [results,Tryz.results124];go_simp <;> ((first | rfl | (simp [flgT,ldA,ldX,ldY,stA,stF];done) | (refine ⟨?_,?_,?_,?_,?_,?_⟩ <;> rfl))))) rfl ?_)
  exact ⟨rfl,blw⟩
set_option maxRecDepth 20000 in
set_option maxHeartbeats 1000000 in
theorem impS_CLI (c : Cpu) (m : Int) (w : World) (hm : (m == 1) = false) (hc : c.ok) : Calls Tryz.prog 124 #[.agg #[.int .u8 c.A,.int .u8 c.X,.int .u8 c.Y,.int .u8 c.S,.int .u16 c.PC,.bool c.F.N,.bool c.F.V,.bool c.F.D,.bool c.F.I,.bool c.F.Z,.bool c.F.C],.string ⟨#[67,76,73]⟩,.int .i64 m] w fun e w' => e = .returned (.agg #[.int .u8 ({ c with F:={ c.F with I:=false } }).A,.int .u8 ({ c with F:={ c.F with I:=false } }).X,.int .u8 ({ c with F:={ c.F with I:=false } }).Y,.int .u8 ({ c with F:={ c.F with I:=false } }).S,.int .u16 ({ c with F:={ c.F with I:=false } }).PC,.bool ({ c with F:={ c.F with I:=false } }).F.N,.bool ({ c with F:={ c.F with I:=false } }).F.V,.bool ({ c with F:={ c.F with I:=false } }).F.D,.bool ({ c with F:={ c.F with I:=false } }).F.I,.bool ({ c with F:={ c.F with I:=false } }).F.Z,.bool ({ c with F:={ c.F with I:=false } }).F.C])∧Below w.heap.size w w':=by
  obtain ⟨a0,a1,x0,x1,y0,y1,s0,s1,p0,p1⟩:=hc
  have HB:=hR w;go_enter Tryz.func124,Tryz.ntmps124
  go_wp2_with fail
  refine (spec_l06Flag [67,76,73] c.F _).mono ?_
  rintro _ w1 ⟨rfl,hb⟩
  (have HB:=Aside0.mk (below_step (w:=w) blw hb);have hz1:=hb.size;obtain ⟨hcl1,hfr1,hlt1,_⟩:=bcell hb;(try simp only [sA,sC,sD] at hz1);(try simp only [sA,sC,sD] at hcl1 hfr1 hlt1);have hk1_0 : w.heap.size < w1.heap.size:=(by omega);have hk1_1 : w.heap.size+1 < w1.heap.size:=(by omega);have HB1:=hR w1;clear hb)
  go_wp2_with fail
  (refine bodyPost_ret (v:=.agg #[.int .u8 ({ c with F:={ c.F with I:=false } }).A,.int .u8 ({ c with F:={ c.F with I:=false } }).X,.int .u8 ({ c with F:={ c.F with I:=false } }).Y,.int .u8 ({ c with F:={ c.F with I:=false } }).S,.int .u16 ({ c with F:={ c.F with I:=false } }).PC,.bool ({ c with F:={ c.F with I:=false } }).F.N,.bool ({ c with F:={ c.F with I:=false } }).F.V,.bool ({ c with F:={ c.F with I:=false } }).F.D,.bool ({ c with F:={ c.F with I:=false } }).F.I,.bool ({ c with F:={ c.F with I:=false } }).F.Z,.bool ({ c with F:={ c.F with I:=false } }).F.C]) (by (simp only [results,Tryz.results124];go_simp <;> ((first | rfl | (simp [flgT,ldA,ldX,ldY,stA,stF];done) | (refine ⟨?_,?_,?_,?_,?_,?_⟩ <;> rfl))))) rfl ?_)
  exact ⟨rfl,blw⟩
set_option maxRecDepth 20000 in
set_option maxHeartbeats 1000000 in
theorem impS_SEI (c : Cpu) (m : Int) (w : World) (hm : (m == 1) = false) (hc : c.ok) : Calls Tryz.prog 124 #[.agg #[.int .u8 c.A,.int .u8 c.X,.int .u8 c.Y,.int .u8 c.S,.int .u16 c.PC,.bool c.F.N,.bool c.F.V,.bool c.F.D,.bool c.F.I,.bool c.F.Z,.bool c.F.C],.string ⟨#[83,69,73]⟩,.int .i64 m] w fun e w' => e = .returned (.agg #[.int .u8 ({ c with F:={ c.F with I:=true } }).A,.int .u8 ({ c with F:={ c.F with I:=true } }).X,.int .u8 ({ c with F:={ c.F with I:=true } }).Y,.int .u8 ({ c with F:={ c.F with I:=true } }).S,.int .u16 ({ c with F:={ c.F with I:=true } }).PC,.bool ({ c with F:={ c.F with I:=true } }).F.N,.bool ({ c with F:={ c.F with I:=true } }).F.V,.bool ({ c with F:={ c.F with I:=true } }).F.D,.bool ({ c with F:={ c.F with I:=true } }).F.I,.bool ({ c with F:={ c.F with I:=true } }).F.Z,.bool ({ c with F:={ c.F with I:=true } }).F.C])∧Below w.heap.size w w':=by
  obtain ⟨a0,a1,x0,x1,y0,y1,s0,s1,p0,p1⟩:=hc
  have HB:=hR w;go_enter Tryz.func124,Tryz.ntmps124
  go_wp2_with fail
  refine (spec_l06Flag [83,69,73] c.F _).mono ?_
  rintro _ w1 ⟨rfl,hb⟩
  (have HB:=Aside0.mk (below_step (w:=w) blw hb);have hz1:=hb.size;obtain ⟨hcl1,hfr1,hlt1,_⟩:=bcell hb;(try simp only [sA,sC,sD] at hz1);(try simp only [sA,sC,sD] at hcl1 hfr1 hlt1);have hk1_0 : w.heap.size < w1.heap.size:=(by omega);have hk1_1 : w.heap.size+1 < w1.heap.size:=(by omega);have HB1:=hR w1;clear hb)
  go_wp2_with fail
  (refine bodyPost_ret (v:=.agg #[.int .u8 ({ c with F:={ c.F with I:=true } }).A,.int .u8 ({ c with F:={ c.F with I:=true } }).X,.int .u8 ({ c with F:={ c.F with I:=true } }).Y,.int .u8 ({ c with F:={ c.F with I:=true } }).S,.int .u16 ({ c with F:={ c.F with I:=true } }).PC,.bool ({ c with F:={ c.F with I:=true } }).F.N,.bool ({ c with F:={ c.F with I:=true } }).F.V,.bool ({ c with F:={ c.F with I:=true } }).F.D,.bool ({ c with F:={ c.F with I:=true } }).F.I,.bool ({ c with F:={ c.F with I:=true } }).F.Z,.bool ({ c with F:={ c.F with I:=true } }).F.C]) (by (simp only [results,Tryz.results124];go_simp <;> ((first | rfl | (simp [flgT,ldA,ldX,ldY,stA,stF];done) | (refine ⟨?_,?_,?_,?_,?_,?_⟩ <;> rfl))))) rfl ?_)
  exact ⟨rfl,blw⟩
set_option maxRecDepth 20000 in
set_option maxHeartbeats 1000000 in
theorem impS_CLV (c : Cpu) (m : Int) (w : World) (hm : (m == 1) = false) (hc : c.ok) : Calls Tryz.prog 124 #[.agg #[.int .u8 c.A,.int .u8 c.X,.int .u8 c.Y,.int .u8 c.S,.int .u16 c.PC,.bool c.F.N,.bool c.F.V,.bool c.F.D,.bool c.F.I,.bool c.F.Z,.bool c.F.C],.string ⟨#[67,76,86]⟩,.int .i64 m] w fun e w' => e = .returned (.agg #[.int .u8 ({ c with F:={ c.F with V:=false } }).A,.int .u8 ({ c with F:={ c.F with V:=false } }).X,.int .u8 ({ c with F:={ c.F with V:=false } }).Y,.int .u8 ({ c with F:={ c.F with V:=false } }).S,.int .u16 ({ c with F:={ c.F with V:=false } }).PC,.bool ({ c with F:={ c.F with V:=false } }).F.N,.bool ({ c with F:={ c.F with V:=false } }).F.V,.bool ({ c with F:={ c.F with V:=false } }).F.D,.bool ({ c with F:={ c.F with V:=false } }).F.I,.bool ({ c with F:={ c.F with V:=false } }).F.Z,.bool ({ c with F:={ c.F with V:=false } }).F.C])∧Below w.heap.size w w':=by
  obtain ⟨a0,a1,x0,x1,y0,y1,s0,s1,p0,p1⟩:=hc
  have HB:=hR w;go_enter Tryz.func124,Tryz.ntmps124
  go_wp2_with fail
  refine (spec_l06Flag [67,76,86] c.F _).mono ?_
  rintro _ w1 ⟨rfl,hb⟩
  (have HB:=Aside0.mk (below_step (w:=w) blw hb);have hz1:=hb.size;obtain ⟨hcl1,hfr1,hlt1,_⟩:=bcell hb;(try simp only [sA,sC,sD] at hz1);(try simp only [sA,sC,sD] at hcl1 hfr1 hlt1);have hk1_0 : w.heap.size < w1.heap.size:=(by omega);have hk1_1 : w.heap.size+1 < w1.heap.size:=(by omega);have HB1:=hR w1;clear hb)
  go_wp2_with fail
  (refine bodyPost_ret (v:=.agg #[.int .u8 ({ c with F:={ c.F with V:=false } }).A,.int .u8 ({ c with F:={ c.F with V:=false } }).X,.int .u8 ({ c with F:={ c.F with V:=false } }).Y,.int .u8 ({ c with F:={ c.F with V:=false } }).S,.int .u16 ({ c with F:={ c.F with V:=false } }).PC,.bool ({ c with F:={ c.F with V:=false } }).F.N,.bool ({ c with F:={ c.F with V:=false } }).F.V,.bool ({ c with F:={ c.F with V:=false } }).F.D,.bool ({ c with F:={ c.F with V:=false } }).F.I,.bool ({ c with F:={ c.F with V:=false } }).F.Z,.bool ({ c with F:={ c.F with V:=false } }).F.C]) (by (simp only [results,Tryz.results124];go_simp <;> ((first | rfl | (simp [flgT,ldA,ldX,ldY,stA,stF];done) | (refine ⟨?_,?_,?_,?_,?_,?_⟩ <;> rfl))))) rfl ?_)
  exact ⟨rfl,blw⟩
set_option maxRecDepth 20000 in
set_option maxHeartbeats 1000000 in
theorem impS_CLD (c : Cpu) (m : Int) (w : World) (hm : (m == 1) = false) (hc : c.ok) : Calls Tryz.prog 124 #[.agg #[.int .u8 c.A,.int .u8 c.X,.int .u8 c.Y,.int .u8 c.S,.int .u16 c.PC,.bool c.F.N,.bool c.F.V,.bool c.F.D,.bool c.F.I,.bool c.F.Z,.bool c.F.C],.string ⟨#[67,76,68]⟩,.int .i64 m] w fun e w' => e = .returned (.agg #[.int .u8 ({ c with F:={ c.F with D:=false } }).A,.int .u8 ({ c with F:={ c.F with D:=false } }).X,.int .u8 ({ c with F:={ c.F with D:=false } }).Y,.int .u8 ({ c with F:={ c.F with D:=false } }).S,.int .u16 ({ c with F:={ c.F with D:=false } }).PC,.bool ({ c with F:={ c.F with D:=false } }).F.N,.bool ({ c with F:={ c.F with D:=false } }).F.V,.bool ({ c with F:={ c.F with D:=false } }).F.D,.bool ({ c with F:={ c.F with D:=false } }).F.I,.bool ({ c with F:={ c.F with D:=false } }).F.Z,.bool ({ c with F:={ c.F with D:=false } }).F.C])∧Below w.heap.size w w':=by
  obtain ⟨a0,a1,x0,x1,y0,y1,s0,s1,p0,p1⟩:=hc
  have HB:=hR w;go_enter Tryz.func124,Tryz.ntmps124
  go_wp2_with fail
  refine (spec_l06Flag [67,76,68] c.F _).mono ?_
  rintro _ w1 ⟨rfl,hb⟩
  (have HB:=Aside0.mk (below_step (w:=w) blw hb);have hz1:=hb.size;obtain ⟨hcl1,hfr1,hlt1,_⟩:=bcell hb;(try simp only [sA,sC,sD] at hz1);(try simp only [sA,sC,sD] at hcl1 hfr1 hlt1);have hk1_0 : w.heap.size < w1.heap.size:=(by omega);have hk1_1 : w.heap.size+1 < w1.heap.size:=(by omega);have HB1:=hR w1;clear hb)
  go_wp2_with fail
  (refine bodyPost_ret (v:=.agg #[.int .u8 ({ c with F:={ c.F with D:=false } }).A,.int .u8 ({ c with F:={ c.F with D:=false } }).X,.int .u8 ({ c with F:={ c.F with D:=false } }).Y,.int .u8 ({ c with F:={ c.F with D:=false } }).S,.int .u16 ({ c with F:={ c.F with D:=false } }).PC,.bool ({ c with F:={ c.F with D:=false } }).F.N,.bool ({ c with F:={ c.F with D:=false } }).F.V,.bool ({ c with F:={ c.F with D:=false } }).F.D,.bool ({ c with F:={ c.F with D:=false } }).F.I,.bool ({ c with F:={ c.F with D:=false } }).F.Z,.bool ({ c with F:={ c.F with D:=false } }).F.C]) (by (simp only [results,Tryz.results124];go_simp <;> ((first | rfl | (simp [flgT,ldA,ldX,ldY,stA,stF];done) | (refine ⟨?_,?_,?_,?_,?_,?_⟩ <;> rfl))))) rfl ?_)
  exact ⟨rfl,blw⟩
set_option maxRecDepth 20000 in
set_option maxHeartbeats 1000000 in
theorem impS_SED (c : Cpu) (m : Int) (w : World) (hm : (m == 1) = false) (hc : c.ok) : Calls Tryz.prog 124 #[.agg #[.int .u8 c.A,.int .u8 c.X,.int .u8 c.Y,.int .u8 c.S,.int .u16 c.PC,.bool c.F.N,.bool c.F.V,.bool c.F.D,.bool c.F.I,.bool c.F.Z,.bool c.F.C],.string ⟨#[83,69,68]⟩,.int .i64 m] w fun e w' => e = .returned (.agg #[.int .u8 ({ c with F:={ c.F with D:=true } }).A,.int .u8 ({ c with F:={ c.F with D:=true } }).X,.int .u8 ({ c with F:={ c.F with D:=true } }).Y,.int .u8 ({ c with F:={ c.F with D:=true } }).S,.int .u16 ({ c with F:={ c.F with D:=true } }).PC,.bool ({ c with F:={ c.F with D:=true } }).F.N,.bool ({ c with F:={ c.F with D:=true } }).F.V,.bool ({ c with F:={ c.F with D:=true } }).F.D,.bool ({ c with F:={ c.F with D:=true } }).F.I,.bool ({ c with F:={ c.F with D:=true } }).F.Z,.bool ({ c with F:={ c.F with D:=true } }).F.C])∧Below w.heap.size w w':=by
  obtain ⟨a0,a1,x0,x1,y0,y1,s0,s1,p0,p1⟩:=hc
  have HB:=hR w;go_enter Tryz.func124,Tryz.ntmps124
  go_wp2_with fail
  refine (spec_l06Flag [83,69,68] c.F _).mono ?_
  rintro _ w1 ⟨rfl,hb⟩
  (have HB:=Aside0.mk (below_step (w:=w) blw hb);have hz1:=hb.size;obtain ⟨hcl1,hfr1,hlt1,_⟩:=bcell hb;(try simp only [sA,sC,sD] at hz1);(try simp only [sA,sC,sD] at hcl1 hfr1 hlt1);have hk1_0 : w.heap.size < w1.heap.size:=(by omega);have hk1_1 : w.heap.size+1 < w1.heap.size:=(by omega);have HB1:=hR w1;clear hb)
  go_wp2_with fail
  (refine bodyPost_ret (v:=.agg #[.int .u8 ({ c with F:={ c.F with D:=true } }).A,.int .u8 ({ c with F:={ c.F with D:=true } }).X,.int .u8 ({ c with F:={ c.F with D:=true } }).Y,.int .u8 ({ c with F:={ c.F with D:=true } }).S,.int .u16 ({ c with F:={ c.F with D:=true } }).PC,.bool ({ c with F:={ c.F with D:=true } }).F.N,.bool ({ c with F:={ c.F with D:=true } }).F.V,.bool ({ c with F:={ c.F with D:=true } }).F.D,.bool ({ c with F:={ c.F with D:=true } }).F.I,.bool ({ c with F:={ c.F with D:=true } }).F.Z,.bool ({ c with F:={ c.F with D:=true } }).F.C]) (by (simp only [results,Tryz.results124];go_simp <;> ((first | rfl | (simp [flgT,ldA,ldX,ldY,stA,stF];done) | (refine ⟨?_,?_,?_,?_,?_,?_⟩ <;> rfl))))) rfl ?_)
  exact ⟨rfl,blw⟩
def accX (x : List UInt8) : Bool:=x == [65,83,76] || x == [76,83,82] || x == [82,79,76] || x == [82,79,82]
set_option maxRecDepth 20000 in
set_option maxHeartbeats 1000000 in
theorem spec_l06Imp (x : List UInt8) (c : Cpu) (m : Int) (w : World) (hm : (m == 1) = accX x) (hc : c.ok) : Calls Tryz.prog 124 #[.agg #[.int .u8 c.A,.int .u8 c.X,.int .u8 c.Y,.int .u8 c.S,.int .u16 c.PC,.bool c.F.N,.bool c.F.V,.bool c.F.D,.bool c.F.I,.bool c.F.Z,.bool c.F.C],.string ⟨x.toArray⟩,.int .i64 m] w fun e w' => e = .returned (.agg #[.int .u8 (impT x c).A,.int .u8 (impT x c).X,.int .u8 (impT x c).Y,.int .u8 (impT x c).S,.int .u16 (impT x c).PC,.bool (impT x c).F.N,.bool (impT x c).F.V,.bool (impT x c).F.D,.bool (impT x c).F.I,.bool (impT x c).F.Z,.bool (impT x c).F.C])∧Below w.heap.size w w':=by
  revert hm
  refine imp_cases c x (fun x c1 => (m == 1) = accX x → Calls Tryz.prog 124 #[.agg #[.int .u8 c.A,.int .u8 c.X,.int .u8 c.Y,.int .u8 c.S,.int .u16 c.PC,.bool c.F.N,.bool c.F.V,.bool c.F.D,.bool c.F.I,.bool c.F.Z,.bool c.F.C],.string ⟨x.toArray⟩,.int .i64 m] w fun e w' => e = .returned (.agg #[.int .u8 c1.A,.int .u8 c1.X,.int .u8 c1.Y,.int .u8 c1.S,.int .u16 c1.PC,.bool c1.F.N,.bool c1.F.V,.bool c1.F.D,.bool c1.F.I,.bool c1.F.Z,.bool c1.F.C])∧Below w.heap.size w w') (fun hm => impS_ASL c m w hm hc) (fun hm => impS_LSR c m w hm hc) (fun hm => impS_ROL c m w hm hc) (fun hm => impS_ROR c m w hm hc) (fun hm => impS_INX c m w hm hc) (fun hm => impS_INY c m w hm hc) (fun hm => impS_DEX c m w hm hc) (fun hm => impS_DEY c m w hm hc) (fun hm => impS_TAX c m w hm hc) (fun hm => impS_TXA c m w hm hc) (fun hm => impS_TAY c m w hm hc) (fun hm => impS_TYA c m w hm hc) (fun hm => impS_TSX c m w hm hc) (fun hm => impS_TXS c m w hm hc) (fun hm => impS_CLC c m w hm hc) (fun hm => impS_SEC c m w hm hc) (fun hm => impS_CLI c m w hm hc) (fun hm => impS_SEI c m w hm hc) (fun hm => impS_CLD c m w hm hc) (fun hm => impS_SED c m w hm hc) (fun hm => impS_CLV c m w hm hc) ?_
  intro q0 q1 q2 q3 q4 q5 q6 q7 q8 q9 q10 q11 q12 q13 q14 q15 q16 q17 q18 q19 q20 hm0
  have hm : (m == 1) = false:=by rw [hm0];simp only [accX,q0,q1,q2,q3];rfl
  clear hm0
  have hf : flgT x c.F = c.F:=by simp only [flgT,q14,q15,q16,q17,q20,q18,q19];rfl
  have HB:=hR w;go_enter Tryz.func124,Tryz.ntmps124
  go_wp2_with fail
  refine (spec_l06Flag x c.F _).mono ?_
  rintro _ w1 ⟨rfl,hb⟩
  (have HB:=Aside0.mk (below_step (w:=w) blw hb);have hz1:=hb.size;obtain ⟨hcl1,hfr1,hlt1,_⟩:=bcell hb;(try simp only [sA,sC,sD] at hz1);(try simp only [sA,sC,sD] at hcl1 hfr1 hlt1);have hk1_0 : w.heap.size < w1.heap.size:=(by omega);have hk1_1 : w.heap.size+1 < w1.heap.size:=(by omega);have HB1:=hR w1;clear hb)
  go_wp2_with fail
  (refine bodyPost_ret (v:=.agg #[.int .u8 (c).A,.int .u8 (c).X,.int .u8 (c).Y,.int .u8 (c).S,.int .u16 (c).PC,.bool (c).F.N,.bool (c).F.V,.bool (c).F.D,.bool (c).F.I,.bool (c).F.Z,.bool (c).F.C]) (by (simp only [results,Tryz.results124];go_simp <;> ((first | rfl | (simp [flgT,ldA,ldX,ldY,stA,stF];done) | (refine ⟨?_,?_,?_,?_,?_,?_⟩ <;> rfl))))) rfl ?_)
  exact ⟨rfl,blw⟩
theorem spec_l06Reg (x : List UInt8) (c : Cpu) (w : World) : Calls Tryz.prog 174 #[.agg #[.int .u8 c.A,.int .u8 c.X,.int .u8 c.Y,.int .u8 c.S,.int .u16 c.PC,.bool c.F.N,.bool c.F.V,.bool c.F.D,.bool c.F.I,.bool c.F.Z,.bool c.F.C],.string ⟨x.toArray⟩] w fun e w' => e = .returned (.int .u8 (regT x c))∧Below w.heap.size w w':=by
  by_cases qSTX : x = [83,84,88]
  · subst qSTX
    have HB:=hR w;go_enter Tryz.func174,Tryz.ntmps174
    go_wp2
    go_ret
    exact ⟨rfl,blw⟩
  by_cases qSTY : x = [83,84,89]
  · subst qSTY
    have HB:=hR w;go_enter Tryz.func174,Tryz.ntmps174
    go_wp2
    go_ret
    exact ⟨rfl,blw⟩
  have r1 : (x == [83,84,88]) = false:=beq_eq_false_iff_ne.2 qSTX
  have r2 : (x == [83,84,89]) = false:=beq_eq_false_iff_ne.2 qSTY
  rw [show regT x c = c.A from by simp [regT,r1,r2]]
  clear qSTX qSTY
  have HB:=hR w;go_enter Tryz.func174,Tryz.ntmps174
  go_wp2
  go_ret
  exact ⟨rfl,blw⟩
end Go.Proofs.YtoncmhfmkfeolaaGreatDoor
