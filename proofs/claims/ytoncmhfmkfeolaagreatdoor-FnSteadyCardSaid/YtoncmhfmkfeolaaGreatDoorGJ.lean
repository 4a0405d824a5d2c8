/- The reference's place of an operand. -/
import Derived.Test.YtoncmhfmkfeolaaGreatDoorGF
import Derived.Test.YtoncmhfmkfeolaaGreatDoorGE
set_option linter.unusedVariables false
set_option linter.unusedSimpArgs false
namespace Go.Proofs.YtoncmhfmkfeolaaGreatDoor
open Go.RowKit Go.Proofs.YtoncmhfmkfeolaaGreatDoorW.PrintWords
theorem HoldB.mono {w : World} {L : Lay} {v : Value} {b : Bus} {n k : Nat} (h : HoldB w L v b n) (hk : n ≤ k) : HoldB w L v b k :=
  have h : Hold w L v _ _ b n:=h
  ⟨h.blk,h.mem,h.log,h.bg,h.gr,h.gv,h.rv,h.ok,h.mb,h.tb,Nat.le_trans h.tn hk⟩
theorem HoldB.peeks {w : World} {L : Lay} {v : Value} {b : Bus} {n : Nat} (h : HoldB w L v b n) : peek_in b.m:=Hold.mb h
def idxM (c : Cpu) (m : Int) : Int:=if m == 4 || m == 7 || m == 10 then c.X else if m == 5 || m == 8 || m == 11 then c.Y else 0
theorem spec_l06Index (c : Cpu) (m : Int) (w : World) (hm : m = 3 ∨ m = 4 ∨ m = 5 ∨ m = 6 ∨ m = 7 ∨ m = 8 ∨ m = 10 ∨ m = 11) (ho : c.ok) : Calls Tryz.prog 203 #[.agg #[.int .u8 c.A,.int .u8 c.X,.int .u8 c.Y,.int .u8 c.S,.int .u16 c.PC,.bool c.F.N,.bool c.F.V,.bool c.F.D,.bool c.F.I,.bool c.F.Z,.bool c.F.C],.int .i64 m] w fun e w' => e = .returned (.int .i64 (idxM c m))∧Below w.heap.size w w':=by
  have e1 : IntKind.i64.wrap c.X = c.X:=w64 (by unfold Cpu.ok at ho;omega)
  have e2 : IntKind.i64.wrap c.Y = c.Y:=w64 (by unfold Cpu.ok at ho;omega)
  rcases hm with rfl | rfl | rfl | rfl | rfl | rfl | rfl | rfl
  all_goals
    have HB:=hR w;go_enter Tryz.func203,Tryz.ntmps203
    go_wp2
    go_ret
    exact ⟨ret_of (by simp [idxM]),blw⟩
theorem spec_rd (x a : Int) (l : List Int) (B : Bus) (e : B.m = l) (hx : x % 65536 = a) {w : World} {L : Lay} {v : Value} {n : Nat} (h : HoldB w L v B n) (hn : n ≤ 900000) :
    Calls Tryz.prog 119 #[.pointer (some ⟨L.g,0,none⟩),.int .i64 x] w fun e w' => e = .returned (.int .u8 (peek l a))∧∃ v',HoldB w' L v' (B.rd a) (n+1)∧Mv w w' L v v':=by
  subst e;exact spec_l06Read x a hx h (by omega)
theorem spec_wr (x a d : Int) (B : Bus) (hx : x % 65536 = a) {w : World} {L : Lay} {v : Value} {n : Nat} (h : HoldB w L v B n) (hn : n ≤ 900000) (d0 : 0 ≤ d) (d1 : d < 256) :
    Calls Tryz.prog 162 #[.pointer (some ⟨L.g,0,none⟩),.int .i64 x,.int .u8 d] w fun e w' => e = .returned (.tuple #[])∧∃ v',HoldB w' L v' (B.wr a d) (n+1)∧Mv w w' L v v':=spec_l06Write x a d hx h (by omega) d0 d1
def PlaceS (m k : Int) : Prop:=∀ {w : World} {L : Lay} {v : Value} {c : Cpu} {b : Bus} {n : Nat} (_ : HoldB w L v b n) (_ : n ≤ 800000) (_ : c.ok),
    Calls Tryz.prog 173 #[.pointer (some ⟨L.g,0,none⟩),.agg #[.int .u8 c.A,.int .u8 c.X,.int .u8 c.Y,.int .u8 c.S,.int .u16 c.PC,.bool c.F.N,.bool c.F.V,.bool c.F.D,.bool c.F.I,.bool c.F.Z,.bool c.F.C],.int .i64 m,.int .i64 k] w fun e w' => e = .returned (.int .i64 (plc c b m k).1)∧∃ v',HoldB w' L v' (plc c b m k).2 (n+5)∧Mv w w' L v v'
set_option maxRecDepth 20000 in
set_option maxHeartbeats 400000 in
theorem placeS_3 (k : Int) : PlaceS 3 k:=by
  intro w L v c b n h hn hc;have hc0:=hc;obtain ⟨a0,a1,x0,x1,y0,y1,s0,s1,p0,p1⟩:=hc;have H0:=Aside0.mk h;have M0:=Aside0.mk (Mv.refl w L v h.size);have ap_0:=h.apart w.heap.size (Nat.le_refl _);have pk:=peek_of h.peeks;obtain ⟨z0,z1⟩:=pk ((c.PC+1) % 65536);have hand:=i64_and255;have hand2:=i64_and65535
  have HB:=hR w;go_enter Tryz.func173,Tryz.ntmps173
  go_wp2_with fail
  refine Calls.mono (spec_rd _ ((c.PC+1) % 65536) b.m b rfl (by omega) (by (repeat' (first | (with_reducible exact H0.out) | (with_reducible apply HoldB.alloc) | (with_reducible apply HoldB.drew) | (with_reducible apply HoldB.drewN) | (with_reducible refine HoldB.far ?_ _ _ _ ?_) | assumption))) (by omega)) ?_
  rintro _ w1 ⟨rfl,v1,H1,M1⟩
  obtain ⟨hl1_0,hf1_0,hz1_0,ap_0⟩:=M1.loc (w.heap.size) (by first | omega | (simp;done) | (simp;omega)) ap_0
  have M1:=Aside0.mk (Mv.tr (by (repeat' (first | (with_reducible exact M0.out) | (with_reducible apply Mv.al) | (with_reducible apply Mv.dr) | (with_reducible apply Mv.drN) | (with_reducible refine Mv.far ?_ ?_ _) | (with_reducible refine Mv.set ?_ ?_ _ _) | omega | (simp only [];omega) | assumption))) M1)
  have H1:=Aside0.mk H1
  go_wp2_with fail
  go_ret
  exact ⟨rfl,v1,HoldB.mono H1.out (by omega),M1.out⟩
set_option maxRecDepth 20000 in
set_option maxHeartbeats 400000 in
theorem placeS_4 (k : Int) : PlaceS 4 k:=by
  intro w L v c b n h hn hc;have hc0:=hc;obtain ⟨a0,a1,x0,x1,y0,y1,s0,s1,p0,p1⟩:=hc;have H0:=Aside0.mk h;have M0:=Aside0.mk (Mv.refl w L v h.size);have ap_0:=h.apart w.heap.size (Nat.le_refl _);have pk:=peek_of h.peeks;obtain ⟨z0,z1⟩:=pk ((c.PC+1) % 65536);have hand:=i64_and255;have hand2:=i64_and65535
  have hi : idxM c 4 = c.X:=rfl
  have HB:=hR w;go_enter Tryz.func173,Tryz.ntmps173
  go_wp2_with fail
  refine Calls.mono (spec_rd _ ((c.PC+1) % 65536) b.m b rfl (by omega) (by (repeat' (first | (with_reducible exact H0.out) | (with_reducible apply HoldB.alloc) | (with_reducible apply HoldB.drew) | (with_reducible apply HoldB.drewN) | (with_reducible refine HoldB.far ?_ _ _ _ ?_) | assumption))) (by omega)) ?_
  rintro _ w1 ⟨rfl,v1,H1,M1⟩
  obtain ⟨hl1_0,hf1_0,hz1_0,ap_0⟩:=M1.loc (w.heap.size) (by first | omega | (simp;done) | (simp;omega)) ap_0
  have M1:=Aside0.mk (Mv.tr (by (repeat' (first | (with_reducible exact M0.out) | (with_reducible apply Mv.al) | (with_reducible apply Mv.dr) | (with_reducible apply Mv.drN) | (with_reducible refine Mv.far ?_ ?_ _) | (with_reducible refine Mv.set ?_ ?_ _ _) | omega | (simp only [];omega) | assumption))) M1)
  have H1:=Aside0.mk H1
  go_wp2_with fail
  refine Calls.mono (spec_rd _ (peek b.m ((c.PC+1) % 65536)) b.m (lo1 c b) rfl (by omega) (by (repeat' (first | (with_reducible exact H1.out) | (with_reducible apply HoldB.alloc) | (with_reducible apply HoldB.drew) | (with_reducible apply HoldB.drewN) | (with_reducible refine HoldB.far ?_ _ _ _ ?_) | assumption))) (by omega)) ?_
  rintro _ w2 ⟨rfl,v2,H2,M2⟩
  obtain ⟨hl2_0,hf2_0,hz2_0,ap_0⟩:=M2.loc (w.heap.size) (by first | omega | (simp;done) | (simp;omega)) ap_0
  have M2:=Aside0.mk (Mv.tr (by (repeat' (first | (with_reducible exact M1.out) | (with_reducible apply Mv.al) | (with_reducible apply Mv.dr) | (with_reducible apply Mv.drN) | (with_reducible refine Mv.far ?_ ?_ _) | (with_reducible refine Mv.set ?_ ?_ _ _) | omega | (simp only [];omega) | assumption))) M2)
  have H2:=Aside0.mk H2
  go_wp2_with fail
  refine Calls.mono (spec_l06Index c 4 _ (by decide) hc0) ?_
  rintro _ w3 ⟨rfl,hb⟩
  have H3:=Aside0.mk (HoldB.below (by (repeat' (first | (with_reducible exact H2.out) | (with_reducible apply HoldB.alloc) | (with_reducible apply HoldB.drew) | (with_reducible apply HoldB.drewN) | (with_reducible refine HoldB.far ?_ _ _ _ ?_) | assumption))) hb);have M3:=Aside0.mk (Mv.bl (by (repeat' (first | (with_reducible exact M2.out) | (with_reducible apply Mv.al) | (with_reducible apply Mv.dr) | (with_reducible apply Mv.drN) | (with_reducible refine Mv.far ?_ ?_ _) | (with_reducible refine Mv.set ?_ ?_ _ _) | omega | (simp only [];omega) | assumption))) hb);have hz3:=hb.size;obtain ⟨hcl3,hfr3,hlt3,_⟩:=bcell hb;(try simp only [sA,sC,sD] at hz3);(try simp only [sA,sC,sD] at hcl3 hfr3 hlt3);clear hb
  go_wp2_with fail
  go_ret
  exact ⟨rfl,v2,HoldB.mono H3.out (by omega),M3.out⟩
set_option maxRecDepth 20000 in
set_option maxHeartbeats 400000 in
theorem placeS_5 (k : Int) : PlaceS 5 k:=by
  intro w L v c b n h hn hc;have hc0:=hc;obtain ⟨a0,a1,x0,x1,y0,y1,s0,s1,p0,p1⟩:=hc;have H0:=Aside0.mk h;have M0:=Aside0.mk (Mv.refl w L v h.size);have ap_0:=h.apart w.heap.size (Nat.le_refl _);have pk:=peek_of h.peeks;obtain ⟨z0,z1⟩:=pk ((c.PC+1) % 65536);have hand:=i64_and255;have hand2:=i64_and65535
  have hi : idxM c 5 = c.Y:=rfl
  have HB:=hR w;go_enter Tryz.func173,Tryz.ntmps173
  go_wp2_with fail
  refine Calls.mono (spec_rd _ ((c.PC+1) % 65536) b.m b rfl (by omega) (by (repeat' (first | (with_reducible exact H0.out) | (with_reducible apply HoldB.alloc) | (with_reducible apply HoldB.drew) | (with_reducible apply HoldB.drewN) | (with_reducible refine HoldB.far ?_ _ _ _ ?_) | assumption))) (by omega)) ?_
  rintro _ w1 ⟨rfl,v1,H1,M1⟩
  obtain ⟨hl1_0,hf1_0,hz1_0,ap_0⟩:=M1.loc (w.heap.size) (by first | omega | (simp;done) | (simp;omega)) ap_0
  have M1:=Aside0.mk (Mv.tr (by (repeat' (first | (with_reducible exact M0.out) | (with_reducible apply Mv.al) | (with_reducible apply Mv.dr) | (with_reducible apply Mv.drN) | (with_reducible refine Mv.far ?_ ?_ _) | (with_reducible refine Mv.set ?_ ?_ _ _) | omega | (simp only [];omega) | assumption))) M1)
  have H1:=Aside0.mk H1
  go_wp2_with fail
  refine Calls.mono (spec_rd _ (peek b.m ((c.PC+1) % 65536)) b.m (lo1 c b) rfl (by omega) (by (repeat' (first | (with_reducible exact H1.out) | (with_reducible apply HoldB.alloc) | (with_reducible apply HoldB.drew) | (with_reducible apply HoldB.drewN) | (with_reducible refine HoldB.far ?_ _ _ _ ?_) | assumption))) (by omega)) ?_
  rintro _ w2 ⟨rfl,v2,H2,M2⟩
  obtain ⟨hl2_0,hf2_0,hz2_0,ap_0⟩:=M2.loc (w.heap.size) (by first | omega | (simp;done) | (simp;omega)) ap_0
  have M2:=Aside0.mk (Mv.tr (by (repeat' (first | (with_reducible exact M1.out) | (with_reducible apply Mv.al) | (with_reducible apply Mv.dr) | (with_reducible apply Mv.drN) | (with_reducible refine Mv.far ?_ ?_ _) | (with_reducible refine Mv.set ?_ ?_ _ _) | omega | (simp only [];omega) | assumption))) M2)
  have H2:=Aside0.mk H2
  go_wp2_with fail
  refine Calls.mono (spec_l06Index c 5 _ (by decide) hc0) ?_
  rintro _ w3 ⟨rfl,hb⟩
  have H3:=Aside0.mk (HoldB.below (by (repeat' (first | (with_reducible exact H2.out) | (with_reducible apply HoldB.alloc) | (with_reducible apply HoldB.drew) | (with_reducible apply HoldB.drewN) | (with_reducible refine HoldB.far ?_ _ _ _ ?_) | assumption))) hb);have M3:=Aside0.mk (Mv.bl (by (repeat' (first | (with_reducible exact M2.out) | (with_reducible apply Mv.al) | (with_reducible apply Mv.dr) | (with_reducible apply Mv.drN) | (with_reducible refine Mv.far ?_ ?_ _) | (with_reducible refine Mv.set ?_ ?_ _ _) | omega | (simp only [];omega) | assumption))) hb);have hz3:=hb.size;obtain ⟨hcl3,hfr3,hlt3,_⟩:=bcell hb;(try simp only [sA,sC,sD] at hz3);(try simp only [sA,sC,sD] at hcl3 hfr3 hlt3);clear hb
  go_wp2_with fail
  go_ret
  exact ⟨rfl,v2,HoldB.mono H3.out (by omega),M3.out⟩
set_option maxRecDepth 20000 in
set_option maxHeartbeats 400000 in
theorem placeS_10 (k : Int) : PlaceS 10 k:=by
  intro w L v c b n h hn hc;have hc0:=hc;obtain ⟨a0,a1,x0,x1,y0,y1,s0,s1,p0,p1⟩:=hc;have H0:=Aside0.mk h;have M0:=Aside0.mk (Mv.refl w L v h.size);have ap_0:=h.apart w.heap.size (Nat.le_refl _);have pk:=peek_of h.peeks;obtain ⟨z0,z1⟩:=pk ((c.PC+1) % 65536);have hand:=i64_and255;have hand2:=i64_and65535
  obtain ⟨u0,u1⟩:=pk ((peek b.m ((c.PC+1) % 65536)+c.X) % 256)
  obtain ⟨t0,t1⟩:=pk ((peek b.m ((c.PC+1) % 65536)+c.X+1) % 256)
  have HB:=hR w;go_enter Tryz.func173,Tryz.ntmps173
  go_wp2_with fail
  refine Calls.mono (spec_rd _ ((c.PC+1) % 65536) b.m b rfl (by omega) (by (repeat' (first | (with_reducible exact H0.out) | (with_reducible apply HoldB.alloc) | (with_reducible apply HoldB.drew) | (with_reducible apply HoldB.drewN) | (with_reducible refine HoldB.far ?_ _ _ _ ?_) | assumption))) (by omega)) ?_
  rintro _ w1 ⟨rfl,v1,H1,M1⟩
  obtain ⟨hl1_0,hf1_0,hz1_0,ap_0⟩:=M1.loc (w.heap.size) (by first | omega | (simp;done) | (simp;omega)) ap_0
  have M1:=Aside0.mk (Mv.tr (by (repeat' (first | (with_reducible exact M0.out) | (with_reducible apply Mv.al) | (with_reducible apply Mv.dr) | (with_reducible apply Mv.drN) | (with_reducible refine Mv.far ?_ ?_ _) | (with_reducible refine Mv.set ?_ ?_ _ _) | omega | (simp only [];omega) | assumption))) M1)
  have H1:=Aside0.mk H1
  go_wp2_with fail
  refine Calls.mono (spec_rd _ (peek b.m ((c.PC+1) % 65536)) b.m (lo1 c b) rfl (by omega) (by (repeat' (first | (with_reducible exact H1.out) | (with_reducible apply HoldB.alloc) | (with_reducible apply HoldB.drew) | (with_reducible apply HoldB.drewN) | (with_reducible refine HoldB.far ?_ _ _ _ ?_) | assumption))) (by omega)) ?_
  rintro _ w2 ⟨rfl,v2,H2,M2⟩
  obtain ⟨hl2_0,hf2_0,hz2_0,ap_0⟩:=M2.loc (w.heap.size) (by first | omega | (simp;done) | (simp;omega)) ap_0
  have M2:=Aside0.mk (Mv.tr (by (repeat' (first | (with_reducible exact M1.out) | (with_reducible apply Mv.al) | (with_reducible apply Mv.dr) | (with_reducible apply Mv.drN) | (with_reducible refine Mv.far ?_ ?_ _) | (with_reducible refine Mv.set ?_ ?_ _ _) | omega | (simp only [];omega) | assumption))) M2)
  have H2:=Aside0.mk H2
  go_wp2_with fail
  refine Calls.mono (spec_rd _ ((peek b.m ((c.PC+1) % 65536)+c.X) % 256) b.m ((lo1 c b).rd (peek b.m ((c.PC+1) % 65536))) rfl (by omega) (by (repeat' (first | (with_reducible exact H2.out) | (with_reducible apply HoldB.alloc) | (with_reducible apply HoldB.drew) | (with_reducible apply HoldB.drewN) | (with_reducible refine HoldB.far ?_ _ _ _ ?_) | assumption))) (by omega)) ?_
  rintro _ w3 ⟨rfl,v3,H3,M3⟩
  obtain ⟨hl3_0,hf3_0,hz3_0,ap_0⟩:=M3.loc (w.heap.size) (by first | omega | (simp;done) | (simp;omega)) ap_0
  have M3:=Aside0.mk (Mv.tr (by (repeat' (first | (with_reducible exact M2.out) | (with_reducible apply Mv.al) | (with_reducible apply Mv.dr) | (with_reducible apply Mv.drN) | (with_reducible refine Mv.far ?_ ?_ _) | (with_reducible refine Mv.set ?_ ?_ _ _) | omega | (simp only [];omega) | assumption))) M3)
  have H3:=Aside0.mk H3
  go_wp2_with fail
  refine Calls.mono (spec_rd _ ((peek b.m ((c.PC+1) % 65536)+c.X+1) % 256) b.m (((lo1 c b).rd (peek b.m ((c.PC+1) % 65536))).rd ((peek b.m ((c.PC+1) % 65536)+c.X) % 256)) rfl (by omega) (by (repeat' (first | (with_reducible exact H3.out) | (with_reducible apply HoldB.alloc) | (with_reducible apply HoldB.drew) | (with_reducible apply HoldB.drewN) | (with_reducible refine HoldB.far ?_ _ _ _ ?_) | assumption))) (by omega)) ?_
  rintro _ w4 ⟨rfl,v4,H4,M4⟩
  obtain ⟨hl4_0,hf4_0,hz4_0,ap_0⟩:=M4.loc (w.heap.size) (by first | omega | (simp;done) | (simp;omega)) ap_0
  have M4:=Aside0.mk (Mv.tr (by (repeat' (first | (with_reducible exact M3.out) | (with_reducible apply Mv.al) | (with_reducible apply Mv.dr) | (with_reducible apply Mv.drN) | (with_reducible refine Mv.far ?_ ?_ _) | (with_reducible refine Mv.set ?_ ?_ _ _) | omega | (simp only [];omega) | assumption))) M4)
  have H4:=Aside0.mk H4
  go_wp2_with (first | (go_at_call 165;((with_reducible refine (spec_l04Word _ _ _ u0 u1 t0 t1).mono ?_);rintro _ _ ⟨rfl,rfl⟩)))
  go_ret
  exact ⟨rfl,v4,HoldB.mono H4.out (by omega),M4.out⟩
set_option maxRecDepth 20000 in
set_option maxHeartbeats 400000 in
theorem placeS_6 (k : Int) : PlaceS 6 k:=by
  intro w L v c b n h hn hc;have hc0:=hc;obtain ⟨a0,a1,x0,x1,y0,y1,s0,s1,p0,p1⟩:=hc;have H0:=Aside0.mk h;have M0:=Aside0.mk (Mv.refl w L v h.size);have ap_0:=h.apart w.heap.size (Nat.le_refl _);have pk:=peek_of h.peeks;obtain ⟨z0,z1⟩:=pk ((c.PC+1) % 65536);have hand:=i64_and255;have hand2:=i64_and65535
  have hi : idxM c 6 = 0:=rfl
  obtain ⟨t0,t1⟩:=pk ((c.PC+2) % 65536)
  obtain ⟨B,hB⟩ : ∃ B,word2 (peek b.m ((c.PC+1) % 65536)) (peek b.m ((c.PC+2) % 65536)) = B:=⟨_,rfl⟩
  obtain ⟨b0,b1⟩ : 0 ≤ B∧B < 65536:=by rw [← hB];exact word2_in (pk _) (pk _)
  have hBm : B % 65536 = B:=by omega
  rw [show plc c b 6 k = (B,(lo1 c b).rd ((c.PC+2) % 65536)) from by rw [← hB];rfl]
  have HB:=hR w;go_enter Tryz.func173,Tryz.ntmps173
  go_wp2_with fail
  refine Calls.mono (spec_rd _ ((c.PC+1) % 65536) b.m b rfl (by omega) (by (repeat' (first | (with_reducible exact H0.out) | (with_reducible apply HoldB.alloc) | (with_reducible apply HoldB.drew) | (with_reducible apply HoldB.drewN) | (with_reducible refine HoldB.far ?_ _ _ _ ?_) | assumption))) (by omega)) ?_
  rintro _ w1 ⟨rfl,v1,H1,M1⟩
  obtain ⟨hl1_0,hf1_0,hz1_0,ap_0⟩:=M1.loc (w.heap.size) (by first | omega | (simp;done) | (simp;omega)) ap_0
  have M1:=Aside0.mk (Mv.tr (by (repeat' (first | (with_reducible exact M0.out) | (with_reducible apply Mv.al) | (with_reducible apply Mv.dr) | (with_reducible apply Mv.drN) | (with_reducible refine Mv.far ?_ ?_ _) | (with_reducible refine Mv.set ?_ ?_ _ _) | omega | (simp only [];omega) | assumption))) M1)
  have H1:=Aside0.mk H1
  go_wp2_with fail
  refine Calls.mono (spec_rd _ ((c.PC+2) % 65536) b.m (lo1 c b) rfl (by omega) (by (repeat' (first | (with_reducible exact H1.out) | (with_reducible apply HoldB.alloc) | (with_reducible apply HoldB.drew) | (with_reducible apply HoldB.drewN) | (with_reducible refine HoldB.far ?_ _ _ _ ?_) | assumption))) (by omega)) ?_
  rintro _ w2 ⟨rfl,v2,H2,M2⟩
  obtain ⟨hl2_0,hf2_0,hz2_0,ap_0⟩:=M2.loc (w.heap.size) (by first | omega | (simp;done) | (simp;omega)) ap_0
  have M2:=Aside0.mk (Mv.tr (by (repeat' (first | (with_reducible exact M1.out) | (with_reducible apply Mv.al) | (with_reducible apply Mv.dr) | (with_reducible apply Mv.drN) | (with_reducible refine Mv.far ?_ ?_ _) | (with_reducible refine Mv.set ?_ ?_ _ _) | omega | (simp only [];omega) | assumption))) M2)
  have H2:=Aside0.mk H2
  go_wp2_with (first | (go_at_call 165;((with_reducible refine (spec_l04Word _ _ _ z0 z1 t0 t1).mono ?_);rintro _ _ ⟨rfl,rfl⟩)))
  refine Calls.mono (spec_l06Index c 6 _ (by decide) hc0) ?_
  rintro _ w3 ⟨rfl,hb⟩
  have H3:=Aside0.mk (HoldB.below (by (repeat' (first | (with_reducible exact H2.out) | (with_reducible apply HoldB.alloc) | (with_reducible apply HoldB.drew) | (with_reducible apply HoldB.drewN) | (with_reducible refine HoldB.far ?_ _ _ _ ?_) | assumption))) hb);have M3:=Aside0.mk (Mv.bl (by (repeat' (first | (with_reducible exact M2.out) | (with_reducible apply Mv.al) | (with_reducible apply Mv.dr) | (with_reducible apply Mv.drN) | (with_reducible refine Mv.far ?_ ?_ _) | (with_reducible refine Mv.set ?_ ?_ _ _) | omega | (simp only [];omega) | assumption))) hb);have hz3:=hb.size;obtain ⟨hcl3,hfr3,hlt3,_⟩:=bcell hb;(try simp only [sA,sC,sD] at hz3);(try simp only [sA,sC,sD] at hcl3 hfr3 hlt3);clear hb
  go_wp2_with fail
  go_ret
  exact ⟨rfl,v2,HoldB.mono H3.out (by omega),M3.out⟩
set_option maxRecDepth 20000 in
set_option maxHeartbeats 1000000 in
theorem placeS_11 (k : Int) : PlaceS 11 k:=by
  intro w L v c b n h hn hc;have hc0:=hc;obtain ⟨a0,a1,x0,x1,y0,y1,s0,s1,p0,p1⟩:=hc;have H0:=Aside0.mk h;have M0:=Aside0.mk (Mv.refl w L v h.size);have ap_0:=h.apart w.heap.size (Nat.le_refl _);have pk:=peek_of h.peeks;obtain ⟨z0,z1⟩:=pk ((c.PC+1) % 65536);have hand:=i64_and255;have hand2:=i64_and65535
  have hi : idxM c 11 = c.Y:=rfl
  obtain ⟨u0,u1⟩:=pk (peek b.m ((c.PC+1) % 65536))
  obtain ⟨t0,t1⟩:=pk ((peek b.m ((c.PC+1) % 65536)+1) % 256)
  obtain ⟨B,hB⟩ : ∃ B,word2 (peek b.m (peek b.m ((c.PC+1) % 65536))) (peek b.m ((peek b.m ((c.PC+1) % 65536)+1) % 256)) = B:=⟨_,rfl⟩
  obtain ⟨b0,b1⟩ : 0 ≤ B∧B < 65536:=by rw [← hB];exact word2_in (pk _) (pk _)
  obtain ⟨E,hE⟩ : ∃ E,(B+c.Y) % 65536 = E:=⟨_,rfl⟩;have HE:=Aside0.mk hE;have e0' : 0 ≤ E:=by { omega };have e1' : E < 65536:=by { omega };have q3 : B / 256 * 256+E % 256 = pg B E:=rfl;obtain ⟨g0,g1⟩:=pg_b (e:=E) b0 b1
  rw [show plc c b 11 k = (E,fixB (((lo1 c b).rd (peek b.m ((c.PC+1) % 65536))).rd ((peek b.m ((c.PC+1) % 65536)+1) % 256)) k B E) from by rw [← HE.out,← hB];rfl]
  by_cases hk : k = 2
  · subst hk
    by_cases he : pg B E = E
    · rw [show fixB (((lo1 c b).rd (peek b.m ((c.PC+1) % 65536))).rd ((peek b.m ((c.PC+1) % 65536)+1) % 256)) 2 B E = ((lo1 c b).rd (peek b.m ((c.PC+1) % 65536))).rd ((peek b.m ((c.PC+1) % 65536)+1) % 256) from by simp [fixB,he]]
      have he1 : (pg B E != E) = false:=by simp [he]
      clear he
      have HB:=hR w;go_enter Tryz.func173,Tryz.ntmps173
      go_wp2_with fail
      refine Calls.mono (spec_rd _ ((c.PC+1) % 65536) b.m b rfl (by omega) (by (repeat' (first | (with_reducible exact H0.out) | (with_reducible apply HoldB.alloc) | (with_reducible apply HoldB.drew) | (with_reducible apply HoldB.drewN) | (with_reducible refine HoldB.far ?_ _ _ _ ?_) | assumption))) (by omega)) ?_
      rintro _ w1 ⟨rfl,v1,H1,M1⟩
      obtain ⟨hl1_0,hf1_0,hz1_0,ap_0⟩:=M1.loc (w.heap.size) (by first | omega | (simp;done) | (simp;omega)) ap_0
      have M1:=Aside0.mk (Mv.tr (by (repeat' (first | (with_reducible exact M0.out) | (with_reducible apply Mv.al) | (with_reducible apply Mv.dr) | (with_reducible apply Mv.drN) | (with_reducible refine Mv.far ?_ ?_ _) | (with_reducible refine Mv.set ?_ ?_ _ _) | omega | (simp only [];omega) | assumption))) M1)
      have H1:=Aside0.mk H1
      go_wp2_with fail
      refine Calls.mono (spec_rd _ (peek b.m ((c.PC+1) % 65536)) b.m (lo1 c b) rfl (by omega) (by (repeat' (first | (with_reducible exact H1.out) | (with_reducible apply HoldB.alloc) | (with_reducible apply HoldB.drew) | (with_reducible apply HoldB.drewN) | (with_reducible refine HoldB.far ?_ _ _ _ ?_) | assumption))) (by omega)) ?_
      rintro _ w2 ⟨rfl,v2,H2,M2⟩
      obtain ⟨hl2_0,hf2_0,hz2_0,ap_0⟩:=M2.loc (w.heap.size) (by first | omega | (simp;done) | (simp;omega)) ap_0
      have M2:=Aside0.mk (Mv.tr (by (repeat' (first | (with_reducible exact M1.out) | (with_reducible apply Mv.al) | (with_reducible apply Mv.dr) | (with_reducible apply Mv.drN) | (with_reducible refine Mv.far ?_ ?_ _) | (with_reducible refine Mv.set ?_ ?_ _ _) | omega | (simp only [];omega) | assumption))) M2)
      have H2:=Aside0.mk H2
      go_wp2_with fail
      refine Calls.mono (spec_rd _ ((peek b.m ((c.PC+1) % 65536)+1) % 256) b.m ((lo1 c b).rd (peek b.m ((c.PC+1) % 65536))) rfl (by omega) (by (repeat' (first | (with_reducible exact H2.out) | (with_reducible apply HoldB.alloc) | (with_reducible apply HoldB.drew) | (with_reducible apply HoldB.drewN) | (with_reducible refine HoldB.far ?_ _ _ _ ?_) | assumption))) (by omega)) ?_
      rintro _ w3 ⟨rfl,v3,H3,M3⟩
      obtain ⟨hl3_0,hf3_0,hz3_0,ap_0⟩:=M3.loc (w.heap.size) (by first | omega | (simp;done) | (simp;omega)) ap_0
      have M3:=Aside0.mk (Mv.tr (by (repeat' (first | (with_reducible exact M2.out) | (with_reducible apply Mv.al) | (with_reducible apply Mv.dr) | (with_reducible apply Mv.drN) | (with_reducible refine Mv.far ?_ ?_ _) | (with_reducible refine Mv.set ?_ ?_ _ _) | omega | (simp only [];omega) | assumption))) M3)
      have H3:=Aside0.mk H3
      go_wp2_with (first | (go_at_call 165;((with_reducible refine (spec_l04Word _ _ _ u0 u1 t0 t1).mono ?_);rintro _ _ ⟨rfl,rfl⟩)))
      refine Calls.mono (spec_l06Index c 11 _ (by decide) hc0) ?_
      rintro _ w4 ⟨rfl,hb⟩
      have H4:=Aside0.mk (HoldB.below (by (repeat' (first | (with_reducible exact H3.out) | (with_reducible apply HoldB.alloc) | (with_reducible apply HoldB.drew) | (with_reducible apply HoldB.drewN) | (with_reducible refine HoldB.far ?_ _ _ _ ?_) | assumption))) hb);have M4:=Aside0.mk (Mv.bl (by (repeat' (first | (with_reducible exact M3.out) | (with_reducible apply Mv.al) | (with_reducible apply Mv.dr) | (with_reducible apply Mv.drN) | (with_reducible refine Mv.far ?_ ?_ _) | (with_reducible refine Mv.set ?_ ?_ _ _) | omega | (simp only [];omega) | assumption))) hb);have hz4:=hb.size;obtain ⟨hcl4,hfr4,hlt4,_⟩:=bcell hb;(try simp only [sA,sC,sD] at hz4);(try simp only [sA,sC,sD] at hcl4 hfr4 hlt4);clear hb
      go_wp2_with fail
      go_ret
      exact ⟨rfl,v3,HoldB.mono H4.out (by omega),M4.out⟩
    · rw [show fixB (((lo1 c b).rd (peek b.m ((c.PC+1) % 65536))).rd ((peek b.m ((c.PC+1) % 65536)+1) % 256)) 2 B E = (((lo1 c b).rd (peek b.m ((c.PC+1) % 65536))).rd ((peek b.m ((c.PC+1) % 65536)+1) % 256)).rd (pg B E) from by simp [fixB,he]]
      have he1 : (pg B E != E) = true:=by simp [he]
      clear he
      have HB:=hR w;go_enter Tryz.func173,Tryz.ntmps173
      go_wp2_with fail
      refine Calls.mono (spec_rd _ ((c.PC+1) % 65536) b.m b rfl (by omega) (by (repeat' (first | (with_reducible exact H0.out) | (with_reducible apply HoldB.alloc) | (with_reducible apply HoldB.drew) | (with_reducible apply HoldB.drewN) | (with_reducible refine HoldB.far ?_ _ _ _ ?_) | assumption))) (by omega)) ?_
      rintro _ w1 ⟨rfl,v1,H1,M1⟩
      obtain ⟨hl1_0,hf1_0,hz1_0,ap_0⟩:=M1.loc (w.heap.size) (by first | omega | (simp;done) | (simp;omega)) ap_0
      have M1:=Aside0.mk (Mv.tr (by (repeat' (first | (with_reducible exact M0.out) | (with_reducible apply Mv.al) | (with_reducible apply Mv.dr) | (with_reducible apply Mv.drN) | (with_reducible refine Mv.far ?_ ?_ _) | (with_reducible refine Mv.set ?_ ?_ _ _) | omega | (simp only [];omega) | assumption))) M1)
      have H1:=Aside0.mk H1
      go_wp2_with fail
      refine Calls.mono (spec_rd _ (peek b.m ((c.PC+1) % 65536)) b.m (lo1 c b) rfl (by omega) (by (repeat' (first | (with_reducible exact H1.out) | (with_reducible apply HoldB.alloc) | (with_reducible apply HoldB.drew) | (with_reducible apply HoldB.drewN) | (with_reducible refine HoldB.far ?_ _ _ _ ?_) | assumption))) (by omega)) ?_
      rintro _ w2 ⟨rfl,v2,H2,M2⟩
      obtain ⟨hl2_0,hf2_0,hz2_0,ap_0⟩:=M2.loc (w.heap.size) (by first | omega | (simp;done) | (simp;omega)) ap_0
      have M2:=Aside0.mk (Mv.tr (by (repeat' (first | (with_reducible exact M1.out) | (with_reducible apply Mv.al) | (with_reducible apply Mv.dr) | (with_reducible apply Mv.drN) | (with_reducible refine Mv.far ?_ ?_ _) | (with_reducible refine Mv.set ?_ ?_ _ _) | omega | (simp only [];omega) | assumption))) M2)
      have H2:=Aside0.mk H2
      go_wp2_with fail
      refine Calls.mono (spec_rd _ ((peek b.m ((c.PC+1) % 65536)+1) % 256) b.m ((lo1 c b).rd (peek b.m ((c.PC+1) % 65536))) rfl (by omega) (by (repeat' (first | (with_reducible exact H2.out) | (with_reducible apply HoldB.alloc) | (with_reducible apply HoldB.drew) | (with_reducible apply HoldB.drewN) | (with_reducible refine HoldB.far ?_ _ _ _ ?_) | assumption))) (by omega)) ?_
      rintro _ w3 ⟨rfl,v3,H3,M3⟩
      obtain ⟨hl3_0,hf3_0,hz3_0,ap_0⟩:=M3.loc (w.heap.size) (by first | omega | (simp;done) | (simp;omega)) ap_0
      have M3:=Aside0.mk (Mv.tr (by (repeat' (first | (with_reducible exact M2.out) | (with_reducible apply Mv.al) | (with_reducible apply Mv.dr) | (with_reducible apply Mv.drN) | (with_reducible refine Mv.far ?_ ?_ _) | (with_reducible refine Mv.set ?_ ?_ _ _) | omega | (simp only [];omega) | assumption))) M3)
      have H3:=Aside0.mk H3
      go_wp2_with (first | (go_at_call 165;((with_reducible refine (spec_l04Word _ _ _ u0 u1 t0 t1).mono ?_);rintro _ _ ⟨rfl,rfl⟩)))
      refine Calls.mono (spec_l06Index c 11 _ (by decide) hc0) ?_
      rintro _ w4 ⟨rfl,hb⟩
      have H4:=Aside0.mk (HoldB.below (by (repeat' (first | (with_reducible exact H3.out) | (with_reducible apply HoldB.alloc) | (with_reducible apply HoldB.drew) | (with_reducible apply HoldB.drewN) | (with_reducible refine HoldB.far ?_ _ _ _ ?_) | assumption))) hb);have M4:=Aside0.mk (Mv.bl (by (repeat' (first | (with_reducible exact M3.out) | (with_reducible apply Mv.al) | (with_reducible apply Mv.dr) | (with_reducible apply Mv.drN) | (with_reducible refine Mv.far ?_ ?_ _) | (with_reducible refine Mv.set ?_ ?_ _ _) | omega | (simp only [];omega) | assumption))) hb);have hz4:=hb.size;obtain ⟨hcl4,hfr4,hlt4,_⟩:=bcell hb;(try simp only [sA,sC,sD] at hz4);(try simp only [sA,sC,sD] at hcl4 hfr4 hlt4);clear hb
      go_wp2_with fail
      refine Calls.mono (spec_rd _ (pg B E) b.m (((lo1 c b).rd (peek b.m ((c.PC+1) % 65536))).rd ((peek b.m ((c.PC+1) % 65536)+1) % 256)) rfl (by omega) (by (repeat' (first | (with_reducible exact H4.out) | (with_reducible apply HoldB.alloc) | (with_reducible apply HoldB.drew) | (with_reducible apply HoldB.drewN) | (with_reducible refine HoldB.far ?_ _ _ _ ?_) | assumption))) (by omega)) ?_
      rintro _ w5 ⟨rfl,v5,H5,M5⟩
      have M5:=Mv.tr (by (repeat' (first | (with_reducible exact M4.out) | (with_reducible apply Mv.al) | (with_reducible apply Mv.dr) | (with_reducible apply Mv.drN) | (with_reducible refine Mv.far ?_ ?_ _) | (with_reducible refine Mv.set ?_ ?_ _ _) | omega | (simp only [];omega) | assumption))) M5
      go_wp2_with fail
      go_ret
      exact ⟨rfl,v5,HoldB.mono H5 (by omega),M5⟩
  · rw [show fixB (((lo1 c b).rd (peek b.m ((c.PC+1) % 65536))).rd ((peek b.m ((c.PC+1) % 65536)+1) % 256)) k B E = (((lo1 c b).rd (peek b.m ((c.PC+1) % 65536))).rd ((peek b.m ((c.PC+1) % 65536)+1) % 256)).rd (pg B E) from by simp [fixB,hk]]
    have hk1 : (k != 2) = true:=by simp [hk]
    clear hk
    have HB:=hR w;go_enter Tryz.func173,Tryz.ntmps173
    go_wp2_with fail
    refine Calls.mono (spec_rd _ ((c.PC+1) % 65536) b.m b rfl (by omega) (by (repeat' (first | (with_reducible exact H0.out) | (with_reducible apply HoldB.alloc) | (with_reducible apply HoldB.drew) | (with_reducible apply HoldB.drewN) | (with_reducible refine HoldB.far ?_ _ _ _ ?_) | assumption))) (by omega)) ?_
    rintro _ w1 ⟨rfl,v1,H1,M1⟩
    obtain ⟨hl1_0,hf1_0,hz1_0,ap_0⟩:=M1.loc (w.heap.size) (by first | omega | (simp;done) | (simp;omega)) ap_0
    have M1:=Aside0.mk (Mv.tr (by (repeat' (first | (with_reducible exact M0.out) | (with_reducible apply Mv.al) | (with_reducible apply Mv.dr) | (with_reducible apply Mv.drN) | (with_reducible refine Mv.far ?_ ?_ _) | (with_reducible refine Mv.set ?_ ?_ _ _) | omega | (simp only [];omega) | assumption))) M1)
    have H1:=Aside0.mk H1
    go_wp2_with fail
    refine Calls.mono (spec_rd _ (peek b.m ((c.PC+1) % 65536)) b.m (lo1 c b) rfl (by omega) (by (repeat' (first | (with_reducible exact H1.out) | (with_reducible apply HoldB.alloc) | (with_reducible apply HoldB.drew) | (with_reducible apply HoldB.drewN) | (with_reducible refine HoldB.far ?_ _ _ _ ?_) | assumption))) (by omega)) ?_
    rintro _ w2 ⟨rfl,v2,H2,M2⟩
    obtain ⟨hl2_0,hf2_0,hz2_0,ap_0⟩:=M2.loc (w.heap.size) (by first | omega | (simp;done) | (simp;omega)) ap_0
    have M2:=Aside0.mk (Mv.tr (by (repeat' (first | (with_reducible exact M1.out) | (with_reducible apply Mv.al) | (with_reducible apply Mv.dr) | (with_reducible apply Mv.drN) | (with_reducible refine Mv.far ?_ ?_ _) | (with_reducible refine Mv.set ?_ ?_ _ _) | omega | (simp only [];omega) | assumption))) M2)
    have H2:=Aside0.mk H2
    go_wp2_with fail
    refine Calls.mono (spec_rd _ ((peek b.m ((c.PC+1) % 65536)+1) % 256) b.m ((lo1 c b).rd (peek b.m ((c.PC+1) % 65536))) rfl (by omega) (by (repeat' (first | (with_reducible exact H2.out) | (with_reducible apply HoldB.alloc) | (with_reducible apply HoldB.drew) | (with_reducible apply HoldB.drewN) | (with_reducible refine HoldB.far ?_ _ _ _ ?_) | assumption))) (by omega)) ?_
    rintro _ w3 ⟨rfl,v3,H3,M3⟩
    obtain ⟨hl3_0,hf3_0,hz3_0,ap_0⟩:=M3.loc (w.heap.size) (by first | omega | (simp;done) | (simp;omega)) ap_0
    have M3:=Aside0.mk (Mv.tr (by (repeat' (first | (with_reducible exact M2.out) | (with_reducible apply Mv.al) | (with_reducible apply Mv.dr) | (with_reducible apply Mv.drN) | (with_reducible refine Mv.far ?_ ?_ _) | (with_reducible refine Mv.set ?_ ?_ _ _) | omega | (simp only [];omega) | assumption))) M3)
    have H3:=Aside0.mk H3
    go_wp2_with (first | (go_at_call 165;((with_reducible refine (spec_l04Word _ _ _ u0 u1 t0 t1).mono ?_);rintro _ _ ⟨rfl,rfl⟩)))
    refine Calls.mono (spec_l06Index c 11 _ (by decide) hc0) ?_
    rintro _ w4 ⟨rfl,hb⟩
    have H4:=Aside0.mk (HoldB.below (by (repeat' (first | (with_reducible exact H3.out) | (with_reducible apply HoldB.alloc) | (with_reducible apply HoldB.drew) | (with_reducible apply HoldB.drewN) | (with_reducible refine HoldB.far ?_ _ _ _ ?_) | assumption))) hb);have M4:=Aside0.mk (Mv.bl (by (repeat' (first | (with_reducible exact M3.out) | (with_reducible apply Mv.al) | (with_reducible apply Mv.dr) | (with_reducible apply Mv.drN) | (with_reducible refine Mv.far ?_ ?_ _) | (with_reducible refine Mv.set ?_ ?_ _ _) | omega | (simp only [];omega) | assumption))) hb);have hz4:=hb.size;obtain ⟨hcl4,hfr4,hlt4,_⟩:=bcell hb;(try simp only [sA,sC,sD] at hz4);(try simp only [sA,sC,sD] at hcl4 hfr4 hlt4);clear hb
    go_wp2_with fail
    refine Calls.mono (spec_rd _ (pg B E) b.m (((lo1 c b).rd (peek b.m ((c.PC+1) % 65536))).rd ((peek b.m ((c.PC+1) % 65536)+1) % 256)) rfl (by omega) (by (repeat' (first | (with_reducible exact H4.out) | (with_reducible apply HoldB.alloc) | (with_reducible apply HoldB.drew) | (with_reducible apply HoldB.drewN) | (with_reducible refine HoldB.far ?_ _ _ _ ?_) | assumption))) (by omega)) ?_
    rintro _ w5 ⟨rfl,v5,H5,M5⟩
    have M5:=Mv.tr (by (repeat' (first | (with_reducible exact M4.out) | (with_reducible apply Mv.al) | (with_reducible apply Mv.dr) | (with_reducible apply Mv.drN) | (with_reducible refine Mv.far ?_ ?_ _) | (with_reducible refine Mv.set ?_ ?_ _ _) | omega | (simp only [];omega) | assumption))) M5
    go_wp2_with fail
    go_ret
    exact ⟨rfl,v5,HoldB.mono H5 (by omega),M5⟩
set_option maxRecDepth 20000 in
set_option maxHeartbeats 1000000 in
theorem placeS_7 (k : Int) : PlaceS 7 k:=by
  intro w L v c b n h hn hc;have hc0:=hc;obtain ⟨a0,a1,x0,x1,y0,y1,s0,s1,p0,p1⟩:=hc;have H0:=Aside0.mk h;have M0:=Aside0.mk (Mv.refl w L v h.size);have ap_0:=h.apart w.heap.size (Nat.le_refl _);have pk:=peek_of h.peeks;obtain ⟨z0,z1⟩:=pk ((c.PC+1) % 65536);have hand:=i64_and255;have hand2:=i64_and65535
  have hi : idxM c 7 = c.X:=rfl
  obtain ⟨t0,t1⟩:=pk ((c.PC+2) % 65536)
  obtain ⟨B,hB⟩ : ∃ B,word2 (peek b.m ((c.PC+1) % 65536)) (peek b.m ((c.PC+2) % 65536)) = B:=⟨_,rfl⟩
  obtain ⟨b0,b1⟩ : 0 ≤ B∧B < 65536:=by rw [← hB];exact word2_in (pk _) (pk _)
  obtain ⟨E,hE⟩ : ∃ E,(B+c.X) % 65536 = E:=⟨_,rfl⟩;have HE:=Aside0.mk hE;have e0' : 0 ≤ E:=by { omega };have e1' : E < 65536:=by { omega };have q3 : B / 256 * 256+E % 256 = pg B E:=rfl;obtain ⟨g0,g1⟩:=pg_b (e:=E) b0 b1
  rw [show plc c b 7 k = (E,fixB ((lo1 c b).rd ((c.PC+2) % 65536)) k B E) from by rw [← HE.out,← hB];rfl]
  by_cases hk : k = 2
  · subst hk
    by_cases he : pg B E = E
    · rw [show fixB ((lo1 c b).rd ((c.PC+2) % 65536)) 2 B E = (lo1 c b).rd ((c.PC+2) % 65536) from by simp [fixB,he]]
      have he1 : (pg B E != E) = false:=by simp [he]
      clear he
      have HB:=hR w;go_enter Tryz.func173,Tryz.ntmps173
      go_wp2_with fail
      refine Calls.mono (spec_rd _ ((c.PC+1) % 65536) b.m b rfl (by omega) (by (repeat' (first | (with_reducible exact H0.out) | (with_reducible apply HoldB.alloc) | (with_reducible apply HoldB.drew) | (with_reducible apply HoldB.drewN) | (with_reducible refine HoldB.far ?_ _ _ _ ?_) | assumption))) (by omega)) ?_
      rintro _ w1 ⟨rfl,v1,H1,M1⟩
      obtain ⟨hl1_0,hf1_0,hz1_0,ap_0⟩:=M1.loc (w.heap.size) (by first | omega | (simp;done) | (simp;omega)) ap_0
      have M1:=Aside0.mk (Mv.tr (by (repeat' (first | (with_reducible exact M0.out) | (with_reducible apply Mv.al) | (with_reducible apply Mv.dr) | (with_reducible apply Mv.drN) | (with_reducible refine Mv.far ?_ ?_ _) | (with_reducible refine Mv.set ?_ ?_ _ _) | omega | (simp only [];omega) | assumption))) M1)
      have H1:=Aside0.mk H1
      go_wp2_with fail
      refine Calls.mono (spec_rd _ ((c.PC+2) % 65536) b.m (lo1 c b) rfl (by omega) (by (repeat' (first | (with_reducible exact H1.out) | (with_reducible apply HoldB.alloc) | (with_reducible apply HoldB.drew) | (with_reducible apply HoldB.drewN) | (with_reducible refine HoldB.far ?_ _ _ _ ?_) | assumption))) (by omega)) ?_
      rintro _ w2 ⟨rfl,v2,H2,M2⟩
      obtain ⟨hl2_0,hf2_0,hz2_0,ap_0⟩:=M2.loc (w.heap.size) (by first | omega | (simp;done) | (simp;omega)) ap_0
      have M2:=Aside0.mk (Mv.tr (by (repeat' (first | (with_reducible exact M1.out) | (with_reducible apply Mv.al) | (with_reducible apply Mv.dr) | (with_reducible apply Mv.drN) | (with_reducible refine Mv.far ?_ ?_ _) | (with_reducible refine Mv.set ?_ ?_ _ _) | omega | (simp only [];omega) | assumption))) M2)
      have H2:=Aside0.mk H2
      go_wp2_with (first | (go_at_call 165;((with_reducible refine (spec_l04Word _ _ _ z0 z1 t0 t1).mono ?_);rintro _ _ ⟨rfl,rfl⟩)))
      refine Calls.mono (spec_l06Index c 7 _ (by decide) hc0) ?_
      rintro _ w4 ⟨rfl,hb⟩
      have H4:=Aside0.mk (HoldB.below (by (repeat' (first | (with_reducible exact H2.out) | (with_reducible apply HoldB.alloc) | (with_reducible apply HoldB.drew) | (with_reducible apply HoldB.drewN) | (with_reducible refine HoldB.far ?_ _ _ _ ?_) | assumption))) hb);have M4:=Aside0.mk (Mv.bl (by (repeat' (first | (with_reducible exact M2.out) | (with_reducible apply Mv.al) | (with_reducible apply Mv.dr) | (with_reducible apply Mv.drN) | (with_reducible refine Mv.far ?_ ?_ _) | (with_reducible refine Mv.set ?_ ?_ _ _) | omega | (simp only [];omega) | assumption))) hb);have hz4:=hb.size;obtain ⟨hcl4,hfr4,hlt4,_⟩:=bcell hb;(try simp only [sA,sC,sD] at hz4);(try simp only [sA,sC,sD] at hcl4 hfr4 hlt4);clear hb
      go_wp2_with fail
      go_ret
      exact ⟨rfl,v2,HoldB.mono H4.out (by omega),M4.out⟩
    · rw [show fixB ((lo1 c b).rd ((c.PC+2) % 65536)) 2 B E = ((lo1 c b).rd ((c.PC+2) % 65536)).rd (pg B E) from by simp [fixB,he]]
      have he1 : (pg B E != E) = true:=by simp [he]
      clear he
      have HB:=hR w;go_enter Tryz.func173,Tryz.ntmps173
      go_wp2_with fail
      refine Calls.mono (spec_rd _ ((c.PC+1) % 65536) b.m b rfl (by omega) (by (repeat' (first | (with_reducible exact H0.out) | (with_reducible apply HoldB.alloc) | (with_reducible apply HoldB.drew) | (with_reducible apply HoldB.drewN) | (with_reducible refine HoldB.far ?_ _ _ _ ?_) | assumption))) (by omega)) ?_
      rintro _ w1 ⟨rfl,v1,H1,M1⟩
      obtain ⟨hl1_0,hf1_0,hz1_0,ap_0⟩:=M1.loc (w.heap.size) (by first | omega | (simp;done) | (simp;omega)) ap_0
      have M1:=Aside0.mk (Mv.tr (by (repeat' (first | (with_reducible exact M0.out) | (with_reducible apply Mv.al) | (with_reducible apply Mv.dr) | (with_reducible apply Mv.drN) | (with_reducible refine Mv.far ?_ ?_ _) | (with_reducible refine Mv.set ?_ ?_ _ _) | omega | (simp only [];omega) | assumption))) M1)
      have H1:=Aside0.mk H1
      go_wp2_with fail
      refine Calls.mono (spec_rd _ ((c.PC+2) % 65536) b.m (lo1 c b) rfl (by omega) (by (repeat' (first | (with_reducible exact H1.out) | (with_reducible apply HoldB.alloc) | (with_reducible apply HoldB.drew) | (with_reducible apply HoldB.drewN) | (with_reducible refine HoldB.far ?_ _ _ _ ?_) | assumption))) (by omega)) ?_
      rintro _ w2 ⟨rfl,v2,H2,M2⟩
      obtain ⟨hl2_0,hf2_0,hz2_0,ap_0⟩:=M2.loc (w.heap.size) (by first | omega | (simp;done) | (simp;omega)) ap_0
      have M2:=Aside0.mk (Mv.tr (by (repeat' (first | (with_reducible exact M1.out) | (with_reducible apply Mv.al) | (with_reducible apply Mv.dr) | (with_reducible apply Mv.drN) | (with_reducible refine Mv.far ?_ ?_ _) | (with_reducible refine Mv.set ?_ ?_ _ _) | omega | (simp only [];omega) | assumption))) M2)
      have H2:=Aside0.mk H2
      go_wp2_with (first | (go_at_call 165;((with_reducible refine (spec_l04Word _ _ _ z0 z1 t0 t1).mono ?_);rintro _ _ ⟨rfl,rfl⟩)))
      refine Calls.mono (spec_l06Index c 7 _ (by decide) hc0) ?_
      rintro _ w4 ⟨rfl,hb⟩
      have H4:=Aside0.mk (HoldB.below (by (repeat' (first | (with_reducible exact H2.out) | (with_reducible apply HoldB.alloc) | (with_reducible apply HoldB.drew) | (with_reducible apply HoldB.drewN) | (with_reducible refine HoldB.far ?_ _ _ _ ?_) | assumption))) hb);have M4:=Aside0.mk (Mv.bl (by (repeat' (first | (with_reducible exact M2.out) | (with_reducible apply Mv.al) | (with_reducible apply Mv.dr) | (with_reducible apply Mv.drN) | (with_reducible refine Mv.far ?_ ?_ _) | (with_reducible refine Mv.set ?_ ?_ _ _) | omega | (simp only [];omega) | assumption))) hb);have hz4:=hb.size;obtain ⟨hcl4,hfr4,hlt4,_⟩:=bcell hb;(try simp only [sA,sC,sD] at hz4);(try simp only [sA,sC,sD] at hcl4 hfr4 hlt4);clear hb
      go_wp2_with fail
      refine Calls.mono (spec_rd _ (pg B E) b.m ((lo1 c b).rd ((c.PC+2) % 65536)) rfl (by omega) (by (repeat' (first | (with_reducible exact H4.out) | (with_reducible apply HoldB.alloc) | (with_reducible apply HoldB.drew) | (with_reducible apply HoldB.drewN) | (with_reducible refine HoldB.far ?_ _ _ _ ?_) | assumption))) (by omega)) ?_
      rintro _ w5 ⟨rfl,v5,H5,M5⟩
      have M5:=Mv.tr (by (repeat' (first | (with_reducible exact M4.out) | (with_reducible apply Mv.al) | (with_reducible apply Mv.dr) | (with_reducible apply Mv.drN) | (with_reducible refine Mv.far ?_ ?_ _) | (with_reducible refine Mv.set ?_ ?_ _ _) | omega | (simp only [];omega) | assumption))) M5
      go_wp2_with fail
      go_ret
      exact ⟨rfl,v5,HoldB.mono H5 (by omega),M5⟩
  · rw [show fixB ((lo1 c b).rd ((c.PC+2) % 65536)) k B E = ((lo1 c b).rd ((c.PC+2) % 65536)).rd (pg B E) from by simp [fixB,hk]]
    have hk1 : (k != 2) = true:=by simp [hk]
    clear hk
    have HB:=hR w;go_enter Tryz.func173,Tryz.ntmps173
    go_wp2_with fail
    refine Calls.mono (spec_rd _ ((c.PC+1) % 65536) b.m b rfl (by omega) (by (repeat' (first | (with_reducible exact H0.out) | (with_reducible apply HoldB.alloc) | (with_reducible apply HoldB.drew) | (with_reducible apply HoldB.drewN) | (with_reducible refine HoldB.far ?_ _ _ _ ?_) | assumption))) (by omega)) ?_
    rintro _ w1 ⟨rfl,v1,H1,M1⟩
    obtain ⟨hl1_0,hf1_0,hz1_0,ap_0⟩:=M1.loc (w.heap.size) (by first | omega | (simp;done) | (simp;omega)) ap_0
    have M1:=Aside0.mk (Mv.tr (by (repeat' (first | (with_reducible exact M0.out) | (with_reducible apply Mv.al) | (with_reducible apply Mv.dr) | (with_reducible apply Mv.drN) | (with_reducible refine Mv.far ?_ ?_ _) | (with_reducible refine Mv.set ?_ ?_ _ _) | omega | (simp only [];omega) | assumption))) M1)
    have H1:=Aside0.mk H1
    go_wp2_with fail
    refine Calls.mono (spec_rd _ ((c.PC+2) % 65536) b.m (lo1 c b) rfl (by omega) (by (repeat' (first | (with_reducible exact H1.out) | (with_reducible apply HoldB.alloc) | (with_reducible apply HoldB.drew) | (with_reducible apply HoldB.drewN) | (with_reducible refine HoldB.far ?_ _ _ _ ?_) | assumption))) (by omega)) ?_
    rintro _ w2 ⟨rfl,v2,H2,M2⟩
    obtain ⟨hl2_0,hf2_0,hz2_0,ap_0⟩:=M2.loc (w.heap.size) (by first | omega | (simp;done) | (simp;omega)) ap_0
    have M2:=Aside0.mk (Mv.tr (by (repeat' (first | (with_reducible exact M1.out) | (with_reducible apply Mv.al) | (with_reducible apply Mv.dr) | (with_reducible apply Mv.drN) | (with_reducible refine Mv.far ?_ ?_ _) | (with_reducible refine Mv.set ?_ ?_ _ _) | omega | (simp only [];omega) | assumption))) M2)
    have H2:=Aside0.mk H2
    go_wp2_with (first | (go_at_call 165;((with_reducible refine (spec_l04Word _ _ _ z0 z1 t0 t1).mono ?_);rintro _ _ ⟨rfl,rfl⟩)))
    refine Calls.mono (spec_l06Index c 7 _ (by decide) hc0) ?_
    rintro _ w4 ⟨rfl,hb⟩
    have H4:=Aside0.mk (HoldB.below (by (repeat' (first | (with_reducible exact H2.out) | (with_reducible apply HoldB.alloc) | (with_reducible apply HoldB.drew) | (with_reducible apply HoldB.drewN) | (with_reducible refine HoldB.far ?_ _ _ _ ?_) | assumption))) hb);have M4:=Aside0.mk (Mv.bl (by (repeat' (first | (with_reducible exact M2.out) | (with_reducible apply Mv.al) | (with_reducible apply Mv.dr) | (with_reducible apply Mv.drN) | (with_reducible refine Mv.far ?_ ?_ _) | (with_reducible refine Mv.set ?_ ?_ _ _) | omega | (simp only [];omega) | assumption))) hb);have hz4:=hb.size;obtain ⟨hcl4,hfr4,hlt4,_⟩:=bcell hb;(try simp only [sA,sC,sD] at hz4);(try simp only [sA,sC,sD] at hcl4 hfr4 hlt4);clear hb
    go_wp2_with fail
    refine Calls.mono (spec_rd _ (pg B E) b.m ((lo1 c b).rd ((c.PC+2) % 65536)) rfl (by omega) (by (repeat' (first | (with_reducible exact H4.out) | (with_reducible apply HoldB.alloc) | (with_reducible apply HoldB.drew) | (with_reducible apply HoldB.drewN) | (with_reducible refine HoldB.far ?_ _ _ _ ?_) | assumption))) (by omega)) ?_
    rintro _ w5 ⟨rfl,v5,H5,M5⟩
    have M5:=Mv.tr (by (repeat' (first | (with_reducible exact M4.out) | (with_reducible apply Mv.al) | (with_reducible apply Mv.dr) | (with_reducible apply Mv.drN) | (with_reducible refine Mv.far ?_ ?_ _) | (with_reducible refine Mv.set ?_ ?_ _ _) | omega | (simp only [];omega) | assumption))) M5
    go_wp2_with fail
    go_ret
    exact ⟨rfl,v5,HoldB.mono H5 (by omega),M5⟩
set_option maxRecDepth 20000 in
set_option maxHeartbeats 1000000 in
theorem placeS_8 (k : Int) : PlaceS 8 k:=by
  intro w L v c b n h hn hc;have hc0:=hc;obtain ⟨a0,a1,x0,x1,y0,y1,s0,s1,p0,p1⟩:=hc;have H0:=Aside0.mk h;have M0:=Aside0.mk (Mv.refl w L v h.size);have ap_0:=h.apart w.heap.size (Nat.le_refl _);have pk:=peek_of h.peeks;obtain ⟨z0,z1⟩:=pk ((c.PC+1) % 65536);have hand:=i64_and255;have hand2:=i64_and65535
  have hi : idxM c 8 = c.Y:=rfl
  obtain ⟨t0,t1⟩:=pk ((c.PC+2) % 65536)
  obtain ⟨B,hB⟩ : ∃ B,word2 (peek b.m ((c.PC+1) % 65536)) (peek b.m ((c.PC+2) % 65536)) = B:=⟨_,rfl⟩
  obtain ⟨b0,b1⟩ : 0 ≤ B∧B < 65536:=by rw [← hB];exact word2_in (pk _) (pk _)
  obtain ⟨E,hE⟩ : ∃ E,(B+c.Y) % 65536 = E:=⟨_,rfl⟩;have HE:=Aside0.mk hE;have e0' : 0 ≤ E:=by { omega };have e1' : E < 65536:=by { omega };have q3 : B / 256 * 256+E % 256 = pg B E:=rfl;obtain ⟨g0,g1⟩:=pg_b (e:=E) b0 b1
  rw [show plc c b 8 k = (E,fixB ((lo1 c b).rd ((c.PC+2) % 65536)) k B E) from by rw [← HE.out,← hB];rfl]
  by_cases hk : k = 2
  · subst hk
    by_cases he : pg B E = E
    · rw [show fixB ((lo1 c b).rd ((c.PC+2) % 65536)) 2 B E = (lo1 c b).rd ((c.PC+2) % 65536) from by simp [fixB,he]]
      have he1 : (pg B E != E) = false:=by simp [he]
      clear he
      have HB:=hR w;go_enter Tryz.func173,Tryz.ntmps173
      go_wp2_with fail
      refine Calls.mono (spec_rd _ ((c.PC+1) % 65536) b.m b rfl (by omega) (by (repeat' (first | (with_reducible exact H0.out) | (with_reducible apply HoldB.alloc) | (with_reducible apply HoldB.drew) | (with_reducible apply HoldB.drewN) | (with_reducible refine HoldB.far ?_ _ _ _ ?_) | assumption))) (by omega)) ?_
      rintro _ w1 ⟨rfl,v1,H1,M1⟩
      obtain ⟨hl1_0,hf1_0,hz1_0,ap_0⟩:=M1.loc (w.heap.size) (by first | omega | (simp;done) | (simp;omega)) ap_0
      have M1:=Aside0.mk (Mv.tr (by (repeat' (first | (with_reducible exact M0.out) | (with_reducible apply Mv.al) | (with_reducible apply Mv.dr) | (with_reducible apply Mv.drN) | (with_reducible refine Mv.far ?_ ?_ _) | (with_reducible refine Mv.set ?_ ?_ _ _) | omega | (simp only [];omega) | assumption))) M1)
      have H1:=Aside0.mk H1
      go_wp2_with fail
      refine Calls.mono (spec_rd _ ((c.PC+2) % 65536) b.m (lo1 c b) rfl (by omega) (by (repeat' (first | (with_reducible exact H1.out) | (with_reducible apply HoldB.alloc) | (with_reducible apply HoldB.drew) | (with_reducible apply HoldB.drewN) | (with_reducible refine HoldB.far ?_ _ _ _ ?_) | assumption))) (by omega)) ?_
      rintro _ w2 ⟨rfl,v2,H2,M2⟩
      obtain ⟨hl2_0,hf2_0,hz2_0,ap_0⟩:=M2.loc (w.heap.size) (by first | omega | (simp;done) | (simp;omega)) ap_0
      have M2:=Aside0.mk (Mv.tr (by (repeat' (first | (with_reducible exact M1.out) | (with_reducible apply Mv.al) | (with_reducible apply Mv.dr) | (with_reducible apply Mv.drN) | (with_reducible refine Mv.far ?_ ?_ _) | (with_reducible refine Mv.set ?_ ?_ _ _) | omega | (simp only [];omega) | assumption))) M2)
      have H2:=Aside0.mk H2
      go_wp2_with (first | (go_at_call 165;((with_reducible refine (spec_l04Word _ _ _ z0 z1 t0 t1).mono ?_);rintro _ _ ⟨rfl,rfl⟩)))
      refine Calls.mono (spec_l06Index c 8 _ (by decide) hc0) ?_
      rintro _ w4 ⟨rfl,hb⟩
      have H4:=Aside0.mk (HoldB.below (by (repeat' (first | (with_reducible exact H2.out) | (with_reducible apply HoldB.alloc) | (with_reducible apply HoldB.drew) | (with_reducible apply HoldB.drewN) | (with_reducible refine HoldB.far ?_ _ _ _ ?_) | assumption))) hb);have M4:=Aside0.mk (Mv.bl (by (repeat' (first | (with_reducible exact M2.out) | (with_reducible apply Mv.al) | (with_reducible apply Mv.dr) | (with_reducible apply Mv.drN) | (with_reducible refine Mv.far ?_ ?_ _) | (with_reducible refine Mv.set ?_ ?_ _ _) | omega | (simp only [];omega) | assumption))) hb);have hz4:=hb.size;obtain ⟨hcl4,hfr4,hlt4,_⟩:=bcell hb;(try simp only [sA,sC,sD] at hz4);(try simp only [sA,sC,sD] at hcl4 hfr4 hlt4);clear hb
      go_wp2_with fail
      go_ret
      exact ⟨rfl,v2,HoldB.mono H4.out (by omega),M4.out⟩
    · rw [show fixB ((lo1 c b).rd ((c.PC+2) % 65536)) 2 B E = ((lo1 c b).rd ((c.PC+2) % 65536)).rd (pg B E) from by simp [fixB,he]]
      have he1 : (pg B E != E) = true:=by simp [he]
      clear he
      have HB:=hR w;go_enter Tryz.func173,Tryz.ntmps173
      go_wp2_with fail
      refine Calls.mono (spec_rd _ ((c.PC+1) % 65536) b.m b rfl (by omega) (by (repeat' (first | (with_reducible exact H0.out) | (with_reducible apply HoldB.alloc) | (with_reducible apply HoldB.drew) | (with_reducible apply HoldB.drewN) | (with_reducible refine HoldB.far ?_ _ _ _ ?_) | assumption))) (by omega)) ?_
      rintro _ w1 ⟨rfl,v1,H1,M1⟩
      obtain ⟨hl1_0,hf1_0,hz1_0,ap_0⟩:=M1.loc (w.heap.size) (by first | omega | (simp;done) | (simp;omega)) ap_0
      have M1:=Aside0.mk (Mv.tr (by (repeat' (first | (with_reducible exact M0.out) | (with_reducible apply Mv.al) | (with_reducible apply Mv.dr) | (with_reducible apply Mv.drN) | (with_reducible refine Mv.far ?_ ?_ _) | (with_reducible refine Mv.set ?_ ?_ _ _) | omega | (simp only [];omega) | assumption))) M1)
      have H1:=Aside0.mk H1
      go_wp2_with fail
      refine Calls.mono (spec_rd _ ((c.PC+2) % 65536) b.m (lo1 c b) rfl (by omega) (by (repeat' (first | (with_reducible exact H1.out) | (with_reducible apply HoldB.alloc) | (with_reducible apply HoldB.drew) | (with_reducible apply HoldB.drewN) | (with_reducible refine HoldB.far ?_ _ _ _ ?_) | assumption))) (by omega)) ?_
      rintro _ w2 ⟨rfl,v2,H2,M2⟩
      obtain ⟨hl2_0,hf2_0,hz2_0,ap_0⟩:=M2.loc (w.heap.size) (by first | omega | (simp;done) | (simp;omega)) ap_0
      have M2:=Aside0.mk (Mv.tr (by (repeat' (first | (with_reducible exact M1.out) | (with_reducible apply Mv.al) | (with_reducible apply Mv.dr) | (with_reducible apply Mv.drN) | (with_reducible refine Mv.far ?_ ?_ _) | (with_reducible refine Mv.set ?_ ?_ _ _) | omega | (simp only [];omega) | assumption))) M2)
      have H2:=Aside0.mk H2
      go_wp2_with (first | (go_at_call 165;((with_reducible refine (spec_l04Word _ _ _ z0 z1 t0 t1).mono ?_);rintro _ _ ⟨rfl,rfl⟩)))
      refine Calls.mono (spec_l06Index c 8 _ (by decide) hc0) ?_
      rintro _ w4 ⟨rfl,hb⟩
      have H4:=Aside0.mk (HoldB.below (by (repeat' (first | (with_reducible exact H2.out) | (with_reducible apply HoldB.alloc) | (with_reducible apply HoldB.drew) | (with_reducible apply HoldB.drewN) | (with_reducible refine HoldB.far ?_ _ _ _ ?_) | assumption))) hb);have M4:=Aside0.mk (Mv.bl (by (repeat' (first | (with_reducible exact M2.out) | (with_reducible apply Mv.al) | (with_reducible apply Mv.dr) | (with_reducible apply Mv.drN) | (with_reducible refine Mv.far ?_ ?_ _) | (with_reducible refine Mv.set ?_ ?_ _ _) | omega | (simp only [];omega) | assumption))) hb);have hz4:=hb.size;obtain ⟨hcl4,hfr4,hlt4,_⟩:=bcell hb;(try simp only [sA,sC,sD] at hz4);(try simp only [sA,sC,sD] at hcl4 hfr4 hlt4);clear hb
      go_wp2_with fail
      refine Calls.mono (spec_rd _ (pg B E) b.m ((lo1 c b).rd ((c.PC+2) % 65536)) rfl (by omega) (by (repeat' (first | (with_reducible exact H4.out) | (with_reducible apply HoldB.alloc) | (with_reducible apply HoldB.drew) | (with_reducible apply HoldB.drewN) | (with_reducible refine HoldB.far ?_ _ _ _ ?_) | assumption))) (by omega)) ?_
      rintro _ w5 ⟨rfl,v5,H5,M5⟩
      have M5:=Mv.tr (by (repeat' (first | (with_reducible exact M4.out) | (with_reducible apply Mv.al) | (with_reducible apply Mv.dr) | (with_reducible apply Mv.drN) | (with_reducible refine Mv.far ?_ ?_ _) | (with_reducible refine Mv.set ?_ ?_ _ _) | omega | (simp only [];omega) | assumption))) M5
      go_wp2_with fail
      go_ret
      exact ⟨rfl,v5,HoldB.mono H5 (by omega),M5⟩
  · rw [show fixB ((lo1 c b).rd ((c.PC+2) % 65536)) k B E = ((lo1 c b).rd ((c.PC+2) % 65536)).rd (pg B E) from by simp [fixB,hk]]
    have hk1 : (k != 2) = true:=by simp [hk]
    clear hk
    have HB:=hR w;go_enter Tryz.func173,Tryz.ntmps173
    go_wp2_with fail
    refine Calls.mono (spec_rd _ ((c.PC+1) % 65536) b.m b rfl (by omega) (by (repeat' (first | (with_reducible exact H0.out) | (with_reducible apply HoldB.alloc) | (with_reducible apply HoldB.drew) | (with_reducible apply HoldB.drewN) | (with_reducible refine HoldB.far ?_ _ _ _ ?_) | assumption))) (by omega)) ?_
    rintro _ w1 ⟨rfl,v1,H1,M1⟩
    obtain ⟨hl1_0,hf1_0,hz1_0,ap_0⟩:=M1.loc (w.heap.size) (by first | omega | (simp;done) | (simp;omega)) ap_0
    have M1:=Aside0.mk (Mv.tr (by (repeat' (first | (with_reducible exact M0.out) | (with_reducible apply Mv.al) | (with_reducible apply Mv.dr) | (with_reducible apply Mv.drN) | (with_reducible refine Mv.far ?_ ?_ _) | (with_reducible refine Mv.set ?_ ?_ _ _) | omega | (simp only [];omega) | assumption))) M1)
    have H1:=Aside0.mk H1
    go_wp2_with fail
    refine Calls.mono (spec_rd _ ((c.PC+2) % 65536) b.m (lo1 c b) rfl (by omega) (by (repeat' (first | (with_reducible exact H1.out) | (with_reducible apply HoldB.alloc) | (with_reducible apply HoldB.drew) | (with_reducible apply HoldB.drewN) | (with_reducible refine HoldB.far ?_ _ _ _ ?_) | assumption))) (by omega)) ?_
    rintro _ w2 ⟨rfl,v2,H2,M2⟩
    obtain ⟨hl2_0,hf2_0,hz2_0,ap_0⟩:=M2.loc (w.heap.size) (by first | omega | (simp;done) | (simp;omega)) ap_0
    have M2:=Aside0.mk (Mv.tr (by (repeat' (first | (with_reducible exact M1.out) | (with_reducible apply Mv.al) | (with_reducible apply Mv.dr) | (with_reducible apply Mv.drN) | (with_reducible refine Mv.far ?_ ?_ _) | (with_reducible refine Mv.set ?_ ?_ _ _) | omega | (simp only [];omega) | assumption))) M2)
    have H2:=Aside0.mk H2
    go_wp2_with (first | (go_at_call 165;((with_reducible refine (spec_l04Word _ _ _ z0 z1 t0 t1).mono ?_);rintro _ _ ⟨rfl,rfl⟩)))
    refine Calls.mono (spec_l06Index c 8 _ (by decide) hc0) ?_
    rintro _ w4 ⟨rfl,hb⟩
    have H4:=Aside0.mk (HoldB.below (by (repeat' (first | (with_reducible exact H2.out) | (with_reducible apply HoldB.alloc) | (with_reducible apply HoldB.drew) | (with_reducible apply HoldB.drewN) | (with_reducible refine HoldB.far ?_ _ _ _ ?_) | assumption))) hb);have M4:=Aside0.mk (Mv.bl (by (repeat' (first | (with_reducible exact M2.out) | (with_reducible apply Mv.al) | (with_reducible apply Mv.dr) | (with_reducible apply Mv.drN) | (with_reducible refine Mv.far ?_ ?_ _) | (with_reducible refine Mv.set ?_ ?_ _ _) | omega | (simp only [];omega) | assumption))) hb);have hz4:=hb.size;obtain ⟨hcl4,hfr4,hlt4,_⟩:=bcell hb;(try simp only [sA,sC,sD] at hz4);(try simp only [sA,sC,sD] at hcl4 hfr4 hlt4);clear hb
    go_wp2_with fail
    refine Calls.mono (spec_rd _ (pg B E) b.m ((lo1 c b).rd ((c.PC+2) % 65536)) rfl (by omega) (by (repeat' (first | (with_reducible exact H4.out) | (with_reducible apply HoldB.alloc) | (with_reducible apply HoldB.drew) | (with_reducible apply HoldB.drewN) | (with_reducible refine HoldB.far ?_ _ _ _ ?_) | assumption))) (by omega)) ?_
    rintro _ w5 ⟨rfl,v5,H5,M5⟩
    have M5:=Mv.tr (by (repeat' (first | (with_reducible exact M4.out) | (with_reducible apply Mv.al) | (with_reducible apply Mv.dr) | (with_reducible apply Mv.drN) | (with_reducible refine Mv.far ?_ ?_ _) | (with_reducible refine Mv.set ?_ ?_ _ _) | omega | (simp only [];omega) | assumption))) M5
    go_wp2_with fail
    go_ret
    exact ⟨rfl,v5,HoldB.mono H5 (by omega),M5⟩
theorem spec_l06Place (m k : Int) (hm : m = 3 ∨ m = 4 ∨ m = 5 ∨ m = 6 ∨ m = 7 ∨ m = 8 ∨ m = 10 ∨ m = 11) : PlaceS m k:=by
  rcases hm with rfl | rfl | rfl | rfl | rfl | rfl | rfl | rfl
  · exact placeS_3 k
  · exact placeS_4 k
  · exact placeS_5 k
  · exact placeS_6 k
  · exact placeS_7 k
  · exact placeS_8 k
  · exact placeS_10 k
  · exact placeS_11 k
open Go.RowKit Go.Proofs.YtoncmhfmkfeolaaGreatDoorW.PrintWords
theorem w8b' (o : BinOp) (x y : Int) : 0 ≤ bits o .u8 x y∧bits o .u8 x y < 256:=by show 0 ≤ IntKind.u8.wrap _∧IntKind.u8.wrap _ < 256;rw [IntKind.wrap_u8];omega
def chgX (x : List UInt8) : Bool:=x == [65,83,76] || x == [76,83,82] || x == [82,79,76] || x == [82,79,82] || x == [73,78,67] || x == [68,69,67]
set_option maxRecDepth 20000 in
set_option maxHeartbeats 1000000 in
theorem use_LDA (c : Cpu) (v : Int) (w : World) (hc : c.ok) (h0 : 0 ≤ v) (h1 : v < 256) : Calls Tryz.prog 172 #[.agg #[.int .u8 c.A,.int .u8 c.X,.int .u8 c.Y,.int .u8 c.S,.int .u16 c.PC,.bool c.F.N,.bool c.F.V,.bool c.F.D,.bool c.F.I,.bool c.F.Z,.bool c.F.C],.string ⟨#[76,68,65]⟩,.int .u8 v] w fun e w' => e = .returned (.agg #[.int .u8 (ldA c v).A,.int .u8 (ldA c v).X,.int .u8 (ldA c v).Y,.int .u8 (ldA c v).S,.int .u16 (ldA c v).PC,.bool (ldA c v).F.N,.bool (ldA c v).F.V,.bool (ldA c v).F.D,.bool (ldA c v).F.I,.bool (ldA c v).F.Z,.bool (ldA c v).F.C])∧Below w.heap.size w w':=by
  obtain ⟨a0,a1,x0,x1,y0,y1,s0,s1,p0,p1⟩:=hc
  have HB:=hR w;go_enter Tryz.func172,Tryz.ntmps172
  go_wp2_with fail
  refine (spec_NZ v c.F _ h0 h1).mono ?_
  rintro _ w1 ⟨rfl,hb⟩
  (have HB:=Aside0.mk (below_step (w:=w) blw hb);have hz1:=hb.size;obtain ⟨hcl1,hfr1,hlt1,_⟩:=bcell hb;(try simp only [sA,sC,sD] at hz1);(try simp only [sA,sC,sD] at hcl1 hfr1 hlt1);have hk1_0 : w.heap.size < w1.heap.size:=(by omega);have hk1_1 : w.heap.size+1 < w1.heap.size:=(by omega);have HB1:=hR w1;clear hb)
  go_wp2_with fail
  (refine bodyPost_ret (v:=.agg #[.int .u8 (ldA c v).A,.int .u8 (ldA c v).X,.int .u8 (ldA c v).Y,.int .u8 (ldA c v).S,.int .u16 (ldA c v).PC,.bool (ldA c v).F.N,.bool (ldA c v).F.V,.bool (ldA c v).F.D,.bool (ldA c v).F.I,.bool (ldA c v).F.Z,.bool (ldA c v).F.C]) (by (simp only [results,Tryz.results172];go_simp <;> ((first | rfl | (simp [ldA,ldX,ldY,stA,stF];done))))) rfl ?_)
  exact ⟨rfl,blw⟩
set_option maxRecDepth 20000 in
set_option maxHeartbeats 1000000 in
theorem use_LDX (c : Cpu) (v : Int) (w : World) (hc : c.ok) (h0 : 0 ≤ v) (h1 : v < 256) : Calls Tryz.prog 172 #[.agg #[.int .u8 c.A,.int .u8 c.X,.int .u8 c.Y,.int .u8 c.S,.int .u16 c.PC,.bool c.F.N,.bool c.F.V,.bool c.F.D,.bool c.F.I,.bool c.F.Z,.bool c.F.C],.string ⟨#[76,68,88]⟩,.int .u8 v] w fun e w' => e = .returned (.agg #[.int .u8 (ldX c v).A,.int .u8 (ldX c v).X,.int .u8 (ldX c v).Y,.int .u8 (ldX c v).S,.int .u16 (ldX c v).PC,.bool (ldX c v).F.N,.bool (ldX c v).F.V,.bool (ldX c v).F.D,.bool (ldX c v).F.I,.bool (ldX c v).F.Z,.bool (ldX c v).F.C])∧Below w.heap.size w w':=by
  obtain ⟨a0,a1,x0,x1,y0,y1,s0,s1,p0,p1⟩:=hc
  have HB:=hR w;go_enter Tryz.func172,Tryz.ntmps172
  go_wp2_with fail
  refine (spec_NZ v c.F _ h0 h1).mono ?_
  rintro _ w1 ⟨rfl,hb⟩
  (have HB:=Aside0.mk (below_step (w:=w) blw hb);have hz1:=hb.size;obtain ⟨hcl1,hfr1,hlt1,_⟩:=bcell hb;(try simp only [sA,sC,sD] at hz1);(try simp only [sA,sC,sD] at hcl1 hfr1 hlt1);have hk1_0 : w.heap.size < w1.heap.size:=(by omega);have hk1_1 : w.heap.size+1 < w1.heap.size:=(by omega);have HB1:=hR w1;clear hb)
  go_wp2_with fail
  (refine bodyPost_ret (v:=.agg #[.int .u8 (ldX c v).A,.int .u8 (ldX c v).X,.int .u8 (ldX c v).Y,.int .u8 (ldX c v).S,.int .u16 (ldX c v).PC,.bool (ldX c v).F.N,.bool (ldX c v).F.V,.bool (ldX c v).F.D,.bool (ldX c v).F.I,.bool (ldX c v).F.Z,.bool (ldX c v).F.C]) (by (simp only [results,Tryz.results172];go_simp <;> ((first | rfl | (simp [ldA,ldX,ldY,stA,stF];done))))) rfl ?_)
  exact ⟨rfl,blw⟩
set_option maxRecDepth 20000 in
set_option maxHeartbeats 1000000 in
theorem use_LDY (c : Cpu) (v : Int) (w : World) (hc : c.ok) (h0 : 0 ≤ v) (h1 : v < 256) : Calls Tryz.prog 172 #[.agg #[.int .u8 c.A,.int .u8 c.X,.int .u8 c.Y,.int .u8 c.S,.int .u16 c.PC,.bool c.F.N,.bool c.F.V,.bool c.F.D,.bool c.F.I,.bool c.F.Z,.bool c.F.C],.string ⟨#[76,68,89]⟩,.int .u8 v] w fun e w' => e = .returned (.agg #[.int .u8 (ldY c v).A,.int .u8 (ldY c v).X,.int .u8 (ldY c v).Y,.int .u8 (ldY c v).S,.int .u16 (ldY c v).PC,.bool (ldY c v).F.N,.bool (ldY c v).F.V,.bool (ldY c v).F.D,.bool (ldY c v).F.I,.bool (ldY c v).F.Z,.bool (ldY c v).F.C])∧Below w.heap.size w w':=by
  obtain ⟨a0,a1,x0,x1,y0,y1,s0,s1,p0,p1⟩:=hc
  have HB:=hR w;go_enter Tryz.func172,Tryz.ntmps172
  go_wp2_with fail
  refine (spec_NZ v c.F _ h0 h1).mono ?_
  rintro _ w1 ⟨rfl,hb⟩
  (have HB:=Aside0.mk (below_step (w:=w) blw hb);have hz1:=hb.size;obtain ⟨hcl1,hfr1,hlt1,_⟩:=bcell hb;(try simp only [sA,sC,sD] at hz1);(try simp only [sA,sC,sD] at hcl1 hfr1 hlt1);have hk1_0 : w.heap.size < w1.heap.size:=(by omega);have hk1_1 : w.heap.size+1 < w1.heap.size:=(by omega);have HB1:=hR w1;clear hb)
  go_wp2_with fail
  (refine bodyPost_ret (v:=.agg #[.int .u8 (ldY c v).A,.int .u8 (ldY c v).X,.int .u8 (ldY c v).Y,.int .u8 (ldY c v).S,.int .u16 (ldY c v).PC,.bool (ldY c v).F.N,.bool (ldY c v).F.V,.bool (ldY c v).F.D,.bool (ldY c v).F.I,.bool (ldY c v).F.Z,.bool (ldY c v).F.C]) (by (simp only [results,Tryz.results172];go_simp <;> ((first | rfl | (simp [ldA,ldX,ldY,stA,stF];done))))) rfl ?_)
  exact ⟨rfl,blw⟩
set_option maxRecDepth 20000 in
set_option maxHeartbeats 1000000 in
theorem use_ORA (c : Cpu) (v : Int) (w : World) (hc : c.ok) (h0 : 0 ≤ v) (h1 : v < 256) : Calls Tryz.prog 172 #[.agg #[.int .u8 c.A,.int .u8 c.X,.int .u8 c.Y,.int .u8 c.S,.int .u16 c.PC,.bool c.F.N,.bool c.F.V,.bool c.F.D,.bool c.F.I,.bool c.F.Z,.bool c.F.C],.string ⟨#[79,82,65]⟩,.int .u8 v] w fun e w' => e = .returned (.agg #[.int .u8 (ldA c (bits .or .u8 c.A v)).A,.int .u8 (ldA c (bits .or .u8 c.A v)).X,.int .u8 (ldA c (bits .or .u8 c.A v)).Y,.int .u8 (ldA c (bits .or .u8 c.A v)).S,.int .u16 (ldA c (bits .or .u8 c.A v)).PC,.bool (ldA c (bits .or .u8 c.A v)).F.N,.bool (ldA c (bits .or .u8 c.A v)).F.V,.bool (ldA c (bits .or .u8 c.A v)).F.D,.bool (ldA c (bits .or .u8 c.A v)).F.I,.bool (ldA c (bits .or .u8 c.A v)).F.Z,.bool (ldA c (bits .or .u8 c.A v)).F.C])∧Below w.heap.size w w':=by
  obtain ⟨a0,a1,x0,x1,y0,y1,s0,s1,p0,p1⟩:=hc
  obtain ⟨r,hr⟩ : ∃ r,bits .or .u8 c.A v = r:=⟨_,rfl⟩
  obtain ⟨r0,r1⟩ : 0 ≤ r∧r < 256:=by rw [← hr];exact w8b' _ _ _
  rw [hr]
  have HB:=hR w;go_enter Tryz.func172,Tryz.ntmps172
  go_wp2_with fail
  refine (spec_NZ r c.F _ r0 r1).mono ?_
  rintro _ w1 ⟨rfl,hb⟩
  (have HB:=Aside0.mk (below_step (w:=w) blw hb);have hz1:=hb.size;obtain ⟨hcl1,hfr1,hlt1,_⟩:=bcell hb;(try simp only [sA,sC,sD] at hz1);(try simp only [sA,sC,sD] at hcl1 hfr1 hlt1);have hk1_0 : w.heap.size < w1.heap.size:=(by omega);have hk1_1 : w.heap.size+1 < w1.heap.size:=(by omega);have HB1:=hR w1;clear hb)
  go_wp2_with fail
  (refine bodyPost_ret (v:=.agg #[.int .u8 (ldA c r).A,.int .u8 (ldA c r).X,.int .u8 (ldA c r).Y,.int .u8 (ldA c r).S,.int .u16 (ldA c r).PC,.bool (ldA c r).F.N,.bool (ldA c r).F.V,.bool (ldA c r).F.D,.bool (ldA c r).F.I,.bool (ldA c r).F.Z,.bool (ldA c r).F.C]) (by (simp only [results,Tryz.results172];go_simp <;> ((first | rfl | (simp [ldA,ldX,ldY,stA,stF];done))))) rfl ?_)
  exact ⟨rfl,blw⟩
set_option maxRecDepth 20000 in
set_option maxHeartbeats 1000000 in
theorem use_AND (c : Cpu) (v : Int) (w : World) (hc : c.ok) (h0 : 0 ≤ v) (h1 : v < 256) : Calls Tryz.prog 172 #[.agg #[.int .u8 c.A,.int .u8 c.X,.int .u8 c.Y,.int .u8 c.S,.int .u16 c.PC,.bool c.F.N,.bool c.F.V,.bool c.F.D,.bool c.F.I,.bool c.F.Z,.bool c.F.C],.string ⟨#[65,78,68]⟩,.int .u8 v] w fun e w' => e = .returned (.agg #[.int .u8 (ldA c (bits .and .u8 c.A v)).A,.int .u8 (ldA c (bits .and .u8 c.A v)).X,.int .u8 (ldA c (bits .and .u8 c.A v)).Y,.int .u8 (ldA c (bits .and .u8 c.A v)).S,.int .u16 (ldA c (bits .and .u8 c.A v)).PC,.bool (ldA c (bits .and .u8 c.A v)).F.N,.bool (ldA c (bits .and .u8 c.A v)).F.V,.bool (ldA c (bits .and .u8 c.A v)).F.D,.bool (ldA c (bits .and .u8 c.A v)).F.I,.bool (ldA c (bits .and .u8 c.A v)).F.Z,.bool (ldA c (bits .and .u8 c.A v)).F.C])∧Below w.heap.size w w':=by
  obtain ⟨a0,a1,x0,x1,y0,y1,s0,s1,p0,p1⟩:=hc
  obtain ⟨r,hr⟩ : ∃ r,bits .and .u8 c.A v = r:=⟨_,rfl⟩
  obtain ⟨r0,r1⟩ : 0 ≤ r∧r < 256:=by rw [← hr];exact w8b' _ _ _
  rw [hr]
  have HB:=hR w;go_enter Tryz.func172,Tryz.ntmps172
  go_wp2_with fail
  refine (spec_NZ r c.F _ r0 r1).mono ?_
  rintro _ w1 ⟨rfl,hb⟩
  (have HB:=Aside0.mk (below_step (w:=w) blw hb);have hz1:=hb.size;obtain ⟨hcl1,hfr1,hlt1,_⟩:=bcell hb;(try simp only [sA,sC,sD] at hz1);(try simp only [sA,sC,sD] at hcl1 hfr1 hlt1);have hk1_0 : w.heap.size < w1.heap.size:=(by omega);have hk1_1 : w.heap.size+1 < w1.heap.size:=(by omega);have HB1:=hR w1;clear hb)
  go_wp2_with fail
  (refine bodyPost_ret (v:=.agg #[.int .u8 (ldA c r).A,.int .u8 (ldA c r).X,.int .u8 (ldA c r).Y,.int .u8 (ldA c r).S,.int .u16 (ldA c r).PC,.bool (ldA c r).F.N,.bool (ldA c r).F.V,.bool (ldA c r).F.D,.bool (ldA c r).F.I,.bool (ldA c r).F.Z,.bool (ldA c r).F.C]) (by (simp only [results,Tryz.results172];go_simp <;> ((first | rfl | (simp [ldA,ldX,ldY,stA,stF];done))))) rfl ?_)
  exact ⟨rfl,blw⟩
set_option maxRecDepth 20000 in
set_option maxHeartbeats 1000000 in
theorem use_EOR (c : Cpu) (v : Int) (w : World) (hc : c.ok) (h0 : 0 ≤ v) (h1 : v < 256) : Calls Tryz.prog 172 #[.agg #[.int .u8 c.A,.int .u8 c.X,.int .u8 c.Y,.int .u8 c.S,.int .u16 c.PC,.bool c.F.N,.bool c.F.V,.bool c.F.D,.bool c.F.I,.bool c.F.Z,.bool c.F.C],.string ⟨#[69,79,82]⟩,.int .u8 v] w fun e w' => e = .returned (.agg #[.int .u8 (ldA c (bits .xor .u8 c.A v)).A,.int .u8 (ldA c (bits .xor .u8 c.A v)).X,.int .u8 (ldA c (bits .xor .u8 c.A v)).Y,.int .u8 (ldA c (bits .xor .u8 c.A v)).S,.int .u16 (ldA c (bits .xor .u8 c.A v)).PC,.bool (ldA c (bits .xor .u8 c.A v)).F.N,.bool (ldA c (bits .xor .u8 c.A v)).F.V,.bool (ldA c (bits .xor .u8 c.A v)).F.D,.bool (ldA c (bits .xor .u8 c.A v)).F.I,.bool (ldA c (bits .xor .u8 c.A v)).F.Z,.bool (ldA c (bits .xor .u8 c.A v)).F.C])∧Below w.heap.size w w':=by
  obtain ⟨a0,a1,x0,x1,y0,y1,s0,s1,p0,p1⟩:=hc
  obtain ⟨r,hr⟩ : ∃ r,bits .xor .u8 c.A v = r:=⟨_,rfl⟩
  obtain ⟨r0,r1⟩ : 0 ≤ r∧r < 256:=by rw [← hr];exact w8b' _ _ _
  rw [hr]
  have HB:=hR w;go_enter Tryz.func172,Tryz.ntmps172
  go_wp2_with fail
  refine (spec_NZ r c.F _ r0 r1).mono ?_
  rintro _ w1 ⟨rfl,hb⟩
  (have HB:=Aside0.mk (below_step (w:=w) blw hb);have hz1:=hb.size;obtain ⟨hcl1,hfr1,hlt1,_⟩:=bcell hb;(try simp only [sA,sC,sD] at hz1);(try simp only [sA,sC,sD] at hcl1 hfr1 hlt1);have hk1_0 : w.heap.size < w1.heap.size:=(by omega);have hk1_1 : w.heap.size+1 < w1.heap.size:=(by omega);have HB1:=hR w1;clear hb)
  go_wp2_with fail
  (refine bodyPost_ret (v:=.agg #[.int .u8 (ldA c r).A,.int .u8 (ldA c r).X,.int .u8 (ldA c r).Y,.int .u8 (ldA c r).S,.int .u16 (ldA c r).PC,.bool (ldA c r).F.N,.bool (ldA c r).F.V,.bool (ldA c r).F.D,.bool (ldA c r).F.I,.bool (ldA c r).F.Z,.bool (ldA c r).F.C]) (by (simp only [results,Tryz.results172];go_simp <;> ((first | rfl | (simp [ldA,ldX,ldY,stA,stF];done))))) rfl ?_)
  exact ⟨rfl,blw⟩
set_option maxRecDepth 20000 in
set_option maxHeartbeats 1000000 in
theorem use_ADC (c : Cpu) (v : Int) (w : World) (hc : c.ok) (h0 : 0 ≤ v) (h1 : v < 256) : Calls Tryz.prog 172 #[.agg #[.int .u8 c.A,.int .u8 c.X,.int .u8 c.Y,.int .u8 c.S,.int .u16 c.PC,.bool c.F.N,.bool c.F.V,.bool c.F.D,.bool c.F.I,.bool c.F.Z,.bool c.F.C],.string ⟨#[65,68,67]⟩,.int .u8 v] w fun e w' => e = .returned (.agg #[.int .u8 (stA c (adc c.A v c.F)).A,.int .u8 (stA c (adc c.A v c.F)).X,.int .u8 (stA c (adc c.A v c.F)).Y,.int .u8 (stA c (adc c.A v c.F)).S,.int .u16 (stA c (adc c.A v c.F)).PC,.bool (stA c (adc c.A v c.F)).F.N,.bool (stA c (adc c.A v c.F)).F.V,.bool (stA c (adc c.A v c.F)).F.D,.bool (stA c (adc c.A v c.F)).F.I,.bool (stA c (adc c.A v c.F)).F.Z,.bool (stA c (adc c.A v c.F)).F.C])∧Below w.heap.size w w':=by
  obtain ⟨a0,a1,x0,x1,y0,y1,s0,s1,p0,p1⟩:=hc
  have HB:=hR w;go_enter Tryz.func172,Tryz.ntmps172
  go_wp2_with fail
  refine (spec_Adc c.A v c.F _ a0 a1 h0 h1).mono ?_
  rintro _ w1 ⟨rfl,hb⟩
  (have HB:=Aside0.mk (below_step (w:=w) blw hb);have hz1:=hb.size;obtain ⟨hcl1,hfr1,hlt1,_⟩:=bcell hb;(try simp only [sA,sC,sD] at hz1);(try simp only [sA,sC,sD] at hcl1 hfr1 hlt1);have hk1_0 : w.heap.size < w1.heap.size:=(by omega);have hk1_1 : w.heap.size+1 < w1.heap.size:=(by omega);have HB1:=hR w1;clear hb)
  go_wp2_with fail
  (refine bodyPost_ret (v:=.agg #[.int .u8 (stA c (adc c.A v c.F)).A,.int .u8 (stA c (adc c.A v c.F)).X,.int .u8 (stA c (adc c.A v c.F)).Y,.int .u8 (stA c (adc c.A v c.F)).S,.int .u16 (stA c (adc c.A v c.F)).PC,.bool (stA c (adc c.A v c.F)).F.N,.bool (stA c (adc c.A v c.F)).F.V,.bool (stA c (adc c.A v c.F)).F.D,.bool (stA c (adc c.A v c.F)).F.I,.bool (stA c (adc c.A v c.F)).F.Z,.bool (stA c (adc c.A v c.F)).F.C]) (by (simp only [results,Tryz.results172];go_simp <;> ((first | rfl | (simp [ldA,ldX,ldY,stA,stF];done))))) rfl ?_)
  exact ⟨rfl,blw⟩
set_option maxRecDepth 20000 in
set_option maxHeartbeats 1000000 in
theorem use_SBC (c : Cpu) (v : Int) (w : World) (hc : c.ok) (h0 : 0 ≤ v) (h1 : v < 256) : Calls Tryz.prog 172 #[.agg #[.int .u8 c.A,.int .u8 c.X,.int .u8 c.Y,.int .u8 c.S,.int .u16 c.PC,.bool c.F.N,.bool c.F.V,.bool c.F.D,.bool c.F.I,.bool c.F.Z,.bool c.F.C],.string ⟨#[83,66,67]⟩,.int .u8 v] w fun e w' => e = .returned (.agg #[.int .u8 (stA c (sbc c.A v c.F)).A,.int .u8 (stA c (sbc c.A v c.F)).X,.int .u8 (stA c (sbc c.A v c.F)).Y,.int .u8 (stA c (sbc c.A v c.F)).S,.int .u16 (stA c (sbc c.A v c.F)).PC,.bool (stA c (sbc c.A v c.F)).F.N,.bool (stA c (sbc c.A v c.F)).F.V,.bool (stA c (sbc c.A v c.F)).F.D,.bool (stA c (sbc c.A v c.F)).F.I,.bool (stA c (sbc c.A v c.F)).F.Z,.bool (stA c (sbc c.A v c.F)).F.C])∧Below w.heap.size w w':=by
  obtain ⟨a0,a1,x0,x1,y0,y1,s0,s1,p0,p1⟩:=hc
  have HB:=hR w;go_enter Tryz.func172,Tryz.ntmps172
  go_wp2_with fail
  refine (spec_Sbc c.A v c.F _ a0 a1 h0 h1).mono ?_
  rintro _ w1 ⟨rfl,hb⟩
  (have HB:=Aside0.mk (below_step (w:=w) blw hb);have hz1:=hb.size;obtain ⟨hcl1,hfr1,hlt1,_⟩:=bcell hb;(try simp only [sA,sC,sD] at hz1);(try simp only [sA,sC,sD] at hcl1 hfr1 hlt1);have hk1_0 : w.heap.size < w1.heap.size:=(by omega);have hk1_1 : w.heap.size+1 < w1.heap.size:=(by omega);have HB1:=hR w1;clear hb)
  go_wp2_with fail
  (refine bodyPost_ret (v:=.agg #[.int .u8 (stA c (sbc c.A v c.F)).A,.int .u8 (stA c (sbc c.A v c.F)).X,.int .u8 (stA c (sbc c.A v c.F)).Y,.int .u8 (stA c (sbc c.A v c.F)).S,.int .u16 (stA c (sbc c.A v c.F)).PC,.bool (stA c (sbc c.A v c.F)).F.N,.bool (stA c (sbc c.A v c.F)).F.V,.bool (stA c (sbc c.A v c.F)).F.D,.bool (stA c (sbc c.A v c.F)).F.I,.bool (stA c (sbc c.A v c.F)).F.Z,.bool (stA c (sbc c.A v c.F)).F.C]) (by (simp only [results,Tryz.results172];go_simp <;> ((first | rfl | (simp [ldA,ldX,ldY,stA,stF];done))))) rfl ?_)
  exact ⟨rfl,blw⟩
set_option maxRecDepth 20000 in
set_option maxHeartbeats 1000000 in
theorem use_CMP (c : Cpu) (v : Int) (w : World) (hc : c.ok) (h0 : 0 ≤ v) (h1 : v < 256) : Calls Tryz.prog 172 #[.agg #[.int .u8 c.A,.int .u8 c.X,.int .u8 c.Y,.int .u8 c.S,.int .u16 c.PC,.bool c.F.N,.bool c.F.V,.bool c.F.D,.bool c.F.I,.bool c.F.Z,.bool c.F.C],.string ⟨#[67,77,80]⟩,.int .u8 v] w fun e w' => e = .returned (.agg #[.int .u8 (stF c (cmpF c.A v c.F)).A,.int .u8 (stF c (cmpF c.A v c.F)).X,.int .u8 (stF c (cmpF c.A v c.F)).Y,.int .u8 (stF c (cmpF c.A v c.F)).S,.int .u16 (stF c (cmpF c.A v c.F)).PC,.bool (stF c (cmpF c.A v c.F)).F.N,.bool (stF c (cmpF c.A v c.F)).F.V,.bool (stF c (cmpF c.A v c.F)).F.D,.bool (stF c (cmpF c.A v c.F)).F.I,.bool (stF c (cmpF c.A v c.F)).F.Z,.bool (stF c (cmpF c.A v c.F)).F.C])∧Below w.heap.size w w':=by
  obtain ⟨a0,a1,x0,x1,y0,y1,s0,s1,p0,p1⟩:=hc
  have HB:=hR w;go_enter Tryz.func172,Tryz.ntmps172
  go_wp2_with fail
  refine (spec_Cmp c.A v c.F _ a0 a1 h0 h1).mono ?_
  rintro _ w1 ⟨rfl,hb⟩
  (have HB:=Aside0.mk (below_step (w:=w) blw hb);have hz1:=hb.size;obtain ⟨hcl1,hfr1,hlt1,_⟩:=bcell hb;(try simp only [sA,sC,sD] at hz1);(try simp only [sA,sC,sD] at hcl1 hfr1 hlt1);have hk1_0 : w.heap.size < w1.heap.size:=(by omega);have hk1_1 : w.heap.size+1 < w1.heap.size:=(by omega);have HB1:=hR w1;clear hb)
  go_wp2_with fail
  (refine bodyPost_ret (v:=.agg #[.int .u8 (stF c (cmpF c.A v c.F)).A,.int .u8 (stF c (cmpF c.A v c.F)).X,.int .u8 (stF c (cmpF c.A v c.F)).Y,.int .u8 (stF c (cmpF c.A v c.F)).S,.int .u16 (stF c (cmpF c.A v c.F)).PC,.bool (stF c (cmpF c.A v c.F)).F.N,.bool (stF c (cmpF c.A v c.F)).F.V,.bool (stF c (cmpF c.A v c.F)).F.D,.bool (stF c (cmpF c.A v c.F)).F.I,.bool (stF c (cmpF c.A v c.F)).F.Z,.bool (stF c (cmpF c.A v c.F)).F.C]) (by (simp only [results,Tryz.results172];go_simp <;> ((first | rfl | (simp [ldA,ldX,ldY,stA,stF];done))))) rfl ?_)
  exact ⟨rfl,blw⟩
set_option maxRecDepth 20000 in
set_option maxHeartbeats 1000000 in
theorem use_CPX (c : Cpu) (v : Int) (w : World) (hc : c.ok) (h0 : 0 ≤ v) (h1 : v < 256) : Calls Tryz.prog 172 #[.agg #[.int .u8 c.A,.int .u8 c.X,.int .u8 c.Y,.int .u8 c.S,.int .u16 c.PC,.bool c.F.N,.bool c.F.V,.bool c.F.D,.bool c.F.I,.bool c.F.Z,.bool c.F.C],.string ⟨#[67,80,88]⟩,.int .u8 v] w fun e w' => e = .returned (.agg #[.int .u8 (stF c (cmpF c.X v c.F)).A,.int .u8 (stF c (cmpF c.X v c.F)).X,.int .u8 (stF c (cmpF c.X v c.F)).Y,.int .u8 (stF c (cmpF c.X v c.F)).S,.int .u16 (stF c (cmpF c.X v c.F)).PC,.bool (stF c (cmpF c.X v c.F)).F.N,.bool (stF c (cmpF c.X v c.F)).F.V,.bool (stF c (cmpF c.X v c.F)).F.D,.bool (stF c (cmpF c.X v c.F)).F.I,.bool (stF c (cmpF c.X v c.F)).F.Z,.bool (stF c (cmpF c.X v c.F)).F.C])∧Below w.heap.size w w':=by
  obtain ⟨a0,a1,x0,x1,y0,y1,s0,s1,p0,p1⟩:=hc
  have HB:=hR w;go_enter Tryz.func172,Tryz.ntmps172
  go_wp2_with fail
  refine (spec_Cmp c.X v c.F _ x0 x1 h0 h1).mono ?_
  rintro _ w1 ⟨rfl,hb⟩
  (have HB:=Aside0.mk (below_step (w:=w) blw hb);have hz1:=hb.size;obtain ⟨hcl1,hfr1,hlt1,_⟩:=bcell hb;(try simp only [sA,sC,sD] at hz1);(try simp only [sA,sC,sD] at hcl1 hfr1 hlt1);have hk1_0 : w.heap.size < w1.heap.size:=(by omega);have hk1_1 : w.heap.size+1 < w1.heap.size:=(by omega);have HB1:=hR w1;clear hb)
  go_wp2_with fail
  (refine bodyPost_ret (v:=.agg #[.int .u8 (stF c (cmpF c.X v c.F)).A,.int .u8 (stF c (cmpF c.X v c.F)).X,.int .u8 (stF c (cmpF c.X v c.F)).Y,.int .u8 (stF c (cmpF c.X v c.F)).S,.int .u16 (stF c (cmpF c.X v c.F)).PC,.bool (stF c (cmpF c.X v c.F)).F.N,.bool (stF c (cmpF c.X v c.F)).F.V,.bool (stF c (cmpF c.X v c.F)).F.D,.bool (stF c (cmpF c.X v c.F)).F.I,.bool (stF c (cmpF c.X v c.F)).F.Z,.bool (stF c (cmpF c.X v c.F)).F.C]) (by (simp only [results,Tryz.results172];go_simp <;> ((first | rfl | (simp [ldA,ldX,ldY,stA,stF];done))))) rfl ?_)
  exact ⟨rfl,blw⟩
set_option maxRecDepth 20000 in
set_option maxHeartbeats 1000000 in
theorem use_CPY (c : Cpu) (v : Int) (w : World) (hc : c.ok) (h0 : 0 ≤ v) (h1 : v < 256) : Calls Tryz.prog 172 #[.agg #[.int .u8 c.A,.int .u8 c.X,.int .u8 c.Y,.int .u8 c.S,.int .u16 c.PC,.bool c.F.N,.bool c.F.V,.bool c.F.D,.bool c.F.I,.bool c.F.Z,.bool c.F.C],.string ⟨#[67,80,89]⟩,.int .u8 v] w fun e w' => e = .returned (.agg #[.int .u8 (stF c (cmpF c.Y v c.F)).A,.int .u8 (stF c (cmpF c.Y v c.F)).X,.int .u8 (stF c (cmpF c.Y v c.F)).Y,.int .u8 (stF c (cmpF c.Y v c.F)).S,.int .u16 (stF c (cmpF c.Y v c.F)).PC,.bool (stF c (cmpF c.Y v c.F)).F.N,.bool (stF c (cmpF c.Y v c.F)).F.V,.bool (stF c (cmpF c.Y v c.F)).F.D,.bool (stF c (cmpF c.Y v c.F)).F.I,.bool (stF c (cmpF c.Y v c.F)).F.Z,.bool (stF c (cmpF c.Y v c.F)).F.C])∧Below w.heap.size w w':=by
  obtain ⟨a0,a1,x0,x1,y0,y1,s0,s1,p0,p1⟩:=hc
  have HB:=hR w;go_enter Tryz.func172,Tryz.ntmps172
  go_wp2_with fail
  refine (spec_Cmp c.Y v c.F _ y0 y1 h0 h1).mono ?_
  rintro _ w1 ⟨rfl,hb⟩
  (have HB:=Aside0.mk (below_step (w:=w) blw hb);have hz1:=hb.size;obtain ⟨hcl1,hfr1,hlt1,_⟩:=bcell hb;(try simp only [sA,sC,sD] at hz1);(try simp only [sA,sC,sD] at hcl1 hfr1 hlt1);have hk1_0 : w.heap.size < w1.heap.size:=(by omega);have hk1_1 : w.heap.size+1 < w1.heap.size:=(by omega);have HB1:=hR w1;clear hb)
  go_wp2_with fail
  (refine bodyPost_ret (v:=.agg #[.int .u8 (stF c (cmpF c.Y v c.F)).A,.int .u8 (stF c (cmpF c.Y v c.F)).X,.int .u8 (stF c (cmpF c.Y v c.F)).Y,.int .u8 (stF c (cmpF c.Y v c.F)).S,.int .u16 (stF c (cmpF c.Y v c.F)).PC,.bool (stF c (cmpF c.Y v c.F)).F.N,.bool (stF c (cmpF c.Y v c.F)).F.V,.bool (stF c (cmpF c.Y v c.F)).F.D,.bool (stF c (cmpF c.Y v c.F)).F.I,.bool (stF c (cmpF c.Y v c.F)).F.Z,.bool (stF c (cmpF c.Y v c.F)).F.C]) (by (simp only [results,Tryz.results172];go_simp <;> ((first | rfl | (simp [ldA,ldX,ldY,stA,stF];done))))) rfl ?_)
  exact ⟨rfl,blw⟩
set_option maxRecDepth 20000 in
set_option maxHeartbeats 1000000 in
theorem use_BIT (c : Cpu) (v : Int) (w : World) (hc : c.ok) (h0 : 0 ≤ v) (h1 : v < 256) : Calls Tryz.prog 172 #[.agg #[.int .u8 c.A,.int .u8 c.X,.int .u8 c.Y,.int .u8 c.S,.int .u16 c.PC,.bool c.F.N,.bool c.F.V,.bool c.F.D,.bool c.F.I,.bool c.F.Z,.bool c.F.C],.string ⟨#[66,73,84]⟩,.int .u8 v] w fun e w' => e = .returned (.agg #[.int .u8 (stF c (bitF c.A v c.F)).A,.int .u8 (stF c (bitF c.A v c.F)).X,.int .u8 (stF c (bitF c.A v c.F)).Y,.int .u8 (stF c (bitF c.A v c.F)).S,.int .u16 (stF c (bitF c.A v c.F)).PC,.bool (stF c (bitF c.A v c.F)).F.N,.bool (stF c (bitF c.A v c.F)).F.V,.bool (stF c (bitF c.A v c.F)).F.D,.bool (stF c (bitF c.A v c.F)).F.I,.bool (stF c (bitF c.A v c.F)).F.Z,.bool (stF c (bitF c.A v c.F)).F.C])∧Below w.heap.size w w':=by
  obtain ⟨a0,a1,x0,x1,y0,y1,s0,s1,p0,p1⟩:=hc
  have HB:=hR w;go_enter Tryz.func172,Tryz.ntmps172
  go_wp2_with fail
  refine (spec_BitTest c.A v c.F _ a0 a1 h0 h1).mono ?_
  rintro _ w1 ⟨rfl,hb⟩
  (have HB:=Aside0.mk (below_step (w:=w) blw hb);have hz1:=hb.size;obtain ⟨hcl1,hfr1,hlt1,_⟩:=bcell hb;(try simp only [sA,sC,sD] at hz1);(try simp only [sA,sC,sD] at hcl1 hfr1 hlt1);have hk1_0 : w.heap.size < w1.heap.size:=(by omega);have hk1_1 : w.heap.size+1 < w1.heap.size:=(by omega);have HB1:=hR w1;clear hb)
  go_wp2_with fail
  (refine bodyPost_ret (v:=.agg #[.int .u8 (stF c (bitF c.A v c.F)).A,.int .u8 (stF c (bitF c.A v c.F)).X,.int .u8 (stF c (bitF c.A v c.F)).Y,.int .u8 (stF c (bitF c.A v c.F)).S,.int .u16 (stF c (bitF c.A v c.F)).PC,.bool (stF c (bitF c.A v c.F)).F.N,.bool (stF c (bitF c.A v c.F)).F.V,.bool (stF c (bitF c.A v c.F)).F.D,.bool (stF c (bitF c.A v c.F)).F.I,.bool (stF c (bitF c.A v c.F)).F.Z,.bool (stF c (bitF c.A v c.F)).F.C]) (by (simp only [results,Tryz.results172];go_simp <;> ((first | rfl | (simp [ldA,ldX,ldY,stA,stF];done))))) rfl ?_)
  exact ⟨rfl,blw⟩
set_option maxRecDepth 20000 in
set_option maxHeartbeats 1000000 in
theorem spec_l06Use (x : List UInt8) (c : Cpu) (v : Int) (w : World) (hx : chgX x = false) (hc : c.ok) (h0 : 0 ≤ v) (h1 : v < 256) : Calls Tryz.prog 172 #[.agg #[.int .u8 c.A,.int .u8 c.X,.int .u8 c.Y,.int .u8 c.S,.int .u16 c.PC,.bool c.F.N,.bool c.F.V,.bool c.F.D,.bool c.F.I,.bool c.F.Z,.bool c.F.C],.string ⟨x.toArray⟩,.int .u8 v] w fun e w' => e = .returned (.agg #[.int .u8 (doT x c v).1.A,.int .u8 (doT x c v).1.X,.int .u8 (doT x c v).1.Y,.int .u8 (doT x c v).1.S,.int .u16 (doT x c v).1.PC,.bool (doT x c v).1.F.N,.bool (doT x c v).1.F.V,.bool (doT x c v).1.F.D,.bool (doT x c v).1.F.I,.bool (doT x c v).1.F.Z,.bool (doT x c v).1.F.C])∧Below w.heap.size w w':=by
  revert hx
  refine do_cases c v x (fun x c1 _ => chgX x = false → Calls Tryz.prog 172 #[.agg #[.int .u8 c.A,.int .u8 c.X,.int .u8 c.Y,.int .u8 c.S,.int .u16 c.PC,.bool c.F.N,.bool c.F.V,.bool c.F.D,.bool c.F.I,.bool c.F.Z,.bool c.F.C],.string ⟨x.toArray⟩,.int .u8 v] w fun e w' => e = .returned (.agg #[.int .u8 c1.A,.int .u8 c1.X,.int .u8 c1.Y,.int .u8 c1.S,.int .u16 c1.PC,.bool c1.F.N,.bool c1.F.V,.bool c1.F.D,.bool c1.F.I,.bool c1.F.Z,.bool c1.F.C])∧Below w.heap.size w w') (fun _ => use_LDA c v w hc h0 h1) (fun _ => use_LDX c v w hc h0 h1) (fun _ => use_LDY c v w hc h0 h1) (fun _ => use_ORA c v w hc h0 h1) (fun _ => use_AND c v w hc h0 h1) (fun _ => use_EOR c v w hc h0 h1) (fun _ => use_ADC c v w hc h0 h1) (fun _ => use_SBC c v w hc h0 h1) (fun _ => use_CMP c v w hc h0 h1) (fun _ => use_CPX c v w hc h0 h1) (fun _ => use_CPY c v w hc h0 h1) (fun _ => use_BIT c v w hc h0 h1) (fun h => absurd h (by decide)) (fun h => absurd h (by decide)) (fun h => absurd h (by decide)) (fun h => absurd h (by decide)) (fun h => absurd h (by decide)) (fun h => absurd h (by decide)) ?_
  intro q0 q1 q2 q3 q4 q5 q6 q7 q8 q9 q10 q11 q12 q13 q14 q15 q16 q17 _
  have HB:=hR w;go_enter Tryz.func172,Tryz.ntmps172
  go_wp2
  (refine bodyPost_ret (v:=.agg #[.int .u8 c.A,.int .u8 c.X,.int .u8 c.Y,.int .u8 c.S,.int .u16 c.PC,.bool c.F.N,.bool c.F.V,.bool c.F.D,.bool c.F.I,.bool c.F.Z,.bool c.F.C]) (by (simp only [results,Tryz.results172];go_simp <;> (rfl))) rfl ?_)
  exact ⟨rfl,blw⟩
set_option maxRecDepth 20000 in
set_option maxHeartbeats 1000000 in
theorem chg_ASL (c : Cpu) (v : Int) (w : World) (h0 : 0 ≤ v) (h1 : v < 256) : Calls Tryz.prog 167 #[.string ⟨#[65,83,76]⟩,.int .u8 v,.agg #[.bool c.F.N,.bool c.F.V,.bool c.F.D,.bool c.F.I,.bool c.F.Z,.bool c.F.C]] w fun e w' => e = .returned (.tuple #[.int .u8 ((aslT v c.F).1),.agg #[.bool (stF c (aslT v c.F).2).F.N,.bool (stF c (aslT v c.F).2).F.V,.bool (stF c (aslT v c.F).2).F.D,.bool (stF c (aslT v c.F).2).F.I,.bool (stF c (aslT v c.F).2).F.Z,.bool (stF c (aslT v c.F).2).F.C]])∧Below w.heap.size w w':=by
  have HB:=hR w;go_enter Tryz.func167,Tryz.ntmps167
  go_wp2_with fail
  refine (spec_Asl v c.F _ h0 h1).mono ?_
  rintro _ w1 ⟨rfl,hb⟩
  (have HB:=Aside0.mk (below_step (w:=w) blw hb);have hz1:=hb.size;obtain ⟨hcl1,hfr1,hlt1,_⟩:=bcell hb;(try simp only [sA,sC,sD] at hz1);(try simp only [sA,sC,sD] at hcl1 hfr1 hlt1);have hk1_0 : w.heap.size < w1.heap.size:=(by omega);have hk1_1 : w.heap.size+1 < w1.heap.size:=(by omega);have HB1:=hR w1;clear hb)
  go_wp2_with fail
  (refine bodyPost_ret (v:=.tuple #[.int .u8 ((aslT v c.F).1),.agg #[.bool (stF c (aslT v c.F).2).F.N,.bool (stF c (aslT v c.F).2).F.V,.bool (stF c (aslT v c.F).2).F.D,.bool (stF c (aslT v c.F).2).F.I,.bool (stF c (aslT v c.F).2).F.Z,.bool (stF c (aslT v c.F).2).F.C]]) (by (simp only [results,Tryz.results167];go_simp <;> ((first | rfl | (simp [stF];done))))) rfl ?_)
  exact ⟨rfl,blw⟩
set_option maxRecDepth 20000 in
set_option maxHeartbeats 1000000 in
theorem chg_LSR (c : Cpu) (v : Int) (w : World) (h0 : 0 ≤ v) (h1 : v < 256) : Calls Tryz.prog 167 #[.string ⟨#[76,83,82]⟩,.int .u8 v,.agg #[.bool c.F.N,.bool c.F.V,.bool c.F.D,.bool c.F.I,.bool c.F.Z,.bool c.F.C]] w fun e w' => e = .returned (.tuple #[.int .u8 ((lsrT v c.F).1),.agg #[.bool (stF c (lsrT v c.F).2).F.N,.bool (stF c (lsrT v c.F).2).F.V,.bool (stF c (lsrT v c.F).2).F.D,.bool (stF c (lsrT v c.F).2).F.I,.bool (stF c (lsrT v c.F).2).F.Z,.bool (stF c (lsrT v c.F).2).F.C]])∧Below w.heap.size w w':=by
  have HB:=hR w;go_enter Tryz.func167,Tryz.ntmps167
  go_wp2_with fail
  refine (spec_Lsr v c.F _ h0 h1).mono ?_
  rintro _ w1 ⟨rfl,hb⟩
  (have HB:=Aside0.mk (below_step (w:=w) blw hb);have hz1:=hb.size;obtain ⟨hcl1,hfr1,hlt1,_⟩:=bcell hb;(try simp only [sA,sC,sD] at hz1);(try simp only [sA,sC,sD] at hcl1 hfr1 hlt1);have hk1_0 : w.heap.size < w1.heap.size:=(by omega);have hk1_1 : w.heap.size+1 < w1.heap.size:=(by omega);have HB1:=hR w1;clear hb)
  go_wp2_with fail
  (refine bodyPost_ret (v:=.tuple #[.int .u8 ((lsrT v c.F).1),.agg #[.bool (stF c (lsrT v c.F).2).F.N,.bool (stF c (lsrT v c.F).2).F.V,.bool (stF c (lsrT v c.F).2).F.D,.bool (stF c (lsrT v c.F).2).F.I,.bool (stF c (lsrT v c.F).2).F.Z,.bool (stF c (lsrT v c.F).2).F.C]]) (by (simp only [results,Tryz.results167];go_simp <;> ((first | rfl | (simp [stF];done))))) rfl ?_)
  exact ⟨rfl,blw⟩
set_option maxRecDepth 20000 in
set_option maxHeartbeats 1000000 in
theorem chg_ROL (c : Cpu) (v : Int) (w : World) (h0 : 0 ≤ v) (h1 : v < 256) : Calls Tryz.prog 167 #[.string ⟨#[82,79,76]⟩,.int .u8 v,.agg #[.bool c.F.N,.bool c.F.V,.bool c.F.D,.bool c.F.I,.bool c.F.Z,.bool c.F.C]] w fun e w' => e = .returned (.tuple #[.int .u8 ((rolT v c.F).1),.agg #[.bool (stF c (rolT v c.F).2).F.N,.bool (stF c (rolT v c.F).2).F.V,.bool (stF c (rolT v c.F).2).F.D,.bool (stF c (rolT v c.F).2).F.I,.bool (stF c (rolT v c.F).2).F.Z,.bool (stF c (rolT v c.F).2).F.C]])∧Below w.heap.size w w':=by
  have HB:=hR w;go_enter Tryz.func167,Tryz.ntmps167
  go_wp2_with fail
  refine (spec_Rol v c.F _ h0 h1).mono ?_
  rintro _ w1 ⟨rfl,hb⟩
  (have HB:=Aside0.mk (below_step (w:=w) blw hb);have hz1:=hb.size;obtain ⟨hcl1,hfr1,hlt1,_⟩:=bcell hb;(try simp only [sA,sC,sD] at hz1);(try simp only [sA,sC,sD] at hcl1 hfr1 hlt1);have hk1_0 : w.heap.size < w1.heap.size:=(by omega);have hk1_1 : w.heap.size+1 < w1.heap.size:=(by omega);have HB1:=hR w1;clear hb)
  go_wp2_with fail
  (refine bodyPost_ret (v:=.tuple #[.int .u8 ((rolT v c.F).1),.agg #[.bool (stF c (rolT v c.F).2).F.N,.bool (stF c (rolT v c.F).2).F.V,.bool (stF c (rolT v c.F).2).F.D,.bool (stF c (rolT v c.F).2).F.I,.bool (stF c (rolT v c.F).2).F.Z,.bool (stF c (rolT v c.F).2).F.C]]) (by (simp only [results,Tryz.results167];go_simp <;> ((first | rfl | (simp [stF];done))))) rfl ?_)
  exact ⟨rfl,blw⟩
set_option maxRecDepth 20000 in
set_option maxHeartbeats 1000000 in
theorem chg_ROR (c : Cpu) (v : Int) (w : World) (h0 : 0 ≤ v) (h1 : v < 256) : Calls Tryz.prog 167 #[.string ⟨#[82,79,82]⟩,.int .u8 v,.agg #[.bool c.F.N,.bool c.F.V,.bool c.F.D,.bool c.F.I,.bool c.F.Z,.bool c.F.C]] w fun e w' => e = .returned (.tuple #[.int .u8 ((rorT v c.F).1),.agg #[.bool (stF c (rorT v c.F).2).F.N,.bool (stF c (rorT v c.F).2).F.V,.bool (stF c (rorT v c.F).2).F.D,.bool (stF c (rorT v c.F).2).F.I,.bool (stF c (rorT v c.F).2).F.Z,.bool (stF c (rorT v c.F).2).F.C]])∧Below w.heap.size w w':=by
  have HB:=hR w;go_enter Tryz.func167,Tryz.ntmps167
  go_wp2_with fail
  refine (spec_Ror v c.F _ h0 h1).mono ?_
  rintro _ w1 ⟨rfl,hb⟩
  (have HB:=Aside0.mk (below_step (w:=w) blw hb);have hz1:=hb.size;obtain ⟨hcl1,hfr1,hlt1,_⟩:=bcell hb;(try simp only [sA,sC,sD] at hz1);(try simp only [sA,sC,sD] at hcl1 hfr1 hlt1);have hk1_0 : w.heap.size < w1.heap.size:=(by omega);have hk1_1 : w.heap.size+1 < w1.heap.size:=(by omega);have HB1:=hR w1;clear hb)
  go_wp2_with fail
  (refine bodyPost_ret (v:=.tuple #[.int .u8 ((rorT v c.F).1),.agg #[.bool (stF c (rorT v c.F).2).F.N,.bool (stF c (rorT v c.F).2).F.V,.bool (stF c (rorT v c.F).2).F.D,.bool (stF c (rorT v c.F).2).F.I,.bool (stF c (rorT v c.F).2).F.Z,.bool (stF c (rorT v c.F).2).F.C]]) (by (simp only [results,Tryz.results167];go_simp <;> ((first | rfl | (simp [stF];done))))) rfl ?_)
  exact ⟨rfl,blw⟩
set_option maxRecDepth 20000 in
set_option maxHeartbeats 1000000 in
theorem chg_INC (c : Cpu) (v : Int) (w : World) (h0 : 0 ≤ v) (h1 : v < 256) : Calls Tryz.prog 167 #[.string ⟨#[73,78,67]⟩,.int .u8 v,.agg #[.bool c.F.N,.bool c.F.V,.bool c.F.D,.bool c.F.I,.bool c.F.Z,.bool c.F.C]] w fun e w' => e = .returned (.tuple #[.int .u8 ((v+1) % 256),.agg #[.bool (stF c (nz ((v+1) % 256) c.F)).F.N,.bool (stF c (nz ((v+1) % 256) c.F)).F.V,.bool (stF c (nz ((v+1) % 256) c.F)).F.D,.bool (stF c (nz ((v+1) % 256) c.F)).F.I,.bool (stF c (nz ((v+1) % 256) c.F)).F.Z,.bool (stF c (nz ((v+1) % 256) c.F)).F.C]])∧Below w.heap.size w w':=by
  have HB:=hR w;go_enter Tryz.func167,Tryz.ntmps167
  go_wp2_with fail
  refine (spec_NZ ((v+1) % 256) c.F _ (by omega) (by omega)).mono ?_
  rintro _ w1 ⟨rfl,hb⟩
  (have HB:=Aside0.mk (below_step (w:=w) blw hb);have hz1:=hb.size;obtain ⟨hcl1,hfr1,hlt1,_⟩:=bcell hb;(try simp only [sA,sC,sD] at hz1);(try simp only [sA,sC,sD] at hcl1 hfr1 hlt1);have hk1_0 : w.heap.size < w1.heap.size:=(by omega);have hk1_1 : w.heap.size+1 < w1.heap.size:=(by omega);have HB1:=hR w1;clear hb)
  go_wp2_with fail
  (refine bodyPost_ret (v:=.tuple #[.int .u8 ((v+1) % 256),.agg #[.bool (stF c (nz ((v+1) % 256) c.F)).F.N,.bool (stF c (nz ((v+1) % 256) c.F)).F.V,.bool (stF c (nz ((v+1) % 256) c.F)).F.D,.bool (stF c (nz ((v+1) % 256) c.F)).F.I,.bool (stF c (nz ((v+1) % 256) c.F)).F.Z,.bool (stF c (nz ((v+1) % 256) c.F)).F.C]]) (by (simp only [results,Tryz.results167];go_simp <;> ((first | rfl | (simp [stF];done))))) rfl ?_)
  exact ⟨rfl,blw⟩
set_option maxRecDepth 20000 in
set_option maxHeartbeats 1000000 in
theorem chg_DEC (c : Cpu) (v : Int) (w : World) (h0 : 0 ≤ v) (h1 : v < 256) : Calls Tryz.prog 167 #[.string ⟨#[68,69,67]⟩,.int .u8 v,.agg #[.bool c.F.N,.bool c.F.V,.bool c.F.D,.bool c.F.I,.bool c.F.Z,.bool c.F.C]] w fun e w' => e = .returned (.tuple #[.int .u8 ((v - 1) % 256),.agg #[.bool (stF c (nz ((v - 1) % 256) c.F)).F.N,.bool (stF c (nz ((v - 1) % 256) c.F)).F.V,.bool (stF c (nz ((v - 1) % 256) c.F)).F.D,.bool (stF c (nz ((v - 1) % 256) c.F)).F.I,.bool (stF c (nz ((v - 1) % 256) c.F)).F.Z,.bool (stF c (nz ((v - 1) % 256) c.F)).F.C]])∧Below w.heap.size w w':=by
  have HB:=hR w;go_enter Tryz.func167,Tryz.ntmps167
  go_wp2_with fail
  refine (spec_NZ ((v - 1) % 256) c.F _ (by omega) (by omega)).mono ?_
  rintro _ w1 ⟨rfl,hb⟩
  (have HB:=Aside0.mk (below_step (w:=w) blw hb);have hz1:=hb.size;obtain ⟨hcl1,hfr1,hlt1,_⟩:=bcell hb;(try simp only [sA,sC,sD] at hz1);(try simp only [sA,sC,sD] at hcl1 hfr1 hlt1);have hk1_0 : w.heap.size < w1.heap.size:=(by omega);have hk1_1 : w.heap.size+1 < w1.heap.size:=(by omega);have HB1:=hR w1;clear hb)
  go_wp2_with fail
  (refine bodyPost_ret (v:=.tuple #[.int .u8 ((v - 1) % 256),.agg #[.bool (stF c (nz ((v - 1) % 256) c.F)).F.N,.bool (stF c (nz ((v - 1) % 256) c.F)).F.V,.bool (stF c (nz ((v - 1) % 256) c.F)).F.D,.bool (stF c (nz ((v - 1) % 256) c.F)).F.I,.bool (stF c (nz ((v - 1) % 256) c.F)).F.Z,.bool (stF c (nz ((v - 1) % 256) c.F)).F.C]]) (by (simp only [results,Tryz.results167];go_simp <;> ((first | rfl | (simp [stF];done))))) rfl ?_)
  exact ⟨rfl,blw⟩
theorem spec_l06Change (x : List UInt8) (c : Cpu) (v : Int) (w : World) (hx : chgX x = true) (h0 : 0 ≤ v) (h1 : v < 256) : Calls Tryz.prog 167 #[.string ⟨x.toArray⟩,.int .u8 v,.agg #[.bool c.F.N,.bool c.F.V,.bool c.F.D,.bool c.F.I,.bool c.F.Z,.bool c.F.C]] w fun e w' => e = .returned (.tuple #[.int .u8 (doT x c v).2,.agg #[.bool (doT x c v).1.F.N,.bool (doT x c v).1.F.V,.bool (doT x c v).1.F.D,.bool (doT x c v).1.F.I,.bool (doT x c v).1.F.Z,.bool (doT x c v).1.F.C]])∧Below w.heap.size w w':=by
  have hs : x = [65,83,76] ∨ x = [76,83,82] ∨ x = [82,79,76] ∨ x = [82,79,82] ∨ x = [73,78,67] ∨ x = [68,69,67]:=by simpa [chgX,or_assoc] using hx
  rcases hs with rfl | rfl | rfl | rfl | rfl | rfl
  · exact chg_ASL c v w h0 h1
  · exact chg_LSR c v w h0 h1
  · exact chg_ROL c v w h0 h1
  · exact chg_ROR c v w h0 h1
  · exact chg_INC c v w h0 h1
  · exact chg_DEC c v w h0 h1
def flgT (x : List UInt8) (f : F6) : F6:=if x == [67,76,67] then { f with C:=false } else if x == [83,69,67] then { f with C:=true } else if x == [67,76,73] then { f with I:=false } else if x == [83,69,73] then { f with I:=true } else if x == [67,76,86] then { f with V:=false } else if x == [67,76,68] then { f with D:=false } else if x == [83,69,68] then { f with D:=true } else f
set_option maxRecDepth 20000 in
set_option maxHeartbeats 1000000 in
theorem spec_l06Flag (x : List UInt8) (f : F6) (w : World) : Calls Tryz.prog 169 #[.agg #[.bool f.N,.bool f.V,.bool f.D,.bool f.I,.bool f.Z,.bool f.C],.string ⟨x.toArray⟩] w fun e w' => e = .returned (.agg #[.bool (flgT x f).N,.bool (flgT x f).V,.bool (flgT x f).D,.bool (flgT x f).I,.bool (flgT x f).Z,.bool (flgT x f).C])∧Below w.heap.size w w':=by
  by_cases qCLC : x = [67,76,67]
  · subst qCLC
    have HB:=hR w;go_enter Tryz.func169,Tryz.ntmps169
    go_wp2
    (refine bodyPost_ret (v:=.agg #[.bool (flgT [67,76,67] f).N,.bool (flgT [67,76,67] f).V,.bool (flgT [67,76,67] f).D,.bool (flgT [67,76,67] f).I,.bool (flgT [67,76,67] f).Z,.bool (flgT [67,76,67] f).C]) (by (simp only [results,Tryz.results169];go_simp <;> ((first | rfl | (simp [flgT];done))))) rfl ?_)
    exact ⟨rfl,blw⟩
  by_cases qSEC : x = [83,69,67]
  · subst qSEC
    have HB:=hR w;go_enter Tryz.func169,Tryz.ntmps169
    go_wp2
    (refine bodyPost_ret (v:=.agg #[.bool (flgT [83,69,67] f).N,.bool (flgT [83,69,67] f).V,.bool (flgT [83,69,67] f).D,.bool (flgT [83,69,67] f).I,.bool (flgT [83,69,67] f).Z,.bool (flgT [83,69,67] f).C]) (by (simp only [results,Tryz.results169];go_simp <;> ((first | rfl | (simp [flgT];done))))) rfl ?_)
    exact ⟨rfl,blw⟩
  by_cases qCLI : x = [67,76,73]
  · subst qCLI
    have HB:=hR w;go_enter Tryz.func169,Tryz.ntmps169
    go_wp2
    (refine bodyPost_ret (v:=.agg #[.bool (flgT [67,76,73] f).N,.bool (flgT [67,76,73] f).V,.bool (flgT [67,76,73] f).D,.bool (flgT [67,76,73] f).I,.bool (flgT [67,76,73] f).Z,.bool (flgT [67,76,73] f).C]) (by (simp only [results,Tryz.results169];go_simp <;> ((first | rfl | (simp [flgT];done))))) rfl ?_)
    exact ⟨rfl,blw⟩
  by_cases qSEI : x = [83,69,73]
  · subst qSEI
    have HB:=hR w;go_enter Tryz.func169,Tryz.ntmps169
    go_wp2
    (refine bodyPost_ret (v:=.agg #[.bool (flgT [83,69,73] f).N,.bool (flgT [83,69,73] f).V,.bool (flgT [83,69,73] f).D,.bool (flgT [83,69,73] f).I,.bool (flgT [83,69,73] f).Z,.bool (flgT [83,69,73] f).C]) (by (simp only [results,Tryz.results169];go_simp <;> ((first | rfl | (simp [flgT];done))))) rfl ?_)
    exact ⟨rfl,blw⟩
  by_cases qCLV : x = [67,76,86]
  · subst qCLV
    have HB:=hR w;go_enter Tryz.func169,Tryz.ntmps169
    go_wp2
    (refine bodyPost_ret (v:=.agg #[.bool (flgT [67,76,86] f).N,.bool (flgT [67,76,86] f).V,.bool (flgT [67,76,86] f).D,.bool (flgT [67,76,86] f).I,.bool (flgT [67,76,86] f).Z,.bool (flgT [67,76,86] f).C]) (by (simp only [results,Tryz.results169];go_simp <;> ((first | rfl | (simp [flgT];done))))) rfl ?_)
    exact ⟨rfl,blw⟩
  by_cases qCLD : x = [67,76,68]
  · subst qCLD
    have HB:=hR w;go_enter Tryz.func169,Tryz.ntmps169
    go_wp2
    (refine bodyPost_ret (v:=.agg #[.bool (flgT [67,76,68] f).N,.bool (flgT [67,76,68] f).V,.bool (flgT [67,76,68] f).D,.bool (flgT [67,76,68] f).I,.bool (flgT [67,76,68] f).Z,.bool (flgT [67,76,68] f).C]) (by (simp only [results,Tryz.results169];go_simp <;> ((first | rfl | (simp [flgT];done))))) rfl ?_)
    exact ⟨rfl,blw⟩
  by_cases qSED : x = [83,69,68]
  · subst qSED
    have HB:=hR w;go_enter Tryz.func169,Tryz.ntmps169
    go_wp2
    (refine bodyPost_ret (v:=.agg #[.bool (flgT [83,69,68] f).N,.bool (flgT [83,69,68] f).V,.bool (flgT [83,69,68] f).D,.bool (flgT [83,69,68] f).I,.bool (flgT [83,69,68] f).Z,.bool (flgT [83,69,68] f).C]) (by (simp only [results,Tryz.results169];go_simp <;> ((first | rfl | (simp [flgT];done))))) rfl ?_)
    exact ⟨rfl,blw⟩
  have rCLC : (x == [67,76,67]) = false:=beq_eq_false_iff_ne.2 qCLC
  have rSEC : (x == [83,69,67]) = false:=beq_eq_false_iff_ne.2 qSEC
  have rCLI : (x == [67,76,73]) = false:=beq_eq_false_iff_ne.2 qCLI
  have rSEI : (x == [83,69,73]) = false:=beq_eq_false_iff_ne.2 qSEI
  have rCLV : (x == [67,76,86]) = false:=beq_eq_false_iff_ne.2 qCLV
  have rCLD : (x == [67,76,68]) = false:=beq_eq_false_iff_ne.2 qCLD
  have rSED : (x == [83,69,68]) = false:=beq_eq_false_iff_ne.2 qSED
  rw [show flgT x f = f from by simp only [flgT,rCLC,rSEC,rCLI,rSEI,rCLV,rCLD,rSED];rfl]
  clear qCLC qSEC qCLI qSEI qCLV qCLD qSED
  have HB:=hR w;go_enter Tryz.func169,Tryz.ntmps169
  go_wp2
  (refine bodyPost_ret (v:=.agg #[.bool f.N,.bool f.V,.bool f.D,.bool f.I,.bool f.Z,.bool f.C]) (by (simp only [results,Tryz.results169];go_simp <;> (rfl))) rfl ?_)
  exact ⟨rfl,blw⟩
end Go.Proofs.YtoncmhfmkfeolaaGreatDoor
