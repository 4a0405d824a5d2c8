/- The reference's bus: a read, a write, an interrupt's bytes. -/
import Derived.Test.YtghmeghbekkanaaMachI2
set_option linter.unusedVariables false
set_option linter.unusedSimpArgs false
namespace Go.Proofs.Ytghmeghbekkanaa
open Go.RowKit Go.Proofs.YtghmeghbekkanaaW.PrintWords
def bcells (x v : Value) : Array Value := #[x, v]
def HoldB (w : World) (L : Lay) (v : Value) (b : Bus) (n : Nat) : Prop := Hold w L v 62 (bcells (.slice (some ⟨L.r, 0, none⟩) b.m.length L.cap) v) b n
theorem HoldB.of {w : World} {L : Lay} {v : Value} {b : Bus} {n k : Nat} (h : Hold w L v 62 (bcells (.slice (some ⟨L.r, 0, none⟩) k L.cap) v) b n) (e : k = b.m.length) : HoldB w L v b n := by subst e; exact h
theorem HoldB.below {w w' : World} {L : Lay} {v : Value} {b : Bus} {n : Nat} (h : HoldB w L v b n) (hb : Below w.heap.size w w') : HoldB w' L v b n := Hold.below h hb
theorem HoldB.alloc {w : World} {L : Lay} {v : Value} {b : Bus} {n : Nat} (h : HoldB w L v b n) (o : Obj) : HoldB (w.alloc o) L v b n := Hold.alloc h o
theorem HoldB.drew {w : World} {L : Lay} {v : Value} {b : Bus} {n : Nat} (h : HoldB w L v b n) : HoldB w.drew L v b n := Hold.drew h
theorem HoldB.drewN {w : World} {L : Lay} {v : Value} {b : Bus} {n : Nat} (h : HoldB w L v b n) (k : Nat) : HoldB (w.drewN k) L v b n := Hold.drewN h k
theorem HoldB.far {w : World} {L : Lay} {v : Value} {b : Bus} {n : Nat} (h : HoldB w L v b n) (i o : Nat) (u : Value) (ap : i ≠ L.g ∧ i ≠ L.r ∧ some i ≠ v.ownBlock) : HoldB (w.setCell ⟨i, o, none⟩ u) L v b n := Hold.far h ap u
theorem HoldB.apart {w : World} {L : Lay} {v : Value} {b : Bus} {n : Nat} (h : HoldB w L v b n) (i : Nat) (hi : w.heap.size ≤ i) : i ≠ L.g ∧ i ≠ L.r ∧ some i ≠ v.ownBlock :=
  ⟨by have := Hold.lt h; omega, by have := Hold.rlt h; omega, fun e => by have := Hold.vlt h _ e.symm; omega⟩
theorem HoldB.size {w : World} {L : Lay} {v : Value} {b : Bus} {n : Nat} (h : HoldB w L v b n) : L.base ≤ w.heap.size := Hold.size h
theorem HoldB.mem {w : World} {L : Lay} {v : Value} {b : Bus} {n : Nat} (h : HoldB w L v b n) : w.cell? ⟨L.g, 0, none⟩ = some (.slice (some ⟨L.r, 0, none⟩) b.m.length L.cap) := Hold.cell h 0
theorem HoldB.log {w : World} {L : Lay} {v : Value} {b : Bus} {n : Nat} (h : HoldB w L v b n) : w.cell? ⟨L.g, 1, none⟩ = some v := Hold.cell h 1
theorem HoldB.lt {w : World} {L : Lay} {v : Value} {b : Bus} {n : Nat} (h : HoldB w L v b n) : L.g < w.heap.size := Hold.lt h
theorem HoldB.bs {w : World} {L : Lay} {v : Value} {b : Bus} {n : Nat} (h : HoldB w L v b n) : Bs w (some ⟨L.r, 0, none⟩) b.m := Hold.bs h
theorem HoldB.free {w : World} {L : Lay} {v : Value} {b : Bus} {n : Nat} (h : HoldB w L v b n) (i : Nat) : w.frozen? ⟨L.g, i, none⟩ = false := Hold.free h i
theorem u16_in {a : Int} (h0 : 0 ≤ a) (h1 : a < 65536) : IntKind.u16.wrap a = a := by rw [IntKind.wrap_u16]; omega
set_option maxRecDepth 20000 in
set_option maxHeartbeats 400000 in
theorem spec_l06Read (x a : Int) (hx : x % 65536 = a) {w : World} {L : Lay} {v : Value} {b : Bus} {n : Nat} (h : HoldB w L v b n) (hn : n ≤ 1000000) :
    Calls Try.prog 30 #[.pointer (some ⟨L.g, 0, none⟩), .int .i64 x] w fun e w' => e = .returned (.int .u8 (peek b.m a)) ∧ ∃ v', HoldB w' L v' (b.rd a) (n + 1) ∧ Mv w w' L v v' := by
  have h0 : 0 ≤ a := by omega
  have h1 : a < 65536 := by omega
  have hand : bits .and .i64 x 65535 = a := (i64_and65535 x).trans hx
  have ep : peek b.m a = rd b.m (a % b.m.length) := by simp [peek, Hold.ok h]
  have hp := peek_b h.bs a
  have eb : b.rd a = ⟨b.m, b.t ++ [⟨a, rd b.m (a % b.m.length), false⟩]⟩ := by unfold Bus.rd; rw [ep]
  rw [ep] at hp ⊢
  rw [eb]
  clear eb ep
  have hs := ramSize_le (Hold.ok h)
  have hne : ¬ b.m = [] := fun e => by rw [e] at hs; simp at hs
  have q0 : 0 ≤ a % b.m.length := Int.emod_nonneg _ (by omega)
  have q1 : a % b.m.length < b.m.length := Int.emod_lt_of_pos _ (by omega)
  obtain ⟨hy, hf⟩ := Kd.R_celln 0 (Hold.mem h) (a % b.m.length) q0 q1
  have hy : w.cell? ⟨L.r, (a % b.m.length).toNat, none⟩ = some (.int .u8 (rd b.m (a % b.m.length))) := hy
  have e11 := h.mem
  have e12 := h.log
  have hlt := h.lt
  have hs1 := h.size
  have ht1 : (b.t.length + 1) * 4 ≤ 140737488355328 := by have := Hold.tn h; omega
  have hu := u16_in h0 h1
  have HB := hR w; go_enter Try.func30, Try.ntmps30
  go_wp2_with fail
  go_quiet (fail)
  have H1 := Aside0.mk (Hold.drewN h nq)
  go_wp2_with (at_builtin; refine Kd.R_append cycK (w0 := w.drewN nq) L.base rfl _ _ 35 76 (.agg #[.int .u16 0, .int .u8 0, .bool false]) 4 rfl Try.underlying35 infoCyc rfl (by decide) (by decide) v b.t ⟨a, rd b.m (a % b.m.length), false⟩ [.int .u16 a, .int .u8 (rd b.m (a % b.m.length)), .bool false] (fun _ => True) (fun k => some k ≠ v.ownBlock) rfl rfl ⟨[_], _, rfl, rfl, [_], [_], rfl, rfl, rfl⟩ (fun _ hk => ⟨trivial, hk⟩) (fun _ _ => trivial) H1.out.log (Below.refl _ _) hs1 ht1 ?_; intro v2 w2 ho2 hb2 hg2 hat2; obtain ⟨A2, c2, ev2, _, _⟩ := Kd.R_reads ho2; rw [List.length_append, List.length_singleton] at ev2; subst ev2; have HA := Aside0.mk (H1.out.app ⟨a, rd b.m (a % b.m.length), false⟩ ⟨h0, h1, hp.1, hp.2⟩ ho2 hg2 hat2); clear ho2 hb2 hg2 hat2; have hfz2 : w2.frozen? ⟨L.g, 1, none⟩ = false := HA.out.1.free 1; have e12 : w2.cell? ⟨L.g, 1, none⟩ = some v := HA.out.1.cell 1; have hlt2 := HA.out.1.lt)
  go_ret
  exact ⟨rfl, _, Hold.set HA.out.1 1 _, (((Mv.refl w L v h.size).drewN h.size nq).trans HA.out.2 hs1).set (Hold.bg h) 1 _⟩
set_option maxRecDepth 20000 in
set_option maxHeartbeats 400000 in
theorem spec_l06Write (x a d : Int) (hx : x % 65536 = a) {w : World} {L : Lay} {v : Value} {b : Bus} {n : Nat} (h : HoldB w L v b n) (hn : n ≤ 1000000) (d0 : 0 ≤ d) (d1 : d < 256) :
    Calls Try.prog 59 #[.pointer (some ⟨L.g, 0, none⟩), .int .i64 x, .int .u8 d] w fun e w' => e = .returned (.tuple #[]) ∧ ∃ v', HoldB w' L v' (b.wr a d) (n + 1) ∧ Mv w w' L v v' := by
  have h0 : 0 ≤ a := by omega
  have h1 : a < 65536 := by omega
  have hand : bits .and .i64 x 65535 = a := (i64_and65535 x).trans hx
  have hs := ramSize_le (Hold.ok h)
  have hne : ¬ b.m = [] := fun e => by rw [e] at hs; simp at hs
  have q0 : 0 ≤ a % b.m.length := Int.emod_nonneg _ (by omega)
  have q1 : a % b.m.length < b.m.length := Int.emod_lt_of_pos _ (by omega)
  obtain ⟨hy, hf⟩ := Kd.R_celln 0 (Hold.mem h) (a % b.m.length) q0 q1
  have e11 := h.mem
  have hlt := h.lt
  have hu := u16_in h0 h1
  have hgr := Hold.gr h
  have hrg : ¬ L.r = L.g := fun e => hgr e.symm
  have HB := hR w; go_enter Try.func59, Try.ntmps59
  go_wp2_with fail
  go_region
  obtain ⟨HP1, HP2⟩ := Hold.put h (a % b.m.length) d q0 q1 d0 d1
  have HP1 := HP1.drew
  have HM := Aside0.mk (HP2.drew (by have := HP1.size; exact this))
  have H1 := Aside0.mk HP1
  have hs1 := HP1.size
  have ht1 : (b.t.length + 1) * 4 ≤ 140737488355328 := by have := HP1.tn; simp only [] at this; omega
  have e12 : (w.setCell ⟨L.r, (a % (b.m.length : Int)).toNat, none⟩ (.int .u8 d)).drew.cell? ⟨L.g, 1, none⟩ = some v := HP1.cell 1
  clear HP1 HP2 hy hf e11 hlt
  generalize (w.setCell ⟨L.r, (a % (b.m.length : Int)).toNat, none⟩ (.int .u8 d)).drew = w1 at *
  go_wp2_with (at_builtin; refine Kd.R_append cycK (w0 := w1) L.base rfl _ _ 35 76 (.agg #[.int .u16 0, .int .u8 0, .bool false]) 4 rfl Try.underlying35 infoCyc rfl (by decide) (by decide) v b.t ⟨a, d, true⟩ [.int .u16 a, .int .u8 d, .bool true] (fun _ => True) (fun k => some k ≠ v.ownBlock) rfl rfl ⟨[_], _, rfl, rfl, [_], [_], rfl, rfl, rfl⟩ (fun _ hk => ⟨trivial, hk⟩) (fun _ _ => trivial) H1.out.log (Below.refl _ _) hs1 ht1 ?_; intro v2 w2 ho2 hb2 hg2 hat2; obtain ⟨A2, c2, ev2, _, _⟩ := Kd.R_reads ho2; rw [List.length_append, List.length_singleton] at ev2; subst ev2; have HA := Aside0.mk (H1.out.app ⟨a, d, true⟩ ⟨h0, h1, d0, d1⟩ ho2 hg2 hat2); clear ho2 hb2 hg2 hat2; have hfz2 : w2.frozen? ⟨L.g, 1, none⟩ = false := HA.out.1.free 1; have e12 : w2.cell? ⟨L.g, 1, none⟩ = some v := HA.out.1.cell 1; have hlt2 := HA.out.1.lt)
  go_end0
  exact ⟨rfl, _, HoldB.of (Hold.set HA.out.1 1 _) (by simp [Bus.wr]), (HM.out.trans HA.out.2 hs1).set (Hold.bg h) 1 _⟩
theorem spec_l06Stack (s : Int) (w : World) : Calls Try.prog 60 #[.int .i64 s] w fun e w' => e = .returned (.int .i64 (stk s)) ∧ w = w' := by
  have hand := i64_and255 s
  have hb : 0 ≤ s % 256 ∧ s % 256 < 256 := by omega
  generalize hq : s % 256 = q at hand hb
  unfold stk
  rw [hq]
  clear hq
  have HB := hR w; go_enter Try.func60, Try.ntmps60
  go_wp2
  go_ret
  exact ⟨rfl, rfl⟩
set_option maxRecDepth 20000 in
set_option maxHeartbeats 1000000 in
theorem spec_l06Push (c : Cpu) (pc a : Int) (k : Bool) {w : World} {L : Lay} {v : Value} {b : Bus} {n : Nat} (h : HoldB w L v b n) (hn : n ≤ 800000) (hc : c.ok) (h0 : 0 ≤ pc) (h1 : pc < 65536) (h2 : 0 ≤ a) (h3 : a < 65535) :
    Calls Try.prog 31 #[.pointer (some ⟨L.g, 0, none⟩), .agg #[.int .u8 c.A, .int .u8 c.X, .int .u8 c.Y, .int .u8 c.S, .int .u16 c.PC, .bool c.F.N, .bool c.F.V, .bool c.F.D, .bool c.F.I, .bool c.F.Z, .bool c.F.C], .int .i64 pc, .bool k, .int .i64 a] w fun e w' => e = .returned (.agg #[.int .u8 (c.to (push3 c b pc k) a).A, .int .u8 (c.to (push3 c b pc k) a).X, .int .u8 (c.to (push3 c b pc k) a).Y, .int .u8 (c.to (push3 c b pc k) a).S, .int .u16 (c.to (push3 c b pc k) a).PC, .bool (c.to (push3 c b pc k) a).F.N, .bool (c.to (push3 c b pc k) a).F.V, .bool (c.to (push3 c b pc k) a).F.D, .bool (c.to (push3 c b pc k) a).F.I, .bool (c.to (push3 c b pc k) a).F.Z, .bool (c.to (push3 c b pc k) a).F.C]) ∧ ∃ v', HoldB w' L v' (((push3 c b pc k).rd a).rd (a + 1)) (n + 5) ∧ Mv w w' L v v' := by
  obtain ⟨_, _, _, _, _, _, hs0, hs1, hp0, hp1⟩ := hc
  have H0 := Aside0.mk h
  have M0 := Aside0.mk (Mv.refl w L v h.size)
  have ap_0 := h.apart w.heap.size (Nat.le_refl _)
  have ap_1 := h.apart (w.heap.size + 1) (by omega)
  have hb1 := stk_b c.S
  have hb2 := stk_b (c.S - 1)
  have hb3 := stk_b (c.S - 2)
  have hand := i64_and255
  have HE : Aside0 (pc / 256 % 256 = pc / 256) := ⟨by omega⟩
  obtain ⟨D, hD⟩ : ∃ D, push3 c b pc k = D := ⟨_, rfl⟩
  rw [hD]
  have HD := Aside0.mk hD
  clear hD
  have HB := hR w; go_enter Try.func31, Try.ntmps31
  go_wp2_with (first | (go_at_call 60; ((with_reducible refine (spec_l06Stack _ _).mono ?_); rintro _ _ ⟨rfl, rfl⟩)))
  go_wp2_with fail
  refine Calls.mono (spec_l06Write _ (stk c.S) (pc / 256 % 256) (by omega) (by (repeat' (first | (with_reducible exact H0.out) | (with_reducible apply HoldB.alloc) | (with_reducible apply HoldB.drew) | (with_reducible apply HoldB.drewN) | (with_reducible refine HoldB.far ?_ _ _ _ ?_) | assumption))) (by omega) (by omega) (by omega)) ?_
  rintro _ w1 ⟨rfl, v1, H1, M1⟩
  obtain ⟨hl1_0, hf1_0, hz1_0, ap_0⟩ := M1.loc (w.heap.size) (by first | omega | (simp; done) | (simp; omega)) ap_0
  obtain ⟨hl1_1, hf1_1, hz1_1, ap_1⟩ := M1.loc (w.heap.size + 1) (by first | omega | (simp; done) | (simp; omega)) ap_1
  have M1 := Aside0.mk (Mv.tr (by (repeat' (first | (with_reducible exact M0.out) | (with_reducible apply Mv.al) | (with_reducible apply Mv.dr) | (with_reducible apply Mv.drN) | (with_reducible refine Mv.far ?_ ?_ _) | (with_reducible refine Mv.set ?_ ?_ _ _) | omega | (simp only []; omega) | assumption))) M1)
  have H1 := Aside0.mk H1
  go_wp2_with (first | (go_at_call 60; ((with_reducible refine (spec_l06Stack _ _).mono ?_); rintro _ _ ⟨rfl, rfl⟩)))
  go_wp2_with fail
  refine Calls.mono (spec_l06Write _ (stk (c.S - 1)) (pc % 256) (by omega) (by (repeat' (first | (with_reducible exact H1.out) | (with_reducible apply HoldB.alloc) | (with_reducible apply HoldB.drew) | (with_reducible apply HoldB.drewN) | (with_reducible refine HoldB.far ?_ _ _ _ ?_) | assumption))) (by omega) (by omega) (by omega)) ?_
  rintro _ w2 ⟨rfl, v2, H2, M2⟩
  obtain ⟨hl2_0, hf2_0, hz2_0, ap_0⟩ := M2.loc (w.heap.size) (by first | omega | (simp; done) | (simp; omega)) ap_0
  obtain ⟨hl2_1, hf2_1, hz2_1, ap_1⟩ := M2.loc (w.heap.size + 1) (by first | omega | (simp; done) | (simp; omega)) ap_1
  have M2 := Aside0.mk (Mv.tr (by (repeat' (first | (with_reducible exact M1.out) | (with_reducible apply Mv.al) | (with_reducible apply Mv.dr) | (with_reducible apply Mv.drN) | (with_reducible refine Mv.far ?_ ?_ _) | (with_reducible refine Mv.set ?_ ?_ _ _) | omega | (simp only []; omega) | assumption))) M2)
  have H2 := Aside0.mk H2
  have hpk := packP_b c.F k
  have hw2 : IntKind.i64.wrap (c.S - 2) = c.S - 2 := w64 ⟨by omega, by omega⟩
  go_wp2_with fail
  go_region_held3 (fun w' => w'.cell? ⟨w.heap.size, 5, none⟩ = some (.bool c.F.N) ∧ w'.cell? ⟨w.heap.size, 6, none⟩ = some (.bool c.F.V) ∧ w'.cell? ⟨w.heap.size, 7, none⟩ = some (.bool c.F.D) ∧ w'.cell? ⟨w.heap.size, 8, none⟩ = some (.bool c.F.I) ∧ w'.cell? ⟨w.heap.size, 9, none⟩ = some (.bool c.F.Z) ∧ w'.cell? ⟨w.heap.size, 10, none⟩ = some (.bool c.F.C)) (first | (go_keep; done) | (go_split_ands; (repeat' apply And.intro) <;> (first | (with_reducible assumption) | (go_simp; done) | (exact cell_keep blw (by assumption)) | exact blw))) (first | (go_at_call 60; ((with_reducible refine (spec_l06Stack _ _).mono ?_); rintro _ _ ⟨rfl, rfl⟩)) | (go_at_call 61; ((with_reducible refine (spec_PackP _ _ _).mono ?_); rintro _ w3 ⟨rfl, hb⟩; have H3 := Aside0.mk (HoldB.below (by (repeat' (first | (with_reducible exact H2.out) | (with_reducible apply HoldB.alloc) | (with_reducible apply HoldB.drew) | (with_reducible apply HoldB.drewN) | (with_reducible refine HoldB.far ?_ _ _ _ ?_) | assumption))) hb); have M3 := Aside0.mk (Mv.bl (by (repeat' (first | (with_reducible exact M2.out) | (with_reducible apply Mv.al) | (with_reducible apply Mv.dr) | (with_reducible apply Mv.drN) | (with_reducible refine Mv.far ?_ ?_ _) | (with_reducible refine Mv.set ?_ ?_ _ _) | omega | (simp only []; omega) | assumption))) hb); have hz3 := hb.size; obtain ⟨hcl3, hfr3, hlt3, _⟩ := bcell hb; (try simp only [sA, sC, sD] at hz3); (try simp only [sA, sC, sD] at hcl3 hfr3 hlt3); clear hb)) | (go_at_call 59; ((with_reducible refine Calls.mono (spec_l06Write _ (stk (c.S - 2)) (packP c.F k) (by omega) (by (repeat' (first | (with_reducible exact H3.out) | (with_reducible apply HoldB.alloc) | (with_reducible apply HoldB.drew) | (with_reducible apply HoldB.drewN) | (with_reducible refine HoldB.far ?_ _ _ _ ?_) | assumption))) (by omega) hpk.1 hpk.2) ?_); rintro _ w4 ⟨rfl, v4, H4, M4⟩; obtain ⟨hl4_0, hf4_0, hz4_0, ap_0⟩ := M4.loc (w.heap.size) (by first | omega | (simp; done) | (simp; omega)) ap_0; obtain ⟨hl4_1, hf4_1, hz4_1, ap_1⟩ := M4.loc (w.heap.size + 1) (by first | omega | (simp; done) | (simp; omega)) ap_1; have M4 := Aside0.mk (Mv.tr (by (repeat' (first | (with_reducible exact M3.out) | (with_reducible apply Mv.al) | (with_reducible apply Mv.dr) | (with_reducible apply Mv.drN) | (with_reducible refine Mv.far ?_ ?_ _) | (with_reducible refine Mv.set ?_ ?_ _ _) | omega | (simp only []; omega) | assumption))) M4); have H4 := Aside0.mk H4)))
  have H4 := Aside0.mk (show HoldB w4 L v4 D (n + 1 + 1 + 1) from by have := H4.out; rw [HE.out] at this; rw [← HD.out]; exact this)
  clear H0 H1 H2 H3 M1 M2 M3
  go_wp2_with fail
  refine Calls.mono (spec_l06Read _ a (by omega) (by (repeat' (first | (with_reducible exact H4.out) | (with_reducible apply HoldB.alloc) | (with_reducible apply HoldB.drew) | (with_reducible apply HoldB.drewN) | (with_reducible refine HoldB.far ?_ _ _ _ ?_) | assumption))) (by omega)) ?_
  rintro _ w5 ⟨rfl, v5, H5, M5⟩
  obtain ⟨hl5_0, hf5_0, hz5_0, ap_0⟩ := M5.loc (w.heap.size) (by first | omega | (simp; done) | (simp; omega)) ap_0
  obtain ⟨hl5_1, hf5_1, hz5_1, ap_1⟩ := M5.loc (w.heap.size + 1) (by first | omega | (simp; done) | (simp; omega)) ap_1
  have M5 := Aside0.mk (Mv.tr (by (repeat' (first | (with_reducible exact M4.out) | (with_reducible apply Mv.al) | (with_reducible apply Mv.dr) | (with_reducible apply Mv.drN) | (with_reducible refine Mv.far ?_ ?_ _) | (with_reducible refine Mv.set ?_ ?_ _ _) | omega | (simp only []; omega) | assumption))) M5)
  have H5 := Aside0.mk H5
  have p0 := peek_b (HoldB.bs H4.out) a
  have p1 := peek_b (HoldB.bs H4.out) (a + 1)
  have hw1 : IntKind.i64.wrap (a + 1) = a + 1 := w64 ⟨by omega, by omega⟩
  go_wp2_with fail
  refine Calls.mono (spec_l06Read _ (a + 1) (by omega) (by (repeat' (first | (with_reducible exact H5.out) | (with_reducible apply HoldB.alloc) | (with_reducible apply HoldB.drew) | (with_reducible apply HoldB.drewN) | (with_reducible refine HoldB.far ?_ _ _ _ ?_) | assumption))) (by omega)) ?_
  rintro _ w6 ⟨rfl, v6, H6, M6⟩
  obtain ⟨hl6_0, hf6_0, hz6_0, ap_0⟩ := M6.loc (w.heap.size) (by first | omega | (simp; done) | (simp; omega)) ap_0
  obtain ⟨hl6_1, hf6_1, hz6_1, ap_1⟩ := M6.loc (w.heap.size + 1) (by first | omega | (simp; done) | (simp; omega)) ap_1
  have M6 := Aside0.mk (Mv.tr (by (repeat' (first | (with_reducible exact M5.out) | (with_reducible apply Mv.al) | (with_reducible apply Mv.dr) | (with_reducible apply Mv.drN) | (with_reducible refine Mv.far ?_ ?_ _) | (with_reducible refine Mv.set ?_ ?_ _ _) | omega | (simp only []; omega) | assumption))) M6)
  have H6 := Aside0.mk H6
  have ep : peek (D.rd a).m (a + 1) = peek D.m (a + 1) := rfl
  rw [ep]
  clear ep
  have hw := word2_b p0 p1
  have hww := u16_in hw.1 hw.2
  go_wp2_with (first | (go_at_call 62; ((with_reducible refine (spec_l04Word _ _ _ p0.1 p0.2 p1.1 p1.2).mono ?_); rintro _ _ ⟨rfl, rfl⟩)))
  (refine bodyPost_ret (v := .agg #[.int .u8 (c.to D a).A, .int .u8 (c.to D a).X, .int .u8 (c.to D a).Y, .int .u8 (c.to D a).S, .int .u16 (c.to D a).PC, .bool (c.to D a).F.N, .bool (c.to D a).F.V, .bool (c.to D a).F.D, .bool (c.to D a).F.I, .bool (c.to D a).F.Z, .bool (c.to D a).F.C]) (by (simp only [results, Try.results31]; go_simp <;> ((simp [Cpu.to]; done)))) rfl ?_)
  exact ⟨rfl, v6, by (repeat' (first | (with_reducible exact H6.out) | (with_reducible apply HoldB.alloc) | (with_reducible apply HoldB.drew) | (with_reducible apply HoldB.drewN) | (with_reducible refine HoldB.far ?_ _ _ _ ?_) | assumption)), by (repeat' (first | (with_reducible exact M6.out) | (with_reducible apply Mv.al) | (with_reducible apply Mv.dr) | (with_reducible apply Mv.drN) | (with_reducible refine Mv.far ?_ ?_ _) | (with_reducible refine Mv.set ?_ ?_ _ _) | omega | (simp only []; omega) | assumption))⟩
end Go.Proofs.Ytghmeghbekkanaa
