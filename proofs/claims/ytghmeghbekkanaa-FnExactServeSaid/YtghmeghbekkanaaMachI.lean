/- The program's processor at work: a read, a write, a push. -/
import Derived.Test.YtghmeghbekkanaaBus
set_option linter.unusedVariables false
set_option linter.unusedSimpArgs false
namespace Go.Proofs.Ytghmeghbekkanaa
open Go.RowKit Go.Proofs.YtghmeghbekkanaaW.PrintWords
def mcells (c : Cpu) (x v : Value) : Array Value := #[.int .u8 c.A, .int .u8 c.X, .int .u8 c.Y, .int .u8 c.S, .int .u16 c.PC, .bool c.F.N, .bool c.F.V, .bool c.F.D, .bool c.F.I, .bool c.F.Z, .bool c.F.C, x, v]
def HoldM (w : World) (L : Lay) (v : Value) (c : Cpu) (b : Bus) (n : Nat) : Prop := Hold w L v 70 (mcells c (.slice (some ⟨L.r, 0, none⟩) b.m.length L.cap) v) b n
structure FactsM (w : World) (L : Lay) (v : Value) (c : Cpu) (b : Bus) : Prop where
  c0 : w.cell? ⟨L.g, 0, none⟩ = some (.int .u8 c.A)
  c1 : w.cell? ⟨L.g, 1, none⟩ = some (.int .u8 c.X)
  c2 : w.cell? ⟨L.g, 2, none⟩ = some (.int .u8 c.Y)
  c3 : w.cell? ⟨L.g, 3, none⟩ = some (.int .u8 c.S)
  c4 : w.cell? ⟨L.g, 4, none⟩ = some (.int .u16 c.PC)
  c5 : w.cell? ⟨L.g, 5, none⟩ = some (.bool c.F.N)
  c6 : w.cell? ⟨L.g, 6, none⟩ = some (.bool c.F.V)
  c7 : w.cell? ⟨L.g, 7, none⟩ = some (.bool c.F.D)
  c8 : w.cell? ⟨L.g, 8, none⟩ = some (.bool c.F.I)
  c9 : w.cell? ⟨L.g, 9, none⟩ = some (.bool c.F.Z)
  c10 : w.cell? ⟨L.g, 10, none⟩ = some (.bool c.F.C)
  c11 : w.cell? ⟨L.g, 11, none⟩ = some (.slice (some ⟨L.r, 0, none⟩) b.m.length L.cap)
  c12 : w.cell? ⟨L.g, 12, none⟩ = some v
  fz : ∀ i, w.frozen? ⟨L.g, i, none⟩ = false
  lt : L.g < w.heap.size
theorem HoldM.facts {w : World} {L : Lay} {v : Value} {c : Cpu} {b : Bus} {n : Nat} (h : HoldM w L v c b n) : FactsM w L v c b :=
  ⟨h.cell 0, h.cell 1, h.cell 2, h.cell 3, h.cell 4, h.cell 5, h.cell 6, h.cell 7, h.cell 8, h.cell 9, h.cell 10, h.cell 11, h.cell 12, fun i => h.free i, h.lt⟩
theorem HoldM.of {w : World} {L : Lay} {v : Value} {c : Cpu} {b : Bus} {n k : Nat} (h : Hold w L v 70 (mcells c (.slice (some ⟨L.r, 0, none⟩) k L.cap) v) b n) (e : k = b.m.length) : HoldM w L v c b n := by subst e; exact h
theorem HoldM.below {w w' : World} {L : Lay} {v : Value} {c : Cpu} {b : Bus} {n : Nat} (h : HoldM w L v c b n) (hb : Below w.heap.size w w') : HoldM w' L v c b n := Hold.below h hb
theorem HoldM.size {w : World} {L : Lay} {v : Value} {c : Cpu} {b : Bus} {n : Nat} (h : HoldM w L v c b n) : L.base ≤ w.heap.size := Hold.size h
structure FactsG (w : World) (g : Nat) (x v : Value) (c : Cpu) : Prop where
  c0 : w.cell? ⟨g, 0, none⟩ = some (.int .u8 c.A)
  c1 : w.cell? ⟨g, 1, none⟩ = some (.int .u8 c.X)
  c2 : w.cell? ⟨g, 2, none⟩ = some (.int .u8 c.Y)
  c3 : w.cell? ⟨g, 3, none⟩ = some (.int .u8 c.S)
  c4 : w.cell? ⟨g, 4, none⟩ = some (.int .u16 c.PC)
  c5 : w.cell? ⟨g, 5, none⟩ = some (.bool c.F.N)
  c6 : w.cell? ⟨g, 6, none⟩ = some (.bool c.F.V)
  c7 : w.cell? ⟨g, 7, none⟩ = some (.bool c.F.D)
  c8 : w.cell? ⟨g, 8, none⟩ = some (.bool c.F.I)
  c9 : w.cell? ⟨g, 9, none⟩ = some (.bool c.F.Z)
  c10 : w.cell? ⟨g, 10, none⟩ = some (.bool c.F.C)
  c11 : w.cell? ⟨g, 11, none⟩ = some (x)
  c12 : w.cell? ⟨g, 12, none⟩ = some (v)
  fz : ∀ i, w.frozen? ⟨g, i, none⟩ = false
  lt : g < w.heap.size
theorem HoldM.factsAt {w : World} {base g r cap : Nat} {v : Value} {c : Cpu} {b : Bus} {n : Nat} (h : HoldM w ⟨base, g, r, cap⟩ v c b n) : FactsG w g (.slice (some ⟨r, 0, none⟩) b.m.length cap) v c :=
  have f := h.facts
  ⟨f.c0, f.c1, f.c2, f.c3, f.c4, f.c5, f.c6, f.c7, f.c8, f.c9, f.c10, f.c11, f.c12, f.fz, f.lt⟩
theorem block_ne {a b : Nat} {w : World} (h : a < w.heap.size) (hb : w.heap.size ≤ b) : a ≠ b := by omega
set_option maxRecDepth 20000 in
set_option maxHeartbeats 400000 in
theorem impl_read (a : Int) {w : World} {L : Lay} {v : Value} {c : Cpu} {b : Bus} {n : Nat} (h : HoldM w L v c b n) (hn : n ≤ 1000000) (h0 : 0 ≤ a) (h1 : a < 65536) :
    Calls Try.prog 65 #[.pointer (some ⟨L.g, 0, none⟩), .int .u16 a] w fun e w' => e = .returned (.int .u8 (peek b.m a)) ∧ ∃ v', HoldM w' L v' c (b.rd a) (n + 1) ∧ Mv w w' L v v' := by
  obtain ⟨_, _, _, _, _, _, _, _, _, _, _, e11, e12, hfz, hlt⟩ := h.facts
  have hp := peek_b (Hold.bs h) a
  have HB := hR w; go_enter Try.func65, Try.ntmps65
  go_wp2_with fail
  refine (impl_Peek _ _ _ a _ (Hold.bs h) h0 h1).mono ?_
  rintro _ w1 ⟨rfl, hb⟩
  have H1 := Aside0.mk (Hold.below h hb)
  have hz1 := hb.size
  have e12 := cell_keep hb e12
  have hfz := fun i => (hb.frozen (p := ⟨L.g, i, none⟩) hlt).trans (hfz i)
  have hlt1 : L.g < w1.heap.size := by omega
  have HB := Aside0.mk hb
  have hs1 := H1.out.size
  have ht1 : (b.t.length + 1) * 4 ≤ 140737488355328 := by have := H1.out.tn; omega
  clear hb e11
  go_wp2_with (at_builtin; refine Kd.R_append cycK (w0 := w1) L.base rfl _ _ 35 76 (.agg #[.int .u16 0, .int .u8 0, .bool false]) 4 rfl Try.underlying35 infoCyc rfl (by decide) (by decide) v b.t ⟨a, peek b.m a, false⟩ [.int .u16 a, .int .u8 (peek b.m a), .bool false] (fun _ => True) (fun k => some k ≠ v.ownBlock) rfl rfl ⟨[_], _, rfl, rfl, [_], [_], rfl, rfl, rfl⟩ (fun _ hk => ⟨trivial, hk⟩) (fun _ _ => trivial) H1.out.log (Below.refl _ _) hs1 ht1 ?_; intro v2 w2 ho2 hb2 hg2 hat2; obtain ⟨A2, c2, ev2, _, _⟩ := Kd.R_reads ho2; rw [List.length_append, List.length_singleton] at ev2; subst ev2; have HA := Aside0.mk (H1.out.app ⟨a, peek b.m a, false⟩ ⟨h0, h1, hp.1, hp.2⟩ ho2 hg2 hat2); clear ho2 hb2 hg2 hat2; have hfz2 : w2.frozen? ⟨L.g, 12, none⟩ = false := HA.out.1.free 12; have e12 : w2.cell? ⟨L.g, 12, none⟩ = some v := HA.out.1.cell 12; have hlt2 := HA.out.1.lt)
  go_ret
  exact ⟨rfl, _, Hold.set HA.out.1 12 _, ((Mv.of_below HB.out (Hold.size h) v).trans HA.out.2 hs1).set h.bg 12 _⟩
set_option maxRecDepth 20000 in
set_option maxHeartbeats 400000 in
theorem impl_write (a d : Int) {w : World} {L : Lay} {v : Value} {c : Cpu} {b : Bus} {n : Nat} (h : HoldM w L v c b n) (hn : n ≤ 1000000) (h0 : 0 ≤ a) (h1 : a < 65536) (d0 : 0 ≤ d) (d1 : d < 256) :
    Calls Try.prog 86 #[.pointer (some ⟨L.g, 0, none⟩), .int .u16 a, .int .u8 d] w fun e w' => e = .returned (.tuple #[]) ∧ ∃ v', HoldM w' L v' c (b.wr a d) (n + 1) ∧ Mv w w' L v v' := by
  obtain ⟨_, _, _, _, _, _, _, _, _, _, _, e11, e12, hfz, hlt⟩ := h.facts
  have hs := ramSize_le (Hold.ok h)
  have q0 : 0 ≤ a % b.m.length := Int.emod_nonneg _ (by omega)
  have q1 : a % b.m.length < b.m.length := Int.emod_lt_of_pos _ (by omega)
  obtain ⟨hy, hf⟩ := Kd.R_celln 0 (Hold.mem h) (a % b.m.length) q0 q1
  have hrl := Hold.rlt h
  have hgr := Hold.gr h
  have hrg : ¬ L.r = L.g := fun e => hgr e.symm
  have HB := hR w; go_enter Try.func86, Try.ntmps86
  go_wp2_with fail
  go_region_held3 (fun w' => w'.cell? ⟨L.g, 11, none⟩ = some (.slice (some ⟨L.r, 0, none⟩) b.m.length L.cap)) (first | (go_keep; done) | (go_split_ands; (repeat' apply And.intro) <;> (first | (with_reducible assumption) | (go_simp; done) | (exact cell_keep blw (by assumption)) | exact blw))) (first | (go_at_call 97; ((with_reducible refine (impl_at _ _ _ _ _ h0 h1 (by omega) (by omega)).mono ?_); rintro _ w1 ⟨rfl, hb⟩; have H1 := Aside0.mk (Hold.below (Hold.drew h) hb); have HB := Aside0.mk (below_step (w := w) blw hb); have hz1 := hb.size; obtain ⟨hcl1, hfr1, hlt1, _⟩ := bcell hb; (try simp only [sA, sC, sD] at hz1); (try simp only [sA, sC, sD] at hcl1 hfr1 hlt1); have HB1 := hR w1; clear hb)))
  obtain ⟨HP1, HP2⟩ := Hold.put H1.out (a % b.m.length) d q0 q1 d0 d1
  have HM := Aside0.mk ((Mv.of_below HB.out (Hold.size h) v).trans HP2 (Hold.size H1.out))
  have H1 := Aside0.mk HP1
  have hs1 := HP1.size
  have ht1 : (b.t.length + 1) * 4 ≤ 140737488355328 := by have := HP1.tn; simp only [] at this; omega
  clear e12
  have e12 : (w1.setCell ⟨L.r, (a % (b.m.length : Int)).toNat, none⟩ (.int .u8 d)).cell? ⟨L.g, 12, none⟩ = some v := HP1.cell 12
  have hlt1 := HP1.lt
  clear HP1 HP2 HB HB1 hz1 hcl1 hfr1 hlt1 hy hf e11 hfz hlt hrl
  generalize w1.setCell ⟨L.r, (a % (b.m.length : Int)).toNat, none⟩ (.int .u8 d) = w1 at *
  go_wp2_with (at_builtin; refine Kd.R_append cycK (w0 := w1) L.base rfl _ _ 35 76 (.agg #[.int .u16 0, .int .u8 0, .bool false]) 4 rfl Try.underlying35 infoCyc rfl (by decide) (by decide) v b.t ⟨a, d, true⟩ [.int .u16 a, .int .u8 d, .bool true] (fun _ => True) (fun k => some k ≠ v.ownBlock) rfl rfl ⟨[_], _, rfl, rfl, [_], [_], rfl, rfl, rfl⟩ (fun _ hk => ⟨trivial, hk⟩) (fun _ _ => trivial) H1.out.log (Below.refl _ _) hs1 ht1 ?_; intro v2 w2 ho2 hb2 hg2 hat2; obtain ⟨A2, c2, ev2, _, _⟩ := Kd.R_reads ho2; rw [List.length_append, List.length_singleton] at ev2; subst ev2; have HA := Aside0.mk (H1.out.app ⟨a, d, true⟩ ⟨h0, h1, d0, d1⟩ ho2 hg2 hat2); clear ho2 hb2 hg2 hat2; have hfz2 : w2.frozen? ⟨L.g, 12, none⟩ = false := HA.out.1.free 12; have e12 : w2.cell? ⟨L.g, 12, none⟩ = some v := HA.out.1.cell 12; have hlt2 := HA.out.1.lt)
  go_end0
  exact ⟨rfl, _, HoldM.of (Hold.set HA.out.1 12 _) (by simp [Bus.wr]), (HM.out.trans HA.out.2 hs1).set (Hold.bg h) 12 _⟩
set_option maxRecDepth 20000 in
set_option maxHeartbeats 400000 in
theorem impl_readTwo (x y : Int) {w : World} {L : Lay} {v : Value} {c : Cpu} {b : Bus} {n : Nat} (h : HoldM w L v c b n) (hn : n ≤ 900000) (h0 : 0 ≤ x) (h1 : x < 65536) (h2 : 0 ≤ y) (h3 : y < 65536) :
    Calls Try.prog 68 #[.pointer (some ⟨L.g, 0, none⟩), .int .u16 x, .int .u16 y] w fun e w' => e = .returned (.int .u16 (word2 (peek b.m x) (peek b.m y))) ∧ ∃ v', HoldM w' L v' c ((b.rd x).rd y) (n + 1 + 1) ∧ Mv w w' L v v' := by
  have p0 := peek_b (Hold.bs h) x
  have p1 := peek_b (Hold.bs h) y
  have HB := hR w; go_enter Try.func68, Try.ntmps68
  go_wp2_with fail
  refine (impl_read x h (by omega) h0 h1).mono ?_
  rintro _ w1 ⟨rfl, v1, H1, M1⟩
  go_wp2_with fail
  refine (impl_read y H1 (by omega) h2 h3).mono ?_
  rintro _ w2 ⟨rfl, v2, H2, M2⟩
  have p1 : 0 ≤ peek (b.rd x).m y ∧ peek (b.rd x).m y < 256 := p1
  go_wp2_with (first | (go_at_call 88; ((with_reducible refine (impl_wordOf _ _ _ p0.1 p0.2 p1.1 p1.2).mono ?_); rintro _ _ ⟨rfl, rfl⟩)))
  go_ret
  exact ⟨rfl, v2, H2, M1.trans M2 (Hold.size H1)⟩
theorem impl_stack (s : Int) (w : World) (h0 : 0 ≤ s) (h1 : s < 256) : Calls Try.prog 87 #[.int .u8 s] w fun e w' => e = .returned (.int .u16 (256 + s)) ∧ w = w' := by
  have HB := hR w; go_enter Try.func87, Try.ntmps87
  go_wp2
  go_ret
  exact ⟨rfl, rfl⟩
end Go.Proofs.Ytghmeghbekkanaa
