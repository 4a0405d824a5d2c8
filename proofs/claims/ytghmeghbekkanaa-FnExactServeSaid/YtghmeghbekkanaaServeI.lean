/- The program's Serve: an interrupt of a processor and a memory that are handed in. -/
import Derived.Test.YtghmeghbekkanaaMachI2
import Derived.Test.YtghmeghbekkanaaFill
set_option linter.unusedVariables false
set_option linter.unusedSimpArgs false
namespace Go.Proofs.Ytghmeghbekkanaa
open Go.RowKit Go.Proofs.YtghmeghbekkanaaW.PrintWords
def cpu0 : Cpu := ⟨0, 0, 0, 0, 0, ⟨false, false, false, false, false, false⟩⟩
structure After where
  c : Cpu
  m : List Int
  t : List Cyc
def serve (c : Cpu) (m : List Int) (nmi : Bool) : After := if ramSize m.length then ⟨serveC c ⟨m, []⟩ nmi, (serveB c ⟨m, []⟩ nmi).m, (serveB c ⟨m, []⟩ nmi).t⟩ else ⟨cpu0, [], []⟩
theorem alloc_blk (w : World) (o : Obj) : (w.alloc o).heap[w.heap.size]? = some o := by
  show (w.heap.push o)[w.heap.size]? = _
  simp
theorem HoldM.begin (w : World) (base r cap : Nat) (c : Cpu) (m : List Int) (h : OwnB w base (.slice (some ⟨r, 0, none⟩) m.length cap) m) (hb : base ≤ w.heap.size) (hs : ramSize m.length = true) (hm : ∀ i, 0 ≤ rd m i ∧ rd m i < 256) :
    HoldM (w.alloc (.cells #[.int .u8 c.A, .int .u8 c.X, .int .u8 c.Y, .int .u8 c.S, .int .u16 c.PC, .bool c.F.N, .bool c.F.V, .bool c.F.D, .bool c.F.I, .bool c.F.Z, .bool c.F.C, .slice (some ⟨r, 0, none⟩) m.length cap, .slice none 0 0] 70)) ⟨base, w.heap.size, r, cap⟩ (.slice none 0 0) c ⟨m, []⟩ 0 :=
  ⟨alloc_blk _ _, h.alloc _, Kd.R_nil _ _ _ _ _, hb, by have := Kd.R_lt h r rfl; simp only []; omega, by simp [Value.ownBlock], by simp [Value.ownBlock], hs, hm, fun k => by simp [cd, Cyc.ok], Nat.le_refl _⟩
set_option maxRecDepth 20000 in
set_option maxHeartbeats 1000000 in
theorem impl_Serve (c : Cpu) (A : Option Addr) (d : Nat) (l : List Int) (nmi : Bool) (w : World) (hc : c.ok) (h : Bs w A l) :
    Calls Try.prog 9 #[.agg #[.int .u8 c.A, .int .u8 c.X, .int .u8 c.Y, .int .u8 c.S, .int .u16 c.PC, .bool c.F.N, .bool c.F.V, .bool c.F.D, .bool c.F.I, .bool c.F.Z, .bool c.F.C], .agg #[.slice A l.length d], .bool nmi] w fun e w' => ∃ A1 c1 B1 d1, e = .returned (.tuple #[.agg #[.int .u8 (serve c l nmi).c.A, .int .u8 (serve c l nmi).c.X, .int .u8 (serve c l nmi).c.Y, .int .u8 (serve c l nmi).c.S, .int .u16 (serve c l nmi).c.PC, .bool (serve c l nmi).c.F.N, .bool (serve c l nmi).c.F.V, .bool (serve c l nmi).c.F.D, .bool (serve c l nmi).c.F.I, .bool (serve c l nmi).c.F.Z, .bool (serve c l nmi).c.F.C], .agg #[.slice A1 (serve c l nmi).m.length c1], .slice B1 (serve c l nmi).t.length d1]) ∧
      OwnB w' w.heap.size (.slice A1 (serve c l nmi).m.length c1) (serve c l nmi).m ∧ OwnC w' w.heap.size (.slice B1 (serve c l nmi).t.length d1) (serve c l nmi).t ∧ Below w.heap.size w w' := by
  obtain ⟨q, hq⟩ : ∃ q, ramSize l.length = q := ⟨_, rfl⟩
  cases q
  · have e : serve c l nmi = ⟨cpu0, [], []⟩ := by simp [serve, hq]
    rw [e]
    have HB := hR w; go_enter Try.func9, Try.ntmps9
    go_wp2_with fail
    refine (impl_RamOk _ _ _ _).mono ?_
    rintro _ w1 ⟨rfl, hb⟩
    (have HB := Aside0.mk (below_step (w := w) blw hb); have hz1 := hb.size; obtain ⟨hcl1, hfr1, hlt1, _⟩ := bcell hb; (try simp only [sA, sC, sD] at hz1); (try simp only [sA, sC, sD] at hcl1 hfr1 hlt1); have hk1_0 : w.heap.size < w1.heap.size := (by omega); have hk1_1 : w.heap.size + 1 < w1.heap.size := (by omega); have hk1_2 : w.heap.size + 1 + 1 < w1.heap.size := (by omega); have hk1_3 : w.heap.size + 1 + 1 + 1 < w1.heap.size := (by omega); have HB1 := hR w1; clear hb)
    go_wp2_with fail
    (refine bodyPost_ret (v := .tuple #[.agg #[.int .u8 cpu0.A, .int .u8 cpu0.X, .int .u8 cpu0.Y, .int .u8 cpu0.S, .int .u16 cpu0.PC, .bool cpu0.F.N, .bool cpu0.F.V, .bool cpu0.F.D, .bool cpu0.F.I, .bool cpu0.F.Z, .bool cpu0.F.C], .agg #[.slice none 0 0], .slice none 0 0]) (by (simp only [results, Try.results9]; go_simp <;> (simp [cpu0]))) rfl ?_)
    exact ⟨none, 0, none, 0, rfl, Kd.R_nil _ _ _ _ _, Kd.R_nil _ _ _ _ _, blw⟩
  · have hs := ramSize_le hq
    have e : serve c l nmi = ⟨serveC c ⟨l, []⟩ nmi, (serveB c ⟨l, []⟩ nmi).m, (serveB c ⟨l, []⟩ nmi).t⟩ := by simp [serve, hq]
    obtain ⟨C, hC⟩ : ∃ x, serveC c ⟨l, []⟩ nmi = x := ⟨_, rfl⟩
    obtain ⟨D, hD⟩ : ∃ x, serveB c ⟨l, []⟩ nmi = x := ⟨_, rfl⟩
    rw [e, hC, hD]
    have HC := Aside0.mk hC
    have HD := Aside0.mk hD
    clear hC hD e
    have HB := hR w; go_enter Try.func9, Try.ntmps9
    go_wp2_with fail
    refine (impl_RamOk _ _ _ _).mono ?_
    rintro _ w1 ⟨rfl, hb⟩
    (have HB := Aside0.mk (below_step (w := w) blw hb); have hz1 := hb.size; obtain ⟨hcl1, hfr1, hlt1, _⟩ := bcell hb; (try simp only [sA, sC, sD] at hz1); (try simp only [sA, sC, sD] at hcl1 hfr1 hlt1); have hk1_0 : w.heap.size < w1.heap.size := (by omega); have hk1_1 : w.heap.size + 1 < w1.heap.size := (by omega); have hk1_2 : w.heap.size + 1 + 1 < w1.heap.size := (by omega); have hk1_3 : w.heap.size + 1 + 1 + 1 < w1.heap.size := (by omega); have HB1 := hR w1; clear hb)
    go_wp2_with fail
    go_region_held3 (fun w' => Below w.heap.size w w' ∧ w'.cell? ⟨w.heap.size + 1, 0, none⟩ = some (.slice A l.length d) ∧ w'.cell? ⟨w.heap.size, 0, none⟩ = some (.int .u8 c.A) ∧ w'.cell? ⟨w.heap.size, 1, none⟩ = some (.int .u8 c.X) ∧ w'.cell? ⟨w.heap.size, 2, none⟩ = some (.int .u8 c.Y) ∧ w'.cell? ⟨w.heap.size, 3, none⟩ = some (.int .u8 c.S) ∧ w'.cell? ⟨w.heap.size, 4, none⟩ = some (.int .u16 c.PC) ∧ w'.cell? ⟨w.heap.size, 5, none⟩ = some (.bool c.F.N) ∧ w'.cell? ⟨w.heap.size, 6, none⟩ = some (.bool c.F.V) ∧ w'.cell? ⟨w.heap.size, 7, none⟩ = some (.bool c.F.D) ∧ w'.cell? ⟨w.heap.size, 8, none⟩ = some (.bool c.F.I) ∧ w'.cell? ⟨w.heap.size, 9, none⟩ = some (.bool c.F.Z) ∧ w'.cell? ⟨w.heap.size, 10, none⟩ = some (.bool c.F.C)) (first | (go_keep; done) | (go_split_ands; (repeat' apply And.intro) <;> (first | (with_reducible assumption) | (go_simp; done) | (exact cell_keep blw (by assumption)) | exact blw))) (first | (go_at_call 35; ((with_reducible refine (impl_cloned _ _ _ _ (h.below (blw)) (by omega)).mono ?_); rintro _ w2 ⟨A1, c1, rfl, HO, hb⟩; have HO := Aside0.mk HO; have HB := Aside0.mk (below_step (w := w) blw hb); have HB1 := Aside0.mk (below_step (w := w1) blw hb); have hz2 := hb.size; obtain ⟨hcl2, hfr2, hlt2, _⟩ := bcell hb; (try simp only [sA, sC, sD] at hz2); (try simp only [sA, sC, sD] at hcl2 hfr2 hlt2); have hk2_0 : w.heap.size < w2.heap.size := (by omega); have hk2_1 : w.heap.size + 1 < w2.heap.size := (by omega); have hk2_2 : w.heap.size + 1 + 1 < w2.heap.size := (by omega); have hk2_3 : w.heap.size + 1 + 1 + 1 < w2.heap.size := (by omega); have HB2 := hR w2; clear hb)))
    obtain ⟨r, cap, eo, gb, gl, cl, HCl⟩ := Kd.R_form HO.out (by omega)
    injection eo with ea en ec
    subst ea ec
    clear HCl en
    have HM := Aside0.mk (HoldM.begin w2 _ r c1 c l HO.out hz2 hq h.b)
    simp only [World.size_drew] at HM
    go_wp2_with fail
    refine (impl_serve nmi HM.out (by omega) hc).mono ?_
    rintro _ w5 ⟨rfl, v5, H5, M5⟩
    rw [HC.out, HD.out] at H5
    have hb : Below w1.heap.size w1 w5 := Below.trans (blw) M5.below
    (have HB := Aside0.mk (below_step (w := w) blw hb); have HB1 := Aside0.mk (below_step (w := w1) blw hb); have hz5 := hb.size; obtain ⟨hcl5, hfr5, hlt5, _⟩ := bcell hb; (try simp only [sA, sC, sD] at hz5); (try simp only [sA, sC, sD] at hcl5 hfr5 hlt5); have hk5_0 : w.heap.size < w5.heap.size := (by omega); have hk5_1 : w.heap.size + 1 < w5.heap.size := (by omega); have hk5_2 : w.heap.size + 1 + 1 < w5.heap.size := (by omega); have hk5_3 : w.heap.size + 1 + 1 + 1 < w5.heap.size := (by omega); have HB5 := hR w5; clear hb)
    obtain ⟨B1, d1, ev, _, _⟩ := Kd.R_reads (Hold.log H5)
    subst ev
    have HT := Aside0.mk (Hold.log H5)
    have HO5 := Aside0.mk (Hold.mem H5)
    obtain ⟨e0, e1, e2, e3, e4, e5, e6, e7, e8, e9, e10, e11, e12, hfz, hlt⟩ := H5.factsAt
    clear H5 M5 HM
    go_wp2_with fail
    go_region
    go_wp2_with fail
    (refine bodyPost_ret (v := .tuple #[.agg #[.int .u8 C.A, .int .u8 C.X, .int .u8 C.Y, .int .u8 C.S, .int .u16 C.PC, .bool C.F.N, .bool C.F.V, .bool C.F.D, .bool C.F.I, .bool C.F.Z, .bool C.F.C], .agg #[.slice (some ⟨r, 0, none⟩) D.m.length c1], .slice B1 D.t.length d1]) (by (simp only [results, Try.results9]; go_simp <;> (rfl))) rfl ?_)
    exact ⟨_, _, _, _, rfl, (by (apply OwnB.lower; (repeat (first | (with_reducible exact HO5.out) | (with_reducible apply OwnB.alloc) | (with_reducible apply OwnB.drew) | (with_reducible apply OwnB.drewN) | (with_reducible apply OwnB.set))); all_goals (first | omega | (simp; done) | (simp; omega)))), (by (apply OwnC.lower; (repeat (first | (with_reducible exact HT.out) | (with_reducible apply OwnC.alloc) | (with_reducible apply OwnC.drew) | (with_reducible apply OwnC.drewN) | (with_reducible apply OwnC.set))); all_goals (first | omega | (simp; done) | (simp; omega)))), blw⟩
end Go.Proofs.Ytghmeghbekkanaa
