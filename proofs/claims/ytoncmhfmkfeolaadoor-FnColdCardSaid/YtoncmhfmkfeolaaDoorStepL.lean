/- Plain laws of a step: what is pushed and pulled, a call and its return, an interrupt and its return. -/
import Derived.Test.YtoncmhfmkfeolaaDoorStepR
import Derived.Test.YtoncmhfmkfeolaaDoorGD
set_option linter.unusedVariables false
set_option linter.unusedSimpArgs false
namespace Go.Proofs.YtoncmhfmkfeolaaDoor
open Go.RowKit Go.Proofs.YtoncmhfmkfeolaaDoorW.PrintWords
theorem size_cases {n : Int} (h : ramSize n = true) : n = 256 ∨ n = 512 ∨ n = 1024 ∨ n = 2048 ∨ n = 4096 := by
  simp [ramSize] at h
  omega
theorem peek_set_eq {l : List Int} (hs : ramSize l.length = true) (a x : Int) : peek (l.set (a % l.length).toNat x) a = x := by
  have hp := ramSize_le hs
  unfold peek
  rw [List.length_set, if_pos hs]
  exact rd_set_eq _ _ _ (Int.emod_nonneg _ (by omega)) (Int.emod_lt_of_pos _ (by omega))
theorem peek_set_ne {l : List Int} (hs : ramSize l.length = true) (a b x : Int) (h : a % l.length ≠ b % l.length) : peek (l.set (a % l.length).toNat x) b = peek l b := by
  have hp := ramSize_le hs
  unfold peek
  rw [List.length_set, if_pos hs, if_pos hs]
  exact rd_set_ne _ _ _ _ (Int.emod_nonneg _ (by omega)) (Int.emod_nonneg _ (by omega)) h
theorem step_at (c : Cpu) (l : List Int) (code : Int) (hs : ramSize l.length = true) (hp : peek l c.PC = code) (hn : (nmL code == []) = false) :
    step c l = ⟨stpOf code c (Bus.rd ⟨l, []⟩ c.PC), (stpBus code c (Bus.rd ⟨l, []⟩ c.PC)).m, (stpBus code c (Bus.rd ⟨l, []⟩ c.PC)).t⟩ := by
  unfold step
  rw [if_pos hs, if_neg (by simp only [jams, hs, hp, hn]; simp)]
  unfold stepC stepB
  simp only [hp]
theorem pack_back : ∀ n v d i z c k : Bool, (unpackP (packP ⟨n, v, d, i, z, c⟩ k)).N = n ∧ (unpackP (packP ⟨n, v, d, i, z, c⟩ k)).V = v ∧ (unpackP (packP ⟨n, v, d, i, z, c⟩ k)).D = d ∧ (unpackP (packP ⟨n, v, d, i, z, c⟩ k)).I = i ∧ (unpackP (packP ⟨n, v, d, i, z, c⟩ k)).Z = z ∧ (unpackP (packP ⟨n, v, d, i, z, c⟩ k)).C = c := by decide +kernel
theorem unpack_pack (f : F6) (k : Bool) : unpackP (packP f k) = f := by
  obtain ⟨n, v, d, i, z, c⟩ := f
  obtain ⟨h1, h2, h3, h4, h5, h6⟩ := pack_back n v d i z c k
  generalize unpackP (packP ⟨n, v, d, i, z, c⟩ k) = g at *
  obtain ⟨n', v', d', i', z', c'⟩ := g
  simp only at h1 h2 h3 h4 h5 h6
  subst h1 h2 h3 h4 h5 h6
  rfl
theorem stk_ne {n : Int} (h : ramSize n = true) (s i j : Int) (hi : 0 ≤ i) (hj : i < j) (hk : j ≤ 3) : stk (s - i) % n ≠ stk (s - j) % n := by
  unfold stk
  rcases size_cases h with rfl | rfl | rfl | rfl | rfl <;> omega
theorem k64 : kindI 64 = 9 ∧ mdI 64 = 0 ∧ (nmL 64 == []) = false := by decide +kernel
theorem stp_rti (c : Cpu) (b : Bus) : stpOf 64 c b = rtiC c b := by
  obtain ⟨h1, h2, _⟩ := k64
  unfold stpOf
  rw [h1, h2]
  rfl
theorem cpu_ext {a b : Cpu} (h0 : a.A = b.A) (h1 : a.X = b.X) (h2 : a.Y = b.Y) (h3 : a.S = b.S) (h4 : a.PC = b.PC) (h5 : a.F = b.F) : a = b := by
  obtain ⟨_, _, _, _, _, _⟩ := a
  obtain ⟨_, _, _, _, _, _⟩ := b
  simp only at h0 h1 h2 h3 h4 h5
  subst h0 h1 h2 h3 h4 h5
  rfl
/-- The three bytes that an interrupt pushes are there. -/
theorem push3_mem (c : Cpu) (b : Bus) (pc : Int) (k : Bool) (hs : ramSize b.m.length = true) :
    (push3 c b pc k).m.length = b.m.length ∧ peek (push3 c b pc k).m (stk c.S) = pc / 256 ∧ peek (push3 c b pc k).m (stk (c.S - 1)) = pc % 256 ∧ peek (push3 c b pc k).m (stk (c.S - 2)) = packP c.F k := by
  have n01 := stk_ne hs c.S 0 1 (by omega) (by omega) (by omega)
  have n02 := stk_ne hs c.S 0 2 (by omega) (by omega) (by omega)
  have n12 := stk_ne hs c.S 1 2 (by omega) (by omega) (by omega)
  rw [Int.sub_zero] at n01 n02
  have s1 : ramSize (b.m.set (stk c.S % b.m.length).toNat (pc / 256)).length = true := by rw [List.length_set]; exact hs
  have s2 : ramSize ((b.m.set (stk c.S % b.m.length).toNat (pc / 256)).set (stk (c.S - 1) % b.m.length).toNat (pc % 256)).length = true := by rw [List.length_set]; exact s1
  have e1 := peek_set_eq hs (stk c.S) (pc / 256)
  have e2 := peek_set_eq s1 (stk (c.S - 1)) (pc % 256)
  have e3 := peek_set_eq s2 (stk (c.S - 2)) (packP c.F k)
  have f1 := fun x => peek_set_ne s1 (stk (c.S - 1)) (stk c.S) x (by rw [List.length_set]; exact n01.symm)
  have f2 := fun x => peek_set_ne s2 (stk (c.S - 2)) (stk c.S) x (by rw [List.length_set, List.length_set]; exact n02.symm)
  have f3 := fun x => peek_set_ne s2 (stk (c.S - 2)) (stk (c.S - 1)) x (by rw [List.length_set, List.length_set]; exact n12.symm)
  simp only [List.length_set] at e1 e2 e3 f1 f2 f3
  simp only [push3, Bus.wr, List.length_set]
  refine ⟨trivial, ?_, ?_, e3⟩
  · rw [f2, f1, e1]
  · rw [f3, e2]
/-- An interrupt, with an RTI where it goes to, leaves the processor as it was. -/
theorem serve_rti (c : Cpu) (l : List Int) (nmi : Bool) (hc : c.ok) (hl : ∀ i, 0 ≤ rd l i ∧ rd l i < 256) (hs : ramSize l.length = true)
    (h0 : (serve c l nmi).c.PC % l.length ≠ stk c.S % l.length) (h1 : (serve c l nmi).c.PC % l.length ≠ stk (c.S - 1) % l.length) (h2 : (serve c l nmi).c.PC % l.length ≠ stk (c.S - 2) % l.length) :
    (step (serve c l nmi).c ((serve c l nmi).m.set ((serve c l nmi).c.PC % l.length).toNat 64)).c = c := by
  obtain ⟨m0, m1, m2, m3⟩ := push3_mem c ((Bus.rd ⟨l, []⟩ c.PC).rd c.PC) c.PC false hs
  have em : (serve c l nmi).m = (push3 c ((Bus.rd ⟨l, []⟩ c.PC).rd c.PC) c.PC false).m := by
    unfold serve
    rw [if_pos hs]
    rfl
  rw [← em] at m0 m1 m2 m3
  have ec : (serve c l nmi).c.A = c.A ∧ (serve c l nmi).c.X = c.X ∧ (serve c l nmi).c.Y = c.Y ∧ (serve c l nmi).c.S = (c.S - 3) % 256 := by
    unfold serve
    rw [if_pos hs]
    exact ⟨rfl, rfl, rfl, rfl⟩
  have m0 : (serve c l nmi).m.length = l.length := m0
  clear em
  obtain ⟨e0, e1, e2, e3⟩ := ec
  generalize serve c l nmi = A at *
  obtain ⟨d, s, t⟩ := A
  simp only at *
  obtain ⟨_, _, _, _, _, _, s0, s1, p0, p1⟩ := hc
  rw [← m0] at hs h0 h1 h2 ⊢
  have hp := peek_set_eq hs d.PC 64
  have q0 := peek_set_ne hs d.PC (stk c.S) 64 h0
  have q1 := peek_set_ne hs d.PC (stk (c.S - 1)) 64 h1
  have q2 := peek_set_ne hs d.PC (stk (c.S - 2)) 64 h2
  have hs2 : ramSize (s.set (d.PC % s.length).toNat 64).length = true := by rw [List.length_set]; exact hs
  generalize s.set (d.PC % s.length).toNat 64 = s' at *
  rw [step_at d s' 64 hs2 hp k64.2.2]
  show stpOf 64 d (Bus.rd ⟨s', []⟩ d.PC) = c
  rw [stp_rti]
  have t1 : stk (d.S + 1) = stk (c.S - 2) := by rw [e3]; unfold stk; omega
  have t2 : stk (d.S + 2) = stk (c.S - 1) := by rw [e3]; unfold stk; omega
  have t3 : stk (d.S + 3) = stk c.S := by rw [e3]; unfold stk; omega
  apply cpu_ext
  · exact e0
  · exact e1
  · exact e2
  · show (d.S + 3) % 256 = c.S
    rw [e3]; omega
  · show word2 (peek s' (stk (d.S + 2))) (peek s' (stk (d.S + 3))) = c.PC
    rw [t2, t3, q0, q1, m1, m2]
    unfold word2
    omega
  · show unpackP (peek s' (stk (d.S + 1))) = c.F
    rw [t1, q2, m3, unpack_pack]
theorem fill_1 (L : List Int) (a x : Int) (h : ramSize L.length = true) (a0 : 0 ≤ a) (a1 : a < 65536) : fill L a [x] = L.set (a % L.length).toNat x := by
  unfold fill
  rw [h]
  simp [fillN, rd]
  rw [show a % 65536 = a from by omega]
theorem serve_seven (c : Cpu) (l : List Int) (nmi : Bool) (hs : ramSize l.length = true) : (serve c l nmi).t.length = 7 ∧ (serve c l nmi).m.length = l.length := by
  unfold serve
  rw [if_pos hs]
  simp [serveB, push3, Bus.rd, Bus.wr]
end Go.Proofs.YtoncmhfmkfeolaaDoor
