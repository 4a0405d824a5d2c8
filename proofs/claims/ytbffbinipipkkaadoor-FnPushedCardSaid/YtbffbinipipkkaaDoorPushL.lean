/- Plain laws of steps: what is pushed and pulled; a call and its return. -/
import Derived.Test.YtbffbinipipkkaaDoorStepL
set_option linter.unusedVariables false
set_option linter.unusedSimpArgs false
namespace Go.Proofs.YtbffbinipipkkaaDoor
open Go.RowKit Go.Proofs.YtbffbinipipkkaaDoorW.PrintWords
theorem big_cases {n : Nat} (h : ramSize n = true) (hb : 1024 ≤ n) : (n : Int) = 1024 ∨ (n : Int) = 2048 ∨ (n : Int) = 4096 := by
  have := size_cases h
  omega
theorem mod_ne {n : Nat} (hs : ramSize n = true) (hb : 1024 ≤ n) {a b : Int} (h0 : 0 ≤ a) (h1 : a < 1024) (h2 : 0 ≤ b) (h3 : b < 1024) (h : a ≠ b) : a % (n : Int) ≠ b % (n : Int) := by
  rcases big_cases hs hb with e | e | e <;> rw [e] <;> omega
theorem k72 : kindI 72 = 11 ∧ mdI 72 = 0 ∧ nmL 72 = [80, 72, 65] := by decide +kernel
theorem k104 : kindI 104 = 12 ∧ mdI 104 = 0 ∧ nmL 104 = [80, 76, 65] := by decide +kernel
theorem k8 : kindI 8 = 11 ∧ mdI 8 = 0 ∧ nmL 8 = [80, 72, 80] := by decide +kernel
theorem k40 : kindI 40 = 12 ∧ mdI 40 = 0 ∧ nmL 40 = [80, 76, 80] := by decide +kernel
theorem k32 : kindI 32 = 7 ∧ mdI 32 = 6 ∧ nmL 32 = [74, 83, 82] := by decide +kernel
theorem k96 : kindI 96 = 8 ∧ mdI 96 = 0 ∧ nmL 96 = [82, 84, 83] := by decide +kernel
theorem stp_pha (c : Cpu) (b : Bus) : stpOf 72 c b = (phC c).fw 1 ∧ stpBus 72 c b = (lo1 c b).wr (stk c.S) c.A := by
  obtain ⟨h1, h2, h3⟩ := k72
  unfold stpOf stpBus
  rw [h1, h2, h3]
  exact ⟨rfl, rfl⟩
theorem stp_pla (c : Cpu) (b : Bus) : stpOf 104 c b = ({ ldA c (peek b.m (stk (c.S + 1))) with S := (c.S + 1) % 256 } : Cpu).fw 1 := by
  obtain ⟨h1, h2, h3⟩ := k104
  unfold stpOf
  rw [h1, h2, h3]
  rfl
theorem stp_php (c : Cpu) (b : Bus) : stpOf 8 c b = (phC c).fw 1 ∧ stpBus 8 c b = (lo1 c b).wr (stk c.S) (packP c.F true) := by
  obtain ⟨h1, h2, h3⟩ := k8
  unfold stpOf stpBus
  rw [h1, h2, h3]
  exact ⟨rfl, rfl⟩
theorem stp_plp (c : Cpu) (b : Bus) : stpOf 40 c b = ({ c with S := (c.S + 1) % 256, F := unpackP (peek b.m (stk (c.S + 1))) } : Cpu).fw 1 := by
  obtain ⟨h1, h2, h3⟩ := k40
  unfold stpOf
  rw [h1, h2, h3]
  rfl
theorem stp_jsr (c : Cpu) (b : Bus) : stpOf 32 c b = jsrC c b ∧ stpBus 32 c b = jsrB c b := by
  obtain ⟨h1, h2, h3⟩ := k32
  unfold stpOf stpBus
  rw [h1, h2, h3]
  exact ⟨rfl, rfl⟩
theorem stp_rts (c : Cpu) (b : Bus) : stpOf 96 c b = rtsC c b ∧ stpBus 96 c b = rtsB c b := by
  obtain ⟨h1, h2, h3⟩ := k96
  unfold stpOf stpBus
  rw [h1, h2, h3]
  exact ⟨rfl, rfl⟩
/-- Two bytes at 700. -/
theorem fill_two (l : List Int) (x y : Int) (hs : ramSize l.length = true) (hb : 1024 ≤ l.length) : (fill l 700 [x, y]).length = l.length ∧ peek (fill l 700 [x, y]) 700 = x ∧ peek (fill l 700 [x, y]) 701 = y := by
  have e : fill l 700 [x, y] = (l.set ((700 : Int) % l.length).toNat x).set ((701 : Int) % l.length).toNat y := by
    unfold fill
    rw [hs]
    simp [fillN, rd]
  have s1 : ramSize (l.set ((700 : Int) % l.length).toNat x).length = true := by rw [List.length_set]; exact hs
  have e1 := peek_set_eq hs 700 x
  have e2 := peek_set_eq s1 701 y
  have f1 := peek_set_ne s1 701 700 y (by rw [List.length_set]; exact mod_ne hs hb (by omega) (by omega) (by omega) (by omega) (by omega))
  simp only [List.length_set] at e2 f1
  rw [e]
  exact ⟨by simp, f1.trans e1, e2⟩
theorem stk_inn (s : Int) : 256 ≤ stk s ∧ stk s < 512 := by unfold stk; omega
/-- A byte is pushed and pulled again. -/
theorem push_pull (c : Cpu) (l : List Int) (hs : ramSize l.length = true) (hb : 1024 ≤ l.length) (hc : c.ok) (hp : c.PC = 700) :
    (step c (fill l 700 [72, 104])).c = { c with S := (c.S - 1) % 256, PC := 701 } ∧ (step (step c (fill l 700 [72, 104])).c (step c (fill l 700 [72, 104])).m).c = { c with PC := 702, F := nz c.A c.F } := by
  obtain ⟨_, _, _, _, _, _, s0, s1, _, _⟩ := hc
  obtain ⟨g0, g1, g2⟩ := fill_two l 72 104 hs hb
  generalize fill l 700 [72, 104] = r at *
  rw [← g0] at hs hb
  have e1 := step_at c r 72 hs (by rw [hp]; exact g1) (by rw [k72.2.2]; rfl)
  rw [(stp_pha c _).1, (stp_pha c _).2] at e1
  have ec : (step c r).c = { c with S := (c.S - 1) % 256, PC := 701 } := by
    rw [e1]
    apply cpu_ext <;> simp [phC, Cpu.fw, hp]
  have em : (step c r).m = r.set (stk c.S % r.length).toNat c.A := by rw [e1]; rfl
  refine ⟨ec, ?_⟩
  rw [ec, em]
  have hst := stk_inn c.S
  have hbc := big_cases hs hb
  have h2 := (peek_set_ne hs (stk c.S) 701 c.A (mod_ne hs hb (by omega) (by omega) (by omega) (by omega) (by omega))).trans g2
  have h3 := peek_set_eq hs (stk c.S) c.A
  have s2 : ramSize (r.set (stk c.S % r.length).toNat c.A).length = true := by rw [List.length_set]; exact hs
  generalize r.set (stk c.S % r.length).toNat c.A = r2 at *
  rw [step_at _ r2 104 s2 h2 (by rw [k104.2.2]; rfl)]
  simp only []
  rw [stp_pla]
  have hk : stk ((c.S - 1) % 256 + 1) = stk c.S := by unfold stk; omega
  simp only [Bus.rd]
  rw [hk, h3]
  apply cpu_ext <;> simp [ldA, Cpu.fw]
  omega
/-- The flags are pushed and pulled again. -/
theorem push_flags (c : Cpu) (l : List Int) (hs : ramSize l.length = true) (hb : 1024 ≤ l.length) (hc : c.ok) (hp : c.PC = 700) :
    (step c (fill l 700 [8, 40])).c = { c with S := (c.S - 1) % 256, PC := 701 } ∧ (step (step c (fill l 700 [8, 40])).c (step c (fill l 700 [8, 40])).m).c = { c with PC := 702 } := by
  obtain ⟨_, _, _, _, _, _, s0, s1, _, _⟩ := hc
  obtain ⟨g0, g1, g2⟩ := fill_two l 8 40 hs hb
  generalize fill l 700 [8, 40] = r at *
  rw [← g0] at hs hb
  have e1 := step_at c r 8 hs (by rw [hp]; exact g1) (by rw [k8.2.2]; rfl)
  rw [(stp_php c _).1, (stp_php c _).2] at e1
  have ec : (step c r).c = { c with S := (c.S - 1) % 256, PC := 701 } := by
    rw [e1]
    apply cpu_ext <;> simp [phC, Cpu.fw, hp]
  have em : (step c r).m = r.set (stk c.S % r.length).toNat (packP c.F true) := by rw [e1]; rfl
  refine ⟨ec, ?_⟩
  rw [ec, em]
  have hst := stk_inn c.S
  have hbc := big_cases hs hb
  have h2 := (peek_set_ne hs (stk c.S) 701 (packP c.F true) (mod_ne hs hb (by omega) (by omega) (by omega) (by omega) (by omega))).trans g2
  have h3 := peek_set_eq hs (stk c.S) (packP c.F true)
  have s2 : ramSize (r.set (stk c.S % r.length).toNat (packP c.F true)).length = true := by rw [List.length_set]; exact hs
  generalize r.set (stk c.S % r.length).toNat (packP c.F true) = r2 at *
  rw [step_at _ r2 40 s2 h2 (by rw [k40.2.2]; rfl)]
  simp only []
  rw [stp_plp]
  have hk : stk ((c.S - 1) % 256 + 1) = stk c.S := by unfold stk; omega
  simp only [Bus.rd]
  rw [hk, h3, unpack_pack]
  apply cpu_ext <;> simp [Cpu.fw]
  omega
theorem fill_call (l : List Int) (y z : Int) (tt : Int) (hs : ramSize l.length = true) (hb : 1024 ≤ l.length) (t0 : 900 ≤ tt) (t1 : tt < 1000) :
    (fill (fill l 700 [32, y, z]) tt [96]).length = l.length ∧ peek (fill (fill l 700 [32, y, z]) tt [96]) 700 = 32 ∧ peek (fill (fill l 700 [32, y, z]) tt [96]) 701 = y ∧ peek (fill (fill l 700 [32, y, z]) tt [96]) 702 = z ∧ peek (fill (fill l 700 [32, y, z]) tt [96]) tt = 96 := by
  have e : fill l 700 [32, y, z] = ((l.set ((700 : Int) % l.length).toNat 32).set ((701 : Int) % l.length).toNat y).set ((702 : Int) % l.length).toNat z := by
    unfold fill
    rw [hs]
    simp [fillN, rd]
  have hbc := big_cases hs hb
  have s1 : ramSize (l.set ((700 : Int) % l.length).toNat 32).length = true := by rw [List.length_set]; exact hs
  have s2 : ramSize ((l.set ((700 : Int) % l.length).toNat 32).set ((701 : Int) % l.length).toNat y).length = true := by rw [List.length_set]; exact s1
  have s3 : ramSize (fill l 700 [32, y, z]).length = true := by rw [e, List.length_set]; exact s2
  have hL : (fill l 700 [32, y, z]).length = l.length := by rw [e]; simp
  have e0 := peek_set_eq hs 700 32
  have e1 := peek_set_eq s1 701 y
  have e2 := peek_set_eq s2 702 z
  have f0 := peek_set_ne s1 701 700 y (by rw [List.length_set]; exact mod_ne hs hb (by omega) (by omega) (by omega) (by omega) (by omega))
  have f1 := peek_set_ne s2 702 700 z (by rw [List.length_set, List.length_set]; exact mod_ne hs hb (by omega) (by omega) (by omega) (by omega) (by omega))
  have f2 := peek_set_ne s2 702 701 z (by rw [List.length_set, List.length_set]; exact mod_ne hs hb (by omega) (by omega) (by omega) (by omega) (by omega))
  simp only [List.length_set] at e1 e2 f0 f1 f2
  rw [← e] at e2 f1 f2
  have p0 := f1.trans (f0.trans e0)
  have p1 := f2.trans e1
  generalize fill l 700 [32, y, z] = r at *
  have e4 : fill r tt [96] = r.set (tt % r.length).toNat 96 := by
    unfold fill
    rw [s3]
    simp [fillN, rd]
    rw [show tt % 65536 = tt from by omega]
  have q := peek_set_eq s3 tt 96
  have q0 := peek_set_ne s3 tt 700 96 (by rw [hL]; exact mod_ne hs hb (by omega) (by omega) (by omega) (by omega) (by omega))
  have q1 := peek_set_ne s3 tt 701 96 (by rw [hL]; exact mod_ne hs hb (by omega) (by omega) (by omega) (by omega) (by omega))
  have q2 := peek_set_ne s3 tt 702 96 (by rw [hL]; exact mod_ne hs hb (by omega) (by omega) (by omega) (by omega) (by omega))
  rw [e4]
  exact ⟨by simp [hL], q0.trans p0, q1.trans p1, q2.trans e2, q⟩
/-- A JSR, with an RTS where it goes to. -/
theorem call_back (c : Cpu) (l : List Int) (tt : Int) (hs : ramSize l.length = true) (hb : 1024 ≤ l.length) (hc : c.ok) (hp : c.PC = 700) (t0 : 900 ≤ tt) (t1 : tt < 1000) (r : List Int) (hr : r = fill (fill l 700 [32, tt % 256, tt / 256]) tt [96]) :
    (step c r).c = { c with S := (c.S - 2) % 256, PC := tt } ∧ (step (step c r).c (step c r).m).c = { c with PC := 703 } ∧ (step (step c r).c (step c r).m).t.length = 6 := by
  obtain ⟨_, _, _, _, _, _, s0, s1, _, _⟩ := hc
  obtain ⟨g0, g1, g2, g3, g4⟩ := fill_call l (tt % 256) (tt / 256) tt hs hb t0 t1
  rw [← hr] at g0 g1 g2 g3 g4
  clear hr
  rw [← g0] at hs hb
  have hbc := big_cases hs hb
  have e1 := step_at c r 32 hs (by rw [hp]; exact g1) (by rw [k32.2.2]; rfl)
  rw [(stp_jsr c _).1, (stp_jsr c _).2] at e1
  have hst := stk_inn c.S
  have hst1 := stk_inn (c.S - 1)
  have n01 := stk_ne hs c.S 0 1 (by omega) (by omega) (by omega)
  rw [Int.sub_zero] at n01
  have em : (step c r).m = (r.set (stk c.S % r.length).toNat 2).set (stk (c.S - 1) % r.length).toNat 190 := by
    rw [e1]
    simp [jsrB, jsrW, Bus.rd, Bus.wr, lo1, hp]
  have z1 : ramSize (r.set (stk c.S % r.length).toNat 2).length = true := by rw [List.length_set]; exact hs
  have a1 := peek_set_eq hs (stk c.S) 2
  have a2 := peek_set_eq z1 (stk (c.S - 1)) 190
  have a3 := peek_set_ne z1 (stk (c.S - 1)) (stk c.S) 190 (by rw [List.length_set]; exact n01.symm)
  have b1 := fun a (h : stk c.S % r.length ≠ a % r.length) => peek_set_ne hs (stk c.S) a 2 h
  have b2 := fun a (h : stk (c.S - 1) % r.length ≠ a % r.length) => peek_set_ne z1 (stk (c.S - 1)) a 190 (by rw [List.length_set]; exact h)
  simp only [List.length_set] at a2 a3 b2
  have c2 := (b2 702 (mod_ne hs hb (by omega) (by omega) (by omega) (by omega) (by omega))).trans ((b1 702 (mod_ne hs hb (by omega) (by omega) (by omega) (by omega) (by omega))).trans g3)
  have ct := (b2 tt (mod_ne hs hb (by omega) (by omega) (by omega) (by omega) (by omega))).trans ((b1 tt (mod_ne hs hb (by omega) (by omega) (by omega) (by omega) (by omega))).trans g4)
  have cs := a3.trans a1
  have s2 : ramSize ((r.set (stk c.S % r.length).toNat 2).set (stk (c.S - 1) % r.length).toNat 190).length = true := by rw [List.length_set]; exact z1
  have ec : (step c r).c = { c with S := (c.S - 2) % 256, PC := tt } := by
    have hw : (jsrW c (Bus.rd ⟨r, []⟩ c.PC)).m = (r.set (stk c.S % r.length).toNat 2).set (stk (c.S - 1) % r.length).toNat 190 := by
      simp [jsrW, Bus.rd, Bus.wr, lo1, hp]
    rw [e1]
    simp only [jsrC, hw]
    apply cpu_ext <;> simp [Bus.rd, hp, g2, c2, word2]
    omega
  refine ⟨ec, ?_⟩
  rw [ec, em]
  generalize (r.set (stk c.S % r.length).toNat 2).set (stk (c.S - 1) % r.length).toNat 190 = r2 at *
  rw [step_at _ r2 96 s2 ct (by rw [k96.2.2]; rfl)]
  simp only []
  rw [(stp_rts _ _).1, (stp_rts _ _).2]
  have hk1 : stk ((c.S - 2) % 256 + 1) = stk (c.S - 1) := by unfold stk; omega
  have hk2 : stk ((c.S - 2) % 256 + 2) = stk c.S := by unfold stk; omega
  refine ⟨?_, by simp [rtsB, lo1, Bus.rd]⟩
  simp only [rtsC, rtsA, Bus.rd, hk1, hk2, a2, cs]
  apply cpu_ext <;> simp [word2]
  omega
end Go.Proofs.YtbffbinipipkkaaDoor
