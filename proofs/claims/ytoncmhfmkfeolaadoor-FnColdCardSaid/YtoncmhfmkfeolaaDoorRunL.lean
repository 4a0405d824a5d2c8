/- Plain laws of a run: bounds; a run goes on where a shorter one ended. -/
import Derived.Test.YtoncmhfmkfeolaaDoorRunP
import Derived.Test.YtoncmhfmkfeolaaDoorStepL
import Derived.Test.YtoncmhfmkfeolaaDoorOkC
set_option linter.unusedVariables false
set_option linter.unusedSimpArgs false
namespace Go.Proofs.YtoncmhfmkfeolaaDoor
open Go.RowKit Go.Proofs.YtoncmhfmkfeolaaDoorW.PrintWords
theorem RsOk.go {l : List Int} {r : Rs} {k : Nat} {s : After} (h : RsOk l r k) (cok : s.c.ok) (hm : s.m.length = r.m.length) (mb : ∀ i, 0 ≤ rd s.m i ∧ rd s.m i < 256) (tb : ∀ x ∈ s.t, x.ok) (tn : s.t.length ≤ 8) : RsOk l (r.go s) (k + 1) := by
  refine ⟨cok, hm.trans h.len, mb, ?_, ?_, ?_, ?_, ?_, ?_⟩
  · intro x hx
    rcases List.mem_append.1 hx with hx | hx
    · exact h.tb x hx
    · exact tb x hx
  · have := h.tn
    simp [Rs.go]; omega
  · have := h.sn
    simp [Rs.go]; omega
  · have := h.cn
    simp [Rs.go]; omega
  · intro x hx
    rcases List.mem_append.1 hx with hx | hx
    · exact h.csok x hx
    · rw [List.mem_singleton] at hx
      subst hx
      exact h.cok
  · intro x hx
    rcases List.mem_append.1 hx with hx | hx
    · have := h.sb x hx
      omega
    · rw [List.mem_singleton] at hx
      have := h.tn
      omega
theorem RsOk.up {l : List Int} {r : Rs} {k j : Nat} (h : RsOk l r k) (hk : k ≤ j) : RsOk l r j :=
  ⟨h.cok, h.len, h.mb, h.tb, by have := h.tn; omega, by have := h.sn; omega, h.cn, h.csok, fun x hx => by have := h.sb x hx; omega⟩
theorem unit_ok (E : List Evt) (i : Int) {l : List Int} {r : Rs} {k : Nat} (h : RsOk l r k) (hs : ramSize l.length = true) : RsOk l (unitN E i r) (k + 1) := by
  have hs2 : ramSize r.m.length = true := by rw [h.len]; exact hs
  unfold unitN
  repeat' split
  · exact h.go (serve_okc _ _ _ h.cok h.mb) (serve_seven _ _ _ hs2).2 (serve_mb _ _ _ h.cok h.mb) (serve_xb _ _ _ h.cok h.mb) (by rw [(serve_seven _ _ _ hs2).1]; omega)
  · exact h.go (serve_okc _ _ _ h.cok h.mb) (serve_seven _ _ _ hs2).2 (serve_mb _ _ _ h.cok h.mb) (serve_xb _ _ _ h.cok h.mb) (by rw [(serve_seven _ _ _ hs2).1]; omega)
  · exact ⟨h.cok, h.len, h.mb, h.tb, by have := h.tn; simp only []; omega, by have := h.sn; simp only []; omega, h.cn, h.csok, fun x hx => by have := h.sb x hx; omega⟩
  · exact h.go (step_okc _ _ h.cok h.mb) (step_meq _ _ h.cok hs2) (step_mb _ _ h.cok h.mb) (step_xb _ _ h.cok h.mb) (step_tl _ _ h.cok)
theorem rs0_ok (c : Cpu) (l : List Int) (hc : c.ok) (h : ∀ i, 0 ≤ rd l i ∧ rd l i < 256) : RsOk l (rs0 c l) 0 :=
  ⟨hc, rfl, h, by simp [rs0], by simp [rs0], by simp [rs0], rfl, by simp [rs0], by simp [rs0]⟩
theorem runN_ok (E : List Evt) (c : Cpu) (l : List Int) (hc : c.ok) (h : ∀ i, 0 ≤ rd l i ∧ rd l i < 256) (hs : ramSize l.length = true) (k : Nat) : RsOk l (runN E (rs0 c l) k) k := by
  induction k with
  | zero => exact rs0_ok c l hc h
  | succ k ih =>
    unfold runN
    split
    · exact ih.up (by omega)
    · exact unit_ok E k ih hs
theorem cpu0_ok : cpu0.ok := ⟨by decide, by decide, by decide, by decide, by decide, by decide, by decide, by decide, by decide, by decide⟩
theorem runOk_said {l : List Int} {E : List Evt} {n : Int} (h : runOk l E n = true) : ramSize l.length = true ∧ 0 ≤ n ∧ n ≤ 120 ∧ E.length ≤ 16 := by
  unfold runOk at h
  simp only [Bool.and_eq_true, decide_eq_true_eq] at h
  exact ⟨h.1.1, h.1.2.1, h.1.2.2, h.2⟩
structure RunB (r : Rs) (n : Nat) : Prop where
  cok : r.c.ok
  ml : r.m.length ≤ n
  mb : ∀ i, 0 ≤ rd r.m i ∧ rd r.m i < 256
  tb : ∀ x ∈ r.t, x.ok
  tn : r.t.length ≤ 960
  sn : r.st.length ≤ 120
  cn : r.cs.length = r.st.length
  csok : ∀ x ∈ r.cs, x.ok
  sb : ∀ x ∈ r.st, 0 ≤ x ∧ x ≤ 960
theorem run_b (E : List Evt) (n : Int) (c : Cpu) (l : List Int) (hc : c.ok) (h : ∀ i, 0 ≤ rd l i ∧ rd l i < 256) : RunB (run c l E n) l.length := by
  unfold run
  split
  · rename_i hk
    obtain ⟨hs, n0, n1, _⟩ := runOk_said hk
    have r := runN_ok E c l hc h hs n.toNat
    have hn : n.toNat ≤ 120 := by omega
    exact ⟨r.cok, Nat.le_of_eq r.len, r.mb, r.tb, by have := r.tn; omega, by have := r.sn; omega, r.cn, r.csok, fun x hx => by have := r.sb x hx; omega⟩
  · exact ⟨cpu0_ok, by simp [rs0], fun i => by simp [rs0, rd], by simp [rs0], by simp [rs0], by simp [rs0], rfl, by simp [rs0], by simp [rs0]⟩
/-- A run behind a jam stands. -/
theorem runN_jam (E : List Evt) (r : Rs) (h : r.jam = true) (k : Nat) : runN E r k = r := by
  induction k with
  | zero => rfl
  | succ k ih => rw [runN, ih, if_pos h]
theorem runN_stay (E : List Evt) (r : Rs) (k : Nat) (h : (runN E r k).jam = true) (j : Nat) : runN E r (k + j) = runN E r k := by
  induction j with
  | zero => rfl
  | succ j ih => rw [← Nat.add_assoc, runN, ih, if_pos h]
theorem asked_nil (k : Int) (n : Bool) : asked [] k n = false := rfl
/-- A unit without events. -/
theorem unit_nil (k : Int) (r : Rs) : unitN [] k r = if jams r.m r.c.PC then { r with jam := true } else r.go (step r.c r.m) := by
  unfold unitN
  rw [asked_nil, asked_nil]
  rfl
/-- Two runs that differ in what was ahead. -/
structure Sim (p : List Cyc) (r r' : Rs) : Prop where
  c : r'.c = r.c
  m : r'.m = r.m
  t : r'.t = p ++ r.t
  jam : r'.jam = r.jam
theorem Sim.unit {p : List Cyc} {r r' : Rs} (h : Sim p r r') (i k : Int) (hj : r.jam = false) : Sim p (unitN [] i r) (unitN [] k r') := by
  rw [unit_nil, unit_nil, h.c, h.m]
  split
  · exact ⟨rfl, rfl, h.t, rfl⟩
  · exact ⟨rfl, rfl, by simp only [Rs.go, h.t, List.append_assoc], rfl⟩
theorem Sim.runN {p : List Cyc} {r r' : Rs} {k : Nat} {r0 : Rs} (h : Sim p r r') (e : r' = runN [] r0 k) (j : Nat) : Sim p (runN [] r j) (runN [] r0 (k + j)) := by
  induction j with
  | zero => rw [Nat.add_zero, ← e]; exact h
  | succ j ih =>
    rw [← Nat.add_assoc, Go.Proofs.YtoncmhfmkfeolaaDoor.runN, Go.Proofs.YtoncmhfmkfeolaaDoor.runN, ih.jam]
    split
    · exact ih
    · rename_i hj
      exact ih.unit _ _ (by simpa using hj)
/-- A jam is one of the memory and the processor behind it. -/
theorem runN_jams (E : List Evt) (c : Cpu) (l : List Int) (k : Nat) (h : (runN E (rs0 c l) k).jam = true) : jams (runN E (rs0 c l) k).m (runN E (rs0 c l) k).c.PC = true := by
  induction k with
  | zero => exact absurd h (by simp [runN, rs0])
  | succ k ih =>
    rw [runN] at h ⊢
    split at h
    · rename_i hj
      rw [if_pos hj]
      exact ih hj
    · rename_i hj
      rw [if_neg hj]
      generalize runN E (rs0 c l) k = r at *
      unfold unitN at h ⊢
      split at h
      · exact absurd h (by simp [Rs.go])
      · rename_i h1
        rw [if_neg h1]
        split at h
        · exact absurd h (by simp [Rs.go])
        · rename_i h2
          rw [if_neg h2]
          split at h
          · rename_i h3
            rw [if_pos h3]
            exact h3
          · exact absurd h (by simp [Rs.go])
theorem run_nil (c : Cpu) (l : List Int) (n : Nat) (hs : ramSize l.length = true) (hn : n ≤ 120) : run c l [] n = runN [] (rs0 c l) n := by
  unfold run runOk
  rw [hs, if_pos (by simp; omega)]
  rfl
/-- A run goes on where a shorter one ended. -/
theorem run_on (c : Cpu) (l : List Int) (k j : Nat) (hc : c.ok) (h : ∀ i, 0 ≤ rd l i ∧ rd l i < 256) (hs : ramSize l.length = true) (hk : k + j ≤ 120) (hj : 1 ≤ j) :
    Sim (run c l [] k).t (run (run c l [] k).c (run c l [] k).m [] j) (run c l [] (k + j : Nat)) := by
  have ok := runN_ok [] c l hc h hs k
  rw [run_nil c l k hs (by omega), run_nil c l (k + j) hs (by omega), run_nil _ _ j (by rw [ok.len]; exact hs) (by omega)]
  by_cases hj2 : (runN [] (rs0 c l) k).jam = true
  · rw [runN_stay [] _ k hj2 j]
    have hjm := runN_jams [] c l k hj2
    generalize runN [] (rs0 c l) k = r at *
    obtain ⟨i, rfl⟩ : ∃ i, j = i + 1 := ⟨j - 1, by omega⟩
    have e : runN [] (rs0 r.c r.m) (i + 1) = { rs0 r.c r.m with jam := true } := by
      rw [Nat.add_comm]
      have e1 : runN [] (rs0 r.c r.m) 1 = { rs0 r.c r.m with jam := true } := by
        show (if (rs0 r.c r.m).jam then rs0 r.c r.m else unitN [] 0 (rs0 r.c r.m)) = _
        rw [if_neg (by simp [rs0]), unit_nil, if_pos (show jams (rs0 r.c r.m).m (rs0 r.c r.m).c.PC = true from hjm)]
      rw [runN_stay [] _ 1 (by rw [e1]) i, e1]
    rw [e]
    exact ⟨rfl, rfl, by simp [rs0], hj2⟩
  · refine Sim.runN (p := (runN [] (rs0 c l) k).t) (r := rs0 (runN [] (rs0 c l) k).c (runN [] (rs0 c l) k).m) (r' := runN [] (rs0 c l) k) ⟨rfl, rfl, by simp [rs0], ?_⟩ rfl j
    simpa [rs0] using hj2
end Go.Proofs.YtoncmhfmkfeolaaDoor
