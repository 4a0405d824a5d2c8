/- Plain laws of a step: what its cycles write is the memory behind it, what they read was there. -/
import Derived.Test.YtoncmhfmkfeolaaDoorGI
set_option linter.unusedVariables false
set_option linter.unusedSimpArgs false
namespace Go.Proofs.YtoncmhfmkfeolaaDoor
open Go.RowKit Go.Proofs.YtoncmhfmkfeolaaDoorW.PrintWords
/-- A bus behind reads and writes. -/
inductive BRun (a : Bus) : Bus → Prop
  | refl : BRun a a
  | rd {b : Bus} (h : BRun a b) (x : Int) : BRun a (b.rd x)
  | wr {b : Bus} (h : BRun a b) (x d : Int) : BRun a (b.wr x d)
theorem BRun.trans {a b c : Bus} (h : BRun a b) (k : BRun b c) : BRun a c := by
  induction k with
  | refl => exact h
  | rd _ x ih => exact ih.rd x
  | wr _ x d ih => exact ih.wr x d
theorem BRun.fix {a b : Bus} (h : BRun a b) (k base e : Int) : BRun a (fixB b k base e) := by
  unfold fixB
  split
  · exact h
  · exact h.rd _
theorem plc_run (c : Cpu) (b : Bus) (m k : Int) : BRun b (plc c b m k).2 := by
  unfold plc plcZ plcE
  repeat' split
  all_goals (repeat (first | (with_reducible exact BRun.refl) | (with_reducible assumption) | (with_reducible apply BRun.rd) | (with_reducible apply BRun.wr) | (with_reducible apply BRun.fix)))
theorem opd_run (k m : Int) (x : List UInt8) (c : Cpu) (b : Bus) : BRun b (opdB k m x c b) := by
  have h := plc_run c b m k
  unfold opdB lo1
  repeat' split
  all_goals (repeat (first | (with_reducible exact BRun.refl) | (with_reducible assumption) | (with_reducible apply BRun.rd) | (with_reducible apply BRun.wr) | (with_reducible apply BRun.fix)))
theorem stp_run (k m : Int) (x : List UInt8) (c : Cpu) (b : Bus) : BRun b (stpB k m x c b) := by
  have h := opd_run k m x c b
  unfold stpB floB braB jmpB jsrB jsrW rtsB rtiB brkB push3 phB pulB lo1
  repeat' split
  all_goals (repeat (first | (with_reducible exact BRun.refl) | (with_reducible assumption) | (with_reducible apply BRun.rd) | (with_reducible apply BRun.wr) | (with_reducible apply BRun.fix)))
theorem stepB_run (c : Cpu) (b : Bus) : BRun b (stepB c b) := (BRun.refl.rd _).trans (stp_run _ _ _ _ _)
theorem serveB_run (c : Cpu) (b : Bus) (nmi : Bool) : BRun b (serveB c b nmi) := by
  unfold serveB push3
  (repeat (first | (with_reducible exact BRun.refl) | (with_reducible assumption) | (with_reducible apply BRun.rd) | (with_reducible apply BRun.wr) | (with_reducible apply BRun.fix)))
theorem cd_old {t : List Cyc} (x : Cyc) {k : Nat} (h : k < t.length) : cd (t ++ [x]) k = cd t k := by
  unfold cd
  rw [List.getD_eq_getElem?_getD, List.getD_eq_getElem?_getD, List.getElem?_append_left h]
theorem cd_new (t : List Cyc) (x : Cyc) : cd (t ++ [x]) t.length = x := by
  unfold cd
  rw [List.getD_eq_getElem?_getD, List.getElem?_append_right (Nat.le_refl _), Nat.sub_self]
  rfl
theorem applyN_old (t : List Cyc) (x : Cyc) (l : List Int) (k : Nat) (h : k ≤ t.length) : applyN (t ++ [x]) l k = applyN t l k := by
  induction k with
  | zero => rfl
  | succ k ih => rw [applyN, applyN, ih (by omega), cd_old x (by omega)]
/-- What is read was there. -/
def seen (l : List Int) (t : List Cyc) (k : Nat) : Prop := rd (applyN t l (k + 1)) ((cd t k).a % l.length) = (cd t k).d
structure Told (l : List Int) (b : Bus) : Prop where
  len : b.m.length = l.length
  mem : applyN b.t l b.t.length = b.m
  see : ∀ k, k < b.t.length → seen l b.t k
theorem seen_old {l : List Int} {t : List Cyc} (x : Cyc) {k : Nat} (hk : k < t.length) (h : seen l t k) : seen l (t ++ [x]) k := by
  unfold seen at *
  rw [applyN_old t x l (k + 1) (by omega), cd_old x hk]
  exact h
theorem rd_set_eq (l : List Int) (i : Int) (x : Int) (h0 : 0 ≤ i) (h1 : i < l.length) : rd (l.set i.toNat x) i = x := by
  unfold rd
  rw [List.getD_eq_getElem?_getD, List.getElem?_set_self (by omega)]
  rfl
theorem rd_set_ne (l : List Int) (i j : Int) (x : Int) (h0 : 0 ≤ i) (h1 : 0 ≤ j) (h : i ≠ j) : rd (l.set i.toNat x) j = rd l j := by
  unfold rd
  rw [List.getD_eq_getElem?_getD, List.getElem?_set_ne (by omega), ← List.getD_eq_getElem?_getD]
theorem Told.go {l : List Int} {b : Bus} (h : Told l b) (x : Cyc) (m : List Int) (hm : applyN (b.t ++ [x]) l (b.t.length + 1) = m) (hl : m.length = l.length) (hs : rd m (x.a % l.length) = x.d) : Told l ⟨m, b.t ++ [x]⟩ := by
  refine ⟨hl, ?_, fun k hk => ?_⟩
  · simp only [List.length_append, List.length_singleton]
    exact hm
  · simp only [List.length_append, List.length_singleton] at hk
    rcases Nat.lt_or_ge k b.t.length with q | q
    · exact seen_old x q (h.see k q)
    · have e : k = b.t.length := by omega
      subst e
      unfold seen
      simp only []
      rw [hm, cd_new]
      exact hs
theorem Told.rd {l : List Int} (hs : ramSize l.length = true) {b : Bus} (h : Told l b) (x : Int) : Told l (b.rd x) := by
  refine h.go _ b.m ?_ h.len ?_
  · rw [applyN_off _ _ _ (by rw [cd_new]), applyN_old _ _ _ _ (Nat.le_refl _), h.mem]
  · simp only []
    unfold peek
    rw [h.len, if_pos hs]
theorem Told.wr {l : List Int} (hs : ramSize l.length = true) {b : Bus} (h : Told l b) (x d : Int) : Told l (b.wr x d) := by
  have hp := ramSize_le hs
  have h0 := Int.emod_nonneg x (show (l.length : Int) ≠ 0 by omega)
  have h1 := Int.emod_lt_of_pos x (show (0 : Int) < l.length by omega)
  refine h.go _ _ ?_ (by rw [List.length_set]; exact h.len) ?_
  · rw [applyN_on _ _ _ (by rw [cd_new]), applyN_old _ _ _ _ (Nat.le_refl _), h.mem, cd_new, h.len]
  · simp only []
    rw [h.len]
    exact rd_set_eq _ _ _ h0 (by rw [h.len]; exact h1)
theorem Told.run {l : List Int} (hs : ramSize l.length = true) {a b : Bus} (h : Told l a) (r : BRun a b) : Told l b := by
  induction r with
  | refl => exact h
  | rd _ x ih => exact Told.rd hs ih x
  | wr _ x d ih => exact Told.wr hs ih x d
theorem Told.begin (l : List Int) : Told l ⟨l, []⟩ := ⟨rfl, rfl, fun k hk => absurd hk (by simp)⟩
theorem step_told (c : Cpu) (l : List Int) (hs : ramSize l.length = true) : Told l ⟨(step c l).m, (step c l).t⟩ := by
  unfold step
  rw [if_pos hs]
  split
  · exact Told.begin l
  · exact Told.run hs (Told.begin l) (stepB_run c ⟨l, []⟩)
theorem serve_told (c : Cpu) (l : List Int) (nmi : Bool) (hs : ramSize l.length = true) : Told l ⟨(serve c l nmi).m, (serve c l nmi).t⟩ := by
  unfold serve
  rw [if_pos hs]
  exact Told.run hs (Told.begin l) (serveB_run c ⟨l, []⟩ nmi)
/-- A bus whose cycles begin with x. -/
theorem run_head {a b : Bus} (h : BRun a b) (k : Nat) (hk : k < a.t.length) : cd b.t k = cd a.t k ∧ a.t.length ≤ b.t.length := by
  induction h with
  | refl => exact ⟨rfl, Nat.le_refl _⟩
  | rd _ x ih => exact ⟨(cd_old _ (by omega)).trans ih.1, by simp [Bus.rd]; omega⟩
  | wr _ x d ih => exact ⟨(cd_old _ (by omega)).trans ih.1, by simp [Bus.wr]; omega⟩
theorem lo1_run {c : Cpu} {b d : Bus} (h : BRun (lo1 c b) d) : b.t.length + 1 ≤ d.t.length := by
  have := (run_head h b.t.length (by simp [lo1, Bus.rd])).2
  simpa [lo1, Bus.rd] using this
/-- An operation has a second cycle. -/
theorem stp_two (k m : Int) (x : List UInt8) (c : Cpu) (b : Bus) (hk : 1 ≤ k ∧ k ≤ 12) : BRun (lo1 c b) (stpB k m x c b) := by
  have h : BRun (lo1 c b) (plc c b m k).2 := by
    unfold plc plcZ plcE lo1
    repeat' split
    all_goals (repeat (first | (with_reducible exact BRun.refl) | (with_reducible assumption) | (with_reducible apply BRun.rd) | (with_reducible apply BRun.wr) | (with_reducible apply BRun.fix)))
  have hb : BRun (lo1 c b) (opdB k m x c b) := by
    unfold opdB
    repeat' split
    all_goals (repeat (first | (with_reducible exact BRun.refl) | (with_reducible assumption) | (with_reducible apply BRun.rd) | (with_reducible apply BRun.wr) | (with_reducible apply BRun.fix)))
  have e : k = 1 ∨ k = 2 ∨ k = 3 ∨ k = 4 ∨ k = 5 ∨ k = 6 ∨ k = 7 ∨ k = 8 ∨ k = 9 ∨ k = 10 ∨ k = 11 ∨ k = 12 := by omega
  rcases e with rfl | rfl | rfl | rfl | rfl | rfl | rfl | rfl | rfl | rfl | rfl | rfl
  · exact BRun.refl
  · exact hb
  · exact hb
  · exact hb
  · show BRun (lo1 c b) (braB c b x)
    unfold braB lo1
    repeat' split
    all_goals (repeat (first | (with_reducible exact BRun.refl) | (with_reducible assumption) | (with_reducible apply BRun.rd) | (with_reducible apply BRun.wr) | (with_reducible apply BRun.fix)))
  · show BRun (lo1 c b) (jmpB c b m)
    unfold jmpB
    repeat' split
    all_goals (repeat (first | (with_reducible exact BRun.refl) | (with_reducible assumption) | (with_reducible apply BRun.rd) | (with_reducible apply BRun.wr) | (with_reducible apply BRun.fix)))
  · show BRun (lo1 c b) (jsrB c b)
    unfold jsrB jsrW
    (repeat (first | (with_reducible exact BRun.refl) | (with_reducible assumption) | (with_reducible apply BRun.rd) | (with_reducible apply BRun.wr) | (with_reducible apply BRun.fix)))
  · show BRun (lo1 c b) (rtsB c b)
    unfold rtsB
    (repeat (first | (with_reducible exact BRun.refl) | (with_reducible assumption) | (with_reducible apply BRun.rd) | (with_reducible apply BRun.wr) | (with_reducible apply BRun.fix)))
  · show BRun (lo1 c b) (rtiB c b)
    unfold rtiB
    (repeat (first | (with_reducible exact BRun.refl) | (with_reducible assumption) | (with_reducible apply BRun.rd) | (with_reducible apply BRun.wr) | (with_reducible apply BRun.fix)))
  · show BRun (lo1 c b) (brkB c b)
    unfold brkB push3
    (repeat (first | (with_reducible exact BRun.refl) | (with_reducible assumption) | (with_reducible apply BRun.rd) | (with_reducible apply BRun.wr) | (with_reducible apply BRun.fix)))
  · show BRun (lo1 c b) (phB x c b)
    unfold phB
    (repeat (first | (with_reducible exact BRun.refl) | (with_reducible assumption) | (with_reducible apply BRun.rd) | (with_reducible apply BRun.wr) | (with_reducible apply BRun.fix)))
  · show BRun (lo1 c b) (pulB c b)
    unfold pulB
    (repeat (first | (with_reducible exact BRun.refl) | (with_reducible assumption) | (with_reducible apply BRun.rd) | (with_reducible apply BRun.wr) | (with_reducible apply BRun.fix)))
/-- A step that does not jam has two cycles at least, and the first reads at PC. -/
theorem step_first (c : Cpu) (l : List Int) (hs : ramSize l.length = true) (hj : jams l c.PC = false) (h0 : 0 ≤ c.PC) (h : ∀ i, 0 ≤ rd l i ∧ rd l i < 256) : 2 ≤ (step c l).t.length ∧ cd (step c l).t 0 = ⟨c.PC, peek l c.PC, false⟩ := by
  have hn : ¬ nmL (peek l c.PC) = [] := by
    intro hx
    simp [jams, hs, hx] at hj
  have hb := peek_bb h c.PC
  have hq := of_byte (p := fun c => codeOk (nmL c) (kindI c) (mdI c) = true) codes_ok (peek l c.PC) hb.1 hb.2
  obtain ⟨hk, _⟩ := codeOk_said hq hn
  have hr : BRun (lo1 c (Bus.rd ⟨l, []⟩ c.PC)) (stepB c ⟨l, []⟩) := stp_two _ _ _ _ _ hk
  unfold step
  rw [if_pos hs, hj]
  have h1 := run_head hr 0 (by simp [lo1, Bus.rd])
  refine ⟨?_, h1.1.trans ?_⟩
  · have := h1.2
    simpa [lo1, Bus.rd] using this
  · rfl
end Go.Proofs.YtoncmhfmkfeolaaDoor
