/- Plain laws of a step: it takes the time that is told. -/
import Derived.Test.YtbffbinipipkkaaGreatDoorStepR
import Derived.Test.YtbffbinipipkkaaGreatDoorXCross
set_option linter.unusedVariables false
set_option linter.unusedSimpArgs false
namespace Go.Proofs.YtbffbinipipkkaaGreatDoor
open Go.RowKit Go.Proofs.YtbffbinipipkkaaGreatDoorW.PrintWords
theorem fix_len (b : Bus) (k base i : Int) (h0 : 0 ≤ base) (h1 : base < 65536) : ((fixB b k base ((base + i) % 65536)).t.length : Int) = b.t.length + (if k == 2 then b2i (!(pageOf (base + i) == pageOf base)) else 1) := by
  have e : (pg base ((base + i) % 65536) == (base + i) % 65536) = (pageOf (base + i) == pageOf base) := by
    rw [Bool.eq_iff_iff, beq_iff_eq, beq_iff_eq]; unfold pg pageOf; omega
  unfold fixB
  rw [e]
  cases hk : (k == 2) <;> cases hp : (pageOf (base + i) == pageOf base) <;> simp [Bus.rd, b2i]
theorem rd_mem (b : Bus) (y : Int) : (b.rd y).m = b.m := rfl
theorem plc_len (c : Cpu) (b : Bus) (m k : Int) (x : List UInt8) (hb : ∀ i, 0 ≤ rd b.m i ∧ rd b.m i < 256) (hk : k = 2 ∨ k = 3 ∨ k = 4) (hm : PM m) :
    ((plc c b m k).2.t.length : Int) = b.t.length + placeT k m (crossM c b.m m x (peek b.m ((c.PC + 1) % 65536)) (peek b.m ((c.PC + 2) % 65536))) - 2 - (if k == 4 then 2 else 0) := by
  have q := fun x y => word2_in (peek_bb hb x) (peek_bb hb y)
  unfold plc plcZ plcE
  rcases hm with rfl | rfl | rfl | rfl | rfl | rfl | rfl | rfl
  · rcases hk with rfl | rfl | rfl <;> simp [placeT, baseT, wideT, Bus.rd] <;> omega
  · rcases hk with rfl | rfl | rfl <;> simp [placeT, baseT, wideT, Bus.rd] <;> omega
  · rcases hk with rfl | rfl | rfl <;> simp [placeT, baseT, wideT, Bus.rd] <;> omega
  · rcases hk with rfl | rfl | rfl <;> simp [placeT, baseT, wideT, Bus.rd] <;> omega
  · show ((fixB _ k _ _).t.length : Int) = _
    simp only [rd_mem]
    rw [fix_len _ _ _ _ (q _ _).1 (q _ _).2]
    rcases hk with rfl | rfl | rfl <;> simp [placeT, baseT, wideT, Bus.rd, crossM] <;> omega
  · show ((fixB _ k _ _).t.length : Int) = _
    simp only [rd_mem]
    rw [fix_len _ _ _ _ (q _ _).1 (q _ _).2]
    rcases hk with rfl | rfl | rfl <;> simp [placeT, baseT, wideT, Bus.rd, crossM] <;> omega
  · rcases hk with rfl | rfl | rfl <;> simp [placeT, baseT, wideT, Bus.rd] <;> omega
  · show ((fixB _ k _ _).t.length : Int) = _
    simp only [rd_mem]
    rw [fix_len _ _ _ _ (q _ _).1 (q _ _).2]
    rcases hk with rfl | rfl | rfl <;> simp [placeT, baseT, wideT, Bus.rd, crossM] <;> omega
theorem opd_len (k m : Int) (x : List UInt8) (c : Cpu) (b : Bus) (hb : ∀ i, 0 ≤ rd b.m i ∧ rd b.m i < 256) (hk : k = 2 ∨ k = 3 ∨ k = 4) (hm : (m = 2 ∧ k = 2) ∨ PM m) :
    ((opdB k m x c b).t.length : Int) + 1 = b.t.length + placeT k m (crossM c b.m m x (peek b.m ((c.PC + 1) % 65536)) (peek b.m ((c.PC + 2) % 65536))) := by
  rcases hm with ⟨rfl, rfl⟩ | hm
  · simp [opdB, lo1, Bus.rd, placeT, baseT, wideT]
    omega
  · have h := plc_len c b m k x hb hk hm
    have hn : (m == 2) = false := by
      unfold PM at hm
      exact beq_eq_false_iff_ne.2 (by omega)
    generalize placeT k m _ = P at *
    unfold opdB
    rw [hn]
    rcases hk with rfl | rfl | rfl <;> simp [Bus.rd, Bus.wr] at h ⊢ <;> omega
theorem bra_len (c : Cpu) (b : Bus) (x : List UInt8) (y n : Int) (hy : y = peek b.m ((c.PC + 1) % 65536)) : ((braB c b x).t.length : Int) = b.t.length + (if holds c.F x then 2 + b2i (crossM c b.m 12 x y n) else 1) := by
  subst hy
  have e : (pg ((c.PC + 2) % 65536) (tgtA c.PC (peek b.m ((c.PC + 1) % 65536))) == tgtA c.PC (peek b.m ((c.PC + 1) % 65536))) = (pageOf ((c.PC + 2) % 65536 + offs (peek b.m ((c.PC + 1) % 65536))) == pageOf ((c.PC + 2) % 65536)) := by
    rw [Bool.eq_iff_iff, beq_iff_eq, beq_iff_eq]; unfold pg pageOf tgtA; omega
  unfold braB
  rw [e]
  show _ = (b.t.length : Int) + (if holds c.F x then 2 + b2i (holds c.F x && !(pageOf ((c.PC + 2) % 65536 + offs (peek b.m ((c.PC + 1) % 65536))) == pageOf ((c.PC + 2) % 65536))) else 1)
  cases holds c.F x <;> cases (pageOf ((c.PC + 2) % 65536 + offs (peek b.m ((c.PC + 1) % 65536))) == pageOf ((c.PC + 2) % 65536)) <;> simp [Bus.rd, b2i]
theorem kind5 : ∀ c : Nat, c < 256 → (kindI c = 5 → mdI c = 12) := by decide +kernel
/-- The time of a step. -/
theorem step_time (c : Cpu) (l : List Int) (hs : ramSize l.length = true) (hj : jams l c.PC = false) (h : ∀ i, 0 ≤ rd l i ∧ rd l i < 256) :
    ((step c l).t.length : Int) = timeI (peek l c.PC) (crossed c l) (kindI (peek l c.PC) == 5 && decide (2 < (step c l).t.length)) := by
  have hn : ¬ nmL (peek l c.PC) = [] := by
    intro hx
    simp [jams, hs, hx] at hj
  have hb := peek_bb h c.PC
  have hq := of_byte (p := fun c => codeOk (nmL c) (kindI c) (mdI c) = true) codes_ok (peek l c.PC) hb.1 hb.2
  have h5 := of_byte (p := fun c => kindI c = 5 → mdI c = 12) kind5 (peek l c.PC) hb.1 hb.2
  obtain ⟨hk, hm, _⟩ := codeOk_said hq hn
  have et : (step c l).t = (stpB (kindI (peek l c.PC)) (mdI (peek l c.PC)) (nmL (peek l c.PC)) c (Bus.rd ⟨l, []⟩ c.PC)).t := by
    unfold step
    rw [if_pos hs, hj]
    rfl
  have eb : (Bus.rd ⟨l, []⟩ c.PC).m = l := rfl
  have el : (Bus.rd ⟨l, []⟩ c.PC).t.length = 1 := rfl
  rw [et]
  unfold timeI crossed
  rw [hs, Bool.true_and]
  generalize kindI (peek l c.PC) = k at *
  generalize mdI (peek l c.PC) = m at *
  generalize nmL (peek l c.PC) = x at *
  generalize Bus.rd ⟨l, []⟩ c.PC = b at *
  have hO : ∀ k, (k = 2 ∨ k = 3 ∨ k = 4) → ((m = 2 ∧ k = 2) ∨ PM m) → ((opdB k m x c b).t.length : Int) = placeT k m (crossM c l m x (peek l ((c.PC + 1) % 65536)) (peek l ((c.PC + 2) % 65536))) := by
    intro k hk hm
    have h1 := opd_len k m x c b (by rw [eb]; exact h) hk hm
    rw [eb, el] at h1
    omega
  have e : k = 1 ∨ k = 2 ∨ k = 3 ∨ k = 4 ∨ k = 5 ∨ k = 6 ∨ k = 7 ∨ k = 8 ∨ k = 9 ∨ k = 10 ∨ k = 11 ∨ k = 12 := by omega
  rcases e with rfl | rfl | rfl | rfl | rfl | rfl | rfl | rfl | rfl | rfl | rfl | rfl
  · simp [stpB, lo1, Bus.rd, el, timeT]
  · exact hO 2 (by omega) (hm (by omega))
  · exact hO 3 (by omega) (hm (by omega))
  · exact hO 4 (by omega) (hm (by omega))
  · have h12 := h5 rfl
    subst h12
    have hB := bra_len c b x (peek l ((c.PC + 1) % 65536)) (peek l ((c.PC + 2) % 65536)) (by rw [eb])
    rw [eb, el] at hB
    show ((braB c b x).t.length : Int) = timeT 5 12 _ (true && decide (2 < (braB c b x).t.length))
    generalize (braB c b x).t.length = n at *
    show (n : Int) = (if (true && decide (2 < n)) then 3 + b2i (crossM c l 12 x (peek l ((c.PC + 1) % 65536)) (peek l ((c.PC + 2) % 65536))) else 2)
    have h0 := b2i_lo (crossM c l 12 x (peek l ((c.PC + 1) % 65536)) (peek l ((c.PC + 2) % 65536)))
    split at hB
    · rw [if_pos (by simp; omega)]; omega
    · rw [if_neg (by simp; omega)]; omega
  · show ((jmpB c b m).t.length : Int) = (if m == 9 then 5 else 3)
    unfold jmpB
    split <;> simp [lo1, Bus.rd, el]
  · show ((jsrB c b).t.length : Int) = 6
    simp [jsrB, jsrW, lo1, Bus.rd, Bus.wr, el]
  · show ((rtsB c b).t.length : Int) = 6
    simp [rtsB, lo1, Bus.rd, Bus.wr, el]
  · show ((rtiB c b).t.length : Int) = 6
    simp [rtiB, lo1, Bus.rd, Bus.wr, el]
  · show ((brkB c b).t.length : Int) = 7
    simp [brkB, push3, lo1, Bus.rd, Bus.wr, el]
  · show ((phB x c b).t.length : Int) = 3
    simp [phB, lo1, Bus.rd, Bus.wr, el]
  · show ((pulB c b).t.length : Int) = 4
    simp [pulB, lo1, Bus.rd, Bus.wr, el]
end Go.Proofs.YtbffbinipipkkaaGreatDoor
