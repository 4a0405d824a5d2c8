/- A run as plain functions: units one behind the other; the cycles that were make no difference. -/
import Derived.Test.YtoncmhfmkfeolaaDoorStepR
import Derived.Test.YtoncmhfmkfeolaaDoorShot
set_option linter.unusedVariables false
set_option linter.unusedSimpArgs false
namespace Go.Proofs.YtoncmhfmkfeolaaDoor
open Go.RowKit Go.Proofs.YtoncmhfmkfeolaaDoorW.PrintWords
/-- A bus with cycles ahead of its own. -/
def Bus.sh (p : List Cyc) (b : Bus) : Bus := ⟨b.m, p ++ b.t⟩
section
variable (p : List Cyc) (b : Bus) (c : Cpu)
theorem sh_m : (b.sh p).m = b.m := rfl
theorem sh_rd (a : Int) : (b.sh p).rd a = (b.rd a).sh p := by simp [Bus.sh, Bus.rd]
theorem sh_wr (a d : Int) : (b.sh p).wr a d = (b.wr a d).sh p := by simp [Bus.sh, Bus.wr]
theorem fixB_sh (k base e : Int) : fixB (b.sh p) k base e = (fixB b k base e).sh p := by
  unfold fixB
  split
  · rfl
  · exact sh_rd p b _
theorem plcE_sh (k base i : Int) : plcE k base i (b.sh p) = ((plcE k base i b).1, (plcE k base i b).2.sh p) := by
  unfold plcE
  rw [fixB_sh]
theorem plcZ_sh (m k z : Int) : plcZ c (b.sh p) m k z = ((plcZ c b m k z).1, (plcZ c b m k z).2.sh p) := by
  unfold plcZ
  simp only [sh_m, sh_rd, plcE_sh]
  repeat' split
  all_goals rfl
theorem plc_sh (m k : Int) : plc c (b.sh p) m k = ((plc c b m k).1, (plc c b m k).2.sh p) := by
  unfold plc
  rw [sh_rd, sh_m, plcZ_sh]
theorem lo1_sh : lo1 c (b.sh p) = (lo1 c b).sh p := sh_rd p b _
theorem opdB_sh (k m : Int) (x : List UInt8) : opdB k m x c (b.sh p) = (opdB k m x c b).sh p := by
  unfold opdB
  simp only [plc_sh, lo1_sh, sh_m, sh_rd, sh_wr]
  repeat' split
  all_goals rfl
theorem opdC_sh (k m : Int) (x : List UInt8) : opdC k m x c (b.sh p) = opdC k m x c b := by
  unfold opdC
  simp only [plc_sh, sh_m]
theorem push3_sh (pc : Int) (k : Bool) : push3 c (b.sh p) pc k = (push3 c b pc k).sh p := by
  unfold push3
  simp only [sh_wr]
theorem jsrW_sh : jsrW c (b.sh p) = (jsrW c b).sh p := by
  unfold jsrW
  simp only [lo1_sh, sh_rd, sh_wr]
theorem floB_sh (k m : Int) (x : List UInt8) : floB k m x c (b.sh p) = (floB k m x c b).sh p := by
  unfold floB braB jmpB jsrB rtsB rtsA rtiB brkB
  simp only [lo1_sh, push3_sh, jsrW_sh, sh_m, sh_rd, sh_wr]
  repeat' split
  all_goals rfl
theorem floC_sh (k m : Int) (x : List UInt8) : floC k m x c (b.sh p) = floC k m x c b := by
  unfold floC braC jmpC jsrC rtsC rtsA rtiC brkC Cpu.to
  simp only [lo1_sh, push3_sh, jsrW_sh, sh_m]
theorem stpB_sh (k m : Int) (x : List UInt8) : stpB k m x c (b.sh p) = (stpB k m x c b).sh p := by
  unfold stpB phB pulB
  simp only [lo1_sh, opdB_sh, floB_sh, sh_rd, sh_wr]
  repeat' split
  all_goals rfl
theorem stpC_sh (k m sz : Int) (x : List UInt8) : stpC k m sz x c (b.sh p) = stpC k m sz x c b := by
  unfold stpC pulC
  simp only [opdC_sh, floC_sh, sh_m]
theorem stepB_sh : stepB c (b.sh p) = (stepB c b).sh p := by
  unfold stepB stpBus
  rw [sh_rd, sh_m, stpB_sh]
theorem stepC_sh : stepC c (b.sh p) = stepC c b := by
  unfold stepC stpOf
  rw [sh_rd, sh_m, stpC_sh]
theorem serveB_sh (nmi : Bool) : serveB c (b.sh p) nmi = (serveB c b nmi).sh p := by
  unfold serveB
  simp only [sh_rd, push3_sh]
theorem serveC_sh (nmi : Bool) : serveC c (b.sh p) nmi = serveC c b nmi := by
  unfold serveC Cpu.to
  simp only [sh_rd, push3_sh, sh_m]
end
theorem bus_sh (m : List Int) (t : List Cyc) : (⟨m, t⟩ : Bus) = (⟨m, []⟩ : Bus).sh t := by simp [Bus.sh]
theorem step_bus (c : Cpu) (m : List Int) (t : List Cyc) (hs : ramSize m.length = true) (hj : jams m c.PC = false) : stepC c ⟨m, t⟩ = (step c m).c ∧ stepB c ⟨m, t⟩ = ⟨(step c m).m, t ++ (step c m).t⟩ := by
  have e : step c m = ⟨stepC c ⟨m, []⟩, (stepB c ⟨m, []⟩).m, (stepB c ⟨m, []⟩).t⟩ := by simp [step, hs, hj]
  rw [bus_sh, stepC_sh, stepB_sh, e]
  exact ⟨rfl, rfl⟩
theorem serve_bus (c : Cpu) (m : List Int) (t : List Cyc) (nmi : Bool) (hs : ramSize m.length = true) : serveC c ⟨m, t⟩ nmi = (serve c m nmi).c ∧ serveB c ⟨m, t⟩ nmi = ⟨(serve c m nmi).m, t ++ (serve c m nmi).t⟩ := by
  have e : serve c m nmi = ⟨serveC c ⟨m, []⟩ nmi, (serveB c ⟨m, []⟩ nmi).m, (serveB c ⟨m, []⟩ nmi).t⟩ := by simp [serve, hs]
  rw [bus_sh, serveC_sh, serveB_sh, e]
  exact ⟨rfl, rfl⟩
/-- A run up to a unit. -/
structure Rs where
  c : Cpu
  m : List Int
  t : List Cyc
  st : List Int
  cs : List Cpu
  jam : Bool
def Rs.go (r : Rs) (s : After) : Rs := ⟨s.c, s.m, r.t ++ s.t, r.st ++ [(r.t.length : Int)], r.cs ++ [r.c], false⟩
def unitN (E : List Evt) (k : Int) (r : Rs) : Rs :=
  if asked E k true then r.go (serve r.c r.m true)
  else if asked E k false && !r.c.F.I then r.go (serve r.c r.m false)
  else if jams r.m r.c.PC then { r with jam := true }
  else r.go (step r.c r.m)
def runN (E : List Evt) (r : Rs) : Nat → Rs
  | 0 => r
  | k + 1 => if (runN E r k).jam then runN E r k else unitN E k (runN E r k)
def rs0 (c : Cpu) (m : List Int) : Rs := ⟨c, m, [], [], [], false⟩
def runOk (l : List Int) (E : List Evt) (n : Int) : Bool := ramSize l.length && (decide (0 ≤ n) && decide (n ≤ 120)) && decide (E.length ≤ 16)
def run (c : Cpu) (l : List Int) (E : List Evt) (n : Int) : Rs := if runOk l E n then runN E (rs0 c l) n.toNat else rs0 cpu0 []
/-- A run that is right, behind at most k units. -/
structure RsOk (l : List Int) (r : Rs) (k : Nat) : Prop where
  cok : r.c.ok
  len : r.m.length = l.length
  mb : ∀ i, 0 ≤ rd r.m i ∧ rd r.m i < 256
  tb : ∀ x ∈ r.t, x.ok
  tn : r.t.length ≤ 8 * k
  sn : r.st.length ≤ k
  cn : r.cs.length = r.st.length
  csok : ∀ x ∈ r.cs, x.ok
  sb : ∀ x ∈ r.st, 0 ≤ x ∧ x ≤ 8 * k
end Go.Proofs.YtoncmhfmkfeolaaDoor
