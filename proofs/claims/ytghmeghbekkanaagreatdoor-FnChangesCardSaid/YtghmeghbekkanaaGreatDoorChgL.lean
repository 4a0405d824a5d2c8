/- Plain laws of a step: it changes no register and no flag but those that it is told to. -/
import Derived.Test.YtghmeghbekkanaaGreatDoorStepL
set_option linter.unusedVariables false
set_option linter.unusedSimpArgs false
namespace Go.Proofs.YtghmeghbekkanaaGreatDoor
open Go.RowKit Go.Proofs.YtghmeghbekkanaaGreatDoorW.PrintWords
def shiftX (x : List UInt8) : Bool := x == [65, 83, 76] || x == [76, 83, 82] || x == [82, 79, 76] || x == [82, 79, 82]
def chgT : List (List UInt8 × List UInt8) :=
  [([76, 68, 65], [65, 78, 90]), ([79, 82, 65], [65, 78, 90]), ([65, 78, 68], [65, 78, 90]), ([69, 79, 82], [65, 78, 90]), ([84, 88, 65], [65, 78, 90]), ([84, 89, 65], [65, 78, 90]),
   ([80, 76, 65], [65, 83, 78, 90]),
   ([76, 68, 88], [88, 78, 90]), ([73, 78, 88], [88, 78, 90]), ([68, 69, 88], [88, 78, 90]), ([84, 65, 88], [88, 78, 90]), ([84, 83, 88], [88, 78, 90]),
   ([76, 68, 89], [89, 78, 90]), ([73, 78, 89], [89, 78, 90]), ([68, 69, 89], [89, 78, 90]), ([84, 65, 89], [89, 78, 90]),
   ([65, 68, 67], [65, 78, 86, 90, 67]), ([83, 66, 67], [65, 78, 86, 90, 67]),
   ([67, 77, 80], [78, 90, 67]), ([67, 80, 88], [78, 90, 67]), ([67, 80, 89], [78, 90, 67]),
   ([66, 73, 84], [78, 86, 90]), ([73, 78, 67], [78, 90]), ([68, 69, 67], [78, 90]),
   ([65, 83, 76], [78, 90, 67]), ([76, 83, 82], [78, 90, 67]), ([82, 79, 76], [78, 90, 67]), ([82, 79, 82], [78, 90, 67]),
   ([84, 88, 83], [83]), ([74, 83, 82], [83]), ([82, 84, 83], [83]), ([80, 72, 65], [83]), ([80, 72, 80], [83]),
   ([66, 82, 75], [83, 73]), ([67, 76, 67], [67]), ([83, 69, 67], [67]), ([67, 76, 73], [73]), ([83, 69, 73], [73]), ([67, 76, 68], [68]), ([83, 69, 68], [68]), ([67, 76, 86], [86]),
   ([80, 76, 80], [83, 78, 86, 68, 73, 90, 67]), ([82, 84, 73], [83, 78, 86, 68, 73, 90, 67])]
/-- The letters of what an operation changes. -/
def chg (x : List UInt8) (m : Int) : List UInt8 := if shiftX x && m == 1 then [65, 78, 90, 67] else (chgT.lookup x).getD []
structure Kp (L : List UInt8) (c d : Cpu) : Prop where
  kA : L.contains 65 = false → d.A = c.A
  kX : L.contains 88 = false → d.X = c.X
  kY : L.contains 89 = false → d.Y = c.Y
  kS : L.contains 83 = false → d.S = c.S
  kN : L.contains 78 = false → d.F.N = c.F.N
  kV : L.contains 86 = false → d.F.V = c.F.V
  kD : L.contains 68 = false → d.F.D = c.F.D
  kI : L.contains 73 = false → d.F.I = c.F.I
  kZ : L.contains 90 = false → d.F.Z = c.F.Z
  kC : L.contains 67 = false → d.F.C = c.F.C
theorem Kp.refl (L : List UInt8) (c : Cpu) : Kp L c c := ⟨fun _ => rfl, fun _ => rfl, fun _ => rfl, fun _ => rfl, fun _ => rfl, fun _ => rfl, fun _ => rfl, fun _ => rfl, fun _ => rfl, fun _ => rfl⟩
theorem Kp.fw {L : List UInt8} {c d : Cpu} (h : Kp L c d) (n : Int) : Kp L c (d.fw n) := ⟨h.kA, h.kX, h.kY, h.kS, h.kN, h.kV, h.kD, h.kI, h.kZ, h.kC⟩
theorem Kp.pc {L : List UInt8} {c d : Cpu} (h : Kp L c d) (n : Int) : Kp L c { d with PC := n } := ⟨h.kA, h.kX, h.kY, h.kS, h.kN, h.kV, h.kD, h.kI, h.kZ, h.kC⟩
theorem adc_DI (a b : Int) (f : F6) : (adc a b f).2.D = f.D ∧ (adc a b f).2.I = f.I := by
  unfold adc
  split <;> exact ⟨rfl, rfl⟩
theorem sbc_DI (a b : Int) (f : F6) : (sbc a b f).2.D = f.D ∧ (sbc a b f).2.I = f.I := by
  unfold sbc
  split
  · exact adc_DI _ _ _
  · rename_i h
    exact ⟨h.symm, (adc_DI a (255 - b) { f with D := false }).2⟩
theorem chg_of (x L : List UInt8) (m : Int) (h : shiftX x = false) (k : (chgT.lookup x).getD [] = L) : chg x m = L := by
  unfold chg
  rw [h, Bool.false_and]
  exact k
theorem Kp.chg {x L : List UInt8} {m : Int} {c d : Cpu} (h : shiftX x = false) (k : (chgT.lookup x).getD [] = L) (g : Kp L c d) : Kp (chg x m) c d := by
  rw [chg_of x L m h k]
  exact g
theorem Kp.shift {x : List UInt8} {m : Int} {c d : Cpu} (h : shiftX x = true) (k : (chgT.lookup x).getD [] = [78, 90, 67]) (g : Kp [78, 90, 67] c d) : Kp (Go.Proofs.YtghmeghbekkanaaGreatDoor.chg x m) c d := by
  unfold Go.Proofs.YtghmeghbekkanaaGreatDoor.chg
  rw [h, Bool.true_and, k]
  split
  · exact ⟨fun _ => g.kA (by decide), g.kX, g.kY, g.kS, g.kN, g.kV, g.kD, g.kI, g.kZ, g.kC⟩
  · exact g
theorem Kp.acc {x : List UInt8} {m : Int} {c d : Cpu} (h : shiftX x = true) (e : m = 1) (g : Kp [65, 78, 90, 67] c d) : Kp (Go.Proofs.YtghmeghbekkanaaGreatDoor.chg x m) c d := by
  subst e
  unfold Go.Proofs.YtghmeghbekkanaaGreatDoor.chg
  rw [h]
  exact g
theorem do_keep (x : List UInt8) (m : Int) (c : Cpu) (v : Int) : Kp (chg x m) c (doT x c v).1 := by
  have hA := adc_DI c.A v c.F
  have hS := sbc_DI c.A v c.F
  refine do_cases c v x (fun x d _ => Kp (chg x m) c d) ?_ ?_ ?_ ?_ ?_ ?_ ?_ ?_ ?_ ?_ ?_ ?_ ?_ ?_ ?_ ?_ ?_ ?_ ?_
  · exact Kp.chg (by decide) rfl (by (constructor <;> intro h <;> first | rfl | (exact absurd h (by decide))))
  · exact Kp.chg (by decide) rfl (by (constructor <;> intro h <;> first | rfl | (exact absurd h (by decide))))
  · exact Kp.chg (by decide) rfl (by (constructor <;> intro h <;> first | rfl | (exact absurd h (by decide))))
  · exact Kp.chg (by decide) rfl (by (constructor <;> intro h <;> first | rfl | (exact absurd h (by decide))))
  · exact Kp.chg (by decide) rfl (by (constructor <;> intro h <;> first | rfl | (exact absurd h (by decide))))
  · exact Kp.chg (by decide) rfl (by (constructor <;> intro h <;> first | rfl | (exact absurd h (by decide))))
  · exact Kp.chg (by decide) rfl (by constructor <;> intro h <;> first | rfl | exact hA.1 | exact hA.2 | (exact absurd h (by decide)))
  · exact Kp.chg (by decide) rfl (by constructor <;> intro h <;> first | rfl | exact hS.1 | exact hS.2 | (exact absurd h (by decide)))
  · exact Kp.chg (by decide) rfl (by (constructor <;> intro h <;> first | rfl | (exact absurd h (by decide))))
  · exact Kp.chg (by decide) rfl (by (constructor <;> intro h <;> first | rfl | (exact absurd h (by decide))))
  · exact Kp.chg (by decide) rfl (by (constructor <;> intro h <;> first | rfl | (exact absurd h (by decide))))
  · exact Kp.chg (by decide) rfl (by (constructor <;> intro h <;> first | rfl | (exact absurd h (by decide))))
  · exact Kp.shift (by decide) rfl (by (constructor <;> intro h <;> first | rfl | (exact absurd h (by decide))))
  · exact Kp.shift (by decide) rfl (by (constructor <;> intro h <;> first | rfl | (exact absurd h (by decide))))
  · exact Kp.shift (by decide) rfl (by (constructor <;> intro h <;> first | rfl | (exact absurd h (by decide))))
  · exact Kp.shift (by decide) rfl (by (constructor <;> intro h <;> first | rfl | (exact absurd h (by decide))))
  · exact Kp.chg (by decide) rfl (by (constructor <;> intro h <;> first | rfl | (exact absurd h (by decide))))
  · exact Kp.chg (by decide) rfl (by (constructor <;> intro h <;> first | rfl | (exact absurd h (by decide))))
  · intros
    exact Kp.refl _ _
theorem imp_keep (x : List UInt8) (m : Int) (c : Cpu) (hx : shiftX x = true → m = 1) : Kp (chg x m) c (impT x c) := by
  refine imp_cases c x (fun x d => (shiftX x = true → m = 1) → Kp (chg x m) c d) ?_ ?_ ?_ ?_ ?_ ?_ ?_ ?_ ?_ ?_ ?_ ?_ ?_ ?_ ?_ ?_ ?_ ?_ ?_ ?_ ?_ ?_ hx
  · exact fun h => Kp.acc (by decide) (h (by decide)) (by (constructor <;> intro h <;> first | rfl | (exact absurd h (by decide))))
  · exact fun h => Kp.acc (by decide) (h (by decide)) (by (constructor <;> intro h <;> first | rfl | (exact absurd h (by decide))))
  · exact fun h => Kp.acc (by decide) (h (by decide)) (by (constructor <;> intro h <;> first | rfl | (exact absurd h (by decide))))
  · exact fun h => Kp.acc (by decide) (h (by decide)) (by (constructor <;> intro h <;> first | rfl | (exact absurd h (by decide))))
  · intro _; exact Kp.chg (by decide) rfl (by (constructor <;> intro h <;> first | rfl | (exact absurd h (by decide))))
  · intro _; exact Kp.chg (by decide) rfl (by (constructor <;> intro h <;> first | rfl | (exact absurd h (by decide))))
  · intro _; exact Kp.chg (by decide) rfl (by (constructor <;> intro h <;> first | rfl | (exact absurd h (by decide))))
  · intro _; exact Kp.chg (by decide) rfl (by (constructor <;> intro h <;> first | rfl | (exact absurd h (by decide))))
  · intro _; exact Kp.chg (by decide) rfl (by (constructor <;> intro h <;> first | rfl | (exact absurd h (by decide))))
  · intro _; exact Kp.chg (by decide) rfl (by (constructor <;> intro h <;> first | rfl | (exact absurd h (by decide))))
  · intro _; exact Kp.chg (by decide) rfl (by (constructor <;> intro h <;> first | rfl | (exact absurd h (by decide))))
  · intro _; exact Kp.chg (by decide) rfl (by (constructor <;> intro h <;> first | rfl | (exact absurd h (by decide))))
  · intro _; exact Kp.chg (by decide) rfl (by (constructor <;> intro h <;> first | rfl | (exact absurd h (by decide))))
  · intro _; exact Kp.chg (by decide) rfl (by (constructor <;> intro h <;> first | rfl | (exact absurd h (by decide))))
  · intro _; exact Kp.chg (by decide) rfl (by (constructor <;> intro h <;> first | rfl | (exact absurd h (by decide))))
  · intro _; exact Kp.chg (by decide) rfl (by (constructor <;> intro h <;> first | rfl | (exact absurd h (by decide))))
  · intro _; exact Kp.chg (by decide) rfl (by (constructor <;> intro h <;> first | rfl | (exact absurd h (by decide))))
  · intro _; exact Kp.chg (by decide) rfl (by (constructor <;> intro h <;> first | rfl | (exact absurd h (by decide))))
  · intro _; exact Kp.chg (by decide) rfl (by (constructor <;> intro h <;> first | rfl | (exact absurd h (by decide))))
  · intro _; exact Kp.chg (by decide) rfl (by (constructor <;> intro h <;> first | rfl | (exact absurd h (by decide))))
  · intro _; exact Kp.chg (by decide) rfl (by (constructor <;> intro h <;> first | rfl | (exact absurd h (by decide))))
  · intros
    exact Kp.refl _ _
/-- What the table of operations tells of their names. -/
def codeNm (x : List UInt8) (k m : Int) : Bool := (!(k == 1 && shiftX x) || m == 1) && (!(k == 7) || x == [74, 83, 82]) && (!(k == 8) || x == [82, 84, 83]) && (!(k == 9) || x == [82, 84, 73]) && (!(k == 10) || x == [66, 82, 75]) && (!(k == 11) || x == [80, 72, 65] || x == [80, 72, 80]) && (!(k == 12) || x == [80, 76, 65] || x == [80, 76, 80])
theorem codes_nm : ∀ c : Nat, c < 256 → codeNm (nmL c) (kindI c) (mdI c) = true := by decide +kernel
theorem stp_keep (k m sz : Int) (x : List UInt8) (c : Cpu) (b : Bus) (h : codeNm x k m = true) : Kp (chg x m) c (stpC k m sz x c b) := by
  unfold codeNm at h
  simp only [Bool.and_eq_true, Bool.or_eq_true, Bool.not_eq_true', beq_iff_eq, Bool.and_eq_false_iff, beq_eq_false_iff_ne] at h
  obtain ⟨⟨⟨⟨⟨⟨h1, h7⟩, h8⟩, h9⟩, h10⟩, h11⟩, h12⟩ := h
  unfold stpC
  split
  · rename_i e
    have e := beq_iff_eq.1 e
    refine (imp_keep x m c (fun hx => ?_)).fw sz
    rcases h1 with (q | q) | q
    · exact absurd e q
    · rw [q] at hx; exact absurd hx (by decide)
    · exact q
  split
  · refine Kp.fw ?_ sz
    unfold opdC
    repeat' split
    · exact do_keep _ _ _ _
    · exact do_keep _ _ _ _
    · exact Kp.refl _ _
    · exact do_keep _ _ _ _
  split
  · rename_i e
    have e := beq_iff_eq.1 e
    refine Kp.fw ?_ sz
    rcases h11 with (q | q) | q
    · exact absurd e q
    · subst q; exact Kp.chg (by decide) rfl (by (constructor <;> intro h <;> first | rfl | (exact absurd h (by decide))))
    · subst q; exact Kp.chg (by decide) rfl (by (constructor <;> intro h <;> first | rfl | (exact absurd h (by decide))))
  split
  · rename_i e
    have e := beq_iff_eq.1 e
    refine Kp.fw ?_ sz
    rcases h12 with (q | q) | q
    · exact absurd e q
    · subst q
      rw [show pulC [80, 76, 65] c b = { ldA c (peek b.m (stk (c.S + 1))) with S := (c.S + 1) % 256 } from rfl]
      exact Kp.chg (by decide) rfl (by (constructor <;> intro h <;> first | rfl | (exact absurd h (by decide))))
    · subst q
      rw [show pulC [80, 76, 80] c b = { c with S := (c.S + 1) % 256, F := unpackP (peek b.m (stk (c.S + 1))) } from rfl]
      exact Kp.chg (by decide) rfl (by (constructor <;> intro h <;> first | rfl | (exact absurd h (by decide))))
  unfold floC
  split
  · exact Kp.pc (Kp.refl _ _) _
  split
  · exact Kp.pc (Kp.refl _ _) _
  split
  · rename_i e
    rcases h7 with q | q
    · exact absurd (beq_iff_eq.1 e) q
    · subst q; exact Kp.chg (by decide) rfl (by (constructor <;> intro h <;> first | rfl | (exact absurd h (by decide))))
  split
  · rename_i e
    rcases h8 with q | q
    · exact absurd (beq_iff_eq.1 e) q
    · subst q; exact Kp.chg (by decide) rfl (by (constructor <;> intro h <;> first | rfl | (exact absurd h (by decide))))
  split
  · rename_i e
    rcases h9 with q | q
    · exact absurd (beq_iff_eq.1 e) q
    · subst q; exact Kp.chg (by decide) rfl (by (constructor <;> intro h <;> first | rfl | (exact absurd h (by decide))))
  split
  · rename_i e
    rcases h10 with q | q
    · exact absurd (beq_iff_eq.1 e) q
    · subst q; exact Kp.chg (by decide) rfl (by (constructor <;> intro h <;> first | rfl | (exact absurd h (by decide))))
  exact Kp.refl _ _
theorem step_keep (c : Cpu) (l : List Int) (hs : ramSize l.length = true) (hj : jams l c.PC = false) (h : ∀ i, 0 ≤ rd l i ∧ rd l i < 256) : Kp (chg (nmL (peek l c.PC)) (mdI (peek l c.PC))) c (step c l).c := by
  have hb := peek_bb h c.PC
  have hq := of_byte (p := fun c => codeNm (nmL c) (kindI c) (mdI c) = true) codes_nm (peek l c.PC) hb.1 hb.2
  unfold step
  rw [if_pos hs, hj]
  exact stp_keep _ _ _ _ c _ hq
end Go.Proofs.YtghmeghbekkanaaGreatDoor
