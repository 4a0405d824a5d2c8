/- Plain laws of a step: the processor behind it is right. -/
import Derived.Test.YtoncmhfmkfeolaaDoorGI
set_option linter.unusedVariables false
set_option linter.unusedSimpArgs false
namespace Go.Proofs.YtoncmhfmkfeolaaDoor
open Go.RowKit Go.Proofs.YtoncmhfmkfeolaaDoorW.PrintWords
section
variable {c : Cpu} (h : c.ok)
include h
theorem ok_ldA {v : Int} (hv : 0 ≤ v ∧ v < 256) : (ldA c v).ok := by
  obtain ⟨a0, a1, x0, x1, y0, y1, s0, s1, p0, p1⟩ := h
  exact ⟨hv.1, hv.2, x0, x1, y0, y1, s0, s1, p0, p1⟩
theorem ok_ldX {v : Int} (hv : 0 ≤ v ∧ v < 256) : (ldX c v).ok := by
  obtain ⟨a0, a1, x0, x1, y0, y1, s0, s1, p0, p1⟩ := h
  exact ⟨a0, a1, hv.1, hv.2, y0, y1, s0, s1, p0, p1⟩
theorem ok_ldY {v : Int} (hv : 0 ≤ v ∧ v < 256) : (ldY c v).ok := by
  obtain ⟨a0, a1, x0, x1, y0, y1, s0, s1, p0, p1⟩ := h
  exact ⟨a0, a1, x0, x1, hv.1, hv.2, s0, s1, p0, p1⟩
theorem ok_stA {r : Int × F6} (hv : 0 ≤ r.1 ∧ r.1 < 256) : (stA c r).ok := by
  obtain ⟨a0, a1, x0, x1, y0, y1, s0, s1, p0, p1⟩ := h
  exact ⟨hv.1, hv.2, x0, x1, y0, y1, s0, s1, p0, p1⟩
theorem ok_F (f : F6) : ({ c with F := f } : Cpu).ok := by
  obtain ⟨a0, a1, x0, x1, y0, y1, s0, s1, p0, p1⟩ := h
  exact ⟨a0, a1, x0, x1, y0, y1, s0, s1, p0, p1⟩
theorem ok_S {s : Int} (hv : 0 ≤ s ∧ s < 256) : ({ c with S := s } : Cpu).ok := by
  obtain ⟨a0, a1, x0, x1, y0, y1, s0, s1, p0, p1⟩ := h
  exact ⟨a0, a1, x0, x1, y0, y1, hv.1, hv.2, p0, p1⟩
theorem ok_pc {p : Int} (hv : 0 ≤ p ∧ p < 65536) : ({ c with PC := p } : Cpu).ok := by
  obtain ⟨a0, a1, x0, x1, y0, y1, s0, s1, p0, p1⟩ := h
  exact ⟨a0, a1, x0, x1, y0, y1, s0, s1, hv.1, hv.2⟩
theorem ok_fw (n : Int) : (c.fw n).ok := ok_pc h (m16 _)
theorem ok_sp {s p : Int} (f : F6) (hs : 0 ≤ s ∧ s < 256) (hp : 0 ≤ p ∧ p < 65536) : ({ c with S := s, PC := p, F := f } : Cpu).ok := ok_pc (ok_S (ok_F h f) hs) hp
theorem do_ok (x : List UInt8) (v : Int) (h0 : 0 ≤ v) (h1 : v < 256) : (doT x c v).1.ok := by
  refine do_cases c v x (fun _ d _ => d.ok) ?_ ?_ ?_ ?_ ?_ ?_ ?_ ?_ ?_ ?_ ?_ ?_ ?_ ?_ ?_ ?_ ?_ ?_ ?_
  all_goals first
    | exact ok_ldA h ⟨h0, h1⟩
    | exact ok_ldX h ⟨h0, h1⟩
    | exact ok_ldY h ⟨h0, h1⟩
    | exact ok_ldA h (w8b _ _ _)
    | exact ok_stA h ⟨adc_lo _ _ _, adc_hi _ _ _⟩
    | exact ok_stA h ⟨sbc_lo _ _ _, sbc_hi _ _ _⟩
    | exact ok_F h _
    | (intros; exact h)
theorem imp_ok (x : List UInt8) : (impT x c).ok := by
  have r0 := b2i_lo c.F.C
  have r1 := b2i_hi c.F.C
  have h' := h
  obtain ⟨a0, a1, x0, x1, y0, y1, s0, s1, p0, p1⟩ := h'
  refine imp_cases c x (fun _ d => d.ok) ?_ ?_ ?_ ?_ ?_ ?_ ?_ ?_ ?_ ?_ ?_ ?_ ?_ ?_ ?_ ?_ ?_ ?_ ?_ ?_ ?_ ?_
  all_goals first
    | (refine ok_stA h ?_; simp only [aslT, lsrT, rolT, rorT]; omega)
    | (refine ok_ldX h ?_; omega)
    | (refine ok_ldY h ?_; omega)
    | (refine ok_ldA h ?_; omega)
    | exact ok_S h ⟨x0, x1⟩
    | exact ok_F h _
    | (intros; exact h)
end
theorem mb256 (x : Int) : 0 ≤ x % 256 ∧ x % 256 < 256 := by omega
theorem flo_ok (k m : Int) (x : List UInt8) {c : Cpu} (h : c.ok) {b : Bus} (g : BOk b) : (floC k m x c b).ok := by
  unfold floC
  repeat' split
  · unfold braC
    refine ok_pc h ?_
    split
    · unfold tgtA; omega
    · omega
  · unfold jmpC
    refine ok_pc h ?_
    split
    · exact wd g _ _
    · exact wd g _ _
  · have gj := ((jsr_le c b).ok g).m
    rw [show (jsrB c b).m = (jsrW c b).m from rfl] at gj
    exact ok_sp h c.F (mb256 _) (word2_in (peeks_of g _) (peek_bb gj _))
  · exact ok_sp h c.F (mb256 _) (m16 _)
  · exact ok_sp h _ (mb256 _) (wd g _ _)
  · have gb := ((brk_le c b).ok g).m
    exact ok_sp h _ (mb256 _) (word2_in (peek_bb gb 65534) (peek_bb gb (65534 + 1)))
  · exact h
theorem opd_ok (k m : Int) (x : List UInt8) {c : Cpu} (h : c.ok) {b : Bus} (g : BOk b) : (opdC k m x c b).ok := by
  unfold opdC
  repeat' split
  · exact do_ok h x _ (peeks_of g _).1 (peeks_of g _).2
  · exact do_ok h x _ (peeks_of g _).1 (peeks_of g _).2
  · exact h
  · exact do_ok h x _ (peeks_of g _).1 (peeks_of g _).2
theorem stp_ok (k m sz : Int) (x : List UInt8) {c : Cpu} (h : c.ok) {b : Bus} (g : BOk b) : (stpC k m sz x c b).ok := by
  unfold stpC
  repeat' split
  · exact ok_fw (imp_ok h x) _
  · exact ok_fw (opd_ok k m x h g) _
  · exact ok_fw (ok_S h (mb256 _)) _
  · refine ok_fw ?_ _
    unfold pulC
    split
    · exact ok_S (ok_ldA h (peeks_of g _)) (mb256 _)
    · exact ok_S (ok_F h _) (mb256 _)
  · exact flo_ok k m x h g
theorem step_okc (c : Cpu) (l : List Int) (hc : c.ok) (h : ∀ i, 0 ≤ rd l i ∧ rd l i < 256) : (step c l).c.ok := by
  unfold step
  split
  · split
    · exact hc
    · have hp : 0 ≤ c.PC ∧ c.PC < 65536 := by obtain ⟨_, _, _, _, _, _, _, _, p0, p1⟩ := hc; exact ⟨p0, p1⟩
      exact stp_ok _ _ _ _ hc (BOk.rd ⟨h, by simp⟩ hp.1 hp.2)
  · exact ⟨by decide, by decide, by decide, by decide, by decide, by decide, by decide, by decide, by decide, by decide⟩
theorem serve_okc (c : Cpu) (l : List Int) (nmi : Bool) (hc : c.ok) (h : ∀ i, 0 ≤ rd l i ∧ rd l i < 256) : (serve c l nmi).c.ok := by
  obtain ⟨a0, a1, x0, x1, y0, y1, s0, s1, p0, p1⟩ := hc
  unfold serve
  split
  · have hb := serveB_ok c ⟨l, []⟩ nmi ⟨a0, a1, x0, x1, y0, y1, s0, s1, p0, p1⟩ ⟨h, by simp⟩
    have hm : (serveB c ⟨l, []⟩ nmi).m = (push3 c ((Bus.rd ⟨l, []⟩ c.PC).rd c.PC) c.PC false).m := rfl
    have hb := hb.m
    rw [hm] at hb
    have w := word2_in (peek_bb hb (vec nmi)) (peek_bb hb (vec nmi + 1))
    exact ⟨a0, a1, x0, x1, y0, y1, by show 0 ≤ (c.S - 3) % 256; omega, by show (c.S - 3) % 256 < 256; omega, w.1, w.2⟩
  · exact ⟨by decide, by decide, by decide, by decide, by decide, by decide, by decide, by decide, by decide, by decide⟩
theorem step_xb (c : Cpu) (l : List Int) (hc : c.ok) (h : ∀ i, 0 ≤ rd l i ∧ rd l i < 256) : ∀ x ∈ (step c l).t, x.ok := by
  unfold step
  split
  · split
    · simp
    · exact ((stepB_le c ⟨l, []⟩ hc).ok ⟨h, by simp⟩).t
  · simp
theorem serve_xb (c : Cpu) (l : List Int) (nmi : Bool) (hc : c.ok) (h : ∀ i, 0 ≤ rd l i ∧ rd l i < 256) : ∀ x ∈ (serve c l nmi).t, x.ok := by
  unfold serve
  split
  · exact (serveB_ok c ⟨l, []⟩ nmi hc ⟨h, by simp⟩).t
  · simp
theorem step_meq (c : Cpu) (l : List Int) (hc : c.ok) (hs : ramSize l.length = true) : (step c l).m.length = l.length := by
  unfold step
  rw [if_pos hs]
  split
  · rfl
  · exact (stepB_le c ⟨l, []⟩ hc).m
end Go.Proofs.YtoncmhfmkfeolaaDoor
