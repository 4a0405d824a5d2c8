/- Plain laws of serve: bounds. -/
import Derived.Test.YtghmeghbekkanaaServeL
set_option linter.unusedVariables false
set_option linter.unusedSimpArgs false
namespace Go.Proofs.Ytghmeghbekkanaa
open Go.RowKit Go.Proofs.YtghmeghbekkanaaW.PrintWords
structure BOk (b : Bus) : Prop where
  m : ∀ i, 0 ≤ rd b.m i ∧ rd b.m i < 256
  t : ∀ x ∈ b.t, x.ok
theorem rd_set_b {L : List Int} (h : ∀ i, 0 ≤ rd L i ∧ rd L i < 256) (k : Nat) {d : Int} (hd : 0 ≤ d ∧ d < 256) : ∀ i, 0 ≤ rd (L.set k d) i ∧ rd (L.set k d) i < 256 := by
  intro i
  by_cases e : k = i.toNat
  · subst e
    rw [rd, List.getD_eq_getElem?_getD]
    rcases Nat.lt_or_ge i.toNat L.length with q | q
    · rw [List.getElem?_set_self q]; exact hd
    · rw [List.getElem?_eq_none (by simpa using q)]; simp
  · have := h i
    rw [rd, List.getD_eq_getElem?_getD] at this ⊢
    rwa [List.getElem?_set_ne e]
theorem peek_bb {L : List Int} (h : ∀ i, 0 ≤ rd L i ∧ rd L i < 256) (a : Int) : 0 ≤ peek L a ∧ peek L a < 256 := by
  unfold peek
  split
  · exact h _
  · omega
theorem BOk.rd {b : Bus} (h : BOk b) {a : Int} (a0 : 0 ≤ a) (a1 : a < 65536) : BOk (b.rd a) := by
  refine ⟨h.m, fun x hx => ?_⟩
  rcases List.mem_append.1 hx with hx | hx
  · exact h.t x hx
  · rw [List.mem_singleton] at hx
    subst hx
    have := peek_bb h.m a
    exact ⟨a0, a1, this.1, this.2⟩
theorem BOk.wr {b : Bus} (h : BOk b) {a d : Int} (a0 : 0 ≤ a) (a1 : a < 65536) (hd : 0 ≤ d ∧ d < 256) : BOk (b.wr a d) := by
  refine ⟨rd_set_b h.m _ hd, fun x hx => ?_⟩
  rcases List.mem_append.1 hx with hx | hx
  · exact h.t x hx
  · rw [List.mem_singleton] at hx
    subst hx
    exact ⟨a0, a1, hd.1, hd.2⟩
theorem vec_b (nmi : Bool) : 0 ≤ vec nmi ∧ vec nmi < 65535 := by cases nmi <;> decide
theorem serveB_ok (c : Cpu) (b : Bus) (nmi : Bool) (hc : c.ok) (h : BOk b) : BOk (serveB c b nmi) := by
  obtain ⟨_, _, _, _, _, _, s0, s1, p0, p1⟩ := hc
  have v := vec_b nmi
  exact (((((((h.rd p0 p1).rd p0 p1).wr (stk_b _).1 (stk_b _).2 (by omega)).wr (stk_b _).1 (stk_b _).2 (by omega)).wr (stk_b _).1 (stk_b _).2 (packP_b _ _)).rd v.1 (by omega)).rd (by omega) (by omega))
theorem cd_ok {t : List Cyc} (h : ∀ x ∈ t, x.ok) (k : Nat) : (cd t k).ok := by
  unfold cd
  rw [List.getD_eq_getElem?_getD]
  rcases Nat.lt_or_ge k t.length with q | q
  · rw [List.getElem?_eq_getElem q]; exact h _ (List.getElem_mem q)
  · rw [List.getElem?_eq_none q]; exact ⟨by decide, by decide, by decide, by decide⟩
theorem serve_mb (c : Cpu) (l : List Int) (nmi : Bool) (hc : c.ok) (h : ∀ i, 0 ≤ rd l i ∧ rd l i < 256) : ∀ i, 0 ≤ rd (serve c l nmi).m i ∧ rd (serve c l nmi).m i < 256 := by
  unfold serve
  split
  · exact (serveB_ok c ⟨l, []⟩ nmi hc ⟨h, by simp⟩).m
  · intro i; simp [rd]
theorem serve_tb (c : Cpu) (l : List Int) (nmi : Bool) (hc : c.ok) (h : ∀ i, 0 ≤ rd l i ∧ rd l i < 256) : ∀ k, (cd (serve c l nmi).t k).ok := by
  unfold serve
  split
  · exact cd_ok (serveB_ok c ⟨l, []⟩ nmi hc ⟨h, by simp⟩).t
  · exact cd_ok (by simp)
end Go.Proofs.Ytghmeghbekkanaa
