/- An append at a step of a region that draws its order, in whatever world; a bus's machine beside rows of other kinds. -/
import Derived.Test.YtoncmhfmkfeolaaDoorShot
import Derived.Deep.AppendLies
set_option linter.unusedVariables false
set_option linter.unusedSimpArgs false
namespace Go.Proofs.YtoncmhfmkfeolaaDoor
open Go.RowKit Go.Proofs.YtoncmhfmkfeolaaDoorW.PrintWords
theorem R_append_lies {α : Type} (d : Kd α) {P : Program} {w : World} {ops : Array Oper} {o : Oper} {a : Act} {K : Act → World → Prop} {Q : Exit → Act → World → Prop} {E : Prop} (hgd : o.guard = none) (s x : Operand) (t : TypeId)
    (ho : o.op = .call { callee := .builtin .append, args := #[s, x], argTypes := #[t, t] }) (base : Nat) (e : TypeId) (z : Value) (bytes : Nat)
    (ht : P.underlying t = some (.slice e)) (hinfo : (P.info? e).map (fun i => (i.zero, i.size, i.bytes)) = some (some z, d.sz, bytes)) (hz : z.cells.size = d.sz) (hs0 : 0 < d.sz) (hb0 : 0 < bytes)
    (v : Value) (xs : List α) (p : α) (cs : List Value) (okp : Nat → Prop) (g : Nat) (hs : a.eval s = v) (hx : a.eval x = .slice (some ⟨g, 0, none⟩) 1 1) (hg : Blk w g cs.toArray e)
    (hp : d.M w base okp p cs) (hokp : ∀ k, okp k → True ∧ some k ≠ v.ownBlock) (HO : d.R e w base (fun _ => True) v xs) (hbase : base ≤ w.heap.size) (hl : (xs.length + 1) * bytes ≤ 140737488355328)
    (h : ∀ v1 w1, d.R e w1 base (fun _ => True) v1 (xs ++ [p]) → w.grownBy w1 v.ownBlock → (v1.ownBlock = v.ownBlock ∨ ∃ k, v1.ownBlock = some k ∧ w.heap.size ≤ k) → K (a.put o.dst v1) w1) :
    if Region.wanted o (yielded ops a.tmps) = true then Oper.wp P o a w K Q else E := by
  obtain ⟨i0, hi, hzz⟩ := Option.map_eq_some_iff.1 hinfo
  simp only [Prod.mk.injEq] at hzz
  obtain ⟨hz0, hz1, hz2⟩ := hzz
  obtain ⟨h0, inner, hown, hr⟩ := HO
  have hlen : xs.length + 1 ≤ 140737488355328 := Nat.le_trans (Nat.le_mul_of_pos_right _ hb0) hl
  refine step_append_lies _ hgd s x t ho base e i0 z d.sz bytes ht hi hz0 hz1 hz2 hz hs0 v xs.length inner hs hown ⟨g, 0, none⟩ 1 1 cs hx (by rw [d.K_len (d.K_of_M hp)]; simp) (World.news_of_block hg) (d.K_one (d.K_of_M hp)) (by decide) (by simp only [maxLen]; omega) hl hbase w.heap.size rfl ?_
  intro g1 cap w1 hown1 hg1 hat hlt
  have hat1 : (Value.slice (some ⟨g1, 0, none⟩) (xs.length + 1) cap).ownBlock = v.ownBlock ∨ ∃ k, (Value.slice (some ⟨g1, 0, none⟩) (xs.length + 1) cap).ownBlock = some k ∧ w.heap.size ≤ k := by
    rcases hat with hat | hat
    · exact .inl hat.symm
    · exact .inr ⟨g1, rfl, by omega⟩
  exact h _ w1 (Kd.R_appended h0 hr hp hokp (fun _ _ => trivial) hown1 hg1 hat1) hg1 hat1
section
variable {w w' : World} {L : Lay} {v : Value} {T : Nat} {cs : Array Value} {b : Bus} {n : Nat}
theorem Hold.grown (h : Hold w L v T cs b n) {row : Option Nat} (hg : w.grownBy w' row) (h1 : some L.g ≠ row) (h2 : some L.r ≠ row) (h3 : ∀ k, v.ownBlock = some k → some k ≠ row) : Hold w' L v T cs b n :=
  ⟨(hg.block _ h.lt h1).trans h.blk, h.mem.move (fun k hk => hg.block _ (Kd.R_lt h.mem k hk) (by injection hk with hk; subst hk; exact h2)), h.log.move (fun k hk => hg.block _ (Kd.R_lt h.log k hk) (h3 k hk)), h.bg, h.gr, h.gv, h.rv, h.ok, h.mb, h.tb, h.tn⟩
/-- A block of another type is none of the machine's. -/
theorem Hold.other (h : Hold w L v T cs b n) {k t : Nat} {cells : Array Value} (hk : w.heap[k]? = some (.cells cells t (0, 0))) (t1 : t ≠ T) (t2 : t ≠ 5) (t3 : t ≠ 81) : k ≠ L.g ∧ k ≠ L.r ∧ some k ≠ v.ownBlock := by
  refine ⟨blk_ne hk h.blk t1, ?_, fun e => ?_⟩
  · obtain ⟨c1, h1⟩ := Kd.R_typed h.mem L.r rfl
    exact blk_ne hk h1 t2
  · obtain ⟨c1, h1⟩ := Kd.R_typed h.log k e.symm
    exact blk_ne hk h1 t3 rfl
end
end Go.Proofs.YtoncmhfmkfeolaaDoor
