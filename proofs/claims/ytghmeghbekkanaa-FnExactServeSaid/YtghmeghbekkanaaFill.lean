/- Memories cloned and filled by the program and the reference. -/
import Derived.Test.YtghmeghbekkanaaByt
import Derived.Test.YtghmeghbekkanaaRam
import Derived.Lib.LazyBuf
import Derived.Deep.DeepCutAuto
import Derived.Deep.CutBlock
set_option linter.unusedVariables false
set_option linter.unusedSimpArgs false
namespace Go.Proofs.Ytghmeghbekkanaa
open Go.RowKit Go.Proofs.YtghmeghbekkanaaW.PrintWords
theorem bs_nil {w : World} {l : List Int} (h : Bs w none l) : l = [] := by
  have := h.c.2.2
  cases l with
  | nil => rfl
  | cons x xs => obtain ⟨ad, e, _⟩ := this (by simp); cases e
set_option maxHeartbeats 400000 in
theorem impl_Clone (A : Option Addr) (c : Nat) (l : List Int) (w : World) (h : Bs w A l) (hl : l.length ≤ 1048576) :
    Calls Try.prog 64 #[.slice A l.length c] w fun e w' => ∃ A1 c1, e = .returned (.slice A1 l.length c1) ∧ OwnB w' w.heap.size (.slice A1 l.length c1) l ∧ Below w.heap.size w w' := by
  have he := Lib.run_eql_slice_nil (P := Try.prog) w 27 5 A l.length c 0 0 Try.underlying27
  cases A with
  | none =>
    obtain rfl := bs_nil h
    simp only [List.length_nil] at he
    have HB := hR w; go_enter Try.func64, Try.ntmps64
    go_wp2
    go_ret
    exact ⟨none, 0, rfl, Kd.R_nil _ _ _ _ _, blw⟩
  | some ad =>
    have HB := hR w; go_enter Try.func64, Try.ntmps64
    go_wp2_with (first | ((with_reducible refine gate_dst (N := 5) rfl ?_); refine Kd.R_lit (Kd.int .u8) w.heap.size 5 ?hg (N := 5) ?hd (xs := ([] : List Int)) (inner := []) (ok := fun _ => True) (okp := fun _ => True) ?hr ?hp (fun _ hk => hk) trivial (Below.refl _ _) (by simp) (by simp) ?_; (case hd => rfl); (case hg => rfl); (case hr => first | (go_simp; done) | (go_simp; rfl)); (case hp => exact (Reps.none _ _)); intro v1 w1 ho hb hg1 hn1) | (at_builtin; refine Kd.R_append_row (Value.int .u8) (0 : Int) (h1 := fun _ => rfl) w.heap.size rfl _ _ 27 5 (.int .u8 0) 1 rfl Try.underlying27 infoU8 rfl (by decide) _ [] l _ _ _ (fun _ => True) rfl rfl (fun _ _ => trivial) ?a1 ?a2 (Below.refl _ _) ?a3 ?a4 ?_; (case a1 => exact ho); (case a2 => exact (Kd.C_below h.c hb)); (case a3 => exact hb.size); (case a4 => simp; omega); intro v2 w2 ho2 hb2 hg2 hat2))
    go_ret
    obtain ⟨A1, c1, e, _, _⟩ := Kd.R_reads ho2
    simp only [List.nil_append] at e ho2
    subst e
    exact ⟨A1, c1, rfl, ho2, hb.trans hb2⟩
theorem impl_cloned (A : Option Addr) (c : Nat) (l : List Int) (w : World) (h : Bs w A l) (hl : l.length ≤ 1048576) :
    Calls Try.prog 35 #[.agg #[.slice A l.length c]] w fun e w' => ∃ A1 c1, e = .returned (.agg #[.slice A1 l.length c1]) ∧ OwnB w' w.heap.size (.slice A1 l.length c1) l ∧ Below w.heap.size w w' := by
  have HB := hR w; go_enter Try.func35, Try.ntmps35
  go_wp2_with fail
  refine (impl_Clone _ _ _ _ (h.below (blw)) hl).mono ?_
  rintro _ w1 ⟨A1, c1, rfl, HO, hb⟩
  (have HB := Aside0.mk (below_step (w := w) blw hb); have hz1 := hb.size; obtain ⟨hcl1, hfr1, hlt1, _⟩ := bcell hb; (try simp only [sA, sC, sD] at hz1); (try simp only [sA, sC, sD] at hcl1 hfr1 hlt1); have hk1_0 : w.heap.size < w1.heap.size := (by omega); have hk1_1 : w.heap.size + 1 < w1.heap.size := (by omega); have HB1 := hR w1; clear hb)
  have HO := Aside0.mk HO
  go_wp2_with fail
  (refine bodyPost_ret (v := .agg #[.slice A1 l.length c1]) (by (simp only [results, Try.results35]; go_simp <;> (rfl))) rfl ?_)
  exact ⟨_, _, rfl, (by (apply OwnB.lower; (repeat (first | (with_reducible exact HO.out) | (with_reducible apply OwnB.alloc) | (with_reducible apply OwnB.drew) | (with_reducible apply OwnB.drewN) | (with_reducible apply OwnB.set))); all_goals (first | omega | (simp; done) | (simp; omega)))), blw⟩
theorem bs_one {w : World} {g : Nat} {b : Int} (h : w.cell? ⟨g, 0, none⟩ = some (.int .u8 b)) (h0 : 0 ≤ b) (h1 : b < 256) : Bs w (some ⟨g, 0, none⟩) [b] := by
  refine ⟨Kd.C_of_reads (d := (0 : Int)) (h1 := fun _ => rfl) ⟨rfl, by simp, fun _ => ⟨_, rfl, fun j hj => ?_⟩⟩, fun i => ?_⟩
  · have : j = 0 := by simp at hj; omega
    subst this
    show w.cell? ((⟨g, 0, none⟩ : Addr).add 0) = some (.int .u8 b)
    rw [Addr.add_zero']
    exact h
  · rcases Nat.eq_zero_or_pos i.toNat with e | e
    · simp [rd, e]; omega
    · have : ∃ n, i.toNat = n + 1 := ⟨i.toNat - 1, by omega⟩
      obtain ⟨n, hn⟩ := this
      simp [rd, hn]
end Go.Proofs.Ytghmeghbekkanaa
