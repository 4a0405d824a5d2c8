/- Slices of bytes of the call's own: made, copied, compared, marked. -/
import Derived.Test.YthlmddcjbhacmaaDoorSlc
import Derived.Deep.RegionHeld3
set_option linter.unusedVariables false
set_option linter.unusedSimpArgs false
namespace Go.Proofs.YthlmddcjbhacmaaDoor
open Go.RowKit Go.Proofs.YthlmddcjbhacmaaDoorW.PrintWords
theorem infoU8 : (Tryd.prog.info? 5).map (fun i => (i.zero, i.size, i.bytes)) = some (some (.int .u8 0), 1, 1) := by kernel_rfl
/-- A slice of bytes in memory that was made at or behind block base. -/
def OwnB (w : World) (base : Nat) (v : Value) (l : List Int) : Prop := Kd.R (Kd.int .u8) 5 w base (fun _ => True) v l
theorem OwnB.below {w w1 : World} {base : Nat} {v : Value} {l : List Int} (h : OwnB w base v l) (hb : Below w.heap.size w w1) : OwnB w1 base v l := Kd.R_below h hb
theorem OwnB.lower {w : World} {base base' : Nat} {v : Value} {l : List Int} (h : OwnB w base v l) (hb : base' ≤ base) : OwnB w base' v l := Kd.R_lower h hb
theorem OwnB.set {w : World} {base : Nat} {v : Value} {l : List Int} (h : OwnB w base v l) {p : Addr} (hp : p.block < base) (u : Value) : OwnB (w.setCell p u) base v l :=
  Kd.R_mono (Kd.R_far (Kd.R_bound h) (fun k hk => by have := hk.2.1; omega) u) (fun _ _ => trivial)
theorem OwnB.alloc {w : World} {base : Nat} {v : Value} {l : List Int} (h : OwnB w base v l) (o : Obj) : OwnB (w.alloc o) base v l := h.below (below_alloc (Below.refl _ _) o)
theorem OwnB.drew {w : World} {base : Nat} {v : Value} {l : List Int} (h : OwnB w base v l) : OwnB w.drew base v l := h.below (below_drew1 (Below.refl _ _))
theorem OwnB.drewN {w : World} {base : Nat} {v : Value} {l : List Int} (h : OwnB w base v l) (n : Nat) : OwnB (w.drewN n) base v l := h.below (pw_below_drewN (Below.refl _ _) n)
/-- Another row, in a block ahead of base, has been written. -/
theorem OwnB.grown {w w1 : World} {base : Nat} {v : Value} {l : List Int} (h : OwnB w base v l) {row : Option Nat} (hg : w.grownBy w1 row) (hr : ∀ k, row = some k → k < base) : OwnB w1 base v l :=
  Kd.R_mono (Kd.R_grown (Kd.R_bound h) hg (fun k hk e => by have := hk.2.1; have := hr k e.symm; omega)) (fun _ _ => trivial)
/-- A later row has been written. -/
theorem OwnB.grownAt {w0 w w1 : World} {base base' : Nat} {v u : Value} {l m : List Int} (h0 : OwnB w0 base v l) (hb : Below w0.heap.size w0 w) (hu : OwnB w base' u m) (hs : w0.heap.size ≤ base') (hg : w.grownBy w1 u.ownBlock) : OwnB w1 base v l :=
  Kd.R_mono (Kd.R_grown (Kd.R_below (Kd.R_bound h0) hb) hg (fun k hk e => by have h1 := hk.2.2.1; have h2 := Kd.R_base hu k e.symm; omega)) (fun _ _ => trivial)
theorem OwnB.reads {w : World} {base : Nat} {v : Value} {l : List Int} (h : OwnB w base v l) : ∃ A c, v = .slice A l.length c ∧ l.length ≤ c ∧ Kd.C (Kd.int .u8) w A l.length l := Kd.R_reads h
theorem OwnB.bs {w : World} {base : Nat} {A : Option Addr} {c : Nat} {l : List Int} (h : OwnB w base (.slice A l.length c) l) (hb : ∀ i, 0 ≤ rd l i ∧ rd l i < 256) : Bs w A l := ⟨(Kd.R_reads' h).2.2, hb⟩
def mkB (k : Int) : Nat → List Int
  | 0 => []
  | n + 1 => k % 256 :: mkB (k + 1) n
theorem rd_nat (l : List Int) (k : Nat) (h : k < l.length) : rd l (k : Int) = l[k] := by simp [rd, List.getD_eq_getElem?_getD, h]
theorem take_rd (l : List Int) (k : Nat) (h : k < l.length) : l.take (k + 1) = l.take k ++ [rd l (k : Int)] := by
  rw [rd_nat l k h, List.take_succ_eq_append_getElem h]
theorem take_set (l : List Int) (k : Nat) (h : k < l.length) : (l.take k ++ List.replicate (l.length - k) 0).set k (rd l k) = l.take (k + 1) ++ List.replicate (l.length - (k + 1)) 0 := by
  rw [show l.length - k = (l.length - (k + 1)) + 1 by omega, List.replicate_succ, take_rd l k h, List.set_append_right _ _ (by simp; omega)]
  simp [show min k l.length = k by omega]
def szF (left n : Int) : Int := if left - n < 0 then -1 else left - n
theorem szF_big {n m : Int} (h : n < m) : szF n m = -1 := by unfold szF; rw [if_pos (by omega)]
theorem szF_ok {n m : Int} (h : m ≤ n) : szF n m = n - m := by unfold szF; rw [if_neg (by omega)]
theorem mkB_len (n : Nat) : ∀ k, (mkB k n).length = n := by
  induction n with
  | zero => intro k; rfl
  | succ n ih => intro k; simp [mkB, ih]
theorem mkB_rd (n : Nat) : ∀ (k : Int) (j : Nat), j < n → rd (mkB k n) j = (k + j) % 256 := by
  induction n with
  | zero => intro k j h; omega
  | succ n ih =>
    intro k j h
    cases j with
    | zero => simp [mkB, rd]
    | succ j =>
      have := ih (k + 1) j (by omega)
      simp only [rd, Int.toNat_natCast, mkB] at this ⊢
      rw [List.getD_cons_succ, this]
      congr 1
      omega
theorem mkB_b (n : Nat) : ∀ (k : Int) (i : Int), 0 ≤ rd (mkB k n) i ∧ rd (mkB k n) i < 256 := by
  intro k i
  by_cases hi : i.toNat < n
  · have := mkB_rd n k i.toNat hi
    rw [show rd (mkB k n) i = rd (mkB k n) (i.toNat : Int) by simp only [rd, Int.toNat_natCast], this]
    omega
  · simp [rd, List.getD_eq_getElem?_getD, List.getElem?_eq_none (show (mkB k n).length ≤ i.toNat by rw [mkB_len]; omega)]
theorem mkB_set (l : List Int) (k : Int) (j : Nat) (h : j < l.length) : (mkB k j ++ l.drop j).set j ((k + j) % 256) = mkB k (j + 1) ++ l.drop (j + 1) := by
  have e : ∀ n k, mkB k (n + 1) = mkB k n ++ [(k + n) % 256] := by
    intro n
    induction n with
    | zero => intro k; simp [mkB]
    | succ n ih =>
      intro k
      rw [mkB, ih (k + 1), mkB]
      simp
      omega
  rw [e, List.set_append_right _ _ (by rw [mkB_len]; omega), mkB_len, Nat.sub_self, List.drop_eq_getElem_cons h, List.set_cons_zero, List.append_assoc]
  rfl
end Go.Proofs.YthlmddcjbhacmaaDoor
