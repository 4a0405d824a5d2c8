/- Slices of bytes of the call's own: made, copied, compared, marked. -/
import Derived.Test.YtghmeghbekkanaaSlc
import Derived.Deep.RegionHeld3
set_option linter.unusedVariables false
set_option linter.unusedSimpArgs false
namespace Go.Proofs.Ytghmeghbekkanaa
open Go.RowKit Go.Proofs.YtghmeghbekkanaaW.PrintWords
theorem infoU8 : (Try.prog.info? 5).map (fun i => (i.zero, i.size, i.bytes)) = some (some (.int .u8 0), 1, 1) := by kernel_rfl
/-- A slice of bytes in memory that was made at or behind block base. -/
def OwnB (w : World) (base : Nat) (v : Value) (l : List Int) : Prop := Kd.R (Kd.int .u8) 5 w base (fun _ => True) v l
theorem OwnB.below {w w1 : World} {base : Nat} {v : Value} {l : List Int} (h : OwnB w base v l) (hb : Below w.heap.size w w1) : OwnB w1 base v l := Kd.R_below h hb
theorem OwnB.lower {w : World} {base base' : Nat} {v : Value} {l : List Int} (h : OwnB w base v l) (hb : base' ≤ base) : OwnB w base' v l := Kd.R_lower h hb
theorem OwnB.set {w : World} {base : Nat} {v : Value} {l : List Int} (h : OwnB w base v l) {p : Addr} (hp : p.block < base) (u : Value) : OwnB (w.setCell p u) base v l :=
  Kd.R_mono (Kd.R_far (Kd.R_bound h) (fun k hk => by have := hk.2.1; omega) u) (fun _ _ => trivial)
theorem OwnB.alloc {w : World} {base : Nat} {v : Value} {l : List Int} (h : OwnB w base v l) (o : Obj) : OwnB (w.alloc o) base v l := h.below (below_alloc (Below.refl _ _) o)
theorem OwnB.drew {w : World} {base : Nat} {v : Value} {l : List Int} (h : OwnB w base v l) : OwnB w.drew base v l := h.below (below_drew1 (Below.refl _ _))
theorem OwnB.drewN {w : World} {base : Nat} {v : Value} {l : List Int} (h : OwnB w base v l) (n : Nat) : OwnB (w.drewN n) base v l := h.below (pw_below_drewN (Below.refl _ _) n)
/-- Another row, in a block ahead of base, has been written. -/
theorem OwnB.grown {w w1 : World} {base : Nat} {v : Value} {l : List Int} (h : OwnB w base v l) {row : Option Nat} (hg : w.grownBy w1 row) (hr : ∀ k, row = some k → k < base) : OwnB w1 base v l :=
  Kd.R_mono (Kd.R_grown (Kd.R_bound h) hg (fun k hk e => by have := hk.2.1; have := hr k e.symm; omega)) (fun _ _ => trivial)
/-- A later row has been written. -/
theorem OwnB.grownAt {w0 w w1 : World} {base base' : Nat} {v u : Value} {l m : List Int} (h0 : OwnB w0 base v l) (hb : Below w0.heap.size w0 w) (hu : OwnB w base' u m) (hs : w0.heap.size ≤ base') (hg : w.grownBy w1 u.ownBlock) : OwnB w1 base v l :=
  Kd.R_mono (Kd.R_grown (Kd.R_below (Kd.R_bound h0) hb) hg (fun k hk e => by have h1 := hk.2.2.1; have h2 := Kd.R_base hu k e.symm; omega)) (fun _ _ => trivial)
theorem OwnB.reads {w : World} {base : Nat} {v : Value} {l : List Int} (h : OwnB w base v l) : ∃ A c, v = .slice A l.length c ∧ l.length ≤ c ∧ Kd.C (Kd.int .u8) w A l.length l := Kd.R_reads h
theorem OwnB.bs {w : World} {base : Nat} {A : Option Addr} {c : Nat} {l : List Int} (h : OwnB w base (.slice A l.length c) l) (hb : ∀ i, 0 ≤ rd l i ∧ rd l i < 256) : Bs w A l := ⟨(Kd.R_reads' h).2.2, hb⟩
def mkB (k : Int) : Nat → List Int
  | 0 => []
  | n + 1 => k % 256 :: mkB (k + 1) n
theorem rd_nat (l : List Int) (k : Nat) (h : k < l.length) : rd l (k : Int) = l[k] := by simp [rd, List.getD_eq_getElem?_getD, h]
theorem take_rd (l : List Int) (k : Nat) (h : k < l.length) : l.take (k + 1) = l.take k ++ [rd l (k : Int)] := by
  rw [rd_nat l k h, List.take_succ_eq_append_getElem h]
theorem take_set (l : List Int) (k : Nat) (h : k < l.length) : (l.take k ++ List.replicate (l.length - k) 0).set k (rd l k) = l.take (k + 1) ++ List.replicate (l.length - (k + 1)) 0 := by
  rw [show l.length - k = (l.length - (k + 1)) + 1 by omega, List.replicate_succ, take_rd l k h, List.set_append_right _ _ (by simp; omega)]
  simp [show min k l.length = k by omega]
set_option maxHeartbeats 400000 in
theorem laws_toByteS (A : Option Addr) (c : Nat) (l : List Int) (w : World) (h : Bs w A l) (hl : l.length ≤ 1048576) :
    Calls Try.prog 33 #[.slice A l.length c] w fun e w' => ∃ A1 c1, e = .returned (.slice A1 l.length c1) ∧ OwnB w' w.heap.size (.slice A1 l.length c1) l ∧ Below w.heap.size w w' := by
  have HB := hR w; go_enter Try.func33, Try.ntmps33
  go_wp2_with (first | ((with_reducible refine gate_dst (N := 7) rfl ?_); refine Kd.R_make (Kd.int .u8) w.heap.size 5 rfl (N := 7) rfl 27 _ _ rfl (l.length : Int) rfl rfl Try.underlying27 (.int .u8 0) 1 infoU8 rfl (by decide) (by omega) 0 (ok := fun _ => True) (okp := fun _ => True) rfl (fun _ hk => hk) trivial (by omega) (by omega) (Below.refl _ _) (Nat.le_refl _) ?_; intro v1 w1 ho hb hg hn))
  simp only [Int.toNat_natCast] at ho
  obtain ⟨A1, c1, rfl, hc1, hr1⟩ := Kd.R_reads ho
  simp only [List.length_replicate] at *
  have HA := Aside0.mk ho
  have HB := Aside0.mk hb
  clear hn hg hb ho hr1
  go_wp2
  go_loopw [4] (fun v4 wr => ∃ k : Nat, k ≤ l.length ∧ v4 = .int .i64 k ∧ Aside0 (OwnB wr w.heap.size (.slice A1 l.length c1) (l.take k ++ List.replicate (l.length - k) 0)) ∧ Aside0 (Below w.heap.size w wr)) (fun v4 _ => l.length - (intOf v4).toNat)
  case atStart => exact ⟨0, Nat.zero_le _, rfl, ⟨by have := HA.out; simpa [OwnB] using this⟩, HB⟩
  case round =>
    obtain ⟨k, hk, rfl, HO, HB⟩ := hrel
    by_cases hlt : k < l.length
    · obtain ⟨ad, rfl, hx⟩ := h.at k (by omega) (by omega)
      have hx1 := (HB.out.cell (World.block_lt_of_cell? w _ hx)).trans hx
      obtain ⟨g, cap, eo, gb, gl, cl, HG⟩ := Kd.R_form HO.out (by simp; omega)
      injection eo with ea en ec
      subst ea ec
      obtain ⟨hy, hf⟩ := Kd.R_celln 0 HO.out (k : Int) (by omega) (by omega)
      have HP := Aside0.mk (Kd.R_putg HO.out (k : Int) (rd l k)).1
      rw [Int.toNat_natCast] at hx1 hy hf
      have HG := Aside0.mk gb
      clear gb en
      go_wp2
      go_roundw
      case rel => exact ⟨k + 1, by omega, by go_num, ⟨by have := HP.out; rw [Int.toNat_natCast, take_set l k hlt] at this; exact this⟩, ⟨below_set HB.out HG.out⟩⟩
      case measure => simp [intOf]; omega
    · go_wp2
      go_ret
      have e : k = l.length := by omega
      subst e
      exact ⟨_, _, rfl, by have := HO.out; simpa [List.take_length] using this, HB.out⟩
def szF (left n : Int) : Int := if left - n < 0 then -1 else left - n
theorem laws_szByteS (A : Option Addr) (c : Nat) (l : List Int) (n : Int) (w : World) (hl : l.length ≤ 9223372036854775807) (h0 : 0 ≤ n) (h1 : n ≤ 1048576) :
    Calls Try.prog 28 #[.slice A l.length c, .int .i64 n] w fun e w' => e = .returned (.int .i64 (szF n l.length)) ∧ w = w' := by
  by_cases h : n - l.length < 0
  · have HB := hR w; go_enter Try.func28, Try.ntmps28
    go_wp2
    go_ret
    exact ⟨ret_of (by simp [szF, h]), rfl⟩
  · have HB := hR w; go_enter Try.func28, Try.ntmps28
    go_wp2
    go_ret
    exact ⟨ret_of (by unfold szF; rw [if_neg (by omega)]; rfl), rfl⟩
set_option maxHeartbeats 400000 in
theorem laws_eqByteS (A B : Option Addr) (c d : Nat) (l : List Int) (w : World) (h : Bs w A l) (h2 : Bs w B l) (hl : l.length ≤ 1048576) :
    Calls Try.prog 38 #[.slice A l.length c, .slice B l.length d] w fun e w' => e = .returned (.bool true) ∧ Below w.heap.size w w' := by
  have HB := hR w; go_enter Try.func38, Try.ntmps38
  go_wp2
  go_loopw [5] (fun v4 wr => ∃ k : Nat, k ≤ l.length ∧ v4 = .int .i64 k ∧ Aside0 (Below w.heap.size w wr)) (fun v4 _ => l.length - (intOf v4).toNat)
  case atStart => exact ⟨0, Nat.zero_le _, rfl, HB⟩
  case round =>
    obtain ⟨k, hk, rfl, HB⟩ := hrel
    by_cases hlt : k < l.length
    · obtain ⟨ad, rfl, hx⟩ := h.at k (by omega) (by omega)
      obtain ⟨ae, rfl, hy⟩ := h2.at k (by omega) (by omega)
      have hx1 := (HB.out.cell (World.block_lt_of_cell? w _ hx)).trans hx
      have hy1 := (HB.out.cell (World.block_lt_of_cell? w _ hy)).trans hy
      rw [Int.toNat_natCast] at hx1 hy1
      have q0 : (0 : Int) ≤ (k : Int) := by omega
      have q1 : (k : Int) < (l.length : Int) := by omega
      go_wp2
      go_quiet (fail)
      go_wp2
      go_roundw
      case rel => exact ⟨k + 1, by omega, by go_num, ⟨blw⟩⟩
      case measure => simp [intOf]; omega
    · go_wp2
      go_ret
      exact ⟨rfl, HB.out⟩
theorem mkB_len (n : Nat) : ∀ k, (mkB k n).length = n := by
  induction n with
  | zero => intro k; rfl
  | succ n ih => intro k; simp [mkB, ih]
theorem mkB_rd (n : Nat) : ∀ (k : Int) (j : Nat), j < n → rd (mkB k n) j = (k + j) % 256 := by
  induction n with
  | zero => intro k j h; omega
  | succ n ih =>
    intro k j h
    cases j with
    | zero => simp [mkB, rd]
    | succ j =>
      have := ih (k + 1) j (by omega)
      simp only [rd, Int.toNat_natCast, mkB] at this ⊢
      rw [List.getD_cons_succ, this]
      congr 1
      omega
theorem mkB_b (n : Nat) : ∀ (k : Int) (i : Int), 0 ≤ rd (mkB k n) i ∧ rd (mkB k n) i < 256 := by
  intro k i
  by_cases hi : i.toNat < n
  · have := mkB_rd n k i.toNat hi
    rw [show rd (mkB k n) i = rd (mkB k n) (i.toNat : Int) by simp only [rd, Int.toNat_natCast], this]
    omega
  · simp [rd, List.getD_eq_getElem?_getD, List.getElem?_eq_none (show (mkB k n).length ≤ i.toNat by rw [mkB_len]; omega)]
theorem mkB_set (l : List Int) (k : Int) (j : Nat) (h : j < l.length) : (mkB k j ++ l.drop j).set j ((k + j) % 256) = mkB k (j + 1) ++ l.drop (j + 1) := by
  have e : ∀ n k, mkB k (n + 1) = mkB k n ++ [(k + n) % 256] := by
    intro n
    induction n with
    | zero => intro k; simp [mkB]
    | succ n ih =>
      intro k
      rw [mkB, ih (k + 1), mkB]
      simp
      omega
  rw [e, List.set_append_right _ _ (by rw [mkB_len]; omega), mkB_len, Nat.sub_self, List.drop_eq_getElem_cons h, List.set_cons_zero, List.append_assoc]
  rfl
set_option maxHeartbeats 400000 in
theorem laws_markByteS (base : Nat) (A : Option Addr) (c : Nat) (l : List Int) (n : Int) (w : World) (h : OwnB w base (.slice A l.length c) l) (hl : l.length ≤ 1048576) (h0 : 0 ≤ n) (h1 : n ≤ 100000000) :
    Calls Try.prog 40 #[.slice A l.length c, .int .i64 n] w fun e w' => e = .returned (.int .i64 (n + l.length)) ∧ OwnB w' base (.slice A l.length c) (mkB n l.length) ∧ w.grownBy w' (Value.slice A l.length c).ownBlock := by
  have HB := hR w; go_enter Try.func40, Try.ntmps40
  go_wp2
  go_loopw [1, 5] (fun v1 v5 wr => ∃ k : Nat, k ≤ l.length ∧ v1 = .int .i64 (n + k) ∧ v5 = .int .i64 k ∧ Aside0 (OwnB wr base (.slice A l.length c) (mkB n k ++ l.drop k)) ∧ Aside0 (w.grownBy wr (Value.slice A l.length c).ownBlock)) (fun _ v5 _ => l.length - (intOf v5).toNat)
  case atStart => exact ⟨0, Nat.zero_le _, by simp, rfl, ⟨h⟩, ⟨grown_refl _ _⟩⟩
  case round =>
    obtain ⟨k, hk, rfl, rfl, HO, HG⟩ := hrel
    by_cases hlt : k < l.length
    · obtain ⟨g, cap, eo, gb, gl, cl, HC⟩ := Kd.R_form HO.out (by simp [mkB_len]; omega)
      injection eo with ea en ec
      subst ea ec
      obtain ⟨hy, hf⟩ := Kd.R_celln 0 HO.out (k : Int) (by omega) (by omega)
      have HP := Aside0.mk (Kd.R_putg HO.out (k : Int) ((n + k) % 256))
      rw [Int.toNat_natCast] at hy hf
      clear gb en HC gl
      go_wp2
      go_roundw
      case rel => exact ⟨k + 1, by omega, by go_num, by go_num, ⟨by have := HP.out.1; rw [Int.toNat_natCast, mkB_set l n k hlt] at this; exact this⟩, ⟨by have := HP.out.2; rw [Int.toNat_natCast] at this; exact HG.out.trans this⟩⟩
      case measure => simp [intOf]; omega
    · go_wp2
      go_ret
      have e : k = l.length := by omega
      subst e
      exact ⟨rfl, by have := HO.out; simpa using this, HG.out⟩
set_option maxHeartbeats 400000 in
theorem laws_heldByteS (A : Option Addr) (c m : Nat) (n : Int) (w : World) (h : Bs w A (mkB n m)) (hl : m ≤ 1048576) (h0 : 0 ≤ n) (h1 : n ≤ 100000000) :
    Calls Try.prog 41 #[.slice A m c, .int .i64 n] w fun e w' => e = .returned (.int .i64 (n + m)) ∧ w = w' := by
  have HB := hR w; go_enter Try.func41, Try.ntmps41
  go_wp2
  go_loop [1, 5] (fun v1 v5 => ∃ k : Nat, k ≤ m ∧ v1 = .int .i64 (n + k) ∧ v5 = .int .i64 k) (fun _ v5 => m - (intOf v5).toNat)
  case atStart => exact ⟨0, Nat.zero_le _, by simp, rfl⟩
  case round =>
    obtain ⟨k, hk, rfl, rfl⟩ := hrel
    by_cases hlt : k < m
    · obtain ⟨ad, rfl, hx⟩ := h.at k (by omega) (by rw [mkB_len]; omega)
      rw [Int.toNat_natCast, mkB_rd m n k hlt] at hx
      go_wp2
      go_round
      case rel => exact ⟨k + 1, by omega, by go_num, by go_num⟩
      case measure => simp [intOf]; omega
    · go_wp2
      go_ret
      have e : k = m := by omega
      subst e
      exact ⟨rfl, rfl⟩
end Go.Proofs.Ytghmeghbekkanaa
