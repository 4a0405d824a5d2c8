/- The drawing of a law's inputs out of its bytes: a cursor in memory, and numbers below a bound. -/
import Derived.Test.YthlmddcjbhacmaaDoorByt
set_option linter.unusedVariables false
set_option linter.unusedSimpArgs false
namespace Go.Proofs.YthlmddcjbhacmaaDoor
open Go.RowKit Go.Proofs.YthlmddcjbhacmaaDoorW.PrintWords
theorem grown_alloc {a w : World} {row : Option Nat} (h : a.grownBy w row) (o : Obj) : a.grownBy (w.alloc o) row := h.trans (World.grownBy_alloc w o row)
theorem grown_drew {a w : World} {row : Option Nat} (h : a.grownBy w row) : a.grownBy w.drew row := ⟨h.os, h.tape, h.output, h.size, h.block⟩
theorem grown_drewN {a w : World} {row : Option Nat} (h : a.grownBy w row) (n : Nat) : a.grownBy (w.drewN n) row := by
  induction n with
  | zero => exact h
  | succ n ih => exact grown_drew ih
theorem grown_below {a w w' : World} {row : Option Nat} (h : a.grownBy w row) (hb : Below w.heap.size w w') : a.grownBy w' row :=
  h.trans ⟨hb.os, hb.tape, hb.output, hb.size, fun k hk _ => hb.block k hk⟩
theorem grown_set {a w : World} {g : Nat} (h : a.grownBy w (some g)) (i : Nat) (v : Value) : a.grownBy (w.setCell ⟨g, i, none⟩ v) (some g) := by
  exact h.trans ⟨rfl, rfl, rfl, by simp [World.setCell], fun k _ hk => Below.heap_setCell _ _ _ _ (fun e => hk (by simp [e]))⟩
theorem i64_and30 (n : Int) : bits .and .i64 n 1073741823 = n % 1073741824 := i64_mask 30 (by decide) n 1073741823 rfl (by decide)
structure Cur (w : World) (g : Nat) (A : Option Addr) (c : Nat) (l : List Int) : Prop where
  b : w.cell? ⟨g, 0, none⟩ = some (.slice A l.length c)
  i : ∃ i : Nat, i ≤ l.length ∧ w.cell? ⟨g, 1, none⟩ = some (.int .i64 i)
  h : ∃ h : Int, w.cell? ⟨g, 2, none⟩ = some (.int .i64 h)
  f1 : w.frozen? ⟨g, 1, none⟩ = false
  f2 : w.frozen? ⟨g, 2, none⟩ = false
  s : ∃ w0 : World, Bs w0 A l ∧ Below w0.heap.size w0 w ∧ w0.heap.size ≤ g
theorem Cur.below {w w' : World} {g : Nat} {A : Option Addr} {c : Nat} {l : List Int} (h : Cur w g A c l) (hb : Below w.heap.size w w') : Cur w' g A c l := by
  have hg : g < w.heap.size := World.block_lt_of_cell? w _ h.b
  obtain ⟨i, hi, ei⟩ := h.i
  obtain ⟨x, ex⟩ := h.h
  obtain ⟨w0, b0, k0, s0⟩ := h.s
  exact ⟨(hb.cell hg).trans h.b, ⟨i, hi, (hb.cell hg).trans ei⟩, ⟨x, (hb.cell hg).trans ex⟩, (hb.frozen hg).trans h.f1, (hb.frozen hg).trans h.f2, w0, b0, below_step k0 hb, s0⟩
set_option maxHeartbeats 400000 in
set_option maxRecDepth 20000 in
theorem spec_l01New (A : Option Addr) (c : Nat) (l : List Int) (w : World) (h : Bs w A l) (hl : l.length ≤ 1048576) :
    Calls Tryd.prog 31 #[.slice A l.length c] w fun e w' => ∃ g, e = .returned (.pointer (some ⟨g, 0, none⟩)) ∧ w.heap.size ≤ g ∧ Cur w' g A c l ∧ Below w.heap.size w w' := by
  have HB := hR w; go_enter Tryd.func31, Tryd.ntmps31
  go_wp2
  go_loop [3, 4] (fun v3 v4 => ∃ k : Nat, ∃ x : Int, k ≤ l.length ∧ 0 ≤ x ∧ x < 1073741824 ∧ v3 = .int .i64 x ∧ v4 = .int .i64 k) (fun _ v4 => l.length - (intOf v4).toNat)
  case atStart => exact ⟨0, _, Nat.zero_le _, by omega, by omega, rfl, rfl⟩
  case round =>
    obtain ⟨k, x, hk, hx0, hx1, rfl, rfl⟩ := hrel
    by_cases hlt : k < l.length ∧ k < 4000
    · obtain ⟨ad, rfl, hx⟩ := h.at k (by omega) (by omega)
      rw [Int.toNat_natCast] at hx
      obtain ⟨q1, q2⟩ := hlt
      have hr := h.b k
      have ha := i64_and30
      go_wp2
      exact ⟨⟨k + 1, _, by omega, Int.emod_nonneg _ (by omega), Int.emod_lt_of_pos _ (by omega), rfl, by go_num⟩, by simp [intOf]; omega⟩
    · by_cases hlt2 : k < l.length
      · have q2 : ¬ k < 4000 := fun e => hlt ⟨hlt2, e⟩
        go_wp2
        go_ret
        exact ⟨_, rfl, Nat.le_refl _, ⟨by go_simp, ⟨0, Nat.zero_le _, by go_simp⟩, ⟨x, by go_simp⟩, by go_simp, by go_simp, w, h, blw, Nat.le_refl _⟩, blw⟩
      · go_wp2
        go_ret
        exact ⟨_, rfl, Nat.le_refl _, ⟨by go_simp, ⟨0, Nat.zero_le _, by go_simp⟩, ⟨x, by go_simp⟩, by go_simp, by go_simp, w, h, blw, Nat.le_refl _⟩, blw⟩
set_option maxHeartbeats 400000 in
theorem spec_l01Byte (g : Nat) (A : Option Addr) (c : Nat) (l : List Int) (w : World) (h : Cur w g A c l) (hl : l.length ≤ 1048576) :
    Calls Tryd.prog 63 #[.pointer (some ⟨g, 0, none⟩)] w fun e w' => ∃ x, e = .returned (.int .i64 x) ∧ 0 ≤ x ∧ x < 256 ∧ Cur w' g A c l ∧ w.grownBy w' (some g) := by
  have hg : g < w.heap.size := World.block_lt_of_cell? w _ h.b
  have eb := h.b
  obtain ⟨i, hi, ei⟩ := h.i
  obtain ⟨x, ex⟩ := h.h
  have f1 := h.f1
  have f2 := h.f2
  obtain ⟨w0, b0, k0, s0⟩ := h.s
  have ha := i64_and255
  by_cases hlt : i < l.length
  · obtain ⟨ad, rfl, hx⟩ := b0.at i (by omega) (by omega)
    have hx1 := (k0.cell (World.block_lt_of_cell? w0 _ hx)).trans hx
    have hx2 : ∀ v, (w.setCell ⟨g, 2, none⟩ v).cell? (ad.add (i : Int).toNat) = some (.int .u8 (rd l i)) := fun v => ((below_set k0 s0).cell (World.block_lt_of_cell? w0 _ hx)).trans hx
    rw [Int.toNat_natCast] at hx2
    rw [Int.toNat_natCast] at hx1
    have hr := b0.b i
    have hi0 : (0 : Int) ≤ (i : Int) := by omega
    have hi1 : (i : Int) < (l.length : Int) := by omega
    have HB := hR w; go_enter Tryd.func63, Tryd.ntmps63
    go_wp2_with fail
    go_quiet (fail)
    go_wp2_with fail
    generalize hH : wrap64 (wrap64 (x * 6364136223846793005) + 1442695040888963407) = H
    generalize hX : bits BinOp.xor IntKind.i64 (H / 8589934592) (H / 35184372088832) % 256 = X
    have X0 : 0 ≤ X := by rw [← hX]; exact Int.emod_nonneg _ (by omega)
    have X1 : X < 256 := by rw [← hX]; exact Int.emod_lt_of_pos _ (by omega)
    clear hX hH
    go_quiet (fail)
    go_wp2_with fail
    go_quiet (fail)
    go_wp2_with fail
    go_ret
    exact ⟨_, rfl, Int.emod_nonneg _ (by omega), Int.emod_lt_of_pos _ (by omega), ⟨by go_simp, ⟨i + 1, by omega, by go_simp⟩, ⟨_, by go_simp; rfl⟩, by go_simp, by go_simp, w0, b0, blw, s0⟩, by (repeat (first | (with_reducible exact grown_refl _ _) | (with_reducible assumption) | (with_reducible apply grown_alloc) | (with_reducible apply grown_drew) | (with_reducible apply grown_drewN) | (with_reducible apply grown_set)))⟩
  · have hi1 : ¬ (i : Int) < (l.length : Int) := by omega
    have HB := hR w; go_enter Tryd.func63, Tryd.ntmps63
    go_wp2_with fail
    go_quiet (fail)
    go_wp2_with fail
    generalize hH : wrap64 (wrap64 (x * 6364136223846793005) + 1442695040888963407) = H
    generalize hX : bits BinOp.xor IntKind.i64 (H / 8589934592) (H / 35184372088832) % 256 = X
    have X0 : 0 ≤ X := by rw [← hX]; exact Int.emod_nonneg _ (by omega)
    have X1 : X < 256 := by rw [← hX]; exact Int.emod_lt_of_pos _ (by omega)
    clear hX hH
    go_quiet (fail)
    go_wp2_with fail
    go_ret
    exact ⟨_, rfl, X0, X1, ⟨by go_simp, ⟨i, hi, by go_simp⟩, ⟨_, by go_simp; rfl⟩, by go_simp, by go_simp, w0, b0, blw, s0⟩, by (repeat (first | (with_reducible exact grown_refl _ _) | (with_reducible assumption) | (with_reducible apply grown_alloc) | (with_reducible apply grown_drew) | (with_reducible apply grown_drewN) | (with_reducible apply grown_set)))⟩
/-- What a draw leaves: the cursor, and all else as it was. -/
structure Drew (w w' : World) (g : Nat) (A : Option Addr) (c : Nat) (l : List Int) : Prop where
  cur : Cur w' g A c l
  only : w.grownBy w' (some g)
theorem Drew.trans {w w1 w2 : World} {g : Nat} {A : Option Addr} {c : Nat} {l : List Int} (h : w.grownBy w1 (some g)) (k : Drew w1 w2 g A c l) : Drew w w2 g A c l := ⟨k.cur, h.trans k.only⟩
set_option maxHeartbeats 400000 in
theorem spec_l01Below (g : Nat) (A : Option Addr) (c : Nat) (l : List Int) (n : Int) (w : World) (h : Cur w g A c l) (hl : l.length ≤ 1048576) (h0 : 0 ≤ n) (h1 : n ≤ 2147483648) :
    Calls Tryd.prog 34 #[.pointer (some ⟨g, 0, none⟩), .int .i64 n] w fun e w' => ∃ x, e = .returned (.int .i64 x) ∧ 0 ≤ x ∧ (0 < n → x < n) ∧ Cur w' g A c l ∧ w.grownBy w' (some g) := by
  by_cases hn : n ≤ 0
  · have HB := hR w; go_enter Tryd.func34, Tryd.ntmps34
    go_wp2
    go_ret
    exact ⟨0, rfl, by omega, by omega, h, grown_refl _ _⟩
  by_cases hm : n ≤ 256
  · have HB := hR w; go_enter Tryd.func34, Tryd.ntmps34
    go_wp2_with (first | (go_at_call 63; ((with_reducible refine (spec_l01Byte _ _ _ _ _ h hl).mono ?_); rintro _ w1 ⟨x, rfl, x0, x1, hc, hb⟩; skip)))
    go_ret
    exact ⟨_, rfl, Int.emod_nonneg _ (by omega), fun _ => Int.emod_lt_of_pos _ (by omega), hc, hb⟩
  · have HB := hR w; go_enter Tryd.func34, Tryd.ntmps34
    go_wp2_with fail
    refine (spec_l01Byte _ _ _ _ _ h hl).mono ?_
    rintro _ w1 ⟨x, rfl, x0, x1, hc1, hb1⟩
    go_wp2_with fail
    refine (spec_l01Byte _ _ _ _ _ hc1 hl).mono ?_
    rintro _ w2 ⟨y, rfl, y0, y1, hc2, hb2⟩
    go_wp2_with fail
    refine (spec_l01Byte _ _ _ _ _ hc2 hl).mono ?_
    rintro _ w3 ⟨z, rfl, z0, z1, hc3, hb3⟩
    go_wp2_with fail
    refine (spec_l01Byte _ _ _ _ _ hc3 hl).mono ?_
    rintro _ w4 ⟨u, rfl, u0, u1, hc4, hb4⟩
    go_wp2_with fail
    go_ret
    exact ⟨_, rfl, Int.emod_nonneg _ (by omega), fun _ => Int.emod_lt_of_pos _ (by omega), hc4, ((hb1.trans hb2).trans hb3).trans hb4⟩
theorem ad_block (a : Addr) (n : Nat) : (a.add n).block = a.block := by unfold Addr.add; split <;> rfl
set_option maxHeartbeats 400000 in
theorem spec_l01PickInt (g : Nat) (A : Option Addr) (c : Nat) (l : List Int) (B : Option Addr) (d : Nat) (L : List Int) (w : World) (h : Cur w g A c l) (hl : l.length ≤ 1048576)
    (hL : Kd.C (Kd.int .i64) w B L.length L) (h0 : 0 < L.length) (h1 : L.length ≤ 1048576) (hne : ∀ ad, B = some ad → ad.block ≠ g) :
    Calls Tryd.prog 33 #[.pointer (some ⟨g, 0, none⟩), .slice B L.length d] w fun e w' => ∃ k : Nat, k < L.length ∧ e = .returned (.int .i64 (rd L k)) ∧ Cur w' g A c l ∧ w.grownBy w' (some g) := by
  have HB := hR w; go_enter Tryd.func33, Tryd.ntmps33
  go_wp2_with fail
  refine (spec_l01Below _ _ _ _ _ _ h hl (by omega) (by omega)).mono ?_
  rintro _ w1 ⟨x, rfl, x0, x1, hc, hb⟩
  have x2 := x1 (by omega)
  obtain ⟨ad, rfl, hx⟩ := Kd.at_int hL x x0 x2
  have hx1 := hb.cell hx (by have := hne ad rfl; rw [ad_block]; intro e; injection e with e; exact this e)
  go_wp2
  go_ret
  exact ⟨x.toNat, by omega, by rw [Int.toNat_of_nonneg x0]; rfl, hc, hb⟩
theorem C_alloc (W : World) (L : List Int) (e : TypeId) (hm : L.length ≤ 1048576) : Kd.C (Kd.int .i64) (W.alloc (Obj.cells (L.map (Value.int .i64)).toArray e)) (some ⟨W.heap.size, 0, none⟩) L.length L := by
  refine Kd.C_of_reads (d := (0 : Int)) (h1 := fun _ => rfl) ⟨rfl, by omega, fun _ => ⟨_, rfl, fun j hj => ?_⟩⟩
  have ea : (⟨W.heap.size, 0, none⟩ : Addr).add j = ⟨W.heap.size, j, none⟩ := by unfold Addr.add; split <;> simp_all
  rw [ea, World.cell?_alloc_new]
  simp [hj]
end Go.Proofs.YthlmddcjbhacmaaDoor
