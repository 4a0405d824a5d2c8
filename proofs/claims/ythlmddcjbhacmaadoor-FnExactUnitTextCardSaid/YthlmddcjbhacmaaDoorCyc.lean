/- Lists of cycles of the exact laws: read, made, copied, compared, marked. -/
import Derived.Test.YthlmddcjbhacmaaDoorByt
set_option linter.unusedVariables false
set_option linter.unusedSimpArgs false
namespace Go.Proofs.YthlmddcjbhacmaaDoor
open Go.RowKit Go.Proofs.YthlmddcjbhacmaaDoorW.PrintWords
structure Cyc where
  a : Int
  d : Int
  w : Bool
def Cyc.ok (c : Cyc) : Prop := 0 ≤ c.a ∧ c.a < 65536 ∧ 0 ≤ c.d ∧ c.d < 256
def cycK : Kd Cyc := Kd.iso (Kd.pair (Kd.int .u16) (Kd.pair (Kd.int .u8) Kd.bool)) (fun c => (c.a, c.d, c.w))
def OwnC (w : World) (base : Nat) (v : Value) (l : List Cyc) : Prop := Kd.R cycK 45 w base (fun _ => True) v l
theorem add_next (a : Addr) (n m : Nat) : a.add (n + (m + 1)) = ⟨(a.add n).block, (a.add n).off + (m + 1), none⟩ := by
  unfold Addr.add
  by_cases h : n = 0
  · subst h; simp
  · simp [h]; omega
theorem cyc_at {w : World} {A : Option Addr} {n : Nat} {l : List Cyc} (h : cycK.C w A n l) (i : Int) (h0 : 0 ≤ i) (h1 : i < n) (z : Cyc) :
    ∃ ad, A = some ad ∧ w.cell? (ad.add (i.toNat * 3)) = some (.int .u16 (l.getD i.toNat z).a) ∧ w.cell? (ad.add (i.toNat * 3 + 1)) = some (.int .u8 (l.getD i.toNat z).d) ∧ w.cell? (ad.add (i.toNat * 3 + 2)) = some (.bool (l.getD i.toNat z).w) := by
  obtain ⟨ad, c, rfl, _, hk, hx⟩ := ReadsRow.get_ h z i h0 h1
  obtain ⟨c0, c1, rfl, k0, c2, c3, rfl, k2, k3⟩ := hk
  obtain rfl : c0 = [_] := k0
  obtain rfl : c2 = [_] := k2
  obtain rfl : c3 = [_] := k3
  exact ⟨ad, rfl, hx 0 _ rfl, hx 1 _ rfl, hx 2 _ rfl⟩
theorem OwnC.put {W : World} {base g n cap : Nat} {l : List Cyc} (h : OwnC W base (.slice (some ⟨g, 0, none⟩) n cap) l) (k : Nat) (hk : k < n) (x : Cyc) :
    (∃ c0 c1 c2, W.cell? ⟨g, k * 3, none⟩ = some c0 ∧ W.cell? ⟨g, k * 3 + 1, none⟩ = some c1 ∧ W.cell? ⟨g, k * 3 + 2, none⟩ = some c2) ∧ (∀ j, W.frozen? ⟨g, k * 3 + j, none⟩ = false) ∧
    OwnC (((W.setCell ⟨g, k * 3, none⟩ (.int .u16 x.a)).setCell ⟨g, k * 3 + 1, none⟩ (.int .u8 x.d)).setCell ⟨g, k * 3 + 2, none⟩ (.bool x.w)) base (.slice (some ⟨g, 0, none⟩) n cap) (l.set k x) ∧
    W.grownBy (((W.setCell ⟨g, k * 3, none⟩ (.int .u16 x.a)).setCell ⟨g, k * 3 + 1, none⟩ (.int .u8 x.d)).setCell ⟨g, k * 3 + 2, none⟩ (.bool x.w)) (some g) := by
  obtain ⟨c, hc, hM, hx, hf⟩ := Kd.R_elem h ⟨0, 0, false⟩ (k : Int) (by omega) (by omega)
  rw [Int.toNat_natCast] at hx hf
  have hs : cycK.sz = 3 := rfl
  rw [hs] at hc hx hf
  obtain ⟨h1, h2⟩ := Kd.R_seg (okp := fun k => True ∧ k ≠ g) h (k : Int) (by omega) (by omega) (c := c) (seg := [.int .u16 x.a, .int .u8 x.d, .bool x.w]) (j := 0) (x' := x) hc (by rw [Int.toNat_natCast]; exact hx) (Nat.le_refl 3) (by
    match c, hc with
    | [_, _, _], _ => exact ⟨[_], _, rfl, rfl, [_], [_], rfl, rfl, rfl⟩) (fun _ hk => hk)
  rw [Int.toNat_natCast] at h1 h2
  match c, hc, hx with
  | [c0, c1, c2], _, hx => exact ⟨⟨c0, c1, c2, hx 0 _ rfl, hx 1 _ rfl, hx 2 _ rfl⟩, hf, h1, h2⟩
theorem take_setG {α : Type} (l : List α) (z : α) (k : Nat) (h : k < l.length) : (l.take k ++ List.replicate (l.length - k) z).set k (l.getD k z) = l.take (k + 1) ++ List.replicate (l.length - (k + 1)) z := by
  rw [show l.length - k = (l.length - (k + 1)) + 1 by omega, List.replicate_succ, List.set_append_right _ _ (by simp; omega), List.getD_eq_getElem?_getD, List.getElem?_eq_getElem h]
  simp only [List.length_take, show min k l.length = k by omega, Nat.sub_self, List.set_cons_zero, Option.getD_some]
  rw [List.take_succ_eq_append_getElem h, List.append_assoc]
  rfl
theorem laws_eqCyc (c : Cyc) (w : World) : Calls Tryd.prog 30 #[.agg #[.int .u16 c.a, .int .u8 c.d, .bool c.w], .agg #[.int .u16 c.a, .int .u8 c.d, .bool c.w]] w fun e w' => e = .returned (.bool true) ∧ Below w.heap.size w w' := by
  have HB := hR w; go_enter Tryd.func30, Tryd.ntmps30
  go_wp2
  go_ret
  exact ⟨rfl, blw⟩
theorem laws_toCyc (c : Cyc) (w : World) : Calls Tryd.prog 24 #[.agg #[.int .u16 c.a, .int .u8 c.d, .bool c.w]] w fun e w' => e = .returned (.agg #[.int .u16 c.a, .int .u8 c.d, .bool c.w]) ∧ Below w.heap.size w w' := by
  have HB := hR w; go_enter Tryd.func24, Tryd.ntmps24
  go_wp2
  (refine bodyPost_ret (v := .agg #[.int .u16 c.a, .int .u8 c.d, .bool c.w]) (by (simp only [results, Tryd.results24]; go_simp <;> (rfl))) rfl ?_)
  exact ⟨rfl, blw⟩
theorem infoCyc : (Tryd.prog.info? 45).map (fun i => (i.zero, i.size, i.bytes)) = some (some (.agg #[.int .u16 0, .int .u8 0, .bool false]), 3, 4) := by kernel_rfl
set_option maxRecDepth 20000 in
set_option maxHeartbeats 400000 in
theorem laws_toCycS (A : Option Addr) (n : Nat) (l : List Cyc) (w : World) (h : cycK.C w A l.length l) (hl : l.length ≤ 1048576) :
    Calls Tryd.prog 8 #[.slice A l.length n] w fun e w' => ∃ A1 c1, e = .returned (.slice A1 l.length c1) ∧ OwnC w' w.heap.size (.slice A1 l.length c1) l ∧ Below w.heap.size w w' := by
  have HB := hR w; go_enter Tryd.func8, Tryd.ntmps8
  go_wp2_with (first | ((with_reducible refine gate_dst (N := 7) rfl ?_); refine Kd.R_make cycK w.heap.size 45 rfl (N := 7) rfl 25 _ _ rfl (l.length : Int) rfl rfl Tryd.underlying25 (.agg #[.int .u16 0, .int .u8 0, .bool false]) 4 infoCyc rfl (by decide) (by omega) ⟨0, 0, false⟩ (ok := fun _ => True) (okp := fun _ => True) ⟨[_], _, rfl, rfl, [_], [_], rfl, rfl, rfl⟩ (fun _ hk => hk) trivial (by omega) (by omega) (Below.refl _ _) (Nat.le_refl _) ?_; intro v1 w1 ho hb hg hn))
  simp only [Int.toNat_natCast] at ho
  obtain ⟨A1, c1, rfl, hc1, hr1⟩ := Kd.R_reads ho
  simp only [List.length_replicate] at *
  have HA := Aside0.mk ho
  have HB := Aside0.mk hb
  clear hn hg hb ho hr1
  go_wp2
  go_loopw [4] (fun v4 wr => ∃ k : Nat, k ≤ l.length ∧ v4 = .int .i64 k ∧ Aside0 (OwnC wr w.heap.size (.slice A1 l.length c1) (l.take k ++ List.replicate (l.length - k) ⟨0, 0, false⟩)) ∧ Aside0 (Below w.heap.size w wr)) (fun v4 _ => l.length - (intOf v4).toNat)
  case atStart => exact ⟨0, Nat.zero_le _, rfl, ⟨by have := HA.out; simpa [OwnC] using this⟩, HB⟩
  case round =>
    obtain ⟨k, hk, rfl, HO, HB⟩ := hrel
    by_cases hlt : k < l.length
    · obtain ⟨ad, rfl, hx, hy, hz⟩ := cyc_at h k (by omega) (by omega) ⟨0, 0, false⟩
      rw [Int.toNat_natCast] at hx hy hz
      obtain ⟨x, ex⟩ : ∃ x, l.getD k ⟨0, 0, false⟩ = x := ⟨_, rfl⟩
      rw [ex] at hx hy hz
      have hx1 := (HB.out.cell (World.block_lt_of_cell? w _ hx)).trans hx
      have hy1 := (HB.out.cell (World.block_lt_of_cell? w _ hy)).trans hy
      have hz1 := (HB.out.cell (World.block_lt_of_cell? w _ hz)).trans hz
      rw [add_next] at hy1 hz1
      obtain ⟨g, cap, eo, gb, gl, cl, HG⟩ := Kd.R_form HO.out (by simp; omega)
      injection eo with ea en ec
      subst ea ec
      clear en
      go_wp2_with fail
      refine (laws_toCyc x wr).mono ?_
      rintro _ w2 ⟨rfl, hb⟩
      have HB := Aside0.mk (below_step HB.out hb)
      have HO := Aside0.mk (show OwnC _ _ _ _ from Kd.R_below HO.out hb)
      obtain ⟨⟨c0, c1, c2, q0, q1, q2⟩, hf, HP, _⟩ := HO.out.put k hlt x
      have f0 : w2.frozen? ⟨g, k * 3, none⟩ = false := hf 0
      have f1 := hf 1
      have f2 := hf 2
      clear hf
      have HP := Aside0.mk HP
      go_wp2_with fail
      exact ⟨⟨k + 1, by omega, by go_num, ⟨by rw [← take_setG l _ k hlt, ex]; exact HP.out⟩, ⟨blw⟩⟩, by simp [intOf]; omega⟩
    · go_wp2
      go_ret
      have e : k = l.length := by omega
      subst e
      exact ⟨_, _, rfl, by have := HO.out; simpa [List.take_length] using this, HB.out⟩
theorem laws_szCycS (A : Option Addr) (c : Nat) (m : Nat) (n : Int) (w : World) (hl : m ≤ 9223372036854775807) (h0 : 0 ≤ n) (h1 : n ≤ 1048576) :
    Calls Tryd.prog 6 #[.slice A m c, .int .i64 n] w fun e w' => e = .returned (.int .i64 (szF n m)) ∧ w = w' := by
  by_cases h : n - m < 0
  · have HB := hR w; go_enter Tryd.func6, Tryd.ntmps6
    go_wp2
    go_ret
    exact ⟨ret_of (by simp [szF, h]), rfl⟩
  · have HB := hR w; go_enter Tryd.func6, Tryd.ntmps6
    go_wp2
    go_ret
    exact ⟨ret_of (by unfold szF; rw [if_neg (by omega)]; rfl), rfl⟩
set_option maxRecDepth 20000 in
set_option maxHeartbeats 400000 in
theorem laws_eqCycS (A B : Option Addr) (c d : Nat) (l : List Cyc) (w : World) (h : cycK.C w A l.length l) (h2 : cycK.C w B l.length l) (hl : l.length ≤ 1048576) :
    Calls Tryd.prog 10 #[.slice A l.length c, .slice B l.length d] w fun e w' => e = .returned (.bool true) ∧ Below w.heap.size w w' := by
  have HB := hR w; go_enter Tryd.func10, Tryd.ntmps10
  go_wp2
  go_loopw [5] (fun v4 wr => ∃ k : Nat, k ≤ l.length ∧ v4 = .int .i64 k ∧ Aside0 (Below w.heap.size w wr)) (fun v4 _ => l.length - (intOf v4).toNat)
  case atStart => exact ⟨0, Nat.zero_le _, rfl, HB⟩
  case round =>
    obtain ⟨k, hk, rfl, HB⟩ := hrel
    by_cases hlt : k < l.length
    · obtain ⟨x, ex⟩ : ∃ x, l.getD k ⟨0, 0, false⟩ = x := ⟨_, rfl⟩
      obtain ⟨ad, rfl, hx, hy, hz⟩ := cyc_at h k (by omega) (by omega) ⟨0, 0, false⟩
      obtain ⟨ae, rfl, gx, gy, gz⟩ := cyc_at h2 k (by omega) (by omega) ⟨0, 0, false⟩
      rw [Int.toNat_natCast, ex] at hx hy hz gx gy gz
      have P1 := (HB.out.cell (World.block_lt_of_cell? w _ hx)).trans hx
      have P2 := (HB.out.cell (World.block_lt_of_cell? w _ hy)).trans hy
      have P3 := (HB.out.cell (World.block_lt_of_cell? w _ hz)).trans hz
      have R1 := (HB.out.cell (World.block_lt_of_cell? w _ gx)).trans gx
      have R2 := (HB.out.cell (World.block_lt_of_cell? w _ gy)).trans gy
      have R3 := (HB.out.cell (World.block_lt_of_cell? w _ gz)).trans gz
      rw [add_next] at P2 P3 R2 R3
      have HBr := Aside0.mk (Below.refl wr.heap.size wr)
      have q0 : (0 : Int) ≤ (k : Int) := by omega
      have q1 : (k : Int) < (l.length : Int) := by omega
      clear hx hy hz gx gy gz ex h h2
      go_wp2_with fail
      go_region_held3 (fun w' => Below w.heap.size w w' ∧ Below wr.heap.size wr w' ∧ w'.cell? (ad.add (k * 3)) = some (.int .u16 x.a) ∧ w'.cell? ⟨(ad.add (k * 3)).block, (ad.add (k * 3)).off + 1, none⟩ = some (.int .u8 x.d) ∧ w'.cell? ⟨(ad.add (k * 3)).block, (ad.add (k * 3)).off + 2, none⟩ = some (.bool x.w) ∧ w'.cell? (ae.add (k * 3)) = some (.int .u16 x.a) ∧ w'.cell? ⟨(ae.add (k * 3)).block, (ae.add (k * 3)).off + 1, none⟩ = some (.int .u8 x.d) ∧ w'.cell? ⟨(ae.add (k * 3)).block, (ae.add (k * 3)).off + 2, none⟩ = some (.bool x.w)) (first | (go_keep; done) | (go_split_ands; (repeat' apply And.intro) <;> (first | (with_reducible assumption) | (go_simp; done) | (exact cell_keep blw (by assumption)) | exact blw))) (first | (go_at_call 30; ((with_reducible refine (laws_eqCyc x _).mono ?_); rintro _ w1 ⟨rfl, hb⟩; have HB := Aside0.mk (below_step (w := w) blw hb); have HBr := Aside0.mk (below_step (w := wr) blw hb); have hz1 := hb.size; obtain ⟨hcl1, hfr1, hlt1, _⟩ := bcell hb; (try simp only [sA, sC, sD] at hz1); (try simp only [sA, sC, sD] at hcl1 hfr1 hlt1); have HB1 := hR w1; clear hb; have e1 := cell_keep HBr.out P1; have e2 := cell_keep HBr.out P2; have e3 := cell_keep HBr.out P3; have e4 := cell_keep HBr.out R1; have e5 := cell_keep HBr.out R2; have e6 := cell_keep HBr.out R3)))
      go_wp2
      exact ⟨⟨k + 1, by omega, by go_num, ⟨blw⟩⟩, by simp [intOf]; omega⟩
    · go_wp2
      go_ret
      exact ⟨rfl, HB.out⟩
def mkc (k : Int) : Cyc := ⟨k % 65536, (k + 1) % 256, (k + 1 + 1) % 3 == 0⟩
def mkC (k : Int) : Nat → List Cyc
  | 0 => []
  | n + 1 => mkc k :: mkC (k + 3) n
theorem mkC_len (n : Nat) : ∀ k, (mkC k n).length = n := by
  induction n with
  | zero => intro k; rfl
  | succ n ih => intro k; simp [mkC, ih]
theorem mkC_get (n : Nat) (z : Cyc) : ∀ (k : Int) (j : Nat), j < n → (mkC k n).getD j z = mkc (k + 3 * j) := by
  induction n with
  | zero => intro k j h; omega
  | succ n ih =>
    intro k j h
    cases j with
    | zero => simp [mkC]
    | succ j =>
      rw [mkC, List.getD_cons_succ, ih _ _ (by omega)]
      congr 1
      omega
theorem mkC_snoc (n : Nat) : ∀ k : Int, mkC k (n + 1) = mkC k n ++ [mkc (k + 3 * n)] := by
  induction n with
  | zero => intro k; simp [mkC]
  | succ n ih =>
    intro k
    rw [mkC, ih (k + 3), mkC]
    simp only [List.cons_append]
    congr 4
    omega
theorem mkC_set (l : List Cyc) (k : Int) (j : Nat) (h : j < l.length) : (mkC k j ++ l.drop j).set j (mkc (k + 3 * j)) = mkC k (j + 1) ++ l.drop (j + 1) := by
  rw [mkC_snoc, List.set_append_right _ _ (by rw [mkC_len]; omega), mkC_len, Nat.sub_self, List.drop_eq_getElem_cons h, List.set_cons_zero, List.append_assoc]
  rfl
def cd (l : List Cyc) (k : Nat) : Cyc := l.getD k ⟨0, 0, false⟩
structure Cs (w : World) (A : Option Addr) (l : List Cyc) : Prop where
  c : cycK.C w A l.length l
  b : ∀ k, (cd l k).ok
theorem Cs.below {w w1 : World} {A : Option Addr} {l : List Cyc} (h : Cs w A l) (hb : Below w.heap.size w w1) : Cs w1 A l := ⟨Kd.C_below h.c hb, h.b⟩
theorem OwnC.cs {w : World} {base : Nat} {A : Option Addr} {c : Nat} {l : List Cyc} (h : OwnC w base (.slice A l.length c) l) (hb : ∀ k, (cd l k).ok) : Cs w A l := ⟨(Kd.R_reads' h).2.2, hb⟩
theorem Cs.max {w : World} {A : Option Addr} {l : List Cyc} (h : Cs w A l) : l.length ≤ 9223372036854775807 := Kd.C_max h.c
end Go.Proofs.YthlmddcjbhacmaaDoor
