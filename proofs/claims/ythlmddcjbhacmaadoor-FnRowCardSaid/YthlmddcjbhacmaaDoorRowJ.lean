/- Decimal numbers, written and read by the program and the reference. -/
import Derived.Test.YthlmddcjbhacmaaDoorRowI
import Derived.Lib.AppendIntMem
set_option linter.unusedVariables false
set_option linter.unusedSimpArgs false
namespace Go.Proofs.YthlmddcjbhacmaaDoor
open Go.RowKit Go.Proofs.YthlmddcjbhacmaaDoorW.PrintWords
/-- The library's variables that numbers are written and read by. -/
structure EnvR (w : World) : Prop where
  tab : Lib.TabIs Tryd.prog w "internal/strconv.uint64pow10" .u64 Lib.pow10Tab
  mx : ∃ m, w.cell? ⟨0, 0, none⟩ = some (.int .i64 m)
  syn : ∃ tp p, w.var? Tryd.prog "strconv.ErrSyntax" = some #[.iface tp p]
  rng : ∃ tp p, w.var? Tryd.prog "strconv.ErrRange" = some #[.iface tp p]
theorem gPow : Tryd.prog.globalNamed "internal/strconv.uint64pow10" = some 5 := by kernel_rfl
theorem gSyn : Tryd.prog.globalNamed "strconv.ErrSyntax" = some 2 := by kernel_rfl
theorem gRng : Tryd.prog.globalNamed "strconv.ErrRange" = some 3 := by kernel_rfl
theorem var_below {w w' : World} {s : String} {g : Nat} {cs : Array Value} (hg : Tryd.prog.globalNamed s = some g) (h : w.var? Tryd.prog s = some cs) (hb : Below w.heap.size w w') : w'.var? Tryd.prog s = some cs := by
  unfold World.var? at *
  rw [hg] at *
  simp only [Option.bind_some] at *
  have hl : g < w.heap.size := by
    rcases Nat.lt_or_ge g w.heap.size with h1 | h1
    · exact h1
    · rw [Array.getElem?_eq_none h1] at h
      cases h
  rw [hb.block _ hl]
  exact h
theorem EnvR.below {w w' : World} (h : EnvR w) (hb : Below w.heap.size w w') : EnvR w' := by
  obtain ⟨h1, ⟨m, h2⟩, ⟨t3, p3, h3⟩, ⟨t4, p4, h4⟩⟩ := h
  refine ⟨?_, ⟨m, cell_keep hb h2⟩, ⟨t3, p3, var_below gSyn h3 hb⟩, ⟨t4, p4, var_below gRng h4 hb⟩⟩
  have hg : 5 < w.heap.size := by
    have := h1.cell gPow 0 (by decide +kernel)
    exact World.block_lt_of_cell? w _ this
  unfold Lib.TabIs World.var? at *
  rw [gPow] at *
  simp only [Option.bind_some] at *
  rw [hb.block _ hg]
  exact h1
theorem impl_DecText (n : Int) (w : World) (h0 : -9223372036854775808 ≤ n) (h1 : n ≤ 9223372036854775807) (he : EnvR w) :
    Calls Tryd.prog 38 #[.int .i64 n] w fun e w' => e = .returned (.string ⟨(Lib.itoa n).toArray⟩) ∧ Below w.heap.size w w' := by
  have hi := Tryd.strconv_Itoa n h0 h1 w he.tab
  have HB := hR w; go_enter Tryd.func38, Tryd.ntmps38
  go_wp2_with fail
  refine hi.mono ?_
  rintro _ w1 ⟨rfl, k, os, rfl⟩
  have hb := Lib.below_grow w.heap.size w (Nat.le_refl _) k os
  generalize Go.Sort.grow (w.drewN k) os = w1 at *
  go_wp2_with fail
  go_ret
  exact ⟨rfl, hb⟩
theorem dec_cut (k : Nat) (h : k < 10) : (⟨#[48, 49, 50, 51, 52, 53, 54, 55, 56, 57]⟩ : ByteArray).extract k (k + 1) = ⟨#[UInt8.ofNat (48 + k)]⟩ := by
  have : ∀ k : Fin 10, ((⟨#[48, 49, 50, 51, 52, 53, 54, 55, 56, 57]⟩ : ByteArray).extract k.val (k.val + 1)).data = #[UInt8.ofNat (48 + k.val)] := by decide +kernel
  have := this ⟨k, h⟩
  cases hx : (⟨#[48, 49, 50, 51, 52, 53, 54, 55, 56, 57]⟩ : ByteArray).extract k (k + 1) with
  | mk d => rw [hx] at this; exact congrArg ByteArray.mk this
/-- The digits of m ahead of T. -/
def ahead (m : Nat) (T : List UInt8) : List UInt8 := if m = 0 then T else Lib.decDigits m ++ T
theorem ahead_step (m : Nat) (T : List UInt8) (h : m ≠ 0) : ahead m T = ahead (m / 10) (UInt8.ofNat (48 + m % 10) :: T) := by
  unfold ahead
  rw [if_neg h, Lib.decDigits]
  by_cases h1 : m < 10
  · rw [dif_pos h1, if_pos (by omega), Nat.mod_eq_of_lt h1]
    rfl
  · rw [dif_neg h1, if_neg (by omega), List.append_assoc]
    rfl
theorem spec_DecText (n : Nat) (w : World) (h1 : n ≤ 9223372036854775807) :
    Calls Tryd.prog 40 #[.int .i64 n] w fun e w' => e = .returned (.string ⟨(Lib.itoa n).toArray⟩) ∧ Below w.heap.size w w' := by
  rw [itoa_pos (by omega), Int.toNat_natCast]
  by_cases h0 : n = 0
  · subst h0
    rw [show Lib.decDigits 0 = [48] from by rw [Lib.decDigits]; rfl]
    have HB := hR w; go_enter Tryd.func40, Tryd.ntmps40
    go_wp2
    go_ret
    exact ⟨rfl, blw⟩
  have hn : ¬ (n : Int) = 0 := by omega
  have HB := hR w; go_enter Tryd.func40, Tryd.ntmps40
  go_wp2_with fail
  go_loopw [3, 4, 5] (fun v3 v4 v5 wr => ∃ m : Nat, ∃ T : List UInt8, m ≤ n ∧ v4 = .int .i64 m ∧ v3 = .string ⟨T.toArray⟩ ∧ T.length + m ≤ n ∧ Aside0 (ahead m T = Lib.decDigits n) ∧ Aside0 (Below w.heap.size w wr)) (fun _ v4 _ _ => (intOf v4).toNat)
  case atStart => exact ⟨n, [], Nat.le_refl _, rfl, rfl, by simp, ⟨by rw [ahead, if_neg h0]; simp⟩, HB⟩
  case round =>
    obtain ⟨m, T, hm, rfl, rfl, hT, HA, HB⟩ := hrel
    by_cases hm0 : m = 0
    · subst hm0
      go_wp2_with fail
      go_ret
      have e := HA.out
      rw [ahead, if_pos rfl] at e
      exact ⟨ret_of (congrArg (fun x : List UInt8 => Value.string ⟨x.toArray⟩) e), HB.out⟩
    · have hm1 : ¬ (m : Int) = 0 := by omega
      go_wp2_with fail
      have e := HA.out
      rw [ahead_step m T hm0] at e
      exact ⟨⟨m / 10, UInt8.ofNat (48 + m % 10) :: T, by omega, by go_num, congrArg Value.string (by rw [dec_cut _ (by omega)]; exact ba_cons _ _), by simp; omega, ⟨e⟩, HB⟩, by simp [intOf]; omega⟩
theorem numEnd_cases {α : Type} (e : Lib.NumEnd α) : e = Lib.NumEnd.ofOption none ∨ e = .range ∨ ∃ v, e = .ok v := by
  cases e
  · exact .inr (.inr ⟨_, rfl⟩)
  · exact .inl rfl
  · exact .inr (.inl rfl)
theorem impl_ReadDec (l : List UInt8) (w : World) (hl : l.length ≤ 281474976710656) (he : EnvR w) :
    Calls Tryd.prog 46 #[.string ⟨l.toArray⟩] w fun e w' => e = .returned (.int .i64 (readDec l)) ∧ Below w.heap.size w w' := by
  have hsz := ba_size l
  rcases numEnd_cases (Lib.atoiAll l) with ha | ha | ⟨v, ha⟩
  · rw [show readDec l = -1 from by unfold readDec; rw [ha]; rfl]
    obtain ⟨tp, p, hv⟩ := he.syn
    have hA := Tryd.strconv_Atoi_syntax_var ⟨l.toArray⟩ (by rw [hsz]; exact hl) ha tp p w hv
    have HB := hR w; go_enter Tryd.func46, Tryd.ntmps46
    go_wp2_with fail
    refine hA.mono ?_
    rintro _ w1 ⟨N, rfl, _, _, hb⟩
    (have HB := Aside0.mk (below_step (w := w) blw hb); have hz1 := hb.size; obtain ⟨hcl1, hfr1, hlt1, _⟩ := bcell hb; (try simp only [sA, sC, sD] at hz1); (try simp only [sA, sC, sD] at hcl1 hfr1 hlt1); have HB1 := hR w1; clear hb)
    go_wp2_with fail
    go_ret
    exact ⟨rfl, blw⟩
  · rw [show readDec l = -1 from by unfold readDec; rw [ha]]
    obtain ⟨tp, p, hv⟩ := he.rng
    have hA := Tryd.strconv_Atoi_range_var ⟨l.toArray⟩ (by rw [hsz]; exact hl) ha tp p w hv
    generalize Lib.atoiSat (⟨l.toArray⟩ : ByteArray).data.toList = z at hA
    have HB := hR w; go_enter Tryd.func46, Tryd.ntmps46
    go_wp2_with fail
    refine hA.mono ?_
    rintro _ w1 ⟨N, rfl, _, _, hb⟩
    (have HB := Aside0.mk (below_step (w := w) blw hb); have hz1 := hb.size; obtain ⟨hcl1, hfr1, hlt1, _⟩ := bcell hb; (try simp only [sA, sC, sD] at hz1); (try simp only [sA, sC, sD] at hcl1 hfr1 hlt1); have HB1 := hR w1; clear hb)
    go_wp2_with fail
    go_ret
    exact ⟨rfl, blw⟩
  · rw [show readDec l = if 0 ≤ v ∧ v ≤ 999999999 ∧ Lib.itoa v = l then v else -1 from by unfold readDec; rw [ha]]
    have hA := Tryd.strconv_Atoi_ok ⟨l.toArray⟩ (by rw [hsz]; omega) v ha w
    have hbv := Lib.atoiAll_bounds ha
    have hwi := fun W => impl_within v 0 999999999 W
    have hdt := fun W e => impl_DecText v W hbv.1 hbv.2 e
    have hA : Calls Tryd.prog 73 #[.string ⟨l.toArray⟩] w fun e w' => e = .returned (.tuple #[.int .i64 v, .nilIface]) ∧ Below w.heap.size w w' := hA.mono (fun e w' h => ⟨h.1, by
      rcases h.2 with rfl | ⟨t, rfl⟩
      · exact Below.refl _ _
      · exact Lib.bytesWorld_below _ _ _⟩)
    by_cases c1 : 0 ≤ v ∧ v ≤ 999999999
    · rw [show (decide ((0 : Int) ≤ v) && decide (v ≤ 999999999)) = true from by simp; omega] at hwi
      by_cases c2 : Lib.itoa v = l
      · have c2' : (Lib.itoa v == l) = true := by simp [c2]
        rw [if_pos ⟨c1.1, c1.2, c2⟩]
        have HB := hR w; go_enter Tryd.func46, Tryd.ntmps46
        go_wp2_with fail
        refine (hA).mono ?_
        rintro _ w1 ⟨rfl, hb⟩
        (have HB := Aside0.mk (below_step (w := w) blw hb); have hz1 := hb.size; obtain ⟨hcl1, hfr1, hlt1, _⟩ := bcell hb; (try simp only [sA, sC, sD] at hz1); (try simp only [sA, sC, sD] at hcl1 hfr1 hlt1); have HB1 := hR w1; clear hb)
        go_wp2_with fail
        refine (hwi _).mono ?_
        rintro _ _ ⟨rfl, rfl⟩
        go_wp2_with fail
        refine (hdt _ (he.below HB.out)).mono ?_
        rintro _ w2 ⟨rfl, hb⟩
        (have HB := Aside0.mk (below_step (w := w) blw hb); have hz2 := hb.size; obtain ⟨hcl2, hfr2, hlt2, _⟩ := bcell hb; (try simp only [sA, sC, sD] at hz2); (try simp only [sA, sC, sD] at hcl2 hfr2 hlt2); have HB2 := hR w2; clear hb)
        go_wp2_with fail
        go_ret
        exact ⟨rfl, blw⟩
      · have c2' : (Lib.itoa v == l) = false := by simp [c2]
        rw [if_neg (fun h => c2 h.2.2)]
        have HB := hR w; go_enter Tryd.func46, Tryd.ntmps46
        go_wp2_with fail
        refine (hA).mono ?_
        rintro _ w1 ⟨rfl, hb⟩
        (have HB := Aside0.mk (below_step (w := w) blw hb); have hz1 := hb.size; obtain ⟨hcl1, hfr1, hlt1, _⟩ := bcell hb; (try simp only [sA, sC, sD] at hz1); (try simp only [sA, sC, sD] at hcl1 hfr1 hlt1); have HB1 := hR w1; clear hb)
        go_wp2_with fail
        refine (hwi _).mono ?_
        rintro _ _ ⟨rfl, rfl⟩
        go_wp2_with fail
        refine (hdt _ (he.below HB.out)).mono ?_
        rintro _ w2 ⟨rfl, hb⟩
        (have HB := Aside0.mk (below_step (w := w) blw hb); have hz2 := hb.size; obtain ⟨hcl2, hfr2, hlt2, _⟩ := bcell hb; (try simp only [sA, sC, sD] at hz2); (try simp only [sA, sC, sD] at hcl2 hfr2 hlt2); have HB2 := hR w2; clear hb)
        go_wp2_with fail
        go_ret
        exact ⟨rfl, blw⟩
    · rw [show (decide ((0 : Int) ≤ v) && decide (v ≤ 999999999)) = false from by simp; omega] at hwi
      rw [if_neg (fun h => c1 ⟨h.1, h.2.1⟩)]
      have HB := hR w; go_enter Tryd.func46, Tryd.ntmps46
      go_wp2_with fail
      refine (hA).mono ?_
      rintro _ w1 ⟨rfl, hb⟩
      (have HB := Aside0.mk (below_step (w := w) blw hb); have hz1 := hb.size; obtain ⟨hcl1, hfr1, hlt1, _⟩ := bcell hb; (try simp only [sA, sC, sD] at hz1); (try simp only [sA, sC, sD] at hcl1 hfr1 hlt1); have HB1 := hR w1; clear hb)
      go_wp2_with fail
      refine (hwi _).mono ?_
      rintro _ _ ⟨rfl, rfl⟩
      go_wp2_with fail
      go_ret
      exact ⟨rfl, blw⟩
theorem pow10 (j : Nat) (h : j ≤ 9) : 10 ^ j ≤ 1000000000 := by
  have : ∀ j : Fin 10, 10 ^ j.val ≤ 1000000000 := by decide +kernel
  exact this ⟨j, by omega⟩
set_option maxRecDepth 20000 in
theorem spec_ReadDec (l : List UInt8) (w : World) (hl : l.length ≤ 281474976710656) :
    Calls Tryd.prog 48 #[.string ⟨l.toArray⟩] w fun e w' => e = .returned (.int .i64 (readDec l)) ∧ Below w.heap.size w w' := by
  have hsz := ba_size l
  have HB := hR w; go_enter Tryd.func48, Tryd.ntmps48
  go_wp2_with fail
  go_loopw [3, 4] (fun v3 v4 wr => ∃ j : Nat, ∃ n : Nat, j ≤ l.length ∧ v4 = .int .i64 j ∧ v3 = .int .i64 n ∧ n < 10 ^ j ∧ (j = 0 ∨ l.length ≤ 9) ∧ Aside0 (Lib.decFrom 0 (l.take j) = some n) ∧ Aside0 (Below w.heap.size w wr)) (fun _ v4 _ => l.length - (intOf v4).toNat)
  case atStart => exact ⟨0, 0, by omega, rfl, rfl, by decide, .inl rfl, ⟨by simp [Lib.decFrom]⟩, HB⟩
  case round =>
    obtain ⟨j, n, hj, rfl, rfl, n1, hj9, HD, HB⟩ := hrel
    by_cases hlt : j < l.length
    · obtain ⟨b, eb⟩ := byte_at hlt
      have hat := ba_at eb
      have hb8 := b.toNat_lt
      have hdg := fun W => spec_l01Digit (b.toNat : Int) W (by omega) (by omega)
      obtain ⟨x, ex⟩ : ∃ x : Nat, b.toNat = x := ⟨_, rfl⟩
      have hmem : b ∈ l := List.mem_of_getElem? eb
      have EB := Aside0.mk eb
      have EX := Aside0.mk ex
      rw [ex] at hdg hb8
      clear eb
      have hlt' : (j : Int) < (l.length : Int) := by omega
      by_cases c1 : 48 ≤ x ∧ x ≤ 57
      · rw [show (decide ((48 : Int) ≤ x) && decide ((x : Int) ≤ 57)) = true from by simp; omega] at hdg
        by_cases c9 : 9 < l.length
        · have c9' : (9 : Int) < (l.length : Int) := by omega
          clear hj9 n1
          go_wp2_with fail
          refine (hdg _).mono ?_
          rintro _ _ ⟨rfl, rfl⟩
          go_wp2_with fail
          go_ret
          exact ⟨ret_of (congrArg (Value.int .i64) (readDec_no (.inl c9)).symm), HB.out⟩
        · have c9' : ¬ (9 : Int) < (l.length : Int) := by omega
          have hp := pow10 j (by omega)
          have N1 := Aside0.mk n1
          have n2 : n < 1000000000 := by omega
          clear hj9 n1 hp
          go_wp2_with fail
          refine (hdg _).mono ?_
          rintro _ _ ⟨rfl, rfl⟩
          go_wp2_with fail
          have hdv : Lib.digitVal b = some (x - 48) := by
            unfold Lib.digitVal
            rw [EX.out, if_pos c1]
          have e := Lib.decFrom_take l j 0 n b (x - 48) HD.out EB.out hdv
          exact ⟨⟨j + 1, n * 10 + (x - 48), by omega, by go_num, congrArg (Value.int .i64) (by omega), by rw [Nat.pow_succ]; have := N1.out; omega, .inr (by omega), ⟨e⟩, HB⟩, by simp [intOf]; omega⟩
      · rw [show (decide ((48 : Int) ≤ x) && decide ((x : Int) ≤ 57)) = false from by simp; omega] at hdg
        clear hj9 n1
        go_wp2_with fail
        refine (hdg _).mono ?_
        rintro _ _ ⟨rfl, rfl⟩
        go_wp2_with fail
        go_ret
        exact ⟨ret_of (congrArg (Value.int .i64) (readDec_no (.inr (.inl ⟨b, hmem, by rw [EX.out]; exact c1⟩))).symm), HB.out⟩
    · obtain rfl : j = l.length := by omega
      have hd := HD.out
      rw [List.take_length] at hd
      by_cases hn : l = []
      · subst hn
        go_wp2_with fail
        go_ret
        exact ⟨ret_of (congrArg (Value.int .i64) (readDec_no (.inr (.inr rfl))).symm), HB.out⟩
      · have hne : l.length ≠ 0 := fun h => hn (List.length_eq_zero_iff.1 h)
        have hl9 : l.length ≤ 9 := by omega
        have hp := pow10 l.length hl9
        have hr := readDec_of hd hn hl9 (by omega)
        have hem : l.isEmpty = false := by cases l with | nil => exact absurd rfl hn | cons => rfl
        have hdt := fun W => spec_DecText n W (by omega)
        have n2 : n < 1000000000 := by omega
        have HN := Aside0.mk hr
        clear hj9 n1 hp hd hr hne
        by_cases c2 : Lib.itoa n = l
        · have c2' : (Lib.itoa n == l) = true := by simp [c2]
          go_wp2_with fail
          refine (hdt _).mono ?_
          rintro _ w2 ⟨rfl, hb⟩
          (have HB := Aside0.mk (below_step (w := w) blw hb); have hz2 := hb.size; obtain ⟨hcl2, hfr2, hlt2, _⟩ := bcell hb; (try simp only [sA, sC, sD] at hz2); (try simp only [sA, sC, sD] at hcl2 hfr2 hlt2); have HB2 := hR w2; clear hb)
          go_wp2_with fail
          go_ret
          exact ⟨ret_of (congrArg (Value.int .i64) (by rw [HN.out, if_pos c2])), blw⟩
        · have c2' : (Lib.itoa n == l) = false := by simp [c2]
          go_wp2_with fail
          refine (hdt _).mono ?_
          rintro _ w2 ⟨rfl, hb⟩
          (have HB := Aside0.mk (below_step (w := w) blw hb); have hz2 := hb.size; obtain ⟨hcl2, hfr2, hlt2, _⟩ := bcell hb; (try simp only [sA, sC, sD] at hz2); (try simp only [sA, sC, sD] at hcl2 hfr2 hlt2); have HB2 := hR w2; clear hb)
          go_wp2_with fail
          go_ret
          exact ⟨ret_of (congrArg (Value.int .i64) (by rw [HN.out, if_neg c2])), blw⟩
end Go.Proofs.YthlmddcjbhacmaaDoor
