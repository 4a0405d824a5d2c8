/- Digits in base 16, written and read by the program and the reference. -/
import Derived.Test.YthlmddcjbhacmaaDoorTxt
import Derived.Test.YthlmddcjbhacmaaDoorSiz
import Derived.Test.YthlmddcjbhacmaaDoorByt
set_option linter.unusedVariables false
set_option linter.unusedSimpArgs false
namespace Go.Proofs.YthlmddcjbhacmaaDoor
open Go.RowKit Go.Proofs.YthlmddcjbhacmaaDoorW.PrintWords
def hexB : ByteArray := ⟨#[48, 49, 50, 51, 52, 53, 54, 55, 56, 57, 65, 66, 67, 68, 69, 70]⟩
theorem hex_at (k : Nat) (h : k < 16) : (⟨#[48, 49, 50, 51, 52, 53, 54, 55, 56, 57, 65, 66, 67, 68, 69, 70]⟩ : ByteArray)[k]'h = hexD.getD k 0 := by
  have : ∀ k : Fin 16, (⟨#[48, 49, 50, 51, 52, 53, 54, 55, 56, 57, 65, 66, 67, 68, 69, 70]⟩ : ByteArray)[k.val]'k.isLt = hexD.getD k.val 0 := by decide +kernel
  exact this ⟨k, h⟩
theorem hex_cut (k : Nat) (h : k < 16) : (⟨#[48, 49, 50, 51, 52, 53, 54, 55, 56, 57, 65, 66, 67, 68, 69, 70]⟩ : ByteArray).extract k (k + 1) = ⟨#[hexD.getD k 0]⟩ := by
  have : ∀ k : Fin 16, ((⟨#[48, 49, 50, 51, 52, 53, 54, 55, 56, 57, 65, 66, 67, 68, 69, 70]⟩ : ByteArray).extract k.val (k.val + 1)).data = #[hexD.getD k.val 0] := by decide +kernel
  have := this ⟨k, h⟩
  cases hx : (⟨#[48, 49, 50, 51, 52, 53, 54, 55, 56, 57, 65, 66, 67, 68, 69, 70]⟩ : ByteArray).extract k (k + 1) with
  | mk d => rw [hx] at this; exact congrArg ByteArray.mk this
theorem ba_cons (b : UInt8) (l : List UInt8) : (⟨#[b]⟩ : ByteArray) ++ ⟨l.toArray⟩ = ⟨(b :: l).toArray⟩ := by
  apply ByteArray.ext
  simp
theorem ba_app (a l : List UInt8) : (⟨a.toArray⟩ : ByteArray) ++ ⟨l.toArray⟩ = ⟨(a ++ l).toArray⟩ := by
  apply ByteArray.ext
  simp
theorem add0 (g j : Nat) : (⟨g, 0, none⟩ : Addr).add j = ⟨g, j, none⟩ := by
  unfold Addr.add
  by_cases h : j = 0
  · subst h; rfl
  · simp [h]
set_option maxRecDepth 20000 in
theorem impl_HexText (n : Int) (d : Nat) (w : World) (h0 : 0 ≤ n) (h1 : n ≤ 9223372036854775807) (d0 : 1 ≤ d) (d1 : d ≤ 8) :
    Calls Tryd.prog 84 #[.int .i64 n, .int .i64 d] w fun e w' => e = .returned (.string ⟨(hexL n d).toArray⟩) ∧ Below w.heap.size w w' := by
  have hd0 : (1 : Int) ≤ d := by omega
  have hd1 : (d : Int) ≤ 8 := by omega
  have hw := impl_within d 1 8 w
  rw [show (decide ((1 : Int) ≤ d) && decide ((d : Int) ≤ 8)) = true from by simp [hd0, hd1]] at hw
  have HB := hR w; go_enter Tryd.func84, Tryd.ntmps84
  go_wp2_with fail
  refine hw.mono ?_
  rintro _ _ ⟨rfl, rfl⟩
  go_wp2_with (first | ((with_reducible refine gate_dst (N := 15) rfl ?_); refine Kd.R_make (Kd.int .u8) w.heap.size 5 rfl (N := 15) rfl 29 _ _ rfl (d : Int) rfl rfl Tryd.underlying29 (.int .u8 0) 1 infoU8 rfl (by decide) (by omega) 0 (ok := fun _ => True) (okp := fun _ => True) rfl (fun _ hk => hk) trivial (by omega) (by omega) (Below.refl _ _) (Nat.le_refl _) ?_; intro v1 w1 ho hb hg hn))
  simp only [Int.toNat_natCast] at ho
  obtain ⟨A1, c1, rfl, hc1, hr1⟩ := Kd.R_reads ho
  simp only [List.length_replicate] at *
  have HA := Aside0.mk ho
  have HB := Aside0.mk hb
  clear hn hg hb ho hr1
  go_wp2
  go_loopw [0, 6] (fun v0 v6 wr => ∃ k : Nat, ∃ m : Int, ∃ T : List UInt8, k ≤ d ∧ v0 = .int .i64 m ∧ v6 = .int .i64 ((k : Int) - 1) ∧ T.length + k = d ∧ 0 ≤ m ∧ m ≤ 9223372036854775807 ∧ Aside0 (hexL m k ++ T = hexL n d) ∧ Aside0 (OwnB wr w.heap.size (.slice A1 d c1) (List.replicate k 0 ++ T.map fun b => (b.toNat : Int))) ∧ Aside0 (Below w.heap.size w wr)) (fun _ v6 _ => ((intOf v6) + 1).toNat)
  case atStart => exact ⟨d, n, [], Nat.le_refl _, rfl, by go_num, by simp, h0, h1, ⟨by simp⟩, ⟨by simpa [OwnB] using HA.out⟩, HB⟩
  case round =>
    obtain ⟨k, m, T, hk, rfl, rfl, hT, m0, m1, HH, HO, HB⟩ := hrel
    cases k with
    | zero =>
      obtain ⟨g, cap, eo, gb, gl, cl, HG⟩ := Kd.R_form HO.out (by simp; omega)
      injection eo with ea en ec
      subst ea ec
      have e : T = hexL n d := by simpa [hexL] using HH.out
      have hc : ∀ j (hj : j < (hexL n d).length), wr.cell? ((⟨g, 0, none⟩ : Addr).add j) = some (.int .u8 ((hexL n d)[j].toNat : Int)) := by
        intro j hj
        obtain ⟨hy, _⟩ := Kd.R_celln 0 HO.out (j : Int) (by omega) (by rw [hexL_len] at hj; omega)
        rw [Int.toNat_natCast] at hy
        rw [add0, hy, e]
        simp [rdOf, List.getD_eq_getElem?_getD, hj]
      have hcv := run_convert_bytes_back (P := Tryd.prog) wr 29 9 5 ⟨g, 0, none⟩ c1 (hexL n d) Tryd.underlying29 Tryd.underlying5 Tryd.underlying9 hc
      rw [hexL_len] at hcv
      clear hc e HO HH hT en
      go_wp2
      go_ret
      exact ⟨rfl, HB.out⟩
    | succ k =>
      obtain ⟨g, cap, eo, gb, gl, cl, HG⟩ := Kd.R_form HO.out (by simp; omega)
      injection eo with ea en ec
      subst ea ec
      obtain ⟨hy, hf⟩ := Kd.R_celln 0 HO.out (k : Int) (by omega) (by omega)
      have HP := Aside0.mk (Kd.R_putg HO.out (k : Int) ((hexd m).toNat : Int)).1
      rw [Int.toNat_natCast] at hy hf HP
      have HG := Aside0.mk gb
      clear gb en
      go_wp2
      have gb := HG.out
      refine ⟨⟨k, m / 16, hexd m :: T, by omega, rfl, by go_num, by simp; omega, by omega, by omega, ⟨?_⟩, ⟨?_⟩, ⟨blw⟩⟩, by simp [intOf]⟩
      · have e := HH.out
        rw [hexL, List.append_assoc] at e
        exact e
      · rw [hex_at _ (by omega)]
        have e := HP.out
        rw [show (List.replicate (k + 1) (0 : Int) ++ T.map fun b => (b.toNat : Int)).set k ((hexd m).toNat : Int) = List.replicate k (0 : Int) ++ (hexd m :: T).map fun b => (b.toNat : Int) from by
          rw [List.replicate_succ', List.append_assoc, List.set_append_right _ _ (by simp), List.length_replicate, Nat.sub_self]
          rfl] at e
        exact e
theorem spec_HexText (n : Int) (d : Nat) (w : World) (h0 : 0 ≤ n) (h1 : n ≤ 9223372036854775807) (d0 : 1 ≤ d) (d1 : d ≤ 8) :
    Calls Tryd.prog 52 #[.int .i64 n, .int .i64 d] w fun e w' => e = .returned (.string ⟨(hexL n d).toArray⟩) ∧ Below w.heap.size w w' := by
  have hd0 : (1 : Int) ≤ d := by omega
  have hd1 : (d : Int) ≤ 8 := by omega
  have hw := spec_l01In d 1 8 w
  rw [show (decide ((1 : Int) ≤ d) && decide ((d : Int) ≤ 8)) = true from by simp [hd0, hd1]] at hw
  have HB := hR w; go_enter Tryd.func52, Tryd.ntmps52
  go_wp2_with fail
  refine hw.mono ?_
  rintro _ _ ⟨rfl, rfl⟩
  go_wp2
  go_loopw [0, 5, 6] (fun v0 v5 v6 wr => ∃ k : Nat, ∃ m : Int, ∃ T : List UInt8, k ≤ d ∧ v0 = .int .i64 m ∧ v6 = .int .i64 k ∧ v5 = .string ⟨T.toArray⟩ ∧ T.length = k ∧ 0 ≤ m ∧ m ≤ 9223372036854775807 ∧ Aside0 (hexL m (d - k) ++ T = hexL n d) ∧ Aside0 (Below w.heap.size w wr)) (fun _ _ v6 _ => d - (intOf v6).toNat)
  case atStart => exact ⟨0, n, [], Nat.zero_le _, rfl, rfl, rfl, rfl, h0, h1, ⟨by simp⟩, HB⟩
  case round =>
    obtain ⟨k, m, T, hk, rfl, rfl, rfl, hT, m0, m1, HH, HB⟩ := hrel
    by_cases hlt : k < d
    · go_wp2
      refine ⟨⟨k + 1, m / 16, hexd m :: T, by omega, rfl, by go_num, congrArg Value.string ?_, by simp [hT], by omega, by omega, ⟨?_⟩, HB⟩, by simp [intOf]; omega⟩
      · rw [show (m % 16 + 1).toNat = (m % 16).toNat + 1 by omega, hex_cut _ (by omega)]
        exact ba_cons _ _
      · have e := HH.out
        rw [show d - k = (d - (k + 1)) + 1 by omega, hexL, List.append_assoc] at e
        exact e
    · go_wp2
      go_ret
      obtain rfl : k = d := by omega
      have e := HH.out
      rw [Nat.sub_self] at e
      exact ⟨ret_of (congrArg (fun l : List UInt8 => Value.string ⟨l.toArray⟩) e), HB.out⟩
theorem impl_Hex2 (n : Int) (w : World) (h0 : 0 ≤ n) (h1 : n < 65536) : Calls Tryd.prog 84 #[.int .i64 n, .int .i64 2] w fun e w' => e = .returned (.string ⟨(hexL n 2).toArray⟩) ∧ Below w.heap.size w w' := impl_HexText n 2 w h0 (by omega) (by decide) (by decide)
theorem impl_Hex4 (n : Int) (w : World) (h0 : 0 ≤ n) (h1 : n < 65536) : Calls Tryd.prog 84 #[.int .i64 n, .int .i64 4] w fun e w' => e = .returned (.string ⟨(hexL n 4).toArray⟩) ∧ Below w.heap.size w w' := impl_HexText n 4 w h0 (by omega) (by decide) (by decide)
theorem spec_Hex2 (n : Int) (w : World) (h0 : 0 ≤ n) (h1 : n < 65536) : Calls Tryd.prog 52 #[.int .i64 n, .int .i64 2] w fun e w' => e = .returned (.string ⟨(hexL n 2).toArray⟩) ∧ Below w.heap.size w w' := spec_HexText n 2 w h0 (by omega) (by decide) (by decide)
theorem spec_Hex4 (n : Int) (w : World) (h0 : 0 ≤ n) (h1 : n < 65536) : Calls Tryd.prog 52 #[.int .i64 n, .int .i64 4] w fun e w' => e = .returned (.string ⟨(hexL n 4).toArray⟩) ∧ Below w.heap.size w w' := spec_HexText n 4 w h0 (by omega) (by decide) (by decide)
end Go.Proofs.YthlmddcjbhacmaaDoor
