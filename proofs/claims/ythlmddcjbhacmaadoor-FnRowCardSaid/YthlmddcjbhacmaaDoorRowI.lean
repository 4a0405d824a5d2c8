/- Numbers read out of texts and written: base 16 and 10, by the program and the reference. -/
import Derived.Test.YthlmddcjbhacmaaDoorHex
import Derived.Test.YthlmddcjbhacmaaDoorShelf
set_option linter.unusedVariables false
set_option linter.unusedSimpArgs false
namespace Go.Proofs.YthlmddcjbhacmaaDoor
open Go.RowKit Go.Proofs.YthlmddcjbhacmaaDoorW.PrintWords
theorem pow16 (j : Nat) (h : j ≤ 7) : (1 : Int) ≤ 16 ^ j ∧ (16 : Int) ^ j ≤ 268435456 := by
  have : ∀ j : Fin 8, (1 : Int) ≤ 16 ^ j.val ∧ (16 : Int) ^ j.val ≤ 268435456 := by decide +kernel
  exact this ⟨j, by omega⟩
theorem ba_at {l : List UInt8} {j : Nat} {b : UInt8} (hb : l[j]? = some b) : ∀ h : j < (⟨l.toArray⟩ : ByteArray).size, (⟨l.toArray⟩ : ByteArray)[j]'h = b := by
  intro h
  obtain ⟨h1, e⟩ := List.getElem?_eq_some_iff.1 hb
  exact e
theorem ba_size (l : List UInt8) : (⟨l.toArray⟩ : ByteArray).size = l.length := by simp [ByteArray.size]
theorem drop_at {l : List UInt8} {j : Nat} {b : UInt8} (hb : l[j]? = some b) : l.drop j = b :: l.drop (j + 1) := by
  obtain ⟨h1, e⟩ := List.getElem?_eq_some_iff.1 hb
  rw [List.drop_eq_getElem_cons h1, e]
theorem byte_at {l : List UInt8} {j : Nat} (h : j < l.length) : ∃ b, l[j]? = some b := ⟨_, List.getElem?_eq_getElem h⟩
theorem readHex_no {l : List UInt8} {d : Int} (h : ¬ (1 ≤ d ∧ d ≤ 8 ∧ (l.length : Int) = d)) : readHex l d = -1 := if_neg h
theorem impl_ReadHex (l : List UInt8) (d : Nat) (w : World) (d0 : 1 ≤ d) (d1 : d ≤ 8) (hl : l.length = d) :
    Calls Tryd.prog 74 #[.string ⟨l.toArray⟩, .int .i64 d] w fun e w' => e = .returned (.int .i64 (readHex l d)) ∧ Below w.heap.size w w' := by
  rw [show readHex l d = readH l 0 from if_pos (by omega)]
  have hw := impl_within d 1 8 w
  rw [show (decide ((1 : Int) ≤ d) && decide ((d : Int) ≤ 8)) = true from by simp; omega] at hw
  have hsz := ba_size l
  rw [hl] at hsz
  have HB := hR w; go_enter Tryd.func74, Tryd.ntmps74
  go_wp2_with fail
  refine hw.mono ?_
  rintro _ _ ⟨rfl, rfl⟩
  go_wp2_with fail
  go_loopw [5, 6, 7, 18] (fun v5 v6 v7 v18 wr => ∃ j : Nat, ∃ n : Int, j ≤ d ∧ v18 = .int .i64 j ∧ v5 = .int .i64 n ∧ 0 ≤ n ∧ n < 16 ^ j ∧ Aside0 (readH l 0 = readH (l.drop j) n) ∧ Aside0 (Below w.heap.size w wr)) (fun _ _ _ v18 _ => d - (intOf v18).toNat)
  case atStart => exact ⟨0, 0, by omega, rfl, rfl, by decide, by decide, ⟨by simp⟩, HB⟩
  case round =>
    obtain ⟨j, n, hj, rfl, rfl, n0, n1, HR, HB⟩ := hrel
    by_cases hlt : j < d
    · obtain ⟨b, eb⟩ := byte_at (l := l) (j := j) (by omega)
      have hat := ba_at eb
      have hd := drop_at eb
      have hix := fun W => Tryd.strings_IndexByte ⟨#[48, 49, 50, 51, 52, 53, 54, 55, 56, 57, 65, 66, 67, 68, 69, 70]⟩ (b.toNat : Int) W
      rw [show (⟨#[48, 49, 50, 51, 52, 53, 54, 55, 56, 57, 65, 66, 67, 68, 69, 70]⟩ : ByteArray).data.toList = hexD from rfl, show ((b.toNat : Int)).toNat.toUInt8 = b from by simp, hexV_index] at hix
      have hv := hexV_lo b
      have hp := pow16 j (by omega)
      have HH := Aside0.mk (show readH l 0 = if hexV b < 0 then -1 else readH (l.drop (j + 1)) (16 * n + hexV b) by rw [HR.out, hd]; rfl)
      have N1 := Aside0.mk n1
      generalize hexV b = v at *
      clear eb hd
      obtain ⟨P, ep⟩ : ∃ P, (16 : Int) ^ j = P := ⟨_, rfl⟩
      have EP := Aside0.mk ep
      rw [ep] at hp N1 n1
      clear ep
      have hp16 : (0 : Int) ≤ 16 * n + 15 ∧ 16 * n + 15 < 4294967296 := by omega
      by_cases hv0 : v < 0
      · go_wp2_with fail
        refine (hix _).mono ?_
        rintro _ _ ⟨rfl, rfl⟩
        go_wp2_with fail
        go_ret
        have e := HH.out
        rw [if_pos hv0] at e
        exact ⟨ret_of (congrArg (Value.int .i64) e.symm), HB.out⟩
      · go_wp2_with fail
        refine (hix _).mono ?_
        rintro _ _ ⟨rfl, rfl⟩
        go_wp2_with fail
        have e := HH.out
        rw [if_neg (by omega)] at e
        exact ⟨⟨j + 1, 16 * n + v, by omega, by go_num, rfl, by omega, by rw [Int.pow_succ, EP.out]; have := N1.out; omega, ⟨e⟩, HB⟩, by simp [intOf]; omega⟩
    · go_wp2_with fail
      go_ret
      obtain rfl : j = d := by omega
      have e := HR.out
      rw [List.drop_of_length_le (by omega)] at e
      exact ⟨ret_of (congrArg (Value.int .i64) e.symm), HB.out⟩
theorem spec_l01Digit (b : Int) (w : World) (h0 : 0 ≤ b) (h1 : b < 256) :
    Calls Tryd.prog 75 #[.int .u8 b] w fun e w' => e = .returned (.bool (decide (48 ≤ b) && decide (b ≤ 57))) ∧ w = w' := by
  have HB := hR w; go_enter Tryd.func75, Tryd.ntmps75
  go_wp2_with fail
  refine (spec_l01In b 48 57 _).mono ?_
  rintro _ _ ⟨rfl, rfl⟩
  go_wp2_with fail
  go_ret
  exact ⟨rfl, rfl⟩
set_option maxRecDepth 20000 in
theorem spec_ReadHex (l : List UInt8) (d : Nat) (w : World) (d0 : 1 ≤ d) (d1 : d ≤ 8) (hl : l.length = d) :
    Calls Tryd.prog 76 #[.string ⟨l.toArray⟩, .int .i64 d] w fun e w' => e = .returned (.int .i64 (readHex l d)) ∧ Below w.heap.size w w' := by
  rw [show readHex l d = readH l 0 from if_pos (by omega)]
  have hw := spec_l01In d 1 8 w
  rw [show (decide ((1 : Int) ≤ d) && decide ((d : Int) ≤ 8)) = true from by simp; omega] at hw
  have hsz := ba_size l
  rw [hl] at hsz
  have HB := hR w; go_enter Tryd.func76, Tryd.ntmps76
  go_wp2_with fail
  refine hw.mono ?_
  rintro _ _ ⟨rfl, rfl⟩
  go_wp2_with fail
  go_loopw [5, 6] (fun v5 v6 wr => ∃ j : Nat, ∃ n : Int, j ≤ d ∧ v6 = .int .i64 j ∧ v5 = .int .i64 n ∧ 0 ≤ n ∧ n < 16 ^ j ∧ Aside0 (readH l 0 = readH (l.drop j) n) ∧ Aside0 (Below w.heap.size w wr)) (fun _ v6 _ => d - (intOf v6).toNat)
  case atStart => exact ⟨0, 0, by omega, rfl, rfl, by decide, by decide, ⟨by simp⟩, HB⟩
  case round =>
    obtain ⟨j, n, hj, rfl, rfl, n0, n1, HR, HB⟩ := hrel
    by_cases hlt : j < d
    · obtain ⟨b, eb⟩ := byte_at (l := l) (j := j) (by omega)
      have hat := ba_at eb
      have hd := drop_at eb
      have hb8 := b.toNat_lt
      have hdg := fun W => spec_l01Digit (b.toNat : Int) W (by omega) (by omega)
      have hin := fun W => spec_l01In (b.toNat : Int) 65 70 W
      have hp := pow16 j (by omega)
      have HH := Aside0.mk (show readH l 0 = if hexV b < 0 then -1 else readH (l.drop (j + 1)) (16 * n + hexV b) by rw [HR.out, hd]; rfl)
      have N1 := Aside0.mk n1
      have HV := Aside0.mk (show hexV b = if 48 ≤ b.toNat ∧ b.toNat ≤ 57 then (b.toNat : Int) - 48 else if 65 ≤ b.toNat ∧ b.toNat ≤ 70 then (b.toNat : Int) - 55 else -1 from rfl)
      generalize hexV b = v at *
      obtain ⟨x, ex⟩ : ∃ x : Nat, b.toNat = x := ⟨_, rfl⟩
      rw [ex] at hdg hin HV hb8
      clear eb hd
      obtain ⟨P, ep⟩ : ∃ P, (16 : Int) ^ j = P := ⟨_, rfl⟩
      have EP := Aside0.mk ep
      rw [ep] at hp N1 n1
      clear ep
      have n2 : n < 268435456 := by omega
      by_cases c1 : 48 ≤ x ∧ x ≤ 57
      · rw [show (decide ((48 : Int) ≤ x) && decide ((x : Int) ≤ 57)) = true from by simp; omega] at hdg
        go_wp2_with fail
        refine (hdg _).mono ?_
        rintro _ _ ⟨rfl, rfl⟩
        go_wp2_with fail
        have ev : v = (x : Int) - 48 := by rw [HV.out, if_pos c1]
        have e := HH.out
        rw [if_neg (by omega), ev] at e
        exact ⟨⟨j + 1, 16 * n + ((x : Int) - 48), by omega, by go_num, congrArg (Value.int .i64) (by omega), by omega, by rw [Int.pow_succ, EP.out]; have := N1.out; omega, ⟨e⟩, HB⟩, by simp [intOf]; omega⟩
      · rw [show (decide ((48 : Int) ≤ x) && decide ((x : Int) ≤ 57)) = false from by simp; omega] at hdg
        by_cases c2 : 65 ≤ x ∧ x ≤ 70
        · rw [show (decide ((65 : Int) ≤ x) && decide ((x : Int) ≤ 70)) = true from by simp; omega] at hin
          go_wp2_with fail
          refine (hdg _).mono ?_
          rintro _ _ ⟨rfl, rfl⟩
          go_wp2_with fail
          refine (hin _).mono ?_
          rintro _ _ ⟨rfl, rfl⟩
          go_wp2_with fail
          have ev : v = (x : Int) - 55 := by rw [HV.out, if_neg c1, if_pos c2]
          have e := HH.out
          rw [if_neg (by omega), ev] at e
          exact ⟨⟨j + 1, 16 * n + ((x : Int) - 55), by omega, by go_num, congrArg (Value.int .i64) (by omega), by omega, by rw [Int.pow_succ, EP.out]; have := N1.out; omega, ⟨e⟩, HB⟩, by simp [intOf]; omega⟩
        · rw [show (decide ((65 : Int) ≤ x) && decide ((x : Int) ≤ 70)) = false from by simp; omega] at hin
          go_wp2_with fail
          refine (hdg _).mono ?_
          rintro _ _ ⟨rfl, rfl⟩
          go_wp2_with fail
          refine (hin _).mono ?_
          rintro _ _ ⟨rfl, rfl⟩
          go_wp2_with fail
          go_ret
          have ev : v = -1 := by rw [HV.out, if_neg c1, if_neg c2]
          have e := HH.out
          rw [if_pos (by omega)] at e
          exact ⟨ret_of (congrArg (Value.int .i64) e.symm), HB.out⟩
    · go_wp2_with fail
      go_ret
      obtain rfl : j = d := by omega
      have e := HR.out
      rw [List.drop_of_length_le (by omega)] at e
      exact ⟨ret_of (congrArg (Value.int .i64) e.symm), HB.out⟩
end Go.Proofs.YthlmddcjbhacmaaDoor
