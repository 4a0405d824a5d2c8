/- Texts as plain lists of bytes: digits in base 16 and 10, what is known, rows. No program, no memory. -/
import Derived.Lib.AtoiTie
import Derived.Lib.ItoaNum
import Derived.Lib.IndexMore
import Derived.Lib.Bytealg
set_option linter.unusedVariables false
set_option linter.unusedSimpArgs false
namespace Go.Proofs.YthlmddcjbhacmaaDoor
open Go.Lib
def hexD : List UInt8 := [48, 49, 50, 51, 52, 53, 54, 55, 56, 57, 65, 66, 67, 68, 69, 70]
def hexd (n : Int) : UInt8 := hexD.getD (n % 16).toNat 0
def hexL (n : Int) : Nat → List UInt8
  | 0 => []
  | d + 1 => hexL (n / 16) d ++ [hexd n]
theorem hexL_len (d : Nat) : ∀ n : Int, (hexL n d).length = d := by
  induction d with
  | zero => intro n; rfl
  | succ d ih => intro n; simp [hexL, ih]
def hexV (b : UInt8) : Int := if 48 ≤ b.toNat ∧ b.toNat ≤ 57 then b.toNat - 48 else if 65 ≤ b.toNat ∧ b.toNat ≤ 70 then b.toNat - 55 else -1
def readH : List UInt8 → Int → Int
  | [], n => n
  | b :: l, n => if hexV b < 0 then -1 else readH l (16 * n + hexV b)
def readHex (l : List UInt8) (d : Int) : Int := if 1 ≤ d ∧ d ≤ 8 ∧ (l.length : Int) = d then readH l 0 else -1
theorem all_u8 (p : UInt8 → Prop) (h : ∀ n : Fin 256, p (UInt8.ofNat n.val)) (b : UInt8) : p b := by
  have := h ⟨b.toNat, b.toNat_lt⟩
  simpa using this
theorem hexV_index (b : UInt8) : indexByte hexD b = hexV b := all_u8 (fun b => indexByte hexD b = hexV b) (by decide +kernel) b
theorem hexV_lo (b : UInt8) : -1 ≤ hexV b ∧ hexV b < 16 := by
  unfold hexV
  have := b.toNat_lt
  split
  · omega
  · split <;> omega
theorem hexV_hexd (n : Int) : hexV (hexd n) = n % 16 := by
  have h : ∀ k : Nat, k < 16 → hexV (hexD.getD k 0) = k := by decide +kernel
  have h1 : 0 ≤ n % 16 := Int.emod_nonneg _ (by decide)
  have h2 : n % 16 < 16 := Int.emod_lt_of_pos _ (by decide)
  unfold hexd
  rw [h _ (by omega)]
  omega
theorem readH_b (l : List UInt8) : ∀ n : Int, ∀ k : Nat, 0 ≤ n → n < 16 ^ k → -1 ≤ readH l n ∧ readH l n < 16 ^ (k + l.length) := by
  induction l with
  | nil => intro n k h0 h1; exact ⟨by simp [readH]; omega, by simpa [readH] using h1⟩
  | cons b l ih =>
    intro n k h0 h1
    have hv := hexV_lo b
    unfold readH
    split
    · exact ⟨by omega, by have : (0 : Int) < 16 ^ (k + (b :: l).length) := Int.pow_pos (by decide); omega⟩
    · have := ih (16 * n + hexV b) (k + 1) (by omega) (by rw [Int.pow_succ]; omega)
      rw [show k + (b :: l).length = k + 1 + l.length by simp; omega]
      exact this
theorem readHex_b (l : List UInt8) (d : Int) : -1 ≤ readHex l d ∧ readHex l d < 4294967296 := by
  unfold readHex
  split
  · rename_i h
    have := readH_b l 0 0 (by decide) (by decide)
    have e : (16 : Int) ^ (0 + l.length) ≤ 16 ^ 8 := by
      have : (16 : Nat) ^ (0 + l.length) ≤ 16 ^ 8 := Nat.pow_le_pow_right (by decide) (by omega)
      exact_mod_cast this
    have : (16 : Int) ^ 8 = 4294967296 := by decide
    omega
  · omega
theorem readH_snoc (l : List UInt8) (b : UInt8) : ∀ n, 0 ≤ n → readH l n ≠ -1 → hexV b ≠ -1 → readH (l ++ [b]) n = 16 * readH l n + hexV b := by
  induction l with
  | nil =>
    intro n h0 h1 h2
    have := hexV_lo b
    simp only [List.nil_append, readH]
    rw [if_neg (by omega)]
  | cons c l ih =>
    intro n h0 h1 h2
    have := hexV_lo c
    simp only [List.cons_append]
    unfold readH at h1 ⊢
    split
    · rename_i h; rw [if_pos h] at h1; exact absurd rfl h1
    · rename_i h
      rw [if_neg h] at h1
      exact ih _ (by omega) h1 h2
theorem readH_hexL (d : Nat) : ∀ n : Int, 0 ≤ n → n < 16 ^ d → readH (hexL n d) 0 = n := by
  induction d with
  | zero => intro n h0 h1; simp [hexL, readH]; simp at h1; omega
  | succ d ih =>
    intro n h0 h1
    rw [Int.pow_succ] at h1
    have e := ih (n / 16) (by omega) (by omega)
    have hv := hexV_hexd n
    unfold hexL
    rw [readH_snoc _ _ _ (by decide) (by rw [e]; omega) (by rw [hv]; omega), e, hv]
    omega
theorem readHex_hexL (d : Nat) (hd : 1 ≤ d) (hd8 : d ≤ 8) (n : Int) (h0 : 0 ≤ n) (h1 : n < 16 ^ d) : readHex (hexL n d) d = n := by
  unfold readHex
  rw [hexL_len, if_pos (by omega)]
  exact readH_hexL d n h0 h1
/-- What is known of a processor. -/
structure Kn where
  A : Int
  X : Int
  Y : Int
  S : Int
  PC : Int
  N : Int
  V : Int
  D : Int
  I : Int
  Z : Int
  C : Int
  deriving DecidableEq
def inR (v m : Int) : Bool := decide (-1 ≤ v) && decide (v ≤ m)
def knOk (k : Kn) : Bool := inR k.A 255 && inR k.X 255 && inR k.Y 255 && inR k.S 255 && inR k.PC 65535 && inR k.N 1 && inR k.V 1 && inR k.D 1 && inR k.I 1 && inR k.Z 1 && inR k.C 1
def digs (n : Int) (d : Nat) : List UInt8 := if n < 0 then List.replicate d 63 else hexL n d
def flg (v : Int) (c : UInt8) : UInt8 := if v = -1 then 63 else if v = 0 then 45 else c
def knPre (a x y s p : Int) : List UInt8 := [65, 61] ++ digs a 2 ++ [32, 88, 61] ++ digs x 2 ++ [32, 89, 61] ++ digs y 2 ++ [32, 83, 61] ++ digs s 2 ++ [32, 80, 67, 61] ++ digs p 4 ++ [32]
def knFl (k : Kn) : List UInt8 := [flg k.N 78, flg k.V 86, flg k.D 68, flg k.I 73, flg k.Z 90, flg k.C 67]
def knT (k : Kn) : List UInt8 := if knOk k then knPre k.A k.X k.Y k.S k.PC ++ knFl k else []
theorem digs_len (n : Int) (d : Nat) : (digs n d).length = d := by
  unfold digs; split <;> simp [hexL_len]
theorem knPre_len (a x y s p : Int) : (knPre a x y s p).length = 28 := by simp [knPre, digs_len]
theorem knT_len {k : Kn} (h : knOk k = true) : (knT k).length = 34 := by
  rw [knT, if_pos h, List.length_append, knPre_len]; rfl
/-- The bytes from i on up to j. -/
def cutB (l : List UInt8) (i j : Nat) : List UInt8 := (l.take j).drop i
def kn5 (l : List UInt8) (f : Nat → UInt8 → Int) : Kn :=
  ⟨readHex (cutB l 2 4) 2, readHex (cutB l 7 9) 2, readHex (cutB l 12 14) 2, readHex (cutB l 17 19) 2, readHex (cutB l 23 27) 4, f 0 (l.getD 28 0), f 1 (l.getD 29 0), f 2 (l.getD 30 0), f 3 (l.getD 31 0), f 4 (l.getD 32 0), f 5 (l.getD 33 0)⟩
def fltr : List UInt8 := [78, 86, 68, 73, 90, 67]
def flI (i : Nat) (c : UInt8) : Int := if c = 63 then -1 else if c = fltr.getD i 0 then 1 else 0
def flS (_ : Nat) (c : UInt8) : Int := if c = 63 then -1 else if c = 45 then 0 else 1
def readKn (l : List UInt8) : Option Kn := if l.length = 34 ∧ knT (kn5 l flI) = l then some (kn5 l flI) else none
theorem knT_fl {k : Kn} {l : List UInt8} (hl : l.length = 34) (h : knT k = l) : l.getD 28 0 = flg k.N 78 ∧ l.getD 29 0 = flg k.V 86 ∧ l.getD 30 0 = flg k.D 68 ∧ l.getD 31 0 = flg k.I 73 ∧ l.getD 32 0 = flg k.Z 90 ∧ l.getD 33 0 = flg k.C 67 := by
  have hk : knOk k = true := by
    cases h1 : knOk k with
    | true => rfl
    | false => rw [knT, h1] at h; subst h; simp at hl
  subst h
  rw [knT, if_pos hk]
  have e := knPre_len k.A k.X k.Y k.S k.PC
  refine ⟨?_, ?_, ?_, ?_, ?_, ?_⟩ <;> rw [List.getD_eq_getElem?_getD, List.getElem?_append_right (by omega), e] <;> rfl
theorem flS_eq {i : Nat} (c d : UInt8) (hd : fltr.getD i 0 = d) (hd1 : d ≠ 63) (hd2 : d ≠ 45) (h : c = flg (flS i c) d) : flS i c = flI i c := by
  unfold flg flS flI at *
  rw [hd]
  by_cases h1 : c = 63
  · simp [h1]
  · by_cases h2 : c = 45
    · subst h2; simp [hd2.symm]
    · simp [h1, h2] at h ⊢
      simp [h]
theorem flI_eq {i : Nat} (c d : UInt8) (hd : fltr.getD i 0 = d) (hd1 : d ≠ 63) (hd2 : d ≠ 45) (h : c = flg (flI i c) d) : flS i c = flI i c := by
  unfold flg flS flI at *
  rw [hd] at h ⊢
  by_cases h1 : c = 63
  · simp [h1]
  · by_cases h2 : c = d
    · subst h2; simp [hd1, hd2]
    · simp [h1, h2] at h ⊢
      simp [h]
/-- Both ways of reading the flags are one where the text comes back. -/
theorem readKn_S (l : List UInt8) : (if l.length = 34 ∧ knT (kn5 l flS) = l then some (kn5 l flS) else none) = readKn l := by
  unfold readKn
  by_cases hl : l.length = 34
  · have key : knT (kn5 l flS) = l ∨ knT (kn5 l flI) = l → kn5 l flS = kn5 l flI := by
      intro h
      have hf : flS 0 (l.getD 28 0) = flI 0 (l.getD 28 0) ∧ flS 1 (l.getD 29 0) = flI 1 (l.getD 29 0) ∧ flS 2 (l.getD 30 0) = flI 2 (l.getD 30 0) ∧ flS 3 (l.getD 31 0) = flI 3 (l.getD 31 0) ∧ flS 4 (l.getD 32 0) = flI 4 (l.getD 32 0) ∧ flS 5 (l.getD 33 0) = flI 5 (l.getD 33 0) := by
        rcases h with h | h
        · obtain ⟨h0, h1, h2, h3, h4, h5⟩ := knT_fl hl h
          exact ⟨flS_eq _ _ rfl (by decide) (by decide) h0, flS_eq _ _ rfl (by decide) (by decide) h1, flS_eq _ _ rfl (by decide) (by decide) h2, flS_eq _ _ rfl (by decide) (by decide) h3, flS_eq _ _ rfl (by decide) (by decide) h4, flS_eq _ _ rfl (by decide) (by decide) h5⟩
        · obtain ⟨h0, h1, h2, h3, h4, h5⟩ := knT_fl hl h
          exact ⟨flI_eq _ _ rfl (by decide) (by decide) h0, flI_eq _ _ rfl (by decide) (by decide) h1, flI_eq _ _ rfl (by decide) (by decide) h2, flI_eq _ _ rfl (by decide) (by decide) h3, flI_eq _ _ rfl (by decide) (by decide) h4, flI_eq _ _ rfl (by decide) (by decide) h5⟩
      obtain ⟨h0, h1, h2, h3, h4, h5⟩ := hf
      unfold kn5
      rw [h0, h1, h2, h3, h4, h5]
    by_cases h1 : knT (kn5 l flS) = l
    · have e := key (Or.inl h1)
      rw [← e]
    · by_cases h2 : knT (kn5 l flI) = l
      · have e := key (Or.inr h2)
        rw [e]
      · rw [if_neg (fun h => h1 h.2), if_neg (fun h => h2 h.2)]
  · rw [if_neg (fun h => hl h.1), if_neg (fun h => hl h.1)]
/-- The number of decimal digits. -/
def readDec (l : List UInt8) : Int := match atoiAll l with
  | .ok v => if 0 ≤ v ∧ v ≤ 999999999 ∧ itoa v = l then v else -1
  | _ => -1
def rowT (i : Int) (k : Kn) (t : List UInt8) : List UInt8 := if i < 0 ∨ knOk k = false then [] else itoa i ++ [32] ++ knT k ++ [32] ++ t
def row0 (s : List UInt8) : List UInt8 := s.takeWhile (· ≠ 32)
def row1 (s : List UInt8) : List UInt8 := s.drop ((row0 s).length + 1)
def readRow (s : List UInt8) : Option (Int × Kn × List UInt8) :=
  if readDec (row0 s) < 0 ∨ (row1 s).length ≤ 34 ∨ (row1 s).getD 34 0 ≠ 32 then none else (readKn ((row1 s).take 34)).map fun k => (readDec (row0 s), k, (row1 s).drop 35)
theorem readDec_some {l : List UInt8} (h : 0 ≤ readDec l) : itoa (readDec l) = l ∧ readDec l ≤ 999999999 := by
  unfold readDec at *
  split at h <;> rename_i h1
  · split at h <;> rename_i h2
    · rw [if_pos h2]; exact ⟨h2.2.2, h2.2.1⟩
    · omega
  · omega
theorem readKn_some {l : List UInt8} {k : Kn} (h : readKn l = some k) : knT k = l ∧ l.length = 34 ∧ knOk k = true := by
  unfold readKn at h
  split at h <;> rename_i h1
  · obtain rfl := Option.some.inj h
    refine ⟨h1.2, h1.1, ?_⟩
    cases h2 : knOk (kn5 l flI) with
    | true => rfl
    | false =>
      have := h1.2
      rw [knT, h2] at this
      rw [← this] at h1
      simp at h1
  · cases h
theorem row_split (s : List UInt8) (h : row1 s ≠ []) : s = row0 s ++ 32 :: row1 s := by
  unfold row1 row0 at *
  induction s with
  | nil => simp at h
  | cons b s ih =>
    by_cases hb : b = 32
    · subst hb; simp
    · rw [List.takeWhile_cons_of_pos (by simpa using hb)] at h ⊢
      simp only [List.length_cons, List.drop_succ_cons, List.cons_append] at h ⊢
      congr 1
      exact ih h
/-- What the program's ReadRow asks: that the row's text comes back. -/
theorem readRow_I (s : List UInt8) (i : Int) (hi : readDec (row0 s) = i) (h0 : 0 ≤ i) (hl : 34 < (row1 s).length) :
    (match readKn ((row1 s).take 34) with
      | some k => if rowT i k ((row1 s).drop 35) = s then some (i, k, (row1 s).drop 35) else none
      | none => none) = readRow s := by
  unfold readRow
  rw [hi]
  have hs := row_split s (by intro h; rw [h] at hl; simp at hl)
  cases hk : readKn ((row1 s).take 34) with
  | none => simp
  | some k =>
    obtain ⟨h1, h2, h3⟩ := readKn_some hk
    have hd := (readDec_some (l := row0 s) (by omega)).1
    rw [hi] at hd
    have e : rowT i k ((row1 s).drop 35) = row0 s ++ 32 :: ((row1 s).take 34 ++ 32 :: (row1 s).drop 35) := by
      unfold rowT
      rw [if_neg (by simp [h3]; omega), hd, h1]
      simp
    have e2 : (row1 s).drop 34 = (row1 s).getD 34 0 :: (row1 s).drop 35 := by
      rw [List.drop_eq_getElem_cons hl, List.getD_eq_getElem?_getD, List.getElem?_eq_getElem hl]; rfl
    by_cases h4 : (row1 s).getD 34 0 = 32
    · rw [if_neg (by rintro (h | h | h) <;> first | omega | exact h h4)]
      show (if _ then _ else _) = _
      rw [if_pos]
      · rfl
      · rw [e, ← h4, ← e2, List.take_append_drop, h4]
        exact hs.symm
    · rw [if_pos (Or.inr (Or.inr h4))]
      show (if _ then _ else _) = _
      rw [if_neg]
      intro h5
      rw [e] at h5
      have h7 := List.append_cancel_left (h5.trans hs)
      injection h7 with _ h7
      have h8 : (row1 s).take 34 ++ 32 :: (row1 s).drop 35 = (row1 s).take 34 ++ ((row1 s).getD 34 0 :: (row1 s).drop 35) := by
        rw [h7, ← e2, List.take_append_drop]
      have h9 := List.append_cancel_left h8
      injection h9 with h9 _
      exact h4 h9.symm
theorem decDigits_dig (u : Nat) : ∀ b ∈ decDigits u, 48 ≤ b.toNat ∧ b.toNat ≤ 57 := by
  induction u using Nat.strongRecOn with
  | _ u ih =>
    have hd : ∀ k, k < 10 → 48 ≤ (UInt8.ofNat (48 + k)).toNat ∧ (UInt8.ofNat (48 + k)).toNat ≤ 57 := by decide +kernel
    intro b hb
    rw [decDigits] at hb
    split at hb
    · rename_i h
      obtain rfl := List.mem_singleton.1 hb
      exact hd u h
    · rename_i h
      rcases List.mem_append.1 hb with hb | hb
      · exact ih (u / 10) (by omega) b hb
      · obtain rfl := List.mem_singleton.1 hb
        exact hd (u % 10) (by omega)
theorem decFrom_snoc (l : List UInt8) (b : UInt8) (d : Nat) (hb : digitVal b = some d) : ∀ a n, decFrom a l = some n → decFrom a (l ++ [b]) = some (n * 10 + d) := by
  induction l with
  | nil => intro a n h; simp [decFrom] at h; subst h; simp [decFrom, hb]
  | cons c l ih =>
    intro a n h
    simp only [List.cons_append, decFrom] at h ⊢
    cases hc : digitVal c with
    | none => rw [hc] at h; cases h
    | some e => rw [hc] at h; exact ih _ _ h
theorem decDigits_from (u : Nat) : decFrom 0 (decDigits u) = some u ∧ decDigits u ≠ [] := by
  induction u using Nat.strongRecOn with
  | _ u ih =>
    have hd : ∀ k, k < 10 → digitVal (UInt8.ofNat (48 + k)) = some k := by decide +kernel
    rw [decDigits]
    split
    · rename_i h
      exact ⟨by unfold decFrom; rw [hd u h]; simp [decFrom], by simp⟩
    · rename_i h
      refine ⟨?_, by simp⟩
      rw [decFrom_snoc _ _ (u % 10) (hd _ (by omega)) _ _ (ih (u / 10) (by omega)).1]
      congr 1
      omega
theorem decDigits_len (k : Nat) : ∀ u : Nat, u < 10 ^ (k + 1) → (decDigits u).length ≤ k + 1 := by
  induction k with
  | zero => intro u h; rw [decDigits, dif_pos (by simpa using h)]; simp
  | succ k ih =>
    intro u h
    rw [decDigits]
    split
    · simp
    · have := ih (u / 10) (by rw [Nat.pow_succ] at h; omega)
      simp only [List.length_append, List.length_singleton]
      omega
theorem itoa_pos {i : Int} (h : 0 ≤ i) : itoa i = decDigits i.toNat := if_neg (by omega)
theorem readDec_of {l : List UInt8} {n : Nat} (hd : decFrom 0 l = some n) (hn : l ≠ []) (hl : l.length ≤ 9) (hm : n ≤ 999999999) : readDec l = if itoa n = l then (n : Int) else -1 := by
  have h1 : atoiAll l = .ok (n : Int) := by
    rw [atoiAll_short l (by omega)]
    have hdn : decNat l = some n := by
      unfold decNat
      rw [if_neg (by cases l with | nil => exact absurd rfl hn | cons => simp)]
      exact hd
    cases l with
    | nil => exact absurd rfl hn
    | cons b r =>
      have hb := digit_of_decFrom (b :: r) 0 n hd 0 b rfl
      obtain ⟨d, hb⟩ := hb
      unfold digitVal at hb
      split at hb
      · rename_i hb2
        have n1 : (b == 45) = false := by
          rw [beq_eq_false_iff_ne]
          rintro rfl
          exact absurd hb2 (by decide)
        have n2 : (b == 43) = false := by
          rw [beq_eq_false_iff_ne]
          rintro rfl
          exact absurd hb2 (by decide)
        show NumEnd.ofOption (if (b == 45) = true then _ else if (b == 43) = true then _ else (decNat (b :: r)).map _) = _
        rw [n1, n2, hdn]
        rfl
      · cases hb
  unfold readDec
  rw [h1]
  by_cases h2 : itoa n = l
  · rw [if_pos h2]
    simp only []
    rw [if_pos ⟨by omega, by omega, h2⟩]
  · rw [if_neg h2]
    simp only []
    rw [if_neg (fun h => h2 h.2.2)]
theorem readDec_itoa {i : Int} (h0 : 0 ≤ i) (h1 : i ≤ 999999999) : readDec (itoa i) = i := by
  obtain ⟨n, rfl⟩ := Int.eq_ofNat_of_zero_le h0
  have e := itoa_pos h0
  simp only [Int.toNat_natCast] at e
  have hf := decDigits_from n
  have hl := decDigits_len 8 n (by omega)
  rw [e, readDec_of hf.1 hf.2 (by omega) (by omega), if_pos e]
/-- A text that is no number of at most nine digits. -/
theorem readDec_no {l : List UInt8} (h : 9 < l.length ∨ (∃ b ∈ l, ¬ (48 ≤ b.toNat ∧ b.toNat ≤ 57)) ∨ l = []) : readDec l = -1 := by
  rcases Int.lt_or_le (readDec l) 0 with h1 | h1
  · unfold readDec at h1 ⊢
    split
    · rename_i v hv
      split
      · rename_i h2
        rw [hv] at h1
        simp only [] at h1
        rw [if_pos h2] at h1
        omega
      · rfl
    · rfl
  · exfalso
    obtain ⟨h2, h3⟩ := readDec_some h1
    rw [itoa_pos h1] at h2
    have hl := decDigits_len 8 (readDec l).toNat (by omega)
    have hd := decDigits_dig (readDec l).toNat
    have hn := (decDigits_from (readDec l).toNat).2
    rw [h2] at hl hd hn
    rcases h with h | ⟨b, hb, h⟩ | h
    · omega
    · exact h (hd b hb)
    · exact hn h
theorem readHex_digs (d : Nat) (hd : 1 ≤ d) (hd8 : d ≤ 8) (n : Int) (h0 : -1 ≤ n) (h1 : n < 16 ^ d) : readHex (digs n d) d = n := by
  unfold digs
  split
  · obtain rfl : n = -1 := by omega
    have : ∀ k, k < 9 → 1 ≤ k → readHex (List.replicate k 63) k = -1 := by decide +kernel
    exact this d (by omega) hd
  · exact readHex_hexL d hd hd8 n (by omega) h1
theorem flI_flg (i : Nat) (v : Int) (c : UInt8) (hv : inR v 1 = true) (hc : fltr.getD i 0 = c) (h1 : c ≠ 63) (h2 : c ≠ 45) : flI i (flg v c) = v := by
  unfold inR at hv
  simp only [Bool.and_eq_true, decide_eq_true_eq] at hv
  unfold flI
  rw [hc]
  have : v = -1 ∨ v = 0 ∨ v = 1 := by omega
  rcases this with rfl | rfl | rfl
  · rfl
  · simp [flg, h2.symm]
  · simp [flg, h1]
theorem readKn_knT {k : Kn} (h : knOk k = true) : readKn (knT k) = some k := by
  have hl := knT_len h
  have hk := h
  simp only [knOk, inR, Bool.and_eq_true, decide_eq_true_eq] at hk
  have hq := h
  simp only [knOk, Bool.and_eq_true] at hq
  obtain ⟨⟨⟨⟨⟨⟨⟨⟨⟨⟨qA, qX⟩, qY⟩, qS⟩, qP⟩, qN⟩, qV⟩, qD⟩, qI⟩, qZ⟩, qC⟩ := hq
  have e : kn5 (knT k) flI = k := by
    obtain ⟨f0, f1, f2, f3, f4, f5⟩ := knT_fl hl rfl
    have e1 : cutB (knT k) 2 4 = digs k.A 2 ∧ cutB (knT k) 7 9 = digs k.X 2 ∧ cutB (knT k) 12 14 = digs k.Y 2 ∧ cutB (knT k) 17 19 = digs k.S 2 ∧ cutB (knT k) 23 27 = digs k.PC 4 := by
      rw [knT, if_pos h]
      unfold knPre
      generalize knFl k = F
      have hA := digs_len k.A 2
      have hX := digs_len k.X 2
      have hY := digs_len k.Y 2
      have hS := digs_len k.S 2
      have hP := digs_len k.PC 4
      generalize digs k.A 2 = a at *
      generalize digs k.X 2 = x at *
      generalize digs k.Y 2 = y at *
      generalize digs k.S 2 = s at *
      generalize digs k.PC 4 = p at *
      match a, x, y, s, p, hA, hX, hY, hS, hP with
      | [_, _], [_, _], [_, _], [_, _], [_, _, _, _], _, _, _, _, _ => exact ⟨rfl, rfl, rfl, rfl, rfl⟩
    obtain ⟨e1, e2, e3, e4, e5⟩ := e1
    unfold kn5
    rw [e1, e2, e3, e4, e5, f0, f1, f2, f3, f4, f5, flI_flg 0 k.N 78 qN rfl (by decide) (by decide), flI_flg 1 k.V 86 qV rfl (by decide) (by decide), flI_flg 2 k.D 68 qD rfl (by decide) (by decide), flI_flg 3 k.I 73 qI rfl (by decide) (by decide), flI_flg 4 k.Z 90 qZ rfl (by decide) (by decide), flI_flg 5 k.C 67 qC rfl (by decide) (by decide)]
    have g1 : readHex (digs k.A 2) 2 = k.A := readHex_digs 2 (by decide) (by decide) k.A (by omega) (by omega)
    have g2 : readHex (digs k.X 2) 2 = k.X := readHex_digs 2 (by decide) (by decide) k.X (by omega) (by omega)
    have g3 : readHex (digs k.Y 2) 2 = k.Y := readHex_digs 2 (by decide) (by decide) k.Y (by omega) (by omega)
    have g4 : readHex (digs k.S 2) 2 = k.S := readHex_digs 2 (by decide) (by decide) k.S (by omega) (by omega)
    have g5 : readHex (digs k.PC 4) 4 = k.PC := readHex_digs 4 (by decide) (by decide) k.PC (by omega) (by omega)
    rw [g1, g2, g3, g4, g5]
  unfold readKn
  rw [e, if_pos ⟨hl, rfl⟩]
/-- A row comes back. -/
theorem readRow_rowT {i : Int} {k : Kn} {t : List UInt8} (h0 : 0 ≤ i) (h1 : i ≤ 999999999) (hk : knOk k = true) : readRow (rowT i k t) = some (i, k, t) := by
  have hl := knT_len hk
  have e : rowT i k t = itoa i ++ 32 :: (knT k ++ 32 :: t) := by
    unfold rowT
    rw [if_neg (by simp [hk]; omega)]
    simp
  have hd : ∀ b ∈ itoa i, (decide (b ≠ 32)) = true := by
    intro b hb
    rw [itoa_pos h0] at hb
    have := decDigits_dig _ b hb
    simp only [decide_eq_true_eq]
    rintro rfl
    exact absurd this (by decide)
  have r0 : row0 (rowT i k t) = itoa i := by
    rw [e]
    unfold row0
    rw [List.takeWhile_append_of_pos hd]
    simp
  have r1 : row1 (rowT i k t) = knT k ++ 32 :: t := by
    unfold row1
    rw [r0, e, List.drop_append, List.drop_of_length_le (by omega)]
    simp
  have g : (knT k ++ 32 :: t).getD 34 0 = 32 := by
    rw [List.getD_eq_getElem?_getD, List.getElem?_append_right (by omega), hl]
    rfl
  unfold readRow
  rw [r0, r1, readDec_itoa h0 h1, g, if_neg (by simp [hl]; omega), List.take_left' hl, readKn_knT hk]
  have : (knT k ++ 32 :: t).drop 35 = t := by
    rw [List.drop_append, List.drop_of_length_le (by omega), hl]
    simp
  rw [this]
  rfl
end Go.Proofs.YthlmddcjbhacmaaDoor
