/- The text of a unit, by the program and the reference. -/
import Derived.Test.YthlmddcjbhacmaaDoorShow
import Derived.Test.YthlmddcjbhacmaaDoorCyc
import Derived.Test.YthlmddcjbhacmaaDoorBlk
set_option linter.unusedVariables false
set_option linter.unusedSimpArgs false
namespace Go.Proofs.YthlmddcjbhacmaaDoor
open Go.RowKit Go.Proofs.YthlmddcjbhacmaaDoorW.PrintWords
theorem Cs.at {w : World} {A : Option Addr} {l : List Cyc} (h : Cs w A l) (k : Nat) (hk : k < l.length) : ∃ ad, A = some ad ∧ w.cell? (ad.add (k * 3)) = some (.int .u16 (cd l k).a) ∧ w.cell? ⟨(ad.add (k * 3)).block, (ad.add (k * 3)).off + 1, none⟩ = some (.int .u8 (cd l k).d) ∧ w.cell? ⟨(ad.add (k * 3)).block, (ad.add (k * 3)).off + 2, none⟩ = some (.bool (cd l k).w) := by
  obtain ⟨ad, rfl, hx, hy, hz⟩ := cyc_at h.c k (by omega) (by omega) ⟨0, 0, false⟩
  rw [Int.toNat_natCast] at hx hy hz
  rw [add_next] at hy hz
  exact ⟨ad, rfl, hx, hy, hz⟩
theorem w64L {x : Int} (h0 : -9223372036854775808 ≤ x) (h1 : x ≤ 9223372036854775807) : IntKind.i64.wrap x = x := by
  rw [IntKind.wrap_i64]
  omega
def serveB (l : List Cyc) (i e : Int) : Bool := decide (i + 1 < e) && ((cd l (i.toNat + 1)).a == (cd l i.toNat).a)
theorem impl_isServe (A : Option Addr) (l : List Cyc) (n : Nat) (i e : Int) (w : World) (h : Cs w A l) (h0 : 0 ≤ i) (hi : i < l.length) (h1 : e ≤ l.length) :
    Calls Tryd.prog 26 #[.slice A l.length n, .int .i64 i, .int .i64 e] w fun e' w' => e' = .returned (.bool (serveB l i e)) ∧ Below w.heap.size w w' := by
  have hmx := h.max
  obtain ⟨k, rfl⟩ := Int.eq_ofNat_of_zero_le h0
  by_cases hk : (k : Int) + 1 < e
  · obtain ⟨ad, rfl, hx, _, _⟩ := h.at k (by omega)
    obtain ⟨ad', e', hy, _, _⟩ := h.at (k + 1) (by omega)
    injection e' with e'
    subst e'
    unfold serveB
    rw [show decide ((k : Int) + 1 < e) = true from by simp [hk], Bool.true_and, Int.toNat_natCast]
    generalize (cd l (k + 1)).a = x at *
    generalize (cd l k).a = y at *
    have k1 : IntKind.i64.wrap ((k : Int) + 1) = (k : Int) + 1 := w64L (by omega) (by omega)
    have q0 : (0 : Int) ≤ (k : Int) := by omega
    have q1 : (0 : Int) ≤ (k : Int) + 1 := by omega
    have q2 : (k : Int) < (l.length : Int) := by omega
    have q3 : (k : Int) + 1 < (l.length : Int) := by omega
    have HB := hR w; go_enter Tryd.func26, Tryd.ntmps26
    go_wp2_with fail
    go_region_held3 (fun w' => w'.cell? (ad.add (k * 3)) = some (.int .u16 y) ∧ w'.cell? (ad.add ((k + 1) * 3)) = some (.int .u16 x)) (first | (go_keep; done) | (go_split_ands; (repeat' apply And.intro) <;> (first | (with_reducible assumption) | (go_simp; done) | (exact cell_keep blw (by assumption)) | exact blw))) (first | fail)
    go_wp2_with fail
    go_ret
    exact ⟨rfl, blw⟩
  · unfold serveB
    rw [show decide ((k : Int) + 1 < e) = false from by simp; omega, Bool.false_and]
    have k1 : IntKind.i64.wrap ((k : Int) + 1) = (k : Int) + 1 := w64L (by omega) (by omega)
    have k2 : decide ((k : Int) + 1 < e) = false := by simp; omega
    have HB := hR w; go_enter Tryd.func26, Tryd.ntmps26
    go_wp2_with fail
    go_quiet (fail)
    go_wp2_with fail
    go_ret
    exact ⟨rfl, blw⟩
theorem spec_l14Serve (A : Option Addr) (l : List Cyc) (n : Nat) (i : Int) (w : World) (h : Cs w A l) (h0 : 0 ≤ i) (hi : i < l.length) :
    Calls Tryd.prog 20 #[.slice A l.length n, .int .i64 i] w fun e' w' => e' = .returned (.bool (serveB l i l.length)) ∧ Below w.heap.size w w' := by
  have hmx := h.max
  obtain ⟨k, rfl⟩ := Int.eq_ofNat_of_zero_le h0
  by_cases hk : (k : Int) + 1 < (l.length : Int)
  · obtain ⟨ad, rfl, hx, _, _⟩ := h.at k (by omega)
    obtain ⟨ad', e', hy, _, _⟩ := h.at (k + 1) (by omega)
    injection e' with e'
    subst e'
    unfold serveB
    rw [show decide ((k : Int) + 1 < l.length) = true from by simp [hk], Bool.true_and, Int.toNat_natCast]
    generalize (cd l (k + 1)).a = x at *
    generalize (cd l k).a = y at *
    have k1 : IntKind.i64.wrap ((k : Int) + 1) = (k : Int) + 1 := w64L (by omega) (by omega)
    have q0 : (0 : Int) ≤ (k : Int) := by omega
    have q1 : (0 : Int) ≤ (k : Int) + 1 := by omega
    have q2 : (k : Int) < (l.length : Int) := by omega
    have HB := hR w; go_enter Tryd.func20, Tryd.ntmps20
    go_wp2_with fail
    go_region_held3 (fun w' => w'.cell? (ad.add (k * 3)) = some (.int .u16 y) ∧ w'.cell? (ad.add ((k + 1) * 3)) = some (.int .u16 x)) (first | (go_keep; done) | (go_split_ands; (repeat' apply And.intro) <;> (first | (with_reducible assumption) | (go_simp; done) | (exact cell_keep blw (by assumption)) | exact blw))) (first | fail)
    go_wp2_with fail
    go_ret
    exact ⟨rfl, blw⟩
  · unfold serveB
    rw [show decide ((k : Int) + 1 < l.length) = false from by simp; omega, Bool.false_and]
    have k1 : IntKind.i64.wrap ((k : Int) + 1) = (k : Int) + 1 := w64L (by omega) (by omega)
    have k2 : decide ((k : Int) + 1 < (l.length : Int)) = false := by simp; omega
    have HB := hR w; go_enter Tryd.func20, Tryd.ntmps20
    go_wp2_with fail
    go_quiet (fail)
    go_wp2_with fail
    go_ret
    exact ⟨rfl, blw⟩
theorem Cs.mid {w : World} {A : Option Addr} {l : List Cyc} {c lo hi : Nat} (h : Cs w A l) (h1 : lo ≤ hi) (h2 : hi ≤ l.length) (hc : l.length ≤ c) : Cs w (if c = lo then A else A.map (·.add (lo * 3))) ((l.take hi).drop lo) := by
  refine ⟨Kd.C_mid h.c h1 h2 hc, fun k => ?_⟩
  unfold cd
  rw [List.getD_eq_getElem?_getD, List.getElem?_drop]
  by_cases hk : lo + k < hi
  · rw [List.getElem?_take_of_lt hk, ← List.getD_eq_getElem?_getD]
    exact h.b (lo + k)
  · rw [List.getElem?_eq_none (by simp; omega)]
    exact ⟨by decide, by decide, by decide, by decide⟩
theorem Cs.at0 {w : World} {ad : Addr} {l : List Cyc} (h : Cs w (some ad) l) (hk : 0 < l.length) : w.cell? ad = some (.int .u16 (cd l 0).a) ∧ w.cell? ⟨ad.block, ad.off + 1, none⟩ = some (.int .u8 (cd l 0).d) := by
  obtain ⟨ad', e, hx, hy, _⟩ := h.at 0 hk
  injection e with e
  subst e
  exact ⟨by simpa [Addr.add] using hx, by simpa [Addr.add] using hy⟩
theorem Cs.atk {w : World} {ad : Addr} {l : List Cyc} (h : Cs w (some ad) l) (k : Nat) (hk : k < l.length) (k0 : 0 < k) : w.cell? ⟨ad.block, ad.off + k * 3, none⟩ = some (.int .u16 (cd l k).a) ∧ w.cell? ⟨ad.block, ad.off + k * 3 + 1, none⟩ = some (.int .u8 (cd l k).d) := by
  obtain ⟨ad', e, hx, hy, _⟩ := h.at k hk
  injection e with e
  subst e
  have : ad.add (k * 3) = ⟨ad.block, ad.off + k * 3, none⟩ := by
    unfold Addr.add
    rw [if_neg (by omega)]
  rw [this] at hx hy
  exact ⟨hx, hy⟩
def jsr : List UInt8 := [74, 83, 82]
theorem rd_all {L : List Int} (h : ∀ x ∈ L, 0 ≤ x ∧ x < 256) (i : Int) : 0 ≤ rd L i ∧ rd L i < 256 := by
  unfold rd
  rw [List.getD_eq_getElem?_getD]
  by_cases hi : i.toNat < L.length
  · rw [List.getElem?_eq_getElem hi]
    exact h _ (List.getElem_mem hi)
  · rw [List.getElem?_eq_none (by omega)]
    exact ⟨by decide, by decide⟩
theorem ownB_one (w : World) (c : Int) : OwnB (w.alloc (.cells #[.int .u8 c] 5)) w.heap.size (.slice (some ⟨w.heap.size, 0, none⟩) 1 1) [c] :=
  Kd.R_of_own (enc := Value.int .u8) (h1 := fun _ => rfl) ⟨rfl, Or.inr ⟨w.heap.size, 1, #[.int .u8 c], rfl, Nat.le_refl _, heap_alloc_new _ _, Nat.le_refl _, by decide, rfl, rfl⟩⟩ (fun _ _ => trivial)
theorem jsr3 : ∀ c : Nat, c < 256 → nmL c = [74, 83, 82] → sizeM (mdI c) = 3 := by decide +kernel
def third (c : Int) : Nat := if nmL c = jsr then 5 else 2
def shortU (u : List Cyc) : Bool := decide (1 < sizeM (mdI (cd u 0).d)) && decide (u.length ≤ 1) || decide (2 < sizeM (mdI (cd u 0).d)) && decide (u.length ≤ third (cd u 0).d)
def bytesU (u : List Cyc) : List Int := if sizeM (mdI (cd u 0).d) = 1 then [(cd u 0).d] else if sizeM (mdI (cd u 0).d) = 2 then [(cd u 0).d, (cd u 1).d] else [(cd u 0).d, (cd u 1).d, (cd u (third (cd u 0).d)).d]
def unitU (u : List Cyc) : List UInt8 :=
  if serveB u 0 u.length then (if 5 < u.length ∧ (cd u 5).a = 65530 then [78, 77, 73] else if 5 < u.length ∧ (cd u 5).a = 65534 then [73, 82, 81] else [73, 78, 84])
  else if sizeM (mdI (cd u 0).d) = 0 then [63] else if shortU u then [46, 46, 46] else showT (bytesU u) (cd u 0).a
def unitT (l : List Cyc) (i e : Int) : List UInt8 := if (0 ≤ i ∧ i ≤ l.length - 1) ∧ (i + 1 ≤ e ∧ e ≤ l.length) then unitU ((l.take e.toNat).drop i.toNat) else []
set_option maxRecDepth 20000 in
set_option maxHeartbeats 2000000 in
theorem spec_UnitText (A : Option Addr) (l : List Cyc) (n : Nat) (i e : Int) (w : World) (h : Cs w A l) (hn : l.length ≤ n) :
    Calls Tryd.prog 7 #[.slice A l.length n, .int .i64 i, .int .i64 e] w fun e' w' => e' = .returned (.string ⟨(unitT l i e).toArray⟩) ∧ Below w.heap.size w w' := by
  have hmx := h.max
  have g1 := fun W => spec_l01In i 0 ((l.length : Int) - 1) W
  have g2 := fun W => spec_l01In e (i + 1) (l.length : Int) W
  unfold unitT
  by_cases c1 : 0 ≤ i ∧ i ≤ (l.length : Int) - 1
  rotate_left
  · rw [show (decide (0 ≤ i) && decide (i ≤ (l.length : Int) - 1)) = false from by simp; omega] at g1
    rw [if_neg (by omega)]
    have HB := hR w; go_enter Tryd.func7, Tryd.ntmps7
    go_wp2_with fail
    refine (g1 _).mono ?_
    rintro _ _ ⟨rfl, rfl⟩
    go_wp2_with fail
    go_ret
    exact ⟨rfl, blw⟩
  rw [show (decide (0 ≤ i) && decide (i ≤ (l.length : Int) - 1)) = true from by simp; omega] at g1
  by_cases c2 : i + 1 ≤ e ∧ e ≤ (l.length : Int)
  rotate_left
  · rw [show (decide (i + 1 ≤ e) && decide (e ≤ (l.length : Int))) = false from by simp; omega] at g2
    rw [if_neg (by omega)]
    have k1 : IntKind.i64.wrap (i + 1) = i + 1 := w64L (by omega) (by omega)
    have HB := hR w; go_enter Tryd.func7, Tryd.ntmps7
    go_wp2_with fail
    refine (g1 _).mono ?_
    rintro _ _ ⟨rfl, rfl⟩
    go_wp2_with fail
    refine (g2 _).mono ?_
    rintro _ _ ⟨rfl, rfl⟩
    go_wp2_with fail
    go_ret
    exact ⟨rfl, blw⟩
  rw [show (decide (i + 1 ≤ e) && decide (e ≤ (l.length : Int))) = true from by simp; omega] at g2
  rw [if_pos ⟨c1, c2⟩]
  have hu := h.mid (lo := i.toNat) (hi := e.toNat) (by omega) (by omega) hn
  rw [if_neg (by omega)] at hu
  have hul : ((l.take e.toNat).drop i.toNat).length = e.toNat - i.toNat := by simp; omega
  have k1 : IntKind.i64.wrap (i + 1) = i + 1 := w64L (by omega) (by omega)
  obtain ⟨ad, rfl, _⟩ := h.at i.toNat (by omega)
  rw [Option.map_some] at hu
  have hu0 : 0 < ((l.take e.toNat).drop i.toNat).length := by omega
  have hcap : ((l.take e.toNat).drop i.toNat).length ≤ n - i.toNat := by omega
  generalize (l.take e.toNat).drop i.toNat = u at *
  have HUL := Aside0.mk hul
  clear hul
  have hsv := fun W hw => spec_l14Serve (some (ad.add (i.toNat * 3))) u (n - i.toNat) 0 W hw (by omega) (by omega)
  have HB := hR w; go_enter Tryd.func7, Tryd.ntmps7
  go_wp2_with fail
  refine (g1 _).mono ?_
  rintro _ _ ⟨rfl, rfl⟩
  go_wp2_with fail
  refine (g2 _).mono ?_
  rintro _ _ ⟨rfl, rfl⟩
  go_wp2_with fail
  rw [← HUL.out]
  generalize ad.add (i.toNat * 3) = ud at *
  generalize n - i.toNat = cap at *
  have US := Aside0.mk hu
  have hum := hu.max
  obtain ⟨x0, x1⟩ := hu.at0 hu0
  have o0 := hu.b 0
  have o1 := hu.b 1
  have o2 := hu.b 2
  have o5 := hu.b 5
  obtain ⟨c, ec⟩ : ∃ c, (cd u 0).d = c := ⟨_, rfl⟩
  have hc0 := o0.2.2
  rw [ec] at x1 hc0
  have EC := Aside0.mk ec
  clear h k1 ec
  refine Calls.mono (hsv _ (hu.below (blw))) ?_
  rintro _ w3 ⟨rfl, hb⟩
  (have HB := Aside0.mk (below_step (w := w) blw hb); have hz3 := hb.size; obtain ⟨hcl3, hfr3, hlt3, _⟩ := bcell hb; (try simp only [sA, sC, sD] at hz3); (try simp only [sA, sC, sD] at hcl3 hfr3 hlt3); have HB3 := hR w3; clear hb)
  have x0' := cell_keep HB.out x0
  have x1' := cell_keep HB.out x1
  cases hsb : serveB u 0 u.length
  rotate_left
  · 
    by_cases c5 : 5 < u.length
    · obtain ⟨y0, _⟩ := hu.atk 5 c5 (by decide)
      have y0' := cell_keep HB.out y0
      have c5' : (5 : Int) < u.length := by omega
      by_cases ca : (cd u 5).a = 65530
      · rw [ca] at y0'
        go_wp2_with fail
        go_ret
        exact ⟨ret_of (congrArg (fun x : List UInt8 => Value.string ⟨x.toArray⟩) (by simp [unitU, *])), blw⟩
      · by_cases cb : (cd u 5).a = 65534
        · rw [cb] at y0'
          go_wp2_with fail
          go_ret
          exact ⟨ret_of (congrArg (fun x : List UInt8 => Value.string ⟨x.toArray⟩) (by simp [unitU, *])), blw⟩
        · have ca' : ((cd u 5).a == 65530) = false := by simp [ca]
          have cb' : ((cd u 5).a == 65534) = false := by simp [cb]
          go_wp2_with fail
          go_ret
          exact ⟨ret_of (congrArg (fun x : List UInt8 => Value.string ⟨x.toArray⟩) (by simp [unitU, *])), blw⟩
    · have c5' : ¬ (5 : Int) < u.length := by omega
      go_wp2_with fail
      go_ret
      exact ⟨ret_of (congrArg (fun x : List UInt8 => Value.string ⟨x.toArray⟩) (by simp [unitU, *])), blw⟩
  · have hs := fun W => spec_SizeOf c W hc0.1 hc0.2
    have hnm := fun W => spec_NameOf c W hc0.1 hc0.2
    rw [of_byte (p := fun c => nmS c = nmL c) nmSI _ hc0.1 hc0.2] at hnm
    rw [of_byte (p := fun c => mdS c = mdI c) mdSI _ hc0.1 hc0.2] at hs
    have hz := sizeM_b (mdI c)
    have h3 : nmL c = jsr → sizeM (mdI c) = 3 := of_byte (p := fun c => nmL c = jsr → sizeM (mdI c) = 3) jsr3 _ hc0.1 hc0.2
    obtain ⟨z, ez⟩ : ∃ z, sizeM (mdI c) = z := ⟨_, rfl⟩
    rw [ez] at hs hz h3
    have HZ := Aside0.mk ez
    clear ez
    go_wp2_with fail
    refine (hs _).mono ?_
    rintro _ w4 ⟨rfl, hb⟩
    (have HB := Aside0.mk (below_step (w := w) blw hb); have hz4 := hb.size; obtain ⟨hcl4, hfr4, hlt4, _⟩ := bcell hb; (try simp only [sA, sC, sD] at hz4); (try simp only [sA, sC, sD] at hcl4 hfr4 hlt4); have HB4 := hR w4; clear hb)
    have x0'' := cell_keep HB.out x0
    by_cases z0 : z = 0
    · subst z0
      go_wp2_with fail
      go_ret
      exact ⟨ret_of (congrArg (fun x : List UInt8 => Value.string ⟨x.toArray⟩) (by simp [unitU, hsb, EC.out, HZ.out])), blw⟩
    go_wp2_with fail
    refine (hnm _).mono ?_
    rintro _ w5 ⟨rfl, hb⟩
    (have HB := Aside0.mk (below_step (w := w) blw hb); have hz5 := hb.size; obtain ⟨hcl5, hfr5, hlt5, _⟩ := bcell hb; (try simp only [sA, sC, sD] at hz5); (try simp only [sA, sC, sD] at hcl5 hfr5 hlt5); have HB5 := hR w5; clear hb)
    obtain ⟨d1, ed1⟩ : ∃ d, (cd u 1).d = d := ⟨_, rfl⟩
    have hd0 := o1.2.2
    have hh1 := fun W A n' hw hl hp => spec_ShowOp A [c] n' (cd u 0).a W hw hl hp o0.1 o0.2.1
    have hh2 := fun W A n' hw hl hp => spec_ShowOp A [c, d1] n' (cd u 0).a W hw hl hp o0.1 o0.2.1
    rw [ed1] at hd0
    have ED := Aside0.mk ed1
    by_cases hj : nmL c = jsr
    · have hj1 : (nmL c == [74, 83, 82]) = true := by rw [hj]; rfl
      obtain rfl := h3 hj
      have hj2 : nmL c = [74, 83, 82] := hj
      go_upto_region 18 with (fail)
      have hb : Below w5.heap.size w5 (w5.alloc (.cells #[.int .u8 c] 5)) := blw
      have HO := Aside0.mk (ownB_one w5 c)
      have hs6 : w5.heap.size < (w5.alloc (.cells #[.int .u8 c] 5)).heap.size := by rw [sA]; omega
      generalize w5.alloc (.cells #[.int .u8 c] 5) = w6 at *
      (have HB := Aside0.mk (below_step (w := w) blw hb); have hz6 := hb.size; obtain ⟨hcl6, hfr6, hlt6, _⟩ := bcell hb; (try simp only [sA, sC, sD] at hz6); (try simp only [sA, sC, sD] at hcl6 hfr6 hlt6); have HB6 := hR w6; clear hb)
      replace HO := Aside0.mk (HO.out.lower (by omega : w.heap.size ≤ w5.heap.size))
      have x06 := cell_keep HB.out x0
      by_cases c1 : 1 < u.length
      · obtain ⟨_, y1⟩ := hu.atk 1 c1 (by decide)
        rw [ed1] at y1
        have y16 := cell_keep HB.out y1
        have c1' : (1 : Int) < u.length := by omega
        by_cases ck : 5 < u.length
        · obtain ⟨_, yk⟩ := hu.atk 5 ck (by decide)
          obtain ⟨dk, edk⟩ : ∃ d, (cd u 5).d = d := ⟨_, rfl⟩
          have hdk := o5.2.2
          rw [edk] at yk hdk
          have EK := Aside0.mk edk
          have yk6 := cell_keep HB.out yk
          have ck' : (5 : Int) < u.length := by omega
          go_upto_region 20 with (at_builtin; refine Kd.R_append (Kd.int .u8) (w0 := w6) w.heap.size rfl _ _ 29 5 (.int .u8 0) 1 rfl Tryd.underlying29 infoU8 rfl (by decide) (by decide) (.slice (some ⟨w5.heap.size, 0, none⟩) 1 1) [c] d1 [.int .u8 d1] (fun _ => True) (fun k => some k ≠ ((.slice (some ⟨w5.heap.size, 0, none⟩) 1 1) : Value).ownBlock) rfl rfl rfl (fun _ hk => ⟨trivial, hk⟩) (fun _ _ => trivial) HO.out (Below.refl _ _) (by omega) (by simp) ?_; intro v2 wa ho2 hb2 hg2 hat2; obtain ⟨A2, c2, e2, hcc2, _⟩ := Kd.R_reads ho2; subst e2; replace HB := Aside0.mk (HB.out.trans hb2); have hza := hb2.size; have HG2 := Aside0.mk hg2; have HO2 := Aside0.mk (show OwnB _ _ _ _ from ho2); clear ho2 hb2 hg2 hat2; simp only [List.cons_append, List.nil_append] at HO2 hcc2; have x0a := cell_keep HB.out x0)
          have yka := cell_keep HB.out yk
          have hza' := hza
          go_wp2_with (at_builtin; refine Kd.R_append (Kd.int .u8) (w0 := wa) w.heap.size rfl _ _ 29 5 (.int .u8 0) 1 rfl Tryd.underlying29 infoU8 rfl (by decide) (by decide) (.slice A2 [c, d1].length c2) [c, d1] dk [.int .u8 dk] (fun _ => True) (fun k => some k ≠ ((.slice A2 [c, d1].length c2) : Value).ownBlock) rfl rfl rfl (fun _ hk => ⟨trivial, hk⟩) (fun _ _ => trivial) HO2.out (Below.refl _ _) (by omega) (by simp) ?_; intro v3 wb ho2 hb2 hg2 hat2; obtain ⟨A3, c3, e3, hcc3, _⟩ := Kd.R_reads ho2; subst e3; replace HB := Aside0.mk (HB.out.trans hb2); have hzb := hb2.size; have HO3 := Aside0.mk (show OwnB _ _ _ _ from ho2); clear ho2 hb2 hg2 hat2; simp only [List.cons_append, List.nil_append] at HO3 hcc3; have x0b := cell_keep HB.out x0)
          have hh3 := fun W A n' hw hl hp => spec_ShowOp A [c, d1, dk] n' (cd u 0).a W hw hl hp o0.1 o0.2.1
          refine Calls.mono (hh3 _ _ _ (HO3.out.bs (rd_all (by intro x hx; simp at hx; omega))) (by show (3 : Int) = sizeM (mdI c); exact HZ.out.symm) (Nat.succ_pos _)) ?_
          rintro _ w8 ⟨rfl, hb⟩
          (have HB := Aside0.mk (below_step (w := w) blw hb); have hz8 := hb.size; obtain ⟨hcl8, hfr8, hlt8, _⟩ := bcell hb; (try simp only [sA, sC, sD] at hz8); (try simp only [sA, sC, sD] at hcl8 hfr8 hlt8); have HB8 := hR w8; clear hb)
          go_wp2_with fail
          go_ret
          exact ⟨ret_of (congrArg (fun x : List UInt8 => Value.string ⟨x.toArray⟩) (by simp [unitU, shortU, bytesU, third, jsr, hsb, EC.out, HZ.out, ED.out, EK.out, hj2]; omega)), blw⟩
        · have ck' : ¬ (5 : Int) < u.length := by omega
          go_wp2_with (at_builtin; refine Kd.R_append (Kd.int .u8) (w0 := w6) w.heap.size rfl _ _ 29 5 (.int .u8 0) 1 rfl Tryd.underlying29 infoU8 rfl (by decide) (by decide) (.slice (some ⟨w5.heap.size, 0, none⟩) 1 1) [c] d1 [.int .u8 d1] (fun _ => True) (fun k => some k ≠ ((.slice (some ⟨w5.heap.size, 0, none⟩) 1 1) : Value).ownBlock) rfl rfl rfl (fun _ hk => ⟨trivial, hk⟩) (fun _ _ => trivial) HO.out (Below.refl _ _) (by omega) (by simp) ?_; intro v2 wa ho2 hb2 hg2 hat2; obtain ⟨A2, c2, e2, hcc2, _⟩ := Kd.R_reads ho2; subst e2; replace HB := Aside0.mk (HB.out.trans hb2); have hza := hb2.size; have HG2 := Aside0.mk hg2; have HO2 := Aside0.mk (show OwnB _ _ _ _ from ho2); clear ho2 hb2 hg2 hat2; simp only [List.cons_append, List.nil_append] at HO2 hcc2; have x0a := cell_keep HB.out x0)
          go_ret
          exact ⟨ret_of (congrArg (fun x : List UInt8 => Value.string ⟨x.toArray⟩) (by simp [unitU, shortU, bytesU, third, jsr, hsb, EC.out, HZ.out, ED.out, hj2]; omega)), blw⟩
      · have c1' : ¬ (1 : Int) < u.length := by omega
        have ck' : ¬ (5 : Int) < u.length := by omega
        go_wp2_with fail
        go_ret
        exact ⟨ret_of (congrArg (fun x : List UInt8 => Value.string ⟨x.toArray⟩) (by simp [unitU, shortU, bytesU, third, jsr, hsb, EC.out, HZ.out, ED.out, hj2]; omega)), blw⟩
    · have hj1 : (nmL c == [74, 83, 82]) = false := beq_eq_false_iff_ne.2 hj
      have hj2 : ¬ nmL c = [74, 83, 82] := hj
      go_upto_region 18 with (fail)
      have hb : Below w5.heap.size w5 (w5.alloc (.cells #[.int .u8 c] 5)) := blw
      have HO := Aside0.mk (ownB_one w5 c)
      have hs6 : w5.heap.size < (w5.alloc (.cells #[.int .u8 c] 5)).heap.size := by rw [sA]; omega
      generalize w5.alloc (.cells #[.int .u8 c] 5) = w6 at *
      (have HB := Aside0.mk (below_step (w := w) blw hb); have hz6 := hb.size; obtain ⟨hcl6, hfr6, hlt6, _⟩ := bcell hb; (try simp only [sA, sC, sD] at hz6); (try simp only [sA, sC, sD] at hcl6 hfr6 hlt6); have HB6 := hR w6; clear hb)
      replace HO := Aside0.mk (HO.out.lower (by omega : w.heap.size ≤ w5.heap.size))
      have x06 := cell_keep HB.out x0
      have hzz : z = 1 ∨ z = 2 ∨ z = 3 := by omega
      rcases hzz with rfl | rfl | rfl
      · skip
        go_wp2_with fail
        refine (hh1 _ _ 1 (HO.out.bs (rd_all (by intro x hx; simp at hx; omega))) (by show (1 : Int) = sizeM (mdI c); exact HZ.out.symm) (Nat.succ_pos _)).mono ?_
        rintro _ w7 ⟨rfl, hb⟩
        (have HB := Aside0.mk (below_step (w := w) blw hb); have hz7 := hb.size; obtain ⟨hcl7, hfr7, hlt7, _⟩ := bcell hb; (try simp only [sA, sC, sD] at hz7); (try simp only [sA, sC, sD] at hcl7 hfr7 hlt7); have HB7 := hR w7; clear hb)
        go_wp2_with fail
        go_ret
        exact ⟨ret_of (congrArg (fun x : List UInt8 => Value.string ⟨x.toArray⟩) (by simp [unitU, shortU, bytesU, hsb, EC.out, HZ.out])), blw⟩
      · by_cases c1 : 1 < u.length
        · obtain ⟨_, y1⟩ := hu.atk 1 c1 (by decide)
          rw [ed1] at y1
          have y16 := cell_keep HB.out y1
          have c1' : (1 : Int) < u.length := by omega
          go_wp2_with (at_builtin; refine Kd.R_append (Kd.int .u8) (w0 := w6) w.heap.size rfl _ _ 29 5 (.int .u8 0) 1 rfl Tryd.underlying29 infoU8 rfl (by decide) (by decide) (.slice (some ⟨w5.heap.size, 0, none⟩) 1 1) [c] d1 [.int .u8 d1] (fun _ => True) (fun k => some k ≠ ((.slice (some ⟨w5.heap.size, 0, none⟩) 1 1) : Value).ownBlock) rfl rfl rfl (fun _ hk => ⟨trivial, hk⟩) (fun _ _ => trivial) HO.out (Below.refl _ _) (by omega) (by simp) ?_; intro v2 wa ho2 hb2 hg2 hat2; obtain ⟨A2, c2, e2, hcc2, _⟩ := Kd.R_reads ho2; subst e2; replace HB := Aside0.mk (HB.out.trans hb2); have hza := hb2.size; have HG2 := Aside0.mk hg2; have HO2 := Aside0.mk (show OwnB _ _ _ _ from ho2); clear ho2 hb2 hg2 hat2; simp only [List.cons_append, List.nil_append] at HO2 hcc2; have x0a := cell_keep HB.out x0)
          refine Calls.mono (hh2 _ _ _ (HO2.out.bs (rd_all (by intro x hx; simp at hx; omega))) (by show (2 : Int) = sizeM (mdI c); exact HZ.out.symm) (Nat.succ_pos _)) ?_
          rintro _ w8 ⟨rfl, hb⟩
          (have HB := Aside0.mk (below_step (w := w) blw hb); have hz8 := hb.size; obtain ⟨hcl8, hfr8, hlt8, _⟩ := bcell hb; (try simp only [sA, sC, sD] at hz8); (try simp only [sA, sC, sD] at hcl8 hfr8 hlt8); have HB8 := hR w8; clear hb)
          go_wp2_with fail
          go_ret
          exact ⟨ret_of (congrArg (fun x : List UInt8 => Value.string ⟨x.toArray⟩) (by simp [unitU, shortU, bytesU, hsb, EC.out, HZ.out, ED.out]; omega)), blw⟩
        · have c1' : ¬ (1 : Int) < u.length := by omega
          go_wp2_with fail
          go_ret
          exact ⟨ret_of (congrArg (fun x : List UInt8 => Value.string ⟨x.toArray⟩) (by simp [unitU, shortU, hsb, EC.out, HZ.out]; omega)), blw⟩
      · skip
        by_cases c1 : 1 < u.length
        · obtain ⟨_, y1⟩ := hu.atk 1 c1 (by decide)
          rw [ed1] at y1
          have y16 := cell_keep HB.out y1
          have c1' : (1 : Int) < u.length := by omega
          by_cases ck : 2 < u.length
          · obtain ⟨_, yk⟩ := hu.atk 2 ck (by decide)
            obtain ⟨dk, edk⟩ : ∃ d, (cd u 2).d = d := ⟨_, rfl⟩
            have hdk := o2.2.2
            rw [edk] at yk hdk
            have EK := Aside0.mk edk
            have yk6 := cell_keep HB.out yk
            have ck' : (2 : Int) < u.length := by omega
            go_upto_region 20 with (at_builtin; refine Kd.R_append (Kd.int .u8) (w0 := w6) w.heap.size rfl _ _ 29 5 (.int .u8 0) 1 rfl Tryd.underlying29 infoU8 rfl (by decide) (by decide) (.slice (some ⟨w5.heap.size, 0, none⟩) 1 1) [c] d1 [.int .u8 d1] (fun _ => True) (fun k => some k ≠ ((.slice (some ⟨w5.heap.size, 0, none⟩) 1 1) : Value).ownBlock) rfl rfl rfl (fun _ hk => ⟨trivial, hk⟩) (fun _ _ => trivial) HO.out (Below.refl _ _) (by omega) (by simp) ?_; intro v2 wa ho2 hb2 hg2 hat2; obtain ⟨A2, c2, e2, hcc2, _⟩ := Kd.R_reads ho2; subst e2; replace HB := Aside0.mk (HB.out.trans hb2); have hza := hb2.size; have HG2 := Aside0.mk hg2; have HO2 := Aside0.mk (show OwnB _ _ _ _ from ho2); clear ho2 hb2 hg2 hat2; simp only [List.cons_append, List.nil_append] at HO2 hcc2; have x0a := cell_keep HB.out x0)
            have yka := cell_keep HB.out yk
            have hza' := hza
            go_wp2_with (at_builtin; refine Kd.R_append (Kd.int .u8) (w0 := wa) w.heap.size rfl _ _ 29 5 (.int .u8 0) 1 rfl Tryd.underlying29 infoU8 rfl (by decide) (by decide) (.slice A2 [c, d1].length c2) [c, d1] dk [.int .u8 dk] (fun _ => True) (fun k => some k ≠ ((.slice A2 [c, d1].length c2) : Value).ownBlock) rfl rfl rfl (fun _ hk => ⟨trivial, hk⟩) (fun _ _ => trivial) HO2.out (Below.refl _ _) (by omega) (by simp) ?_; intro v3 wb ho2 hb2 hg2 hat2; obtain ⟨A3, c3, e3, hcc3, _⟩ := Kd.R_reads ho2; subst e3; replace HB := Aside0.mk (HB.out.trans hb2); have hzb := hb2.size; have HO3 := Aside0.mk (show OwnB _ _ _ _ from ho2); clear ho2 hb2 hg2 hat2; simp only [List.cons_append, List.nil_append] at HO3 hcc3; have x0b := cell_keep HB.out x0)
            have hh3 := fun W A n' hw hl hp => spec_ShowOp A [c, d1, dk] n' (cd u 0).a W hw hl hp o0.1 o0.2.1
            refine Calls.mono (hh3 _ _ _ (HO3.out.bs (rd_all (by intro x hx; simp at hx; omega))) (by show (3 : Int) = sizeM (mdI c); exact HZ.out.symm) (Nat.succ_pos _)) ?_
            rintro _ w8 ⟨rfl, hb⟩
            (have HB := Aside0.mk (below_step (w := w) blw hb); have hz8 := hb.size; obtain ⟨hcl8, hfr8, hlt8, _⟩ := bcell hb; (try simp only [sA, sC, sD] at hz8); (try simp only [sA, sC, sD] at hcl8 hfr8 hlt8); have HB8 := hR w8; clear hb)
            go_wp2_with fail
            go_ret
            exact ⟨ret_of (congrArg (fun x : List UInt8 => Value.string ⟨x.toArray⟩) (by simp [unitU, shortU, bytesU, third, jsr, hsb, EC.out, HZ.out, ED.out, EK.out, hj2]; omega)), blw⟩
          · have ck' : ¬ (2 : Int) < u.length := by omega
            go_wp2_with (at_builtin; refine Kd.R_append (Kd.int .u8) (w0 := w6) w.heap.size rfl _ _ 29 5 (.int .u8 0) 1 rfl Tryd.underlying29 infoU8 rfl (by decide) (by decide) (.slice (some ⟨w5.heap.size, 0, none⟩) 1 1) [c] d1 [.int .u8 d1] (fun _ => True) (fun k => some k ≠ ((.slice (some ⟨w5.heap.size, 0, none⟩) 1 1) : Value).ownBlock) rfl rfl rfl (fun _ hk => ⟨trivial, hk⟩) (fun _ _ => trivial) HO.out (Below.refl _ _) (by omega) (by simp) ?_; intro v2 wa ho2 hb2 hg2 hat2; obtain ⟨A2, c2, e2, hcc2, _⟩ := Kd.R_reads ho2; subst e2; replace HB := Aside0.mk (HB.out.trans hb2); have hza := hb2.size; have HG2 := Aside0.mk hg2; have HO2 := Aside0.mk (show OwnB _ _ _ _ from ho2); clear ho2 hb2 hg2 hat2; simp only [List.cons_append, List.nil_append] at HO2 hcc2; have x0a := cell_keep HB.out x0)
            go_ret
            exact ⟨ret_of (congrArg (fun x : List UInt8 => Value.string ⟨x.toArray⟩) (by simp [unitU, shortU, bytesU, third, jsr, hsb, EC.out, HZ.out, ED.out, hj2]; omega)), blw⟩
        · have c1' : ¬ (1 : Int) < u.length := by omega
          have ck' : ¬ (2 : Int) < u.length := by omega
          go_wp2_with fail
          go_ret
          exact ⟨ret_of (congrArg (fun x : List UInt8 => Value.string ⟨x.toArray⟩) (by simp [unitU, shortU, bytesU, third, jsr, hsb, EC.out, HZ.out, ED.out, hj2]; omega)), blw⟩
theorem cd_mid (l : List Cyc) (i e k : Nat) (h : i + k < e) : cd ((l.take e).drop i) k = cd l (i + k) := by
  unfold cd
  rw [List.getD_eq_getElem?_getD, List.getElem?_drop, List.getElem?_take_of_lt h, ← List.getD_eq_getElem?_getD]
theorem serve_mid (l : List Cyc) (i e : Int) (h0 : 0 ≤ i) (h1 : i + 1 ≤ e) (h2 : e ≤ l.length) : serveB ((l.take e.toNat).drop i.toNat) 0 ((l.take e.toNat).drop i.toNat).length = serveB l i e := by
  have hl : ((l.take e.toNat).drop i.toNat).length = e.toNat - i.toNat := by simp; omega
  unfold serveB
  rw [hl]
  by_cases h : i + 1 < e
  · rw [show decide ((0 : Int) + 1 < ((e.toNat - i.toNat : Nat) : Int)) = true from by simp; omega, show decide (i + 1 < e) = true from by simp [h], cd_mid _ _ _ _ (by show i.toNat + (0 + 1) < _; omega), cd_mid _ _ _ _ (by show i.toNat + 0 < _; omega)]
    rfl
  · rw [show decide ((0 : Int) + 1 < ((e.toNat - i.toNat : Nat) : Int)) = false from by simp; omega, show decide (i + 1 < e) = false from by simp; omega]
    rfl
theorem kind7 : ∀ c : Nat, c < 256 → (kindI c == 7) = (nmL c == [74, 83, 82]) := by decide +kernel
def OwnB1 (w : World) (base g : Nat) (c : Int) : Prop := Kd.R (Kd.int .u8) 5 w base (fun k => k = g) (.slice (some ⟨g, 0, none⟩) 1 1) [c]
theorem ownB1_one (w : World) (c : Int) : OwnB1 (w.alloc (.cells #[.int .u8 c] 5)) w.heap.size w.heap.size c :=
  Kd.R_of_own (enc := Value.int .u8) (h1 := fun _ => rfl) ⟨rfl, Or.inr ⟨w.heap.size, 1, #[.int .u8 c], rfl, Nat.le_refl _, heap_alloc_new _ _, Nat.le_refl _, by decide, rfl, rfl⟩⟩ (fun k e => by injection e with e; exact e.symm)
theorem OwnB1.below {w w1 : World} {base g : Nat} {c : Int} (h : OwnB1 w base g c) (hb : Below w.heap.size w w1) : OwnB1 w1 base g c := Kd.R_below h hb
theorem OwnB1.far {w : World} {base g k i : Nat} {c : Int} {u : Value} (h : OwnB1 w base g c) (hk : g ≠ k) : OwnB1 (w.setCell ⟨k, i, none⟩ u) base g c := Kd.R_far h (fun j hj => by subst hj; exact hk) u
theorem OwnB1.own {w : World} {base g : Nat} {c : Int} (h : OwnB1 w base g c) : OwnB w base (.slice (some ⟨g, 0, none⟩) 1 1) [c] := Kd.R_mono h (fun _ _ => trivial)
set_option maxRecDepth 20000 in
set_option maxHeartbeats 2000000 in
theorem impl_UnitText (A : Option Addr) (l : List Cyc) (n : Nat) (i e : Int) (w : World) (h : Cs w A l) (hn : l.length ≤ n) (he : Env w) :
    Calls Tryd.prog 9 #[.slice A l.length n, .int .i64 i, .int .i64 e] w fun e' w' => e' = .returned (.string ⟨(unitT l i e).toArray⟩) ∧ Below w.heap.size w w' := by
  have hmx := h.max
  have g1 := fun W => impl_within i 0 ((l.length : Int) - 1) W
  have g2 := fun W => impl_within e (i + 1) (l.length : Int) W
  unfold unitT
  by_cases c1 : 0 ≤ i ∧ i ≤ (l.length : Int) - 1
  rotate_left
  · rw [show (decide (0 ≤ i) && decide (i ≤ (l.length : Int) - 1)) = false from by simp; omega] at g1
    rw [if_neg (by omega)]
    have HB := hR w; go_enter Tryd.func9, Tryd.ntmps9
    go_wp2_with fail
    refine (g1 _).mono ?_
    rintro _ _ ⟨rfl, rfl⟩
    go_wp2_with fail
    go_ret
    exact ⟨rfl, blw⟩
  rw [show (decide (0 ≤ i) && decide (i ≤ (l.length : Int) - 1)) = true from by simp; omega] at g1
  by_cases c2 : i + 1 ≤ e ∧ e ≤ (l.length : Int)
  rotate_left
  · rw [show (decide (i + 1 ≤ e) && decide (e ≤ (l.length : Int))) = false from by simp; omega] at g2
    rw [if_neg (by omega)]
    have k1 : IntKind.i64.wrap (i + 1) = i + 1 := w64L (by omega) (by omega)
    have HB := hR w; go_enter Tryd.func9, Tryd.ntmps9
    go_wp2_with fail
    refine (g1 _).mono ?_
    rintro _ _ ⟨rfl, rfl⟩
    go_wp2_with fail
    refine (g2 _).mono ?_
    rintro _ _ ⟨rfl, rfl⟩
    go_wp2_with fail
    go_ret
    exact ⟨rfl, blw⟩
  rw [show (decide (i + 1 ≤ e) && decide (e ≤ (l.length : Int))) = true from by simp; omega] at g2
  rw [if_pos ⟨c1, c2⟩]
  have hu := h.mid (lo := i.toNat) (hi := e.toNat) (by omega) (by omega) hn
  rw [if_neg (by omega)] at hu
  have hul : ((l.take e.toNat).drop i.toNat).length = e.toNat - i.toNat := by simp; omega
  have k1 : IntKind.i64.wrap (i + 1) = i + 1 := w64L (by omega) (by omega)
  have hsv := fun W hw => impl_isServe A l n i e W hw c1.1 (by omega) c2.2
  rw [← serve_mid l i e c1.1 c2.1 c2.2] at hsv
  obtain ⟨ad, rfl, _⟩ := h.at i.toNat (by omega)
  rw [Option.map_some] at hu
  have hu0 : 0 < ((l.take e.toNat).drop i.toNat).length := by omega
  have hcap : ((l.take e.toNat).drop i.toNat).length ≤ n - i.toNat := by omega
  generalize (l.take e.toNat).drop i.toNat = u at *
  have HUL := Aside0.mk hul
  clear hul
  have HB := hR w; go_enter Tryd.func9, Tryd.ntmps9
  go_wp2_with fail
  refine (g1 _).mono ?_
  rintro _ _ ⟨rfl, rfl⟩
  go_wp2_with fail
  refine (g2 _).mono ?_
  rintro _ _ ⟨rfl, rfl⟩
  go_wp2_with fail
  rw [← HUL.out]
  generalize ad.add (i.toNat * 3) = ud at *
  generalize n - i.toNat = cap at *
  have hum := hu.max
  obtain ⟨x0, x1⟩ := hu.at0 hu0
  have o0 := hu.b 0
  have o1 := hu.b 1
  have o2 := hu.b 2
  have o5 := hu.b 5
  obtain ⟨c, ec⟩ : ∃ c, (cd u 0).d = c := ⟨_, rfl⟩
  have hc0 := o0.2.2
  rw [ec] at x1 hc0
  have EC := Aside0.mk ec
  have LS := Aside0.mk h
  clear k1 ec
  refine Calls.mono (hsv _ (h.below (blw))) ?_
  rintro _ w3 ⟨rfl, hb⟩
  (have HB := Aside0.mk (below_step (w := w) blw hb); have hz3 := hb.size; obtain ⟨hcl3, hfr3, hlt3, _⟩ := bcell hb; (try simp only [sA, sC, sD] at hz3); (try simp only [sA, sC, sD] at hcl3 hfr3 hlt3); have HB3 := hR w3; clear hb)
  have x0' := cell_keep HB.out x0
  have x1' := cell_keep HB.out x1
  cases hsb : serveB u 0 u.length
  rotate_left
  · 
    by_cases c5 : 5 < u.length
    · obtain ⟨y0, _⟩ := hu.atk 5 c5 (by decide)
      have y0' := cell_keep HB.out y0
      have c5' : (5 : Int) < u.length := by omega
      by_cases ca : (cd u 5).a = 65530
      · rw [ca] at y0'
        go_wp2_with fail
        go_ret
        exact ⟨ret_of (congrArg (fun x : List UInt8 => Value.string ⟨x.toArray⟩) (by simp [unitU, *])), blw⟩
      · by_cases cb : (cd u 5).a = 65534
        · rw [cb] at y0'
          go_wp2_with fail
          go_ret
          exact ⟨ret_of (congrArg (fun x : List UInt8 => Value.string ⟨x.toArray⟩) (by simp [unitU, *])), blw⟩
        · have ca' : ((cd u 5).a == 65530) = false := by simp [ca]
          have cb' : ((cd u 5).a == 65534) = false := by simp [cb]
          go_wp2_with fail
          go_ret
          exact ⟨ret_of (congrArg (fun x : List UInt8 => Value.string ⟨x.toArray⟩) (by simp [unitU, *])), blw⟩
    · have c5' : ¬ (5 : Int) < u.length := by omega
      go_wp2_with fail
      go_ret
      exact ⟨ret_of (congrArg (fun x : List UInt8 => Value.string ⟨x.toArray⟩) (by simp [unitU, *])), blw⟩
  · have hs := fun W e => impl_SizeOf c W hc0.1 hc0.2 e
    have hkd := fun W e => impl_KindOf c W hc0.1 hc0.2 e
    have hz := sizeM_b (mdI c)
    have h3 : nmL c = jsr → sizeM (mdI c) = 3 := of_byte (p := fun c => nmL c = jsr → sizeM (mdI c) = 3) jsr3 _ hc0.1 hc0.2
    have h7 : (kindI c == 7) = (nmL c == [74, 83, 82]) := of_byte (p := fun c => (kindI c == 7) = (nmL c == [74, 83, 82])) kind7 _ hc0.1 hc0.2
    obtain ⟨z, ez⟩ : ∃ z, sizeM (mdI c) = z := ⟨_, rfl⟩
    rw [ez] at hs hz h3
    have HZ := Aside0.mk ez
    clear ez
    go_wp2_with fail
    refine (hs _ (he.below HB.out)).mono ?_
    rintro _ w4 ⟨rfl, hb⟩
    (have HB := Aside0.mk (below_step (w := w) blw hb); have hz4 := hb.size; obtain ⟨hcl4, hfr4, hlt4, _⟩ := bcell hb; (try simp only [sA, sC, sD] at hz4); (try simp only [sA, sC, sD] at hcl4 hfr4 hlt4); have HB4 := hR w4; clear hb)
    have x0'' := cell_keep HB.out x0
    have x1'' := cell_keep HB.out x1
    by_cases z0 : z = 0
    · subst z0
      go_wp2_with fail
      go_ret
      exact ⟨ret_of (congrArg (fun x : List UInt8 => Value.string ⟨x.toArray⟩) (by simp [unitU, hsb, EC.out, HZ.out])), blw⟩
    go_upto_region 15 with (fail)
    have hb : Below w4.heap.size w4 ((w4.alloc (.cells #[.int .u8 c] 5)).alloc (.cells #[.int .i64 0, .int .i64 1, .int .i64 2] 3)) := blw
    have HO := Aside0.mk ((ownB1_one w4 c).below (blw : Below _ _ ((w4.alloc (.cells #[.int .u8 c] 5)).alloc (.cells #[.int .i64 0, .int .i64 1, .int .i64 2] 3))))
    have HP := Aside0.mk (Blk.at (w := w4.alloc (.cells #[.int .u8 c] 5)) (g := w4.heap.size + 1) (cs := #[.int .i64 0, .int .i64 1, .int .i64 2]) (t := 3) (by simp))
    have hs6 : w4.heap.size + 1 < ((w4.alloc (.cells #[.int .u8 c] 5)).alloc (.cells #[.int .i64 0, .int .i64 1, .int .i64 2] 3)).heap.size := by simp
    generalize (w4.alloc (.cells #[.int .u8 c] 5)).alloc (.cells #[.int .i64 0, .int .i64 1, .int .i64 2] 3) = w6 at *
    (have HB := Aside0.mk (below_step (w := w) blw hb); have hz6 := hb.size; obtain ⟨hcl6, hfr6, hlt6, _⟩ := bcell hb; (try simp only [sA, sC, sD] at hz6); (try simp only [sA, sC, sD] at hcl6 hfr6 hlt6); have HB6 := hR w6; clear hb)
    have p1 : w6.cell? ⟨w4.heap.size + 1, 1, none⟩ = some (.int .i64 1) := HP.out.cell 1
    have p2 : w6.cell? ⟨w4.heap.size + 1, 2, none⟩ = some (.int .i64 2) := HP.out.cell 2
    have pf := HP.out.free 2
    have x06 := cell_keep HB.out x0
    have x16 := cell_keep HB.out x1
    go_wp2_with fail
    refine Calls.mono (hkd _ (he.below HB.out)) ?_
    rintro _ w7 ⟨rfl, hb⟩
    have HO := Aside0.mk (HO.out.below hb)
    have HP := Aside0.mk (HP.out.below hb)
    (have HB := Aside0.mk (below_step (w := w) blw hb); have hz7 := hb.size; obtain ⟨hcl7, hfr7, hlt7, _⟩ := bcell hb; (try simp only [sA, sC, sD] at hz7); (try simp only [sA, sC, sD] at hcl7 hfr7 hlt7); have hk7_0 : w4.heap.size < w7.heap.size := (by omega); have hk7_1 : w4.heap.size + 1 < w7.heap.size := (by omega); have HB7 := hR w7; clear hb)
    have x07 := cell_keep HB.out x0
    obtain ⟨d1, ed1⟩ : ∃ d, (cd u 1).d = d := ⟨_, rfl⟩
    have hd0 := o1.2.2
    have hh1 := fun W A n' hw hl hp hn => impl_ShowOp A [c] n' (cd u 0).a W hw hl hp hn o0.1 o0.2.1
    have hh2 := fun W A n' hw hl hp hn => impl_ShowOp A [c, d1] n' (cd u 0).a W hw hl hp hn o0.1 o0.2.1
    rw [ed1] at hd0
    have ED := Aside0.mk ed1
    by_cases hj : nmL c = jsr
    · have hj2 : nmL c = [74, 83, 82] := hj
      rw [show (nmL c == [74, 83, 82]) = true from by rw [hj2]; rfl] at h7
      obtain rfl := h3 hj
      go_upto_region 17 with (fail)
      have HO := Aside0.mk ((HO.out.far (k := w4.heap.size + 1) (i := 2) (u := .int .i64 5) (by omega)).own.lower (by omega : w.heap.size ≤ w4.heap.size))
      have HP5 : Blk (w7.setCell ⟨w4.heap.size + 1, 2, none⟩ (.int .i64 5)) (w4.heap.size + 1) #[.int .i64 0, .int .i64 1, .int .i64 5] 3 := blk_set HP.out 2 _
      have hs8 : w7.heap.size ≤ (w7.setCell ⟨w4.heap.size + 1, 2, none⟩ (.int .i64 5)).heap.size := Nat.le_of_eq (sC _ _ _).symm
      have HB8 := Aside0.mk (blw : Below w.heap.size w (w7.setCell ⟨w4.heap.size + 1, 2, none⟩ (.int .i64 5)))
      clear p1 p2 pf
      generalize w7.setCell ⟨w4.heap.size + 1, 2, none⟩ (.int .i64 5) = w8 at *
      clear HB
      have HB := HB8
      have x08 := cell_keep HB.out x0
      have p1 : w8.cell? ⟨w4.heap.size + 1, 1, none⟩ = some (.int .i64 1) := HP5.cell 1
      have p2 : w8.cell? ⟨w4.heap.size + 1, 2, none⟩ = some (.int .i64 5) := HP5.cell 2
      have P2 := Aside0.mk p2
      clear HP5
      go_wp2_with fail
      by_cases c1 : 1 < u.length
      · obtain ⟨_, y1⟩ := hu.atk 1 c1 (by decide)
        rw [ed1] at y1
        have y16 := cell_keep HB.out y1
        have c1' : (1 : Int) < u.length := by omega
        by_cases ck : 5 < u.length
        · obtain ⟨_, yk⟩ := hu.atk 5 ck (by decide)
          obtain ⟨dk, edk⟩ : ∃ d, (cd u 5).d = d := ⟨_, rfl⟩
          have hdk := o5.2.2
          rw [edk] at yk hdk
          have EK := Aside0.mk edk
          have yk6 := cell_keep HB.out yk
          have ck' : (5 : Int) < u.length := by omega
          have hh3 := fun W A n' hw hl hp hn => impl_ShowOp A [c, d1, dk] n' (cd u 0).a W hw hl hp hn o0.1 o0.2.1
          refine wp_loop_rounds 3 ?_
          rw [rounds_succ]
          go_wp2_with (at_builtin; refine Kd.R_append (Kd.int .u8) (w0 := w8) w.heap.size rfl _ _ 29 5 (.int .u8 0) 1 rfl Tryd.underlying29 infoU8 rfl (by decide) (by decide) (.slice (some ⟨w4.heap.size, 0, none⟩) 1 1) [c] d1 [.int .u8 d1] (fun _ => True) (fun k => some k ≠ ((.slice (some ⟨w4.heap.size, 0, none⟩) 1 1) : Value).ownBlock) rfl rfl rfl (fun _ hk => ⟨trivial, hk⟩) (fun _ _ => trivial) HO.out (Below.refl _ _) (by omega) (by simp) ?_; intro v2 wa ho2 hb2 hg2 hat2; obtain ⟨A2, c2, e2, hcc2, _⟩ := Kd.R_reads ho2; subst e2; replace HB := Aside0.mk (HB.out.trans hb2); have hza := hb2.size; have HG2 := Aside0.mk hg2; have HO2 := Aside0.mk (show OwnB _ _ _ _ from ho2); clear ho2 hb2 hg2 hat2; simp only [List.cons_append, List.nil_append] at HO2 hcc2; have x0a := cell_keep HB.out x0)
          have yka := cell_keep HB.out yk
          have p2a := (World.cell?_of_block (HG2.out.block (w4.heap.size + 1) (by omega) (by intro e; exact absurd (Option.some.inj e) (by show ¬ (w4.heap.size + 1 = w4.heap.size); omega)))).trans P2.out
          rw [rounds_succ]
          go_wp2_with (at_builtin; refine Kd.R_append (Kd.int .u8) (w0 := wa) w.heap.size rfl _ _ 29 5 (.int .u8 0) 1 rfl Tryd.underlying29 infoU8 rfl (by decide) (by decide) (.slice A2 [c, d1].length c2) [c, d1] dk [.int .u8 dk] (fun _ => True) (fun k => some k ≠ ((.slice A2 [c, d1].length c2) : Value).ownBlock) rfl rfl rfl (fun _ hk => ⟨trivial, hk⟩) (fun _ _ => trivial) HO2.out (Below.refl _ _) (by omega) (by simp) ?_; intro v3 wb ho2 hb2 hg2 hat2; obtain ⟨A3, c3, e3, hcc3, _⟩ := Kd.R_reads ho2; subst e3; replace HB := Aside0.mk (HB.out.trans hb2); have hzb := hb2.size; have HO3 := Aside0.mk (show OwnB _ _ _ _ from ho2); clear ho2 hb2 hg2 hat2; simp only [List.cons_append, List.nil_append] at HO3 hcc3; have x0b := cell_keep HB.out x0)
          rw [rounds_succ]
          go_wp2_with fail
          refine Calls.mono (hh3 _ _ _ (HO3.out.bs (rd_all (by intro x hx; simp at hx; omega))) (by show (3 : Int) = sizeM (mdI c); exact HZ.out.symm) (Nat.succ_pos _) hcc3 (he.below HB.out)) ?_
          rintro _ w9 ⟨rfl, hb⟩
          (have HB := Aside0.mk (below_step (w := w) blw hb); have hz9 := hb.size; obtain ⟨hcl9, hfr9, hlt9, _⟩ := bcell hb; (try simp only [sA, sC, sD] at hz9); (try simp only [sA, sC, sD] at hcl9 hfr9 hlt9); have HB9 := hR w9; clear hb)
          go_wp2_with fail
          go_ret
          exact ⟨ret_of (congrArg (fun x : List UInt8 => Value.string ⟨x.toArray⟩) (by simp [unitU, shortU, bytesU, third, jsr, hsb, EC.out, HZ.out, ED.out, EK.out, hj2]; omega)), blw⟩
        · have ck' : ¬ (5 : Int) < u.length := by omega
          refine wp_loop_rounds 3 ?_
          rw [rounds_succ]
          go_wp2_with (at_builtin; refine Kd.R_append (Kd.int .u8) (w0 := w8) w.heap.size rfl _ _ 29 5 (.int .u8 0) 1 rfl Tryd.underlying29 infoU8 rfl (by decide) (by decide) (.slice (some ⟨w4.heap.size, 0, none⟩) 1 1) [c] d1 [.int .u8 d1] (fun _ => True) (fun k => some k ≠ ((.slice (some ⟨w4.heap.size, 0, none⟩) 1 1) : Value).ownBlock) rfl rfl rfl (fun _ hk => ⟨trivial, hk⟩) (fun _ _ => trivial) HO.out (Below.refl _ _) (by omega) (by simp) ?_; intro v2 wa ho2 hb2 hg2 hat2; obtain ⟨A2, c2, e2, hcc2, _⟩ := Kd.R_reads ho2; subst e2; replace HB := Aside0.mk (HB.out.trans hb2); have hza := hb2.size; have HG2 := Aside0.mk hg2; have HO2 := Aside0.mk (show OwnB _ _ _ _ from ho2); clear ho2 hb2 hg2 hat2; simp only [List.cons_append, List.nil_append] at HO2 hcc2; have x0a := cell_keep HB.out x0)
          have p2a := (World.cell?_of_block (HG2.out.block (w4.heap.size + 1) (by omega) (by intro e; exact absurd (Option.some.inj e) (by show ¬ (w4.heap.size + 1 = w4.heap.size); omega)))).trans P2.out
          rw [rounds_succ]
          go_wp2_with fail
          go_ret
          exact ⟨ret_of (congrArg (fun x : List UInt8 => Value.string ⟨x.toArray⟩) (by simp [unitU, shortU, bytesU, third, jsr, hsb, EC.out, HZ.out, ED.out, hj2]; omega)), blw⟩
      · have c1' : ¬ (1 : Int) < u.length := by omega
        have ck' : ¬ (5 : Int) < u.length := by omega
        refine wp_loop_rounds 3 ?_
        rw [rounds_succ]
        go_wp2_with fail
        go_ret
        exact ⟨ret_of (congrArg (fun x : List UInt8 => Value.string ⟨x.toArray⟩) (by simp [unitU, shortU, bytesU, third, jsr, hsb, EC.out, HZ.out, ED.out, hj2]; omega)), blw⟩
    · have hj2 : ¬ nmL c = [74, 83, 82] := hj
      rw [show (nmL c == [74, 83, 82]) = false from beq_eq_false_iff_ne.2 hj2] at h7
      replace HO := Aside0.mk (HO.out.own.lower (by omega : w.heap.size ≤ w4.heap.size))
      have P2 := Aside0.mk (show w7.cell? ⟨w4.heap.size + 1, 2, none⟩ = some (.int .i64 2) from HP.out.cell 2)
      have hzz : z = 1 ∨ z = 2 ∨ z = 3 := by omega
      rcases hzz with rfl | rfl | rfl
      · go_wp2_with fail
        refine wp_loop_rounds 1 ?_
        rw [rounds_succ]
        go_wp2_with fail
        refine Calls.mono (hh1 _ _ 1 (HO.out.bs (rd_all (by intro x hx; simp at hx; omega))) (by show (1 : Int) = sizeM (mdI c); exact HZ.out.symm) (Nat.succ_pos _) (Nat.le_refl _) (he.below HB.out)) ?_
        rintro _ w9 ⟨rfl, hb⟩
        (have HB := Aside0.mk (below_step (w := w) blw hb); have hz9 := hb.size; obtain ⟨hcl9, hfr9, hlt9, _⟩ := bcell hb; (try simp only [sA, sC, sD] at hz9); (try simp only [sA, sC, sD] at hcl9 hfr9 hlt9); have HB9 := hR w9; clear hb)
        go_wp2_with fail
        go_ret
        exact ⟨ret_of (congrArg (fun x : List UInt8 => Value.string ⟨x.toArray⟩) (by simp [unitU, shortU, bytesU, third, jsr, hsb, EC.out, HZ.out, ED.out, hj2])), blw⟩
      · go_wp2_with fail
        by_cases c1 : 1 < u.length
        · obtain ⟨_, y1⟩ := hu.atk 1 c1 (by decide)
          rw [ed1] at y1
          have y16 := cell_keep HB.out y1
          have c1' : (1 : Int) < u.length := by omega
          refine wp_loop_rounds 2 ?_
          rw [rounds_succ]
          go_wp2_with (at_builtin; refine Kd.R_append (Kd.int .u8) (w0 := w7) w.heap.size rfl _ _ 29 5 (.int .u8 0) 1 rfl Tryd.underlying29 infoU8 rfl (by decide) (by decide) (.slice (some ⟨w4.heap.size, 0, none⟩) 1 1) [c] d1 [.int .u8 d1] (fun _ => True) (fun k => some k ≠ ((.slice (some ⟨w4.heap.size, 0, none⟩) 1 1) : Value).ownBlock) rfl rfl rfl (fun _ hk => ⟨trivial, hk⟩) (fun _ _ => trivial) HO.out (Below.refl _ _) (by omega) (by simp) ?_; intro v2 wa ho2 hb2 hg2 hat2; obtain ⟨A2, c2, e2, hcc2, _⟩ := Kd.R_reads ho2; subst e2; replace HB := Aside0.mk (HB.out.trans hb2); have hza := hb2.size; have HG2 := Aside0.mk hg2; have HO2 := Aside0.mk (show OwnB _ _ _ _ from ho2); clear ho2 hb2 hg2 hat2; simp only [List.cons_append, List.nil_append] at HO2 hcc2; have x0a := cell_keep HB.out x0)
          rw [rounds_succ]
          go_wp2_with fail
          refine Calls.mono (hh2 _ _ _ (HO2.out.bs (rd_all (by intro x hx; simp at hx; omega))) (by show (2 : Int) = sizeM (mdI c); exact HZ.out.symm) (Nat.succ_pos _) hcc2 (he.below HB.out)) ?_
          rintro _ w9 ⟨rfl, hb⟩
          (have HB := Aside0.mk (below_step (w := w) blw hb); have hz9 := hb.size; obtain ⟨hcl9, hfr9, hlt9, _⟩ := bcell hb; (try simp only [sA, sC, sD] at hz9); (try simp only [sA, sC, sD] at hcl9 hfr9 hlt9); have HB9 := hR w9; clear hb)
          go_wp2_with fail
          go_ret
          exact ⟨ret_of (congrArg (fun x : List UInt8 => Value.string ⟨x.toArray⟩) (by simp [unitU, shortU, bytesU, third, jsr, hsb, EC.out, HZ.out, ED.out, hj2]; omega)), blw⟩
        · have c1' : ¬ (1 : Int) < u.length := by omega
          refine wp_loop_rounds 2 ?_
          rw [rounds_succ]
          go_wp2_with fail
          go_ret
          exact ⟨ret_of (congrArg (fun x : List UInt8 => Value.string ⟨x.toArray⟩) (by simp [unitU, shortU, bytesU, third, jsr, hsb, EC.out, HZ.out, ED.out, hj2]; omega)), blw⟩
      · go_wp2_with fail
        by_cases c1 : 1 < u.length
        · obtain ⟨_, y1⟩ := hu.atk 1 c1 (by decide)
          rw [ed1] at y1
          have y16 := cell_keep HB.out y1
          have c1' : (1 : Int) < u.length := by omega
          by_cases ck : 2 < u.length
          · obtain ⟨_, yk⟩ := hu.atk 2 ck (by decide)
            obtain ⟨dk, edk⟩ : ∃ d, (cd u 2).d = d := ⟨_, rfl⟩
            have hdk := o2.2.2
            rw [edk] at yk hdk
            have EK := Aside0.mk edk
            have yk6 := cell_keep HB.out yk
            have ck' : (2 : Int) < u.length := by omega
            have hh3 := fun W A n' hw hl hp hn => impl_ShowOp A [c, d1, dk] n' (cd u 0).a W hw hl hp hn o0.1 o0.2.1
            refine wp_loop_rounds 3 ?_
            rw [rounds_succ]
            go_wp2_with (at_builtin; refine Kd.R_append (Kd.int .u8) (w0 := w7) w.heap.size rfl _ _ 29 5 (.int .u8 0) 1 rfl Tryd.underlying29 infoU8 rfl (by decide) (by decide) (.slice (some ⟨w4.heap.size, 0, none⟩) 1 1) [c] d1 [.int .u8 d1] (fun _ => True) (fun k => some k ≠ ((.slice (some ⟨w4.heap.size, 0, none⟩) 1 1) : Value).ownBlock) rfl rfl rfl (fun _ hk => ⟨trivial, hk⟩) (fun _ _ => trivial) HO.out (Below.refl _ _) (by omega) (by simp) ?_; intro v2 wa ho2 hb2 hg2 hat2; obtain ⟨A2, c2, e2, hcc2, _⟩ := Kd.R_reads ho2; subst e2; replace HB := Aside0.mk (HB.out.trans hb2); have hza := hb2.size; have HG2 := Aside0.mk hg2; have HO2 := Aside0.mk (show OwnB _ _ _ _ from ho2); clear ho2 hb2 hg2 hat2; simp only [List.cons_append, List.nil_append] at HO2 hcc2; have x0a := cell_keep HB.out x0)
            have yka := cell_keep HB.out yk
            have p2a := (World.cell?_of_block (HG2.out.block (w4.heap.size + 1) (by omega) (by intro e; exact absurd (Option.some.inj e) (by show ¬ (w4.heap.size + 1 = w4.heap.size); omega)))).trans P2.out
            rw [rounds_succ]
            go_wp2_with (at_builtin; refine Kd.R_append (Kd.int .u8) (w0 := wa) w.heap.size rfl _ _ 29 5 (.int .u8 0) 1 rfl Tryd.underlying29 infoU8 rfl (by decide) (by decide) (.slice A2 [c, d1].length c2) [c, d1] dk [.int .u8 dk] (fun _ => True) (fun k => some k ≠ ((.slice A2 [c, d1].length c2) : Value).ownBlock) rfl rfl rfl (fun _ hk => ⟨trivial, hk⟩) (fun _ _ => trivial) HO2.out (Below.refl _ _) (by omega) (by simp) ?_; intro v3 wb ho2 hb2 hg2 hat2; obtain ⟨A3, c3, e3, hcc3, _⟩ := Kd.R_reads ho2; subst e3; replace HB := Aside0.mk (HB.out.trans hb2); have hzb := hb2.size; have HO3 := Aside0.mk (show OwnB _ _ _ _ from ho2); clear ho2 hb2 hg2 hat2; simp only [List.cons_append, List.nil_append] at HO3 hcc3; have x0b := cell_keep HB.out x0)
            rw [rounds_succ]
            go_wp2_with fail
            refine Calls.mono (hh3 _ _ _ (HO3.out.bs (rd_all (by intro x hx; simp at hx; omega))) (by show (3 : Int) = sizeM (mdI c); exact HZ.out.symm) (Nat.succ_pos _) hcc3 (he.below HB.out)) ?_
            rintro _ w9 ⟨rfl, hb⟩
            (have HB := Aside0.mk (below_step (w := w) blw hb); have hz9 := hb.size; obtain ⟨hcl9, hfr9, hlt9, _⟩ := bcell hb; (try simp only [sA, sC, sD] at hz9); (try simp only [sA, sC, sD] at hcl9 hfr9 hlt9); have HB9 := hR w9; clear hb)
            go_wp2_with fail
            go_ret
            exact ⟨ret_of (congrArg (fun x : List UInt8 => Value.string ⟨x.toArray⟩) (by simp [unitU, shortU, bytesU, third, jsr, hsb, EC.out, HZ.out, ED.out, EK.out, hj2]; omega)), blw⟩
          · have ck' : ¬ (2 : Int) < u.length := by omega
            refine wp_loop_rounds 3 ?_
            rw [rounds_succ]
            go_wp2_with (at_builtin; refine Kd.R_append (Kd.int .u8) (w0 := w7) w.heap.size rfl _ _ 29 5 (.int .u8 0) 1 rfl Tryd.underlying29 infoU8 rfl (by decide) (by decide) (.slice (some ⟨w4.heap.size, 0, none⟩) 1 1) [c] d1 [.int .u8 d1] (fun _ => True) (fun k => some k ≠ ((.slice (some ⟨w4.heap.size, 0, none⟩) 1 1) : Value).ownBlock) rfl rfl rfl (fun _ hk => ⟨trivial, hk⟩) (fun _ _ => trivial) HO.out (Below.refl _ _) (by omega) (by simp) ?_; intro v2 wa ho2 hb2 hg2 hat2; obtain ⟨A2, c2, e2, hcc2, _⟩ := Kd.R_reads ho2; subst e2; replace HB := Aside0.mk (HB.out.trans hb2); have hza := hb2.size; have HG2 := Aside0.mk hg2; have HO2 := Aside0.mk (show OwnB _ _ _ _ from ho2); clear ho2 hb2 hg2 hat2; simp only [List.cons_append, List.nil_append] at HO2 hcc2; have x0a := cell_keep HB.out x0)
            have p2a := (World.cell?_of_block (HG2.out.block (w4.heap.size + 1) (by omega) (by intro e; exact absurd (Option.some.inj e) (by show ¬ (w4.heap.size + 1 = w4.heap.size); omega)))).trans P2.out
            rw [rounds_succ]
            go_wp2_with fail
            go_ret
            exact ⟨ret_of (congrArg (fun x : List UInt8 => Value.string ⟨x.toArray⟩) (by simp [unitU, shortU, bytesU, third, jsr, hsb, EC.out, HZ.out, ED.out, hj2]; omega)), blw⟩
        · have c1' : ¬ (1 : Int) < u.length := by omega
          have ck' : ¬ (2 : Int) < u.length := by omega
          refine wp_loop_rounds 3 ?_
          rw [rounds_succ]
          go_wp2_with fail
          go_ret
          exact ⟨ret_of (congrArg (fun x : List UInt8 => Value.string ⟨x.toArray⟩) (by simp [unitU, shortU, bytesU, third, jsr, hsb, EC.out, HZ.out, ED.out, hj2]; omega)), blw⟩
end Go.Proofs.YthlmddcjbhacmaaDoor
