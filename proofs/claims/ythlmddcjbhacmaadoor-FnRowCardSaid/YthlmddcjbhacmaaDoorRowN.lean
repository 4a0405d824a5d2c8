/- What is known, read out of a text by the reference. -/
import Derived.Test.YthlmddcjbhacmaaDoorRowM
set_option linter.unusedVariables false
set_option linter.unusedSimpArgs false
namespace Go.Proofs.YthlmddcjbhacmaaDoor
open Go.RowKit Go.Proofs.YthlmddcjbhacmaaDoorW.PrintWords
theorem infoI64 : (Tryd.prog.info? 3).map (fun i => (i.zero, i.size, i.bytes)) = some (some (.int .i64 0), 1, 8) := by kernel_rfl
/-- A slice of numbers in memory that was made at or behind block base. -/
def OwnN (w : World) (base : Nat) (v : Value) (l : List Int) : Prop := Kd.R (Kd.int .i64) 3 w base (fun _ => True) v l
theorem OwnN.lower {w : World} {base base' : Nat} {v : Value} {l : List Int} (h : OwnN w base v l) (hb : base' ≤ base) : OwnN w base' v l := Kd.R_lower h hb
theorem ownN_five (w : World) (a b c d e : Int) : OwnN (w.alloc (.cells #[.int .i64 a, .int .i64 b, .int .i64 c, .int .i64 d, .int .i64 e] 3)) w.heap.size (.slice (some ⟨w.heap.size, 0, none⟩) 5 5) [a, b, c, d, e] :=
  Kd.R_of_own (enc := Value.int .i64) (h1 := fun _ => rfl) ⟨rfl, Or.inr ⟨w.heap.size, 5, #[.int .i64 a, .int .i64 b, .int .i64 c, .int .i64 d, .int .i64 e], rfl, Nat.le_refl _, heap_alloc_new _ _, Nat.le_refl _, by decide, rfl, rfl⟩⟩ (fun _ _ => trivial)
set_option maxRecDepth 20000 in
set_option maxHeartbeats 4000000 in
theorem spec_l09OfK (g cap : Nat) (k : Kn) (w : World) (h0 : w.cell? ⟨g, 0, none⟩ = some (.int .i64 k.A)) (h1 : w.cell? ⟨g, 1, none⟩ = some (.int .i64 k.X)) (h2 : w.cell? ⟨g, 2, none⟩ = some (.int .i64 k.Y)) (h3 : w.cell? ⟨g, 3, none⟩ = some (.int .i64 k.S)) (h4 : w.cell? ⟨g, 4, none⟩ = some (.int .i64 k.PC)) (h5 : w.cell? ⟨g, 5, none⟩ = some (.int .i64 k.N)) (h6 : w.cell? ⟨g, 6, none⟩ = some (.int .i64 k.V)) (h7 : w.cell? ⟨g, 7, none⟩ = some (.int .i64 k.D)) (h8 : w.cell? ⟨g, 8, none⟩ = some (.int .i64 k.I)) (h9 : w.cell? ⟨g, 9, none⟩ = some (.int .i64 k.Z)) (h10 : w.cell? ⟨g, 10, none⟩ = some (.int .i64 k.C)) :
    Calls Tryd.prog 66 #[.slice (some ⟨g, 0, none⟩) 11 cap] w fun e w' => e = .returned (.agg #[.int .i64 k.A, .int .i64 k.X, .int .i64 k.Y, .int .i64 k.S, .int .i64 k.PC, .int .i64 k.N, .int .i64 k.V, .int .i64 k.D, .int .i64 k.I, .int .i64 k.Z, .int .i64 k.C]) ∧ Below w.heap.size w w' := by
  have hg : g < w.heap.size := World.block_lt_of_cell? w _ h0
  have hgn : ¬ g = w.heap.size := by omega
  have HB := hR w; go_enter Tryd.func66, Tryd.ntmps66
  go_wp2_with fail
  go_region_held3 (fun w' => w'.cell? ⟨g, 0, none⟩ = some (.int .i64 k.A) ∧ w'.cell? ⟨g, 1, none⟩ = some (.int .i64 k.X) ∧ w'.cell? ⟨g, 2, none⟩ = some (.int .i64 k.Y) ∧ w'.cell? ⟨g, 3, none⟩ = some (.int .i64 k.S) ∧ w'.cell? ⟨g, 4, none⟩ = some (.int .i64 k.PC) ∧ w'.cell? ⟨g, 5, none⟩ = some (.int .i64 k.N) ∧ w'.cell? ⟨g, 6, none⟩ = some (.int .i64 k.V) ∧ w'.cell? ⟨g, 7, none⟩ = some (.int .i64 k.D) ∧ w'.cell? ⟨g, 8, none⟩ = some (.int .i64 k.I) ∧ w'.cell? ⟨g, 9, none⟩ = some (.int .i64 k.Z) ∧ w'.cell? ⟨g, 10, none⟩ = some (.int .i64 k.C)) (first | (go_keep; done) | (go_split_ands; (repeat' apply And.intro) <;> (first | (with_reducible assumption) | (go_simp; done) | (exact cell_keep blw (by assumption)) | exact blw))) (first | fail)
  go_wp2_with fail
  (refine bodyPost_ret (v := .agg #[.int .i64 k.A, .int .i64 k.X, .int .i64 k.Y, .int .i64 k.S, .int .i64 k.PC, .int .i64 k.N, .int .i64 k.V, .int .i64 k.D, .int .i64 k.I, .int .i64 k.Z, .int .i64 k.C]) (by (simp only [results, Tryd.results66]; go_simp <;> (rfl))) rfl ?_)
  exact ⟨rfl, blw⟩
def flT (l : List UInt8) (j : Nat) : List Int := (List.range j).map fun i => flS i (l.getD (28 + i) 0)
theorem flT_step (l : List UInt8) (j : Nat) : flT l (j + 1) = flT l j ++ [flS j (l.getD (28 + j) 0)] := by
  unfold flT
  rw [List.range_succ, List.map_append]
  rfl
theorem flT_len (l : List UInt8) (j : Nat) : (flT l j).length = j := by simp [flT]
set_option maxRecDepth 100000 in
set_option maxHeartbeats 16000000 in
theorem spec_ReadKnow (l : List UInt8) (w : World) (hm : l.length ≤ 281474976710656) :
    Calls Tryd.prog 49 #[.string ⟨l.toArray⟩] w fun e w' => e = .returned (.tuple #[.agg #[.int .i64 (knV (readKn l)).A, .int .i64 (knV (readKn l)).X, .int .i64 (knV (readKn l)).Y, .int .i64 (knV (readKn l)).S, .int .i64 (knV (readKn l)).PC, .int .i64 (knV (readKn l)).N, .int .i64 (knV (readKn l)).V, .int .i64 (knV (readKn l)).D, .int .i64 (knV (readKn l)).I, .int .i64 (knV (readKn l)).Z, .int .i64 (knV (readKn l)).C], .bool (readKn l).isSome]) ∧ Below w.heap.size w w' := by
  have hsz := ba_size l
  by_cases hl : l.length = 34
  rotate_left
  · rw [show readKn l = none from if_neg (fun h => hl h.1)]
    have hl' : ¬ (l.length : Int) = 34 := by omega
    have HB := hR w; go_enter Tryd.func49, Tryd.ntmps49
    go_wp2_with fail
    (refine bodyPost_ret (v := .tuple #[.agg #[.int .i64 0, .int .i64 0, .int .i64 0, .int .i64 0, .int .i64 0, .int .i64 0, .int .i64 0, .int .i64 0, .int .i64 0, .int .i64 0, .int .i64 0], .bool false]) (by (simp only [results, Tryd.results49]; go_simp <;> (rfl))) rfl ?_)
    exact ⟨rfl, blw⟩
  rw [hl] at hsz
  have x2 := ba_cut l 2 4
  have x7 := ba_cut l 7 9
  have x12 := ba_cut l 12 14
  have x17 := ba_cut l 17 19
  have x23 := ba_cut l 23 27
  have l2 : (cutB l 2 4).length = 2 := cutB_len (by omega)
  have l7 : (cutB l 7 9).length = 2 := cutB_len (by omega)
  have l12 : (cutB l 12 14).length = 2 := cutB_len (by omega)
  have l17 : (cutB l 17 19).length = 2 := cutB_len (by omega)
  have l23 : (cutB l 23 27).length = 4 := cutB_len (by omega)
  have rA := fun W => spec_ReadHex (cutB l 2 4) 2 W (by decide) (by decide) l2
  have rX := fun W => spec_ReadHex (cutB l 7 9) 2 W (by decide) (by decide) l7
  have rY := fun W => spec_ReadHex (cutB l 12 14) 2 W (by decide) (by decide) l12
  have rS := fun W => spec_ReadHex (cutB l 17 19) 2 W (by decide) (by decide) l17
  have rP := fun W => spec_ReadHex (cutB l 23 27) 4 W (by decide) (by decide) l23
  have hkt := fun W => spec_KnowText (kn5 l flS) W
  have HKK := Aside0.mk (show readKn l = if knT (kn5 l flS) = l then some (kn5 l flS) else none from by rw [← readKn_S]; simp only [hl, true_and])
  obtain ⟨vA, eA⟩ : ∃ v, readHex (cutB l 2 4) 2 = v := ⟨_, rfl⟩
  obtain ⟨vX, eX⟩ : ∃ v, readHex (cutB l 7 9) 2 = v := ⟨_, rfl⟩
  obtain ⟨vY, eY⟩ : ∃ v, readHex (cutB l 12 14) 2 = v := ⟨_, rfl⟩
  obtain ⟨vS, eS⟩ : ∃ v, readHex (cutB l 17 19) 2 = v := ⟨_, rfl⟩
  obtain ⟨vP, eP⟩ : ∃ v, readHex (cutB l 23 27) 4 = v := ⟨_, rfl⟩
  have rA : ∀ W, Calls Tryd.prog 76 #[.string ⟨(cutB l 2 4).toArray⟩, .int .i64 2] W fun e w' => e = .returned (.int .i64 vA) ∧ Below W.heap.size W w' := fun W => by rw [← eA]; exact rA W
  have rX : ∀ W, Calls Tryd.prog 76 #[.string ⟨(cutB l 7 9).toArray⟩, .int .i64 2] W fun e w' => e = .returned (.int .i64 vX) ∧ Below W.heap.size W w' := fun W => by rw [← eX]; exact rX W
  have rY : ∀ W, Calls Tryd.prog 76 #[.string ⟨(cutB l 12 14).toArray⟩, .int .i64 2] W fun e w' => e = .returned (.int .i64 vY) ∧ Below W.heap.size W w' := fun W => by rw [← eY]; exact rY W
  have rS : ∀ W, Calls Tryd.prog 76 #[.string ⟨(cutB l 17 19).toArray⟩, .int .i64 2] W fun e w' => e = .returned (.int .i64 vS) ∧ Below W.heap.size W w' := fun W => by rw [← eS]; exact rS W
  have rP : ∀ W, Calls Tryd.prog 76 #[.string ⟨(cutB l 23 27).toArray⟩, .int .i64 4] W fun e w' => e = .returned (.int .i64 vP) ∧ Below W.heap.size W w' := fun W => by rw [← eP]; exact rP W
  have EK := Aside0.mk (show kn5 l flS = ⟨vA, vX, vY, vS, vP, flS 0 (l.getD 28 0), flS 1 (l.getD 29 0), flS 2 (l.getD 30 0), flS 3 (l.getD 31 0), flS 4 (l.getD 32 0), flS 5 (l.getD 33 0)⟩ from by unfold kn5; rw [eA, eX, eY, eS, eP])
  clear eA eX eY eS eP l2 l7 l12 l17 l23
  have HL := Aside0.mk hl
  have hl34 : (l.length : Int) = 34 := by omega
  clear hl
  have RB0 := Aside0.mk (Blk.at (w := w) (g := w.heap.size) (cs := #[.int .i64 0, .int .i64 0, .int .i64 0, .int .i64 0, .int .i64 0, .int .i64 0, .int .i64 0, .int .i64 0, .int .i64 0, .int .i64 0, .int .i64 0]) (t := 32) rfl)
  clear RB0
  have HB := hR w; go_enter Tryd.func49, Tryd.ntmps49
  go_wp2_with fail
  go_region_held3 (fun w' => True) (first | (go_keep; done) | (go_split_ands; (repeat' apply And.intro) <;> (first | (with_reducible assumption) | (go_simp; done) | (exact cell_keep blw (by assumption)) | exact blw))) (first | (go_at_call 76; ((with_reducible refine (rA _).mono ?_); rintro _ w3 ⟨rfl, hb⟩; have HB := Aside0.mk (below_step (w := w) blw hb); have hz3 := hb.size; obtain ⟨hcl3, hfr3, hlt3, _⟩ := bcell hb; (try simp only [sA, sC, sD] at hz3); (try simp only [sA, sC, sD] at hcl3 hfr3 hlt3); have hk3_0 : w.heap.size < w3.heap.size := (by omega); have HB3 := hR w3; clear hb)) | (go_at_call 76; ((with_reducible refine (rX _).mono ?_); rintro _ w4 ⟨rfl, hb⟩; have HB := Aside0.mk (below_step (w := w) blw hb); have hz4 := hb.size; obtain ⟨hcl4, hfr4, hlt4, _⟩ := bcell hb; (try simp only [sA, sC, sD] at hz4); (try simp only [sA, sC, sD] at hcl4 hfr4 hlt4); have hk4_0 : w.heap.size < w4.heap.size := (by omega); have HB4 := hR w4; clear hb)) | (go_at_call 76; ((with_reducible refine (rY _).mono ?_); rintro _ w5 ⟨rfl, hb⟩; have HB := Aside0.mk (below_step (w := w) blw hb); have hz5 := hb.size; obtain ⟨hcl5, hfr5, hlt5, _⟩ := bcell hb; (try simp only [sA, sC, sD] at hz5); (try simp only [sA, sC, sD] at hcl5 hfr5 hlt5); have hk5_0 : w.heap.size < w5.heap.size := (by omega); have HB5 := hR w5; clear hb)) | (go_at_call 76; ((with_reducible refine (rS _).mono ?_); rintro _ w6 ⟨rfl, hb⟩; have HB := Aside0.mk (below_step (w := w) blw hb); have hz6 := hb.size; obtain ⟨hcl6, hfr6, hlt6, _⟩ := bcell hb; (try simp only [sA, sC, sD] at hz6); (try simp only [sA, sC, sD] at hcl6 hfr6 hlt6); have hk6_0 : w.heap.size < w6.heap.size := (by omega); have HB6 := hR w6; clear hb)) | (go_at_call 76; ((with_reducible refine (rP _).mono ?_); rintro _ w7 ⟨rfl, hb⟩; have HB := Aside0.mk (below_step (w := w) blw hb); have hz7 := hb.size; obtain ⟨hcl7, hfr7, hlt7, _⟩ := bcell hb; (try simp only [sA, sC, sD] at hz7); (try simp only [sA, sC, sD] at hcl7 hfr7 hlt7); have hk7_0 : w.heap.size < w7.heap.size := (by omega); have HB7 := hR w7; clear hb)))
  have hl7 : w.heap.size < w7.heap.size := by omega
  have r0 : w7.cell? ⟨w.heap.size, 0, none⟩ = some (.int .i64 0) := by go_simp
  have f0 : w7.frozen? ⟨w.heap.size, 0, none⟩ = false := by go_simp
  have r1 : w7.cell? ⟨w.heap.size, 1, none⟩ = some (.int .i64 0) := by go_simp
  have f1 : w7.frozen? ⟨w.heap.size, 1, none⟩ = false := by go_simp
  have r2 : w7.cell? ⟨w.heap.size, 2, none⟩ = some (.int .i64 0) := by go_simp
  have f2 : w7.frozen? ⟨w.heap.size, 2, none⟩ = false := by go_simp
  have r3 : w7.cell? ⟨w.heap.size, 3, none⟩ = some (.int .i64 0) := by go_simp
  have f3 : w7.frozen? ⟨w.heap.size, 3, none⟩ = false := by go_simp
  have r4 : w7.cell? ⟨w.heap.size, 4, none⟩ = some (.int .i64 0) := by go_simp
  have f4 : w7.frozen? ⟨w.heap.size, 4, none⟩ = false := by go_simp
  have r5 : w7.cell? ⟨w.heap.size, 5, none⟩ = some (.int .i64 0) := by go_simp
  have f5 : w7.frozen? ⟨w.heap.size, 5, none⟩ = false := by go_simp
  have r6 : w7.cell? ⟨w.heap.size, 6, none⟩ = some (.int .i64 0) := by go_simp
  have f6 : w7.frozen? ⟨w.heap.size, 6, none⟩ = false := by go_simp
  have r7 : w7.cell? ⟨w.heap.size, 7, none⟩ = some (.int .i64 0) := by go_simp
  have f7 : w7.frozen? ⟨w.heap.size, 7, none⟩ = false := by go_simp
  have r8 : w7.cell? ⟨w.heap.size, 8, none⟩ = some (.int .i64 0) := by go_simp
  have f8 : w7.frozen? ⟨w.heap.size, 8, none⟩ = false := by go_simp
  have r9 : w7.cell? ⟨w.heap.size, 9, none⟩ = some (.int .i64 0) := by go_simp
  have f9 : w7.frozen? ⟨w.heap.size, 9, none⟩ = false := by go_simp
  have r10 : w7.cell? ⟨w.heap.size, 10, none⟩ = some (.int .i64 0) := by go_simp
  have f10 : w7.frozen? ⟨w.heap.size, 10, none⟩ = false := by go_simp
  have R7 := Aside0.mk (show (w7.cell? ⟨w.heap.size, 0, none⟩ = some (.int .i64 0) ∧ w7.frozen? ⟨w.heap.size, 0, none⟩ = false) from ⟨r0, f0⟩)
  go_wp2_with fail
  have B7 := Aside0.mk (blw : Below w7.heap.size w7 (w7.alloc (.cells #[.int .i64 vA, .int .i64 vX, .int .i64 vY, .int .i64 vS, .int .i64 vP] 3)))
  have HO := Aside0.mk (ownN_five w7 vA vX vY vS vP)
  generalize w7.alloc (.cells #[.int .i64 vA, .int .i64 vX, .int .i64 vY, .int .i64 vS, .int .i64 vP] 3) = w8 at *
  go_loopw [4, 5] (fun v4 v5 wr => ∃ j : Nat, ∃ v : Value, j ≤ 6 ∧ v5 = .int .i64 (28 + (j : Int)) ∧ v = v4 ∧ Aside0 (OwnN wr w7.heap.size v ([vA, vX, vY, vS, vP] ++ flT l j)) ∧ Aside0 (Below w7.heap.size w7 wr)) (fun _ v5 _ => 34 - (intOf v5).toNat)
  case atStart => exact ⟨0, _, by omega, rfl, rfl, HO, B7⟩
  case round =>
    obtain ⟨j, v4, hj, rfl, rfl, HO, B7⟩ := hrel
    have h7 := B7.out.size
    by_cases hlt : j < 6
    · have hl34' := HL.out
      have hat := ba_at (getD_at (l := l) (j := 28 + j) (by omega))
      obtain ⟨c, ec⟩ : ∃ c, l.getD (28 + j) 0 = c := ⟨_, rfl⟩
      rw [ec] at hat
      have hst := flT_step l j
      rw [ec] at hst
      have HS := Aside0.mk hst
      have hln := flT_len l j
      clear hst hl34' ec
      have toNat_ne : ∀ a b : UInt8, ¬ a = b → ((a.toNat : Int) == (b.toNat : Int)) = false := fun a b h => by
        rw [beq_eq_false_iff_ne]
        intro e
        exact h (UInt8.toNat_inj.1 (by omega))
      generalize flT l j = F at *
      by_cases q : c = 63
      · have e1 : ((c.toNat : Int) == 63) = true := by rw [q]; rfl
        rw [show flS j c = -1 from if_pos q] at HS
        go_wp2_with (at_builtin; refine Kd.R_append (Kd.int .i64) (w0 := wr) w7.heap.size rfl _ _ 52 3 (.int .i64 0) 8 rfl Tryd.underlying52 infoI64 rfl (by decide) (by decide) v4 ([vA, vX, vY, vS, vP] ++ F) (-1) [.int .i64 (-1)] (fun _ => True) (fun k => some k ≠ (v4 : Value).ownBlock) rfl rfl rfl (fun _ hk => ⟨trivial, hk⟩) (fun _ _ => trivial) HO.out (Below.refl _ _) h7 (by rw [List.length_append, hln]; show (5 + j + 1) * 8 ≤ _; omega) ?_; intro v2 wa ho2 hb2 hg2 hat2; have B2 := Aside0.mk (B7.out.trans hb2); have HO2 := Aside0.mk (show OwnN _ _ _ _ from ho2); clear ho2 hb2 hg2 hat2)
        exact ⟨⟨j + 1, v2, by omega, by go_num, rfl, ⟨by rw [HS.out, ← List.append_assoc]; exact HO2.out⟩, B2⟩, by simp [intOf]; omega⟩
      · have e1 : ((c.toNat : Int) == 63) = false := toNat_ne c 63 q
        by_cases q2 : c = 45
        · have e2 : ((c.toNat : Int) == 45) = true := by rw [q2]; rfl
          rw [show flS j c = 0 from by unfold flS; rw [if_neg q, if_pos q2]] at HS
          go_wp2_with (at_builtin; refine Kd.R_append (Kd.int .i64) (w0 := wr) w7.heap.size rfl _ _ 52 3 (.int .i64 0) 8 rfl Tryd.underlying52 infoI64 rfl (by decide) (by decide) v4 ([vA, vX, vY, vS, vP] ++ F) (0 : Int) [.int .i64 (0 : Int)] (fun _ => True) (fun k => some k ≠ (v4 : Value).ownBlock) rfl rfl rfl (fun _ hk => ⟨trivial, hk⟩) (fun _ _ => trivial) HO.out (Below.refl _ _) h7 (by rw [List.length_append, hln]; show (5 + j + 1) * 8 ≤ _; omega) ?_; intro v2 wa ho2 hb2 hg2 hat2; have B2 := Aside0.mk (B7.out.trans hb2); have HO2 := Aside0.mk (show OwnN _ _ _ _ from ho2); clear ho2 hb2 hg2 hat2)
          exact ⟨⟨j + 1, v2, by omega, by go_num, rfl, ⟨by rw [HS.out, ← List.append_assoc]; exact HO2.out⟩, B2⟩, by simp [intOf]; omega⟩
        · have e2 : ((c.toNat : Int) == 45) = false := toNat_ne c 45 q2
          rw [show flS j c = 1 from by unfold flS; rw [if_neg q, if_neg q2]] at HS
          go_wp2_with (at_builtin; refine Kd.R_append (Kd.int .i64) (w0 := wr) w7.heap.size rfl _ _ 52 3 (.int .i64 0) 8 rfl Tryd.underlying52 infoI64 rfl (by decide) (by decide) v4 ([vA, vX, vY, vS, vP] ++ F) (1 : Int) [.int .i64 (1 : Int)] (fun _ => True) (fun k => some k ≠ (v4 : Value).ownBlock) rfl rfl rfl (fun _ hk => ⟨trivial, hk⟩) (fun _ _ => trivial) HO.out (Below.refl _ _) h7 (by rw [List.length_append, hln]; show (5 + j + 1) * 8 ≤ _; omega) ?_; intro v2 wa ho2 hb2 hg2 hat2; have B2 := Aside0.mk (B7.out.trans hb2); have HO2 := Aside0.mk (show OwnN _ _ _ _ from ho2); clear ho2 hb2 hg2 hat2)
          exact ⟨⟨j + 1, v2, by omega, by go_num, rfl, ⟨by rw [HS.out, ← List.append_assoc]; exact HO2.out⟩, B2⟩, by simp [intOf]; omega⟩
    · obtain rfl : j = 6 := by omega
      have KL : [vA, vX, vY, vS, vP] ++ flT l 6 = (kn5 l flS).l := by rw [EK.out]; rfl
      rw [KL] at HO
      clear KL EK
      generalize kn5 l flS = k at *
      obtain ⟨g, cap, eo, gb, gl, cl, HG⟩ := Kd.R_form HO.out (by show 0 < 11; decide)
      subst eo
      have hof := spec_l09OfK g cap k wr (Kd.R_celln 0 HO.out 0 (by decide) (by show (0 : Int) < 11; decide)).1 (Kd.R_celln 0 HO.out 1 (by decide) (by show (1 : Int) < 11; decide)).1 (Kd.R_celln 0 HO.out 2 (by decide) (by show (2 : Int) < 11; decide)).1 (Kd.R_celln 0 HO.out 3 (by decide) (by show (3 : Int) < 11; decide)).1 (Kd.R_celln 0 HO.out 4 (by decide) (by show (4 : Int) < 11; decide)).1 (Kd.R_celln 0 HO.out 5 (by decide) (by show (5 : Int) < 11; decide)).1 (Kd.R_celln 0 HO.out 6 (by decide) (by show (6 : Int) < 11; decide)).1 (Kd.R_celln 0 HO.out 7 (by decide) (by show (7 : Int) < 11; decide)).1 (Kd.R_celln 0 HO.out 8 (by decide) (by show (8 : Int) < 11; decide)).1 (Kd.R_celln 0 HO.out 9 (by decide) (by show (9 : Int) < 11; decide)).1 (Kd.R_celln 0 HO.out 10 (by decide) (by show (10 : Int) < 11; decide)).1
      have HB := Aside0.mk (HB.out.trans (B7.out.mono (by omega : w.heap.size ≤ w7.heap.size)))
      have p0 : wr.cell? ⟨w.heap.size, 0, none⟩ = some (.int .i64 0) := (B7.out.cell (p := ⟨w.heap.size, 0, none⟩) hl7).trans r0
      have z0 : wr.frozen? ⟨w.heap.size, 0, none⟩ = false := (B7.out.frozen (p := ⟨w.heap.size, 0, none⟩) hl7).trans f0
      have p1 : wr.cell? ⟨w.heap.size, 1, none⟩ = some (.int .i64 0) := (B7.out.cell (p := ⟨w.heap.size, 1, none⟩) hl7).trans r1
      have z1 : wr.frozen? ⟨w.heap.size, 1, none⟩ = false := (B7.out.frozen (p := ⟨w.heap.size, 1, none⟩) hl7).trans f1
      have p2 : wr.cell? ⟨w.heap.size, 2, none⟩ = some (.int .i64 0) := (B7.out.cell (p := ⟨w.heap.size, 2, none⟩) hl7).trans r2
      have z2 : wr.frozen? ⟨w.heap.size, 2, none⟩ = false := (B7.out.frozen (p := ⟨w.heap.size, 2, none⟩) hl7).trans f2
      have p3 : wr.cell? ⟨w.heap.size, 3, none⟩ = some (.int .i64 0) := (B7.out.cell (p := ⟨w.heap.size, 3, none⟩) hl7).trans r3
      have z3 : wr.frozen? ⟨w.heap.size, 3, none⟩ = false := (B7.out.frozen (p := ⟨w.heap.size, 3, none⟩) hl7).trans f3
      have p4 : wr.cell? ⟨w.heap.size, 4, none⟩ = some (.int .i64 0) := (B7.out.cell (p := ⟨w.heap.size, 4, none⟩) hl7).trans r4
      have z4 : wr.frozen? ⟨w.heap.size, 4, none⟩ = false := (B7.out.frozen (p := ⟨w.heap.size, 4, none⟩) hl7).trans f4
      have p5 : wr.cell? ⟨w.heap.size, 5, none⟩ = some (.int .i64 0) := (B7.out.cell (p := ⟨w.heap.size, 5, none⟩) hl7).trans r5
      have z5 : wr.frozen? ⟨w.heap.size, 5, none⟩ = false := (B7.out.frozen (p := ⟨w.heap.size, 5, none⟩) hl7).trans f5
      have p6 : wr.cell? ⟨w.heap.size, 6, none⟩ = some (.int .i64 0) := (B7.out.cell (p := ⟨w.heap.size, 6, none⟩) hl7).trans r6
      have z6 : wr.frozen? ⟨w.heap.size, 6, none⟩ = false := (B7.out.frozen (p := ⟨w.heap.size, 6, none⟩) hl7).trans f6
      have p7 : wr.cell? ⟨w.heap.size, 7, none⟩ = some (.int .i64 0) := (B7.out.cell (p := ⟨w.heap.size, 7, none⟩) hl7).trans r7
      have z7 : wr.frozen? ⟨w.heap.size, 7, none⟩ = false := (B7.out.frozen (p := ⟨w.heap.size, 7, none⟩) hl7).trans f7
      have p8 : wr.cell? ⟨w.heap.size, 8, none⟩ = some (.int .i64 0) := (B7.out.cell (p := ⟨w.heap.size, 8, none⟩) hl7).trans r8
      have z8 : wr.frozen? ⟨w.heap.size, 8, none⟩ = false := (B7.out.frozen (p := ⟨w.heap.size, 8, none⟩) hl7).trans f8
      have p9 : wr.cell? ⟨w.heap.size, 9, none⟩ = some (.int .i64 0) := (B7.out.cell (p := ⟨w.heap.size, 9, none⟩) hl7).trans r9
      have z9 : wr.frozen? ⟨w.heap.size, 9, none⟩ = false := (B7.out.frozen (p := ⟨w.heap.size, 9, none⟩) hl7).trans f9
      have p10 : wr.cell? ⟨w.heap.size, 10, none⟩ = some (.int .i64 0) := (B7.out.cell (p := ⟨w.heap.size, 10, none⟩) hl7).trans r10
      have z10 : wr.frozen? ⟨w.heap.size, 10, none⟩ = false := (B7.out.frozen (p := ⟨w.heap.size, 10, none⟩) hl7).trans f10
      have hwr2 : w.heap.size < wr.heap.size := by omega
      clear r0 f0 r1 f1 r2 f2 r3 f3 r4 f4 r5 f5 r6 f6 r7 f7 r8 f8 r9 f9 r10 f10
      go_wp2_with fail
      refine hof.mono ?_
      rintro _ w9 ⟨rfl, hb⟩
      (have HB := Aside0.mk (below_step (w := w) blw hb); have hz9 := hb.size; obtain ⟨hcl9, hfr9, hlt9, _⟩ := bcell hb; (try simp only [sA, sC, sD] at hz9); (try simp only [sA, sC, sD] at hcl9 hfr9 hlt9); have hk9_0 : w.heap.size < w9.heap.size := (by omega); have HB9 := hR w9; clear hb)
      have hk9b : w.heap.size < w9.heap.size + 1 := by omega
      by_cases c2 : knT k = l
      · have c2' : (knT k == l) = true := by simp [c2]
        have e := HKK.out
        rw [if_pos c2] at e
        have HE := Aside0.mk e
        clear e
        go_wp2_with fail
        refine (hkt _).mono ?_
        rintro _ w11 ⟨rfl, hb⟩
        (have HB := Aside0.mk (below_step (w := w) blw hb); have hz11 := hb.size; obtain ⟨hcl11, hfr11, hlt11, _⟩ := bcell hb; (try simp only [sA, sC, sD] at hz11); (try simp only [sA, sC, sD] at hcl11 hfr11 hlt11); have hk11_0 : w.heap.size < w11.heap.size := (by omega); have HB11 := hR w11; clear hb)
        go_wp2_with fail
        (refine bodyPost_ret (v := .tuple #[.agg #[.int .i64 k.A, .int .i64 k.X, .int .i64 k.Y, .int .i64 k.S, .int .i64 k.PC, .int .i64 k.N, .int .i64 k.V, .int .i64 k.D, .int .i64 k.I, .int .i64 k.Z, .int .i64 k.C], .bool true]) (by (simp only [results, Tryd.results49]; go_simp <;> (rfl))) rfl ?_)
        exact ⟨ret_of (by rw [HE.out]; rfl), blw⟩
      · have c2' : (knT k == l) = false := by simp [c2]
        have e := HKK.out
        rw [if_neg c2] at e
        have HE := Aside0.mk e
        clear e
        go_wp2_with fail
        refine (hkt _).mono ?_
        rintro _ w11 ⟨rfl, hb⟩
        (have HB := Aside0.mk (below_step (w := w) blw hb); have hz11 := hb.size; obtain ⟨hcl11, hfr11, hlt11, _⟩ := bcell hb; (try simp only [sA, sC, sD] at hz11); (try simp only [sA, sC, sD] at hcl11 hfr11 hlt11); have hk11_0 : w.heap.size < w11.heap.size := (by omega); have HB11 := hR w11; clear hb)
        go_wp2_with fail
        (refine bodyPost_ret (v := .tuple #[.agg #[.int .i64 0, .int .i64 0, .int .i64 0, .int .i64 0, .int .i64 0, .int .i64 0, .int .i64 0, .int .i64 0, .int .i64 0, .int .i64 0, .int .i64 0], .bool false]) (by (simp only [results, Tryd.results49]; go_simp <;> (rfl))) rfl ?_)
        exact ⟨ret_of (by rw [HE.out]; rfl), blw⟩
end Go.Proofs.YthlmddcjbhacmaaDoor
