/- What is known, read out of a text by the program: the whole. -/
import Derived.Test.YthlmddcjbhacmaaDoorRowL
set_option linter.unusedVariables false
set_option linter.unusedSimpArgs false
namespace Go.Proofs.YthlmddcjbhacmaaDoor
open Go.RowKit Go.Proofs.YthlmddcjbhacmaaDoorW.PrintWords
set_option maxRecDepth 100000 in
set_option maxHeartbeats 2000000 in
theorem impl_ReadKnow (l : List UInt8) (w : World) (hm : l.length ≤ 281474976710656) :
    Calls Tryd.prog 47 #[.string ⟨l.toArray⟩] w fun e w' => e = .returned (.tuple #[.agg #[.int .i64 (knV (readKn l)).A, .int .i64 (knV (readKn l)).X, .int .i64 (knV (readKn l)).Y, .int .i64 (knV (readKn l)).S, .int .i64 (knV (readKn l)).PC, .int .i64 (knV (readKn l)).N, .int .i64 (knV (readKn l)).V, .int .i64 (knV (readKn l)).D, .int .i64 (knV (readKn l)).I, .int .i64 (knV (readKn l)).Z, .int .i64 (knV (readKn l)).C], .bool (readKn l).isSome]) ∧ Below w.heap.size w w' := by
  have hsz := ba_size l
  have hno := fun W => impl_nothing W
  have hmo := fun W => impl_KnowText knN W
  have qm : (knT knN).length = 34 := knT_len (by decide)
  generalize knT knN = M at hmo qm
  by_cases hl : l.length = 34
  rotate_left
  · rw [show readKn l = none from if_neg (fun h => hl h.1)]
    have hl' : ¬ (l.length : Int) = 34 := by omega
    have HB := hR w; go_enter Tryd.func47, Tryd.ntmps47
    go_wp2_with fail
    refine (hno _).mono ?_
    rintro _ w1 ⟨rfl, hb⟩
    (have HB := Aside0.mk (below_step (w := w) blw hb); have hz1 := hb.size; obtain ⟨hcl1, hfr1, hlt1, _⟩ := bcell hb; (try simp only [sA, sC, sD] at hz1); (try simp only [sA, sC, sD] at hcl1 hfr1 hlt1); have hk1_0 : w.heap.size < w1.heap.size := (by omega); have HB1 := hR w1; clear hb)
    go_wp2_with fail
    refine (hmo _).mono ?_
    rintro _ w2 ⟨rfl, hb⟩
    (have HB := Aside0.mk (below_step (w := w) blw hb); have hz2 := hb.size; obtain ⟨hcl2, hfr2, hlt2, _⟩ := bcell hb; (try simp only [sA, sC, sD] at hz2); (try simp only [sA, sC, sD] at hcl2 hfr2 hlt2); have hk2_0 : w.heap.size < w2.heap.size := (by omega); have HB2 := hR w2; clear hb)
    go_wp2_with fail
    (refine bodyPost_ret (v := .tuple #[.agg #[.int .i64 0, .int .i64 0, .int .i64 0, .int .i64 0, .int .i64 0, .int .i64 0, .int .i64 0, .int .i64 0, .int .i64 0, .int .i64 0, .int .i64 0], .bool false]) (by (simp only [results, Tryd.results47]; go_simp <;> (rfl))) rfl ?_)
    exact ⟨rfl, blw⟩
  rw [hl] at hsz
  have x24 := ba_cut l 2 4
  have x79 := ba_cut l 7 9
  have x12 := ba_cut l 12 14
  have x17 := ba_cut l 17 19
  have x23 := ba_cut l 23 27
  have l24 : (cutB l 2 4).length = 2 := cutB_len (by omega)
  have l79 : (cutB l 7 9).length = 2 := cutB_len (by omega)
  have l12 : (cutB l 12 14).length = 2 := cutB_len (by omega)
  have l17 : (cutB l 17 19).length = 2 := cutB_len (by omega)
  have l23 : (cutB l 23 27).length = 4 := cutB_len (by omega)
  have rA := fun W => impl_ReadHex (cutB l 2 4) 2 W (by decide) (by decide) l24
  have rX := fun W => impl_ReadHex (cutB l 7 9) 2 W (by decide) (by decide) l79
  have rY := fun W => impl_ReadHex (cutB l 12 14) 2 W (by decide) (by decide) l12
  have rS := fun W => impl_ReadHex (cutB l 17 19) 2 W (by decide) (by decide) l17
  have rP := fun W => impl_ReadHex (cutB l 23 27) 4 W (by decide) (by decide) l23
  have hkt := fun W => impl_KnowText (kn5 l flI) W
  have HKK := Aside0.mk (show readKn l = if knT (kn5 l flI) = l then some (kn5 l flI) else none from by unfold readKn; simp only [hl, true_and])
  obtain ⟨vA, eA⟩ : ∃ v, readHex (cutB l 2 4) 2 = v := ⟨_, rfl⟩
  obtain ⟨vX, eX⟩ : ∃ v, readHex (cutB l 7 9) 2 = v := ⟨_, rfl⟩
  obtain ⟨vY, eY⟩ : ∃ v, readHex (cutB l 12 14) 2 = v := ⟨_, rfl⟩
  obtain ⟨vS, eS⟩ : ∃ v, readHex (cutB l 17 19) 2 = v := ⟨_, rfl⟩
  obtain ⟨vP, eP⟩ : ∃ v, readHex (cutB l 23 27) 4 = v := ⟨_, rfl⟩
  have rA : ∀ W, Calls Tryd.prog 74 #[.string ⟨(cutB l 2 4).toArray⟩, .int .i64 2] W fun e w' => e = .returned (.int .i64 vA) ∧ Below W.heap.size W w' := fun W => by rw [← eA]; exact rA W
  have rX : ∀ W, Calls Tryd.prog 74 #[.string ⟨(cutB l 7 9).toArray⟩, .int .i64 2] W fun e w' => e = .returned (.int .i64 vX) ∧ Below W.heap.size W w' := fun W => by rw [← eX]; exact rX W
  have rY : ∀ W, Calls Tryd.prog 74 #[.string ⟨(cutB l 12 14).toArray⟩, .int .i64 2] W fun e w' => e = .returned (.int .i64 vY) ∧ Below W.heap.size W w' := fun W => by rw [← eY]; exact rY W
  have rS : ∀ W, Calls Tryd.prog 74 #[.string ⟨(cutB l 17 19).toArray⟩, .int .i64 2] W fun e w' => e = .returned (.int .i64 vS) ∧ Below W.heap.size W w' := fun W => by rw [← eS]; exact rS W
  have rP : ∀ W, Calls Tryd.prog 74 #[.string ⟨(cutB l 23 27).toArray⟩, .int .i64 4] W fun e w' => e = .returned (.int .i64 vP) ∧ Below W.heap.size W w' := fun W => by rw [← eP]; exact rP W
  have EK := Aside0.mk (show kn5 l flI = ⟨vA, vX, vY, vS, vP, flI 0 (l.getD 28 0), flI 1 (l.getD 29 0), flI 2 (l.getD 30 0), flI 3 (l.getD 31 0), flI 4 (l.getD 32 0), flI 5 (l.getD 33 0)⟩ from by unfold kn5; rw [eA, eX, eY, eS, eP])
  clear eA eX eY eS eP l24 l79 l12 l17 l23
  have HL := Aside0.mk hl
  have hl34 : (l.length : Int) = 34 := by omega
  clear hl
  have HB := hR w; go_enter Tryd.func47, Tryd.ntmps47
  go_wp2_with fail
  refine (hno _).mono ?_
  rintro _ w1 ⟨rfl, hb⟩
  have RB := Aside0.mk (Blk.below (Blk.at (w := w) (g := w.heap.size) (cs := #[.int .i64 0, .int .i64 0, .int .i64 0, .int .i64 0, .int .i64 0, .int .i64 0, .int .i64 0, .int .i64 0, .int .i64 0, .int .i64 0, .int .i64 0]) (t := 32) rfl) hb)
  (have HB := Aside0.mk (below_step (w := w) blw hb); have hz1 := hb.size; obtain ⟨hcl1, hfr1, hlt1, _⟩ := bcell hb; (try simp only [sA, sC, sD] at hz1); (try simp only [sA, sC, sD] at hcl1 hfr1 hlt1); have hk1_0 : w.heap.size < w1.heap.size := (by omega); have HB1 := hR w1; clear hb)
  go_wp2_with fail
  refine (hmo _).mono ?_
  rintro _ w2 ⟨rfl, hb⟩
  replace RB := Aside0.mk (RB.out.below hb)
  (have HB := Aside0.mk (below_step (w := w) blw hb); have hz2 := hb.size; obtain ⟨hcl2, hfr2, hlt2, _⟩ := bcell hb; (try simp only [sA, sC, sD] at hz2); (try simp only [sA, sC, sD] at hcl2 hfr2 hlt2); have hk2_0 : w.heap.size < w2.heap.size := (by omega); have HB2 := hR w2; clear hb)
  go_upto_region 4 with (fail)
  refine wp_normal (rkReg4 l vA vX vY vS vP _ hsz rA rX rY rS rP _ _ _ _ _ _ _ _ _ _ _ _ _ _ _ _ _ _ _ _ _ _ _ _ _ _ _ _ _ _ _ _ _ _ _ _ _ _ _ _ _ _ _ _ _ _ _ _ _ _ _ _ _ _ _ _ _ _ _ _ _ _ _) ?_
  rintro _ w8 ⟨g, hg, KB, hb, u18, u19, u20, u21, u22, u23, u24, u25, u26, u27, u28, u29, u30, u31, u32, u33, rfl⟩
  have KB := Aside0.mk KB
  replace RB := Aside0.mk (RB.out.below hb)
  (have HB := Aside0.mk (below_step (w := w) blw hb); have hz8 := hb.size; obtain ⟨hcl8, hfr8, hlt8, _⟩ := bcell hb; (try simp only [sA, sC, sD] at hz8); (try simp only [sA, sC, sD] at hcl8 hfr8 hlt8); have hk8_0 : w.heap.size < w8.heap.size := (by omega); have HB8 := hR w8; clear hb)
  have hgl := KB.out.lt
  have hgw : w.heap.size < g := by omega
  go_wp2_with fail
  refine Calls.mono (impl_fields g _ hgl) ?_
  rintro _ w9 ⟨rfl, hb⟩
  replace KB := Aside0.mk (KB.out.below hb)
  replace RB := Aside0.mk (RB.out.below hb)
  (have HB := Aside0.mk (below_step (w := w) blw hb); have hz9 := hb.size; obtain ⟨hcl9, hfr9, hlt9, _⟩ := bcell hb; (try simp only [sA, sC, sD] at hz9); (try simp only [sA, sC, sD] at hcl9 hfr9 hlt9); have hk9_0 : w.heap.size < w9.heap.size := (by omega); have HB9 := hR w9; clear hb)
  have hgl9 := KB.out.lt
  unfold ptrs
  go_wp2_with fail
  have hb : Below w9.heap.size w9 (w9.alloc (.cells #[.pointer (some ⟨g, 0, none⟩), .pointer (some ⟨g, 1, none⟩), .pointer (some ⟨g, 2, none⟩), .pointer (some ⟨g, 3, none⟩), .pointer (some ⟨g, 4, none⟩), .pointer (some ⟨g, 5, none⟩), .pointer (some ⟨g, 6, none⟩), .pointer (some ⟨g, 7, none⟩), .pointer (some ⟨g, 8, none⟩), .pointer (some ⟨g, 9, none⟩), .pointer (some ⟨g, 10, none⟩)] 94)) := blw
  have PB := Aside0.mk (Blk.at (w := w9) (g := w9.heap.size) (cs := #[.pointer (some ⟨g, 0, none⟩), .pointer (some ⟨g, 1, none⟩), .pointer (some ⟨g, 2, none⟩), .pointer (some ⟨g, 3, none⟩), .pointer (some ⟨g, 4, none⟩), .pointer (some ⟨g, 5, none⟩), .pointer (some ⟨g, 6, none⟩), .pointer (some ⟨g, 7, none⟩), .pointer (some ⟨g, 8, none⟩), .pointer (some ⟨g, 9, none⟩), .pointer (some ⟨g, 10, none⟩)]) (t := 94) rfl)
  replace KB := Aside0.mk (KB.out.below hb)
  replace RB := Aside0.mk (RB.out.below hb)
  have hs9 : w9.heap.size < (w9.alloc (.cells #[.pointer (some ⟨g, 0, none⟩), .pointer (some ⟨g, 1, none⟩), .pointer (some ⟨g, 2, none⟩), .pointer (some ⟨g, 3, none⟩), .pointer (some ⟨g, 4, none⟩), .pointer (some ⟨g, 5, none⟩), .pointer (some ⟨g, 6, none⟩), .pointer (some ⟨g, 7, none⟩), .pointer (some ⟨g, 8, none⟩), .pointer (some ⟨g, 9, none⟩), .pointer (some ⟨g, 10, none⟩)] 94)).heap.size := by rw [sA]; omega
  generalize w9.alloc (.cells #[.pointer (some ⟨g, 0, none⟩), .pointer (some ⟨g, 1, none⟩), .pointer (some ⟨g, 2, none⟩), .pointer (some ⟨g, 3, none⟩), .pointer (some ⟨g, 4, none⟩), .pointer (some ⟨g, 5, none⟩), .pointer (some ⟨g, 6, none⟩), .pointer (some ⟨g, 7, none⟩), .pointer (some ⟨g, 8, none⟩), .pointer (some ⟨g, 9, none⟩), .pointer (some ⟨g, 10, none⟩)] 94) = w10 at *
  (have HB := Aside0.mk (below_step (w := w) blw hb); have hz10 := hb.size; obtain ⟨hcl10, hfr10, hlt10, _⟩ := bcell hb; (try simp only [sA, sC, sD] at hz10); (try simp only [sA, sC, sD] at hcl10 hfr10 hlt10); have hk10_0 : w.heap.size < w10.heap.size := (by omega); have HB10 := hR w10; clear hb)
  have hgp : g < w9.heap.size := hgl9
  generalize w9.heap.size = gp at *
  have hng : ¬ gp = g := by omega
  go_loopw [7, 8, 9, 37] (fun v7 v8 v9 v37 wr => ∃ j : Nat, j ≤ 6 ∧ v37 = .int .i64 j ∧ Aside0 (Blk wr g (kcs vA vX vY vS vP (flU l j)) 32) ∧ Aside0 (Blk wr gp #[.pointer (some ⟨g, 0, none⟩), .pointer (some ⟨g, 1, none⟩), .pointer (some ⟨g, 2, none⟩), .pointer (some ⟨g, 3, none⟩), .pointer (some ⟨g, 4, none⟩), .pointer (some ⟨g, 5, none⟩), .pointer (some ⟨g, 6, none⟩), .pointer (some ⟨g, 7, none⟩), .pointer (some ⟨g, 8, none⟩), .pointer (some ⟨g, 9, none⟩), .pointer (some ⟨g, 10, none⟩)] 94) ∧ Aside0 (Blk wr w.heap.size #[.int .i64 0, .int .i64 0, .int .i64 0, .int .i64 0, .int .i64 0, .int .i64 0, .int .i64 0, .int .i64 0, .int .i64 0, .int .i64 0, .int .i64 0] 32) ∧ w10.heap.size ≤ wr.heap.size ∧ Aside0 (Below w.heap.size w wr)) (fun _ _ _ v37 _ => 6 - (intOf v37).toNat)
  case atStart => exact ⟨0, by omega, rfl, KB, PB, RB, Nat.le_refl _, HB⟩
  case round =>
    obtain ⟨j, hj, rfl, KB, PB, RB, hwr, HB⟩ := hrel
    by_cases hlt : j < 6
    · obtain ⟨c0, hc0⟩ := kcs_has KB.out rfl j hlt
      have hfz := KB.out.free (5 + j)
      have hp := PB.out.cell (5 + j)
      rw [show (#[.pointer (some ⟨g, 0, none⟩), .pointer (some ⟨g, 1, none⟩), .pointer (some ⟨g, 2, none⟩), .pointer (some ⟨g, 3, none⟩), .pointer (some ⟨g, 4, none⟩), .pointer (some ⟨g, 5, none⟩), .pointer (some ⟨g, 6, none⟩), .pointer (some ⟨g, 7, none⟩), .pointer (some ⟨g, 8, none⟩), .pointer (some ⟨g, 9, none⟩), .pointer (some ⟨g, 10, none⟩)] : Array Value)[5 + j]? = some (.pointer (some ⟨g, 5 + j, none⟩)) from by
        have : j = 0 ∨ j = 1 ∨ j = 2 ∨ j = 3 ∨ j = 4 ∨ j = 5 := by omega
        rcases this with rfl | rfl | rfl | rfl | rfl | rfl <;> rfl] at hp
      have hl34' := HL.out
      have hat := ba_at (getD_at (l := l) (j := 28 + j) (by omega))
      obtain ⟨c, ec⟩ : ∃ c, l.getD (28 + j) 0 = c := ⟨_, rfl⟩
      rw [ec] at hat
      have hfa := fl_at j hlt
      have hj0 : (0 : Int) ≤ (j : Int) := by omega
      have hstep := flU_step l j hlt
      have hsame := flU_same l j hlt
      rw [ec] at hstep hsame
      have HS := Aside0.mk hstep
      have HM := Aside0.mk hsame
      clear hstep hsame hl34' ec
      have toNat_ne : ∀ a b : UInt8, ¬ a = b → ((a.toNat : Int) == (b.toNat : Int)) = false := fun a b h => by
        rw [beq_eq_false_iff_ne]
        intro e
        exact h (UInt8.toNat_inj.1 (by omega))
      by_cases q : c = 63
      · have e1 : ((c.toNat : Int) == 63) = true := by rw [q]; rfl
        rw [show flI j c = -1 from if_pos q] at HS
        go_wp2_with fail
        exact ⟨⟨j + 1, by omega, by go_num, ⟨by rw [← HS.out]; exact kcs_put KB.out j _⟩, ⟨PB.out.far hng⟩, ⟨RB.out.far (by omega)⟩, by rw [sC]; exact hwr, ⟨blw⟩⟩, by simp [intOf]; omega⟩
      · have e1 : ((c.toNat : Int) == 63) = false := toNat_ne c 63 q
        by_cases q2 : c = fltr.getD j 0
        · have e2 : ((c.toNat : Int) == ((fltr.getD j 0).toNat : Int)) = true := by rw [q2]; exact beq_self_eq_true _
          rw [show flI j c = 1 from by unfold flI; rw [if_neg q, if_pos q2]] at HS
          generalize fltr.getD j 0 = d at *
          clear q2
          go_wp2_with fail
          exact ⟨⟨j + 1, by omega, by go_num, ⟨by rw [← HS.out]; exact kcs_put KB.out j _⟩, ⟨PB.out.far hng⟩, ⟨RB.out.far (by omega)⟩, by rw [sC]; exact hwr, ⟨blw⟩⟩, by simp [intOf]; omega⟩
        · have e2 : ((c.toNat : Int) == ((fltr.getD j 0).toNat : Int)) = false := toNat_ne _ _ q2
          have e3 := HM.out (by unfold flI; rw [if_neg q, if_neg q2])
          have HE := Aside0.mk e3
          generalize fltr.getD j 0 = d at *
          clear q2 e3
          go_wp2_with fail
          exact ⟨⟨j + 1, by omega, by go_num, ⟨by rw [HE.out]; exact KB.out⟩, PB, RB, hwr, HB⟩, by simp [intOf]; omega⟩
    · obtain rfl : j = 6 := by omega
      have KB : Aside0 (Blk wr g #[.int .i64 (kn5 l flI).A, .int .i64 (kn5 l flI).X, .int .i64 (kn5 l flI).Y, .int .i64 (kn5 l flI).S, .int .i64 (kn5 l flI).PC, .int .i64 (kn5 l flI).N, .int .i64 (kn5 l flI).V, .int .i64 (kn5 l flI).D, .int .i64 (kn5 l flI).I, .int .i64 (kn5 l flI).Z, .int .i64 (kn5 l flI).C] 32) := ⟨by rw [EK.out]; exact KB.out⟩
      have hgr := KB.out.lt
      clear EK
      generalize kn5 l flI = k at *
      have g0 : wr.cell? ⟨g, 0, none⟩ = some (.int .i64 k.A) := KB.out.cell 0
      have g1 : wr.cell? ⟨g, 1, none⟩ = some (.int .i64 k.X) := KB.out.cell 1
      have g2 : wr.cell? ⟨g, 2, none⟩ = some (.int .i64 k.Y) := KB.out.cell 2
      have g3 : wr.cell? ⟨g, 3, none⟩ = some (.int .i64 k.S) := KB.out.cell 3
      have g4 : wr.cell? ⟨g, 4, none⟩ = some (.int .i64 k.PC) := KB.out.cell 4
      have g5 : wr.cell? ⟨g, 5, none⟩ = some (.int .i64 k.N) := KB.out.cell 5
      have g6 : wr.cell? ⟨g, 6, none⟩ = some (.int .i64 k.V) := KB.out.cell 6
      have g7 : wr.cell? ⟨g, 7, none⟩ = some (.int .i64 k.D) := KB.out.cell 7
      have g8 : wr.cell? ⟨g, 8, none⟩ = some (.int .i64 k.I) := KB.out.cell 8
      have g9 : wr.cell? ⟨g, 9, none⟩ = some (.int .i64 k.Z) := KB.out.cell 9
      have g10 : wr.cell? ⟨g, 10, none⟩ = some (.int .i64 k.C) := KB.out.cell 10
      have hwr2 : w.heap.size < wr.heap.size := RB.out.lt
      have r0 : wr.cell? ⟨w.heap.size, 0, none⟩ = some (.int .i64 0) := RB.out.cell 0
      have f0 := RB.out.free 0
      have r1 : wr.cell? ⟨w.heap.size, 1, none⟩ = some (.int .i64 0) := RB.out.cell 1
      have f1 := RB.out.free 1
      have r2 : wr.cell? ⟨w.heap.size, 2, none⟩ = some (.int .i64 0) := RB.out.cell 2
      have f2 := RB.out.free 2
      have r3 : wr.cell? ⟨w.heap.size, 3, none⟩ = some (.int .i64 0) := RB.out.cell 3
      have f3 := RB.out.free 3
      have r4 : wr.cell? ⟨w.heap.size, 4, none⟩ = some (.int .i64 0) := RB.out.cell 4
      have f4 := RB.out.free 4
      have r5 : wr.cell? ⟨w.heap.size, 5, none⟩ = some (.int .i64 0) := RB.out.cell 5
      have f5 := RB.out.free 5
      have r6 : wr.cell? ⟨w.heap.size, 6, none⟩ = some (.int .i64 0) := RB.out.cell 6
      have f6 := RB.out.free 6
      have r7 : wr.cell? ⟨w.heap.size, 7, none⟩ = some (.int .i64 0) := RB.out.cell 7
      have f7 := RB.out.free 7
      have r8 : wr.cell? ⟨w.heap.size, 8, none⟩ = some (.int .i64 0) := RB.out.cell 8
      have f8 := RB.out.free 8
      have r9 : wr.cell? ⟨w.heap.size, 9, none⟩ = some (.int .i64 0) := RB.out.cell 9
      have f9 := RB.out.free 9
      have r10 : wr.cell? ⟨w.heap.size, 10, none⟩ = some (.int .i64 0) := RB.out.cell 10
      have f10 := RB.out.free 10
      by_cases c2 : knT k = l
      · have c2' : (knT k == l) = true := by simp [c2]
        have e := HKK.out
        rw [if_pos c2] at e
        have HE := Aside0.mk e
        clear e
        go_wp2_with fail
        refine (hkt _).mono ?_
        rintro _ w11 ⟨rfl, hb⟩
        (have HB := Aside0.mk (below_step (w := w) blw hb); have hz11 := hb.size; obtain ⟨hcl11, hfr11, hlt11, _⟩ := bcell hb; (try simp only [sA, sC, sD] at hz11); (try simp only [sA, sC, sD] at hcl11 hfr11 hlt11); have hk11_0 : w.heap.size < w11.heap.size := (by omega); have HB11 := hR w11; clear hb)
        go_wp2_with fail
        (refine bodyPost_ret (v := .tuple #[.agg #[.int .i64 k.A, .int .i64 k.X, .int .i64 k.Y, .int .i64 k.S, .int .i64 k.PC, .int .i64 k.N, .int .i64 k.V, .int .i64 k.D, .int .i64 k.I, .int .i64 k.Z, .int .i64 k.C], .bool true]) (by (simp only [results, Tryd.results47]; go_simp <;> (rfl))) rfl ?_)
        exact ⟨ret_of (by rw [HE.out]; rfl), blw⟩
      · have c2' : (knT k == l) = false := by simp [c2]
        have e := HKK.out
        rw [if_neg c2] at e
        have HE := Aside0.mk e
        clear e
        go_wp2_with fail
        refine (hkt _).mono ?_
        rintro _ w11 ⟨rfl, hb⟩
        (have HB := Aside0.mk (below_step (w := w) blw hb); have hz11 := hb.size; obtain ⟨hcl11, hfr11, hlt11, _⟩ := bcell hb; (try simp only [sA, sC, sD] at hz11); (try simp only [sA, sC, sD] at hcl11 hfr11 hlt11); have hk11_0 : w.heap.size < w11.heap.size := (by omega); have HB11 := hR w11; clear hb)
        go_wp2_with fail
        (refine bodyPost_ret (v := .tuple #[.agg #[.int .i64 0, .int .i64 0, .int .i64 0, .int .i64 0, .int .i64 0, .int .i64 0, .int .i64 0, .int .i64 0, .int .i64 0, .int .i64 0, .int .i64 0], .bool false]) (by (simp only [results, Tryd.results47]; go_simp <;> (rfl))) rfl ?_)
        exact ⟨ret_of (by rw [HE.out]; rfl), blw⟩
end Go.Proofs.YthlmddcjbhacmaaDoor
