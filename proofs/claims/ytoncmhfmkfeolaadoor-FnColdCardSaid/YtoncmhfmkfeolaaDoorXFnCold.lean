/- FnCold: a cold processor begins where its vector tells, without interrupts. For every input. -/
import Derived.Test.YtoncmhfmkfeolaaDoorRunI
import Derived.Test.YtoncmhfmkfeolaaDoorColdR
import Derived.Test.YtoncmhfmkfeolaaDoorGL
import Derived.Test.YtoncmhfmkfeolaaDoorGA
import Derived.Deep.CutBlock
import Derived.Deep.DeepCutAuto
set_option linter.unusedVariables false
set_option linter.unusedSimpArgs false
namespace Go.Proofs.YtoncmhfmkfeolaaDoor
open Go.RowKit Go.Proofs.YtoncmhfmkfeolaaDoorW.PrintWords
theorem ev1 {W : World} {g : Nat} {t : TypeId} (h : Blk W g #[.int .i64 0, .bool false] t) : evK.C W (some ⟨g, 0, none⟩) 1 [⟨0, false⟩] := by
  refine ⟨rfl, by decide, fun _ => ⟨_, rfl, fun j p hj => ?_⟩⟩
  obtain ⟨rfl, rfl⟩ : j = 0 ∧ p = ⟨0, false⟩ := by
    cases j with
    | zero => exact ⟨rfl, by simpa using hj.symm⟩
    | succ j => simp at hj
  refine ⟨[.int .i64 0, .bool false], rfl, ⟨[_], [_], rfl, rfl, rfl⟩, fun i u hu => ?_⟩
  have ea : (⟨g, 0, none⟩ : Addr).add (0 * evK.sz + i) = ⟨g, i, none⟩ := by
    rw [Nat.zero_mul, Nat.zero_add]
    unfold Addr.add
    split <;> simp_all
  rw [ea, h.cell i]
  match i, hu with
  | 0, hu => simpa using hu
  | 1, hu => simpa using hu
  | i + 2, hu => simp at hu
theorem cold_jam (L : List Int) (hs : ramSize L.length = true) : (run (cold L) L [⟨0, false⟩] 1).jam = jams L (cold L).PC := by
  have hI : (cold L).F.I = true := by simp [cold, hs]
  have e : run (cold L) L [⟨0, false⟩] 1 = unitN [⟨0, false⟩] 0 (rs0 (cold L) L) := by
    unfold run
    rw [if_pos (by simp [runOk, hs])]
    rfl
  have a1 : asked [⟨0, false⟩] 0 true = false := rfl
  rw [e]
  unfold unitN
  rw [a1, if_neg (by simp), if_neg (by simp [rs0, hI])]
  show (if jams L (cold L).PC = true then _ else _ : Rs).jam = _
  split
  · rename_i h; rw [h]
  · rename_i h
    show false = _
    simpa using h
theorem cold_ok (L : List Int) (h : ∀ i, 0 ≤ rd L i ∧ rd L i < 256) : (cold L).ok := by
  have p0 : 0 ≤ peek L 65532 ∧ peek L 65532 < 256 := by unfold peek; split; exact h _; omega
  have p1 : 0 ≤ peek L 65533 ∧ peek L 65533 < 256 := by unfold peek; split; exact h _; omega
  have hw := word2_b p0 p1
  unfold cold
  split
  · exact ⟨by simp, by simp, by simp, by simp, by simp, by simp, by simp, by simp, hw.1, hw.2⟩
  · exact ⟨by decide, by decide, by decide, by decide, by decide, by decide, by decide, by decide, by decide, by decide⟩
set_option maxRecDepth 20000 in
set_option maxHeartbeats 400000 in
theorem spec_DrawCold (A : Option Addr) (c : Nat) (l : List Int) (w : World) (h : Bs w A l) (hl : l.length ≤ 1048576) :
    Calls Tryd.prog 5 #[.slice A l.length c] w fun e w' => ∃ L A1 c1, e = .returned (.agg #[.slice A1 (List.length L) c1]) ∧ L.length ≤ 8192 ∧ OwnB w' w.heap.size (.slice A1 L.length c1) L ∧ (∀ i, 0 ≤ rd L i ∧ rd L i < 256) ∧ Below w.heap.size w w' := by
  have HB := hR w; go_enter Tryd.func5, Tryd.ntmps5
  go_wp2_with fail
  refine (spec_l01New A c l _ (h.below (blw)) hl).mono ?_
  rintro _ w1 ⟨g, rfl, g0, hc, hb⟩
  have hg : g < w1.heap.size := World.block_lt_of_cell? w1 _ hc.b
  rw [World.size_alloc] at g0
  have e0 : w1.cell? ⟨w.heap.size, 0, none⟩ = some (.slice none 0 0) := (hb.cell (by simp)).trans (by go_simp)
  have f0 : w1.frozen? ⟨w.heap.size, 0, none⟩ = false := (hb.frozen (by simp)).trans (by go_simp)
  have HB1 := Aside0.mk (below_step (w := w) (blw) hb)
  have HC1 := Aside0.mk hc
  clear hc hb
  go_wp2_with fail
  refine (spec_l05Any g A c l _ HC1.out hl).mono ?_
  rintro _ w2 ⟨L, A2, c2, rfl, hL, HL⟩
  have e02 : w2.cell? ⟨w.heap.size, 0, none⟩ = some (.slice none 0 0) := HL.only.cell e0 (by intro e; injection e with e; simp at e; omega)
  have f02 : w2.frozen? ⟨w.heap.size, 0, none⟩ = false := (World.frozen?_of_block (HL.only.block w.heap.size (by omega) (by intro e; injection e with e; omega))).trans f0
  have HL2 := Aside0.mk HL
  have z2 := HL.only.size
  clear HL e0 f0
  go_wp2_with fail
  (refine bodyPost_ret (v := .agg #[.slice A2 L.length c2]) (by (simp only [results, Tryd.results5]; go_simp <;> (rfl))) rfl ?_)
  exact ⟨L, A2, c2, rfl, hL, (HL2.out.own.set (by show w.heap.size < _; omega) _).lower (by omega), rd_lit2 _ HL2.out.b, (Below.grown HB1.out HL2.out.only (by omega) (fun k e => by injection e with e; omega)).setCell (p := ⟨w.heap.size, 0, none⟩) (Nat.le_refl _) _⟩
set_option maxRecDepth 20000 in
set_option maxHeartbeats 400000 in
theorem FnCold_walk (A : Option Addr) (l : List Int) (c : Nat) (w : World) (h : Bs w A l) (hl : l.length ≤ 9223372036854775807) (he : Env w) :
    Calls Tryd.prog 3 #[.slice A l.length c] w fun e w' => e = .returned (.bool true) ∧ Below w.heap.size w w' := by
  by_cases hbig : (1048576 : Int) < l.length
  · have HB := hR w; go_enter Tryd.func3, Tryd.ntmps3
    go_wp2_with (first | (go_at_call 4; ((with_reducible refine (laws_big _ _ _ _ (by omega)).mono ?_); rintro _ _ ⟨rfl, rfl⟩)))
    go_ret
    exact ⟨rfl, blw⟩
  have hl2 : l.length ≤ 1048576 := by omega
  have HB := hR w; go_enter Tryd.func3, Tryd.ntmps3
  go_wp2_with fail
  refine (laws_big _ _ _ _ (by omega)).mono ?_
  rintro _ _ ⟨rfl, rfl⟩
  go_wp2_with fail
  refine Calls.mono (spec_DrawCold A c l _ h hl2) ?_
  rintro _ w1 ⟨L, A1, c1, rfl, hL, ho, hLb, hb⟩
  replace HB := Aside0.mk (below_step HB.out hb)
  have BS := Aside0.mk (ho.bs hLb)
  clear hb ho
  go_upto_region 4 with (fail)
  have hb : Below w1.heap.size w1 (w1.alloc (.cells #[.slice A1 L.length c1] 25)) := blw
  have K : Aside0 (Many (w1.alloc (.cells #[.slice A1 L.length c1] 25)) [(w1.heap.size, #[.slice A1 L.length c1], 25)]) := ⟨Many.cons (Blk.at rfl) (Many.nil _)⟩
  replace HB := Aside0.mk (below_step HB.out hb)
  replace BS := Aside0.mk (BS.out.below hb)
  clear hb
  generalize w1.alloc (.cells #[.slice A1 L.length c1] 25) = w2 at *
  have r3 := (K.out.at 0 rfl).one
  go_wp2_with fail
  refine Calls.mono (impl_Cold A1 c1 L w2 BS.out) ?_
  rintro _ w3 ⟨rfl, hb⟩
  replace K := Aside0.mk (K.out.below hb)
  replace HB := Aside0.mk (below_step HB.out hb)
  replace BS := Aside0.mk (BS.out.below hb)
  clear hb r3
  have hok := cold_ok L hLb
  have hj := cold_jam L
  obtain ⟨q, hq⟩ : ∃ q, ramSize L.length = q := ⟨_, rfl⟩
  cases q
  · have e : cold L = ⟨0, 0, 0, 0, 0, ⟨false, false, false, false, false, false⟩⟩ := by simp [cold, hq]
    rw [e]
    clear hj hok e
    have r3 := (K.out.at 0 rfl).one
    go_upto_region 5 with (fail)
    have hb : Below w3.heap.size w3 (w3.alloc (.cells #[.int .u8 0, .int .u8 0, .int .u8 0, .int .u8 0, .int .u16 0, .bool false, .bool false, .bool false, .bool false, .bool false, .bool false] 31)) := blw
    replace K : Aside0 (Many (w3.alloc (.cells #[.int .u8 0, .int .u8 0, .int .u8 0, .int .u8 0, .int .u16 0, .bool false, .bool false, .bool false, .bool false, .bool false, .bool false] 31)) [(w3.heap.size, #[.int .u8 0, .int .u8 0, .int .u8 0, .int .u8 0, .int .u16 0, .bool false, .bool false, .bool false, .bool false, .bool false, .bool false], 31), (w1.heap.size, #[.slice A1 L.length c1], 25)]) := ⟨Many.cons (Blk.at rfl) (K.out.below hb)⟩
    replace HB := Aside0.mk (below_step HB.out hb)
    clear hb r3
    generalize w3.alloc (.cells #[.int .u8 0, .int .u8 0, .int .u8 0, .int .u8 0, .int .u16 0, .bool false, .bool false, .bool false, .bool false, .bool false, .bool false] 31) = w4 at *
    have r3 := (K.out.at 1 rfl).one
    go_wp2_with fail
    refine (spec_RamOk A1 c1 L _).mono ?_
    rintro _ w5 ⟨rfl, hb⟩
    rw [hq]
    replace K := Aside0.mk (K.out.below hb)
    replace HB := Aside0.mk (below_step HB.out hb)
    clear hb r3
    have e0 := (K.out.at 0 rfl).cell 0
    have e1 := (K.out.at 0 rfl).cell 1
    have e2 := (K.out.at 0 rfl).cell 2
    have e3 := (K.out.at 0 rfl).cell 3
    have e4 := (K.out.at 0 rfl).cell 4
    have e5 := (K.out.at 0 rfl).cell 5
    have e6 := (K.out.at 0 rfl).cell 6
    have e7 := (K.out.at 0 rfl).cell 7
    have e8 := (K.out.at 0 rfl).cell 8
    have e9 := (K.out.at 0 rfl).cell 9
    have e10 := (K.out.at 0 rfl).cell 10
    simp only [List.getElem?_toArray, List.getElem?_cons_zero, List.getElem?_cons_succ] at e0 e1 e2 e3 e4 e5 e6 e7 e8 e9 e10
    go_wp2_with fail
    go_ret
    exact ⟨rfl, HB.out⟩
  · replace hj := hj hq
    have p0 : 0 ≤ peek L 65532 ∧ peek L 65532 < 256 := peek_b BS.out 65532
    have p1 : 0 ≤ peek L 65533 ∧ peek L 65533 < 256 := peek_b BS.out 65533
    have e : cold L = ⟨0, 0, 0, 253, word2 (peek L 65532) (peek L 65533), ⟨false, false, false, true, false, false⟩⟩ := by simp [cold, hq]
    have hp := ramSize_le hq
    rw [e] at hj hok ⊢
    clear e
    generalize hpe : peek L 65532 = p at *
    generalize hqe : peek L 65533 = q at *
    have hw := word2_b p0 p1
    have r3 := (K.out.at 0 rfl).one
    go_upto_region 5 with (fail)
    have hb : Below w3.heap.size w3 (w3.alloc (.cells #[.int .u8 0, .int .u8 0, .int .u8 0, .int .u8 253, .int .u16 (word2 p q), .bool false, .bool false, .bool false, .bool true, .bool false, .bool false] 31)) := blw
    replace K : Aside0 (Many (w3.alloc (.cells #[.int .u8 0, .int .u8 0, .int .u8 0, .int .u8 253, .int .u16 (word2 p q), .bool false, .bool false, .bool false, .bool true, .bool false, .bool false] 31)) [(w3.heap.size, #[.int .u8 0, .int .u8 0, .int .u8 0, .int .u8 253, .int .u16 (word2 p q), .bool false, .bool false, .bool false, .bool true, .bool false, .bool false], 31), (w1.heap.size, #[.slice A1 L.length c1], 25)]) := ⟨Many.cons (Blk.at rfl) (K.out.below hb)⟩
    replace HB := Aside0.mk (below_step HB.out hb)
    replace BS := Aside0.mk (BS.out.below hb)
    clear hb r3
    generalize w3.alloc (.cells #[.int .u8 0, .int .u8 0, .int .u8 0, .int .u8 253, .int .u16 (word2 p q), .bool false, .bool false, .bool false, .bool true, .bool false, .bool false] 31) = w4 at *
    have r3 := (K.out.at 1 rfl).one
    go_wp2_with fail
    refine (spec_RamOk A1 c1 L _).mono ?_
    rintro _ w5 ⟨rfl, hb⟩
    rw [hq]
    replace K := Aside0.mk (K.out.below hb)
    replace HB := Aside0.mk (below_step HB.out hb)
    replace BS := Aside0.mk (BS.out.below hb)
    clear hb r3
    have r3 := (K.out.at 1 rfl).one
    have e0 := (K.out.at 0 rfl).cell 0
    have e1 := (K.out.at 0 rfl).cell 1
    have e2 := (K.out.at 0 rfl).cell 2
    have e3 := (K.out.at 0 rfl).cell 3
    have e4 := (K.out.at 0 rfl).cell 4
    have e5 := (K.out.at 0 rfl).cell 5
    have e6 := (K.out.at 0 rfl).cell 6
    have e7 := (K.out.at 0 rfl).cell 7
    have e8 := (K.out.at 0 rfl).cell 8
    have e9 := (K.out.at 0 rfl).cell 9
    have e10 := (K.out.at 0 rfl).cell 10
    simp only [List.getElem?_toArray, List.getElem?_cons_zero, List.getElem?_cons_succ] at e0 e1 e2 e3 e4 e5 e6 e7 e8 e9 e10
    go_wp2_with fail
    refine Calls.mono (impl_Run ⟨0, 0, 0, 253, word2 p q, ⟨false, false, false, true, false, false⟩⟩ A1 c1 L (some ⟨w5.heap.size, 0, none⟩) 1 [⟨0, false⟩] 1 _ hok (BS.out.below (blw)) (ev1 (Blk.at rfl)) (by simp) ((he.below HB.out).below (blw))) ?_
    rintro _ w6 ⟨A8, c8, B8, d8, C8, e8, D8, f8, rfl, _, _, _, _, hb⟩
    have hb6 : Below w5.heap.size w5 w6 := below_step (blw) hb
    generalize run _ L [⟨0, false⟩] 1 = Q at *
    replace hj := Aside0.mk hj
    replace K := Aside0.mk (K.out.below hb6)
    replace HB := Aside0.mk (below_step HB.out hb6)
    replace BS := Aside0.mk (BS.out.below hb6)
    clear hb hb6 r3 e0 e1 e2 e3 e4 e5 e6 e7 e9 e10
    go_upto_region 8 with (fail)
    have hb : Below w6.heap.size w6 (w6.alloc (.cells #[.int .u8 Q.c.A, .int .u8 Q.c.X, .int .u8 Q.c.Y, .int .u8 Q.c.S, .int .u16 Q.c.PC, .bool Q.c.F.N, .bool Q.c.F.V, .bool Q.c.F.D, .bool Q.c.F.I, .bool Q.c.F.Z, .bool Q.c.F.C, .slice A8 Q.m.length c8, .slice B8 Q.t.length d8, .slice C8 Q.st.length e8, .slice D8 Q.cs.length f8, .bool Q.jam] 38)) := blw
    replace K : Aside0 (Many (w6.alloc (.cells #[.int .u8 Q.c.A, .int .u8 Q.c.X, .int .u8 Q.c.Y, .int .u8 Q.c.S, .int .u16 Q.c.PC, .bool Q.c.F.N, .bool Q.c.F.V, .bool Q.c.F.D, .bool Q.c.F.I, .bool Q.c.F.Z, .bool Q.c.F.C, .slice A8 Q.m.length c8, .slice B8 Q.t.length d8, .slice C8 Q.st.length e8, .slice D8 Q.cs.length f8, .bool Q.jam] 38)) [(w6.heap.size, #[.int .u8 Q.c.A, .int .u8 Q.c.X, .int .u8 Q.c.Y, .int .u8 Q.c.S, .int .u16 Q.c.PC, .bool Q.c.F.N, .bool Q.c.F.V, .bool Q.c.F.D, .bool Q.c.F.I, .bool Q.c.F.Z, .bool Q.c.F.C, .slice A8 Q.m.length c8, .slice B8 Q.t.length d8, .slice C8 Q.st.length e8, .slice D8 Q.cs.length f8, .bool Q.jam], 38), (w3.heap.size, #[.int .u8 0, .int .u8 0, .int .u8 0, .int .u8 253, .int .u16 (word2 p q), .bool false, .bool false, .bool false, .bool true, .bool false, .bool false], 31), (w1.heap.size, #[.slice A1 L.length c1], 25)]) := ⟨Many.cons (Blk.at rfl) (K.out.below hb)⟩
    replace HB := Aside0.mk (below_step HB.out hb)
    replace BS := Aside0.mk (BS.out.below hb)
    clear hb
    generalize w6.alloc (.cells #[.int .u8 Q.c.A, .int .u8 Q.c.X, .int .u8 Q.c.Y, .int .u8 Q.c.S, .int .u16 Q.c.PC, .bool Q.c.F.N, .bool Q.c.F.V, .bool Q.c.F.D, .bool Q.c.F.I, .bool Q.c.F.Z, .bool Q.c.F.C, .slice A8 Q.m.length c8, .slice B8 Q.t.length d8, .slice C8 Q.st.length e8, .slice D8 Q.cs.length f8, .bool Q.jam] 38) = w7 at *
    have hjj : w7.cell? ⟨w6.heap.size, 15, none⟩ = some (.bool (jams L (word2 p q))) := by rw [← hj.out]; exact (K.out.at 0 rfl).cell 15
    refine wp_normal (fnColdReg8 w7 _ _ _ p q A1 c1 L (jams L (word2 p q)) p0 p1 (K.out.at 1 rfl) (K.out.at 2 rfl).one hjj
      ⟨fun W hW => by have hc := impl_Peek A1 c1 L 65532 W (BS.out.below hW) (by omega) (by omega); rw [hpe] at hc; exact hc⟩
      ⟨fun W hW => by have hc := impl_Peek A1 c1 L 65533 W (BS.out.below hW) (by omega) (by omega); rw [hqe] at hc; exact hc⟩
      ⟨fun W hW => impl_Jams A1 c1 L (word2 p q) W (BS.out.below hW) hw.1 hw.2 ((he.below HB.out).below hW)⟩ _ _ _ _ _ _ _ _ _ _ _ _ _ _ _ _ _ _ _ _ _ _ _ _ _ _ _ _ _ _ _ _ _ _ _ _ _ _ _ _ _ _ _ _ _ _ _ _ _ _ _ _) ?_
    rintro _ w8 ⟨hb, u23, u24, u25, u26, u27, u28, u29, u30, u31, u32, u33, u34, u35, u36, u37, u38, u39, u40, u41, u42, u43, u44, u45, u46, u47, u48, u49, u50, u51, u52, u53, u54, rfl⟩
    go_wp2_with fail
    go_ret
    exact ⟨rfl, below_step HB.out hb⟩
end Go.Proofs.YtoncmhfmkfeolaaDoor
