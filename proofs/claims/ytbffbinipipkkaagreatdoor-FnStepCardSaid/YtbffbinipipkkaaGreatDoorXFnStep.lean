/- FnStep: what a step writes is the memory behind it, what it reads was there, and its first cycle is at PC. For every input. -/
import Derived.Test.YtbffbinipipkkaaGreatDoorSpecT
import Derived.Test.YtbffbinipipkkaaGreatDoorStepR
import Derived.Test.YtbffbinipipkkaaGreatDoorSameB
import Derived.Test.YtbffbinipipkkaaGreatDoorDraw8
import Derived.Deep.DeepCutAuto
set_option linter.unusedVariables false
set_option linter.unusedSimpArgs false
namespace Go.Proofs.YtbffbinipipkkaaGreatDoor
open Go.RowKit Go.Proofs.YtbffbinipipkkaaGreatDoorW.PrintWords
theorem step_none (c : Cpu) (l : List Int) (hs : ramSize l.length = false) : (step c l).t.length = 0 ∧ (step c l).m.length = 0 := by
  unfold step
  rw [hs]
  exact ⟨rfl, rfl⟩
theorem step_jam (c : Cpu) (l : List Int) (hs : ramSize l.length = true) (hj : jams l c.PC = true) : (step c l).t.length = 0 ∧ (step c l).m.length = l.length := by
  unfold step
  rw [hs, hj]
  exact ⟨rfl, rfl⟩
set_option maxRecDepth 20000 in
set_option maxHeartbeats 4000000 in
theorem FnStep_walk (A : Option Addr) (l : List Int) (c : Nat) (w : World) (h : Bs w A l) (hl : l.length ≤ 9223372036854775807) (he : Env w) :
    Calls Tryz.prog 5 #[.slice A l.length c] w fun e w' => e = .returned (.bool true) ∧ Below w.heap.size w w' := by
  by_cases hbig : (1048576 : Int) < l.length
  · have HB := hR w; go_enter Tryz.func5, Tryz.ntmps5
    go_wp2_with (first | (go_at_call 10; ((with_reducible refine (laws_big _ _ _ _ (by omega)).mono ?_); rintro _ _ ⟨rfl, rfl⟩)))
    go_ret
    exact ⟨rfl, blw⟩
  have hl2 : l.length ≤ 1048576 := by omega
  have HB := hR w; go_enter Tryz.func5, Tryz.ntmps5
  go_wp2_with fail
  refine (laws_big _ _ _ _ (by omega)).mono ?_
  rintro _ _ ⟨rfl, rfl⟩
  go_wp2_with fail
  refine Calls.mono (spec_DrawStep A c l _ h hl2) ?_
  rintro _ w1 ⟨x, L, A1, c1, rfl, hx, hL, hLb, ho, hb⟩
  replace HB := Aside0.mk (below_step HB.out hb)
  have BS := Aside0.mk (ho.bs hLb)
  have hzw := HB.out.size
  clear hb ho
  have HB1 := hR w1
  go_upto_region 4 with (fail)
  have hb : Below w1.heap.size w1 ((w1.alloc (.cells #[.int .u8 x.A, .int .u8 x.X, .int .u8 x.Y, .int .u8 x.S, .int .u16 x.PC, .bool x.F.N, .bool x.F.V, .bool x.F.D, .bool x.F.I, .bool x.F.Z, .bool x.F.C] 28)).alloc (.cells #[.slice A1 L.length c1] 30)) := blw
  have K : Aside0 (Many ((w1.alloc (.cells #[.int .u8 x.A, .int .u8 x.X, .int .u8 x.Y, .int .u8 x.S, .int .u16 x.PC, .bool x.F.N, .bool x.F.V, .bool x.F.D, .bool x.F.I, .bool x.F.Z, .bool x.F.C] 28)).alloc (.cells #[.slice A1 L.length c1] 30)) [(w1.heap.size, #[.int .u8 x.A, .int .u8 x.X, .int .u8 x.Y, .int .u8 x.S, .int .u16 x.PC, .bool x.F.N, .bool x.F.V, .bool x.F.D, .bool x.F.I, .bool x.F.Z, .bool x.F.C], 28), (w1.heap.size + 1, #[.slice A1 L.length c1], 30)]) := ⟨Many.cons ((Blk.at rfl).alloc _) (Many.cons (Blk.at (by simp)) (Many.nil _))⟩
  replace HB := Aside0.mk (below_step HB.out hb)
  replace BS := Aside0.mk (BS.out.below hb)
  have hz2 : ((w1.alloc (.cells #[.int .u8 x.A, .int .u8 x.X, .int .u8 x.Y, .int .u8 x.S, .int .u16 x.PC, .bool x.F.N, .bool x.F.V, .bool x.F.D, .bool x.F.I, .bool x.F.Z, .bool x.F.C] 28)).alloc (.cells #[.slice A1 L.length c1] 30)).heap.size = w1.heap.size + 1 + 1 := by simp
  clear hb
  generalize (w1.alloc (.cells #[.int .u8 x.A, .int .u8 x.X, .int .u8 x.Y, .int .u8 x.S, .int .u16 x.PC, .bool x.F.N, .bool x.F.V, .bool x.F.D, .bool x.F.I, .bool x.F.Z, .bool x.F.C] 28)).alloc (.cells #[.slice A1 L.length c1] 30) = w2 at *
  have HB2 := hR w2
  have hTold := step_told x L
  have hFirst := fun a b => step_first x L a b (by obtain ⟨_, _, _, _, _, _, _, _, p0, p1⟩ := id hx; exact p0) hLb
  have hNone := step_none x L
  have hJam := step_jam x L
  have htl := step_tl x L hx
  have hSb := step_mb x L hx hLb
  have hSt := step_tb x L hx hLb
  have hi := fun W h e => impl_Step x A1 c1 L W hx h e
  have hsp := fun W h => spec_Step x A1 c1 L W hx h
  generalize step x L = S at *
  obtain ⟨e0, e1, e2, e3, e4, e5, e6, e7, e8, e9, e10⟩ := (K.out.at 0 rfl).cpu
  have r1 := (K.out.at 1 rfl).one
  go_wp2_with fail
  refine Calls.mono (hi _ BS.out (he.below HB.out)) ?_
  rintro _ w3 ⟨A3, c3, B3, d3, rfl, ho, ht, hb⟩
  have BS3 := Aside0.mk (ho.bs hSb)
  have CS := Aside0.mk (ht.cs hSt)
  have hb := below_step (w := w2) (blw) hb; replace K := Aside0.mk (K.out.below hb); replace HB := Aside0.mk (below_step HB.out hb); have hz3 := hb.size; have HB3 := hR w3
  replace BS := Aside0.mk (BS.out.below hb)
  clear hb ho e0 e1 e2 e3 e4 e5 e6 e7 e8 e9 e10 r1
  go_upto_region 5 with (fail)
  have hb : Below w3.heap.size w3 ((w3.alloc (.cells #[.int .u8 S.c.A, .int .u8 S.c.X, .int .u8 S.c.Y, .int .u8 S.c.S, .int .u16 S.c.PC, .bool S.c.F.N, .bool S.c.F.V, .bool S.c.F.D, .bool S.c.F.I, .bool S.c.F.Z, .bool S.c.F.C] 28)).alloc (.cells #[.slice A3 S.m.length c3] 30)) := blw
  replace K : Aside0 (Many ((w3.alloc (.cells #[.int .u8 S.c.A, .int .u8 S.c.X, .int .u8 S.c.Y, .int .u8 S.c.S, .int .u16 S.c.PC, .bool S.c.F.N, .bool S.c.F.V, .bool S.c.F.D, .bool S.c.F.I, .bool S.c.F.Z, .bool S.c.F.C] 28)).alloc (.cells #[.slice A3 S.m.length c3] 30)) [(w3.heap.size, #[.int .u8 S.c.A, .int .u8 S.c.X, .int .u8 S.c.Y, .int .u8 S.c.S, .int .u16 S.c.PC, .bool S.c.F.N, .bool S.c.F.V, .bool S.c.F.D, .bool S.c.F.I, .bool S.c.F.Z, .bool S.c.F.C], 28), (w3.heap.size + 1, #[.slice A3 S.m.length c3], 30), (w1.heap.size, #[.int .u8 x.A, .int .u8 x.X, .int .u8 x.Y, .int .u8 x.S, .int .u16 x.PC, .bool x.F.N, .bool x.F.V, .bool x.F.D, .bool x.F.I, .bool x.F.Z, .bool x.F.C], 28), (w1.heap.size + 1, #[.slice A1 L.length c1], 30)]) := ⟨Many.cons ((Blk.at rfl).alloc _) (Many.cons (Blk.at (by simp)) (K.out.below hb))⟩
  replace HB := Aside0.mk (below_step HB.out hb)
  replace BS := Aside0.mk (BS.out.below hb)
  replace CS := Aside0.mk (CS.out.below hb)
  replace BS3 := Aside0.mk (BS3.out.below hb)
  have hz4 : ((w3.alloc (.cells #[.int .u8 S.c.A, .int .u8 S.c.X, .int .u8 S.c.Y, .int .u8 S.c.S, .int .u16 S.c.PC, .bool S.c.F.N, .bool S.c.F.V, .bool S.c.F.D, .bool S.c.F.I, .bool S.c.F.Z, .bool S.c.F.C] 28)).alloc (.cells #[.slice A3 S.m.length c3] 30)).heap.size = w3.heap.size + 1 + 1 := by simp
  clear hb
  generalize (w3.alloc (.cells #[.int .u8 S.c.A, .int .u8 S.c.X, .int .u8 S.c.Y, .int .u8 S.c.S, .int .u16 S.c.PC, .bool S.c.F.N, .bool S.c.F.V, .bool S.c.F.D, .bool S.c.F.I, .bool S.c.F.Z, .bool S.c.F.C] 28)).alloc (.cells #[.slice A3 S.m.length c3] 30) = w4 at *
  have HB4 := hR w4
  obtain ⟨e0, e1, e2, e3, e4, e5, e6, e7, e8, e9, e10⟩ := (K.out.at 2 rfl).cpu
  have r1 := (K.out.at 3 rfl).one
  go_wp2_with fail
  refine Calls.mono (hsp _ BS.out) ?_
  rintro _ w5 ⟨A5, c5, B5, d5, rfl, _, _, hb⟩
  have hb := below_step (w := w4) (blw) hb; replace K := Aside0.mk (K.out.below hb); replace HB := Aside0.mk (below_step HB.out hb); have hz5 := hb.size; have HB5 := hR w5
  replace BS3 := Aside0.mk (BS3.out.below hb)
  replace CS := Aside0.mk (CS.out.below hb)
  replace BS := Aside0.mk (BS.out.below hb)
  clear hb e0 e1 e2 e3 e4 e5 e6 e7 e8 e9 e10 r1
  go_upto_region 6 with (fail)
  have hb : Below w5.heap.size w5 ((w5.alloc (.cells #[.int .u8 S.c.A, .int .u8 S.c.X, .int .u8 S.c.Y, .int .u8 S.c.S, .int .u16 S.c.PC, .bool S.c.F.N, .bool S.c.F.V, .bool S.c.F.D, .bool S.c.F.I, .bool S.c.F.Z, .bool S.c.F.C] 28)).alloc (.cells #[.slice A5 S.m.length c5] 30)) := blw
  replace K : Aside0 (Many ((w5.alloc (.cells #[.int .u8 S.c.A, .int .u8 S.c.X, .int .u8 S.c.Y, .int .u8 S.c.S, .int .u16 S.c.PC, .bool S.c.F.N, .bool S.c.F.V, .bool S.c.F.D, .bool S.c.F.I, .bool S.c.F.Z, .bool S.c.F.C] 28)).alloc (.cells #[.slice A5 S.m.length c5] 30)) [(w5.heap.size, #[.int .u8 S.c.A, .int .u8 S.c.X, .int .u8 S.c.Y, .int .u8 S.c.S, .int .u16 S.c.PC, .bool S.c.F.N, .bool S.c.F.V, .bool S.c.F.D, .bool S.c.F.I, .bool S.c.F.Z, .bool S.c.F.C], 28), (w3.heap.size, #[.int .u8 S.c.A, .int .u8 S.c.X, .int .u8 S.c.Y, .int .u8 S.c.S, .int .u16 S.c.PC, .bool S.c.F.N, .bool S.c.F.V, .bool S.c.F.D, .bool S.c.F.I, .bool S.c.F.Z, .bool S.c.F.C], 28), (w3.heap.size + 1, #[.slice A3 S.m.length c3], 30), (w1.heap.size, #[.int .u8 x.A, .int .u8 x.X, .int .u8 x.Y, .int .u8 x.S, .int .u16 x.PC, .bool x.F.N, .bool x.F.V, .bool x.F.D, .bool x.F.I, .bool x.F.Z, .bool x.F.C], 28), (w1.heap.size + 1, #[.slice A1 L.length c1], 30)]) := ⟨Many.cons ((Blk.at rfl).alloc _) (K.out.below hb)⟩
  replace HB := Aside0.mk (below_step HB.out hb)
  replace BS3 := Aside0.mk (BS3.out.below hb)
  replace BS := Aside0.mk (BS.out.below hb)
  replace CS := Aside0.mk (CS.out.below hb)
  have hz6 : ((w5.alloc (.cells #[.int .u8 S.c.A, .int .u8 S.c.X, .int .u8 S.c.Y, .int .u8 S.c.S, .int .u16 S.c.PC, .bool S.c.F.N, .bool S.c.F.V, .bool S.c.F.D, .bool S.c.F.I, .bool S.c.F.Z, .bool S.c.F.C] 28)).alloc (.cells #[.slice A5 S.m.length c5] 30)).heap.size = w5.heap.size + 1 + 1 := by simp
  clear hb
  generalize (w5.alloc (.cells #[.int .u8 S.c.A, .int .u8 S.c.X, .int .u8 S.c.Y, .int .u8 S.c.S, .int .u16 S.c.PC, .bool S.c.F.N, .bool S.c.F.V, .bool S.c.F.D, .bool S.c.F.I, .bool S.c.F.Z, .bool S.c.F.C] 28)).alloc (.cells #[.slice A5 S.m.length c5] 30) = w6 at *
  have HB6 := hR w6
  obtain ⟨e0, e1, e2, e3, e4, e5, e6, e7, e8, e9, e10⟩ := (K.out.at 1 rfl).cpu
  obtain ⟨y0, y1, y2, y3, y4, y5, y6, y7, y8, y9, y10⟩ := (K.out.at 0 rfl).cpu
  have r1 := (K.out.at 4 rfl).one
  obtain ⟨_, _, _, _, _, _, _, _, p0, p1⟩ := id hx
  have hl2b := (K.out.at 2 rfl).lt
  have hl4b := (K.out.at 4 rfl).lt
  have r2 := (K.out.at 2 rfl).one
  obtain ⟨q, hq⟩ : ∃ q, ramSize L.length = q := ⟨_, rfl⟩
  cases q
  · obtain ⟨hS0, hS1⟩ := hNone hq
    go_wp2_with fail
    refine Calls.mono (spec_RamOk _ _ _ _) ?_
    rintro _ w7 ⟨rfl, hb⟩
    have hb := below_step (w := w6) (blw) hb; replace K := Aside0.mk (K.out.below hb); replace HB := Aside0.mk (below_step HB.out hb); have hz7 := hb.size; have HB7 := hR w7
    clear hb y0 y1 y2 y3 y4 y5 y6 y7 y8 y9 y10 e0 e1 e2 e3 e4 e5 e6 e7 e8 e9 e10 r1 r2 hl2b hl4b
    have hl2b := (K.out.at 2 rfl).lt
    have hl4b := (K.out.at 4 rfl).lt
    have r1 := (K.out.at 4 rfl).one
    have r2 := (K.out.at 2 rfl).one
    go_wp2_with fail
    go_region_held3 (fun w' => ∀ p : Addr, p.block < w7.heap.size → w'.cell? p = w7.cell? p) ((intro p hp; exact Below.cell (by exact blw) hp)) (first | (go_at_call 14; ((with_reducible refine (spec_RamOk _ _ _ _).mono ?_); rintro _ w8 ⟨rfl, hb⟩; have HB := Aside0.mk (below_step (w := w) blw hb); have HB7 := Aside0.mk (below_step (w := w7) blw hb); have hz8 := hb.size; obtain ⟨hcl8, hfr8, hlt8, _⟩ := bcell hb; (try simp only [sA, sC, sD] at hz8); (try simp only [sA, sC, sD] at hcl8 hfr8 hlt8); have HB8 := hR w8; clear hb)))
    go_wp2_with fail
    go_ret
    exact ⟨rfl, blw⟩
  have hrs := ramSize_le hq
  have hT := hTold hq
  have hm0 : (L.length : Int) ≠ 0 := by omega
  obtain ⟨j, hj⟩ : ∃ j, jams L x.PC = j := ⟨_, rfl⟩
  have hjm := fun W h e => impl_Jams A1 c1 L x.PC W h p0 p1 e
  rw [hj] at hjm
  go_wp2_with fail
  refine Calls.mono (spec_RamOk _ _ _ _) ?_
  rintro _ w7 ⟨rfl, hb⟩
  have hb := below_step (w := w6) (blw) hb; replace K := Aside0.mk (K.out.below hb); replace HB := Aside0.mk (below_step HB.out hb); have hz7 := hb.size; have HB7 := hR w7
  replace BS := Aside0.mk (BS.out.below hb)
  replace BS3 := Aside0.mk (BS3.out.below hb)
  replace CS := Aside0.mk (CS.out.below hb)
  clear hb y0 y1 y2 y3 y4 y5 y6 y7 y8 y9 y10 e0 e1 e2 e3 e4 e5 e6 e7 e8 e9 e10 r1 r2 hl2b hl4b
  obtain ⟨e0, e1, e2, e3, e4, e5, e6, e7, e8, e9, e10⟩ := (K.out.at 3 rfl).cpu
  have r1 := (K.out.at 4 rfl).one
  go_wp2_with fail
  refine Calls.mono (hjm _ BS.out (he.below HB.out)) ?_
  rintro _ w8 ⟨rfl, hb⟩
  have hb := below_step (w := w7) (blw) hb; replace K := Aside0.mk (K.out.below hb); replace HB := Aside0.mk (below_step HB.out hb); have hz8 := hb.size; have HB8 := hR w8
  replace BS := Aside0.mk (BS.out.below hb)
  replace BS3 := Aside0.mk (BS3.out.below hb)
  replace CS := Aside0.mk (CS.out.below hb)
  clear hb e0 e1 e2 e3 e4 e5 e6 e7 e8 e9 e10 r1
  have hl2b := (K.out.at 2 rfl).lt
  have hl3b := (K.out.at 3 rfl).lt
  have hl4b := (K.out.at 4 rfl).lt
  have r1 := (K.out.at 4 rfl).one
  have r2 := (K.out.at 2 rfl).one
  cases j
  rotate_left
  · obtain ⟨hS0, hS1⟩ := hJam hq hj
    go_wp2_with fail
    go_region_held3 (fun w' => ∀ p : Addr, p.block < w8.heap.size → w'.cell? p = w8.cell? p) ((intro p hp; exact Below.cell (by exact blw) hp)) (first | (go_at_call 14; ((with_reducible refine (spec_RamOk _ _ _ _).mono ?_); rintro _ w9 ⟨rfl, hb⟩; have HB := Aside0.mk (below_step (w := w) blw hb); have HB8 := Aside0.mk (below_step (w := w8) blw hb); have hz9 := hb.size; obtain ⟨hcl9, hfr9, hlt9, _⟩ := bcell hb; (try simp only [sA, sC, sD] at hz9); (try simp only [sA, sC, sD] at hcl9 hfr9 hlt9); have HB9 := hR w9; clear hb)))
    go_wp2_with fail
    go_ret
    exact ⟨ret_of (congrArg Value.bool (show (!((L.length : Int) == 0)) = true from by rw [Bool.not_eq_true', beq_eq_false_iff_ne]; exact hm0)), blw⟩
  obtain ⟨hF0, hF1⟩ := hFirst hq hj
  obtain ⟨e0, e1, e2, e3, e4, e5, e6, e7, e8, e9, e10⟩ := (K.out.at 3 rfl).cpu
  obtain ⟨ad, hB3, f0, f1, f2⟩ := cyc_at CS.out.c 0 (by omega) (by omega) ⟨0, 0, false⟩
  subst hB3
  have ez : S.t.getD (0 : Int).toNat ⟨0, 0, false⟩ = ⟨x.PC, peek L x.PC, false⟩ := hF1
  rw [ez] at f0 f1 f2
  simp [Addr.add] at f0 f1 f2
  have g1 : (2 : Int) ≤ (S.t.length : Int) := by omega
  have g2 : (0 : Int) < (S.t.length : Int) := by omega
  have g3 : decide ((S.t.length : Int) < 2) = false := by simp; omega
  go_wp2_with fail
  go_quiet (fail)
  go_upto_region 12 with (fail)
  have hb : Below w8.heap.size w8 (w8.drewN nq) := blw
  replace K := Aside0.mk (K.out.below hb)
  replace BS := Aside0.mk (BS.out.below hb)
  replace BS3 := Aside0.mk (BS3.out.below hb)
  replace CS := Aside0.mk (CS.out.below hb)
  replace HB := Aside0.mk (below_step HB.out hb)
  clear hb f0 f1 f2 r1 r2 hl2b hl3b hl4b e0 e1 e2 e3 e4 e5 e6 e7 e8 e9 e10 ez g3
  have hz9 : w8.heap.size ≤ (w8.drewN nq).heap.size := (show Below w8.heap.size w8 (w8.drewN nq) from blw).size
  generalize w8.drewN nq = w9 at *
  have HB9 := hR w9
  have CS9 := Aside0.mk CS.out
  have KR := Aside0.mk (K.out.at 2 rfl)
  have BS9 := Aside0.mk BS3.out
  go_wp2_with (first | ((with_reducible refine gate_dst (N := 78) rfl ?_); refine Kd.R_lit (Kd.int .u8) w9.heap.size 5 ?hg (N := 78) ?hd (xs := ([] : List Int)) (inner := []) (ok := fun _ => True) (okp := fun _ => True) ?hr ?hp (fun _ hk => hk) trivial (Below.refl _ _) (Nat.le_refl _) (by simp) ?_; (case hd => rfl); (case hg => rfl); (case hr => first | (go_simp; done) | (go_simp; rfl)); (case hp => exact (Reps.none _ _)); intro v1 w10 ho hb hg1 hn1; have HA := Aside0.mk ho; clear ho hg1 hn1; have r1 := ((K.out.at 4 rfl).below hb).one; have hz10 := hb.size; have HB10 := Aside0.mk hb; clear hb) | (at_builtin; refine Kd.R_append_row (Value.int .u8) (0 : Int) (h1 := fun _ => rfl) w9.heap.size rfl _ _ 22 5 (.int .u8 0) 1 rfl Tryz.underlying22 infoU8 rfl (by decide) _ [] L _ _ _ (fun _ => True) rfl rfl (fun _ _ => trivial) ?a1 ?a2 (Below.refl _ _) ?a3 ?a4 ?_; (case a1 => exact HA.out); (case a2 => exact (Kd.C_below BS.out.c HB10.out)); (case a3 => omega); (case a4 => simp; omega); intro v2 w11 ho2 hb2 hg2 hat2; rw [List.nil_append] at ho2; have hb : Below w9.heap.size w9 w11 := Below.trans HB10.out hb2; clear hb2 hg2 hat2; have HO := Aside0.mk (show OwnB _ _ _ _ from ho2); clear ho2; obtain ⟨A11, c11, e11, _, _⟩ := Kd.R_reads HO.out; subst e11; have HBN := Aside0.mk hb; have hb := below_step (w := w9) (blw) hb; replace K := Aside0.mk (K.out.below hb); replace HB := Aside0.mk (below_step HB.out hb); have hz11 := hb.size; have HB11 := hR w11; replace BS3 := Aside0.mk (BS3.out.below hb); replace CS := Aside0.mk (CS.out.below hb); clear hb r1 HA HB10))
  have HK := Aside0.mk hT.see
  have HM := Aside0.mk hT.mem
  have hml := hT.len
  simp only [] at HK HM hml
  have HML := Aside0.mk hml
  clear hT hml hTold hFirst hNone hJam hi hsp hjm
  have ro := OwnX.of HO.out
  have HR := Aside0.mk ro.row
  clear ro
  have HBw := Aside0.mk HB.out
  have HZ9 : Aside0 (w.heap.size ≤ w9.heap.size) := ⟨by omega⟩
  clear CS HB K
  go_loopw [12, 13] (fun v z wr => ∃ k : Nat, k ≤ S.t.length ∧ v = .int .i64 k ∧ Aside0 (OwnB wr w9.heap.size (.slice A11 L.length c11) (applyN S.t L k)) ∧ Aside0 (Below w9.heap.size w9 wr) ∧ Aside0 (Below w.heap.size w wr)) (fun v _ _ => S.t.length - (intOf v).toNat)
  case atStart => exact ⟨0, Nat.zero_le _, rfl, HO, HBN, HBw⟩
  case round =>
    clear HO HBN HBw
    obtain ⟨k, hk, rfl, HO, HW, HB⟩ := hrel
    have hzr := HW.out.size
    by_cases hlt : k < S.t.length
    · obtain ⟨y, ey⟩ : ∃ y, cd S.t k = y := ⟨_, rfl⟩
      have hok := CS9.out.b k
      rw [ey] at hok
      obtain ⟨ok0, ok1, ok2, ok3⟩ := hok
      obtain ⟨ae, hae, hx0, hx1, hx2⟩ := cyc_at CS9.out.c k (by omega) (by omega) ⟨0, 0, false⟩
      injection hae with hae
      subst hae
      rw [Int.toNat_natCast, show S.t.getD k ⟨0, 0, false⟩ = y from ey] at hx0 hx1 hx2
      have lb := World.block_lt_of_cell? w9 _ hx0
      have P1 := (HW.out.cell (World.block_lt_of_cell? w9 _ hx0)).trans hx0
      have P2 := (HW.out.cell (World.block_lt_of_cell? w9 _ hx1)).trans hx1
      have P3 := (HW.out.cell (World.block_lt_of_cell? w9 _ hx2)).trans hx2
      have hl3 : (applyN S.t L k).length = L.length := applyN_len _ _ _
      obtain ⟨g, cap, eo, gb, gl, cl, HC⟩ := Kd.R_form HO.out (by omega)
      rw [hl3] at eo
      injection eo with ea en ec
      subst ea ec
      have q0 : 0 ≤ y.a % L.length := Int.emod_nonneg _ (by omega)
      have q1 : y.a % L.length < L.length := Int.emod_lt_of_pos _ (by omega)
      obtain ⟨hy, hf⟩ := Kd.R_celln 0 HO.out (y.a % L.length) q0 q1
      have hsee := HK.out k hlt
      unfold seen at hsee
      rw [ey] at hsee
      have Q2 : ∀ v, (wr.setCell ⟨g, (y.a % L.length).toNat, none⟩ v).cell? (ad.add (k * 3 + 1)) = some (.int .u8 y.d) := fun v => (((HW.out.setCell (p := ⟨g, (y.a % L.length).toNat, none⟩) gb v)).cell (World.block_lt_of_cell? w9 _ hx1)).trans hx1
      rw [add_next] at P2 P3 Q2
      have z0 : (0 : Int) ≤ (k : Int) := by omega
      have z1 : (k : Int) < (S.t.length : Int) := by omega
      clear HC en hx0 hx1 hx2
      by_cases hon : y.w = true
      · rw [hon] at P3
        have HP := Aside0.mk (Kd.R_putg HO.out (y.a % L.length) y.d).1
        have GB := Aside0.mk gb
        clear gb
        go_wp2_with fail
        go_quiet (fail)
        go_wp2_with fail
        have gb := GB.out
        exact ⟨⟨k + 1, by omega, by go_num, ⟨by rw [applyN_on S.t L k (by rw [ey]; exact hon), ey]; exact OwnB.below HP.out (blw)⟩, ⟨blw⟩, ⟨by have hzz : w.heap.size ≤ w9.heap.size := HZ9.out; exact (blw)⟩⟩, by simp [intOf]; omega⟩
      · have hon : y.w = false := by cases e : y.w <;> simp_all
        rw [hon] at P3
        rw [applyN_off S.t L k (by rw [ey]; exact hon)] at hsee
        have hy2 : wr.cell? ⟨g, (y.a % L.length).toNat, none⟩ = some (.int .u8 y.d) := by
          rw [hy]
          congr 2
        clear hy
        go_wp2_with fail
        go_quiet (fail)
        go_wp2_with fail
        exact ⟨⟨k + 1, by omega, by go_num, ⟨by rw [applyN_off S.t L k (by rw [ey]; exact hon)]; exact OwnB.below HO.out (blw)⟩, ⟨blw⟩, ⟨blw⟩⟩, by simp [intOf]; omega⟩
    · have ek : k = S.t.length := by omega
      subst ek
      have r2 := (KR.out.below HW.out).one
      have hh := HO.out
      rw [HM.out, ← HML.out] at hh
      have B1 := Aside0.mk (hh.bs hSb)
      have B2 := Aside0.mk (BS9.out.below HW.out)
      have hS := fun W b1 b2 => laws_sameBytes A11 A3 c11 c3 S.m W b1 b2 (by rw [HML.out]; omega)
      rw [HML.out] at hS r2
      clear hh
      go_wp2_with fail
      refine Calls.mono (hS _ B1.out B2.out) ?_
      rintro _ w12 ⟨rfl, hb⟩
      replace HB := Aside0.mk (below_step HB.out hb)
      go_wp2_with fail
      go_ret
      exact ⟨rfl, blw⟩
end Go.Proofs.YtbffbinipipkkaaGreatDoor
