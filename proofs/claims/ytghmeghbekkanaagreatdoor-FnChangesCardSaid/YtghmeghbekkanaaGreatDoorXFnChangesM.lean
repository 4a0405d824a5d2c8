/- FnChanges: an operation changes no register and no flag but those that it is told to. For every input. -/
import Derived.Test.YtghmeghbekkanaaGreatDoorSpecT
import Derived.Test.YtghmeghbekkanaaGreatDoorStepR
import Derived.Test.YtghmeghbekkanaaGreatDoorChgI
import Derived.Test.YtghmeghbekkanaaGreatDoorKnowS
import Derived.Test.YtghmeghbekkanaaGreatDoorOkC
import Derived.Test.YtghmeghbekkanaaGreatDoorDraw8
import Derived.Deep.DeepCutAuto
import Derived.Test.YtghmeghbekkanaaGreatDoorXFnChangesC
set_option linter.unusedVariables false
set_option linter.unusedSimpArgs false
namespace Go.Proofs.YtghmeghbekkanaaGreatDoor
open Go.RowKit Go.Proofs.YtghmeghbekkanaaGreatDoorW.PrintWords
attribute [local go_sem high] index_lb size_lb
set_option maxRecDepth 20000 in
set_option maxHeartbeats 4000000 in
theorem FnChanges_walk (A : Option Addr) (l : List Int) (c : Nat) (w : World) (h : Bs w A l) (hl : l.length ≤ 9223372036854775807) (he : Env w) :
    Calls Tryz.prog 3 #[.slice A l.length c] w fun e w' => e = .returned (.bool true) ∧ Below w.heap.size w w' := by
  by_cases hbig : (1048576 : Int) < l.length
  · have HB := hR w; go_enter Tryz.func3, Tryz.ntmps3
    go_wp2_with (first | (go_at_call 11; ((with_reducible refine (laws_big _ _ _ _ (by omega)).mono ?_); rintro _ _ ⟨rfl, rfl⟩)))
    go_ret
    exact ⟨rfl, blw⟩
  have hl2 : l.length ≤ 1048576 := by omega
  have HB := hR w; go_enter Tryz.func3, Tryz.ntmps3
  go_wp2_with fail
  refine (laws_big _ _ _ _ (by omega)).mono ?_
  rintro _ _ ⟨rfl, rfl⟩
  go_wp2_with fail
  refine Calls.mono (spec_DrawStep A c l _ h hl2) ?_
  rintro _ w1 ⟨x, L, A1, c1, rfl, hx, hL, hLb, ho, hb⟩
  replace HB := Aside0.mk (below_step HB.out hb)
  have BS := Aside0.mk (ho.bs hLb)
  clear hb ho
  have HB1 := hR w1
  go_upto_region 4 with (fail)
  have hb : Below w1.heap.size w1 ((w1.alloc (.cells #[.int .u8 x.A, .int .u8 x.X, .int .u8 x.Y, .int .u8 x.S, .int .u16 x.PC, .bool x.F.N, .bool x.F.V, .bool x.F.D, .bool x.F.I, .bool x.F.Z, .bool x.F.C] 28)).alloc (.cells #[.slice A1 L.length c1] 30)) := blw
  have K : Aside0 (Many ((w1.alloc (.cells #[.int .u8 x.A, .int .u8 x.X, .int .u8 x.Y, .int .u8 x.S, .int .u16 x.PC, .bool x.F.N, .bool x.F.V, .bool x.F.D, .bool x.F.I, .bool x.F.Z, .bool x.F.C] 28)).alloc (.cells #[.slice A1 L.length c1] 30)) [(w1.heap.size, #[.int .u8 x.A, .int .u8 x.X, .int .u8 x.Y, .int .u8 x.S, .int .u16 x.PC, .bool x.F.N, .bool x.F.V, .bool x.F.D, .bool x.F.I, .bool x.F.Z, .bool x.F.C], 28), (w1.heap.size + 1, #[.slice A1 L.length c1], 30)]) := ⟨Many.cons ((Blk.at rfl).alloc _) (Many.cons (Blk.at (by simp)) (Many.nil _))⟩
  replace HB := Aside0.mk (below_step HB.out hb)
  replace BS := Aside0.mk (BS.out.below hb)
  clear hb
  generalize (w1.alloc (.cells #[.int .u8 x.A, .int .u8 x.X, .int .u8 x.Y, .int .u8 x.S, .int .u16 x.PC, .bool x.F.N, .bool x.F.V, .bool x.F.D, .bool x.F.I, .bool x.F.Z, .bool x.F.C] 28)).alloc (.cells #[.slice A1 L.length c1] 30) = w2 at *
  have EV := Aside0.mk (he.below HB.out)
  have HB2 := hR w2
  have hx0 := hx
  obtain ⟨_, _, _, _, _, _, _, _, p0, p1⟩ := hx0
  obtain ⟨e0, e1, e2, e3, e4, e5, e6, e7, e8, e9, e10⟩ := (K.out.at 0 rfl).cpu
  have r1 := (K.out.at 1 rfl).one
  have hl0 := (K.out.at 0 rfl).lt
  have hl1 := (K.out.at 1 rfl).lt
  obtain ⟨q, hq⟩ : ∃ q, ramSize L.length = q := ⟨_, rfl⟩
  cases q
  · go_wp2_with fail; refine Calls.mono (spec_RamOk _ _ _ _) ?_; rintro _ w3 ⟨rfl, hb⟩; have hb := below_step (w := w2) (blw) hb; replace K := Aside0.mk (K.out.below hb); replace BS := Aside0.mk (BS.out.below hb); replace HB := Aside0.mk (below_step HB.out hb); replace EV := Aside0.mk (he.below HB.out); have hz3 := hb.size; clear hb; clear e0 e1 e2 e3 e4 e5 e6 e7 e8 e9 e10 r1 hl0 hl1; have hl0 := (K.out.at 0 rfl).lt; have hl1 := (K.out.at 1 rfl).lt; obtain ⟨e0, e1, e2, e3, e4, e5, e6, e7, e8, e9, e10⟩ := (K.out.at 0 rfl).cpu; have r1 := (K.out.at 1 rfl).one; have HB3 := hR w3
    go_wp2_with fail
    go_ret
    exact ⟨rfl, blw⟩
  go_wp2_with fail; refine Calls.mono (spec_RamOk _ _ _ _) ?_; rintro _ w3 ⟨rfl, hb⟩; have hb := below_step (w := w2) (blw) hb; replace K := Aside0.mk (K.out.below hb); replace BS := Aside0.mk (BS.out.below hb); replace HB := Aside0.mk (below_step HB.out hb); replace EV := Aside0.mk (he.below HB.out); have hz3 := hb.size; clear hb; clear e0 e1 e2 e3 e4 e5 e6 e7 e8 e9 e10 r1 hl0 hl1; have hl0 := (K.out.at 0 rfl).lt; have hl1 := (K.out.at 1 rfl).lt; obtain ⟨e0, e1, e2, e3, e4, e5, e6, e7, e8, e9, e10⟩ := (K.out.at 0 rfl).cpu; have r1 := (K.out.at 1 rfl).one; have HB3 := hR w3
  obtain ⟨j, hj⟩ : ∃ j, jams L x.PC = j := ⟨_, rfl⟩
  have hjm := fun W hw => spec_Jams A1 c1 L x.PC W hw p0 p1
  rw [hj] at hjm
  cases j
  rotate_left
  · go_wp2_with fail; refine Calls.mono (hjm _ BS.out) ?_; rintro _ w4 ⟨rfl, hb⟩; have hb := below_step (w := w3) (blw) hb; replace K := Aside0.mk (K.out.below hb); replace BS := Aside0.mk (BS.out.below hb); replace HB := Aside0.mk (below_step HB.out hb); replace EV := Aside0.mk (he.below HB.out); have hz4 := hb.size; clear hb; clear e0 e1 e2 e3 e4 e5 e6 e7 e8 e9 e10 r1 hl0 hl1; have hl0 := (K.out.at 0 rfl).lt; have hl1 := (K.out.at 1 rfl).lt; obtain ⟨e0, e1, e2, e3, e4, e5, e6, e7, e8, e9, e10⟩ := (K.out.at 0 rfl).cpu; have r1 := (K.out.at 1 rfl).one; have HB4 := hR w4
    go_wp2_with fail
    go_ret
    exact ⟨rfl, blw⟩
  go_wp2_with fail; refine Calls.mono (hjm _ BS.out) ?_; rintro _ w4 ⟨rfl, hb⟩; have hb := below_step (w := w3) (blw) hb; replace K := Aside0.mk (K.out.below hb); replace BS := Aside0.mk (BS.out.below hb); replace HB := Aside0.mk (below_step HB.out hb); replace EV := Aside0.mk (he.below HB.out); have hz4 := hb.size; clear hb; clear e0 e1 e2 e3 e4 e5 e6 e7 e8 e9 e10 r1 hl0 hl1; have hl0 := (K.out.at 0 rfl).lt; have hl1 := (K.out.at 1 rfl).lt; obtain ⟨e0, e1, e2, e3, e4, e5, e6, e7, e8, e9, e10⟩ := (K.out.at 0 rfl).cpu; have r1 := (K.out.at 1 rfl).one; have HB4 := hR w4
  have hcode := peek_bb hLb x.PC
  have hkp := step_keep x L hq hj hLb
  have hst := fun W hw e => impl_Step x A1 c1 L W hx hw e
  have htb := step_tb x L hx hLb
  obtain ⟨f0, f1⟩ := step_first x L hq hj p0 hLb
  have htl := step_tl x L hx
  have hic := fun W e => impl_Changes (peek L x.PC) W hcode.1 hcode.2 e
  have hsc := fun W => spec_Changes (peek L x.PC) W hcode.1 hcode.2
  have hko1 := fun W => spec_KnowOf x W hx
  have hok2 := step_okc x L hx hLb
  generalize step x L = S at *
  have hko2 := fun W => spec_KnowOf S.c W hok2
  have hT := chg_len (nmL (peek L x.PC)) (mdI (peek L x.PC))
  generalize chg (nmL (peek L x.PC)) (mdI (peek L x.PC)) = T at *
  generalize peek L x.PC = op at *
  go_wp2_with fail
  refine Calls.mono (hst _ BS.out EV.out) ?_
  rintro _ w5 ⟨A5, c5, B5, d5, rfl, _, ht, hb⟩
  have CS := Aside0.mk (ht.cs htb)
  have hb := below_step (w := w4) (blw) hb; replace K := Aside0.mk (K.out.below hb); replace BS := Aside0.mk (BS.out.below hb); replace HB := Aside0.mk (below_step HB.out hb); replace EV := Aside0.mk (he.below HB.out); have hz5 := hb.size; clear hb; clear e0 e1 e2 e3 e4 e5 e6 e7 e8 e9 e10 r1 hl0 hl1; have hl0 := (K.out.at 0 rfl).lt; have hl1 := (K.out.at 1 rfl).lt; obtain ⟨e0, e1, e2, e3, e4, e5, e6, e7, e8, e9, e10⟩ := (K.out.at 0 rfl).cpu; have r1 := (K.out.at 1 rfl).one; have HB5 := hR w5
  clear ht hst
  go_upto_region 7 with (fail)
  have hb : Below w5.heap.size w5 ((w5.alloc (.cells #[.int .u8 S.c.A, .int .u8 S.c.X, .int .u8 S.c.Y, .int .u8 S.c.S, .int .u16 S.c.PC, .bool S.c.F.N, .bool S.c.F.V, .bool S.c.F.D, .bool S.c.F.I, .bool S.c.F.Z, .bool S.c.F.C] 28)).alloc (.cells #[.slice A5 S.m.length c5] 30)) := blw
  replace K : Aside0 (Many ((w5.alloc (.cells #[.int .u8 S.c.A, .int .u8 S.c.X, .int .u8 S.c.Y, .int .u8 S.c.S, .int .u16 S.c.PC, .bool S.c.F.N, .bool S.c.F.V, .bool S.c.F.D, .bool S.c.F.I, .bool S.c.F.Z, .bool S.c.F.C] 28)).alloc (.cells #[.slice A5 S.m.length c5] 30)) [(w1.heap.size, #[.int .u8 x.A, .int .u8 x.X, .int .u8 x.Y, .int .u8 x.S, .int .u16 x.PC, .bool x.F.N, .bool x.F.V, .bool x.F.D, .bool x.F.I, .bool x.F.Z, .bool x.F.C], 28), (w5.heap.size, #[.int .u8 S.c.A, .int .u8 S.c.X, .int .u8 S.c.Y, .int .u8 S.c.S, .int .u16 S.c.PC, .bool S.c.F.N, .bool S.c.F.V, .bool S.c.F.D, .bool S.c.F.I, .bool S.c.F.Z, .bool S.c.F.C], 28)]) := ⟨Many.cons ((K.out.at 0 rfl).below hb) (Many.cons ((Blk.at rfl).alloc _) (Many.nil _))⟩
  replace HB := Aside0.mk (below_step HB.out hb)
  replace CS := Aside0.mk (CS.out.below hb)
  replace EV := Aside0.mk (he.below HB.out)
  clear hb hl0 hl1 r1 e0 e1 e2 e3 e4 e5 e6 e7 e8 e9 e10 BS HB5
  generalize (w5.alloc (.cells #[.int .u8 S.c.A, .int .u8 S.c.X, .int .u8 S.c.Y, .int .u8 S.c.S, .int .u16 S.c.PC, .bool S.c.F.N, .bool S.c.F.V, .bool S.c.F.D, .bool S.c.F.I, .bool S.c.F.Z, .bool S.c.F.C] 28)).alloc (.cells #[.slice A5 S.m.length c5] 30) = w6 at *
  have HB6 := hR w6
  obtain ⟨ad, hB5, g0, g1, g2⟩ := cyc_at CS.out.c 0 (by omega) (by omega) ⟨0, 0, false⟩
  subst hB5
  rw [show S.t.getD (0 : Int).toNat ⟨0, 0, false⟩ = ⟨x.PC, op, false⟩ from f1] at g0 g1 g2
  simp [Addr.add] at g0 g1 g2
  have gl : (0 : Int) < (S.t.length : Int) := by omega
  go_wp2_with fail
  refine Calls.mono (hic _ EV.out) ?_
  rintro _ w7 ⟨rfl, hb⟩
  have g1 := cell_keep hb g1
  replace K := Aside0.mk (K.out.below hb)
  replace HB := Aside0.mk (below_step HB.out hb)
  have hz7 := hb.size
  clear hb EV CS g0 g2
  have HB7 := hR w7
  go_wp2_with fail
  refine Calls.mono (hsc _) ?_
  rintro _ w8 ⟨rfl, hb⟩
  replace K := Aside0.mk (K.out.below hb)
  replace HB := Aside0.mk (below_step HB.out hb)
  have hz8 := hb.size
  clear hb g1 HB7
  have HB8 := hR w8
  go_upto_region 10 with (fail)
  go_cut [9, 10] (fun y z wx => ∃ ga gb, y = .pointer (some ⟨ga, 0, none⟩) ∧ z = .pointer (some ⟨gb, 0, none⟩) ∧ Blk wx ga #[.int .i64 x.A, .int .i64 x.X, .int .i64 x.Y, .int .i64 x.S, .int .i64 x.PC, .int .i64 (b2i x.F.N), .int .i64 (b2i x.F.V), .int .i64 (b2i x.F.D), .int .i64 (b2i x.F.I), .int .i64 (b2i x.F.Z), .int .i64 (b2i x.F.C)] 42 ∧ Blk wx gb #[.int .i64 S.c.A, .int .i64 S.c.X, .int .i64 S.c.Y, .int .i64 S.c.S, .int .i64 S.c.PC, .int .i64 (b2i S.c.F.N), .int .i64 (b2i S.c.F.V), .int .i64 (b2i S.c.F.D), .int .i64 (b2i S.c.F.I), .int .i64 (b2i S.c.F.Z), .int .i64 (b2i S.c.F.C)] 42 ∧ Below w8.heap.size w8 wx)
  case first =>
    refine wp_mono (chgReg x S.c w w8 _ _ HB.out (K.out.at 0 rfl) (K.out.at 1 rfl) hko1 hko2 _ _ _ _ _ _ _ _ _ _ _ _ _ _ _ _ _ _ _ _ _ _ _ _ _ _ _ _ _ _ _ _ _ _ _ _ _ _ _ _ _ _ _ _ _ _ _ _ _ _ _ _ _ _ _ _ _ _ _ _ _ _ _ _ _ _ _ _ _ _ _ _ _ _ _ _ _ _ _ _ _ _ _ _ _ _ _ _ _ _ _ _ _ _ _ _ _ _ _ _ _ _ _ _ _ _ _ _ _ _ _ _ _ _ _ _ _ _ _ _ _ _ _ _ _ _ _ _ _ _ _) ?_
    rintro _ _ w' ⟨rfl, u9, u10, u52, u53, u54, u55, hgot, rfl⟩
    go_wp2_with fail
    go_meet
    exact hgot
  case rest =>
    obtain ⟨ga, gb, rfl, rfl, KA, KB, hb⟩ := hcut
    rename World => w11
    obtain ⟨a0, a1, a2, a3, a4, a5, a6, a7, a8, a9, a10⟩ := cells11 KA
    obtain ⟨b0, b1, b2, b3, b4, b5, b6, b7, b8, b9, b10⟩ := cells11 KB
    have hla := KA.lt
    have hlb := KB.lt
    replace HB := Aside0.mk (below_step HB.out hb)
    have HB11 := hR w11
    clear hb K HB8
    go_upto_region 14 with (fail)
    have hb : Below w11.heap.size w11 ((w11.alloc (.cells #[.int .i64 x.A, .int .i64 x.X, .int .i64 x.Y, .int .i64 x.S, .int .i64 (b2i x.F.N), .int .i64 (b2i x.F.V), .int .i64 (b2i x.F.D), .int .i64 (b2i x.F.I), .int .i64 (b2i x.F.Z), .int .i64 (b2i x.F.C)] 3)).alloc (.cells #[.int .i64 S.c.A, .int .i64 S.c.X, .int .i64 S.c.Y, .int .i64 S.c.S, .int .i64 (b2i S.c.F.N), .int .i64 (b2i S.c.F.V), .int .i64 (b2i S.c.F.D), .int .i64 (b2i S.c.F.I), .int .i64 (b2i S.c.F.Z), .int .i64 (b2i S.c.F.C)] 3)) := blw
    have KX : Aside0 (Blk ((w11.alloc (.cells #[.int .i64 x.A, .int .i64 x.X, .int .i64 x.Y, .int .i64 x.S, .int .i64 (b2i x.F.N), .int .i64 (b2i x.F.V), .int .i64 (b2i x.F.D), .int .i64 (b2i x.F.I), .int .i64 (b2i x.F.Z), .int .i64 (b2i x.F.C)] 3)).alloc (.cells #[.int .i64 S.c.A, .int .i64 S.c.X, .int .i64 S.c.Y, .int .i64 S.c.S, .int .i64 (b2i S.c.F.N), .int .i64 (b2i S.c.F.V), .int .i64 (b2i S.c.F.D), .int .i64 (b2i S.c.F.I), .int .i64 (b2i S.c.F.Z), .int .i64 (b2i S.c.F.C)] 3)) w11.heap.size #[.int .i64 x.A, .int .i64 x.X, .int .i64 x.Y, .int .i64 x.S, .int .i64 (b2i x.F.N), .int .i64 (b2i x.F.V), .int .i64 (b2i x.F.D), .int .i64 (b2i x.F.I), .int .i64 (b2i x.F.Z), .int .i64 (b2i x.F.C)] 3) := ⟨(Blk.at rfl).alloc _⟩
    have KY : Aside0 (Blk ((w11.alloc (.cells #[.int .i64 x.A, .int .i64 x.X, .int .i64 x.Y, .int .i64 x.S, .int .i64 (b2i x.F.N), .int .i64 (b2i x.F.V), .int .i64 (b2i x.F.D), .int .i64 (b2i x.F.I), .int .i64 (b2i x.F.Z), .int .i64 (b2i x.F.C)] 3)).alloc (.cells #[.int .i64 S.c.A, .int .i64 S.c.X, .int .i64 S.c.Y, .int .i64 S.c.S, .int .i64 (b2i S.c.F.N), .int .i64 (b2i S.c.F.V), .int .i64 (b2i S.c.F.D), .int .i64 (b2i S.c.F.I), .int .i64 (b2i S.c.F.Z), .int .i64 (b2i S.c.F.C)] 3)) (w11.heap.size + 1) #[.int .i64 S.c.A, .int .i64 S.c.X, .int .i64 S.c.Y, .int .i64 S.c.S, .int .i64 (b2i S.c.F.N), .int .i64 (b2i S.c.F.V), .int .i64 (b2i S.c.F.D), .int .i64 (b2i S.c.F.I), .int .i64 (b2i S.c.F.Z), .int .i64 (b2i S.c.F.C)] 3) := ⟨Blk.at (by simp)⟩
    replace HB := Aside0.mk (below_step HB.out hb)
    clear hb a0 a1 a2 a3 a4 a5 a6 a7 a8 a9 a10 b0 b1 b2 b3 b4 b5 b6 b7 b8 b9 b10 KA KB hla hlb HB11
    generalize (w11.alloc (.cells #[.int .i64 x.A, .int .i64 x.X, .int .i64 x.Y, .int .i64 x.S, .int .i64 (b2i x.F.N), .int .i64 (b2i x.F.V), .int .i64 (b2i x.F.D), .int .i64 (b2i x.F.I), .int .i64 (b2i x.F.Z), .int .i64 (b2i x.F.C)] 3)).alloc (.cells #[.int .i64 S.c.A, .int .i64 S.c.X, .int .i64 S.c.Y, .int .i64 S.c.S, .int .i64 (b2i S.c.F.N), .int .i64 (b2i S.c.F.V), .int .i64 (b2i S.c.F.D), .int .i64 (b2i S.c.F.I), .int .i64 (b2i S.c.F.Z), .int .i64 (b2i S.c.F.C)] 3) = w12 at *
    have hX : ∀ k : Nat, k < 10 → w12.cell? ⟨w11.heap.size, k, none⟩ = some (.int .i64 (rd (regs x) k)) := ten KX.out
    have hY : ∀ k : Nat, k < 10 → w12.cell? ⟨w11.heap.size + 1, k, none⟩ = some (.int .i64 (rd (regs S.c) k)) := ten KY.out
    have HX := Aside0.mk hX
    have HY := Aside0.mk hY
    have HK := Aside0.mk hkp
    have HB12 := hR w12
    clear hX hY KX KY hkp
    go_wp2_with fail
    refine wp_mono (chgOuter T hT x S.c _ _ w12 HX HY HK _ _ _ _ _ _ _ _ _ _ _ _ _ _ _ _ _ _ _ _ _ _ _ _ _ _ _ _ _ _ _ _ _ _ _ _ _ _ _ _ _ _ _ _ _ _ _ _ _ _ _ _ _ _ _ _ _ _ _ _ _ _ _ _ _ _ _ _ _ _ _ _ _ _ _ _ _ _ _ _ _ _ _ _ _ _ _ _ _ _ _ _ _ _ _ _ _ _ _ _ _ _ _ _ _ _ _ _ _ _ _ _ _ _ _ _ _ _ _ _ _ _ _ _ _ _ _ _) ?_
    rintro _ _ wz ⟨rfl, HZ, u2, u14, u15, u16, u98, u99, u100, u101, u102, u103, u104, u105, u106, u107, u108, u109, u110, u111, u112, u113, u114, u115, u116, u117, u118, u119, u120, u121, u122, u123, u124, u125, u126, u127, u128, u129, u130, u131, u132, rfl⟩
    go_wp2_with fail
    go_ret
    exact ⟨rfl, below_step HB.out HZ.out⟩
end Go.Proofs.YtghmeghbekkanaaGreatDoor
