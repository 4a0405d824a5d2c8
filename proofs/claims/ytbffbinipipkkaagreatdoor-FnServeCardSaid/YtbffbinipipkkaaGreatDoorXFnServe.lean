/- FnServe: an interrupt, with an RTI where it goes to, leaves all but memory as it was. For every input. -/
import Derived.Test.YtbffbinipipkkaaGreatDoorSpecT
import Derived.Test.YtbffbinipipkkaaGreatDoorStepL
import Derived.Test.YtbffbinipipkkaaGreatDoorDraw8
import Derived.Deep.DeepCutAuto
set_option linter.unusedVariables false
set_option linter.unusedSimpArgs false
namespace Go.Proofs.YtbffbinipipkkaaGreatDoor
open Go.RowKit Go.Proofs.YtbffbinipipkkaaGreatDoorW.PrintWords
theorem serve_ok (c : Cpu) (l : List Int) (nmi : Bool) (hc : c.ok) (h : ∀ i, 0 ≤ rd l i ∧ rd l i < 256) : (serve c l nmi).c.ok := by
  obtain ⟨a0, a1, x0, x1, y0, y1, s0, s1, p0, p1⟩ := hc
  unfold serve
  split
  · have hb := serveB_ok c ⟨l, []⟩ nmi ⟨a0, a1, x0, x1, y0, y1, s0, s1, p0, p1⟩ ⟨h, by simp⟩
    have hm : (serveB c ⟨l, []⟩ nmi).m = (push3 c ((Bus.rd ⟨l, []⟩ c.PC).rd c.PC) c.PC false).m := rfl
    have hb := hb.m
    rw [hm] at hb
    have w := word2_in (peek_bb hb (vec nmi)) (peek_bb hb (vec nmi + 1))
    exact ⟨a0, a1, x0, x1, y0, y1, by show 0 ≤ (c.S - 3) % 256; omega, by show (c.S - 3) % 256 < 256; omega, w.1, w.2⟩
  · exact ⟨by decide, by decide, by decide, by decide, by decide, by decide, by decide, by decide, by decide, by decide⟩
theorem serve_none (c : Cpu) (l : List Int) (nmi : Bool) (hs : ramSize l.length = false) : (serve c l nmi).t.length = 0 := by
  unfold serve
  rw [hs]
  rfl
set_option maxRecDepth 20000 in
set_option maxHeartbeats 4000000 in
theorem FnServe_walk (A : Option Addr) (l : List Int) (c : Nat) (w : World) (h : Bs w A l) (hl : l.length ≤ 9223372036854775807) (he : Env w) :
    Calls Tryz.prog 3 #[.slice A l.length c] w fun e w' => e = .returned (.bool true) ∧ Below w.heap.size w w' := by
  by_cases hbig : (1048576 : Int) < l.length
  · have HB := hR w; go_enter Tryz.func3, Tryz.ntmps3
    go_wp2_with (first | (go_at_call 10; ((with_reducible refine (laws_big _ _ _ _ (by omega)).mono ?_); rintro _ _ ⟨rfl, rfl⟩)))
    go_ret
    exact ⟨rfl, blw⟩
  have hl2 : l.length ≤ 1048576 := by omega
  have HB := hR w; go_enter Tryz.func3, Tryz.ntmps3
  go_wp2_with fail
  refine (laws_big _ _ _ _ (by omega)).mono ?_
  rintro _ _ ⟨rfl, rfl⟩
  go_wp2_with fail
  refine Calls.mono (spec_DrawServe A c l _ h hl2) ?_
  rintro _ w1 ⟨x, L, A1, c1, nmi, rfl, hx, hL, hLb, ho, hb⟩
  replace HB := Aside0.mk (below_step HB.out hb)
  have BS := Aside0.mk (ho.bs hLb)
  have hzw := HB.out.size
  clear hb ho
  have HB1 := hR w1
  go_upto_region 4 with (fail)
  have hb : Below w1.heap.size w1 ((w1.alloc (.cells #[.int .u8 x.A, .int .u8 x.X, .int .u8 x.Y, .int .u8 x.S, .int .u16 x.PC, .bool x.F.N, .bool x.F.V, .bool x.F.D, .bool x.F.I, .bool x.F.Z, .bool x.F.C] 28)).alloc (.cells #[.slice A1 L.length c1] 30)) := blw
  have K : Aside0 (Many ((w1.alloc (.cells #[.int .u8 x.A, .int .u8 x.X, .int .u8 x.Y, .int .u8 x.S, .int .u16 x.PC, .bool x.F.N, .bool x.F.V, .bool x.F.D, .bool x.F.I, .bool x.F.Z, .bool x.F.C] 28)).alloc (.cells #[.slice A1 L.length c1] 30)) [(w1.heap.size, #[.int .u8 x.A, .int .u8 x.X, .int .u8 x.Y, .int .u8 x.S, .int .u16 x.PC, .bool x.F.N, .bool x.F.V, .bool x.F.D, .bool x.F.I, .bool x.F.Z, .bool x.F.C], 28), (w1.heap.size + 1, #[.slice A1 L.length c1], 30)]) := ⟨Many.cons ((Blk.at rfl).alloc _) (Many.cons (Blk.at (by simp)) (Many.nil _))⟩
  replace HB := Aside0.mk (below_step HB.out hb)
  replace BS := Aside0.mk (BS.out.below hb)
  have hz2 : ((w1.alloc (.cells #[.int .u8 x.A, .int .u8 x.X, .int .u8 x.Y, .int .u8 x.S, .int .u16 x.PC, .bool x.F.N, .bool x.F.V, .bool x.F.D, .bool x.F.I, .bool x.F.Z, .bool x.F.C] 28)).alloc (.cells #[.slice A1 L.length c1] 30)).heap.size = w1.heap.size + 1 + 1 := by simp
  clear hb
  generalize (w1.alloc (.cells #[.int .u8 x.A, .int .u8 x.X, .int .u8 x.Y, .int .u8 x.S, .int .u16 x.PC, .bool x.F.N, .bool x.F.V, .bool x.F.D, .bool x.F.I, .bool x.F.Z, .bool x.F.C] 28)).alloc (.cells #[.slice A1 L.length c1] 30) = w2 at *
  have HB2 := hR w2
  have hSok := serve_ok x L nmi hx hLb
  have hSb := serve_mb x L nmi hx hLb
  have hSn := serve_none x L nmi
  have hS7 := serve_seven x L nmi
  have hSr := serve_rti x L nmi hx hLb
  have hi := fun W h => impl_Serve x A1 c1 L nmi W hx h
  have hsp := fun W h => spec_Serve x A1 c1 L nmi W hx h
  generalize serve x L nmi = S at *
  obtain ⟨e0, e1, e2, e3, e4, e5, e6, e7, e8, e9, e10⟩ := (K.out.at 0 rfl).cpu
  have r1 := (K.out.at 1 rfl).one
  go_wp2_with fail
  refine Calls.mono (hi _ BS.out) ?_
  rintro _ w3 ⟨A3, c3, B3, d3, rfl, ho, _, hb⟩
  have BS3 := Aside0.mk (ho.bs hSb)
  have hb := below_step (w := w2) (blw) hb; replace K := Aside0.mk (K.out.below hb); replace HB := Aside0.mk (below_step HB.out hb); have hz3 := hb.size; have HB3 := hR w3
  replace BS := Aside0.mk (BS.out.below hb)
  clear hb ho e0 e1 e2 e3 e4 e5 e6 e7 e8 e9 e10 r1
  go_upto_region 5 with (fail)
  have hb : Below w3.heap.size w3 ((w3.alloc (.cells #[.int .u8 S.c.A, .int .u8 S.c.X, .int .u8 S.c.Y, .int .u8 S.c.S, .int .u16 S.c.PC, .bool S.c.F.N, .bool S.c.F.V, .bool S.c.F.D, .bool S.c.F.I, .bool S.c.F.Z, .bool S.c.F.C] 28)).alloc (.cells #[.slice A3 S.m.length c3] 30)) := blw
  replace K : Aside0 (Many ((w3.alloc (.cells #[.int .u8 S.c.A, .int .u8 S.c.X, .int .u8 S.c.Y, .int .u8 S.c.S, .int .u16 S.c.PC, .bool S.c.F.N, .bool S.c.F.V, .bool S.c.F.D, .bool S.c.F.I, .bool S.c.F.Z, .bool S.c.F.C] 28)).alloc (.cells #[.slice A3 S.m.length c3] 30)) [(w3.heap.size, #[.int .u8 S.c.A, .int .u8 S.c.X, .int .u8 S.c.Y, .int .u8 S.c.S, .int .u16 S.c.PC, .bool S.c.F.N, .bool S.c.F.V, .bool S.c.F.D, .bool S.c.F.I, .bool S.c.F.Z, .bool S.c.F.C], 28), (w3.heap.size + 1, #[.slice A3 S.m.length c3], 30), (w1.heap.size, #[.int .u8 x.A, .int .u8 x.X, .int .u8 x.Y, .int .u8 x.S, .int .u16 x.PC, .bool x.F.N, .bool x.F.V, .bool x.F.D, .bool x.F.I, .bool x.F.Z, .bool x.F.C], 28), (w1.heap.size + 1, #[.slice A1 L.length c1], 30)]) := ⟨Many.cons ((Blk.at rfl).alloc _) (Many.cons (Blk.at (by simp)) (K.out.below hb))⟩
  replace HB := Aside0.mk (below_step HB.out hb)
  replace BS := Aside0.mk (BS.out.below hb)
  replace BS3 := Aside0.mk (BS3.out.below hb)
  have hz4 : ((w3.alloc (.cells #[.int .u8 S.c.A, .int .u8 S.c.X, .int .u8 S.c.Y, .int .u8 S.c.S, .int .u16 S.c.PC, .bool S.c.F.N, .bool S.c.F.V, .bool S.c.F.D, .bool S.c.F.I, .bool S.c.F.Z, .bool S.c.F.C] 28)).alloc (.cells #[.slice A3 S.m.length c3] 30)).heap.size = w3.heap.size + 1 + 1 := by simp
  clear hb
  generalize (w3.alloc (.cells #[.int .u8 S.c.A, .int .u8 S.c.X, .int .u8 S.c.Y, .int .u8 S.c.S, .int .u16 S.c.PC, .bool S.c.F.N, .bool S.c.F.V, .bool S.c.F.D, .bool S.c.F.I, .bool S.c.F.Z, .bool S.c.F.C] 28)).alloc (.cells #[.slice A3 S.m.length c3] 30) = w4 at *
  have HB4 := hR w4
  obtain ⟨e0, e1, e2, e3, e4, e5, e6, e7, e8, e9, e10⟩ := (K.out.at 2 rfl).cpu
  have r1 := (K.out.at 3 rfl).one
  go_wp2_with fail
  refine Calls.mono (hsp _ BS.out) ?_
  rintro _ w5 ⟨A5, c5, B5, d5, rfl, _, _, hb⟩
  have hb := below_step (w := w4) (blw) hb; replace K := Aside0.mk (K.out.below hb); replace HB := Aside0.mk (below_step HB.out hb); have hz5 := hb.size; have HB5 := hR w5
  replace BS3 := Aside0.mk (BS3.out.below hb)
  clear hb e0 e1 e2 e3 e4 e5 e6 e7 e8 e9 e10 r1 BS
  go_upto_region 6 with (fail)
  have hb : Below w5.heap.size w5 ((w5.alloc (.cells #[.int .u8 S.c.A, .int .u8 S.c.X, .int .u8 S.c.Y, .int .u8 S.c.S, .int .u16 S.c.PC, .bool S.c.F.N, .bool S.c.F.V, .bool S.c.F.D, .bool S.c.F.I, .bool S.c.F.Z, .bool S.c.F.C] 28)).alloc (.cells #[.slice A5 S.m.length c5] 30)) := blw
  replace K : Aside0 (Many ((w5.alloc (.cells #[.int .u8 S.c.A, .int .u8 S.c.X, .int .u8 S.c.Y, .int .u8 S.c.S, .int .u16 S.c.PC, .bool S.c.F.N, .bool S.c.F.V, .bool S.c.F.D, .bool S.c.F.I, .bool S.c.F.Z, .bool S.c.F.C] 28)).alloc (.cells #[.slice A5 S.m.length c5] 30)) [(w5.heap.size, #[.int .u8 S.c.A, .int .u8 S.c.X, .int .u8 S.c.Y, .int .u8 S.c.S, .int .u16 S.c.PC, .bool S.c.F.N, .bool S.c.F.V, .bool S.c.F.D, .bool S.c.F.I, .bool S.c.F.Z, .bool S.c.F.C], 28), (w3.heap.size, #[.int .u8 S.c.A, .int .u8 S.c.X, .int .u8 S.c.Y, .int .u8 S.c.S, .int .u16 S.c.PC, .bool S.c.F.N, .bool S.c.F.V, .bool S.c.F.D, .bool S.c.F.I, .bool S.c.F.Z, .bool S.c.F.C], 28), (w3.heap.size + 1, #[.slice A3 S.m.length c3], 30), (w1.heap.size, #[.int .u8 x.A, .int .u8 x.X, .int .u8 x.Y, .int .u8 x.S, .int .u16 x.PC, .bool x.F.N, .bool x.F.V, .bool x.F.D, .bool x.F.I, .bool x.F.Z, .bool x.F.C], 28), (w1.heap.size + 1, #[.slice A1 L.length c1], 30)]) := ⟨Many.cons ((Blk.at rfl).alloc _) (K.out.below hb)⟩
  replace HB := Aside0.mk (below_step HB.out hb)
  replace BS3 := Aside0.mk (BS3.out.below hb)
  have hz6 : ((w5.alloc (.cells #[.int .u8 S.c.A, .int .u8 S.c.X, .int .u8 S.c.Y, .int .u8 S.c.S, .int .u16 S.c.PC, .bool S.c.F.N, .bool S.c.F.V, .bool S.c.F.D, .bool S.c.F.I, .bool S.c.F.Z, .bool S.c.F.C] 28)).alloc (.cells #[.slice A5 S.m.length c5] 30)).heap.size = w5.heap.size + 1 + 1 := by simp
  clear hb
  generalize (w5.alloc (.cells #[.int .u8 S.c.A, .int .u8 S.c.X, .int .u8 S.c.Y, .int .u8 S.c.S, .int .u16 S.c.PC, .bool S.c.F.N, .bool S.c.F.V, .bool S.c.F.D, .bool S.c.F.I, .bool S.c.F.Z, .bool S.c.F.C] 28)).alloc (.cells #[.slice A5 S.m.length c5] 30) = w6 at *
  have HB6 := hR w6
  obtain ⟨e0, e1, e2, e3, e4, e5, e6, e7, e8, e9, e10⟩ := (K.out.at 1 rfl).cpu
  obtain ⟨y0, y1, y2, y3, y4, y5, y6, y7, y8, y9, y10⟩ := (K.out.at 0 rfl).cpu
  have r1 := (K.out.at 4 rfl).one
  obtain ⟨q, hq⟩ : ∃ q, ramSize L.length = q := ⟨_, rfl⟩
  cases q
  · have hS0 := hSn hq
    go_wp2_with fail
    refine Calls.mono (spec_RamOk _ _ _ _) ?_
    rintro _ w7 ⟨rfl, hb⟩
    have hb := below_step (w := w6) (blw) hb; replace K := Aside0.mk (K.out.below hb); replace HB := Aside0.mk (below_step HB.out hb); have hz7 := hb.size; have HB7 := hR w7
    go_wp2_with fail
    go_ret
    exact ⟨rfl, blw⟩
  obtain ⟨hS7a, hS7b⟩ := hS7 hq
  have hrs := ramSize_le hq
  obtain ⟨_, _, _, _, _, _, _, _, sp0, sp1⟩ := id hSok
  obtain ⟨_, _, _, _, _, _, xs0, xs1, _, _⟩ := id hx
  go_wp2_with fail
  refine Calls.mono (spec_RamOk _ _ _ _) ?_
  rintro _ w7 ⟨rfl, hb⟩
  have hb := below_step (w := w6) (blw) hb; replace K := Aside0.mk (K.out.below hb); replace HB := Aside0.mk (below_step HB.out hb); have hz7 := hb.size; have HB7 := hR w7
  replace BS3 := Aside0.mk (BS3.out.below hb)
  clear hb e0 e1 e2 e3 e4 e5 e6 e7 e8 e9 e10 y0 y1 y2 y3 y4 y5 y6 y7 y8 y9 y10 r1
  obtain ⟨e0, e1, e2, e3, e4, e5, e6, e7, e8, e9, e10⟩ := (K.out.at 1 rfl).cpu
  obtain ⟨y0, y1, y2, y3, y4, y5, y6, y7, y8, y9, y10⟩ := (K.out.at 3 rfl).cpu
  have r2 := (K.out.at 2 rfl).one
  have hand := i64_and255
  have hm0 : ¬ (S.m.length : Int) = 0 := by omega
  have hm1 : (0 : Int) < S.m.length := by omega
  have hm2 : (S.m.length : Int) ≤ 4096 := by omega
  have HS7 := Aside0.mk hS7b
  clear hS7b
  have SR := Aside0.mk hSr
  clear hSr hS7 hSn hsp hi
  go_wp2_with fail
  go_loop [13] (fun v => ∃ k : Nat, k ≤ 3 ∧ v = .int .i64 k ∧ Aside0 (∀ j : Nat, j < k → S.c.PC % S.m.length ≠ stk (x.S - j) % S.m.length)) (fun v => 3 - (intOf v).toNat)
  case atStart => exact ⟨0, by omega, rfl, ⟨fun j hj => by omega⟩⟩
  case round =>
    obtain ⟨k, hk, rfl, HA⟩ := hrel
    by_cases hlt : k < 3
    · go_wp2_with fail
      all_goals rename_i hne
      all_goals first | (go_ret; exact ⟨rfl, blw⟩) | skip
      refine ⟨⟨k + 1, by omega, by go_num, ⟨fun j hj => ?_⟩⟩, by simp [intOf]; omega⟩
      rcases Nat.lt_or_ge j k with q | q
      · exact HA.out j q
      · have ej : j = k := by omega
        subst ej
        exact beq_eq_false_iff_ne.1 hne
    · have ek : k = 3 := by omega
      subst ek
      have a0 := HA.out 0 (by omega)
      have a1 := HA.out 1 (by omega)
      have a2 := HA.out 2 (by omega)
      rw [HS7.out] at a0 a1 a2
      have hT := SR.out hq (by simpa using a0) (by simpa using a1) (by simpa using a2)
      have hqs : ramSize S.m.length = true := by rw [HS7.out]; exact hq
      have hF := fill_1 S.m S.c.PC 64 hqs sp0 sp1
      rw [HS7.out] at hF
      rw [← hF] at hT
      have hPo := fun W h => impl_Poke A3 c3 S.m S.c.PC 64 W h sp0 sp1 (by omega) (by omega)
      have hFb := fill_rd S.c.PC [64] S.m hSb (rd_one (by omega) (by omega))
      have hst := fun W A d h e => impl_Step S.c A d (fill S.m S.c.PC [64]) W hSok h e
      clear hF HA SR a0 a1 a2
      generalize fill S.m S.c.PC [64] = F at *
      go_wp2_with fail
      refine Calls.mono (hPo _ BS3.out) ?_
      rintro _ w8 ⟨A8, c8, rfl, ho, hb⟩
      have OF := Aside0.mk (OwnX.of ho)
      have hb := below_step (w := w7) (blw) hb; replace K := Aside0.mk (K.out.below hb); replace HB := Aside0.mk (below_step HB.out hb); have hz8 := hb.size; have HB8 := hR w8
      clear hb ho e0 e1 e2 e3 e4 e5 e6 e7 e8 e9 e10 y0 y1 y2 y3 y4 y5 y6 y7 y8 y9 y10 r2 BS3 hPo
      have f2 := (K.out.at 2 rfl).free
      have r2 := (K.out.at 2 rfl).one
      have hl1 := (K.out.at 1 rfl).lt
      have hl3 := (K.out.at 3 rfl).lt
      go_upto_region 17 with (fail)
      replace K : Aside0 (Many (w8.setCell ⟨w3.heap.size + 1, 0, none⟩ (.slice A8 F.length c8)) [(w3.heap.size, #[.int .u8 S.c.A, .int .u8 S.c.X, .int .u8 S.c.Y, .int .u8 S.c.S, .int .u16 S.c.PC, .bool S.c.F.N, .bool S.c.F.V, .bool S.c.F.D, .bool S.c.F.I, .bool S.c.F.Z, .bool S.c.F.C], 28), (w3.heap.size + 1, #[.slice A8 F.length c8], 30), (w1.heap.size, #[.int .u8 x.A, .int .u8 x.X, .int .u8 x.Y, .int .u8 x.S, .int .u16 x.PC, .bool x.F.N, .bool x.F.V, .bool x.F.D, .bool x.F.I, .bool x.F.Z, .bool x.F.C], 28)]) := ⟨Many.cons (Blk.far (K.out.at 1 rfl) (by omega)) (Many.cons (Blk.put1 (K.out.at 2 rfl)) (Many.cons (Blk.far (K.out.at 3 rfl) (by omega)) (Many.nil _)))⟩
      replace OF : Aside0 (OwnX (w8.setCell ⟨w3.heap.size + 1, 0, none⟩ (.slice A8 F.length c8)) w7.heap.size w8.heap.size (.slice A8 F.length c8) F) := ⟨OF.out.step (fun k h1 h2 => (Same.refl _ _).set (by omega))⟩
      replace HB : Aside0 (Below w.heap.size w (w8.setCell ⟨w3.heap.size + 1, 0, none⟩ (.slice A8 F.length c8))) := ⟨blw⟩
      clear f2 r2 hl1 hl3
      generalize w8.setCell ⟨w3.heap.size + 1, 0, none⟩ (.slice A8 F.length c8) = w9 at *
      have BF := Aside0.mk (OF.out.b.bs hFb)
      have HB9 := hR w9
      obtain ⟨e0, e1, e2, e3, e4, e5, e6, e7, e8, e9, e10⟩ := (K.out.at 0 rfl).cpu
      have r2 := (K.out.at 1 rfl).one
      go_wp2_with fail
      refine Calls.mono (hst _ A8 c8 BF.out (he.below HB.out)) ?_
      rintro _ w10 ⟨A10, c10, B10, d10, rfl, _, _, hb⟩
      rw [hT]
      have hb := below_step (w := w9) (blw) hb; replace K := Aside0.mk (K.out.below hb); replace HB := Aside0.mk (below_step HB.out hb); have hz10 := hb.size; have HB10 := hR w10
      clear hb e0 e1 e2 e3 e4 e5 e6 e7 e8 e9 e10 r2
      obtain ⟨e0, e1, e2, e3, e4, e5, e6, e7, e8, e9, e10⟩ := (K.out.at 2 rfl).cpu
      have hl2 := (K.out.at 2 rfl).lt
      go_wp2_with fail
      go_ret
      exact ⟨rfl, blw⟩
end Go.Proofs.YtbffbinipipkkaaGreatDoor
