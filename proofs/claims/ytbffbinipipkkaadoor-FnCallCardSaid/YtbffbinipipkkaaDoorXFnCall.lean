/- FnCall: a JSR, with an RTS where it goes to, leaves all but memory as it was, and goes on behind it. For every input. -/
import Derived.Test.YtbffbinipipkkaaDoorGI
import Derived.Test.YtbffbinipipkkaaDoorPushL
import Derived.Test.YtbffbinipipkkaaDoorDraw8
import Derived.Deep.DeepCutAuto
set_option linter.unusedVariables false
set_option linter.unusedSimpArgs false
namespace Go.Proofs.YtbffbinipipkkaaDoor
open Go.RowKit Go.Proofs.YtbffbinipipkkaaDoorW.PrintWords
theorem Blk.setPC {w : World} {g : Nat} {t : TypeId} {c : Cpu} (h : Blk w g #[.int .u8 c.A, .int .u8 c.X, .int .u8 c.Y, .int .u8 c.S, .int .u16 c.PC, .bool c.F.N, .bool c.F.V, .bool c.F.D, .bool c.F.I, .bool c.F.Z, .bool c.F.C] t) (v : Int) : Blk (w.setCell ⟨g, 4, none⟩ (.int .u16 v)) g #[.int .u8 ({ c with PC := v } : Cpu).A, .int .u8 ({ c with PC := v } : Cpu).X, .int .u8 ({ c with PC := v } : Cpu).Y, .int .u8 ({ c with PC := v } : Cpu).S, .int .u16 ({ c with PC := v } : Cpu).PC, .bool ({ c with PC := v } : Cpu).F.N, .bool ({ c with PC := v } : Cpu).F.V, .bool ({ c with PC := v } : Cpu).F.D, .bool ({ c with PC := v } : Cpu).F.I, .bool ({ c with PC := v } : Cpu).F.Z, .bool ({ c with PC := v } : Cpu).F.C] t := blk_set h 4 _
theorem bs_blk {W : World} {g : Nat} {L : List Int} (h : Blk W g (L.map (Value.int .u8)).toArray 5) (hm : L.length ≤ 1048576) (hb : ∀ i, 0 ≤ rd L i ∧ rd L i < 256) : Bs W (some ⟨g, 0, none⟩) L := by
  refine ⟨Kd.C_of_reads (d := (0 : Int)) (h1 := fun _ => rfl) ⟨rfl, by omega, fun _ => ⟨_, rfl, fun j hj => ?_⟩⟩, hb⟩
  have ea : (⟨g, 0, none⟩ : Addr).add j = ⟨g, j, none⟩ := by unfold Addr.add; split <;> simp_all
  rw [ea, h.cell j]
  simp [hj]
theorem rd_three {a b c : Int} (h0 : 0 ≤ a ∧ a < 256) (h1 : 0 ≤ b ∧ b < 256) (h2 : 0 ≤ c ∧ c < 256) (i : Int) : 0 ≤ rd [a, b, c] i ∧ rd [a, b, c] i < 256 := by
  refine rd_lit2 _ (fun x hx => ?_) i
  simp at hx
  rcases hx with rfl | rfl | rfl
  · exact h0
  · exact h1
  · exact h2
set_option maxRecDepth 20000 in
set_option maxHeartbeats 4000000 in
theorem FnCall_walk (A : Option Addr) (l : List Int) (c : Nat) (w : World) (h : Bs w A l) (hl : l.length ≤ 9223372036854775807) (he : Env w) :
    Calls Tryd.prog 4 #[.slice A l.length c] w fun e w' => e = .returned (.bool true) ∧ Below w.heap.size w w' := by
  by_cases hbig : (1048576 : Int) < l.length
  · have HB := hR w; go_enter Tryd.func4, Tryd.ntmps4
    go_wp2_with (first | (go_at_call 6; ((with_reducible refine (laws_big _ _ _ _ (by omega)).mono ?_); rintro _ _ ⟨rfl, rfl⟩)))
    go_ret
    exact ⟨rfl, blw⟩
  have hl2 : l.length ≤ 1048576 := by omega
  have HB := hR w; go_enter Tryd.func4, Tryd.ntmps4
  go_wp2_with fail
  refine (laws_big _ _ _ _ (by omega)).mono ?_
  rintro _ _ ⟨rfl, rfl⟩
  go_wp2_with fail
  refine Calls.mono (spec_DrawStep A c l _ h hl2) ?_
  rintro _ w1 ⟨x, L, A1, c1, rfl, hx, hL, hLb, ho, hb⟩
  replace HB := Aside0.mk (below_step HB.out hb)
  have BS := Aside0.mk (ho.bs hLb)
  have OS := Aside0.mk (OwnX.of ho)
  have hzw := HB.out.size
  clear hb ho
  have HB1 := hR w1
  go_upto_region 4 with (fail)
  have hb : Below w1.heap.size w1 ((w1.alloc (.cells #[.int .u8 x.A, .int .u8 x.X, .int .u8 x.Y, .int .u8 x.S, .int .u16 x.PC, .bool x.F.N, .bool x.F.V, .bool x.F.D, .bool x.F.I, .bool x.F.Z, .bool x.F.C] 28)).alloc (.cells #[.slice A1 L.length c1] 30)) := blw
  have K : Aside0 (Many ((w1.alloc (.cells #[.int .u8 x.A, .int .u8 x.X, .int .u8 x.Y, .int .u8 x.S, .int .u16 x.PC, .bool x.F.N, .bool x.F.V, .bool x.F.D, .bool x.F.I, .bool x.F.Z, .bool x.F.C] 28)).alloc (.cells #[.slice A1 L.length c1] 30)) [(w1.heap.size, #[.int .u8 x.A, .int .u8 x.X, .int .u8 x.Y, .int .u8 x.S, .int .u16 x.PC, .bool x.F.N, .bool x.F.V, .bool x.F.D, .bool x.F.I, .bool x.F.Z, .bool x.F.C], 28), (w1.heap.size + 1, #[.slice A1 L.length c1], 30)]) := ⟨Many.cons ((Blk.at rfl).alloc _) (Many.cons (Blk.at (by simp)) (Many.nil _))⟩
  replace HB := Aside0.mk (below_step HB.out hb)
  replace BS := Aside0.mk (BS.out.below hb)
  replace OS := Aside0.mk (OS.out.below hb)
  have hz2 : ((w1.alloc (.cells #[.int .u8 x.A, .int .u8 x.X, .int .u8 x.Y, .int .u8 x.S, .int .u16 x.PC, .bool x.F.N, .bool x.F.V, .bool x.F.D, .bool x.F.I, .bool x.F.Z, .bool x.F.C] 28)).alloc (.cells #[.slice A1 L.length c1] 30)).heap.size = w1.heap.size + 1 + 1 := by simp
  clear hb
  generalize (w1.alloc (.cells #[.int .u8 x.A, .int .u8 x.X, .int .u8 x.Y, .int .u8 x.S, .int .u16 x.PC, .bool x.F.N, .bool x.F.V, .bool x.F.D, .bool x.F.I, .bool x.F.Z, .bool x.F.C] 28)).alloc (.cells #[.slice A1 L.length c1] 30) = w2 at *
  have HB2 := hR w2
  obtain ⟨_, _, _, _, _, _, xs0, xs1, _, _⟩ := id hx
  obtain ⟨e0, e1, e2, e3, e4, e5, e6, e7, e8, e9, e10⟩ := (K.out.at 0 rfl).cpu
  have r1 := (K.out.at 1 rfl).one
  obtain ⟨q, hq⟩ : ∃ q, ramSize L.length = q := ⟨_, rfl⟩
  cases q
  · go_wp2_with fail
    refine Calls.mono (spec_RamOk _ _ _ _) ?_
    rintro _ w3 ⟨rfl, hb⟩
    have hb := below_step (w := w2) (blw) hb; replace K := Aside0.mk (K.out.below hb); replace HB := Aside0.mk (below_step HB.out hb); have hz3 := hb.size; have HB3 := hR w3
    go_wp2_with fail
    go_ret
    exact ⟨rfl, blw⟩
  go_wp2_with fail
  refine Calls.mono (spec_RamOk _ _ _ _) ?_
  rintro _ w3 ⟨rfl, hb⟩
  have hb := below_step (w := w2) (blw) hb; replace K := Aside0.mk (K.out.below hb); replace HB := Aside0.mk (below_step HB.out hb); have hz3 := hb.size; have HB3 := hR w3
  replace BS := Aside0.mk (BS.out.below hb)
  replace OS := Aside0.mk (OS.out.below hb)
  clear hb e0 e1 e2 e3 e4 e5 e6 e7 e8 e9 e10 r1
  have r1 := (K.out.at 1 rfl).one
  by_cases hbg : L.length < 1024
  · go_wp2_with fail
    go_ret
    exact ⟨rfl, blw⟩
  have hbig2 : 1024 ≤ L.length := by omega
  have f0 := (K.out.at 0 rfl).free
  obtain ⟨e0, e1, e2, e3, e4, e5, e6, e7, e8, e9, e10⟩ := (K.out.at 0 rfl).cpu
  go_upto_region 7 with (fail)
  obtain ⟨y, hyx⟩ : ∃ y : Cpu, y = { x with PC := 700 } := ⟨_, rfl⟩
  have hyok : y.ok := by
    obtain ⟨a0, a1, b0, b1, d0, d1, s0, s1, _, _⟩ := hx
    rw [hyx]
    exact ⟨a0, a1, b0, b1, d0, d1, s0, s1, show (0 : Int) ≤ 700 by decide, show (700 : Int) < 65536 by decide⟩
  have hyp : y.PC = 700 := by rw [hyx]
  have hyS : 0 ≤ y.S ∧ y.S < 256 := by rw [hyx]; exact ⟨xs0, xs1⟩
  have Kx : Blk (w3.setCell ⟨w1.heap.size, 4, none⟩ (.int .u16 700)) w1.heap.size #[.int .u8 y.A, .int .u8 y.X, .int .u8 y.Y, .int .u8 y.S, .int .u16 y.PC, .bool y.F.N, .bool y.F.V, .bool y.F.D, .bool y.F.I, .bool y.F.Z, .bool y.F.C] 28 := by rw [hyx]; exact (K.out.at 0 rfl).setPC 700
  replace K : Aside0 (Many (w3.setCell ⟨w1.heap.size, 4, none⟩ (.int .u16 700)) [(w1.heap.size, #[.int .u8 y.A, .int .u8 y.X, .int .u8 y.Y, .int .u8 y.S, .int .u16 y.PC, .bool y.F.N, .bool y.F.V, .bool y.F.D, .bool y.F.I, .bool y.F.Z, .bool y.F.C], 28), (w1.heap.size + 1, #[.slice A1 L.length c1], 30)]) := ⟨Many.cons Kx (Many.cons (Blk.far (K.out.at 1 rfl) (by omega)) (Many.nil _))⟩
  replace HB : Aside0 (Below w.heap.size w (w3.setCell ⟨w1.heap.size, 4, none⟩ (.int .u16 700))) := ⟨blw⟩
  replace BS : Aside0 (Bs (w3.setCell ⟨w1.heap.size, 4, none⟩ (.int .u16 700)) A1 L) := ⟨(OS.out.step (fun k h1 h2 => (Same.refl _ _).set (by omega))).b.bs hLb⟩
  have hz3b : (w3.setCell ⟨w1.heap.size, 4, none⟩ (.int .u16 700)).heap.size = w3.heap.size := by simp
  clear hyx Kx f0 r1 e0 e1 e2 e3 e4 e5 e6 e7 e8 e9 e10 OS
  generalize w3.setCell ⟨w1.heap.size, 4, none⟩ (.int .u16 700) = w4 at *
  have hz4a : w3.heap.size ≤ w4.heap.size := by omega
  clear hz3b
  have hq0 := atF_b h 2
  have hand := i64_and255
  have HB4 := hR w4
  have r1 := (K.out.at 1 rfl).one
  have hl1 := (K.out.at 1 rfl).lt
  go_wp2_with fail
  refine Calls.mono (laws_at A c l 2 _ (h.below (blw)) hl2 (by omega) (by omega)) ?_
  rintro _ _ ⟨rfl, rfl⟩
  have hu1 : IntKind.u8.wrap ((900 + atF l 2 % 100) % 256) = (900 + atF l 2 % 100) % 256 := by simp [IntKind.wrap, IntKind.bits, IntKind.signed]
  have hu3 : IntKind.u16.wrap (900 + atF l 2 % 100) = 900 + atF l 2 % 100 := by rw [IntKind.wrap_u16]; omega
  go_wp2_with fail
  generalize hTe : 900 + atF l 2 % 100 = T at *
  have t0 : 900 ≤ T := by omega
  have t1 : T < 1000 := by omega
  have hlit := rd_three (a := 32) (b := T % 256) (c := T / 256) (by omega) (by omega) (by omega)
  have hF1b := fill_rd 700 [32, T % 256, T / 256] L hLb hlit
  have hRb := fill_rd T [96] (fill L 700 [32, T % 256, T / 256]) hF1b (rd_one (by omega) (by omega))
  have hcb := call_back y L T hq hbig2 hyok hyp t0 t1 _ rfl
  clear hyp
  refine Calls.mono (impl_Fill A1 c1 L 700 _ 3 [32, T % 256, T / 256] _ (BS.out.below (blw)) (bs_blk (g := w4.heap.size) (Blk.at rfl) (by simp) hlit) (by omega) (by omega)) ?_
  rintro _ w5 ⟨A5, c5, rfl, ho, hb⟩
  generalize fill L 700 [32, T % 256, T / 256] = F1 at *
  have OF := Aside0.mk (OwnX.of ho)
  have hb := below_step (w := w4) (blw) hb; replace K := Aside0.mk (K.out.below hb); replace HB := Aside0.mk (below_step HB.out hb); have hz5 := hb.size; have HB5 := hR w5
  clear hb ho r1 hl1 BS
  have r1 := (K.out.at 1 rfl).one
  have f1 := (K.out.at 1 rfl).free
  have hlo : w4.heap.size ≤ (w4.alloc (.cells #[.int .u8 32, .int .u8 (T % 256), .int .u8 (T / 256)] 5)).heap.size := by simp
  go_upto_region 9 with (fail)
  replace K : Aside0 (Many (w5.setCell ⟨w1.heap.size + 1, 0, none⟩ (.slice A5 F1.length c5)) [(w1.heap.size, #[.int .u8 y.A, .int .u8 y.X, .int .u8 y.Y, .int .u8 y.S, .int .u16 y.PC, .bool y.F.N, .bool y.F.V, .bool y.F.D, .bool y.F.I, .bool y.F.Z, .bool y.F.C], 28), (w1.heap.size + 1, #[.slice A5 F1.length c5], 30)]) := ⟨Many.cons (Blk.far (K.out.at 0 rfl) (by omega)) (Many.cons (Blk.put1 (K.out.at 1 rfl)) (Many.nil _))⟩
  replace HB : Aside0 (Below w.heap.size w (w5.setCell ⟨w1.heap.size + 1, 0, none⟩ (.slice A5 F1.length c5))) := ⟨blw⟩
  have BF : Aside0 (Bs (w5.setCell ⟨w1.heap.size + 1, 0, none⟩ (.slice A5 F1.length c5)) A5 F1) := ⟨(OF.out.step (fun k h1 h2 => (Same.refl _ _).set (by omega))).b.bs hF1b⟩
  have hz6 : w5.heap.size ≤ (w5.setCell ⟨w1.heap.size + 1, 0, none⟩ (.slice A5 F1.length c5)).heap.size := by simp
  clear r1 f1 OF
  generalize w5.setCell ⟨w1.heap.size + 1, 0, none⟩ (.slice A5 F1.length c5) = w6 at *
  have HB6 := hR w6
  have r1 := (K.out.at 1 rfl).one
  have hl1 := (K.out.at 1 rfl).lt
  go_wp2_with fail
  refine Calls.mono (impl_Poke A5 c5 F1 T 96 _ (BF.out.below (blw)) (by omega) (by omega) (by omega) (by omega)) ?_
  rintro _ w7 ⟨A7, c7, rfl, ho, hb⟩
  generalize fill F1 T [96] = R at *
  have OF := Aside0.mk (OwnX.of ho)
  have hb := below_step (w := w6) (blw) hb; replace K := Aside0.mk (K.out.below hb); replace HB := Aside0.mk (below_step HB.out hb); have hz7 := hb.size; have HB7 := hR w7
  clear hb ho r1 hl1 BF
  have r1 := (K.out.at 1 rfl).one
  have f1 := (K.out.at 1 rfl).free
  go_upto_region 10 with (fail)
  replace K : Aside0 (Many (w7.setCell ⟨w1.heap.size + 1, 0, none⟩ (.slice A7 R.length c7)) [(w1.heap.size, #[.int .u8 y.A, .int .u8 y.X, .int .u8 y.Y, .int .u8 y.S, .int .u16 y.PC, .bool y.F.N, .bool y.F.V, .bool y.F.D, .bool y.F.I, .bool y.F.Z, .bool y.F.C], 28), (w1.heap.size + 1, #[.slice A7 R.length c7], 30)]) := ⟨Many.cons (Blk.far (K.out.at 0 rfl) (by omega)) (Many.cons (Blk.put1 (K.out.at 1 rfl)) (Many.nil _))⟩
  replace HB : Aside0 (Below w.heap.size w (w7.setCell ⟨w1.heap.size + 1, 0, none⟩ (.slice A7 R.length c7))) := ⟨blw⟩
  have BF : Aside0 (Bs (w7.setCell ⟨w1.heap.size + 1, 0, none⟩ (.slice A7 R.length c7)) A7 R) := ⟨(OF.out.step (fun k h1 h2 => (Same.refl _ _).set (by omega))).b.bs hRb⟩
  have hz8 : w7.heap.size ≤ (w7.setCell ⟨w1.heap.size + 1, 0, none⟩ (.slice A7 R.length c7)).heap.size := by simp
  clear r1 f1 OF
  generalize w7.setCell ⟨w1.heap.size + 1, 0, none⟩ (.slice A7 R.length c7) = w8 at *
  have HB8 := hR w8
  have r1 := (K.out.at 1 rfl).one
  obtain ⟨e0, e1, e2, e3, e4, e5, e6, e7, e8, e9, e10⟩ := (K.out.at 0 rfl).cpu
  have hi1 := fun W h e => impl_Step y A7 c7 R W hyok h e
  have hSb := step_mb y R hyok hRb
  obtain ⟨hc1, hc2, hc3⟩ := hcb
  have hSok : (step y R).c.ok := by
    rw [hc1]
    obtain ⟨a0, a1, b0, b1, d0, d1, s0, s1, _, _⟩ := hyok
    exact ⟨a0, a1, b0, b1, d0, d1, show 0 ≤ (y.S - 2) % 256 by omega, show (y.S - 2) % 256 < 256 by omega, show 0 ≤ T by omega, show T < 65536 by omega⟩
  generalize step y R = S at *
  have HC1 := Aside0.mk hc1
  clear hc1
  go_wp2_with fail
  refine Calls.mono (hi1 _ BF.out (he.below HB.out)) ?_
  rintro _ w9 ⟨A9, c9, B9, d9, rfl, ho, _, hb⟩
  have BS9 := Aside0.mk (ho.bs hSb)
  have hb := below_step (w := w8) (blw) hb; replace K := Aside0.mk (K.out.below hb); replace HB := Aside0.mk (below_step HB.out hb); have hz9 := hb.size; have HB9 := hR w9
  clear hb ho r1 BF hi1 e0 e1 e2 e3 e4 e5 e6 e7 e8 e9 e10
  go_upto_region 11 with (fail)
  have hb : Below w9.heap.size w9 ((w9.alloc (.cells #[.int .u8 S.c.A, .int .u8 S.c.X, .int .u8 S.c.Y, .int .u8 S.c.S, .int .u16 S.c.PC, .bool S.c.F.N, .bool S.c.F.V, .bool S.c.F.D, .bool S.c.F.I, .bool S.c.F.Z, .bool S.c.F.C] 28)).alloc (.cells #[.slice A9 S.m.length c9] 30)) := blw
  replace K : Aside0 (Many ((w9.alloc (.cells #[.int .u8 S.c.A, .int .u8 S.c.X, .int .u8 S.c.Y, .int .u8 S.c.S, .int .u16 S.c.PC, .bool S.c.F.N, .bool S.c.F.V, .bool S.c.F.D, .bool S.c.F.I, .bool S.c.F.Z, .bool S.c.F.C] 28)).alloc (.cells #[.slice A9 S.m.length c9] 30)) [(w9.heap.size, #[.int .u8 S.c.A, .int .u8 S.c.X, .int .u8 S.c.Y, .int .u8 S.c.S, .int .u16 S.c.PC, .bool S.c.F.N, .bool S.c.F.V, .bool S.c.F.D, .bool S.c.F.I, .bool S.c.F.Z, .bool S.c.F.C], 28), (w9.heap.size + 1, #[.slice A9 S.m.length c9], 30), (w1.heap.size, #[.int .u8 y.A, .int .u8 y.X, .int .u8 y.Y, .int .u8 y.S, .int .u16 y.PC, .bool y.F.N, .bool y.F.V, .bool y.F.D, .bool y.F.I, .bool y.F.Z, .bool y.F.C], 28), (w1.heap.size + 1, #[.slice A7 R.length c7], 30)]) := ⟨Many.cons ((Blk.at rfl).alloc _) (Many.cons (Blk.at (by simp)) (K.out.below hb))⟩
  replace HB := Aside0.mk (below_step HB.out hb)
  replace BS9 := Aside0.mk (BS9.out.below hb)
  have hz10 := hb.size
  clear hb
  generalize (w9.alloc (.cells #[.int .u8 S.c.A, .int .u8 S.c.X, .int .u8 S.c.Y, .int .u8 S.c.S, .int .u16 S.c.PC, .bool S.c.F.N, .bool S.c.F.V, .bool S.c.F.D, .bool S.c.F.I, .bool S.c.F.Z, .bool S.c.F.C] 28)).alloc (.cells #[.slice A9 S.m.length c9] 30) = w10 at *
  have HB10 := hR w10
  have r1 := (K.out.at 1 rfl).one
  obtain ⟨e0, e1, e2, e3, e4, e5, e6, e7, e8, e9, e10⟩ := (K.out.at 0 rfl).cpu
  have hi2 := fun W h e => impl_Step S.c A9 c9 S.m W hSok h e
  obtain ⟨z, hzz⟩ : ∃ z : Cpu, z = { y with PC := 703 } := ⟨_, rfl⟩
  rw [hc2, hc3, ← hzz] at hi2
  have HZ := Aside0.mk hzz
  clear hc2 hc3 hzz
  go_wp2_with fail
  refine Calls.mono (hi2 _ BS9.out (he.below HB.out)) ?_
  rintro _ w11 ⟨A11, c11, B11, d11, rfl, _, _, hb⟩
  have hb := below_step (w := w10) (blw) hb; replace K := Aside0.mk (K.out.below hb); replace HB := Aside0.mk (below_step HB.out hb); have hz11 := hb.size; have HB11 := hR w11
  clear hb r1 hi2 BS9 e0 e1 e2 e3 e4 e5 e6 e7 e8 e9 e10
  go_upto_region 12 with (fail)
  have hb : Below w11.heap.size w11 ((w11.alloc (.cells #[.int .u8 z.A, .int .u8 z.X, .int .u8 z.Y, .int .u8 z.S, .int .u16 z.PC, .bool z.F.N, .bool z.F.V, .bool z.F.D, .bool z.F.I, .bool z.F.Z, .bool z.F.C] 28)).alloc (.cells #[.slice A11 (step S.c S.m).m.length c11] 30)) := blw
  replace K : Aside0 (Many ((w11.alloc (.cells #[.int .u8 z.A, .int .u8 z.X, .int .u8 z.Y, .int .u8 z.S, .int .u16 z.PC, .bool z.F.N, .bool z.F.V, .bool z.F.D, .bool z.F.I, .bool z.F.Z, .bool z.F.C] 28)).alloc (.cells #[.slice A11 (step S.c S.m).m.length c11] 30)) [(w11.heap.size, #[.int .u8 z.A, .int .u8 z.X, .int .u8 z.Y, .int .u8 z.S, .int .u16 z.PC, .bool z.F.N, .bool z.F.V, .bool z.F.D, .bool z.F.I, .bool z.F.Z, .bool z.F.C], 28), (w9.heap.size, #[.int .u8 S.c.A, .int .u8 S.c.X, .int .u8 S.c.Y, .int .u8 S.c.S, .int .u16 S.c.PC, .bool S.c.F.N, .bool S.c.F.V, .bool S.c.F.D, .bool S.c.F.I, .bool S.c.F.Z, .bool S.c.F.C], 28), (w1.heap.size, #[.int .u8 y.A, .int .u8 y.X, .int .u8 y.Y, .int .u8 y.S, .int .u16 y.PC, .bool y.F.N, .bool y.F.V, .bool y.F.D, .bool y.F.I, .bool y.F.Z, .bool y.F.C], 28)]) := ⟨Many.cons ((Blk.at rfl).alloc _) (Many.cons ((K.out.at 0 rfl).below hb) (Many.cons ((K.out.at 2 rfl).below hb) (Many.nil _)))⟩
  replace HB := Aside0.mk (below_step HB.out hb)
  clear hb
  generalize (w11.alloc (.cells #[.int .u8 z.A, .int .u8 z.X, .int .u8 z.Y, .int .u8 z.S, .int .u16 z.PC, .bool z.F.N, .bool z.F.V, .bool z.F.D, .bool z.F.I, .bool z.F.Z, .bool z.F.C] 28)).alloc (.cells #[.slice A11 (step S.c S.m).m.length c11] 30) = w12 at *
  have HB12 := hR w12
  have hlA := (K.out.at 0 rfl).lt
  have hlB := (K.out.at 1 rfl).lt
  have hlC := (K.out.at 2 rfl).lt
  obtain ⟨e0, e1, e2, e3, e4, e5, e6, e7, e8, e9, e10⟩ := (K.out.at 2 rfl).cpu
  go_upto_region 13 with (fail)
  have hb : Below w12.heap.size w12 (w12.alloc (.cells #[.int .u8 y.A, .int .u8 y.X, .int .u8 y.Y, .int .u8 y.S, .int .u16 y.PC, .bool y.F.N, .bool y.F.V, .bool y.F.D, .bool y.F.I, .bool y.F.Z, .bool y.F.C] 28)) := blw
  replace K : Aside0 (Many (w12.alloc (.cells #[.int .u8 y.A, .int .u8 y.X, .int .u8 y.Y, .int .u8 y.S, .int .u16 y.PC, .bool y.F.N, .bool y.F.V, .bool y.F.D, .bool y.F.I, .bool y.F.Z, .bool y.F.C] 28)) [(w12.heap.size, #[.int .u8 y.A, .int .u8 y.X, .int .u8 y.Y, .int .u8 y.S, .int .u16 y.PC, .bool y.F.N, .bool y.F.V, .bool y.F.D, .bool y.F.I, .bool y.F.Z, .bool y.F.C], 28), (w11.heap.size, #[.int .u8 z.A, .int .u8 z.X, .int .u8 z.Y, .int .u8 z.S, .int .u16 z.PC, .bool z.F.N, .bool z.F.V, .bool z.F.D, .bool z.F.I, .bool z.F.Z, .bool z.F.C], 28), (w9.heap.size, #[.int .u8 S.c.A, .int .u8 S.c.X, .int .u8 S.c.Y, .int .u8 S.c.S, .int .u16 S.c.PC, .bool S.c.F.N, .bool S.c.F.V, .bool S.c.F.D, .bool S.c.F.I, .bool S.c.F.Z, .bool S.c.F.C], 28), (w1.heap.size, #[.int .u8 y.A, .int .u8 y.X, .int .u8 y.Y, .int .u8 y.S, .int .u16 y.PC, .bool y.F.N, .bool y.F.V, .bool y.F.D, .bool y.F.I, .bool y.F.Z, .bool y.F.C], 28)]) := ⟨Many.cons (Blk.at rfl) (K.out.below hb)⟩
  replace HB := Aside0.mk (below_step HB.out hb)
  have hzw12 : w.heap.size ≤ w12.heap.size := by omega
  clear hb e0 e1 e2 e3 e4 e5 e6 e7 e8 e9 e10
  generalize hw13 : w12.alloc (.cells #[.int .u8 y.A, .int .u8 y.X, .int .u8 y.Y, .int .u8 y.S, .int .u16 y.PC, .bool y.F.N, .bool y.F.V, .bool y.F.D, .bool y.F.I, .bool y.F.Z, .bool y.F.C] 28) = w13 at *
  clear hw13
  have f0 := (K.out.at 0 rfl).free
  obtain ⟨e0, e1, e2, e3, e4, e5, e6, e7, e8, e9, e10⟩ := (K.out.at 0 rfl).cpu
  go_upto_region 14 with (fail)
  have Kz : Blk (w13.setCell ⟨w12.heap.size, 4, none⟩ (.int .u16 703)) w12.heap.size #[.int .u8 z.A, .int .u8 z.X, .int .u8 z.Y, .int .u8 z.S, .int .u16 z.PC, .bool z.F.N, .bool z.F.V, .bool z.F.D, .bool z.F.I, .bool z.F.Z, .bool z.F.C] 28 := by rw [HZ.out]; exact (K.out.at 0 rfl).setPC 703
  replace K : Aside0 (Many (w13.setCell ⟨w12.heap.size, 4, none⟩ (.int .u16 703)) [(w12.heap.size, #[.int .u8 z.A, .int .u8 z.X, .int .u8 z.Y, .int .u8 z.S, .int .u16 z.PC, .bool z.F.N, .bool z.F.V, .bool z.F.D, .bool z.F.I, .bool z.F.Z, .bool z.F.C], 28), (w11.heap.size, #[.int .u8 z.A, .int .u8 z.X, .int .u8 z.Y, .int .u8 z.S, .int .u16 z.PC, .bool z.F.N, .bool z.F.V, .bool z.F.D, .bool z.F.I, .bool z.F.Z, .bool z.F.C], 28), (w9.heap.size, #[.int .u8 S.c.A, .int .u8 S.c.X, .int .u8 S.c.Y, .int .u8 S.c.S, .int .u16 S.c.PC, .bool S.c.F.N, .bool S.c.F.V, .bool S.c.F.D, .bool S.c.F.I, .bool S.c.F.Z, .bool S.c.F.C], 28), (w1.heap.size, #[.int .u8 y.A, .int .u8 y.X, .int .u8 y.Y, .int .u8 y.S, .int .u16 y.PC, .bool y.F.N, .bool y.F.V, .bool y.F.D, .bool y.F.I, .bool y.F.Z, .bool y.F.C], 28)]) := ⟨Many.cons Kz (Many.cons (Blk.far (K.out.at 1 rfl) (by omega)) (Many.cons (Blk.far (K.out.at 2 rfl) (by omega)) (Many.cons (Blk.far (K.out.at 3 rfl) (by omega)) (Many.nil _))))⟩
  replace HB : Aside0 (Below w.heap.size w (w13.setCell ⟨w12.heap.size, 4, none⟩ (.int .u16 703))) := ⟨blw⟩
  clear Kz f0 e0 e1 e2 e3 e4 e5 e6 e7 e8 e9 e10
  generalize w13.setCell ⟨w12.heap.size, 4, none⟩ (.int .u16 703) = w14 at *
  obtain ⟨e0, e1, e2, e3, e4, e5, e6, e7, e8, e9, e10⟩ := (K.out.at 0 rfl).cpu
  obtain ⟨y0, y1, y2, y3, y4, y5, y6, y7, y8, y9, y10⟩ := (K.out.at 1 rfl).cpu
  obtain ⟨_, _, _, d3, d4, _, _, _, _, _, _⟩ := (K.out.at 2 rfl).cpu
  obtain ⟨_, _, _, c3, _, _, _, _, _, _, _⟩ := (K.out.at 3 rfl).cpu
  rw [HC1.out] at d3 d4
  simp only [] at d3 d4
  have hw : IntKind.u8.wrap (y.S - 2) = (y.S - 2) % 256 := by simp [IntKind.wrap, IntKind.bits, IntKind.signed]
  go_wp2_with fail
  go_ret
  exact ⟨rfl, blw⟩
end Go.Proofs.YtbffbinipipkkaaDoor
