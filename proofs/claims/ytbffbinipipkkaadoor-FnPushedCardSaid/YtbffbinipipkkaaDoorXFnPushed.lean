/- FnPushed: what is pushed and pulled is as it was, with the stack where it was. For every input. -/
import Derived.Test.YtbffbinipipkkaaDoorGI
import Derived.Test.YtbffbinipipkkaaDoorPushL
import Derived.Test.YtbffbinipipkkaaDoorDraw8
import Derived.Test.YtbffbinipipkkaaDoorGF
import Derived.Deep.DeepCutAuto
import Derived.Deep.CutBlock
import Derived.Deep.RegionHeld3
set_option linter.unusedVariables false
set_option linter.unusedSimpArgs false
namespace Go.Proofs.YtbffbinipipkkaaDoor
open Go.RowKit Go.Proofs.YtbffbinipipkkaaDoorW.PrintWords
theorem Blk.setPC {w : World} {g : Nat} {t : TypeId} {c : Cpu} (h : Blk w g #[.int .u8 c.A, .int .u8 c.X, .int .u8 c.Y, .int .u8 c.S, .int .u16 c.PC, .bool c.F.N, .bool c.F.V, .bool c.F.D, .bool c.F.I, .bool c.F.Z, .bool c.F.C] t) (v : Int) : Blk (w.setCell ⟨g, 4, none⟩ (.int .u16 v)) g #[.int .u8 ({ c with PC := v } : Cpu).A, .int .u8 ({ c with PC := v } : Cpu).X, .int .u8 ({ c with PC := v } : Cpu).Y, .int .u8 ({ c with PC := v } : Cpu).S, .int .u16 ({ c with PC := v } : Cpu).PC, .bool ({ c with PC := v } : Cpu).F.N, .bool ({ c with PC := v } : Cpu).F.V, .bool ({ c with PC := v } : Cpu).F.D, .bool ({ c with PC := v } : Cpu).F.I, .bool ({ c with PC := v } : Cpu).F.Z, .bool ({ c with PC := v } : Cpu).F.C] t := blk_set h 4 _
theorem Blk.putF {w : World} {g : Nat} {t : TypeId} {c : Cpu} (h : Blk w g #[.int .u8 c.A, .int .u8 c.X, .int .u8 c.Y, .int .u8 c.S, .int .u16 c.PC, .bool c.F.N, .bool c.F.V, .bool c.F.D, .bool c.F.I, .bool c.F.Z, .bool c.F.C] t) (f : F6) : Blk ((((((w.setCell ⟨g, 5, none⟩ (.bool f.N)).setCell ⟨g, 6, none⟩ (.bool f.V)).setCell ⟨g, 7, none⟩ (.bool f.D)).setCell ⟨g, 8, none⟩ (.bool f.I)).setCell ⟨g, 9, none⟩ (.bool f.Z)).setCell ⟨g, 10, none⟩ (.bool f.C)) g #[.int .u8 ({ c with F := f } : Cpu).A, .int .u8 ({ c with F := f } : Cpu).X, .int .u8 ({ c with F := f } : Cpu).Y, .int .u8 ({ c with F := f } : Cpu).S, .int .u16 ({ c with F := f } : Cpu).PC, .bool ({ c with F := f } : Cpu).F.N, .bool ({ c with F := f } : Cpu).F.V, .bool ({ c with F := f } : Cpu).F.D, .bool ({ c with F := f } : Cpu).F.I, .bool ({ c with F := f } : Cpu).F.Z, .bool ({ c with F := f } : Cpu).F.C] t := by
  have h : Blk (w.setCell ⟨g, 5, none⟩ (.bool f.N)) g #[.int .u8 c.A, .int .u8 c.X, .int .u8 c.Y, .int .u8 c.S, .int .u16 c.PC, .bool f.N, .bool c.F.V, .bool c.F.D, .bool c.F.I, .bool c.F.Z, .bool c.F.C] t := blk_set h 5 _
  generalize (w.setCell ⟨g, 5, none⟩ (.bool f.N)) = w0 at h ⊢
  have h : Blk (w0.setCell ⟨g, 6, none⟩ (.bool f.V)) g #[.int .u8 c.A, .int .u8 c.X, .int .u8 c.Y, .int .u8 c.S, .int .u16 c.PC, .bool f.N, .bool f.V, .bool c.F.D, .bool c.F.I, .bool c.F.Z, .bool c.F.C] t := blk_set h 6 _
  generalize (w0.setCell ⟨g, 6, none⟩ (.bool f.V)) = w1 at h ⊢
  have h : Blk (w1.setCell ⟨g, 7, none⟩ (.bool f.D)) g #[.int .u8 c.A, .int .u8 c.X, .int .u8 c.Y, .int .u8 c.S, .int .u16 c.PC, .bool f.N, .bool f.V, .bool f.D, .bool c.F.I, .bool c.F.Z, .bool c.F.C] t := blk_set h 7 _
  generalize (w1.setCell ⟨g, 7, none⟩ (.bool f.D)) = w2 at h ⊢
  have h : Blk (w2.setCell ⟨g, 8, none⟩ (.bool f.I)) g #[.int .u8 c.A, .int .u8 c.X, .int .u8 c.Y, .int .u8 c.S, .int .u16 c.PC, .bool f.N, .bool f.V, .bool f.D, .bool f.I, .bool c.F.Z, .bool c.F.C] t := blk_set h 8 _
  generalize (w2.setCell ⟨g, 8, none⟩ (.bool f.I)) = w3 at h ⊢
  have h : Blk (w3.setCell ⟨g, 9, none⟩ (.bool f.Z)) g #[.int .u8 c.A, .int .u8 c.X, .int .u8 c.Y, .int .u8 c.S, .int .u16 c.PC, .bool f.N, .bool f.V, .bool f.D, .bool f.I, .bool f.Z, .bool c.F.C] t := blk_set h 9 _
  generalize (w3.setCell ⟨g, 9, none⟩ (.bool f.Z)) = w4 at h ⊢
  have h : Blk (w4.setCell ⟨g, 10, none⟩ (.bool f.C)) g #[.int .u8 c.A, .int .u8 c.X, .int .u8 c.Y, .int .u8 c.S, .int .u16 c.PC, .bool f.N, .bool f.V, .bool f.D, .bool f.I, .bool f.Z, .bool f.C] t := blk_set h 10 _
  exact h
theorem bs_blk {W : World} {g : Nat} {L : List Int} (h : Blk W g (L.map (Value.int .u8)).toArray 5) (hm : L.length ≤ 1048576) (hb : ∀ i, 0 ≤ rd L i ∧ rd L i < 256) : Bs W (some ⟨g, 0, none⟩) L := by
  refine ⟨Kd.C_of_reads (d := (0 : Int)) (h1 := fun _ => rfl) ⟨rfl, by omega, fun _ => ⟨_, rfl, fun j hj => ?_⟩⟩, hb⟩
  have ea : (⟨g, 0, none⟩ : Addr).add j = ⟨g, j, none⟩ := by unfold Addr.add; split <;> simp_all
  rw [ea, h.cell j]
  simp [hj]
theorem rd_two {a b : Int} (h0 : 0 ≤ a ∧ a < 256) (h1 : 0 ≤ b ∧ b < 256) (i : Int) : 0 ≤ rd [a, b] i ∧ rd [a, b] i < 256 := by
  refine rd_lit2 _ (fun x hx => ?_) i
  simp at hx
  rcases hx with rfl | rfl
  · exact h0
  · exact h1
/-- A processor, a memory and a list of cycles that a call has handed back into variables of the law's own. -/
def Got (w w' : World) (r : After) (x y z : Value) : Prop := ∃ b8 b9 A c B d, x = .pointer (some ⟨b8, 0, none⟩) ∧ y = .pointer (some ⟨b9, 0, none⟩) ∧ z = .slice B r.t.length d ∧ w.heap.size ≤ b8 ∧ w.heap.size ≤ b9 ∧
  Blk w' b8 #[.int .u8 r.c.A, .int .u8 r.c.X, .int .u8 r.c.Y, .int .u8 r.c.S, .int .u16 r.c.PC, .bool r.c.F.N, .bool r.c.F.V, .bool r.c.F.D, .bool r.c.F.I, .bool r.c.F.Z, .bool r.c.F.C] 28 ∧ Blk w' b9 #[.slice A r.m.length c] 30 ∧ OwnB w' w.heap.size (.slice A r.m.length c) r.m ∧ OwnC w' w.heap.size (.slice B r.t.length d) r.t ∧ Below w.heap.size w w'
/-- What a variable of one cell holds. -/
def valAt (w : World) (b : Nat) : Value := (w.cell? ⟨b, 0, none⟩).getD (.bool false)
theorem Blk.held {w : World} {b : Nat} {t : TypeId} (h : ∃ u, Blk w b #[u] t) : w.frozen? ⟨b, 0, none⟩ = false ∧ w.cell? ⟨b, 0, none⟩ = some (valAt w b) := by
  obtain ⟨u, h⟩ := h
  refine ⟨h.free 0, ?_⟩
  unfold valAt
  rw [h.one]
  rfl
/-- A processor in a variable of its own and a memory in an elder one. -/
def GotF (w w1 w' : World) (b6 : Nat) (r : After) (x z : Value) : Prop := ∃ b A c B d, x = .pointer (some ⟨b, 0, none⟩) ∧ z = .slice B r.t.length d ∧ w1.heap.size ≤ b ∧
  Blk w' b #[.int .u8 r.c.A, .int .u8 r.c.X, .int .u8 r.c.Y, .int .u8 r.c.S, .int .u16 r.c.PC, .bool r.c.F.N, .bool r.c.F.V, .bool r.c.F.D, .bool r.c.F.I, .bool r.c.F.Z, .bool r.c.F.C] 28 ∧ Blk w' b6 #[.slice A r.m.length c] 30 ∧ OwnB w' w1.heap.size (.slice A r.m.length c) r.m ∧ (∀ k, k < w1.heap.size → k ≠ b6 → Same w1 w' k) ∧ Below w.heap.size w w'
set_option maxRecDepth 20000 in
set_option maxHeartbeats 4000000 in
theorem FnPushed_walk (A : Option Addr) (l : List Int) (c : Nat) (w : World) (h : Bs w A l) (hl : l.length ≤ 9223372036854775807) (he : Env w) :
    Calls Tryd.prog 3 #[.slice A l.length c] w fun e w' => e = .returned (.bool true) ∧ Below w.heap.size w w' := by
  by_cases hbig : (1048576 : Int) < l.length
  · have HB := hR w; go_enter Tryd.func3, Tryd.ntmps3
    go_wp2_with (first | (go_at_call 6; ((with_reducible refine (laws_big _ _ _ _ (by omega)).mono ?_); rintro _ _ ⟨rfl, rfl⟩)))
    go_ret
    exact ⟨rfl, blw⟩
  have hl2 : l.length ≤ 1048576 := by omega
  have HB := hR w; go_enter Tryd.func3, Tryd.ntmps3
  go_wp2_with fail
  refine (laws_big _ _ _ _ (by omega)).mono ?_
  rintro _ _ ⟨rfl, rfl⟩
  go_wp2_with fail
  refine Calls.mono (spec_DrawStep A c l _ h hl2) ?_
  rintro _ w1 ⟨x, L, A1, c1, rfl, hx, hL, hLb, ho, hb⟩
  replace HB := Aside0.mk (below_step HB.out hb)
  have BS := Aside0.mk (ho.bs hLb)
  have OS := Aside0.mk (OwnX.of ho)
  have hzw := HB.out.size
  clear hb ho
  have HB1 := hR w1
  go_upto_region 4 with (fail)
  have hb : Below w1.heap.size w1 ((w1.alloc (.cells #[.int .u8 x.A, .int .u8 x.X, .int .u8 x.Y, .int .u8 x.S, .int .u16 x.PC, .bool x.F.N, .bool x.F.V, .bool x.F.D, .bool x.F.I, .bool x.F.Z, .bool x.F.C] 28)).alloc (.cells #[.slice A1 L.length c1] 30)) := blw
  have K : Aside0 (Many ((w1.alloc (.cells #[.int .u8 x.A, .int .u8 x.X, .int .u8 x.Y, .int .u8 x.S, .int .u16 x.PC, .bool x.F.N, .bool x.F.V, .bool x.F.D, .bool x.F.I, .bool x.F.Z, .bool x.F.C] 28)).alloc (.cells #[.slice A1 L.length c1] 30)) [(w1.heap.size, #[.int .u8 x.A, .int .u8 x.X, .int .u8 x.Y, .int .u8 x.S, .int .u16 x.PC, .bool x.F.N, .bool x.F.V, .bool x.F.D, .bool x.F.I, .bool x.F.Z, .bool x.F.C], 28), (w1.heap.size + 1, #[.slice A1 L.length c1], 30)]) := ⟨Many.cons ((Blk.at rfl).alloc _) (Many.cons (Blk.at (by simp)) (Many.nil _))⟩
  replace HB := Aside0.mk (below_step HB.out hb)
  replace BS := Aside0.mk (BS.out.below hb)
  replace OS := Aside0.mk (OS.out.below hb)
  have hz2 : ((w1.alloc (.cells #[.int .u8 x.A, .int .u8 x.X, .int .u8 x.Y, .int .u8 x.S, .int .u16 x.PC, .bool x.F.N, .bool x.F.V, .bool x.F.D, .bool x.F.I, .bool x.F.Z, .bool x.F.C] 28)).alloc (.cells #[.slice A1 L.length c1] 30)).heap.size = w1.heap.size + 1 + 1 := by simp
  clear hb
  generalize (w1.alloc (.cells #[.int .u8 x.A, .int .u8 x.X, .int .u8 x.Y, .int .u8 x.S, .int .u16 x.PC, .bool x.F.N, .bool x.F.V, .bool x.F.D, .bool x.F.I, .bool x.F.Z, .bool x.F.C] 28)).alloc (.cells #[.slice A1 L.length c1] 30) = w2 at *
  have HB2 := hR w2
  obtain ⟨_, _, _, _, _, _, xs0, xs1, _, _⟩ := id hx
  obtain ⟨e0, e1, e2, e3, e4, e5, e6, e7, e8, e9, e10⟩ := (K.out.at 0 rfl).cpu
  have r1 := (K.out.at 1 rfl).one
  obtain ⟨q, hq⟩ : ∃ q, ramSize L.length = q := ⟨_, rfl⟩
  cases q
  · go_wp2_with fail
    refine Calls.mono (spec_RamOk _ _ _ _) ?_
    rintro _ w3 ⟨rfl, hb⟩
    have hb := below_step (w := w2) (blw) hb; replace K := Aside0.mk (K.out.below hb); replace HB := Aside0.mk (below_step HB.out hb); have hz3 := hb.size; have HB3 := hR w3
    go_wp2_with fail
    go_ret
    exact ⟨rfl, blw⟩
  go_wp2_with fail
  refine Calls.mono (spec_RamOk _ _ _ _) ?_
  rintro _ w3 ⟨rfl, hb⟩
  have hb := below_step (w := w2) (blw) hb; replace K := Aside0.mk (K.out.below hb); replace HB := Aside0.mk (below_step HB.out hb); have hz3 := hb.size; have HB3 := hR w3
  replace BS := Aside0.mk (BS.out.below hb)
  replace OS := Aside0.mk (OS.out.below hb)
  clear hb e0 e1 e2 e3 e4 e5 e6 e7 e8 e9 e10 r1
  have r1 := (K.out.at 1 rfl).one
  by_cases hbg : L.length < 1024
  · go_wp2_with fail
    go_ret
    exact ⟨rfl, blw⟩
  have hbig2 : 1024 ≤ L.length := by omega
  have f0 := (K.out.at 0 rfl).free
  obtain ⟨e0, e1, e2, e3, e4, e5, e6, e7, e8, e9, e10⟩ := (K.out.at 0 rfl).cpu
  go_upto_region 7 with (fail)
  obtain ⟨y, hyx⟩ : ∃ y : Cpu, y = { x with PC := 700 } := ⟨_, rfl⟩
  have hyok : y.ok := by
    obtain ⟨a0, a1, b0, b1, d0, d1, s0, s1, _, _⟩ := hx
    rw [hyx]
    exact ⟨a0, a1, b0, b1, d0, d1, s0, s1, show (0 : Int) ≤ 700 by decide, show (700 : Int) < 65536 by decide⟩
  have hyp : y.PC = 700 := by rw [hyx]
  have hyS : 0 ≤ y.S ∧ y.S < 256 := by rw [hyx]; exact ⟨xs0, xs1⟩
  have Kx : Blk (w3.setCell ⟨w1.heap.size, 4, none⟩ (.int .u16 700)) w1.heap.size #[.int .u8 y.A, .int .u8 y.X, .int .u8 y.Y, .int .u8 y.S, .int .u16 y.PC, .bool y.F.N, .bool y.F.V, .bool y.F.D, .bool y.F.I, .bool y.F.Z, .bool y.F.C] 28 := by rw [hyx]; exact (K.out.at 0 rfl).setPC 700
  replace K : Aside0 (Many (w3.setCell ⟨w1.heap.size, 4, none⟩ (.int .u16 700)) [(w1.heap.size, #[.int .u8 y.A, .int .u8 y.X, .int .u8 y.Y, .int .u8 y.S, .int .u16 y.PC, .bool y.F.N, .bool y.F.V, .bool y.F.D, .bool y.F.I, .bool y.F.Z, .bool y.F.C], 28), (w1.heap.size + 1, #[.slice A1 L.length c1], 30)]) := ⟨Many.cons Kx (Many.cons (Blk.far (K.out.at 1 rfl) (by omega)) (Many.nil _))⟩
  replace HB : Aside0 (Below w.heap.size w (w3.setCell ⟨w1.heap.size, 4, none⟩ (.int .u16 700))) := ⟨blw⟩
  replace BS : Aside0 (Bs (w3.setCell ⟨w1.heap.size, 4, none⟩ (.int .u16 700)) A1 L) := ⟨(OS.out.step (fun k h1 h2 => (Same.refl _ _).set (by omega))).b.bs hLb⟩
  have hz3b : (w3.setCell ⟨w1.heap.size, 4, none⟩ (.int .u16 700)).heap.size = w3.heap.size := by simp
  replace OS := Aside0.mk (OS.out.step (w' := w3.setCell ⟨w1.heap.size, 4, none⟩ (.int .u16 700)) (fun k h1 h2 => (Same.refl _ _).set (by omega)))
  clear hyx Kx f0 r1 e0 e1 e2 e3 e4 e5 e6 e7 e8 e9 e10
  generalize w3.setCell ⟨w1.heap.size, 4, none⟩ (.int .u16 700) = w4 at *
  have hz4a : w3.heap.size ≤ w4.heap.size := by omega
  clear hz3b
  have HB4 := hR w4
  have hl0 := (K.out.at 0 rfl).lt
  have hl1 := (K.out.at 1 rfl).lt
  have r1 := (K.out.at 1 rfl).one
  obtain ⟨e0, e1, e2, e3, e4, e5, e6, e7, e8, e9, e10⟩ := (K.out.at 0 rfl).cpu
  have hlit1 := rd_two (a := 72) (b := 104) (by omega) (by omega)
  have hlit2 := rd_two (a := 8) (b := 40) (by omega) (by omega)
  have hR1b := fill_rd 700 [72, 104] L hLb hlit1
  have hR2b := fill_rd 700 [8, 40] L hLb hlit2
  obtain ⟨hp1, hp2⟩ := push_pull y L hq hbig2 hyok hyp
  obtain ⟨hf1, hf2⟩ := push_flags y L hq hbig2 hyok hyp
  clear hyp
  have hfi1 := fun W g h1 (h2 : Blk W g #[.int .u8 72, .int .u8 104] 5) => impl_Fill A1 c1 L 700 (some ⟨g, 0, none⟩) 2 [72, 104] W h1 (bs_blk h2 (by simp) hlit1) (by omega) (by omega)
  have hfi2 := fun W g h1 (h2 : Blk W g #[.int .u8 8, .int .u8 40] 5) => impl_Fill A1 c1 L 700 (some ⟨g, 0, none⟩) 2 [8, 40] W h1 (bs_blk h2 (by simp) hlit2) (by omega) (by omega)
  generalize fill L 700 [72, 104] = R1 at *
  generalize fill L 700 [8, 40] = R2 at *
  have hst1 := fun W A d h e => impl_Step y A d R1 W hyok h e
  have hst2 := fun W A d h e => impl_Step y A d R2 W hyok h e
  have hS1b := step_mb y R1 hyok hR1b
  have hS3b := step_mb y R2 hyok hR2b
  generalize step y R1 = S1 at *
  generalize step y R2 = S3 at *
  obtain ⟨z1, hz1e⟩ : ∃ z : Cpu, z = { y with PC := 702, F := nz y.A y.F } := ⟨_, rfl⟩
  obtain ⟨z2, hz2e⟩ : ∃ z : Cpu, z = { y with PC := 702 } := ⟨_, rfl⟩
  rw [← hz1e] at hp2
  rw [← hz2e] at hf2
  have HP1 := Aside0.mk hp1
  have HP2 := Aside0.mk hp2
  have HF1 := Aside0.mk hf1
  have HF2 := Aside0.mk hf2
  have HZ1 := Aside0.mk hz1e
  have HZ2 := Aside0.mk hz2e
  clear hp1 hp2 hf1 hf2 hz1e hz2e
  go_cut [5, 6, 7] (fun a b z wx => Got w4 wx S1 a b z)
  case first =>
    go_region_held3 (fun w' => ∀ p : Addr, p.block < w4.heap.size → w'.cell? p = w4.cell? p) ((intro p hp; exact Below.cell (by exact blw) hp)) (first | (go_at_call 10; ((with_reducible refine Calls.mono (hfi1 _ _ (BS.out.below (blw)) (by (repeat (with_reducible first | (refine Blk.at ?_; (first | omega | (simp only [sA, sC, sD] <;> omega) | (simp <;> omega))) | refine Blk.alloc ?_ _ | refine Blk.drew ?_)))) ?_); rintro _ w5 ⟨A5, c5, rfl, ho, hb⟩; have HX2 := Aside0.mk (blk_moves hb); have BF := Aside0.mk (ho.bs hR1b); clear ho; have HB := Aside0.mk (below_step (w := w) blw hb); have HB4 := Aside0.mk (below_step (w := w4) blw hb); have hz5 := hb.size; obtain ⟨hcl5, hfr5, hlt5, _⟩ := bcell hb; (try simp only [sA, sC, sD] at hz5); (try simp only [sA, sC, sD] at hcl5 hfr5 hlt5); have HB5 := hR w5; clear hb; (first | (have hv5_4 := (show w4.heap.size < w5.heap.size from by omega)) | skip); (first | (have hu5_4 := (show w4.heap.size + 1 < w5.heap.size from by omega)) | skip))) | (go_at_call 9; ((with_reducible refine Calls.mono (hst1 _ _ _ (BF.out.below (blw)) (he.below (blw))) ?_); rintro _ w6 ⟨A6, c6, B6, d6, rfl, ho3, ht3, hb⟩; have HX3 := Aside0.mk (blk_moves hb); have HO3 := Aside0.mk (OwnX.of ho3); have HT3 := Aside0.mk (OwnY.of ht3); clear ho3 ht3; have HB := Aside0.mk (below_step (w := w) blw hb); have HB4 := Aside0.mk (below_step (w := w4) blw hb); have HB5 := Aside0.mk (below_step (w := w5) blw hb); have hz6 := hb.size; obtain ⟨hcl6, hfr6, hlt6, _⟩ := bcell hb; (try simp only [sA, sC, sD] at hz6); (try simp only [sA, sC, sD] at hcl6 hfr6 hlt6); have HB6 := hR w6; clear hb; (first | (have hv6_4 := (show w4.heap.size < w6.heap.size from by omega)) | skip); (first | (have hu6_4 := (show w4.heap.size + 1 < w6.heap.size from by omega)) | skip); (first | (have hv6_5 := (show w5.heap.size < w6.heap.size from by omega)) | skip); (first | (have hu6_5 := (show w5.heap.size + 1 < w6.heap.size from by omega)) | skip))))
    all_goals
      go_wp2_with fail
      go_meet
    all_goals (refine ⟨_, _, _, _, _, _, rfl, rfl, rfl, by (first | omega | (simp only [sA, sC, sD] <;> omega) | (simp <;> omega)), by (first | omega | (simp only [sA, sC, sD] <;> omega) | (simp <;> omega)), ?_, ?_, OwnB.lower (OwnX.b (HO3.out.step (fun k h1 h2 => ?_))) (by (first | omega | (simp only [sA, sC, sD] <;> omega) | (simp <;> omega))), OwnC.lower (OwnY.b (HT3.out.step (fun k h1 h2 => ?_))) (by (first | omega | (simp only [sA, sC, sD] <;> omega) | (simp <;> omega))), blw⟩; (focus ((repeat (with_reducible first | (refine Blk.farC ?_ ?_; rotate_left; (first | omega | (simp only [sA, sC, sD] <;> omega) | (simp <;> omega))) | (refine Blk.far ?_ ?_; rotate_left; (first | omega | (simp only [sA, sC, sD] <;> omega) | (simp <;> omega))) | (refine Blk.at ?_; (first | omega | (simp only [sA, sC, sD] <;> omega) | (simp <;> omega))) | refine Blk.alloc ?_ _ | apply HX3.out | apply HX2b.out | apply HX2.out | refine Blk.drew ?_)); all_goals (with_reducible refine Blk.put (c := ⟨0, 0, 0, 0, 0, ⟨false, false, false, false, false, false⟩⟩) ?_ S1.c; (repeat (with_reducible first | (refine Blk.farC ?_ ?_; rotate_left; (first | omega | (simp only [sA, sC, sD] <;> omega) | (simp <;> omega))) | (refine Blk.far ?_ ?_; rotate_left; (first | omega | (simp only [sA, sC, sD] <;> omega) | (simp <;> omega))) | (refine Blk.at ?_; (first | omega | (simp only [sA, sC, sD] <;> omega) | (simp <;> omega))) | refine Blk.alloc ?_ _ | apply HX3.out | apply HX2b.out | apply HX2.out | refine Blk.drew ?_))))); (focus ((repeat (with_reducible first | (refine Blk.farC ?_ ?_; rotate_left; (first | omega | (simp only [sA, sC, sD] <;> omega) | (simp <;> omega))) | (refine Blk.far ?_ ?_; rotate_left; (first | omega | (simp only [sA, sC, sD] <;> omega) | (simp <;> omega))) | (refine Blk.at ?_; (first | omega | (simp only [sA, sC, sD] <;> omega) | (simp <;> omega))) | refine Blk.alloc ?_ _ | apply HX3.out | apply HX2b.out | apply HX2.out | refine Blk.drew ?_)); all_goals (with_reducible refine Blk.put1 (u := .slice none 0 0) ?_; (repeat (with_reducible first | (refine Blk.farC ?_ ?_; rotate_left; (first | omega | (simp only [sA, sC, sD] <;> omega) | (simp <;> omega))) | (refine Blk.far ?_ ?_; rotate_left; (first | omega | (simp only [sA, sC, sD] <;> omega) | (simp <;> omega))) | (refine Blk.at ?_; (first | omega | (simp only [sA, sC, sD] <;> omega) | (simp <;> omega))) | refine Blk.alloc ?_ _ | apply HX3.out | apply HX2b.out | apply HX2.out | refine Blk.drew ?_))))); (focus ((try simp only [sA, sC, sD] at h1); (repeat (with_reducible first | exact Same.refl _ _ | (refine Same.putC ?_ ?_; rotate_left; (first | omega | (simp only [sA, sC, sD] <;> omega) | (simp <;> omega))) | (refine Same.set ?_ ?_; rotate_left; (first | omega | (simp only [sA, sC, sD] <;> omega) | (simp <;> omega))) | (refine Same.alloc ?_ ?_; rotate_left; (first | omega | (simp only [sA, sC, sD] <;> omega) | (simp <;> omega))) | refine Same.drew ?_)))); (focus ((try simp only [sA, sC, sD] at h1); (repeat (with_reducible first | exact Same.refl _ _ | (refine Same.putC ?_ ?_; rotate_left; (first | omega | (simp only [sA, sC, sD] <;> omega) | (simp <;> omega))) | (refine Same.set ?_ ?_; rotate_left; (first | omega | (simp only [sA, sC, sD] <;> omega) | (simp <;> omega))) | (refine Same.alloc ?_ ?_; rotate_left; (first | omega | (simp only [sA, sC, sD] <;> omega) | (simp <;> omega))) | refine Same.drew ?_)))))
  case rest =>
    obtain ⟨b5, b6, A6, c6, B6, d6, rfl, rfl, rfl, hn5, hn6, K5, K6, ho, _, hb⟩ := hcut
    rename World => w7
    have hnb : b5 ≠ b6 := by
      intro e
      subst e
      have q := K5.symm.trans K6
      injection q with q
      injection q with _ q _
      exact absurd q (by decide)
    have BS6 := Aside0.mk (ho.bs hS1b)
    have hz7 := hb.size
    have hl5 := K5.lt
    have hl6 := K6.lt
    replace K : Aside0 (Many w7 [(b5, #[.int .u8 S1.c.A, .int .u8 S1.c.X, .int .u8 S1.c.Y, .int .u8 S1.c.S, .int .u16 S1.c.PC, .bool S1.c.F.N, .bool S1.c.F.V, .bool S1.c.F.D, .bool S1.c.F.I, .bool S1.c.F.Z, .bool S1.c.F.C], 28), (b6, #[.slice A6 S1.m.length c6], 30), (w1.heap.size, #[.int .u8 y.A, .int .u8 y.X, .int .u8 y.Y, .int .u8 y.S, .int .u16 y.PC, .bool y.F.N, .bool y.F.V, .bool y.F.D, .bool y.F.I, .bool y.F.Z, .bool y.F.C], 28), (w1.heap.size + 1, #[.slice A1 L.length c1], 30)]) := ⟨Many.cons K5 (Many.cons K6 (K.out.below hb))⟩
    replace HB := Aside0.mk (below_step HB.out hb)
    replace OS := Aside0.mk (OS.out.below hb)
    clear hb ho K5 K6 e0 e1 e2 e3 e4 e5 e6 e7 e8 e9 e10 r1 hfi1 hst1
    have HB7 := hR w7
    have hS1ok : S1.c.ok := by
      rw [HP1.out]
      obtain ⟨a0, a1, b0, b1, d0, d1, s0, s1, _, _⟩ := hyok
      exact ⟨a0, a1, b0, b1, d0, d1, show 0 ≤ (y.S - 1) % 256 by omega, show (y.S - 1) % 256 < 256 by omega, show (0 : Int) ≤ 701 by decide, show (701 : Int) < 65536 by decide⟩
    have hi1 := fun W h e => impl_Step S1.c A6 c6 S1.m W hS1ok h e
    rw [HP2.out] at hi1
    have r6 := (K.out.at 1 rfl).one
    obtain ⟨e0, e1, e2, e3, e4, e5, e6, e7, e8, e9, e10⟩ := (K.out.at 0 rfl).cpu
    go_wp2_with fail
    refine Calls.mono (hi1 _ BS6.out (he.below HB.out)) ?_
    rintro _ w8 ⟨A8, c8, B8, d8, rfl, _, _, hb⟩
    have hb := below_step (w := w7) (blw) hb; replace K := Aside0.mk (K.out.below hb); replace HB := Aside0.mk (below_step HB.out hb); have hz8 := hb.size; have HB8 := hR w8
    replace OS := Aside0.mk (OS.out.below hb)
    clear hb r6 hi1 BS6 e0 e1 e2 e3 e4 e5 e6 e7 e8 e9 e10
    go_upto_region 9 with (fail)
    have hb : Below w8.heap.size w8 ((w8.alloc (.cells #[.int .u8 z1.A, .int .u8 z1.X, .int .u8 z1.Y, .int .u8 z1.S, .int .u16 z1.PC, .bool z1.F.N, .bool z1.F.V, .bool z1.F.D, .bool z1.F.I, .bool z1.F.Z, .bool z1.F.C] 28)).alloc (.cells #[.slice A8 (step S1.c S1.m).m.length c8] 30)) := blw
    replace K : Aside0 (Many ((w8.alloc (.cells #[.int .u8 z1.A, .int .u8 z1.X, .int .u8 z1.Y, .int .u8 z1.S, .int .u16 z1.PC, .bool z1.F.N, .bool z1.F.V, .bool z1.F.D, .bool z1.F.I, .bool z1.F.Z, .bool z1.F.C] 28)).alloc (.cells #[.slice A8 (step S1.c S1.m).m.length c8] 30)) [(w8.heap.size, #[.int .u8 z1.A, .int .u8 z1.X, .int .u8 z1.Y, .int .u8 z1.S, .int .u16 z1.PC, .bool z1.F.N, .bool z1.F.V, .bool z1.F.D, .bool z1.F.I, .bool z1.F.Z, .bool z1.F.C], 28), (b5, #[.int .u8 S1.c.A, .int .u8 S1.c.X, .int .u8 S1.c.Y, .int .u8 S1.c.S, .int .u16 S1.c.PC, .bool S1.c.F.N, .bool S1.c.F.V, .bool S1.c.F.D, .bool S1.c.F.I, .bool S1.c.F.Z, .bool S1.c.F.C], 28), (b6, #[.slice A6 S1.m.length c6], 30), (w1.heap.size, #[.int .u8 y.A, .int .u8 y.X, .int .u8 y.Y, .int .u8 y.S, .int .u16 y.PC, .bool y.F.N, .bool y.F.V, .bool y.F.D, .bool y.F.I, .bool y.F.Z, .bool y.F.C], 28), (w1.heap.size + 1, #[.slice A1 L.length c1], 30)]) := ⟨Many.cons ((Blk.at rfl).alloc _) (K.out.below hb)⟩
    replace HB := Aside0.mk (below_step HB.out hb)
    replace OS := Aside0.mk (OS.out.below hb)
    have hz9 : ((w8.alloc (.cells #[.int .u8 z1.A, .int .u8 z1.X, .int .u8 z1.Y, .int .u8 z1.S, .int .u16 z1.PC, .bool z1.F.N, .bool z1.F.V, .bool z1.F.D, .bool z1.F.I, .bool z1.F.Z, .bool z1.F.C] 28)).alloc (.cells #[.slice A8 (step S1.c S1.m).m.length c8] 30)).heap.size = w8.heap.size + 1 + 1 := by simp
    clear hb
    generalize (w8.alloc (.cells #[.int .u8 z1.A, .int .u8 z1.X, .int .u8 z1.Y, .int .u8 z1.S, .int .u16 z1.PC, .bool z1.F.N, .bool z1.F.V, .bool z1.F.D, .bool z1.F.I, .bool z1.F.Z, .bool z1.F.C] 28)).alloc (.cells #[.slice A8 (step S1.c S1.m).m.length c8] 30) = w9 at *
    have hz9a : w8.heap.size + 1 < w9.heap.size := by omega
    clear hz9
    have HB9 := hR w9
    obtain ⟨e0, e1, e2, e3, e4, e5, e6, e7, e8, e9, e10⟩ := (K.out.at 3 rfl).cpu
    go_upto_region 10 with (fail)
    have hb : Below w9.heap.size w9 (w9.alloc (.cells #[.int .u8 y.A, .int .u8 y.X, .int .u8 y.Y, .int .u8 y.S, .int .u16 y.PC, .bool y.F.N, .bool y.F.V, .bool y.F.D, .bool y.F.I, .bool y.F.Z, .bool y.F.C] 28)) := blw
    replace K : Aside0 (Many (w9.alloc (.cells #[.int .u8 y.A, .int .u8 y.X, .int .u8 y.Y, .int .u8 y.S, .int .u16 y.PC, .bool y.F.N, .bool y.F.V, .bool y.F.D, .bool y.F.I, .bool y.F.Z, .bool y.F.C] 28)) [(w9.heap.size, #[.int .u8 y.A, .int .u8 y.X, .int .u8 y.Y, .int .u8 y.S, .int .u16 y.PC, .bool y.F.N, .bool y.F.V, .bool y.F.D, .bool y.F.I, .bool y.F.Z, .bool y.F.C], 28), (w8.heap.size, #[.int .u8 z1.A, .int .u8 z1.X, .int .u8 z1.Y, .int .u8 z1.S, .int .u16 z1.PC, .bool z1.F.N, .bool z1.F.V, .bool z1.F.D, .bool z1.F.I, .bool z1.F.Z, .bool z1.F.C], 28), (b5, #[.int .u8 S1.c.A, .int .u8 S1.c.X, .int .u8 S1.c.Y, .int .u8 S1.c.S, .int .u16 S1.c.PC, .bool S1.c.F.N, .bool S1.c.F.V, .bool S1.c.F.D, .bool S1.c.F.I, .bool S1.c.F.Z, .bool S1.c.F.C], 28), (b6, #[.slice A6 S1.m.length c6], 30), (w1.heap.size, #[.int .u8 y.A, .int .u8 y.X, .int .u8 y.Y, .int .u8 y.S, .int .u16 y.PC, .bool y.F.N, .bool y.F.V, .bool y.F.D, .bool y.F.I, .bool y.F.Z, .bool y.F.C], 28), (w1.heap.size + 1, #[.slice A1 L.length c1], 30)]) := ⟨Many.cons (Blk.at rfl) (K.out.below hb)⟩
    replace HB := Aside0.mk (below_step HB.out hb)
    replace OS := Aside0.mk (OS.out.below hb)
    have hz10 : (w9.alloc (.cells #[.int .u8 y.A, .int .u8 y.X, .int .u8 y.Y, .int .u8 y.S, .int .u16 y.PC, .bool y.F.N, .bool y.F.V, .bool y.F.D, .bool y.F.I, .bool y.F.Z, .bool y.F.C] 28)).heap.size = w9.heap.size + 1 := by simp
    clear hb e0 e1 e2 e3 e4 e5 e6 e7 e8 e9 e10
    generalize w9.alloc (.cells #[.int .u8 y.A, .int .u8 y.X, .int .u8 y.Y, .int .u8 y.S, .int .u16 y.PC, .bool y.F.N, .bool y.F.V, .bool y.F.D, .bool y.F.I, .bool y.F.Z, .bool y.F.C] 28) = w10 at *
    have hz10a : w9.heap.size < w10.heap.size := by omega
    clear hz10
    have HB10 := hR w10
    have f0 := (K.out.at 0 rfl).free
    obtain ⟨e0, e1, e2, e3, e4, e5, e6, e7, e8, e9, e10⟩ := (K.out.at 0 rfl).cpu
    go_upto_region 11 with (fail)
    have Kw : Blk (w10.setCell ⟨w9.heap.size, 4, none⟩ (.int .u16 702)) w9.heap.size #[.int .u8 z2.A, .int .u8 z2.X, .int .u8 z2.Y, .int .u8 z2.S, .int .u16 z2.PC, .bool z2.F.N, .bool z2.F.V, .bool z2.F.D, .bool z2.F.I, .bool z2.F.Z, .bool z2.F.C] 28 := by rw [HZ2.out]; exact (K.out.at 0 rfl).setPC 702
    replace K : Aside0 (Many (w10.setCell ⟨w9.heap.size, 4, none⟩ (.int .u16 702)) [(w9.heap.size, #[.int .u8 z2.A, .int .u8 z2.X, .int .u8 z2.Y, .int .u8 z2.S, .int .u16 z2.PC, .bool z2.F.N, .bool z2.F.V, .bool z2.F.D, .bool z2.F.I, .bool z2.F.Z, .bool z2.F.C], 28), (w8.heap.size, #[.int .u8 z1.A, .int .u8 z1.X, .int .u8 z1.Y, .int .u8 z1.S, .int .u16 z1.PC, .bool z1.F.N, .bool z1.F.V, .bool z1.F.D, .bool z1.F.I, .bool z1.F.Z, .bool z1.F.C], 28), (b5, #[.int .u8 S1.c.A, .int .u8 S1.c.X, .int .u8 S1.c.Y, .int .u8 S1.c.S, .int .u16 S1.c.PC, .bool S1.c.F.N, .bool S1.c.F.V, .bool S1.c.F.D, .bool S1.c.F.I, .bool S1.c.F.Z, .bool S1.c.F.C], 28), (b6, #[.slice A6 S1.m.length c6], 30), (w1.heap.size, #[.int .u8 y.A, .int .u8 y.X, .int .u8 y.Y, .int .u8 y.S, .int .u16 y.PC, .bool y.F.N, .bool y.F.V, .bool y.F.D, .bool y.F.I, .bool y.F.Z, .bool y.F.C], 28), (w1.heap.size + 1, #[.slice A1 L.length c1], 30)]) := ⟨Many.cons Kw (Many.cons (Blk.far (K.out.at 1 rfl) (by omega)) (Many.cons (Blk.far (K.out.at 2 rfl) (by omega)) (Many.cons (Blk.far (K.out.at 3 rfl) (by omega)) (Many.cons (Blk.far (K.out.at 4 rfl) (by omega)) (Many.cons (Blk.far (K.out.at 5 rfl) (by omega)) (Many.nil _))))))⟩
    replace HB : Aside0 (Below w.heap.size w (w10.setCell ⟨w9.heap.size, 4, none⟩ (.int .u16 702))) := ⟨blw⟩
    have hz11 : w10.heap.size ≤ (w10.setCell ⟨w9.heap.size, 4, none⟩ (.int .u16 702)).heap.size := by simp
    replace OS := Aside0.mk (OS.out.step (w' := w10.setCell ⟨w9.heap.size, 4, none⟩ (.int .u16 702)) (fun k h1 h2 => (Same.refl _ _).set (by omega)))
    clear Kw f0 e0 e1 e2 e3 e4 e5 e6 e7 e8 e9 e10
    generalize w10.setCell ⟨w9.heap.size, 4, none⟩ (.int .u16 702) = w11 at *
    have HB11 := hR w11
    have hl11 := (K.out.at 1 rfl).lt
    have hl11b := (K.out.at 4 rfl).lt
    obtain ⟨e0, e1, e2, e3, e4, e5, e6, e7, e8, e9, e10⟩ := (K.out.at 4 rfl).cpu
    obtain ⟨a0, a1, _⟩ := id hyok
    go_wp2_with fail
    refine Calls.mono (spec_NZ y.A y.F _ a0 a1) ?_
    rintro _ w12 ⟨rfl, hb⟩
    have hb := below_step (w := w11) (blw) hb; replace K := Aside0.mk (K.out.below hb); replace HB := Aside0.mk (below_step HB.out hb); have hz12 := hb.size; have HB12 := hR w12
    replace OS := Aside0.mk (OS.out.below hb)
    clear hb a0 a1 e0 e1 e2 e3 e4 e5 e6 e7 e8 e9 e10
    have f0 := (K.out.at 0 rfl).free
    obtain ⟨e0, e1, e2, e3, e4, e5, e6, e7, e8, e9, e10⟩ := (K.out.at 0 rfl).cpu
    go_upto_region 12 with (fail)
    have Kw : Blk (((((((w12.setCell ⟨w9.heap.size, 5, none⟩ (.bool (nz y.A y.F).N)).setCell ⟨w9.heap.size, 6, none⟩ (.bool (nz y.A y.F).V)).setCell ⟨w9.heap.size, 7, none⟩ (.bool (nz y.A y.F).D)).setCell ⟨w9.heap.size, 8, none⟩ (.bool (nz y.A y.F).I)).setCell ⟨w9.heap.size, 9, none⟩ (.bool (nz y.A y.F).Z)).setCell ⟨w9.heap.size, 10, none⟩ (.bool (nz y.A y.F).C))) w9.heap.size #[.int .u8 z1.A, .int .u8 z1.X, .int .u8 z1.Y, .int .u8 z1.S, .int .u16 z1.PC, .bool z1.F.N, .bool z1.F.V, .bool z1.F.D, .bool z1.F.I, .bool z1.F.Z, .bool z1.F.C] 28 := by
      have q := (K.out.at 0 rfl).putF (nz y.A y.F)
      rw [HZ2.out] at q
      rw [HZ1.out]
      exact q
    have far : ∀ b cs t, Blk w12 b cs t → b ≠ w9.heap.size → Blk (((((((w12.setCell ⟨w9.heap.size, 5, none⟩ (.bool (nz y.A y.F).N)).setCell ⟨w9.heap.size, 6, none⟩ (.bool (nz y.A y.F).V)).setCell ⟨w9.heap.size, 7, none⟩ (.bool (nz y.A y.F).D)).setCell ⟨w9.heap.size, 8, none⟩ (.bool (nz y.A y.F).I)).setCell ⟨w9.heap.size, 9, none⟩ (.bool (nz y.A y.F).Z)).setCell ⟨w9.heap.size, 10, none⟩ (.bool (nz y.A y.F).C))) b cs t := fun b cs t hh hk => (((((hh.far hk).far hk).far hk).far hk).far hk).far hk
    replace K : Aside0 (Many (((((((w12.setCell ⟨w9.heap.size, 5, none⟩ (.bool (nz y.A y.F).N)).setCell ⟨w9.heap.size, 6, none⟩ (.bool (nz y.A y.F).V)).setCell ⟨w9.heap.size, 7, none⟩ (.bool (nz y.A y.F).D)).setCell ⟨w9.heap.size, 8, none⟩ (.bool (nz y.A y.F).I)).setCell ⟨w9.heap.size, 9, none⟩ (.bool (nz y.A y.F).Z)).setCell ⟨w9.heap.size, 10, none⟩ (.bool (nz y.A y.F).C))) [(w9.heap.size, #[.int .u8 z1.A, .int .u8 z1.X, .int .u8 z1.Y, .int .u8 z1.S, .int .u16 z1.PC, .bool z1.F.N, .bool z1.F.V, .bool z1.F.D, .bool z1.F.I, .bool z1.F.Z, .bool z1.F.C], 28), (w8.heap.size, #[.int .u8 z1.A, .int .u8 z1.X, .int .u8 z1.Y, .int .u8 z1.S, .int .u16 z1.PC, .bool z1.F.N, .bool z1.F.V, .bool z1.F.D, .bool z1.F.I, .bool z1.F.Z, .bool z1.F.C], 28), (b5, #[.int .u8 S1.c.A, .int .u8 S1.c.X, .int .u8 S1.c.Y, .int .u8 S1.c.S, .int .u16 S1.c.PC, .bool S1.c.F.N, .bool S1.c.F.V, .bool S1.c.F.D, .bool S1.c.F.I, .bool S1.c.F.Z, .bool S1.c.F.C], 28), (b6, #[.slice A6 S1.m.length c6], 30), (w1.heap.size, #[.int .u8 y.A, .int .u8 y.X, .int .u8 y.Y, .int .u8 y.S, .int .u16 y.PC, .bool y.F.N, .bool y.F.V, .bool y.F.D, .bool y.F.I, .bool y.F.Z, .bool y.F.C], 28), (w1.heap.size + 1, #[.slice A1 L.length c1], 30)]) := ⟨Many.cons Kw (Many.cons (far _ _ _ (K.out.at 1 rfl) (by omega)) (Many.cons (far _ _ _ (K.out.at 2 rfl) (by omega)) (Many.cons (far _ _ _ (K.out.at 3 rfl) (by omega)) (Many.cons (far _ _ _ (K.out.at 4 rfl) (by omega)) (Many.cons (far _ _ _ (K.out.at 5 rfl) (by omega)) (Many.nil _))))))⟩
    replace HB : Aside0 (Below w.heap.size w (((((((w12.setCell ⟨w9.heap.size, 5, none⟩ (.bool (nz y.A y.F).N)).setCell ⟨w9.heap.size, 6, none⟩ (.bool (nz y.A y.F).V)).setCell ⟨w9.heap.size, 7, none⟩ (.bool (nz y.A y.F).D)).setCell ⟨w9.heap.size, 8, none⟩ (.bool (nz y.A y.F).I)).setCell ⟨w9.heap.size, 9, none⟩ (.bool (nz y.A y.F).Z)).setCell ⟨w9.heap.size, 10, none⟩ (.bool (nz y.A y.F).C)))) := ⟨blw⟩
    have hz13 : w12.heap.size ≤ (((((((w12.setCell ⟨w9.heap.size, 5, none⟩ (.bool (nz y.A y.F).N)).setCell ⟨w9.heap.size, 6, none⟩ (.bool (nz y.A y.F).V)).setCell ⟨w9.heap.size, 7, none⟩ (.bool (nz y.A y.F).D)).setCell ⟨w9.heap.size, 8, none⟩ (.bool (nz y.A y.F).I)).setCell ⟨w9.heap.size, 9, none⟩ (.bool (nz y.A y.F).Z)).setCell ⟨w9.heap.size, 10, none⟩ (.bool (nz y.A y.F).C))).heap.size := by simp
    replace OS := Aside0.mk (OS.out.step (w' := ((((((w12.setCell ⟨w9.heap.size, 5, none⟩ (.bool (nz y.A y.F).N)).setCell ⟨w9.heap.size, 6, none⟩ (.bool (nz y.A y.F).V)).setCell ⟨w9.heap.size, 7, none⟩ (.bool (nz y.A y.F).D)).setCell ⟨w9.heap.size, 8, none⟩ (.bool (nz y.A y.F).I)).setCell ⟨w9.heap.size, 9, none⟩ (.bool (nz y.A y.F).Z)).setCell ⟨w9.heap.size, 10, none⟩ (.bool (nz y.A y.F).C))) (fun k h1 h2 => ((((((Same.refl _ _).set (by omega)).set (by omega)).set (by omega)).set (by omega)).set (by omega)).set (by omega)))
    clear Kw f0 far e0 e1 e2 e3 e4 e5 e6 e7 e8 e9 e10
    generalize ((((((w12.setCell ⟨w9.heap.size, 5, none⟩ (.bool (nz y.A y.F).N)).setCell ⟨w9.heap.size, 6, none⟩ (.bool (nz y.A y.F).V)).setCell ⟨w9.heap.size, 7, none⟩ (.bool (nz y.A y.F).D)).setCell ⟨w9.heap.size, 8, none⟩ (.bool (nz y.A y.F).I)).setCell ⟨w9.heap.size, 9, none⟩ (.bool (nz y.A y.F).Z)).setCell ⟨w9.heap.size, 10, none⟩ (.bool (nz y.A y.F).C)) = w13 at *
    have HB13 := hR w13
    replace BS := Aside0.mk (OS.out.b.bs hLb)
    have hn13 : w1.heap.size ≠ b6 := by omega
    have hn13b : w1.heap.size + 1 ≠ b6 := by omega
    have hl13 := (K.out.at 4 rfl).lt
    have hl13b := (K.out.at 5 rfl).lt
    have hl13c := (K.out.at 3 rfl).lt
    have hwb6 : w.heap.size ≤ b6 := by omega
    have K6 : Aside0 (Blk w13 b6 #[.slice A6 S1.m.length c6] 30) := ⟨K.out.at 3 rfl⟩
    have f6 := (K.out.at 3 rfl).free
    have r1 := (K.out.at 5 rfl).one
    obtain ⟨e0, e1, e2, e3, e4, e5, e6, e7, e8, e9, e10⟩ := (K.out.at 4 rfl).cpu
    go_cut [12, 13] (fun x z wx => GotF w w13 wx b6 S3 x z)
    case first =>
      go_region_held3 (fun w' => (∀ p : Addr, p.block < w13.heap.size → p.block ≠ b6 → w'.cell? p = w13.cell? p) ∧ w'.frozen? ⟨b6, 0, none⟩ = false ∧ w'.cell? ⟨b6, 0, none⟩ = some (valAt w' b6)) (first | ((with_reducible refine ⟨fun p hp hq => Below.cell ?_ hp, Blk.held ⟨_, K6.out.below ?_⟩⟩); (focus ((repeat (first | (with_reducible first | exact bR _ _ | assumption | (apply Aside0.out; assumption) | apply bA | apply bD | apply bN) | ((with_reducible refine bS ?_ ?_); rotate_left; (first | omega | (simp; done) | (simp; omega))))); done)); (focus ((repeat (first | (with_reducible first | exact bR _ _ | assumption | (apply Aside0.out; assumption) | apply bA | apply bD | apply bN) | ((with_reducible refine bS ?_ ?_); rotate_left; (first | omega | (simp; done) | (simp; omega))))); done))) | ((refine ⟨fun p hp hq => (World.cell?_of_block (set_block _ b6 0 _ p.block hq)).trans (Below.cell ?_ hp), Blk.held ⟨_, Blk.put1 (K6.out.below ?_)⟩⟩); (focus ((repeat (first | (with_reducible first | exact bR _ _ | assumption | (apply Aside0.out; assumption) | apply bA | apply bD | apply bN) | ((with_reducible refine bS ?_ ?_); rotate_left; (first | omega | (simp; done) | (simp; omega))))); done)); (focus ((repeat (first | (with_reducible first | exact bR _ _ | assumption | (apply Aside0.out; assumption) | apply bA | apply bD | apply bN) | ((with_reducible refine bS ?_ ?_); rotate_left; (first | omega | (simp; done) | (simp; omega))))); done)))) (first | (go_at_call 10; ((with_reducible refine Calls.mono (hfi2 _ _ (BS.out.below (blw)) (by (repeat (with_reducible first | (refine Blk.at ?_; (first | omega | (simp only [sA, sC, sD] <;> omega) | (simp <;> omega))) | refine Blk.alloc ?_ _ | refine Blk.drew ?_)))) ?_); rintro _ w14 ⟨A14, c14, rfl, ho, hb⟩; have HX2 := Aside0.mk (blk_moves hb); have BF := Aside0.mk (ho.bs hR2b); clear ho; have HB := Aside0.mk (below_step (w := w) blw hb); have HB13 := Aside0.mk (below_step (w := w13) blw hb); have hz14 := hb.size; obtain ⟨hcl14, hfr14, hlt14, _⟩ := bcell hb; (try simp only [sA, sC, sD] at hz14); (try simp only [sA, sC, sD] at hcl14 hfr14 hlt14); have HB14 := hR w14; clear hb; (first | (have hv14_13 := (show w13.heap.size < w14.heap.size from by omega)) | skip); (first | (have hu14_13 := (show w13.heap.size + 1 < w14.heap.size from by omega)) | skip))) | (go_at_call 9; ((with_reducible refine Calls.mono (hst2 _ _ _ (BF.out.below (blw)) (he.below (blw))) ?_); rintro _ w15 ⟨A15, c15, B15, d15, rfl, ho3, ht3, hb⟩; have HX3 := Aside0.mk (blk_moves hb); have HO3 := Aside0.mk (OwnX.of ho3); have HT3 := Aside0.mk (OwnY.of ht3); clear ho3 ht3; have HB := Aside0.mk (below_step (w := w) blw hb); have HB13 := Aside0.mk (below_step (w := w13) blw hb); have HB14 := Aside0.mk (below_step (w := w14) blw hb); have hz15 := hb.size; obtain ⟨hcl15, hfr15, hlt15, _⟩ := bcell hb; (try simp only [sA, sC, sD] at hz15); (try simp only [sA, sC, sD] at hcl15 hfr15 hlt15); have HB15 := hR w15; clear hb; (first | (have hv15_13 := (show w13.heap.size < w15.heap.size from by omega)) | skip); (first | (have hu15_13 := (show w13.heap.size + 1 < w15.heap.size from by omega)) | skip); (first | (have hv15_14 := (show w14.heap.size < w15.heap.size from by omega)) | skip); (first | (have hu15_14 := (show w14.heap.size + 1 < w15.heap.size from by omega)) | skip))))
      all_goals
        go_wp2_with fail
        go_meet
      all_goals
        refine ⟨_, _, _, _, _, rfl, rfl, by (first | omega | (simp only [sA, sC, sD] <;> omega) | (simp <;> omega)), ?_, ?_, OwnB.lower (OwnX.b (HO3.out.step (fun k h1 h2 => ?_))) (by (first | omega | (simp only [sA, sC, sD] <;> omega) | (simp <;> omega))), ?_, ?_⟩
        · refine Blk.far ?_ (by (first | omega | (simp only [sA, sC, sD] <;> omega) | (simp <;> omega)))
          (repeat (with_reducible first | (refine Blk.farC ?_ ?_; rotate_left; (first | omega | (simp only [sA, sC, sD] <;> omega) | (simp <;> omega))) | (refine Blk.far ?_ ?_; rotate_left; (first | omega | (simp only [sA, sC, sD] <;> omega) | (simp <;> omega))) | (refine Blk.at ?_; (first | omega | (simp only [sA, sC, sD] <;> omega) | (simp <;> omega))) | refine Blk.alloc ?_ _ | apply HX3.out | apply HX2b.out | apply HX2.out | refine Blk.drew ?_))
          all_goals (with_reducible refine Blk.put (c := ⟨0, 0, 0, 0, 0, ⟨false, false, false, false, false, false⟩⟩) ?_ S3.c; (repeat (with_reducible first | (refine Blk.farC ?_ ?_; rotate_left; (first | omega | (simp only [sA, sC, sD] <;> omega) | (simp <;> omega))) | (refine Blk.far ?_ ?_; rotate_left; (first | omega | (simp only [sA, sC, sD] <;> omega) | (simp <;> omega))) | (refine Blk.at ?_; (first | omega | (simp only [sA, sC, sD] <;> omega) | (simp <;> omega))) | refine Blk.alloc ?_ _ | apply HX3.out | apply HX2b.out | apply HX2.out | refine Blk.drew ?_)))
        · refine Blk.put1 (u := .slice A6 S1.m.length c6) (K6.out.below ?_)
          exact blw
        · (try simp only [sA, sC, sD] at h1)
          (repeat (with_reducible first | exact Same.refl _ _ | (refine Same.putC ?_ ?_; rotate_left; (first | omega | (simp only [sA, sC, sD] <;> omega) | (simp <;> omega))) | (refine Same.set ?_ ?_; rotate_left; (first | omega | (simp only [sA, sC, sD] <;> omega) | (simp <;> omega))) | (refine Same.alloc ?_ ?_; rotate_left; (first | omega | (simp only [sA, sC, sD] <;> omega) | (simp <;> omega))) | refine Same.drew ?_))
        · refine fun k h1 h2 => (set_block _ b6 0 _ k h2).trans (Below.block (B := w13.heap.size) ?_ k h1)
          exact blw
        · exact blw
    case rest =>
      obtain ⟨b12, A12, c12, B12, d12, rfl, rfl, hn12, B, R, ho, hs, hbw⟩ := hcut
      rename World => w16
      have BS16 := Aside0.mk (ho.bs hS3b)
      have hlt9 := (K.out.at 0 rfl).lt
      have hlt8 := (K.out.at 1 rfl).lt
      have hlt5 := (K.out.at 2 rfl).lt
      replace K : Aside0 (Many w16 [(b12, #[.int .u8 S3.c.A, .int .u8 S3.c.X, .int .u8 S3.c.Y, .int .u8 S3.c.S, .int .u16 S3.c.PC, .bool S3.c.F.N, .bool S3.c.F.V, .bool S3.c.F.D, .bool S3.c.F.I, .bool S3.c.F.Z, .bool S3.c.F.C], 28), (b6, #[.slice A12 S3.m.length c12], 30), (w9.heap.size, #[.int .u8 z1.A, .int .u8 z1.X, .int .u8 z1.Y, .int .u8 z1.S, .int .u16 z1.PC, .bool z1.F.N, .bool z1.F.V, .bool z1.F.D, .bool z1.F.I, .bool z1.F.Z, .bool z1.F.C], 28), (w8.heap.size, #[.int .u8 z1.A, .int .u8 z1.X, .int .u8 z1.Y, .int .u8 z1.S, .int .u16 z1.PC, .bool z1.F.N, .bool z1.F.V, .bool z1.F.D, .bool z1.F.I, .bool z1.F.Z, .bool z1.F.C], 28), (b5, #[.int .u8 S1.c.A, .int .u8 S1.c.X, .int .u8 S1.c.Y, .int .u8 S1.c.S, .int .u16 S1.c.PC, .bool S1.c.F.N, .bool S1.c.F.V, .bool S1.c.F.D, .bool S1.c.F.I, .bool S1.c.F.Z, .bool S1.c.F.C], 28), (w1.heap.size, #[.int .u8 y.A, .int .u8 y.X, .int .u8 y.Y, .int .u8 y.S, .int .u16 y.PC, .bool y.F.N, .bool y.F.V, .bool y.F.D, .bool y.F.I, .bool y.F.Z, .bool y.F.C], 28)]) := ⟨Many.cons B (Many.cons R (Many.cons ((hs _ hlt9 (by omega)).trans (K.out.at 0 rfl)) (Many.cons ((hs _ hlt8 (by omega)).trans (K.out.at 1 rfl)) (Many.cons ((hs _ hlt5 hnb).trans (K.out.at 2 rfl)) (Many.cons ((hs _ hl13 (by omega)).trans (K.out.at 4 rfl)) (Many.nil _))))))⟩
      replace HB := Aside0.mk hbw
      have hz16 := hbw.size
      clear B R ho hs hbw f6 r1 K6 BS OS HB13 hfi2 hst2 e0 e1 e2 e3 e4 e5 e6 e7 e8 e9 e10
      have HB16 := hR w16
      have hS3ok : S3.c.ok := by
        rw [HF1.out]
        obtain ⟨a0, a1, b0, b1, d0, d1, s0, s1, _, _⟩ := hyok
        exact ⟨a0, a1, b0, b1, d0, d1, show 0 ≤ (y.S - 1) % 256 by omega, show (y.S - 1) % 256 < 256 by omega, show (0 : Int) ≤ 701 by decide, show (701 : Int) < 65536 by decide⟩
      have hi2 := fun W h e => impl_Step S3.c A12 c12 S3.m W hS3ok h e
      rw [HF2.out] at hi2
      have r6 := (K.out.at 1 rfl).one
      obtain ⟨e0, e1, e2, e3, e4, e5, e6, e7, e8, e9, e10⟩ := (K.out.at 0 rfl).cpu
      go_wp2_with fail
      refine Calls.mono (hi2 _ BS16.out (he.below HB.out)) ?_
      rintro _ w17 ⟨A17, c17, B17, d17, rfl, _, _, hb⟩
      have hb := below_step (w := w16) (blw) hb; replace K := Aside0.mk (K.out.below hb); replace HB := Aside0.mk (below_step HB.out hb); have hz17 := hb.size; have HB17 := hR w17
      clear hb r6 hi2 BS16 e0 e1 e2 e3 e4 e5 e6 e7 e8 e9 e10
      go_upto_region 14 with (fail)
      have hb : Below w17.heap.size w17 ((w17.alloc (.cells #[.int .u8 z2.A, .int .u8 z2.X, .int .u8 z2.Y, .int .u8 z2.S, .int .u16 z2.PC, .bool z2.F.N, .bool z2.F.V, .bool z2.F.D, .bool z2.F.I, .bool z2.F.Z, .bool z2.F.C] 28)).alloc (.cells #[.slice A17 (step S3.c S3.m).m.length c17] 30)) := blw
      replace K : Aside0 (Many ((w17.alloc (.cells #[.int .u8 z2.A, .int .u8 z2.X, .int .u8 z2.Y, .int .u8 z2.S, .int .u16 z2.PC, .bool z2.F.N, .bool z2.F.V, .bool z2.F.D, .bool z2.F.I, .bool z2.F.Z, .bool z2.F.C] 28)).alloc (.cells #[.slice A17 (step S3.c S3.m).m.length c17] 30)) [(w17.heap.size, #[.int .u8 z2.A, .int .u8 z2.X, .int .u8 z2.Y, .int .u8 z2.S, .int .u16 z2.PC, .bool z2.F.N, .bool z2.F.V, .bool z2.F.D, .bool z2.F.I, .bool z2.F.Z, .bool z2.F.C], 28), (b12, #[.int .u8 S3.c.A, .int .u8 S3.c.X, .int .u8 S3.c.Y, .int .u8 S3.c.S, .int .u16 S3.c.PC, .bool S3.c.F.N, .bool S3.c.F.V, .bool S3.c.F.D, .bool S3.c.F.I, .bool S3.c.F.Z, .bool S3.c.F.C], 28), (b6, #[.slice A12 S3.m.length c12], 30), (w9.heap.size, #[.int .u8 z1.A, .int .u8 z1.X, .int .u8 z1.Y, .int .u8 z1.S, .int .u16 z1.PC, .bool z1.F.N, .bool z1.F.V, .bool z1.F.D, .bool z1.F.I, .bool z1.F.Z, .bool z1.F.C], 28), (w8.heap.size, #[.int .u8 z1.A, .int .u8 z1.X, .int .u8 z1.Y, .int .u8 z1.S, .int .u16 z1.PC, .bool z1.F.N, .bool z1.F.V, .bool z1.F.D, .bool z1.F.I, .bool z1.F.Z, .bool z1.F.C], 28), (b5, #[.int .u8 S1.c.A, .int .u8 S1.c.X, .int .u8 S1.c.Y, .int .u8 S1.c.S, .int .u16 S1.c.PC, .bool S1.c.F.N, .bool S1.c.F.V, .bool S1.c.F.D, .bool S1.c.F.I, .bool S1.c.F.Z, .bool S1.c.F.C], 28), (w1.heap.size, #[.int .u8 y.A, .int .u8 y.X, .int .u8 y.Y, .int .u8 y.S, .int .u16 y.PC, .bool y.F.N, .bool y.F.V, .bool y.F.D, .bool y.F.I, .bool y.F.Z, .bool y.F.C], 28)]) := ⟨Many.cons ((Blk.at rfl).alloc _) (K.out.below hb)⟩
      replace HB := Aside0.mk (below_step HB.out hb)
      have hz18 := hb.size
      clear hb
      generalize (w17.alloc (.cells #[.int .u8 z2.A, .int .u8 z2.X, .int .u8 z2.Y, .int .u8 z2.S, .int .u16 z2.PC, .bool z2.F.N, .bool z2.F.V, .bool z2.F.D, .bool z2.F.I, .bool z2.F.Z, .bool z2.F.C] 28)).alloc (.cells #[.slice A17 (step S3.c S3.m).m.length c17] 30) = w18 at *
      have HB18 := hR w18
      have hl18 := (K.out.at 6 rfl).lt
      obtain ⟨e0, e1, e2, e3, e4, e5, e6, e7, e8, e9, e10⟩ := (K.out.at 6 rfl).cpu
      go_upto_region 15 with (fail)
      have hb : Below w18.heap.size w18 (w18.alloc (.cells #[.int .u8 y.A, .int .u8 y.X, .int .u8 y.Y, .int .u8 y.S, .int .u16 y.PC, .bool y.F.N, .bool y.F.V, .bool y.F.D, .bool y.F.I, .bool y.F.Z, .bool y.F.C] 28)) := blw
      have hlts := K.out.lts
      replace K : Aside0 (Many (w18.alloc (.cells #[.int .u8 y.A, .int .u8 y.X, .int .u8 y.Y, .int .u8 y.S, .int .u16 y.PC, .bool y.F.N, .bool y.F.V, .bool y.F.D, .bool y.F.I, .bool y.F.Z, .bool y.F.C] 28)) [(w18.heap.size, #[.int .u8 y.A, .int .u8 y.X, .int .u8 y.Y, .int .u8 y.S, .int .u16 y.PC, .bool y.F.N, .bool y.F.V, .bool y.F.D, .bool y.F.I, .bool y.F.Z, .bool y.F.C], 28), (w17.heap.size, #[.int .u8 z2.A, .int .u8 z2.X, .int .u8 z2.Y, .int .u8 z2.S, .int .u16 z2.PC, .bool z2.F.N, .bool z2.F.V, .bool z2.F.D, .bool z2.F.I, .bool z2.F.Z, .bool z2.F.C], 28), (b12, #[.int .u8 S3.c.A, .int .u8 S3.c.X, .int .u8 S3.c.Y, .int .u8 S3.c.S, .int .u16 S3.c.PC, .bool S3.c.F.N, .bool S3.c.F.V, .bool S3.c.F.D, .bool S3.c.F.I, .bool S3.c.F.Z, .bool S3.c.F.C], 28), (b6, #[.slice A12 S3.m.length c12], 30), (w9.heap.size, #[.int .u8 z1.A, .int .u8 z1.X, .int .u8 z1.Y, .int .u8 z1.S, .int .u16 z1.PC, .bool z1.F.N, .bool z1.F.V, .bool z1.F.D, .bool z1.F.I, .bool z1.F.Z, .bool z1.F.C], 28), (w8.heap.size, #[.int .u8 z1.A, .int .u8 z1.X, .int .u8 z1.Y, .int .u8 z1.S, .int .u16 z1.PC, .bool z1.F.N, .bool z1.F.V, .bool z1.F.D, .bool z1.F.I, .bool z1.F.Z, .bool z1.F.C], 28), (b5, #[.int .u8 S1.c.A, .int .u8 S1.c.X, .int .u8 S1.c.Y, .int .u8 S1.c.S, .int .u16 S1.c.PC, .bool S1.c.F.N, .bool S1.c.F.V, .bool S1.c.F.D, .bool S1.c.F.I, .bool S1.c.F.Z, .bool S1.c.F.C], 28), (w1.heap.size, #[.int .u8 y.A, .int .u8 y.X, .int .u8 y.Y, .int .u8 y.S, .int .u16 y.PC, .bool y.F.N, .bool y.F.V, .bool y.F.D, .bool y.F.I, .bool y.F.Z, .bool y.F.C], 28)]) := ⟨Many.cons (Blk.at rfl) (K.out.below hb)⟩
      replace HB := Aside0.mk (below_step HB.out hb)
      clear hb e0 e1 e2 e3 e4 e5 e6 e7 e8 e9 e10
      generalize hw19 : w18.alloc (.cells #[.int .u8 y.A, .int .u8 y.X, .int .u8 y.Y, .int .u8 y.S, .int .u16 y.PC, .bool y.F.N, .bool y.F.V, .bool y.F.D, .bool y.F.I, .bool y.F.Z, .bool y.F.C] 28) = w19 at *
      clear hw19
      have f0 := (K.out.at 0 rfl).free
      obtain ⟨e0, e1, e2, e3, e4, e5, e6, e7, e8, e9, e10⟩ := (K.out.at 0 rfl).cpu
      go_upto_region 16 with (fail)
      have Kz : Blk (w19.setCell ⟨w18.heap.size, 4, none⟩ (.int .u16 702)) w18.heap.size #[.int .u8 z2.A, .int .u8 z2.X, .int .u8 z2.Y, .int .u8 z2.S, .int .u16 z2.PC, .bool z2.F.N, .bool z2.F.V, .bool z2.F.D, .bool z2.F.I, .bool z2.F.Z, .bool z2.F.C] 28 := by rw [HZ2.out]; exact (K.out.at 0 rfl).setPC 702
      replace K : Aside0 (Many (w19.setCell ⟨w18.heap.size, 4, none⟩ (.int .u16 702)) [(w18.heap.size, #[.int .u8 z2.A, .int .u8 z2.X, .int .u8 z2.Y, .int .u8 z2.S, .int .u16 z2.PC, .bool z2.F.N, .bool z2.F.V, .bool z2.F.D, .bool z2.F.I, .bool z2.F.Z, .bool z2.F.C], 28), (w17.heap.size, #[.int .u8 z2.A, .int .u8 z2.X, .int .u8 z2.Y, .int .u8 z2.S, .int .u16 z2.PC, .bool z2.F.N, .bool z2.F.V, .bool z2.F.D, .bool z2.F.I, .bool z2.F.Z, .bool z2.F.C], 28), (b12, #[.int .u8 S3.c.A, .int .u8 S3.c.X, .int .u8 S3.c.Y, .int .u8 S3.c.S, .int .u16 S3.c.PC, .bool S3.c.F.N, .bool S3.c.F.V, .bool S3.c.F.D, .bool S3.c.F.I, .bool S3.c.F.Z, .bool S3.c.F.C], 28), (b6, #[.slice A12 S3.m.length c12], 30), (w9.heap.size, #[.int .u8 z1.A, .int .u8 z1.X, .int .u8 z1.Y, .int .u8 z1.S, .int .u16 z1.PC, .bool z1.F.N, .bool z1.F.V, .bool z1.F.D, .bool z1.F.I, .bool z1.F.Z, .bool z1.F.C], 28), (w8.heap.size, #[.int .u8 z1.A, .int .u8 z1.X, .int .u8 z1.Y, .int .u8 z1.S, .int .u16 z1.PC, .bool z1.F.N, .bool z1.F.V, .bool z1.F.D, .bool z1.F.I, .bool z1.F.Z, .bool z1.F.C], 28), (b5, #[.int .u8 S1.c.A, .int .u8 S1.c.X, .int .u8 S1.c.Y, .int .u8 S1.c.S, .int .u16 S1.c.PC, .bool S1.c.F.N, .bool S1.c.F.V, .bool S1.c.F.D, .bool S1.c.F.I, .bool S1.c.F.Z, .bool S1.c.F.C], 28), (w1.heap.size, #[.int .u8 y.A, .int .u8 y.X, .int .u8 y.Y, .int .u8 y.S, .int .u16 y.PC, .bool y.F.N, .bool y.F.V, .bool y.F.D, .bool y.F.I, .bool y.F.Z, .bool y.F.C], 28)]) := ⟨Many.cons Kz (Many.far K.out.tail (fun x hx => by have := hlts x hx; omega))⟩
      replace HB : Aside0 (Below w.heap.size w (w19.setCell ⟨w18.heap.size, 4, none⟩ (.int .u16 702))) := ⟨blw⟩
      clear Kz f0 e0 e1 e2 e3 e4 e5 e6 e7 e8 e9 e10
      generalize w19.setCell ⟨w18.heap.size, 4, none⟩ (.int .u16 702) = w20 at *
      obtain ⟨e0, e1, e2, e3, e4, e5, e6, e7, e8, e9, e10⟩ := (K.out.at 0 rfl).cpu
      obtain ⟨y0, y1, y2, y3, y4, y5, y6, y7, y8, y9, y10⟩ := (K.out.at 1 rfl).cpu
      obtain ⟨_, _, _, d3, _, _, _, _, _, _, _⟩ := (K.out.at 2 rfl).cpu
      obtain ⟨u0, u1, u2, u3, u4, u5, u6, u7, u8, u9, u10⟩ := (K.out.at 4 rfl).cpu
      obtain ⟨v0, v1, v2, v3, v4, v5, v6, v7, v8, v9, v10⟩ := (K.out.at 5 rfl).cpu
      obtain ⟨_, _, _, k3, _, _, _, _, _, _, _⟩ := (K.out.at 6 rfl).cpu
      obtain ⟨_, _, _, c3, _, _, _, _, _, _, _⟩ := (K.out.at 7 rfl).cpu
      rw [HF1.out] at d3
      rw [HP1.out] at k3
      simp only [] at d3 k3
      have hw : IntKind.u8.wrap (y.S - 1) = (y.S - 1) % 256 := by simp [IntKind.wrap, IntKind.bits, IntKind.signed]
      go_wp2_with fail
      go_ret
      exact ⟨rfl, blw⟩
end Go.Proofs.YtbffbinipipkkaaDoor
