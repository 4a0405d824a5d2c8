/- FnExactServe: the program's Serve returns what the reference's returns, in memory of its own. For every input. -/
import Derived.Test.YtghmeghbekkanaaRamX
import Derived.Test.YtghmeghbekkanaaLt
import Derived.Test.YtghmeghbekkanaaServeS
import Derived.Test.YtghmeghbekkanaaServeM
import Derived.Test.YtghmeghbekkanaaMany
import Derived.Deep.DeepCutAuto
import Derived.Deep.CutBlock
import Derived.Test.YtghmeghbekkanaaXServeB
import Derived.Test.YtghmeghbekkanaaXServeC
set_option linter.unusedVariables false
set_option linter.unusedSimpArgs false
namespace Go.Proofs.Ytghmeghbekkanaa
open Go.RowKit Go.Proofs.YtghmeghbekkanaaW.PrintWords
set_option maxRecDepth 20000 in
set_option maxHeartbeats 8000000 in
theorem FnExactServe_walk (c : Cpu) (A : Option Addr) (l : List Int) (d : Nat) (nmi : Bool) (w : World) (hc : c.ok) (h : Bs w A l) (hl : l.length ≤ 9223372036854775807) :
    Calls Try.prog 3 #[.agg #[.int .u8 c.A, .int .u8 c.X, .int .u8 c.Y, .int .u8 c.S, .int .u16 c.PC, .bool c.F.N, .bool c.F.V, .bool c.F.D, .bool c.F.I, .bool c.F.Z, .bool c.F.C], .agg #[.slice A l.length d], .bool nmi] w fun e w' => e = .returned (.bool true) ∧ Below w.heap.size w w' := by
  by_cases hb : (1048576 : Int) < l.length
  · have hs := szF_big hb
    have HB := hR w; go_enter Try.func3, Try.ntmps3
    go_wp2_with fail
    refine (laws_szRam _ _ _ _ _ hl (by omega) (by omega)).mono ?_
    rintro _ w1 ⟨rfl, hb⟩
    (have HB := Aside0.mk (below_step (w := w) blw hb); have hz1 := hb.size; obtain ⟨hcl1, hfr1, hlt1, _⟩ := bcell hb; (try simp only [sA, sC, sD] at hz1); (try simp only [sA, sC, sD] at hcl1 hfr1 hlt1); have hk1_0 : w.heap.size < w1.heap.size := (by omega); have hk1_1 : w.heap.size + 1 < w1.heap.size := (by omega); have HB1 := hR w1; clear hb)
    go_wp2
    go_ret
    exact ⟨rfl, blw⟩
  · have hs := szF_ok (n := 1048576) (m := l.length) (by omega)
    have hl2 : l.length ≤ 1048576 := by omega
    have SM := Aside0.mk (serve_mb c l nmi hc h.b)
    have ST := Aside0.mk (serve_tb c l nmi hc h.b)
    have hsl := serve_ml c l nmi
    have htl := serve_tl c l nmi
    have hsp : ∀ W A d (h : Bs W A l), _ := fun W A d h => spec_Serve c A d l nmi W hc h
    have him : ∀ W A d (h : Bs W A l), _ := fun W A d h => impl_Serve c A d l nmi W hc h
    generalize serve c l nmi = S at *
    have HB := hR w; go_enter Try.func3, Try.ntmps3
    go_wp2_with fail
    refine (laws_szRam _ _ _ _ _ hl (by omega) (by omega)).mono ?_
    rintro _ w1 ⟨rfl, hb⟩
    have K : Aside0 (Many w1 [(w.heap.size, #[.int .u8 c.A, .int .u8 c.X, .int .u8 c.Y, .int .u8 c.S, .int .u16 c.PC, .bool c.F.N, .bool c.F.V, .bool c.F.D, .bool c.F.I, .bool c.F.Z, .bool c.F.C], 26), (w.heap.size + 1, #[.slice A l.length d], 29)]) := ⟨Many.below (Many.cons ((Blk.at rfl).alloc _) (Many.cons (Blk.at (by simp)) (Many.nil _))) hb⟩
    have HB := Aside0.mk (below_step (w := w) (blw) hb)
    obtain ⟨p0, p1, p2, p3, p4, p5, p6, p7, p8, p9, p10⟩ := (K.out.at 0 rfl).cpu
    have p11 := (K.out.at 1 rfl).one
    have hz1 := hb.size
    simp only [sA, sC, sD] at hz1
    have hk1_0 : w.heap.size < w1.heap.size := by omega
    have hk1_1 : w.heap.size + 1 < w1.heap.size := by omega
    have HB1 := hR w1
    clear hb
    go_upto_region 5 with (fail)
    go_cut [8, 9, 10] (fun x y z wx => Got w1 wx S x y z)
    case first =>
      refine wp_mono (regServeA c A l d w w1 S _ _ nmi h hl2 (blw) (K.out.at 0 rfl) (K.out.at 1 rfl) hsp _ _ _ _ _ _ _ _ _ _ _ _ _ _ _ _ _ _ _ _ _ _ _ _ _ _ _ _ _ _ _ _ _ _ _ _ _ _ _ _ _ _ _ _ _ _ _ _ _ _ _ _ _ _ _ _ _ _ _ _ _ _ _ _ _ _ _ _ _ _ _ _ _ _ _ _ _ _ _ _ _ _ _ _ _ _ _ _ _ _ _ _ _ _ _ _ _ _ _ _ _ _ _ _ _ _ _ _ _ _ _ _ _ _ _ _ _ _ _ _ _ _ _ _ _ _ _ _ _ _ _ _ _ _ _ _ _ _ _ _ _ _ _ _ _ _) ?_
      rintro _ _ w' ⟨rfl, u8, u9, u10, u26, u27, u28, u29, u30, u31, u32, u33, u34, u35, hgot, rfl⟩
      go_wp2_with fail
      go_meet
      exact hgot
    case rest =>
      obtain ⟨b8, b9, A3, c3, B3, d3, rfl, rfl, rfl, hx0, hx1, B8, R9, ho3, ht3, hb⟩ := hcut
      rename World => w4
      have O3 := Aside0.mk (OwnX.of ho3)
      have T3 := Aside0.mk (OwnY.of ht3)
      have hz4 := hb.size
      have hl8 := B8.lt
      have hl9 := R9.lt
      replace K : Aside0 (Many w4 [(w.heap.size, #[.int .u8 c.A, .int .u8 c.X, .int .u8 c.Y, .int .u8 c.S, .int .u16 c.PC, .bool c.F.N, .bool c.F.V, .bool c.F.D, .bool c.F.I, .bool c.F.Z, .bool c.F.C], 26), (w.heap.size + 1, #[.slice A l.length d], 29), (b8, #[.int .u8 S.c.A, .int .u8 S.c.X, .int .u8 S.c.Y, .int .u8 S.c.S, .int .u16 S.c.PC, .bool S.c.F.N, .bool S.c.F.V, .bool S.c.F.D, .bool S.c.F.I, .bool S.c.F.Z, .bool S.c.F.C], 33), (b9, #[.slice A3 S.m.length c3], 34)]) := ⟨Many.cons ((K.out.at 0 rfl).below hb) (Many.cons ((K.out.at 1 rfl).below hb) (Many.cons B8 (Many.cons R9 (Many.nil _))))⟩
      replace HB := Aside0.mk (below_step HB.out hb)
      clear hb ho3 ht3 B8 R9 HB1 p0 p1 p2 p3 p4 p5 p6 p7 p8 p9 p10 p11
      have p11 := (K.out.at 1 rfl).one
      go_wp2_with fail
      refine Calls.mono (laws_toRam _ _ _ _ (h.below (blw)) hl2) ?_
      rintro _ w6 ⟨A6, c6, rfl, ho6, hb⟩
      have hz6 := hb.size
      replace K := Aside0.mk (K.out.below hb)
      replace O3 := Aside0.mk (O3.out.below hb)
      replace T3 := Aside0.mk (T3.out.below hb)
      have X1 := Aside0.mk (OwnX.of ho6)
      replace HB := Aside0.mk (below_step HB.out hb)
      clear hb ho6 p11
      go_upto_region 7 with (fail)
      have hb : Below w6.heap.size w6 (w6.alloc (.cells #[.slice A6 l.length c6] 34)) := blw
      replace K := Aside0.mk (Many.cons (L := [(w.heap.size, #[.int .u8 c.A, .int .u8 c.X, .int .u8 c.Y, .int .u8 c.S, .int .u16 c.PC, .bool c.F.N, .bool c.F.V, .bool c.F.D, .bool c.F.I, .bool c.F.Z, .bool c.F.C], 26), (w.heap.size + 1, #[.slice A l.length d], 29), (b8, #[.int .u8 S.c.A, .int .u8 S.c.X, .int .u8 S.c.Y, .int .u8 S.c.S, .int .u16 S.c.PC, .bool S.c.F.N, .bool S.c.F.V, .bool S.c.F.D, .bool S.c.F.I, .bool S.c.F.Z, .bool S.c.F.C], 33), (b9, #[.slice A3 S.m.length c3], 34)]) (Blk.at (w := w6) (cs := #[.slice A6 l.length c6]) (t := 34) rfl) (K.out.below hb))
      replace O3 := Aside0.mk (O3.out.below hb)
      replace T3 := Aside0.mk (T3.out.below hb)
      replace X1 := Aside0.mk (X1.out.below hb)
      replace HB := Aside0.mk (below_step HB.out hb)
      have hz7 : (w6.alloc (.cells #[.slice A6 l.length c6] 34)).heap.size = w6.heap.size + 1 := by simp
      clear hb
      generalize w6.alloc (.cells #[.slice A6 l.length c6] 34) = w7 at *
      have hz7a : w6.heap.size + 1 ≤ w7.heap.size := by omega
      clear hz7
      obtain ⟨p0, p1, p2, p3, p4, p5, p6, p7, p8, p9, p10⟩ := (K.out.at 1 rfl).cpu; have p11 := (K.out.at 2 rfl).one; have r9 := (K.out.at 0 rfl).one
      have hk7_0 : w.heap.size < w7.heap.size := by omega
      have hk7_1 : w.heap.size + 1 < w7.heap.size := by omega
      have hk7_2 : w6.heap.size < w7.heap.size := by omega
      have HB7 := hR w7
      have BX := Aside0.mk (X1.out.b.bs h.b)
      go_cut [12, 13, 14] (fun x y z wx => Got w7 wx S x y z)
      case first =>
        refine wp_mono (regServeB c A6 l c6 w w7 S _ _ nmi BX.out hl2 (blw) (K.out.at 1 rfl) (K.out.at 0 rfl) him _ _ _ _ _ _ _ _ _ _ _ _ _ _ _ _ _ _ _ _ _ _ _ _ _ _ _ _ _ _ _ _ _ _ _ _ _ _ _ _ _ _ _ _ _ _ _ _ _ _ _ _ _ _ _ _ _ _ _ _ _ _ _ _ _ _ _ _ _ _ _ _ _ _ _ _ _ _ _ _ _ _ _ _ _ _ _ _ _ _ _ _ _ _ _ _ _ _ _ _ _ _ _ _ _ _ _ _ _ _ _ _ _ _ _ _ _ _ _ _ _ _ _ _ _ _ _ _ _ _ _ _ _ _ _ _ _ _ _ _ _ _ _ _ _ _) ?_
        rintro _ _ w' ⟨rfl, u12, u13, u14, u38, u39, u40, u41, u42, u43, u44, u45, u46, hgot, rfl⟩
        go_wp2_with fail
        go_meet
        exact hgot
      case rest =>
        obtain ⟨b10, b11, A10, c10, B10, d10, rfl, rfl, rfl, hy0, hy1, Bx, Rx, ho, ht, hb⟩ := hcut
        rename World => w10
        have O10 := Aside0.mk (OwnX.of ho)
        have T10 := Aside0.mk (OwnY.of ht)
        have hl10 := Bx.lt
        have hl11 := Rx.lt
        replace K := Aside0.mk (Many.cons Bx (Many.cons Rx (K.out.below hb)))
        replace O3 := Aside0.mk (O3.out.below hb)
        replace T3 := Aside0.mk (T3.out.below hb)
        replace X1 := Aside0.mk (X1.out.below hb)
        replace HB := Aside0.mk (below_step HB.out hb)
        have hz10 := hb.size
        clear hb ho ht Bx Rx BX HB7 p0 p1 p2 p3 p4 p5 p6 p7 p8 p9 p10 p11 r9 hk7_0 hk7_1 hk7_2
        obtain ⟨e0, e1, e2, e3, e4, e5, e6, e7, e8, e9, e10⟩ := (K.out.at 0 rfl).cpu; have r11 := (K.out.at 1 rfl).one; obtain ⟨u0, u1, u2, u3, u4, u5, u6, u7, u8, u9, u10⟩ := (K.out.at 5 rfl).cpu; have r7 := (K.out.at 6 rfl).one; go_wp2_with fail; refine Calls.mono (laws_eqCpu S.c _) ?_; rintro _ w11 ⟨rfl, hb⟩; (replace K := Aside0.mk (K.out.below hb); replace O3 := Aside0.mk (O3.out.below hb); replace T3 := Aside0.mk (T3.out.below hb); replace HB := Aside0.mk (below_step HB.out hb); have hz11 := hb.size; replace O10 := Aside0.mk (O10.out.below hb); replace T10 := Aside0.mk (T10.out.below hb); replace X1 := Aside0.mk (X1.out.below hb); clear hb e0 e1 e2 e3 e4 e5 e6 e7 e8 e9 e10 r11 u0 u1 u2 u3 u4 u5 u6 u7 u8 u9 u10 r7); have r11 := (K.out.at 1 rfl).one; have r7 := (K.out.at 6 rfl).one; go_wp2_with fail; refine Calls.mono (laws_eqRam _ _ _ _ _ _ (O10.out.b.bs SM.out) (O3.out.b.bs SM.out) (by omega)) ?_; rintro _ w12 ⟨rfl, hb⟩; (replace K := Aside0.mk (K.out.below hb); replace O3 := Aside0.mk (O3.out.below hb); replace T3 := Aside0.mk (T3.out.below hb); replace HB := Aside0.mk (below_step HB.out hb); have hz12 := hb.size; replace O10 := Aside0.mk (O10.out.below hb); replace T10 := Aside0.mk (T10.out.below hb); replace X1 := Aside0.mk (X1.out.below hb); clear hb r11 r7); go_wp2_with fail; refine Calls.mono (laws_eqCycS _ _ _ _ _ _ (T10.out.b.cs ST.out).c (T3.out.b.cs ST.out).c (by omega)) ?_; rintro _ w13 ⟨rfl, hb⟩; (replace K := Aside0.mk (K.out.below hb); replace O3 := Aside0.mk (O3.out.below hb); replace T3 := Aside0.mk (T3.out.below hb); replace HB := Aside0.mk (below_step HB.out hb); have hz13 := hb.size; replace O10 := Aside0.mk (O10.out.below hb); replace T10 := Aside0.mk (T10.out.below hb); replace X1 := Aside0.mk (X1.out.below hb); clear hb)
        have HB13 := hR w13
        have r9 := (K.out.at 2 rfl).one
        have p11 := (K.out.at 4 rfl).one
        have hk13_0 : w.heap.size + 1 < w13.heap.size := by omega
        have hk13_1 : w6.heap.size < w13.heap.size := by omega
        go_wp2_with fail
        go_region_held3 (fun w' => ∀ p : Addr, p.block < w13.heap.size → w'.cell? p = w13.cell? p) ((intro p hp; exact Below.cell (by exact blw) hp)) (first | (go_at_call 8; ((with_reducible refine (laws_toRam _ _ _ _ (h.below (blw)) hl2).mono ?_); rintro _ w14 ⟨A14, c14, rfl, ho14, hb⟩; have BS14 := Aside0.mk (ho14.bs h.b); have HB := Aside0.mk (below_step (w := w) blw hb); have HB13 := Aside0.mk (below_step (w := w13) blw hb); have hz14 := hb.size; obtain ⟨hcl14, hfr14, hlt14, _⟩ := bcell hb; (try simp only [sA, sC, sD] at hz14); (try simp only [sA, sC, sD] at hcl14 hfr14 hlt14); have HB14 := hR w14; clear hb)) | (go_at_call 11; ((with_reducible refine (laws_eqRam _ _ _ _ _ _ ((X1.out.b.bs h.b).below (blw)) (BS14.out.below (blw)) hl2).mono ?_); rintro _ w15 ⟨rfl, hb⟩; have HB := Aside0.mk (below_step (w := w) blw hb); have HB13 := Aside0.mk (below_step (w := w13) blw hb); have HB14 := Aside0.mk (below_step (w := w14) blw hb); have hz15 := hb.size; obtain ⟨hcl15, hfr15, hlt15, _⟩ := bcell hb; (try simp only [sA, sC, sD] at hz15); (try simp only [sA, sC, sD] at hcl15 hfr15 hlt15); have HB15 := hR w15; clear hb)))
        have hb := HB13.out
        (replace K := Aside0.mk (K.out.below hb); replace O3 := Aside0.mk (O3.out.below hb); replace T3 := Aside0.mk (T3.out.below hb); have hz15 := hb.size; replace O10 := Aside0.mk (O10.out.below hb); replace T10 := Aside0.mk (T10.out.below hb); replace X1 := Aside0.mk (X1.out.below hb); clear hb p11)
        have r9b := (K.out.at 2 rfl).one
        go_wp2_with fail
        refine Calls.mono (laws_markRam _ A6 c6 l 1 _ X1.out.b hl2 (by omega) (by omega)) ?_
        rintro _ w16 ⟨rfl, hoM, hg⟩
        have hz16 := hg.size
        replace K := Aside0.mk (K.out.grownT hg X1.out.typed (by simp))
        replace O3 := Aside0.mk (O3.out.grown hg (fun k e => by have := X1.out.row k e; omega))
        replace O10 := Aside0.mk (O10.out.grown hg (fun k e => by have := X1.out.row k e; omega))
        replace T3 := Aside0.mk (T3.out.grownT hg X1.out.typed)
        replace T10 := Aside0.mk (T10.out.grownT hg X1.out.typed)
        replace HB := Aside0.mk (Below.mark HB.out hg X1.out.row (by omega) (by omega))
        clear hg hoM X1 r9 r9b
        obtain ⟨e0, e1, e2, e3, e4, e5, e6, e7, e8, e9, e10⟩ := (K.out.at 0 rfl).cpu; have r11 := (K.out.at 1 rfl).one; obtain ⟨u0, u1, u2, u3, u4, u5, u6, u7, u8, u9, u10⟩ := (K.out.at 5 rfl).cpu; have r7 := (K.out.at 6 rfl).one; go_wp2_with fail; refine Calls.mono (laws_eqCpu S.c _) ?_; rintro _ w17 ⟨rfl, hb⟩; (replace K := Aside0.mk (K.out.below hb); replace O3 := Aside0.mk (O3.out.below hb); replace T3 := Aside0.mk (T3.out.below hb); replace HB := Aside0.mk (below_step HB.out hb); have hz17 := hb.size; replace O10 := Aside0.mk (O10.out.below hb); replace T10 := Aside0.mk (T10.out.below hb); clear hb e0 e1 e2 e3 e4 e5 e6 e7 e8 e9 e10 r11 u0 u1 u2 u3 u4 u5 u6 u7 u8 u9 u10 r7); have r11 := (K.out.at 1 rfl).one; have r7 := (K.out.at 6 rfl).one; go_wp2_with fail; refine Calls.mono (laws_eqRam _ _ _ _ _ _ (O10.out.b.bs SM.out) (O3.out.b.bs SM.out) (by omega)) ?_; rintro _ w18 ⟨rfl, hb⟩; (replace K := Aside0.mk (K.out.below hb); replace O3 := Aside0.mk (O3.out.below hb); replace T3 := Aside0.mk (T3.out.below hb); replace HB := Aside0.mk (below_step HB.out hb); have hz18 := hb.size; replace O10 := Aside0.mk (O10.out.below hb); replace T10 := Aside0.mk (T10.out.below hb); clear hb r11 r7); go_wp2_with fail; refine Calls.mono (laws_eqCycS _ _ _ _ _ _ (T10.out.b.cs ST.out).c (T3.out.b.cs ST.out).c (by omega)) ?_; rintro _ w19 ⟨rfl, hb⟩; (replace K := Aside0.mk (K.out.below hb); replace O3 := Aside0.mk (O3.out.below hb); replace T3 := Aside0.mk (T3.out.below hb); replace HB := Aside0.mk (below_step HB.out hb); have hz19 := hb.size; replace O10 := Aside0.mk (O10.out.below hb); replace T10 := Aside0.mk (T10.out.below hb); clear hb)
        have r11 := (K.out.at 1 rfl).one
        go_wp2_with fail
        refine Calls.mono (laws_markRam _ A10 c10 S.m 1 _ O10.out.b (by omega) (by omega) (by omega)) ?_
        rintro _ w20 ⟨rfl, hoM, hg⟩
        have hz20 := hg.size
        replace K := Aside0.mk (K.out.grownT hg O10.out.typed (by simp))
        replace O3 := Aside0.mk (O3.out.grown hg (fun k e => by have := O10.out.row k e; omega))
        replace T3 := Aside0.mk (T3.out.grownT hg O10.out.typed)
        replace T10 := Aside0.mk (T10.out.grownT hg O10.out.typed)
        replace HB := Aside0.mk (Below.mark HB.out hg O10.out.row (by omega) (by omega))
        have M10 := Aside0.mk (OwnX.of hoM)
        clear hg hoM O10 r11
        go_wp2_with fail
        refine Calls.mono (laws_markCycS _ B10 d10 S.t (1 + S.m.length) _ T10.out.b (by omega) (by omega) (by omega)) ?_
        rintro _ w21 ⟨rfl, htM, hg⟩
        have hz21 := hg.size
        replace K := Aside0.mk (K.out.grownT hg T10.out.typed (by simp))
        replace O3 := Aside0.mk (O3.out.grownT hg T10.out.typed)
        replace M10 := Aside0.mk (M10.out.grownT hg T10.out.typed)
        replace T3 := Aside0.mk (T3.out.grown hg (fun k e => by have := T10.out.row k e; omega))
        replace HB := Aside0.mk (Below.mark HB.out hg T10.out.row (by omega) (by omega))
        have BM := Aside0.mk (Bs.mk (Kd.R_reads' M10.out.b).2.2 (mkB_b _ _))
        have CM : Aside0 (cycK.C w21 B10 S.t.length (mkC (1 + S.m.length) S.t.length)) := ⟨by have hh := (Kd.R_reads' htM).2.2; rwa [mkC_len] at hh⟩
        clear hg htM T10 M10
        have r11 := (K.out.at 1 rfl).one
        go_wp2_with fail
        refine Calls.mono (laws_heldRam _ _ _ _ _ BM.out (by omega) (by omega) (by omega)) ?_
        rintro _ w22 ⟨rfl, hb⟩
        (replace K := Aside0.mk (K.out.below hb); replace O3 := Aside0.mk (O3.out.below hb); replace T3 := Aside0.mk (T3.out.below hb); replace HB := Aside0.mk (below_step HB.out hb); have hz22 := hb.size; replace BM := Aside0.mk (BM.out.below hb); replace CM := Aside0.mk (Kd.C_below CM.out hb); clear hb r11)
        go_wp2_with fail
        refine Calls.mono (laws_heldCycS _ _ _ _ _ CM.out (by omega) (by omega) (by omega)) ?_
        rintro _ _ ⟨rfl, rfl⟩
        go_upto_region 28 with (fail)
        obtain ⟨p0, p1, p2, p3, p4, p5, p6, p7, p8, p9, p10⟩ := (K.out.at 3 rfl).cpu
        have p11 := (K.out.at 4 rfl).one
        have hk22_0 : w.heap.size < w22.heap.size := by omega
        have hk22_1 : w.heap.size + 1 < w22.heap.size := by omega
        have HB22 := hR w22
        go_cut [18, 19, 20] (fun x y z wx => Got w22 wx S x y z)
        case first =>
          refine wp_mono (regServeC c A l d w w22 S _ _ nmi h hl2 (blw) (K.out.at 3 rfl) (K.out.at 4 rfl) him _ _ _ _ _ _ _ _ _ _ _ _ _ _ _ _ _ _ _ _ _ _ _ _ _ _ _ _ _ _ _ _ _ _ _ _ _ _ _ _ _ _ _ _ _ _ _ _ _ _ _ _ _ _ _ _ _ _ _ _ _ _ _ _ _ _ _ _ _ _ _ _ _ _ _ _ _ _ _ _ _ _ _ _ _ _ _ _ _ _ _ _ _ _ _ _ _ _ _ _ _ _ _ _ _ _ _ _ _ _ _ _ _ _ _ _ _ _ _ _ _ _ _ _ _ _ _ _ _ _ _ _ _ _ _ _ _ _ _ _ _ _ _ _ _ _) ?_
          rintro _ _ w' ⟨rfl, u18, u19, u20, u110, u111, u112, u113, u114, u115, u116, u117, u118, u119, hgot, rfl⟩
          go_wp2_with fail
          go_meet
          exact hgot
        case rest =>
          obtain ⟨b16, b17, A26, c26, B26, d26, rfl, rfl, rfl, hy0, hy1, Bx, Rx, ho, ht, hb⟩ := hcut
          rename World => w26
          have O10 := Aside0.mk (OwnX.of ho)
          have T10 := Aside0.mk (OwnY.of ht)
          have hz26 := hb.size
          replace K := Aside0.mk (Many.cons Bx (Many.cons Rx (K.out.below hb)))
          replace O3 := Aside0.mk (O3.out.below hb)
          replace T3 := Aside0.mk (T3.out.below hb)
          replace HB := Aside0.mk (below_step HB.out hb)
          (replace BM := Aside0.mk (BM.out.below hb); replace CM := Aside0.mk (Kd.C_below CM.out hb); clear hb ho ht Bx Rx HB22 p0 p1 p2 p3 p4 p5 p6 p7 p8 p9 p10 p11 hk22_0 hk22_1)
          obtain ⟨e0, e1, e2, e3, e4, e5, e6, e7, e8, e9, e10⟩ := (K.out.at 0 rfl).cpu; have r11 := (K.out.at 1 rfl).one; obtain ⟨u0, u1, u2, u3, u4, u5, u6, u7, u8, u9, u10⟩ := (K.out.at 7 rfl).cpu; have r7 := (K.out.at 8 rfl).one; go_wp2_with fail; refine Calls.mono (laws_eqCpu S.c _) ?_; rintro _ w27 ⟨rfl, hb⟩; (replace K := Aside0.mk (K.out.below hb); replace O3 := Aside0.mk (O3.out.below hb); replace T3 := Aside0.mk (T3.out.below hb); replace HB := Aside0.mk (below_step HB.out hb); have hz27 := hb.size; replace O10 := Aside0.mk (O10.out.below hb); replace T10 := Aside0.mk (T10.out.below hb); replace BM := Aside0.mk (BM.out.below hb); replace CM := Aside0.mk (Kd.C_below CM.out hb); clear hb e0 e1 e2 e3 e4 e5 e6 e7 e8 e9 e10 r11 u0 u1 u2 u3 u4 u5 u6 u7 u8 u9 u10 r7); have r11 := (K.out.at 1 rfl).one; have r7 := (K.out.at 8 rfl).one; go_wp2_with fail; refine Calls.mono (laws_eqRam _ _ _ _ _ _ (O10.out.b.bs SM.out) (O3.out.b.bs SM.out) (by omega)) ?_; rintro _ w28 ⟨rfl, hb⟩; (replace K := Aside0.mk (K.out.below hb); replace O3 := Aside0.mk (O3.out.below hb); replace T3 := Aside0.mk (T3.out.below hb); replace HB := Aside0.mk (below_step HB.out hb); have hz28 := hb.size; replace O10 := Aside0.mk (O10.out.below hb); replace T10 := Aside0.mk (T10.out.below hb); replace BM := Aside0.mk (BM.out.below hb); replace CM := Aside0.mk (Kd.C_below CM.out hb); clear hb r11 r7); go_wp2_with fail; refine Calls.mono (laws_eqCycS _ _ _ _ _ _ (T10.out.b.cs ST.out).c (T3.out.b.cs ST.out).c (by omega)) ?_; rintro _ w29 ⟨rfl, hb⟩; (replace K := Aside0.mk (K.out.below hb); replace O3 := Aside0.mk (O3.out.below hb); replace T3 := Aside0.mk (T3.out.below hb); replace HB := Aside0.mk (below_step HB.out hb); have hz29 := hb.size; replace O10 := Aside0.mk (O10.out.below hb); replace T10 := Aside0.mk (T10.out.below hb); replace BM := Aside0.mk (BM.out.below hb); replace CM := Aside0.mk (Kd.C_below CM.out hb); clear hb)
          have r11 := (K.out.at 3 rfl).one
          go_wp2_with fail
          refine Calls.mono (laws_heldRam _ _ _ _ _ BM.out (by omega) (by omega) (by omega)) ?_
          rintro _ w30 ⟨rfl, hb⟩
          (replace K := Aside0.mk (K.out.below hb); replace O3 := Aside0.mk (O3.out.below hb); replace T3 := Aside0.mk (T3.out.below hb); replace HB := Aside0.mk (below_step HB.out hb); have hz30 := hb.size; replace BM := Aside0.mk (BM.out.below hb); replace CM := Aside0.mk (Kd.C_below CM.out hb); clear hb r11)
          go_wp2_with fail
          refine Calls.mono (laws_heldCycS _ _ _ _ _ CM.out (by omega) (by omega) (by omega)) ?_
          rintro _ _ ⟨rfl, rfl⟩
          go_wp2_with fail
          go_ret
          exact ⟨rfl, blw⟩
end Go.Proofs.Ytghmeghbekkanaa
