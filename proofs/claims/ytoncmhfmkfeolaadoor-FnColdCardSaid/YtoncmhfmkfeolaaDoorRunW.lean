/- impl.Run's region 19: what is handed back is laid where the caller finds it. -/
import Derived.Test.YtoncmhfmkfeolaaDoorRunV
import Derived.Deep.RegionHeld3
set_option linter.unusedVariables false
set_option linter.unusedSimpArgs false
namespace Go.Proofs.YtoncmhfmkfeolaaDoor
open Go.RowKit Go.Proofs.YtoncmhfmkfeolaaDoorW.PrintWords
theorem set16 {w : World} {g : Nat} {t : TypeId} {a0 a1 a2 a3 a4 a5 a6 a7 a8 a9 a10 a11 a12 a13 a14 a15 b0 b1 b2 b3 b4 b5 b6 b7 b8 b9 b10 b11 b12 b13 b14 b15 : Value} (h : Blk w g #[a0, a1, a2, a3, a4, a5, a6, a7, a8, a9, a10, a11, a12, a13, a14, a15] t) : Blk ((((((((((((((((w.setCell ⟨g, 0, none⟩ b0).setCell ⟨g, 1, none⟩ b1).setCell ⟨g, 2, none⟩ b2).setCell ⟨g, 3, none⟩ b3).setCell ⟨g, 4, none⟩ b4).setCell ⟨g, 5, none⟩ b5).setCell ⟨g, 6, none⟩ b6).setCell ⟨g, 7, none⟩ b7).setCell ⟨g, 8, none⟩ b8).setCell ⟨g, 9, none⟩ b9).setCell ⟨g, 10, none⟩ b10).setCell ⟨g, 11, none⟩ b11).setCell ⟨g, 12, none⟩ b12).setCell ⟨g, 13, none⟩ b13).setCell ⟨g, 14, none⟩ b14).setCell ⟨g, 15, none⟩ b15) g #[b0, b1, b2, b3, b4, b5, b6, b7, b8, b9, b10, b11, b12, b13, b14, b15] t := by
  have h : Blk (w.setCell ⟨g, 0, none⟩ b0) g #[b0, a1, a2, a3, a4, a5, a6, a7, a8, a9, a10, a11, a12, a13, a14, a15] t := blk_set h 0 _
  generalize (w.setCell ⟨g, 0, none⟩ b0) = w0 at h ⊢
  have h : Blk (w0.setCell ⟨g, 1, none⟩ b1) g #[b0, b1, a2, a3, a4, a5, a6, a7, a8, a9, a10, a11, a12, a13, a14, a15] t := blk_set h 1 _
  generalize (w0.setCell ⟨g, 1, none⟩ b1) = w1 at h ⊢
  have h : Blk (w1.setCell ⟨g, 2, none⟩ b2) g #[b0, b1, b2, a3, a4, a5, a6, a7, a8, a9, a10, a11, a12, a13, a14, a15] t := blk_set h 2 _
  generalize (w1.setCell ⟨g, 2, none⟩ b2) = w2 at h ⊢
  have h : Blk (w2.setCell ⟨g, 3, none⟩ b3) g #[b0, b1, b2, b3, a4, a5, a6, a7, a8, a9, a10, a11, a12, a13, a14, a15] t := blk_set h 3 _
  generalize (w2.setCell ⟨g, 3, none⟩ b3) = w3 at h ⊢
  have h : Blk (w3.setCell ⟨g, 4, none⟩ b4) g #[b0, b1, b2, b3, b4, a5, a6, a7, a8, a9, a10, a11, a12, a13, a14, a15] t := blk_set h 4 _
  generalize (w3.setCell ⟨g, 4, none⟩ b4) = w4 at h ⊢
  have h : Blk (w4.setCell ⟨g, 5, none⟩ b5) g #[b0, b1, b2, b3, b4, b5, a6, a7, a8, a9, a10, a11, a12, a13, a14, a15] t := blk_set h 5 _
  generalize (w4.setCell ⟨g, 5, none⟩ b5) = w5 at h ⊢
  have h : Blk (w5.setCell ⟨g, 6, none⟩ b6) g #[b0, b1, b2, b3, b4, b5, b6, a7, a8, a9, a10, a11, a12, a13, a14, a15] t := blk_set h 6 _
  generalize (w5.setCell ⟨g, 6, none⟩ b6) = w6 at h ⊢
  have h : Blk (w6.setCell ⟨g, 7, none⟩ b7) g #[b0, b1, b2, b3, b4, b5, b6, b7, a8, a9, a10, a11, a12, a13, a14, a15] t := blk_set h 7 _
  generalize (w6.setCell ⟨g, 7, none⟩ b7) = w7 at h ⊢
  have h : Blk (w7.setCell ⟨g, 8, none⟩ b8) g #[b0, b1, b2, b3, b4, b5, b6, b7, b8, a9, a10, a11, a12, a13, a14, a15] t := blk_set h 8 _
  generalize (w7.setCell ⟨g, 8, none⟩ b8) = w8 at h ⊢
  have h : Blk (w8.setCell ⟨g, 9, none⟩ b9) g #[b0, b1, b2, b3, b4, b5, b6, b7, b8, b9, a10, a11, a12, a13, a14, a15] t := blk_set h 9 _
  generalize (w8.setCell ⟨g, 9, none⟩ b9) = w9 at h ⊢
  have h : Blk (w9.setCell ⟨g, 10, none⟩ b10) g #[b0, b1, b2, b3, b4, b5, b6, b7, b8, b9, b10, a11, a12, a13, a14, a15] t := blk_set h 10 _
  generalize (w9.setCell ⟨g, 10, none⟩ b10) = w10 at h ⊢
  have h : Blk (w10.setCell ⟨g, 11, none⟩ b11) g #[b0, b1, b2, b3, b4, b5, b6, b7, b8, b9, b10, b11, a12, a13, a14, a15] t := blk_set h 11 _
  generalize (w10.setCell ⟨g, 11, none⟩ b11) = w11 at h ⊢
  have h : Blk (w11.setCell ⟨g, 12, none⟩ b12) g #[b0, b1, b2, b3, b4, b5, b6, b7, b8, b9, b10, b11, b12, a13, a14, a15] t := blk_set h 12 _
  generalize (w11.setCell ⟨g, 12, none⟩ b12) = w12 at h ⊢
  have h : Blk (w12.setCell ⟨g, 13, none⟩ b13) g #[b0, b1, b2, b3, b4, b5, b6, b7, b8, b9, b10, b11, b12, b13, a14, a15] t := blk_set h 13 _
  generalize (w12.setCell ⟨g, 13, none⟩ b13) = w13 at h ⊢
  have h : Blk (w13.setCell ⟨g, 14, none⟩ b14) g #[b0, b1, b2, b3, b4, b5, b6, b7, b8, b9, b10, b11, b12, b13, b14, a15] t := blk_set h 14 _
  generalize (w13.setCell ⟨g, 14, none⟩ b14) = w14 at h ⊢
  have h : Blk (w14.setCell ⟨g, 15, none⟩ b15) g #[b0, b1, b2, b3, b4, b5, b6, b7, b8, b9, b10, b11, b12, b13, b14, b15] t := blk_set h 15 _
  exact h
set_option maxRecDepth 100000 in
set_option maxHeartbeats 8000000 in
theorem runReg19 (w11 : World) (p b : Nat) (c : Cpu) (A0 A1 A2 A3 : Option Addr) (n0 n1 n2 n3 c0 c1 c2 c3 : Nat) (j : Bool) (KS : Blk w11 b #[.int .u8 c.A, .int .u8 c.X, .int .u8 c.Y, .int .u8 c.S, .int .u16 c.PC, .bool c.F.N, .bool c.F.V, .bool c.F.D, .bool c.F.I, .bool c.F.Z, .bool c.F.C, .slice A0 n0 c0, .slice A1 n1 c1, .slice A2 n2 c2, .slice A3 n3 c3, .bool j] 38) (KR : Blk w11 p #[.int .u8 0, .int .u8 0, .int .u8 0, .int .u8 0, .int .u16 0, .bool false, .bool false, .bool false, .bool false, .bool false, .bool false, .slice none 0 0, .slice none 0 0, .slice none 0 0, .slice none 0 0, .bool false] 38)
    (s0 s1 s2 s3 s4 s5 s6 s7 s9 s11 s12 s13 s14 s15 s16 s17 s18 s19 s20 s21 s22 s23 s24 s25 s26 s27 s28 s29 s30 s31 s32 s33 s34 s35 s36 s37 s38 s39 s40 s41 s42 s43 s44 s45 s46 s47 s48 s49 s50 s51 s52 s53 s54 s55 s56 s57 s58 s59 s60 s61 s62 s63 s64 s65 s66 s67 s68 s69 s70 s71 s72 s73 s74 s75 s76 s77 s78 s79 s80 s81 s82 s83 s84 s85 s86 s87 s88 s89 s90 s91 s92 s93 s94 s95 s96 s97 s98 s99 s100 s101 s102 s103 s104 s105 s106 s107 s108 s109 s110 s111 s112 s113 s114 : Value) :
    Code.wp Tryd.prog ((Tryd.f8.body.bind (regOf 19)).getD .skip) (OnNormal fun a' w' => ∃ u114, (Blk w' p #[.int .u8 c.A, .int .u8 c.X, .int .u8 c.Y, .int .u8 c.S, .int .u16 c.PC, .bool c.F.N, .bool c.F.V, .bool c.F.D, .bool c.F.I, .bool c.F.Z, .bool c.F.C, .slice A0 n0 c0, .slice A1 n1 c1, .slice A2 n2 c2, .slice A3 n3 c3, .bool j] 38 ∧ (∀ k, k ≠ p → w'.heap[k]? = w11.heap[k]?) ∧ (∀ B w0, Below B w0 w11 → B ≤ p → Below B w0 w')) ∧ a' = ⟨List.toArray (s0 :: s1 :: s2 :: s3 :: s4 :: s5 :: s6 :: s7 :: .pointer (some ⟨p, 0, none⟩) :: s9 :: .pointer (some ⟨b, 0, none⟩) :: s11 :: s12 :: s13 :: s14 :: s15 :: s16 :: s17 :: s18 :: s19 :: s20 :: s21 :: s22 :: s23 :: s24 :: s25 :: s26 :: s27 :: s28 :: s29 :: s30 :: s31 :: s32 :: s33 :: s34 :: s35 :: s36 :: s37 :: s38 :: s39 :: s40 :: s41 :: s42 :: s43 :: s44 :: s45 :: s46 :: s47 :: s48 :: s49 :: s50 :: s51 :: s52 :: s53 :: s54 :: s55 :: s56 :: s57 :: s58 :: s59 :: s60 :: s61 :: s62 :: s63 :: s64 :: s65 :: s66 :: s67 :: s68 :: s69 :: s70 :: s71 :: s72 :: s73 :: s74 :: s75 :: s76 :: s77 :: s78 :: s79 :: s80 :: s81 :: s82 :: s83 :: s84 :: s85 :: s86 :: s87 :: s88 :: s89 :: s90 :: s91 :: s92 :: s93 :: s94 :: s95 :: s96 :: s97 :: s98 :: s99 :: s100 :: s101 :: s102 :: s103 :: s104 :: s105 :: s106 :: s107 :: s108 :: s109 :: s110 :: s111 :: s112 :: s113 :: u114 :: []), []⟩) ⟨List.toArray (s0 :: s1 :: s2 :: s3 :: s4 :: s5 :: s6 :: s7 :: .pointer (some ⟨p, 0, none⟩) :: s9 :: .pointer (some ⟨b, 0, none⟩) :: s11 :: s12 :: s13 :: s14 :: s15 :: s16 :: s17 :: s18 :: s19 :: s20 :: s21 :: s22 :: s23 :: s24 :: s25 :: s26 :: s27 :: s28 :: s29 :: s30 :: s31 :: s32 :: s33 :: s34 :: s35 :: s36 :: s37 :: s38 :: s39 :: s40 :: s41 :: s42 :: s43 :: s44 :: s45 :: s46 :: s47 :: s48 :: s49 :: s50 :: s51 :: s52 :: s53 :: s54 :: s55 :: s56 :: s57 :: s58 :: s59 :: s60 :: s61 :: s62 :: s63 :: s64 :: s65 :: s66 :: s67 :: s68 :: s69 :: s70 :: s71 :: s72 :: s73 :: s74 :: s75 :: s76 :: s77 :: s78 :: s79 :: s80 :: s81 :: s82 :: s83 :: s84 :: s85 :: s86 :: s87 :: s88 :: s89 :: s90 :: s91 :: s92 :: s93 :: s94 :: s95 :: s96 :: s97 :: s98 :: s99 :: s100 :: s101 :: s102 :: s103 :: s104 :: s105 :: s106 :: s107 :: s108 :: s109 :: s110 :: s111 :: s112 :: s113 :: s114 :: []), []⟩ w11 := by
  conv => arg 2; whnf
  obtain ⟨x0, x1, x2, x3, x4, x5, x6, x7, x8, x9, x10, x11, x12, x13, x14, x15⟩ := cells16 KS
  obtain ⟨z0, z1, z2, z3, z4, z5, z6, z7, z8, z9, z10, z11, z12, z13, z14, z15⟩ := cells16 KR
  have zf := KR.free
  have zl := KR.lt
  have HK := Aside0.mk KR
  clear KS KR
  go_wp2_with fail
  refine ⟨_, ⟨?_, ?_, ?_⟩, rfl⟩
  · exact set16 HK.out
  · intro k hk
    show Same w11 _ k
    (repeat (with_reducible first | exact Same.refl _ _ | refine Same.drew ?_ | refine Same.set ?_ hk))
  · intro B w0 h hB
    (repeat (with_reducible first | exact h | refine below_drew ?_ | refine Below.setCell ?_ hB _))
end Go.Proofs.YtoncmhfmkfeolaaDoor
