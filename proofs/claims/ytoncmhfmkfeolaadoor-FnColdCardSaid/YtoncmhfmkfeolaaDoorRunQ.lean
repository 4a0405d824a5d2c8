/- impl.Run's region 3: the machine and the variable of what is handed back are laid, in an order that is left open. -/
import Derived.Test.YtoncmhfmkfeolaaDoorRunR
import Derived.Test.YtoncmhfmkfeolaaDoorRunL
import Derived.Test.YtoncmhfmkfeolaaDoorGD
import Derived.Test.YtoncmhfmkfeolaaDoorGI
import Derived.Deep.RegionHeld3
set_option linter.unusedVariables false
set_option linter.unusedSimpArgs false
namespace Go.Proofs.YtoncmhfmkfeolaaDoor
open Go.RowKit Go.Proofs.YtoncmhfmkfeolaaDoorW.PrintWords
theorem zero16 {w : World} {g : Nat} {t : TypeId} (h : Blk w g #[.int .u8 0, .int .u8 0, .int .u8 0, .int .u8 0, .int .u16 0, .bool false, .bool false, .bool false, .bool false, .bool false, .bool false, .slice none 0 0, .slice none 0 0, .slice none 0 0, .slice none 0 0, .bool false] t) : Blk ((((((((((((((((w.setCell ⟨g, 0, none⟩ (.int .u8 0)).setCell ⟨g, 1, none⟩ (.int .u8 0)).setCell ⟨g, 2, none⟩ (.int .u8 0)).setCell ⟨g, 3, none⟩ (.int .u8 0)).setCell ⟨g, 4, none⟩ (.int .u16 0)).setCell ⟨g, 5, none⟩ (.bool false)).setCell ⟨g, 6, none⟩ (.bool false)).setCell ⟨g, 7, none⟩ (.bool false)).setCell ⟨g, 8, none⟩ (.bool false)).setCell ⟨g, 9, none⟩ (.bool false)).setCell ⟨g, 10, none⟩ (.bool false)).setCell ⟨g, 11, none⟩ (.slice none 0 0)).setCell ⟨g, 12, none⟩ (.slice none 0 0)).setCell ⟨g, 13, none⟩ (.slice none 0 0)).setCell ⟨g, 14, none⟩ (.slice none 0 0)).setCell ⟨g, 15, none⟩ (.bool false)) g #[.int .u8 0, .int .u8 0, .int .u8 0, .int .u8 0, .int .u16 0, .bool false, .bool false, .bool false, .bool false, .bool false, .bool false, .slice none 0 0, .slice none 0 0, .slice none 0 0, .slice none 0 0, .bool false] t := by
  have h0 : Blk (w.setCell ⟨g, 0, none⟩ (.int .u8 0)) g #[.int .u8 0, .int .u8 0, .int .u8 0, .int .u8 0, .int .u16 0, .bool false, .bool false, .bool false, .bool false, .bool false, .bool false, .slice none 0 0, .slice none 0 0, .slice none 0 0, .slice none 0 0, .bool false] t := blk_set h 0 _
  have h1 := blk_set h0 1 (.int .u8 0)
  have h2 := blk_set h1 2 (.int .u8 0)
  have h3 := blk_set h2 3 (.int .u8 0)
  have h4 := blk_set h3 4 (.int .u16 0)
  have h5 := blk_set h4 5 (.bool false)
  have h6 := blk_set h5 6 (.bool false)
  have h7 := blk_set h6 7 (.bool false)
  have h8 := blk_set h7 8 (.bool false)
  have h9 := blk_set h8 9 (.bool false)
  have h10 := blk_set h9 10 (.bool false)
  have h11 := blk_set h10 11 (.slice none 0 0)
  have h12 := blk_set h11 12 (.slice none 0 0)
  have h13 := blk_set h12 13 (.slice none 0 0)
  have h14 := blk_set h13 14 (.slice none 0 0)
  exact blk_set h14 15 (.bool false)
theorem RunAt.start {w0 W : World} {base g b r cap : Nat} {c : Cpu} {l : List Int} (hg : Blk W g #[.int .u8 c.A, .int .u8 c.X, .int .u8 c.Y, .int .u8 c.S, .int .u16 c.PC, .bool c.F.N, .bool c.F.V, .bool c.F.D, .bool c.F.I, .bool c.F.Z, .bool c.F.C, .slice (some ⟨r, 0, none⟩) l.length cap, .slice none 0 0] 53) (ho : Blk W b #[.int .u8 0, .int .u8 0, .int .u8 0, .int .u8 0, .int .u16 0, .bool false, .bool false, .bool false, .bool false, .bool false, .bool false, .slice none 0 0, .slice none 0 0, .slice none 0 0, .slice none 0 0, .bool false] 38) (hm : OwnB W base (.slice (some ⟨r, 0, none⟩) l.length cap) l) (bg : base ≤ g) (bo : base ≤ b) (hb : Below base w0 W) (hs : ramSize l.length = true) (hl : ∀ i, 0 ≤ rd l i ∧ rd l i < 256) :
    RunAt w0 W ⟨base, g, r, cap⟩ (.slice none 0 0) b (rs0 c l) 0 (.slice none 0 0) (.slice none 0 0) (.slice none 0 0) (.slice none 0 0) false := by
  refine ⟨⟨hg, hm, Kd.R_nil _ _ _ _ _, bg, ?_, by simp [Value.ownBlock], by simp [Value.ownBlock], hs, hl, fun k => by simp [rs0, cd, Cyc.ok], by simp [rs0]⟩, ho, Kd.R_nil _ _ _ _ _, Kd.R_nil _ _ _ _ _, bo, hb⟩
  obtain ⟨c1, h1⟩ := Kd.R_typed hm r rfl
  exact blk_ne hg h1 (by decide)
set_option maxRecDepth 100000 in
set_option maxHeartbeats 8000000 in
theorem runReg3 (c : Cpu) (A : Option Addr) (l : List Int) (d : Nat) (w w1 : World) (g4 g5 : Nat) (h : Bs w A l) (hs : ramSize l.length = true) (hbw : Below w.heap.size w w1) (k4 : Blk w1 g4 #[.int .u8 c.A, .int .u8 c.X, .int .u8 c.Y, .int .u8 c.S, .int .u16 c.PC, .bool c.F.N, .bool c.F.V, .bool c.F.D, .bool c.F.I, .bool c.F.Z, .bool c.F.C] 31) (k5 : Blk w1 g5 #[.slice A l.length d] 25)
    (s0 s1 s2 s3 s6 s7 s8 s9 s10 s11 s12 s13 s14 s15 s16 s17 s18 s19 s20 s21 s22 s23 s24 s25 s26 s27 s28 s29 s30 s31 s32 s33 s34 s35 s36 s37 s38 s39 s40 s41 s42 s43 s44 s45 s46 s47 s48 s49 s50 s51 s52 s53 s54 s55 s56 s57 s58 s59 s60 s61 s62 s63 s64 s65 s66 s67 s68 s69 s70 s71 s72 s73 s74 s75 s76 s77 s78 s79 s80 s81 s82 s83 s84 s85 s86 s87 s88 s89 s90 s91 s92 s93 s94 s95 s96 s97 s98 s99 s100 s101 s102 s103 s104 s105 s106 s107 s108 s109 s110 s111 s112 s113 s114 : Value) :
    Code.wp Tryd.prog ((Tryd.f8.body.bind (regOf 3)).getD .skip) (fun e a' w' => e = .normal ∧ ∃ u9 u10 u28 u29 u30 u31 u32 u33, (∃ g b r cap, u9 = .pointer (some ⟨g, 0, none⟩) ∧ u10 = .pointer (some ⟨b, 0, none⟩) ∧ RunAt w1 w' ⟨w1.heap.size, g, r, cap⟩ (.slice none 0 0) b (rs0 c l) 0 (.slice none 0 0) (.slice none 0 0) (.slice none 0 0) (.slice none 0 0) false) ∧ a' = ⟨List.toArray (s0 :: s1 :: s2 :: s3 :: .pointer (some ⟨g4, 0, none⟩) :: .pointer (some ⟨g5, 0, none⟩) :: s6 :: s7 :: s8 :: u9 :: u10 :: s11 :: s12 :: s13 :: s14 :: s15 :: s16 :: s17 :: s18 :: s19 :: s20 :: s21 :: s22 :: s23 :: s24 :: s25 :: s26 :: s27 :: u28 :: u29 :: u30 :: u31 :: u32 :: u33 :: s34 :: s35 :: s36 :: s37 :: s38 :: s39 :: s40 :: s41 :: s42 :: s43 :: s44 :: s45 :: s46 :: s47 :: s48 :: s49 :: s50 :: s51 :: s52 :: s53 :: s54 :: s55 :: s56 :: s57 :: s58 :: s59 :: s60 :: s61 :: s62 :: s63 :: s64 :: s65 :: s66 :: s67 :: s68 :: s69 :: s70 :: s71 :: s72 :: s73 :: s74 :: s75 :: s76 :: s77 :: s78 :: s79 :: s80 :: s81 :: s82 :: s83 :: s84 :: s85 :: s86 :: s87 :: s88 :: s89 :: s90 :: s91 :: s92 :: s93 :: s94 :: s95 :: s96 :: s97 :: s98 :: s99 :: s100 :: s101 :: s102 :: s103 :: s104 :: s105 :: s106 :: s107 :: s108 :: s109 :: s110 :: s111 :: s112 :: s113 :: s114 :: []), []⟩) ⟨List.toArray (s0 :: s1 :: s2 :: s3 :: .pointer (some ⟨g4, 0, none⟩) :: .pointer (some ⟨g5, 0, none⟩) :: s6 :: s7 :: s8 :: s9 :: s10 :: s11 :: s12 :: s13 :: s14 :: s15 :: s16 :: s17 :: s18 :: s19 :: s20 :: s21 :: s22 :: s23 :: s24 :: s25 :: s26 :: s27 :: s28 :: s29 :: s30 :: s31 :: s32 :: s33 :: s34 :: s35 :: s36 :: s37 :: s38 :: s39 :: s40 :: s41 :: s42 :: s43 :: s44 :: s45 :: s46 :: s47 :: s48 :: s49 :: s50 :: s51 :: s52 :: s53 :: s54 :: s55 :: s56 :: s57 :: s58 :: s59 :: s60 :: s61 :: s62 :: s63 :: s64 :: s65 :: s66 :: s67 :: s68 :: s69 :: s70 :: s71 :: s72 :: s73 :: s74 :: s75 :: s76 :: s77 :: s78 :: s79 :: s80 :: s81 :: s82 :: s83 :: s84 :: s85 :: s86 :: s87 :: s88 :: s89 :: s90 :: s91 :: s92 :: s93 :: s94 :: s95 :: s96 :: s97 :: s98 :: s99 :: s100 :: s101 :: s102 :: s103 :: s104 :: s105 :: s106 :: s107 :: s108 :: s109 :: s110 :: s111 :: s112 :: s113 :: s114 :: []), []⟩ w1 := by
  conv => arg 2; whnf
  have hsl := ramSize_le hs
  have HB := Aside0.mk hbw
  have HB1 := hR w1
  have hz1 := hbw.size
  have hk1_0 := k4.lt
  have hk1_1 := k5.lt
  obtain ⟨p0, p1, p2, p3, p4, p5, p6, p7, p8, p9, p10⟩ := k4.cpu
  have p11 := k5.one
  clear hbw
  go_region_held3 (fun w' => ∀ p : Addr, p.block < w1.heap.size → w'.cell? p = w1.cell? p) ((intro p hp; exact Below.cell (by exact blw) hp)) (first | (go_at_call 16; ((with_reducible refine (impl_cloned _ _ _ _ (h.below (blw)) (by omega)).mono ?_); rintro _ w2 ⟨A1, c1, rfl, HO, hb⟩; have HX2 := Aside0.mk (blk_moves hb); have HO := Aside0.mk HO; have HB := Aside0.mk (below_step (w := w) blw hb); have HB1 := Aside0.mk (below_step (w := w1) blw hb); have hz2 := hb.size; obtain ⟨hcl2, hfr2, hlt2, _⟩ := bcell hb; (try simp only [sA, sC, sD] at hz2); (try simp only [sA, sC, sD] at hcl2 hfr2 hlt2); have HB2 := hR w2; clear hb)))
  all_goals
    obtain ⟨r, cap, eo, gb, gl, cl, HCl⟩ := Kd.R_form HO.out (by omega)
    injection eo with ea en ec
    subst ea ec
    clear HCl en
    refine ⟨rfl, ?_⟩
    repeat apply Exists.intro
    refine ⟨?_, rfl⟩
  all_goals refine ⟨_, _, _, _, rfl, rfl, RunAt.start ?_ ?_ (by (apply OwnB.lower; (repeat (first | (with_reducible exact HO.out) | (with_reducible apply OwnB.alloc) | (with_reducible apply OwnB.drew) | (with_reducible apply OwnB.drewN) | (with_reducible apply OwnB.set))); all_goals (first | omega | (simp; done) | (simp; omega)))) (by (first | omega | (simp only [sA, sC, sD] <;> omega) | (simp <;> omega))) (by (first | omega | (simp only [sA, sC, sD] <;> omega) | (simp <;> omega))) (blw) hs h.b⟩
  all_goals (repeat (with_reducible first | refine zero16 ?_ | apply HX2.out | (refine Blk.far ?_ ?_; rotate_left; (first | omega | (simp only [sA, sC, sD] <;> omega) | (simp <;> omega))) | (refine Blk.at ?_; (first | omega | (simp only [sA, sC, sD] <;> omega) | (simp <;> omega))) | refine Blk.alloc ?_ _ | refine Blk.drew ?_))
end Go.Proofs.YtoncmhfmkfeolaaDoor
