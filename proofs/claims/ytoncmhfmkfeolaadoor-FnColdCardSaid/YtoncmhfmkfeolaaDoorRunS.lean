/- impl.Run's switch: an interrupt, a jam or a step. -/
import Derived.Test.YtoncmhfmkfeolaaDoorRunV
import Derived.Test.YtoncmhfmkfeolaaDoorAsk
import Derived.Deep.RegionHeld3
import Derived.Deep.DeepCutAuto
set_option linter.unusedVariables false
set_option linter.unusedSimpArgs false
namespace Go.Proofs.YtoncmhfmkfeolaaDoor
open Go.RowKit Go.Proofs.YtoncmhfmkfeolaaDoorW.PrintWords
/-- The block of that number in a code. -/
def blkOf (n : Nat) : Code → Option Code
  | .block id c => if id = n then some (.block id c) else blkOf n c
  | .seq a b => match blkOf n a with
    | some c => some c
    | none => blkOf n b
  | .cond _ a b => match blkOf n a with
    | some c => some c
    | none => blkOf n b
  | .loop c => blkOf n c
  | .scope c => blkOf n c
  | _ => none
set_option maxRecDepth 100000 in
set_option maxHeartbeats 8000000 in
theorem runSwitch (l : List Int) (B : Option Addr) (e : Nat) (E : List Evt) (k : Nat) (w w1 w4 : World) (g r cap b gb : Nat) (v us up : Value) (R : Rs) (hE : evK.C w B E.length E) (hl : E.length ≤ 1048576) (hk120 : k ≤ 120) (hs : ramSize l.length = true)
    (he1 : EnvL w1 w1.heap.size) (OK : Aside0 (RsOk l R k)) (HBr : Aside0 (Below w.heap.size w w4)) (HR : Aside0 (RunAt w1 w4 ⟨w1.heap.size, g, r, cap⟩ v b R (10 * k) us up us up false)) (KB : Aside0 (Blk w4 gb #[.int .u8 R.c.A, .int .u8 R.c.X, .int .u8 R.c.Y, .int .u8 R.c.S, .int .u16 R.c.PC, .bool R.c.F.N, .bool R.c.F.V, .bool R.c.F.D, .bool R.c.F.I, .bool R.c.F.Z, .bool R.c.F.C] 31)) (HBw1 : Aside0 (Below w.heap.size w w1))
    (s0 s1 s3 s4 s5 s6 s7 s8 s12 s13 s14 s15 s16 s17 s18 s19 s20 s21 s22 s23 s24 s25 s26 s27 s28 s29 s30 s31 s32 s33 s34 s35 s36 s37 s38 s39 s40 s41 s42 s43 s44 s45 s46 s47 s48 s49 s50 s51 s52 s53 s54 s55 s56 s57 s58 s59 s60 s61 s62 s63 s64 s65 s66 s67 s68 s69 s70 s71 s72 s73 s74 s75 s76 s77 s78 s79 s80 s81 s82 s83 s84 s85 s86 s87 s88 s89 s90 s91 s92 s93 s94 s95 s96 s97 s98 s99 s100 s101 s102 s103 s104 s105 s106 s107 s108 s109 s110 s111 s112 s113 s114 : Value) :
    Code.wp Tryd.prog ((Tryd.f8.body.bind (blkOf 2)).getD .skip) (OnNormal fun a' w' => ∃ u47 u48 u49 u50 u51 u52 u53 u54 u55 u56 u57 u58 u59 u60 u61 u62 u63 u64 u65 u66 u67 u68 u69 u70 u71 u72 u73 u74 u75 u76 u77 u78 u79 u80 u81 u82 u83, (∃ (v' : Value) (q : Rs) (m : Nat), RunAt w1 w' ⟨w1.heap.size, g, r, cap⟩ v' b q m us up us up q.jam ∧ q.st = R.st ∧ q.cs = R.cs ∧ m ≤ 10 * k + 10 ∧ Blk w' gb #[.int .u8 R.c.A, .int .u8 R.c.X, .int .u8 R.c.Y, .int .u8 R.c.S, .int .u16 R.c.PC, .bool R.c.F.N, .bool R.c.F.V, .bool R.c.F.D, .bool R.c.F.I, .bool R.c.F.Z, .bool R.c.F.C] 31 ∧ unitN E k R = (if q.jam then q else ⟨q.c, q.m, q.t, R.st ++ [(R.t.length : Int)], R.cs ++ [R.c], false⟩)) ∧ a' = ⟨List.toArray (s0 :: s1 :: .slice B E.length e :: s3 :: s4 :: s5 :: s6 :: s7 :: s8 :: .pointer (some ⟨g, 0, none⟩) :: .pointer (some ⟨b, 0, none⟩) :: .int .i64 k :: s12 :: s13 :: s14 :: s15 :: s16 :: s17 :: s18 :: s19 :: s20 :: s21 :: s22 :: s23 :: s24 :: s25 :: s26 :: s27 :: s28 :: s29 :: s30 :: s31 :: s32 :: s33 :: s34 :: s35 :: s36 :: s37 :: s38 :: s39 :: s40 :: s41 :: s42 :: s43 :: s44 :: s45 :: s46 :: u47 :: u48 :: u49 :: u50 :: u51 :: u52 :: u53 :: u54 :: u55 :: u56 :: u57 :: u58 :: u59 :: u60 :: u61 :: u62 :: u63 :: u64 :: u65 :: u66 :: u67 :: u68 :: u69 :: u70 :: u71 :: u72 :: u73 :: u74 :: u75 :: u76 :: u77 :: u78 :: u79 :: u80 :: u81 :: u82 :: u83 :: s84 :: s85 :: s86 :: s87 :: s88 :: s89 :: s90 :: s91 :: s92 :: s93 :: s94 :: s95 :: s96 :: s97 :: s98 :: s99 :: s100 :: s101 :: s102 :: s103 :: s104 :: s105 :: s106 :: s107 :: s108 :: s109 :: s110 :: s111 :: s112 :: s113 :: s114 :: []), []⟩) ⟨List.toArray (s0 :: s1 :: .slice B E.length e :: s3 :: s4 :: s5 :: s6 :: s7 :: s8 :: .pointer (some ⟨g, 0, none⟩) :: .pointer (some ⟨b, 0, none⟩) :: .int .i64 k :: s12 :: s13 :: s14 :: s15 :: s16 :: s17 :: s18 :: s19 :: s20 :: s21 :: s22 :: s23 :: s24 :: s25 :: s26 :: s27 :: s28 :: s29 :: s30 :: s31 :: s32 :: s33 :: s34 :: s35 :: s36 :: s37 :: s38 :: s39 :: s40 :: s41 :: s42 :: s43 :: s44 :: s45 :: s46 :: s47 :: s48 :: s49 :: s50 :: s51 :: s52 :: s53 :: s54 :: s55 :: s56 :: s57 :: s58 :: s59 :: s60 :: s61 :: s62 :: s63 :: s64 :: s65 :: s66 :: s67 :: s68 :: s69 :: s70 :: s71 :: s72 :: s73 :: s74 :: s75 :: s76 :: s77 :: s78 :: s79 :: s80 :: s81 :: s82 :: s83 :: s84 :: s85 :: s86 :: s87 :: s88 :: s89 :: s90 :: s91 :: s92 :: s93 :: s94 :: s95 :: s96 :: s97 :: s98 :: s99 :: s100 :: s101 :: s102 :: s103 :: s104 :: s105 :: s106 :: s107 :: s108 :: s109 :: s110 :: s111 :: s112 :: s113 :: s114 :: []), []⟩ w4 := by
  conv => arg 2; whnf
  have hc1 := fun W hw => impl_Contains B e E k true W hw hl
  have hc2 := fun W hw => impl_Contains B e E k false W hw hl
  have HB4 := hR w4
  obtain ⟨a1, ha1⟩ : ∃ a, asked E k true = a := ⟨_, rfl⟩
  obtain ⟨a2, ha2⟩ : ∃ a, asked E k false = a := ⟨_, rfl⟩
  obtain ⟨j3, hj3⟩ : ∃ a, jams R.m R.c.PC = a := ⟨_, rfl⟩
  have hun : unitN E k R = if a1 then R.go (serve R.c R.m true) else if a2 && !R.c.F.I then R.go (serve R.c R.m false) else if j3 then { R with jam := true } else R.go (step R.c R.m) := by rw [← ha1, ← ha2, ← hj3]; rfl
  have HUN := Aside0.mk hun
  have hs2 : ramSize R.m.length = true := by rw [OK.out.len]; exact hs
  have hp0 : 0 ≤ R.c.PC ∧ R.c.PC < 65536 := by obtain ⟨_, _, _, _, _, _, _, _, p0, p1⟩ := OK.out.cok; exact ⟨p0, p1⟩
  have hjm := fun A d W hw e => impl_Jams A d R.m R.c.PC W hw hp0.1 hp0.2 e
  rw [hj3] at hjm
  rw [ha1] at hc1
  rw [ha2] at hc2
  have HJ3 := Aside0.mk hj3
  clear hun ha1 ha2 hj3
  go_wp2_with fail
  refine Calls.mono (hc1 _ (Kd.C_below hE (blw))) ?_
  rintro _ w5 ⟨rfl, hb⟩
  have hb := below_step (w := w4) (blw) hb
  have HR5 := Aside0.mk (HR.out.wait hb)
  replace KB := Aside0.mk (KB.out.below hb)
  clear hb HB4 HR
  cases a1
  rotate_left
  · go_wp2_with fail
    refine Calls.mono (impl_serve true (w := w5) (L := ⟨w1.heap.size, g, r, cap⟩) HR5.out.hold (by omega) OK.out.cok) ?_
    rintro _ w6 ⟨rfl, v6, H6, M6⟩
    rw [(serve_bus R.c R.m R.t true hs2).1, (serve_bus R.c R.m R.t true hs2).2] at H6
    have ha := Hold.other HR5.out.hold KB.out (by decide) (by decide) (by decide)
    have KB6 := (M6.keep _ KB.out.lt ha.1 ha.2.1 ha.2.2).trans KB.out
    have HR6 := HR5.out.move H6 M6
    go_wp2_with fail
    repeat apply Exists.intro
    refine ⟨?_, rfl⟩
    exact ⟨v6, ⟨_, _, _, R.st, R.cs, false⟩, 10 * k + 7, HR6.jamTo false, rfl, rfl, by omega, KB6, by rw [HUN.out]; rfl⟩
  have HBr := Aside0.mk (below_step (w := w) HBw1.out HR5.out.below)
  have HB5 := hR w5
  go_wp2_with fail
  refine Calls.mono (hc2 _ (Kd.C_below hE (blw))) ?_
  rintro _ w6 ⟨rfl, hb⟩
  have hb := below_step (w := w5) (blw) hb
  replace KB := Aside0.mk (KB.out.below hb)
  have HR6 := Aside0.mk (HR5.out.wait hb)
  clear hb HB5 HR5
  have HBr := Aside0.mk (below_step (w := w) HBw1.out HR6.out.below)
  obtain ⟨_, _, _, _, e4, _, _, _, e8, _, _, e11, _, hfz, hlt1⟩ := HR6.out.facts
  simp only [] at e4 e8 e11 hlt1
  obtain ⟨i3, hi3⟩ : ∃ a, R.c.F.I = a := ⟨_, rfl⟩
  rw [hi3] at e8
  have HI3 := Aside0.mk hi3
  clear hi3
  have hnn : j3 = false → ¬ nmL (peek R.m R.c.PC) = [] := fun e hx => by
    rw [e] at HJ3
    have := HJ3.out
    simp [jams, hs2, hx] at this
  have HNN := Aside0.mk hnn
  clear hnn
  cases a2
  · have HUN2 : Aside0 (unitN E k R = if j3 then { R with jam := true } else R.go (step R.c R.m)) := ⟨by rw [HUN.out]; rfl⟩
    go_upto_region 13 with (fail); refine wp_normal (runReg13 w6 g r cap R.m R.c.PC j3 e11 e4 (fun W hW => hjm _ _ W ((Hold.bs HR6.out.hold).below hW) (EnvL.env (EnvL.below (EnvL.below he1 HR6.out.below) (hW.mono HR6.out.size)))) _ _ _ _ _ _ _ _ _ _ _ _ _ _ _ _ _ _ _ _ _ _ _ _ _ _ _ _ _ _ _ _ _ _ _ _ _ _ _ _ _ _ _ _ _ _ _ _ _ _ _ _ _ _ _ _ _ _ _ _ _ _ _ _ _ _ _ _ _ _ _ _ _ _ _ _ _ _ _ _ _ _ _ _ _ _ _ _ _ _ _ _ _ _ _ _ _ _ _ _ _ _ _ _ _ _ _ _ _ _ _ _ _ _) ?_; rintro _ w7 ⟨hb, u73, u74, u75, u76, u77, u78, u79, u80, u81, u82, rfl⟩; have KB7 := Aside0.mk (KB.out.below hb); have HR7 := Aside0.mk (HR6.out.wait hb); have hg7 : g < w7.heap.size := Nat.lt_of_lt_of_le hlt1 hb.size; clear hb e4 e11 HR6 KB HBr hfz; have HBr := Aside0.mk (below_step (w := w) HBw1.out HR7.out.below); have HE7 := Aside0.mk (EnvL.below he1 HR7.out.below); obtain ⟨oc, of, ol⟩ := HR7.out.outFacts; have o15 : w7.cell? ⟨b, 15, none⟩ = some (.bool false) := oc 15; have f15 := of 15; clear oc of; cases j3; (focus (go_wp2_with fail; refine Calls.mono (impl_step (w := w7) (L := ⟨w1.heap.size, g, r, cap⟩) HR7.out.hold (by omega) OK.out.cok HE7.out (HNN.out (by first | rfl | trivial))) ?_; rintro _ w8 ⟨rfl, v8, H8, M8⟩; rw [(step_bus R.c R.m R.t hs2 HJ3.out).1, (step_bus R.c R.m R.t hs2 HJ3.out).2] at H8; have ha := Hold.other HR7.out.hold KB7.out (by decide) (by decide) (by decide); have KB8 := (M8.keep _ KB7.out.lt ha.1 ha.2.1 ha.2.2).trans KB7.out; have HR8 := HR7.out.move H8 M8; go_wp2_with fail; first | (exact ⟨v8, ⟨_, _, _, R.st, R.cs, false⟩, 10 * k + 10, HR8.jamTo false, rfl, rfl, by omega, KB8, by rw [HUN2.out]; rfl⟩) | ((repeat apply Exists.intro); refine ⟨?_, rfl⟩; exact ⟨v8, ⟨_, _, _, R.st, R.cs, false⟩, 10 * k + 10, HR8.jamTo false, rfl, rfl, by omega, KB8, by rw [HUN2.out]; rfl⟩))); go_wp2_with fail; first | (exact ⟨_, { R with jam := true }, 10 * k, (HR7.out.putJ true).jamTo true, rfl, rfl, by omega, KB7.out.far (fun e => by have := (Hold.other HR7.out.hold KB7.out (by decide) (by decide) (by decide)); have hq := blk_ne KB7.out HR7.out.out (by decide); exact hq e), by rw [HUN2.out]; rfl⟩) | ((repeat apply Exists.intro); refine ⟨?_, rfl⟩; exact ⟨_, { R with jam := true }, 10 * k, (HR7.out.putJ true).jamTo true, rfl, rfl, by omega, KB7.out.far (fun e => by have := (Hold.other HR7.out.hold KB7.out (by decide) (by decide) (by decide)); have hq := blk_ne KB7.out HR7.out.out (by decide); exact hq e), by rw [HUN2.out]; rfl⟩)
  cases i3
  rotate_left
  · have HUN2 : Aside0 (unitN E k R = if j3 then { R with jam := true } else R.go (step R.c R.m)) := ⟨by rw [HUN.out, HI3.out]; rfl⟩
    go_upto_region 13 with (fail); refine wp_normal (runReg13 w6 g r cap R.m R.c.PC j3 e11 e4 (fun W hW => hjm _ _ W ((Hold.bs HR6.out.hold).below hW) (EnvL.env (EnvL.below (EnvL.below he1 HR6.out.below) (hW.mono HR6.out.size)))) _ _ _ _ _ _ _ _ _ _ _ _ _ _ _ _ _ _ _ _ _ _ _ _ _ _ _ _ _ _ _ _ _ _ _ _ _ _ _ _ _ _ _ _ _ _ _ _ _ _ _ _ _ _ _ _ _ _ _ _ _ _ _ _ _ _ _ _ _ _ _ _ _ _ _ _ _ _ _ _ _ _ _ _ _ _ _ _ _ _ _ _ _ _ _ _ _ _ _ _ _ _ _ _ _ _ _ _ _ _ _ _ _ _) ?_; rintro _ w7 ⟨hb, u73, u74, u75, u76, u77, u78, u79, u80, u81, u82, rfl⟩; have KB7 := Aside0.mk (KB.out.below hb); have HR7 := Aside0.mk (HR6.out.wait hb); have hg7 : g < w7.heap.size := Nat.lt_of_lt_of_le hlt1 hb.size; clear hb e4 e11 HR6 KB HBr hfz; have HBr := Aside0.mk (below_step (w := w) HBw1.out HR7.out.below); have HE7 := Aside0.mk (EnvL.below he1 HR7.out.below); obtain ⟨oc, of, ol⟩ := HR7.out.outFacts; have o15 : w7.cell? ⟨b, 15, none⟩ = some (.bool false) := oc 15; have f15 := of 15; clear oc of; cases j3; (focus (go_wp2_with fail; refine Calls.mono (impl_step (w := w7) (L := ⟨w1.heap.size, g, r, cap⟩) HR7.out.hold (by omega) OK.out.cok HE7.out (HNN.out (by first | rfl | trivial))) ?_; rintro _ w8 ⟨rfl, v8, H8, M8⟩; rw [(step_bus R.c R.m R.t hs2 HJ3.out).1, (step_bus R.c R.m R.t hs2 HJ3.out).2] at H8; have ha := Hold.other HR7.out.hold KB7.out (by decide) (by decide) (by decide); have KB8 := (M8.keep _ KB7.out.lt ha.1 ha.2.1 ha.2.2).trans KB7.out; have HR8 := HR7.out.move H8 M8; go_wp2_with fail; first | (exact ⟨v8, ⟨_, _, _, R.st, R.cs, false⟩, 10 * k + 10, HR8.jamTo false, rfl, rfl, by omega, KB8, by rw [HUN2.out]; rfl⟩) | ((repeat apply Exists.intro); refine ⟨?_, rfl⟩; exact ⟨v8, ⟨_, _, _, R.st, R.cs, false⟩, 10 * k + 10, HR8.jamTo false, rfl, rfl, by omega, KB8, by rw [HUN2.out]; rfl⟩))); go_wp2_with fail; first | (exact ⟨_, { R with jam := true }, 10 * k, (HR7.out.putJ true).jamTo true, rfl, rfl, by omega, KB7.out.far (fun e => by have := (Hold.other HR7.out.hold KB7.out (by decide) (by decide) (by decide)); have hq := blk_ne KB7.out HR7.out.out (by decide); exact hq e), by rw [HUN2.out]; rfl⟩) | ((repeat apply Exists.intro); refine ⟨?_, rfl⟩; exact ⟨_, { R with jam := true }, 10 * k, (HR7.out.putJ true).jamTo true, rfl, rfl, by omega, KB7.out.far (fun e => by have := (Hold.other HR7.out.hold KB7.out (by decide) (by decide) (by decide)); have hq := blk_ne KB7.out HR7.out.out (by decide); exact hq e), by rw [HUN2.out]; rfl⟩)
  · go_wp2_with fail
    refine Calls.mono (impl_serve false (w := w6) (L := ⟨w1.heap.size, g, r, cap⟩) HR6.out.hold (by omega) OK.out.cok) ?_
    rintro _ w7 ⟨rfl, v7, H7, M7⟩
    rw [(serve_bus R.c R.m R.t false hs2).1, (serve_bus R.c R.m R.t false hs2).2] at H7
    have ha := Hold.other HR6.out.hold KB.out (by decide) (by decide) (by decide)
    have KB7 := (M7.keep _ KB.out.lt ha.1 ha.2.1 ha.2.2).trans KB.out
    have HR7 := HR6.out.move H7 M7
    go_wp2_with fail
    repeat apply Exists.intro
    refine ⟨?_, rfl⟩
    exact ⟨v7, ⟨_, _, _, R.st, R.cs, false⟩, 10 * k + 7, HR7.jamTo false, rfl, rfl, by omega, KB7, by rw [HUN.out, HI3.out]; rfl⟩
end Go.Proofs.YtoncmhfmkfeolaaDoor
