/- impl.Run's region 18: what is handed back is filled in; what a run hands back. -/
import Derived.Test.YtoncmhfmkfeolaaDoorRunQ
set_option linter.unusedVariables false
set_option linter.unusedSimpArgs false
namespace Go.Proofs.YtoncmhfmkfeolaaDoor
open Go.RowKit Go.Proofs.YtoncmhfmkfeolaaDoorW.PrintWords
theorem shot13 {w : World} {g : Nat} {t : TypeId} {us up a1 a2 : Value} {j : Bool} (d : Cpu) (h : Blk w g #[.int .u8 0, .int .u8 0, .int .u8 0, .int .u8 0, .int .u16 0, .bool false, .bool false, .bool false, .bool false, .bool false, .bool false, .slice none 0 0, .slice none 0 0, us, up, .bool j] t) :
    Blk (((((((((((((w.setCell ⟨g, 0, none⟩ (.int .u8 d.A)).setCell ⟨g, 1, none⟩ (.int .u8 d.X)).setCell ⟨g, 2, none⟩ (.int .u8 d.Y)).setCell ⟨g, 3, none⟩ (.int .u8 d.S)).setCell ⟨g, 4, none⟩ (.int .u16 d.PC)).setCell ⟨g, 5, none⟩ (.bool d.F.N)).setCell ⟨g, 6, none⟩ (.bool d.F.V)).setCell ⟨g, 7, none⟩ (.bool d.F.D)).setCell ⟨g, 8, none⟩ (.bool d.F.I)).setCell ⟨g, 9, none⟩ (.bool d.F.Z)).setCell ⟨g, 10, none⟩ (.bool d.F.C)).setCell ⟨g, 11, none⟩ a1).setCell ⟨g, 12, none⟩ a2) g #[.int .u8 d.A, .int .u8 d.X, .int .u8 d.Y, .int .u8 d.S, .int .u16 d.PC, .bool d.F.N, .bool d.F.V, .bool d.F.D, .bool d.F.I, .bool d.F.Z, .bool d.F.C, a1, a2, us, up, .bool j] t := by
  have h : Blk (w.setCell ⟨g, 0, none⟩ (.int .u8 d.A)) g #[(.int .u8 d.A), (.int .u8 0), (.int .u8 0), (.int .u8 0), (.int .u16 0), (.bool false), (.bool false), (.bool false), (.bool false), (.bool false), (.bool false), (.slice none 0 0), (.slice none 0 0), us, up, .bool j] t := blk_set h 0 _
  generalize (w.setCell ⟨g, 0, none⟩ (.int .u8 d.A)) = w0 at h ⊢
  have h : Blk (w0.setCell ⟨g, 1, none⟩ (.int .u8 d.X)) g #[(.int .u8 d.A), (.int .u8 d.X), (.int .u8 0), (.int .u8 0), (.int .u16 0), (.bool false), (.bool false), (.bool false), (.bool false), (.bool false), (.bool false), (.slice none 0 0), (.slice none 0 0), us, up, .bool j] t := blk_set h 1 _
  generalize (w0.setCell ⟨g, 1, none⟩ (.int .u8 d.X)) = w1 at h ⊢
  have h : Blk (w1.setCell ⟨g, 2, none⟩ (.int .u8 d.Y)) g #[(.int .u8 d.A), (.int .u8 d.X), (.int .u8 d.Y), (.int .u8 0), (.int .u16 0), (.bool false), (.bool false), (.bool false), (.bool false), (.bool false), (.bool false), (.slice none 0 0), (.slice none 0 0), us, up, .bool j] t := blk_set h 2 _
  generalize (w1.setCell ⟨g, 2, none⟩ (.int .u8 d.Y)) = w2 at h ⊢
  have h : Blk (w2.setCell ⟨g, 3, none⟩ (.int .u8 d.S)) g #[(.int .u8 d.A), (.int .u8 d.X), (.int .u8 d.Y), (.int .u8 d.S), (.int .u16 0), (.bool false), (.bool false), (.bool false), (.bool false), (.bool false), (.bool false), (.slice none 0 0), (.slice none 0 0), us, up, .bool j] t := blk_set h 3 _
  generalize (w2.setCell ⟨g, 3, none⟩ (.int .u8 d.S)) = w3 at h ⊢
  have h : Blk (w3.setCell ⟨g, 4, none⟩ (.int .u16 d.PC)) g #[(.int .u8 d.A), (.int .u8 d.X), (.int .u8 d.Y), (.int .u8 d.S), (.int .u16 d.PC), (.bool false), (.bool false), (.bool false), (.bool false), (.bool false), (.bool false), (.slice none 0 0), (.slice none 0 0), us, up, .bool j] t := blk_set h 4 _
  generalize (w3.setCell ⟨g, 4, none⟩ (.int .u16 d.PC)) = w4 at h ⊢
  have h : Blk (w4.setCell ⟨g, 5, none⟩ (.bool d.F.N)) g #[(.int .u8 d.A), (.int .u8 d.X), (.int .u8 d.Y), (.int .u8 d.S), (.int .u16 d.PC), (.bool d.F.N), (.bool false), (.bool false), (.bool false), (.bool false), (.bool false), (.slice none 0 0), (.slice none 0 0), us, up, .bool j] t := blk_set h 5 _
  generalize (w4.setCell ⟨g, 5, none⟩ (.bool d.F.N)) = w5 at h ⊢
  have h : Blk (w5.setCell ⟨g, 6, none⟩ (.bool d.F.V)) g #[(.int .u8 d.A), (.int .u8 d.X), (.int .u8 d.Y), (.int .u8 d.S), (.int .u16 d.PC), (.bool d.F.N), (.bool d.F.V), (.bool false), (.bool false), (.bool false), (.bool false), (.slice none 0 0), (.slice none 0 0), us, up, .bool j] t := blk_set h 6 _
  generalize (w5.setCell ⟨g, 6, none⟩ (.bool d.F.V)) = w6 at h ⊢
  have h : Blk (w6.setCell ⟨g, 7, none⟩ (.bool d.F.D)) g #[(.int .u8 d.A), (.int .u8 d.X), (.int .u8 d.Y), (.int .u8 d.S), (.int .u16 d.PC), (.bool d.F.N), (.bool d.F.V), (.bool d.F.D), (.bool false), (.bool false), (.bool false), (.slice none 0 0), (.slice none 0 0), us, up, .bool j] t := blk_set h 7 _
  generalize (w6.setCell ⟨g, 7, none⟩ (.bool d.F.D)) = w7 at h ⊢
  have h : Blk (w7.setCell ⟨g, 8, none⟩ (.bool d.F.I)) g #[(.int .u8 d.A), (.int .u8 d.X), (.int .u8 d.Y), (.int .u8 d.S), (.int .u16 d.PC), (.bool d.F.N), (.bool d.F.V), (.bool d.F.D), (.bool d.F.I), (.bool false), (.bool false), (.slice none 0 0), (.slice none 0 0), us, up, .bool j] t := blk_set h 8 _
  generalize (w7.setCell ⟨g, 8, none⟩ (.bool d.F.I)) = w8 at h ⊢
  have h : Blk (w8.setCell ⟨g, 9, none⟩ (.bool d.F.Z)) g #[(.int .u8 d.A), (.int .u8 d.X), (.int .u8 d.Y), (.int .u8 d.S), (.int .u16 d.PC), (.bool d.F.N), (.bool d.F.V), (.bool d.F.D), (.bool d.F.I), (.bool d.F.Z), (.bool false), (.slice none 0 0), (.slice none 0 0), us, up, .bool j] t := blk_set h 9 _
  generalize (w8.setCell ⟨g, 9, none⟩ (.bool d.F.Z)) = w9 at h ⊢
  have h : Blk (w9.setCell ⟨g, 10, none⟩ (.bool d.F.C)) g #[(.int .u8 d.A), (.int .u8 d.X), (.int .u8 d.Y), (.int .u8 d.S), (.int .u16 d.PC), (.bool d.F.N), (.bool d.F.V), (.bool d.F.D), (.bool d.F.I), (.bool d.F.Z), (.bool d.F.C), (.slice none 0 0), (.slice none 0 0), us, up, .bool j] t := blk_set h 10 _
  generalize (w9.setCell ⟨g, 10, none⟩ (.bool d.F.C)) = w10 at h ⊢
  have h : Blk (w10.setCell ⟨g, 11, none⟩ a1) g #[(.int .u8 d.A), (.int .u8 d.X), (.int .u8 d.Y), (.int .u8 d.S), (.int .u16 d.PC), (.bool d.F.N), (.bool d.F.V), (.bool d.F.D), (.bool d.F.I), (.bool d.F.Z), (.bool d.F.C), a1, (.slice none 0 0), us, up, .bool j] t := blk_set h 11 _
  generalize (w10.setCell ⟨g, 11, none⟩ a1) = w11 at h ⊢
  have h : Blk (w11.setCell ⟨g, 12, none⟩ a2) g #[(.int .u8 d.A), (.int .u8 d.X), (.int .u8 d.Y), (.int .u8 d.S), (.int .u16 d.PC), (.bool d.F.N), (.bool d.F.V), (.bool d.F.D), (.bool d.F.I), (.bool d.F.Z), (.bool d.F.C), a1, a2, us, up, .bool j] t := blk_set h 12 _
  exact h
theorem cells16 {w : World} {g : Nat} {t : TypeId} {a0 a1 a2 a3 a4 a5 a6 a7 a8 a9 a10 a11 a12 a13 a14 a15 : Value} (h : Blk w g #[a0, a1, a2, a3, a4, a5, a6, a7, a8, a9, a10, a11, a12, a13, a14, a15] t) : w.cell? ⟨g, 0, none⟩ = some a0 ∧ w.cell? ⟨g, 1, none⟩ = some a1 ∧ w.cell? ⟨g, 2, none⟩ = some a2 ∧ w.cell? ⟨g, 3, none⟩ = some a3 ∧ w.cell? ⟨g, 4, none⟩ = some a4 ∧ w.cell? ⟨g, 5, none⟩ = some a5 ∧ w.cell? ⟨g, 6, none⟩ = some a6 ∧ w.cell? ⟨g, 7, none⟩ = some a7 ∧ w.cell? ⟨g, 8, none⟩ = some a8 ∧ w.cell? ⟨g, 9, none⟩ = some a9 ∧ w.cell? ⟨g, 10, none⟩ = some a10 ∧ w.cell? ⟨g, 11, none⟩ = some a11 ∧ w.cell? ⟨g, 12, none⟩ = some a12 ∧ w.cell? ⟨g, 13, none⟩ = some a13 ∧ w.cell? ⟨g, 14, none⟩ = some a14 ∧ w.cell? ⟨g, 15, none⟩ = some a15 :=
  ⟨h.cell 0, h.cell 1, h.cell 2, h.cell 3, h.cell 4, h.cell 5, h.cell 6, h.cell 7, h.cell 8, h.cell 9, h.cell 10, h.cell 11, h.cell 12, h.cell 13, h.cell 14, h.cell 15⟩
def RunRet (r : Rs) (W w' : World) (e : Ending) : Prop := ∃ A1 c1 B1 d1 C1 e1 D1 f1, e = .returned (.agg #[.int .u8 r.c.A, .int .u8 r.c.X, .int .u8 r.c.Y, .int .u8 r.c.S, .int .u16 r.c.PC, .bool r.c.F.N, .bool r.c.F.V, .bool r.c.F.D, .bool r.c.F.I, .bool r.c.F.Z, .bool r.c.F.C, .slice A1 r.m.length c1, .slice B1 r.t.length d1, .slice C1 r.st.length e1, .slice D1 r.cs.length f1, .bool r.jam]) ∧
  OwnB w' W.heap.size (.slice A1 r.m.length c1) r.m ∧ OwnC w' W.heap.size (.slice B1 r.t.length d1) r.t ∧ OwnI w' W.heap.size (.slice C1 r.st.length e1) r.st ∧ OwnP w' W.heap.size (.slice D1 r.cs.length f1) r.cs ∧ Below W.heap.size W w'
theorem RunAt.own {w0 w W : World} {L : Lay} {v : Value} {g : Nat} {r : Rs} {n : Nat} {us up : Value} {j : Bool} (h : RunAt w0 w L v g r n us up us up j) (hk : ∀ k, L.base ≤ k → k ≠ g → W.heap[k]? = w.heap[k]?) :
    OwnB W L.base (.slice (some ⟨L.r, 0, none⟩) r.m.length L.cap) r.m ∧ OwnC W L.base v r.t ∧ OwnI W L.base us r.st ∧ OwnP W L.base up r.cs := by
  refine ⟨OwnB.move h.hold.mem (fun k e => ?_), OwnC.move h.hold.log (fun k e => ?_), h.st.keep (fun k e => ?_), h.cs.keep (fun k e => ?_)⟩
  · obtain ⟨c1, h1⟩ := Kd.R_typed h.hold.mem k e
    exact hk k (Kd.R_base h.hold.mem k e) (blk_ne h1 h.out (by decide))
  · obtain ⟨c1, h1⟩ := Kd.R_typed h.hold.log k e
    exact hk k (Kd.R_base h.hold.log k e) (blk_ne h1 h.out (by decide))
  · obtain ⟨c1, h1⟩ := Kd.R_typed h.st k e
    exact hk k (Kd.R_base h.st k e) (blk_ne h1 h.out (by decide))
  · obtain ⟨c1, h1⟩ := Kd.R_typed h.cs k e
    exact hk k (Kd.R_base h.cs k e) (blk_ne h1 h.out (by decide))
set_option maxRecDepth 100000 in
set_option maxHeartbeats 8000000 in
theorem runReg18 (w1 w8 : World) (base g r cap b m : Nat) (Aq : Option Addr) (dq : Nat) (q : Rs) (us up : Value) (j : Bool) (HQ : Aside0 (RunAt w1 w8 ⟨base, g, r, cap⟩ (.slice Aq q.t.length dq) b q m us up us up j))
    (s0 s1 s2 s3 s4 s5 s6 s7 s8 s11 s12 s13 s14 s15 s16 s17 s18 s19 s20 s21 s22 s23 s24 s25 s26 s27 s28 s29 s30 s31 s32 s33 s34 s35 s36 s37 s38 s39 s40 s41 s42 s43 s44 s45 s46 s47 s48 s49 s50 s51 s52 s53 s54 s55 s56 s57 s58 s59 s60 s61 s62 s63 s64 s65 s66 s67 s68 s69 s70 s71 s72 s73 s74 s75 s76 s77 s78 s79 s80 s81 s82 s83 s84 s85 s86 s87 s88 s89 s90 s91 s92 s93 s94 s95 s96 s97 s98 s99 s100 s101 s102 s103 s104 s105 s106 s107 s108 s109 s110 s111 s112 s113 s114 : Value) :
    Code.wp Tryd.prog ((Tryd.f8.body.bind (regOf 18)).getD .skip) (fun e a' w' => e = .normal ∧ ∃ u99 u100 u101 u102 u103 u104 u105 u106 u107 u108 u109 u110 u111 u112 u113, (Blk w' b #[.int .u8 q.c.A, .int .u8 q.c.X, .int .u8 q.c.Y, .int .u8 q.c.S, .int .u16 q.c.PC, .bool q.c.F.N, .bool q.c.F.V, .bool q.c.F.D, .bool q.c.F.I, .bool q.c.F.Z, .bool q.c.F.C, .slice (some ⟨r, 0, none⟩) q.m.length cap, .slice Aq q.t.length dq, us, up, .bool j] 38 ∧ (∀ k, k ≠ b → w'.heap[k]? = w8.heap[k]?) ∧ Below base w1 w' ∧ w'.heap.size = w8.heap.size) ∧ a' = ⟨List.toArray (s0 :: s1 :: s2 :: s3 :: s4 :: s5 :: s6 :: s7 :: s8 :: .pointer (some ⟨g, 0, none⟩) :: .pointer (some ⟨b, 0, none⟩) :: s11 :: s12 :: s13 :: s14 :: s15 :: s16 :: s17 :: s18 :: s19 :: s20 :: s21 :: s22 :: s23 :: s24 :: s25 :: s26 :: s27 :: s28 :: s29 :: s30 :: s31 :: s32 :: s33 :: s34 :: s35 :: s36 :: s37 :: s38 :: s39 :: s40 :: s41 :: s42 :: s43 :: s44 :: s45 :: s46 :: s47 :: s48 :: s49 :: s50 :: s51 :: s52 :: s53 :: s54 :: s55 :: s56 :: s57 :: s58 :: s59 :: s60 :: s61 :: s62 :: s63 :: s64 :: s65 :: s66 :: s67 :: s68 :: s69 :: s70 :: s71 :: s72 :: s73 :: s74 :: s75 :: s76 :: s77 :: s78 :: s79 :: s80 :: s81 :: s82 :: s83 :: s84 :: s85 :: s86 :: s87 :: s88 :: s89 :: s90 :: s91 :: s92 :: s93 :: s94 :: s95 :: s96 :: s97 :: s98 :: u99 :: u100 :: u101 :: u102 :: u103 :: u104 :: u105 :: u106 :: u107 :: u108 :: u109 :: u110 :: u111 :: u112 :: u113 :: s114 :: []), []⟩) ⟨List.toArray (s0 :: s1 :: s2 :: s3 :: s4 :: s5 :: s6 :: s7 :: s8 :: .pointer (some ⟨g, 0, none⟩) :: .pointer (some ⟨b, 0, none⟩) :: s11 :: s12 :: s13 :: s14 :: s15 :: s16 :: s17 :: s18 :: s19 :: s20 :: s21 :: s22 :: s23 :: s24 :: s25 :: s26 :: s27 :: s28 :: s29 :: s30 :: s31 :: s32 :: s33 :: s34 :: s35 :: s36 :: s37 :: s38 :: s39 :: s40 :: s41 :: s42 :: s43 :: s44 :: s45 :: s46 :: s47 :: s48 :: s49 :: s50 :: s51 :: s52 :: s53 :: s54 :: s55 :: s56 :: s57 :: s58 :: s59 :: s60 :: s61 :: s62 :: s63 :: s64 :: s65 :: s66 :: s67 :: s68 :: s69 :: s70 :: s71 :: s72 :: s73 :: s74 :: s75 :: s76 :: s77 :: s78 :: s79 :: s80 :: s81 :: s82 :: s83 :: s84 :: s85 :: s86 :: s87 :: s88 :: s89 :: s90 :: s91 :: s92 :: s93 :: s94 :: s95 :: s96 :: s97 :: s98 :: s99 :: s100 :: s101 :: s102 :: s103 :: s104 :: s105 :: s106 :: s107 :: s108 :: s109 :: s110 :: s111 :: s112 :: s113 :: s114 :: []), []⟩ w8 := by
  conv => arg 2; whnf
  obtain ⟨e0, e1, e2, e3, e4, e5, e6, e7, e8, e9, e10, e11, e12, hfz, hlt1⟩ := HQ.out.facts
  simp only [] at e0 e1 e2 e3 e4 e5 e6 e7 e8 e9 e10 e11 e12 hlt1
  obtain ⟨oc, of, ol⟩ := HQ.out.outFacts
  have o0 : w8.cell? ⟨b, 0, none⟩ = some (.int .u8 0) := oc 0
  have o1 : w8.cell? ⟨b, 1, none⟩ = some (.int .u8 0) := oc 1
  have o2 : w8.cell? ⟨b, 2, none⟩ = some (.int .u8 0) := oc 2
  have o3 : w8.cell? ⟨b, 3, none⟩ = some (.int .u8 0) := oc 3
  have o4 : w8.cell? ⟨b, 4, none⟩ = some (.int .u16 0) := oc 4
  have o5 : w8.cell? ⟨b, 5, none⟩ = some (.bool false) := oc 5
  have o6 : w8.cell? ⟨b, 6, none⟩ = some (.bool false) := oc 6
  have o7 : w8.cell? ⟨b, 7, none⟩ = some (.bool false) := oc 7
  have o8 : w8.cell? ⟨b, 8, none⟩ = some (.bool false) := oc 8
  have o9 : w8.cell? ⟨b, 9, none⟩ = some (.bool false) := oc 9
  have o10 : w8.cell? ⟨b, 10, none⟩ = some (.bool false) := oc 10
  have o11 : w8.cell? ⟨b, 11, none⟩ = some (.slice none 0 0) := oc 11
  have o12 : w8.cell? ⟨b, 12, none⟩ = some (.slice none 0 0) := oc 12
  have hbg : b ≠ g := HQ.out.outOther.1
  have hgb : g ≠ b := hbg.symm
  have HO := Aside0.mk HQ.out.out
  have HBW := Aside0.mk HQ.out.below
  have hbb := HQ.out.hg
  simp only [] at hbb HBW
  clear oc HQ
  go_region_held3 (fun w' => w'.cell? ⟨g, 0, none⟩ = some (.int .u8 q.c.A) ∧ w'.cell? ⟨g, 1, none⟩ = some (.int .u8 q.c.X) ∧ w'.cell? ⟨g, 2, none⟩ = some (.int .u8 q.c.Y) ∧ w'.cell? ⟨g, 3, none⟩ = some (.int .u8 q.c.S) ∧ w'.cell? ⟨g, 4, none⟩ = some (.int .u16 q.c.PC) ∧ w'.cell? ⟨g, 5, none⟩ = some (.bool q.c.F.N) ∧ w'.cell? ⟨g, 6, none⟩ = some (.bool q.c.F.V) ∧ w'.cell? ⟨g, 7, none⟩ = some (.bool q.c.F.D) ∧ w'.cell? ⟨g, 8, none⟩ = some (.bool q.c.F.I) ∧ w'.cell? ⟨g, 9, none⟩ = some (.bool q.c.F.Z) ∧ w'.cell? ⟨g, 10, none⟩ = some (.bool q.c.F.C) ∧ w'.cell? ⟨g, 11, none⟩ = some (.slice (some ⟨r, 0, none⟩) q.m.length cap) ∧ w'.cell? ⟨g, 12, none⟩ = some (.slice Aq q.t.length dq)) (first | (go_keep; done) | (go_split_ands; (repeat' apply And.intro) <;> (first | (with_reducible assumption) | (go_simp; done) | (exact cell_keep blw (by assumption)) | exact blw))) (first | fail)
  refine ⟨rfl, ?_⟩
  repeat apply Exists.intro
  refine ⟨⟨?_, ?_, ?_, ?_⟩, rfl⟩
  · exact (shot13 q.c HO.out).drew
  · intro k hk
    show Same w8 _ k
    (repeat (with_reducible first | exact Same.refl _ _ | refine Same.drew ?_ | refine Same.set ?_ hk))
  · (repeat (with_reducible first | exact HBW.out | refine below_drew ?_ | refine Below.setCell ?_ hbb _))
  · simp only [sC, sD]
end Go.Proofs.YtoncmhfmkfeolaaDoor
